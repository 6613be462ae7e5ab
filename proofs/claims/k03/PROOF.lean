import PyProof.Rows.All
import Wide.All
import OpenK.AllK
import Wide.FinOn
import HandS.ForMost
import HandS.Exc
import HandS.ExcOwn
import HandS.CallSlots
import HandS.TupAny
import HandS.Deep
import HandS.IsInst
import HandS.Codes
import HandS.Lambda
import PyProof.ReprLen
import KE.GoesNew
import KE.GoesEnum
import KE.GoesMore
import HandS.Star
import HandS.DeepEq
import HandS.OwnEq
import HandS.Steps
import HandS.TupLe
import HandS.Strs
import KE.DataMinMax
import KE.Datum
import KE.DatumOrd
import HandS.SortInts
import HandS.RaiseMore
import HandS.ExcInit
import HandS.Conv
import HandS.ExcField
import HandS.ExcIs
import KE.KExcIs
import HandS.EndBits
import HandS.EndTab
import HandS.EndOwn
import PySem.Challenge.RW_holegates_k03_tables_and_settings_by_num
import KE.BitLaws
set_option Elab.async false
set_option linter.all false
set_option maxRecDepth 100000
set_option maxHeartbeats 4000000
/-! ## IvA -/
/-! Iv: a small interpreter of plain data for the Python that this package and its laws are written in. Part A: data, programs, what they give. -/
namespace Iv
open PySem PySem.Spec PyProof.Rows L2

/-- the built-in types that isinstance is asked for -/
inductive Ty where
  | int | bool | str | list | tuple | dict | none
  deriving DecidableEq
def Ty.nm : Ty → String
  | .int => "int"
  | .bool => "bool"
  | .str => "str"
  | .list => "list"
  | .tuple => "tuple"
  | .dict => "dict"
  | .none => "NoneType"
/-- is a value of the first type one of the second -/
def Ty.sub : Ty → Ty → Bool
  | .bool, .int => true
  | a, b => decide (a = b)

/-- data: what a Python value is, its lists told as they stand; ref i is the i-th list that is still changed -/
inductive D where
  | non
  | bl (b : Bool)
  | int (i : Int)
  | str (x : Str)
  | tup (xs : List D)
  | lst (xs : List D)
  /-- a list that is read alone -/
  | sld (xs : List D)
  | dk (ks : List (Sum Int Str)) (vs : List D)
  | fn (i : Nat)
  | cls (i : Nat)
  | ty (t : Ty)
  /-- an instance, told: its class, its fields' names, what they hold -/
  | ins (c : Nat) (ns : List Str) (xs : List D)
  | ref (i : Nat)
  deriving Inhabited

mutual
/-- no changing list within -/
def gr : D → Bool
  | .tup xs => grs xs
  | .lst xs => grs xs
  | .sld xs => grs xs
  | .dk _ xs => grs xs
  | .ins _ _ xs => grs xs
  | .ref _ => false
  | _ => true
def grs : List D → Bool
  | [] => true
  | x :: xs => gr x && grs xs
end

/-- what stands in the store -/
inductive Cell where
  | lst (xs : List D)
  | dk (kvs : List (Sum Int Str × D))
  | ins (c : Nat) (fs : List (Str × D))
abbrev Mem := List Cell
abbrev Rho := List (Option D)

inductive Res where
  | ok (d : D) (M : Mem)
  | exn (c : Nat) (fs : List D) (M : Mem)
  | stuck
def Res.bind (r : Res) (k : D → Mem → Res) : Res := match r with
  | .ok d M => k d M
  | .exn c fs M => .exn c fs M
  | .stuck => .stuck
/-- as bind, where no exception may pass -/
def Res.bindS (r : Res) (k : D → Mem → Res) : Res := match r with
  | .ok d M => k d M
  | _ => .stuck

/-- the longest list that is made here -/
def lim : Nat := 1000000

def listOf (M : Mem) : D → Option (List D)
  | .lst xs => some xs
  | .sld xs => some xs
  | .ref i => match M[i]? with
    | some (.lst xs) => some xs
    | _ => none
  | _ => none
/-- a list that is tracked -/
def trkOf (M : Mem) : D → Option (List D)
  | .lst xs => some xs
  | .ref i => match M[i]? with
    | some (.lst xs) => some xs
    | _ => none
  | _ => none
def seqOf (M : Mem) : D → Option (List D)
  | .tup xs => some xs
  | d => listOf M d
def strsOf : List D → Option (List Str)
  | [] => some []
  | .str x :: r => match strsOf r with
    | some xs => some (x :: xs)
    | none => none
  | _ => none
/-- the signs of a text -/
def charsD (x : Str) : List D := x.cps.toList.map fun c => .str ⟨#[c]⟩
def chrOf (x : Str) : Option Nat := match x.cps.toList with
  | [c] => some c
  | _ => none
/-- an instance: its class, its fields -/
def insOf (M : Mem) : D → Option (Nat × List (Str × D))
  | .ins c ns xs => some (c, ns.zip xs)
  | .ref i => match M[i]? with
    | some (.ins c fs) => some (c, fs)
    | _ => none
  | _ => none
def putFD (f : Str) (d : D) : List (Str × D) → List (Str × D)
  | [] => [(f, d)]
  | (g, x) :: r => if g = f then (g, d) :: r else (g, x) :: putFD f d r
/-- a new list: told as it stands, or laid into the store -/
def mk (m : Bool) (xs : List D) (M : Mem) : Res :=
  match m with
  | false => .ok (.lst xs) M
  | true => if grs xs = true then .ok (.ref M.length) (M ++ [.lst xs]) else .stuck

mutual
def toP : D → Option PyData
  | .non => some .none
  | .bl b => some (.bool b)
  | .int i => some (.int i)
  | .str x => some (.str x)
  | .tup xs => match toPs xs with
    | some ps => some (.tuple ps)
    | none => none
  | .lst xs => match toPs xs with
    | some ps => some (.list ps)
    | none => none
  | _ => none
def toPs : List D → Option (List PyData)
  | [] => some []
  | x :: xs => match toP x, toPs xs with
    | some p, some ps => some (p :: ps)
    | _, _ => none
end
def datOf (M : Mem) (d : D) : Option PyData := match d with
  | .ref i => match M[i]? with
    | some (.lst xs) => match toPs xs with
      | some ps => some (.list ps)
      | none => none
    | _ => none
  | d => toP d
def eqD (M : Mem) (x y : D) : Option Bool := match datOf M x, datOf M y with
  | some p, some q => if SeqAt.shaped p = true ∧ SeqAt.shaped q = true then some (PyData.eqv p q) else none
  | _, _ => none
def eqB (M : Mem) (x y : D) : Option Bool := match x, y with
  | .str a, .str b => some (a == b)
  | x, y => eqD M x y

/-- flat values -/
def flatD : D → Bool
  | .non => true
  | .bl _ => true
  | .int _ => true
  | .str _ => true
  | _ => false
def eqF : D → D → Bool
  | .non, .non => true
  | .bl a, .bl b => a == b
  | .bl a, .int b => (if a then 1 else 0) == b
  | .int a, .bl b => a == (if b then 1 else 0)
  | .int a, .int b => a == b
  | .str a, .str b => a == b
  | _, _ => false
def inB (M : Mem) (x y : D) : Option Bool := match seqOf M y with
  | some ys => if flatD x = true ∧ ys.all flatD = true then some (ys.any fun y => eqF y x) else none
  | none => match x, y with
    | .str a, .str z => match chrOf a with
      | some c => some (decide (c ∈ z.cps.toList))
      | none => none
    | _, _ => none

/-- dicts whose keys are numbers and texts -/
def keyD : D → Option (Sum Int Str)
  | .int i => some (.inl i)
  | .str x => some (.inr x)
  | _ => none
def hasK (kvs : List (Sum Int Str × D)) (k : Sum Int Str) : Bool := kvs.any fun kv => decide (kv.1 = k)
def setK (kvs : List (Sum Int Str × D)) (k : Sum Int Str) (d : D) : List (Sum Int Str × D) :=
  if hasK kvs k = true then kvs.map (fun kv => if kv.1 = k then (kv.1, d) else kv) else kvs ++ [(k, d)]
def dkOf (M : Mem) : D → Option (List (Sum Int Str × D))
  | .dk ks vs => some (ks.zip vs)
  | .ref i => match M[i]? with
    | some (.dk kvs) => some kvs
    | _ => none
  | _ => none
def getK (kvs : List (Sum Int Str × D)) (k : Sum Int Str) : Option D := (kvs.find? fun kv => decide (kv.1 = k)).map (·.2)
/-- in: a dict's keys, a list's or a tuple's items -/
def memB (M : Mem) (x y : D) : Option Bool := match dkOf M y with
  | some kvs => match keyD x with
    | some k => some (hasK kvs k)
    | none => none
  | none => inB M x y

/-- a text many times -/
def rptS (x : Str) (k : Nat) : Str := ⟨(List.replicate k x.cps).foldl (· ++ ·) #[]⟩
inductive BO where
  | add | sub | mul | fdiv | mod | pow | shl | shr | band
  deriving DecidableEq
def bop (o : BO) (x y : D) (M : Mem) : Res := match o, x, y with
  | .add, .int i, .int j => .ok (.int (i + j)) M
  | .add, .str a, .str b => if a.length + b.length ≤ lim then .ok (.str (a ++ b)) M else .stuck
  | .add, .tup a, .tup b => if a.length + b.length ≤ lim then .ok (.tup (a ++ b)) M else .stuck
  | .add, x, y => match trkOf M x, trkOf M y with
    | some xs, some ys => if xs.length + ys.length ≤ lim then .ok (.lst (xs ++ ys)) M else .stuck
    | _, _ => .stuck
  | .sub, .int i, .int j => .ok (.int (i - j)) M
  | .mul, .int i, .int j => if (-(2 ^ 64) < i ∧ i < 2 ^ 64) ∨ (-(2 ^ 64) < j ∧ j < 2 ^ 64) then .ok (.int (i * j)) M else .stuck
  | .mul, .str a, .int j => if 0 ≤ j ∧ j ≤ lim ∧ a.length * j.toNat ≤ lim then .ok (.str (rptS a j.toNat)) M else .stuck
  | .fdiv, .int i, .int j => if 0 < j ∧ j < 1073741824 then .ok (.int (i / j)) M else .stuck
  | .mod, .int i, .int j => if 0 < j then .ok (.int (i % j)) M else .stuck
  | .pow, .int i, .int j => if 0 ≤ j ∧ j ≤ 1000000 ∧ i.natAbs < 2 ^ 64 then .ok (.int (i ^ j.toNat)) M else .stuck
  | .shl, .int i, .int j => if 0 ≤ j ∧ j ≤ 1000000 ∧ i.natAbs < 2 ^ 64 then .ok (.int (i * 2 ^ j.toNat)) M else .stuck
  | .shr, .int i, .int j => if 0 ≤ j then .ok (.int (i / 2 ^ j.toNat)) M else .stuck
  | .band, .int i, .int j => .ok (.int (Builtin.bitAnd i j)) M
  | _, _, _ => .stuck
/-- a list many times -/
def rep (m : Bool) (x y : D) (M : Mem) : Res := match trkOf M x, y with
  | some xs, .int k => if -(2 ^ 63) ≤ k ∧ k < 2 ^ 63 ∧ xs.length * k.toNat ≤ lim then mk m (List.replicate k.toNat xs).flatten M else .stuck
  | _, _ => .stuck

mutual
/-- the very same, all the way down -/
def sameD : D → D → Bool
  | .non, y => match y with
    | .non => true
    | _ => false
  | .bl a, y => match y with
    | .bl b => a == b
    | _ => false
  | .int i, y => match y with
    | .int j => decide (i = j)
    | _ => false
  | .str a, y => match y with
    | .str b => decide (a = b)
    | _ => false
  | .tup xs, y => match y with
    | .tup ys => sameDs xs ys
    | _ => false
  | .lst xs, y => match y with
    | .lst ys => sameDs xs ys
    | _ => false
  | .dk ks vs, y => match y with
    | .dk ls ws => decide (ks = ls) && decide ks.Nodup && sameDs vs ws
    | _ => false
  | _, _ => false
def sameDs : List D → List D → Bool
  | [], ys => ys.isEmpty
  | x :: xs, ys => match ys with
    | y :: ys => sameD x y && sameDs xs ys
    | [] => false
end
mutual
def dpD : D → Nat
  | .tup xs => dpDs xs + 1
  | .lst xs => dpDs xs + 1
  | .dk _ xs => dpDs xs + 1
  | _ => 1
def dpDs : List D → Nat
  | [] => 0
  | x :: xs => max (dpD x) (dpDs xs)
end
/-- two lists that are the very same -/
def eqS (M : Mem) (x y : D) : Option Bool := match trkOf M x, trkOf M y with
  | some xs, some ys => if sameDs xs ys = true ∧ dpDs xs ≤ 50 then some true else none
  | _, _ => none
inductive CO where
  | eq | ne | lt | le | gt | ge | mem | nmem | isn | nisn
  deriving DecidableEq
def isNonD : D → Bool
  | .non => true
  | _ => false
def cmpB (o : CO) (x y : D) (M : Mem) : Option Bool := match o, x, y with
  | .eq, x, y => match eqB M x y with
    | some b => some b
    | none => eqS M x y
  | .ne, x, y => match eqB M x y with
    | some b => some (!b)
    | none => none
  | .lt, .int i, .int j => some (decide (i < j))
  | .le, .int i, .int j => some (decide (i ≤ j))
  | .gt, .int i, .int j => some (decide (j < i))
  | .ge, .int i, .int j => some (decide (j ≤ i))
  | .mem, x, y => memB M x y
  | .nmem, x, y => match memB M x y with
    | some b => some (!b)
    | none => none
  | .isn, x, .non => some (isNonD x)
  | .nisn, x, .non => some (!isNonD x)
  | .isn, .bl a, .bl b => some (decide (a = b))
  | .nisn, .bl a, .bl b => some (!decide (a = b))
  | _, _, _ => none
def cop (o : CO) (x y : D) (M : Mem) : Res := match cmpB o x y M with
  | some b => .ok (.bl b) M
  | none => .stuck

/-- the type of a value, told for isinstance -/
def tyOf (M : Mem) : D → Option Ty
  | .non => some .none
  | .bl _ => some .bool
  | .int _ => some .int
  | .str _ => some .str
  | .tup _ => some .tuple
  | .lst _ => some .list
  | .dk _ _ => some .dict
  | .ref i => match M[i]? with
    | some (.lst _) => some .list
    | _ => none
  | _ => none

/-- built-in functions -/
inductive BF where
  | str | len | tuple | list (m : Bool) | int | abs | sum | all | any | isi | repr | max | min | sorted (m : Bool)
def intsOf : List D → Option (List Int)
  | [] => some []
  | .int i :: r => match intsOf r with
    | some is => some (i :: is)
    | none => none
  | _ => none
def blsOf : List D → Option (List Bool)
  | [] => some []
  | .bl b :: r => match blsOf r with
    | some bs => some (b :: bs)
    | none => none
  | _ => none
def tysOf : List D → Option (List Ty)
  | [] => some []
  | .ty t :: r => match tysOf r with
    | some ts => some (t :: ts)
    | none => none
  | _ => none
/-- a list or tuple by its address -/
def isSeqD : D → Bool
  | .tup _ => true
  | .lst _ => true
  | .ref _ => true
  | _ => false
/-- may it be shown -/
def showB (d : D) (p : PyData) : Bool := isSeqD d && p.showable && !p.hasDict && decide (p.depth ≤ 64) && p.leavesShort 12 && decide (14 * p.weight + 12 ≤ lim)
def insS (x : Int) : List Int → List Int
  | [] => [x]
  | y :: ys => if x ≤ y then x :: y :: ys else y :: insS x ys
def isort : List Int → List Int
  | [] => []
  | x :: xs => insS x (isort xs)
def bfn (f : BF) (ds : List D) (M : Mem) : Res := match f, ds with
  | .str, [.int i] => if i.natAbs < 2 ^ 64 then .ok (.str (toString i)) M else .stuck
  | .str, [.str x] => .ok (.str x) M
  | .len, [.str x] => if x.length ≤ lim then .ok (.int x.length) M else .stuck
  | .len, [d] => match seqOf M d with
    | some xs => .ok (.int xs.length) M
    | none => .stuck
  | .tuple, [.tup xs] => .ok (.tup xs) M
  | .tuple, [d] => match listOf M d with
    | some xs => .ok (.tup xs) M
    | none => .stuck
  | .list m, [d] => match seqOf M d with
    | some xs => mk m xs M
    | none => .stuck
  | .int, [.int i] => .ok (.int i) M
  | .int, [.bl b] => .ok (.int (if b then 1 else 0)) M
  | .int, [.str x] => match PySem.intText? x with
    | some n => if x.length ≤ 640 then .ok (.int n) M else .stuck
    | none => .stuck
  | .abs, [.int i] => .ok (.int (if i < 0 then -i else i)) M
  | .sum, [d] => match listOf M d with
    | some xs => match intsOf xs with
      | some is => .ok (.int is.sum) M
      | none => .stuck
    | none => .stuck
  | .all, [d] => match listOf M d with
    | some xs => match blsOf xs with
      | some bs => .ok (.bl (bs.all id)) M
      | none => .stuck
    | none => .stuck
  | .any, [d] => match listOf M d with
    | some xs => match blsOf xs with
      | some bs => .ok (.bl (bs.any id)) M
      | none => .stuck
    | none => .stuck
  | .isi, [d, .ty t] => match tyOf M d with
    | some u => .ok (.bl (u.sub t)) M
    | none => .stuck
  | .isi, [d, .tup ts] => match tyOf M d, tysOf ts with
    | some u, some cs => .ok (.bl (cs.any fun t => u.sub t)) M
    | _, _ => .stuck
  | .repr, [d] => match datOf M d with
    | some p => if showB d p = true then .ok (.str p.shown) M else .stuck
    | none => .stuck
  | .max, [.int i, .int j] => .ok (.int (if j > i then j else i)) M
  | .max, [d] => match seqOf M d with
    | some xs => match intsOf xs with
      | some (i :: is) => .ok (.int (is.foldl Max.max i)) M
      | _ => .stuck
    | none => .stuck
  | .min, [.int i, .int j] => .ok (.int (if j < i then j else i)) M
  | .min, [d] => match seqOf M d with
    | some xs => match intsOf xs with
      | some (i :: is) => .ok (.int (is.foldl Min.min i)) M
      | _ => .stuck
    | none => .stuck
  | .sorted m, [d] => match listOf M d with
    | some xs => match intsOf xs with
      | some is => mk m ((isort is).map D.int) M
      | none => .stuck
    | none => .stuck
  | _, _ => .stuck

/-- methods of built-in types -/
inductive MF where
  | append | popAt | index | insert | extend
def setCell (M : Mem) (i : Nat) (xs : List D) : Mem := M.set i (.lst xs)
def firstAt (x : D) : List D → Nat → Option Nat
  | [], _ => none
  | y :: ys, k => if eqF y x = true then some k else firstAt x ys (k + 1)
def mfn (f : MF) (o : D) (ds : List D) (M : Mem) : Res := match f, o, ds with
  | .append, .ref i, [d] => match M[i]? with
    | some (.lst xs) => if xs.length < lim ∧ gr d = true then .ok .non (setCell M i (xs ++ [d])) else .stuck
    | _ => .stuck
  | .popAt, .ref i, [.int j] => match M[i]? with
    | some (.lst xs) => if 0 ≤ j then match xs[j.toNat]? with
      | some d => .ok d (setCell M i (xs.eraseIdx j.toNat))
      | none => .stuck else .stuck
    | _ => .stuck
  | .insert, .ref i, [.int j, d] => match M[i]? with
    | some (.lst xs) => if 0 ≤ j ∧ j < 2 ^ 62 ∧ xs.length < lim ∧ gr d = true then .ok .non (setCell M i (xs.take j.toNat ++ [d] ++ xs.drop j.toNat)) else .stuck
    | _ => .stuck
  | .extend, .ref i, [d] => match M[i]?, trkOf M d with
    | some (.lst xs), some ys => if xs.length + ys.length ≤ lim ∧ grs ys = true then .ok .non (setCell M i (xs ++ ys)) else .stuck
    | _, _ => .stuck
  | .index, d, [x] => match listOf M d with
    | some xs => if flatD x = true ∧ xs.all flatD = true then match firstAt x xs 0 with
      | some k => .ok (.int k) M
      | none => .stuck else .stuck
    | none => .stuck
  | _, _, _ => .stuck

/-- methods of texts -/
inductive SF where
  | join | split (m : Bool)
def sfn (f : SF) (o : D) (ds : List D) (M : Mem) : Res := match f, o, ds with
  | .join, .str a, [d] => match seqOf M d with
    | some xs => match strsOf xs with
      | some ys => if (ys.map (·.length)).sum + ys.length * a.length ≤ lim then .ok (.str (Txt.join a ys)) M else .stuck
      | none => .stuck
    | none => .stuck
  | .split m, .str a, [.str b] => if (b.length == 0) = false ∧ a.length + 2 ≤ lim ∧ (Txt.split a b).length ≤ lim then mk m ((Txt.split a b).map D.str) M else .stuck
  | _, _, _ => .stuck
/-- t.index(x), t a constant tuple -/
def cidxf (t : D) (ds : List D) (M : Mem) : Res := match t, ds with
  | .tup xs, [x] => if flatD x = true ∧ xs.all flatD = true then match firstAt x xs 0 with
    | some k => .ok (.int k) M
    | none => .stuck else .stuck
  | _, _ => .stuck
/-- d[k], text[i] -/
def ixO (x y : D) (M : Mem) : Res := match dkOf M x, keyD y with
  | some kvs, some k => match getK kvs k with
    | some d => .ok d M
    | none => .stuck
  | _, _ => match x, y with
    | .str z, .int i => if z.length ≤ lim then match atI z.cps.toList i with
      | some c => .ok (.str ⟨#[c]⟩) M
      | none => .stuck else .stuck
    | _, _ => .stuck
/-- xs[i] -/
def ixf (x y : D) (M : Mem) : Res := match y with
  | .int i => match seqOf M x with
    | some xs => match atI xs i with
      | some d => .ok d M
      | none => .stuck
    | none => ixO x y M
  | _ => ixO x y M
def cutD (xs : List D) (lo hi : Option Int) : List D := (xs.drop (HT.sIx xs.length 0 lo)).take (HT.sIx xs.length xs.length hi - HT.sIx xs.length 0 lo)
def ptOf : D → Option (Option Int)
  | .non => some none
  | .int i => some (some i)
  | _ => none
/-- xs[lo:hi] -/
def slf (x lo hi : D) (M : Mem) : Res := match ptOf lo, ptOf hi with
  | some l, some h => match x with
    | .tup xs => .ok (.tup (cutD xs l h)) M
    | .str z => if z.length ≤ lim then .ok (.str (Txt.slice z l h)) M else .stuck
    | x => match listOf M x with
      | some xs => .ok (.lst (cutD xs l h)) M
      | none => .stuck
  | _, _ => .stuck

/-- targets -/
inductive CT where
  | nm (i : Nat)
  | nil
  | cons (a r : CT)
  | tp (l : CT)
def CT.isNil : CT → Bool
  | .nil => true
  | _ => false
/-- a target takes a value; a list of targets the items of a tuple -/
def asg : CT → D → Rho → Option Rho
  | .nm i, d, r => if i < r.length then some (r.set i (some d)) else none
  | .tp l, .tup xs, r => asg l (.tup xs) r
  | .nil, .tup [], r => some r
  | .cons a l, .tup (x :: xs), r => match asg a x r with
    | some r' => asg l (.tup xs) r'
    | none => none
  | _, _, _ => none
/-- the places of a target -/
def CT.ixs : CT → List Nat
  | .nm i => [i]
  | .nil => []
  | .cons a l => a.ixs ++ l.ixs
  | .tp l => l.ixs
def wipeR (r : Rho) : List Nat → Rho
  | [] => r
  | v :: vs => (wipeR r vs).set v none

/-- what a loop walks -/
inductive Src where
  | fix (xs : List D)
  | cell (i : Nat)
/-- at a turn: none: stuck; some none: the end -/
def Src.at (s : Src) (M : Mem) (k : Nat) : Option (Option D) := match s with
  | .fix xs => some xs[k]?
  | .cell i => match M[i]? with
    | some (.lst xs) => some xs[k]?
    | _ => none
def Src.fuel : Src → Nat
  | .fix xs => xs.length + 1
  | .cell _ => 5000

/-- expressions. Lists of expressions are made by nil and cons -/
inductive CE where
  | non | bl (b : Bool) | int (i : Int) | str (x : Str)
  | var (i : Nat)
  | con (j : Nat)
  | fnv (i : Nat)
  | tyv (t : Ty)
  | bin (o : BO) (a b : CE)
  | rep (m : Bool) (a b : CE)
  | neg (a : CE)
  | not (a : CE)
  | and (as : CE)
  | or (as : CE)
  | cmp (o : CO) (a b : CE)
  | ite (t a b : CE)
  | call (g : Nat) (as : CE)
  | callv (i : Nat) (as : CE)
  | callk (g w : Nat) (as : CE)
  | heard (e : CE)
  | bc (f : BF) (as : CE)
  | bm (f : MF) (o as : CE)
  | cidx (j : Nat) (as : CE)
  | ix (a b : CE)
  | sl (a lo hi : CE)
  | tup (as : CE)
  | lst (m : Bool) (as : CE)
  | lrange (m : Bool) (a : CE)
  | lzip (m : Bool) (a b : CE)
  | dic (k j : Int)
  | dicv (k : Int) (i : Nat)
  | dnew
  | lc (m : Bool) (own : List Nat) (tg : CT) (it : CE) (ts : CE) (e : CE)
  | itv (a : CE)
  | itr (a : CE)
  | ite2 (a : CE)
  | itz (a b : CE)
  | itzs (a : CE)
  | make (m : Bool) (c : Nat) (as : CE)
  | meth (c : Nat) (f : Str) (o as : CE)
  | fld (f : Str) (o : CE)
  | isiO (o : CE) (c : Nat)
  | sm (f : SF) (o as : CE)
  | chain (o o' : CO) (a b c : CE)
  | lsts (m : Bool) (as : CE)
  | scons (a r : CE)
  | nil
  | cons (a r : CE)
def CE.isNil : CE → Bool
  | .nil => true
  | _ => false
def CE.isNon : CE → Bool
  | .non => true
  | _ => false
/-- may it be a bound of a slice -/
def okPt (c : CE) : D → Bool
  | .int _ => true
  | .non => c.isNon
  | _ => false

/-- the items at some places -/
def permL {α : Type} (p : List Nat) (xs : List α) : List α := p.filterMap fun i => xs[i]?
/-- a def: its parameters, its names (parameters first), the ways in which it is called by its parameters' names -/
structure GDef where
  name : Str
  ps : List Str
  N : List Str
  kws : List (List Str × List Nat) := []
  /-- the way to it; is it a name of the module -/
  qual : Str := name
  glob : Bool := true
/-- a class whose instances are made: its name, its __init__, its methods, its fields, the classes that it is one of -/
structure ICls where
  name : Str
  init : Nat
  meths : List (Str × Nat)
  flds : List Str
  ups : List Nat
structure Tab where
  defs : List GDef
  cons : List (Str × D)
  /-- own exception classes: the name, the fields -/
  clss : List (Str × List Str) := []
  /-- the def that tells the exception of a lambda; what it tells -/
  icls : List ICls := []
  hname : Str := ""
  hres : Nat → List D → Option D := fun _ _ => none

inductive Md where
  | v | l | a | o | s | t
  deriving DecidableEq
def consD (x : D) : D → D
  | .tup xs => .tup (x :: xs)
  | d => d
def rangeD (n : Int) : List D := (List.range n.toNat).map fun (i : Nat) => D.int i
def enumD : Nat → List D → List D
  | _, [] => []
  | k, x :: xs => .tup [.int k, x] :: enumD (k + 1) xs
def zipD : List D → List D → List D
  | x :: xs, y :: ys => .tup [x, y] :: zipD xs ys
  | _, _ => []
/-- the items of what is walked, fixed ones -/
def itemsOf (M : Mem) : D → Option (List D)
  | .ref _ => none
  | d => seqOf M d
/-- the items of each of some -/
def itemsAll (M : Mem) : List D → Option (List (List D))
  | [] => some []
  | x :: xs => match itemsOf M x, itemsAll M xs with
    | some ys, some r => some (ys :: r)
    | _, _ => none
/-- the columns of some rows -/
def zipsD (xss : List (List D)) : List D := (List.range (xss.headD []).length).map fun i => .tup (xss.map fun xs => xs.getD i .non)
/-- what is walked, told by data: the items, or the changing list -/
def srcOf : D → Option Src
  | .tup xs => some (.fix xs)
  | .ref i => some (.cell i)
  | _ => none

/-- a comprehension's turns: k the next one, n turns may be left -/
def lcGo (tg : D → Option Rho) (ts : Rho → Mem → Res) (el : Rho → Mem → Res) (s : Src) : Nat → Nat → Mem → List D → Res
  | 0, _, _, _ => .stuck
  | n + 1, k, M, acc => match s.at M k with
    | none => .stuck
    | some none => .ok (.lst acc) M
    | some (some d) => match tg d with
      | none => .stuck
      | some r => (ts r M).bindS fun t M1 => match t with
        | .bl true => (el r M1).bindS fun y M2 => if acc.length < lim then lcGo tg ts el s n (k + 1) M2 (acc ++ [y]) else .stuck
        | .bl false => lcGo tg ts el s n (k + 1) M1 acc
        | _ => .stuck
def mkOf (m : Bool) (r : Res) : Res := r.bind fun d M => match d with
  | .lst xs => mk m xs M
  | _ => .stuck

/-- what is walked: the items, or the changing list -/
def itvf (x : D) (M : Mem) : Res := match x with
  | .ref i => match M[i]? with
    | some (.lst _) => .ok (.ref i) M
    | _ => .stuck
  | .str z => if z.length ≤ lim then .ok (.tup (charsD z)) M else .stuck
  | d => match seqOf M d with
    | some xs => .ok (.tup xs) M
    | none => .stuck
/-- what is heard: nothing, or the exception's tuple -/
def heardR (hres : Nat → List D → Option D) (x : Res) : Res := match x with
  | .ok _ M => .ok (.tup []) M
  | .exn c fs M => match hres c fs with
    | some d => .ok d M
    | none => .stuck
  | .stuck => .stuck
/-- an instance just made: told, or left in the store -/
def made (m : Bool) (n : Nat) (r : Res) : Res := r.bind fun d M => match d with
  | .non => match m with
    | true => .ok (.ref n) M
    | false => match M[n]? with
      | some (.ins c fs) => if M.length = n + 1 ∧ grs (fs.map (·.2)) = true then .ok (.ins c (fs.map (·.1)) (fs.map (·.2))) (M.take n) else .stuck
      | _ => .stuck
  | _ => .stuck
/-- one list of values behind another -/
def appD (xs : List D) : D → D
  | .tup ys => .tup (xs ++ ys)
  | d => d
/-- what an expression gives. cf: what a call of the g-th def gives -/
def ev (T : Tab) (cf : Nat → List D → Mem → Res) : Md → CE → Rho → Mem → Res
  | .v, .non => fun _ M => .ok .non M
  | .v, .bl b => fun _ M => .ok (.bl b) M
  | .v, .int i => fun _ M => .ok (.int i) M
  | .v, .str x => fun _ M => .ok (.str x) M
  | .v, .var i => fun r M => match r[i]? with
    | some (some d) => .ok d M
    | _ => .stuck
  | .v, .con j => fun _ M => match T.cons[j]? with
    | some p => .ok p.2 M
    | none => .stuck
  | .v, .fnv i => fun _ M => if i < T.defs.length then .ok (.fn i) M else .stuck
  | .v, .tyv t => fun _ M => .ok (.ty t) M
  | .v, .bin o a b => fun r M => (ev T cf .v a r M).bind fun x M1 => (ev T cf .v b r M1).bind fun y M2 => bop o x y M2
  | .v, .rep m a b => fun r M => (ev T cf .v a r M).bind fun x M1 => (ev T cf .v b r M1).bind fun y M2 => rep m x y M2
  | .v, .neg a => fun r M => (ev T cf .v a r M).bind fun x M1 => match x with
    | .int i => .ok (.int (-i)) M1
    | _ => .stuck
  | .v, .not a => fun r M => (ev T cf .v a r M).bind fun x M1 => match x with
    | .bl b => .ok (.bl (!b)) M1
    | _ => .stuck
  | .v, .and as => fun r M => ev T cf .a as r M
  | .v, .or as => fun r M => ev T cf .o as r M
  | .v, .cmp o a b => fun r M => (ev T cf .v a r M).bind fun x M1 => (ev T cf .v b r M1).bind fun y M2 => cop o x y M2
  | .v, .ite t a b => fun r M => (ev T cf .v t r M).bind fun x M1 => match x with
    | .bl true => ev T cf .v a r M1
    | .bl false => ev T cf .v b r M1
    | _ => .stuck
  | .v, .call g as => fun r M => (ev T cf .l as r M).bind fun x M1 => match x with
    | .tup ds => cf g ds M1
    | _ => .stuck
  | .v, .callv i as => fun r M => match r[i]? with
    | some (some (.fn g)) => if g < T.defs.length then (ev T cf .l as r M).bind fun x M1 => match x with
      | .tup ds => cf g ds M1
      | _ => .stuck else .stuck
    | _ => .stuck
  | .v, .callk g w as => fun r M => (ev T cf .l as r M).bind fun x M1 => match x with
    | .tup ds => match T.defs[g]? with
      | some d => match d.kws[w]? with
        | some p => cf g (permL p.2 ds) M1
        | none => .stuck
      | none => .stuck
    | _ => .stuck
  | .v, .heard e => fun r M => heardR T.hres (ev T cf .v e r M)
  | .v, .bc f as => fun r M => (ev T cf .l as r M).bind fun x M1 => match x with
    | .tup ds => bfn f ds M1
    | _ => .stuck
  | .v, .bm f o as => fun r M => (ev T cf .v o r M).bind fun y M1 => if (listOf M1 y).isSome = true then (ev T cf .l as r M1).bind fun x M2 => match x with
    | .tup ds => mfn f y ds M2
    | _ => .stuck else .stuck
  | .v, .cidx j as => fun r M => match T.cons[j]? with
    | some (_, .tup xs) => (ev T cf .l as r M).bind fun x M1 => match x with
      | .tup ds => cidxf (.tup xs) ds M1
      | _ => .stuck
    | _ => .stuck
  | .v, .ix a b => fun r M => (ev T cf .v a r M).bind fun x M1 => (ev T cf .v b r M1).bind fun y M2 => ixf x y M2
  | .v, .sl a lo hi => fun r M => (ev T cf .v a r M).bind fun x M1 => (ev T cf .v lo r M1).bind fun y M2 => if okPt lo y = true then (ev T cf .v hi r M2).bind fun z M3 => if okPt hi z = true then slf x y z M3 else .stuck else .stuck
  | .v, .tup as => fun r M => ev T cf .l as r M
  | .v, .lst m as => fun r M => (ev T cf .l as r M).bind fun x M1 => match x with
    | .tup ds => mk m ds M1
    | _ => .stuck
  | .v, .lrange m a => fun r M => (ev T cf .v a r M).bind fun x M1 => match x with
    | .int j => if j ≤ (lim : Nat) ∧ -(2 ^ 62) ≤ j then mk m (rangeD j) M1 else .stuck
    | _ => .stuck
  | .v, .lzip m a b => fun r M => (ev T cf .v a r M).bind fun x M1 => (ev T cf .v b r M1).bind fun y M2 => match itemsOf M2 x, itemsOf M2 y with
    | some xs, some ys => mk m (zipD xs ys) M2
    | _, _ => .stuck
  | .v, .dic k j => fun _ M => .ok (.dk [.inl k] [.int j]) M
  | .v, .dnew => fun _ M => .ok (.ref M.length) (M ++ [.dk []])
  | .v, .dicv k i => fun r M => match r[i]? with
    | some (some d) => .ok (.dk [.inl k] [d]) M
    | _ => .stuck
  | .v, .lc m own tg it ts e => fun r M => (ev T cf .s it r M).bind fun x M1 => match srcOf x with
    | some s => mkOf m (lcGo (fun d => asg tg d (wipeR r own)) (if ts.isNil = true then (fun _ M => .ok (.bl true) M) else ev T cf .v ts) (ev T cf .v e) s s.fuel 0 M1 [])
    | none => .stuck
  | .s, .itv a => fun r M => (ev T cf .v a r M).bind fun x M1 => itvf x M1
  | .s, .itr a => fun r M => (ev T cf .v a r M).bind fun x M1 => match x with
    | .int j => if j ≤ (lim : Nat) ∧ -(2 ^ 62) ≤ j then .ok (.tup (rangeD j)) M1 else .stuck
    | _ => .stuck
  | .s, .ite2 a => fun r M => (ev T cf .v a r M).bind fun x M1 => match itemsOf M1 x with
    | some xs => .ok (.tup (enumD 0 xs)) M1
    | none => .stuck
  | .s, .itz a b => fun r M => (ev T cf .v a r M).bind fun x M1 => (ev T cf .v b r M1).bind fun y M2 => match itemsOf M2 x, itemsOf M2 y with
    | some xs, some ys => .ok (.tup (zipD xs ys)) M2
    | _, _ => .stuck
  | .s, .itzs a => fun r M => (ev T cf .v a r M).bind fun x M1 => match itemsOf M1 x with
    | some xs => match itemsAll M1 xs with
      | some yss => if yss ≠ [] ∧ yss.length ≤ 5 ∧ ∀ ys ∈ yss, ys.length = (yss.headD []).length then .ok (.tup (zipsD yss)) M1 else .stuck
      | none => .stuck
    | none => .stuck
  | .v, .make m c as => fun r M => (ev T cf .l as r M).bind fun x M1 => match x with
    | .tup ds => match T.icls[c]? with
      | some p => if p.init < T.defs.length then made m M1.length (cf p.init (.ref M1.length :: ds) (M1 ++ [.ins c []])) else .stuck
      | none => .stuck
    | _ => .stuck
  | .v, .meth c f o as => fun r M => (ev T cf .v o r M).bind fun y M1 => match insOf M1 y with
    | some (c', fs) => if c' = c ∧ (fs.map (·.1)).contains f = false then (ev T cf .l as r M1).bind fun x M2 => match x with
      | .tup ds => match T.icls[c]? with
        | some p => match p.meths.lookup f with
          | some g => if g < T.defs.length then cf g (y :: ds) M2 else .stuck
          | none => .stuck
        | none => .stuck
      | _ => .stuck else .stuck
    | none => .stuck
  | .v, .fld f o => fun r M => (ev T cf .v o r M).bind fun y M1 => match insOf M1 y with
    | some (c, fs) => match T.icls[c]? with
      | some p => if p.flds.contains f = true then match fs.lookup f with
        | some d => .ok d M1
        | none => .stuck else .stuck
      | none => .stuck
    | none => .stuck
  | .v, .isiO o c => fun r M => (ev T cf .v o r M).bind fun y M1 => match insOf M1 y with
    | some (c', _) => match T.icls[c']? with
      | some p => if c < T.icls.length then .ok (.bl (p.ups.contains c)) M1 else .stuck
      | none => .stuck
    | none => match tyOf M1 y with
      | some _ => if c < T.icls.length then .ok (.bl false) M1 else .stuck
      | none => .stuck
  | .v, .sm f o as => fun r M => (ev T cf .v o r M).bind fun y M1 => match y with
    | .str a => (ev T cf .l as r M1).bind fun x M2 => match x with
      | .tup ds => sfn f (.str a) ds M2
      | _ => .stuck
    | _ => .stuck
  | .v, .chain o o' a b c => fun r M => (ev T cf .v a r M).bind fun x M1 => (ev T cf .v b r M1).bind fun y M2 => (cop o x y M2).bind fun z M3 => match z with
    | .bl true => (ev T cf .v c r M3).bind fun w M4 => cop o' y w M4
    | .bl false => .ok (.bl false) M3
    | _ => .stuck
  | .t, .nil => fun _ M => .ok (.tup []) M
  | .t, .cons a b => fun r M => (ev T cf .v a r M).bind fun x M1 => (ev T cf .t b r M1).bind fun xs M2 => .ok (consD x xs) M2
  | .v, .lsts m as => fun r M => (ev T cf .t as r M).bind fun x M1 => match x with
    | .tup ds => if ds.length ≤ lim then mk m ds M1 else .stuck
    | _ => .stuck
  | .t, .scons a b => fun r M => (ev T cf .v a r M).bind fun x M1 => match seqOf M1 x with
    | some xs => (ev T cf .t b r M1).bind fun ys M2 => .ok (appD xs ys) M2
    | none => .stuck
  | .l, .nil => fun _ M => .ok (.tup []) M
  | .l, .cons a b => fun r M => (ev T cf .v a r M).bind fun x M1 => (ev T cf .l b r M1).bind fun xs M2 => .ok (consD x xs) M2
  | .a, .cons a b => fun r M => if b.isNil = true then ev T cf .v a r M else (ev T cf .v a r M).bind fun x M1 => match x with
    | .bl true => ev T cf .a b r M1
    | .bl false => .ok (.bl false) M1
    | _ => .stuck
  | .o, .cons a b => fun r M => if b.isNil = true then ev T cf .v a r M else (ev T cf .v a r M).bind fun x M1 => match x with
    | .bl true => .ok (.bl true) M1
    | .bl false => ev T cf .o b r M1
    | _ => .stuck
  | _, _ => fun _ _ => .stuck

/-! ### statements -/
inductive CS where
  | skip
  | seq (a b : CS)
  | set (i : Nat) (e : CE)
  | par (i j : Nat) (a b : CE)
  | asg (t : CT) (e : CE)
  | sub (o i v : CE)
  | fset (o : CE) (f : Str) (v : CE)
  | drop (e : CE)
  | ite (t : CE) (a b : CS)
  | for_ (tg : CT) (it : CE) (b : CS)
  | whl (n : Nat) (t : CE) (b : CS)
  | ret (e : CE)
  | retN
  | raise (c : Nat) (as : CE)
  | never
inductive Out where
  | nx (r : Rho) (M : Mem)
  | rt (d : D) (M : Mem)
  | xn (c : Nat) (fs : List D) (r : Rho) (M : Mem)
  | stuck
def Res.to (x : Res) (r : Rho) (k : D → Mem → Out) : Out := match x with
  | .ok d M => k d M
  | .exn c fs M => .xn c fs r M
  | .stuck => .stuck
def Out.seq (o : Out) (k : Rho → Mem → Out) : Out := match o with
  | .nx r M => k r M
  | .rt d M => .rt d M
  | .xn c fs r M => .xn c fs r M
  | .stuck => .stuck
def forGo (tg : D → Rho → Option Rho) (body : Rho → Mem → Out) (s : Src) : Nat → Nat → Rho → Mem → Out
  | 0, _, _, _ => .stuck
  | n + 1, k, r, M => match s.at M k with
    | none => .stuck
    | some none => .nx r M
    | some (some d) => match tg d r with
      | none => .stuck
      | some r' => (body r' M).seq fun r2 M2 => forGo tg body s n (k + 1) r2 M2
def whlGo (t : Rho → Mem → Res) (body : Rho → Mem → Out) : Nat → Rho → Mem → Out
  | 0, _, _ => .stuck
  | n + 1, r, M => (t r M).to r fun x M1 => match x with
    | .bl true => (body r M1).seq fun r2 M2 => whlGo t body n r2 M2
    | .bl false => .nx r M1
    | _ => .stuck
/-- o[i] = v -/
def subL (x y d : D) (M : Mem) : Option Mem := match x, y with
  | .ref i, .int j => match M[i]? with
    | some (.lst xs) => match ixN xs.length j with
      | some k => if gr d = true then some (setCell M i (xs.set k d)) else none
      | none => none
    | _ => none
  | _, _ => none
def subf (x y d : D) (M : Mem) : Option Mem := match dkOf M x with
  | some kvs => match x, keyD y with
    | .ref i, some k => if gr d = true ∧ kvs.length < lim then some (M.set i (.dk (setK kvs k d))) else none
    | _, _ => none
  | none => subL x y d M
def ex (T : Tab) (cf : Nat → List D → Mem → Res) : CS → Rho → Mem → Out
  | .skip, r, M => .nx r M
  | .seq a b, r, M => (ex T cf a r M).seq fun r1 M1 => ex T cf b r1 M1
  | .set i e, r, M => (ev T cf .v e r M).to r fun d M1 => if i < r.length then .nx (r.set i (some d)) M1 else .stuck
  | .par i j a b, r, M => (ev T cf .v a r M).to r fun d M1 => (ev T cf .v b r M1).to r fun e M2 => if i < r.length ∧ j < r.length ∧ i ≠ j then .nx ((r.set i (some d)).set j (some e)) M2 else .stuck
  | .asg t e, r, M => (ev T cf .v e r M).to r fun d M1 => match asg t d r with
    | some r1 => .nx r1 M1
    | none => .stuck
  | .sub o i v, r, M => (ev T cf .v v r M).to r fun d M1 => (ev T cf .v o r M1).to r fun x M2 => (ev T cf .v i r M2).to r fun y M3 => match subf x y d M3 with
    | some M4 => .nx r M4
    | none => .stuck
  | .fset o f v, r, M => (ev T cf .v v r M).to r fun d M1 => (ev T cf .v o r M1).to r fun x M2 => match x with
    | .ref i => match M2[i]? with
      | some (.ins c fs) => match T.icls[c]? with
        | some p => if p.flds.contains f = true ∧ gr d = true ∧ fs.length < 1000 then .nx r (M2.set i (.ins c (putFD f d fs))) else .stuck
        | none => .stuck
      | _ => .stuck
    | _ => .stuck
  | .drop e, r, M => (ev T cf .v e r M).to r fun _ M1 => .nx r M1
  | .ite t a b, r, M => (ev T cf .v t r M).to r fun x M1 => match x with
    | .bl true => ex T cf a r M1
    | .bl false => ex T cf b r M1
    | _ => .stuck
  | .for_ tg it b, r, M => (ev T cf .s it r M).to r fun x M1 => match srcOf x with
    | some s => forGo (fun d r => asg tg d r) (ex T cf b) s s.fuel 0 r M1
    | none => .stuck
  | .whl n t b, r, M => whlGo (ev T cf .v t) (ex T cf b) n r M
  | .ret e, r, M => (ev T cf .v e r M).to r fun d M1 => .rt d M1
  | .retN, _, M => .rt .non M
  | .raise c as, r, M => (ev T cf .l as r M).to r fun x M1 => match x with
    | .tup fs => match T.clss[c]? with
      | some p => if fs.length = p.2.length ∧ 0 < fs.length ∧ fs.length ≤ 2 then .xn c fs.reverse r M1 else .stuck
      | none => .stuck
    | _ => .stuck
  | .never, _, _ => .stuck

/-! ### defs -/
structure PDef where
  keep : Bool
  body : CS
mutual
/-- what was made since the store had n cells, told as it stands -/
def tellD (n : Nat) (M : Mem) : D → Option D
  | .ref i => if i < n then some (.ref i) else match M[i]? with
    | some (.lst xs) => some (.lst xs)
    | some (.dk kvs) => some (.dk (kvs.map (·.1)) (kvs.map (·.2)))
    | some (.ins c fs) => some (.ins c (fs.map (·.1)) (fs.map (·.2)))
    | none => none
  | .tup xs => match tellDs n M xs with
    | some ys => some (.tup ys)
    | none => none
  | .lst xs => match tellDs n M xs with
    | some ys => some (.lst ys)
    | none => none
  | .sld xs => match tellDs n M xs with
    | some ys => some (.sld ys)
    | none => none
  | .dk ks xs => match tellDs n M xs with
    | some ys => some (.dk ks ys)
    | none => none
  | .ins c ns xs => match tellDs n M xs with
    | some ys => some (.ins c ns ys)
    | none => none
  | d => some d
def tellDs (n : Nat) (M : Mem) : List D → Option (List D)
  | [] => some []
  | x :: xs => match tellD n M x, tellDs n M xs with
    | some y, some ys => some (y :: ys)
    | _, _ => none
end
/-- what is left of the store behind a call that began with n cells: the lists that it made are told as they stand -/
def back (keep : Bool) (n : Nat) (d : D) (M : Mem) : Res :=
  if keep = true ∨ M.length = n then .ok d M
  else match d with
    | .ref i => if i < n then .ok (.ref i) (M.take n) else match M[i]? with
      | some (.lst xs) => .ok (.lst xs) (M.take n)
      | some (.dk kvs) => .ok (.dk (kvs.map (·.1)) (kvs.map (·.2))) (M.take n)
      | some (.ins c fs) => .ok (.ins c (fs.map (·.1)) (fs.map (·.2))) (M.take n)
      | none => .stuck
    | d => if gr d = true then .ok d (M.take n) else match tellD n M d with
      | some d' => .ok d' (M.take n)
      | none => .stuck
def backX (n : Nat) (c : Nat) (fs : List D) (M : Mem) : Res :=
  if M.length = n then .exn c fs M else if grs fs = true then .exn c fs (M.take n) else .stuck
def fin (keep : Bool) (n : Nat) (o : Out) : Res := match o with
  | .nx _ M => back keep n .non M
  | .rt d M => back keep n d M
  | .xn c fs _ M => backX n c fs M
  | .stuck => .stuck
def startR (n : Nat) (ds : List D) : Rho := ds.map some ++ List.replicate (n - ds.length) none
def callN (T : Tab) (ps : List PDef) : Nat → Nat → List D → Mem → Res
  | 0, _, _, _ => .stuck
  | k + 1, g, ds, M => match T.defs[g]?, ps[g]? with
    | some f, some p => if ds.length = f.ps.length then fin p.keep M.length (ex T (callN T ps k) p.body (startR f.N.length ds) M) else .stuck
    | _, _ => .stuck
end Iv

/-! ## IvB -/
/-! Iv, part B: what a datum is in a heap; what a reading owes. -/
namespace Iv
open PySem PySem.Spec PyProof.Rows L2

/-- what is known of the program's own objects: defs, classes, the tables of code objects -/
structure Sta where
  K : PySem.W.Frag
  fa : Nat → Option Addr
  ca : Nat → Option Addr
  /-- the classes whose instances are made -/
  ia : Nat → Option Addr
  fl : Nat → List Str
  tb : List (Addr × Str)
  /-- is it to be known that nothing is being shown -/
  gd : Bool

mutual
def Rep (S : Sta) (lk : List Addr) (H : Hp) (io : List Addr) : D → V → Prop
  | .non, v => v = .non
  | .bl b, v => v = .bl b
  | .int i, v => v = .int i
  | .str x, v => v = .str x
  | .tup ds, v => ∃ a vs, v = .ref a ∧ ((H a = some (.tup vs) ∧ a ∉ io) ∨ ∀ H', SqT S.K H' a vs) ∧ vs.length ≤ lim ∧ Reps S lk H io ds vs
  | .lst ds, v => ∃ a vs, v = .ref a ∧ H a = some (.lst vs) ∧ a ∉ io ∧ a ∉ lk ∧ vs.length ≤ lim ∧ Reps S lk H io ds vs
  | .sld ds, v => ∃ a vs, v = .ref a ∧ (((∃ o, H a = some (.frz o (.lst vs))) ∧ a ∉ io) ∨ ∀ H', SqL S.K H' a vs) ∧ vs.length ≤ lim ∧ Reps S lk H io ds vs
  | .dk ks ds, v => ∃ a kws, v = .ref a ∧ H a = some (.dK kws) ∧ a ∉ io ∧ kws.length ≤ lim ∧ kws.map (·.1) = ks ∧ Reps S lk H io ds (kws.map (·.2))
  | .fn i, v => ∃ a, S.fa i = some a ∧ v = .ref a
  | .cls i, v => ∃ a, S.ca i = some a ∧ v = .ref a
  | .ty t, v => v = .ty t.nm
  | .ins c ns ds, v => ∃ a C dx kvs, v = .ref a ∧ S.ia c = some C ∧ H a = some (.ins C dx kvs) ∧ a ∉ io ∧ kvs.map (·.1) = ns ∧ Reps S lk H io ds (kvs.map (·.2))
  | .ref i, v => ∃ a, io[i]? = some a ∧ v = .ref a
def Reps (S : Sta) (lk : List Addr) (H : Hp) (io : List Addr) : List D → List V → Prop
  | [], vs => vs = []
  | d :: ds, vs => ∃ v r, vs = v :: r ∧ Rep S lk H io d v ∧ Reps S lk H io ds r
end

/-- from one heap to a later one: what is not owned stays, what is newly owned is new -/
structure Ext (H : Hp) (io : List Addr) (H' : Hp) (io' : List Addr) : Prop where
  pre : ∃ t, io' = io ++ t
  new : ∀ a ∈ io', a ∈ io ∨ ∀ o, H a = some o → ∃ ps, o = .tbl ps
  keep : ∀ a o, H a = some o → a ∉ io → (∀ ps, o ≠ .tbl ps) → H' a = some o
theorem Ext.refl (H : Hp) (io : List Addr) : Ext H io H io := ⟨⟨[], by simp⟩, fun _ h => .inl h, fun _ _ h _ _ => h⟩
section
variable {S : Sta} {lk : List Addr} {H H1 H2 : Hp} {io io1 io2 : List Addr}
theorem Ext.sub (x : Ext H io H1 io1) {a : Addr} (h : a ∈ io) : a ∈ io1 := by
  obtain ⟨t, e⟩ := x.pre
  rw [e]
  exact List.mem_append_left _ h
theorem Ext.at (x : Ext H io H1 io1) {i : Nat} {a : Addr} (h : io[i]? = some a) : io1[i]? = some a := by
  obtain ⟨t, e⟩ := x.pre
  rw [e, List.getElem?_append_left (List.getElem?_eq_some_iff.mp h).1]
  exact h
/-- what is known and not owned isn't owned later -/
theorem Ext.out (x : Ext H io H1 io1) {a : Addr} (hi : a ∉ io) {o : HO} (h : H a = some o) (hn : ∀ ps, o ≠ .tbl ps) : a ∉ io1 := fun hm => by
  rcases x.new a hm with z | z
  · exact hi z
  · obtain ⟨ps, e⟩ := z o h
    exact hn ps e
theorem Ext.trans (x : Ext H io H1 io1) (y : Ext H1 io1 H2 io2) : Ext H io H2 io2 := by
  refine ⟨?_, fun a ha => ?_, fun a o h hi hn => ?_⟩
  · obtain ⟨t, e⟩ := x.pre
    obtain ⟨u, e'⟩ := y.pre
    exact ⟨t ++ u, by rw [e', e, List.append_assoc]⟩
  · rcases y.new a ha with z | z
    · exact x.new a z
    · by_cases hi : a ∈ io
      · exact .inl hi
      · refine .inr fun o h => ?_
        by_cases ht : ∃ ps, o = .tbl ps
        · exact ht
        · exact z o (x.keep a o h hi fun ps q => ht ⟨ps, q⟩)
  · exact y.keep a o (x.keep a o h hi hn) (x.out hi h hn) hn
/-- a new object -/
theorem Ext.laid {p : Addr} {o : HO} (h : H p = none) : Ext H io (upd H p o) io := by
  have ne : ∀ a u, H a = some u → a ≠ p := fun a u e z => by
    rw [z, h] at e
    cases e
  exact ⟨⟨[], by simp⟩, fun a ha => .inl ha, fun a u e _ _ => by rw [upd_ne (ne a u e)]; exact e⟩
/-- a new object that is owned from now on -/
theorem Ext.own {p : Addr} {o : HO} (h : H p = none) : Ext H io (upd H p o) (io ++ [p]) := by
  have ne : ∀ a u, H a = some u → a ≠ p := fun a u e z => by
    rw [z, h] at e
    cases e
  refine ⟨⟨[p], rfl⟩, fun a ha => ?_, fun a u e _ _ => by rw [upd_ne (ne a u e)]; exact e⟩
  rcases List.mem_append.mp ha with z | z
  · exact .inl z
  · have e : a = p := by simpa using z
    rw [e]
    refine .inr fun o q => ?_
    rw [h] at q
    cases q
/-- an owned object is changed -/
theorem Ext.write {p : Addr} {o : HO} (h : p ∈ io) : Ext H io (upd H p o) io := by
  have ne : ∀ a, a ∉ io → a ≠ p := fun a n z => by
    rw [z] at n
    exact n h
  exact ⟨⟨[], by simp⟩, fun a ha => .inl ha, fun a u e n _ => by rw [upd_ne (ne a n)]; exact e⟩
/-- what was newly owned is owned no longer -/
theorem Ext.dis (x : Ext H io H1 io1) : Ext H io H1 io := ⟨⟨[], by simp⟩, fun _ h => .inl h, x.keep⟩

theorem rd_keep (x : Ext H io H1 io1) {a : Addr} {u : HO} (hu : ∀ ps, u ≠ .tbl ps) (h : Rd H a u) (hi : a ∉ io) : Rd H1 a u ∧ a ∉ io1 := by
  rcases h with h | ⟨o, h⟩
  · exact ⟨.inl (x.keep a _ h hi hu), x.out hi h hu⟩
  · exact ⟨.inr ⟨o, x.keep a _ h hi fun ps z => by cases z⟩, x.out hi h fun ps z => by cases z⟩
mutual
theorem Rep.mono (x : Ext H io H1 io1) : ∀ (d : D) (v : V), Rep S lk H io d v → Rep S lk H1 io1 d v
  | .non, v, h => h
  | .bl _, v, h => h
  | .int _, v, h => h
  | .str _, v, h => h
  | .tup ds, v, h => by
    unfold Rep at h ⊢
    obtain ⟨a, vs, e, h1, hl, h2⟩ := h
    refine ⟨a, vs, e, ?_, hl, Reps.mono x ds vs h2⟩
    rcases h1 with ⟨h1, hi⟩ | h1
    · exact .inl ⟨x.keep a _ h1 hi (fun ps z => by cases z), x.out hi h1 (fun ps z => by cases z)⟩
    · exact .inr h1
  | .lst ds, v, h => by
    unfold Rep at h ⊢
    obtain ⟨a, vs, e, h1, hi, hk, hl, h2⟩ := h
    exact ⟨a, vs, e, x.keep a _ h1 hi (fun ps z => by cases z), x.out hi h1 (fun ps z => by cases z), hk, hl, Reps.mono x ds vs h2⟩
  | .sld ds, v, h => by
    unfold Rep at h ⊢
    obtain ⟨a, vs, e, h1, hl, h2⟩ := h
    refine ⟨a, vs, e, ?_, hl, Reps.mono x ds vs h2⟩
    rcases h1 with ⟨⟨o, h1⟩, hi⟩ | h1
    · exact .inl ⟨⟨o, x.keep a _ h1 hi fun ps z => by cases z⟩, x.out hi h1 (fun ps z => by cases z)⟩
    · exact .inr h1
  | .dk _ ds, v, h => by
    unfold Rep at h ⊢
    obtain ⟨a, kvs, e, h1, hi, hl, hk, hr⟩ := h
    exact ⟨a, kvs, e, x.keep a _ h1 hi (fun ps z => by cases z), x.out hi h1 (fun ps z => by cases z), hl, hk, Reps.mono x ds _ hr⟩
  | .fn i, v, h => by unfold Rep at h ⊢; exact h
  | .cls i, v, h => by unfold Rep at h ⊢; exact h
  | .ty _, v, h => h
  | .ins _ _ ds, v, h => by
    unfold Rep at h ⊢
    obtain ⟨a, C, dx, kvs, e, h0, h1, hi, hk, hr⟩ := h
    exact ⟨a, C, dx, kvs, e, h0, x.keep a _ h1 hi (fun ps z => by cases z), x.out hi h1 (fun ps z => by cases z), hk, Reps.mono x ds _ hr⟩
  | .ref i, v, h => by
    unfold Rep at h ⊢
    obtain ⟨a, e, h⟩ := h
    exact ⟨a, x.at e, h⟩
theorem Reps.mono (x : Ext H io H1 io1) : ∀ (ds : List D) (vs : List V), Reps S lk H io ds vs → Reps S lk H1 io1 ds vs
  | [], vs, h => h
  | d :: ds, vs, h => by
    unfold Reps at h ⊢
    obtain ⟨v, r, e, h1, h2⟩ := h
    exact ⟨v, r, e, Rep.mono x d v h1, Reps.mono x ds r h2⟩
end
mutual
/-- another lock, and ground data may forget what is owned -/
theorem Rep.lock {lk' : List Addr} (hl : ∀ a vs, H a = some (.lst vs) → a ∉ io → a ∉ lk → a ∉ lk') : ∀ (d : D) (v : V), Rep S lk H io d v → Rep S lk' H io d v
  | .non, v, h => h
  | .bl _, v, h => h
  | .int _, v, h => h
  | .str _, v, h => h
  | .tup ds, v, h => by
    unfold Rep at h ⊢
    obtain ⟨a, vs, e, h1, hl', h2⟩ := h
    exact ⟨a, vs, e, h1, hl', Reps.lock hl ds vs h2⟩
  | .lst ds, v, h => by
    unfold Rep at h ⊢
    obtain ⟨a, vs, e, h1, hi, hk, hl', h2⟩ := h
    exact ⟨a, vs, e, h1, hi, hl a vs h1 hi hk, hl', Reps.lock hl ds vs h2⟩
  | .sld ds, v, h => by
    unfold Rep at h ⊢
    obtain ⟨a, vs, e, h1, hl', h2⟩ := h
    exact ⟨a, vs, e, h1, hl', Reps.lock hl ds vs h2⟩
  | .dk _ ds, v, h => by
    unfold Rep at h ⊢
    obtain ⟨a, kvs, e, h1, hi, hl', hk, hr⟩ := h
    exact ⟨a, kvs, e, h1, hi, hl', hk, Reps.lock hl ds _ hr⟩
  | .fn i, v, h => by unfold Rep at h ⊢; exact h
  | .cls i, v, h => by unfold Rep at h ⊢; exact h
  | .ty _, v, h => h
  | .ins _ _ ds, v, h => by
    unfold Rep at h ⊢
    obtain ⟨a, C, dx, kvs, e, h0, h1, hi, hk, hr⟩ := h
    exact ⟨a, C, dx, kvs, e, h0, h1, hi, hk, Reps.lock hl ds _ hr⟩
  | .ref i, v, h => by unfold Rep at h ⊢; exact h
theorem Reps.lock {lk' : List Addr} (hl : ∀ a vs, H a = some (.lst vs) → a ∉ io → a ∉ lk → a ∉ lk') : ∀ (ds : List D) (vs : List V), Reps S lk H io ds vs → Reps S lk' H io ds vs
  | [], vs, h => h
  | d :: ds, vs, h => by
    unfold Reps at h ⊢
    obtain ⟨v, r, e, h1, h2⟩ := h
    exact ⟨v, r, e, Rep.lock hl d v h1, Reps.lock hl ds r h2⟩
end
mutual
theorem Rep.ground {io' : List Addr} (hs : ∀ a ∈ io', a ∈ io) : ∀ (d : D) (v : V), gr d = true → Rep S lk H io d v → Rep S lk H io' d v
  | .non, v, _, h => h
  | .bl _, v, _, h => h
  | .int _, v, _, h => h
  | .str _, v, _, h => h
  | .tup ds, v, g, h => by
    unfold Rep at h ⊢
    unfold gr at g
    obtain ⟨a, vs, e, h1, hl, h2⟩ := h
    exact ⟨a, vs, e, h1.imp (fun z => ⟨z.1, fun hm => z.2 (hs a hm)⟩) id, hl, Reps.ground hs ds vs g h2⟩
  | .lst ds, v, g, h => by
    unfold Rep at h ⊢
    unfold gr at g
    obtain ⟨a, vs, e, h1, hi, hk, hl, h2⟩ := h
    exact ⟨a, vs, e, h1, fun hm => hi (hs a hm), hk, hl, Reps.ground hs ds vs g h2⟩
  | .sld ds, v, g, h => by
    unfold Rep at h ⊢
    unfold gr at g
    obtain ⟨a, vs, e, h1, hl, h2⟩ := h
    exact ⟨a, vs, e, h1.imp (fun z => ⟨z.1, fun hm => z.2 (hs a hm)⟩) id, hl, Reps.ground hs ds vs g h2⟩
  | .dk _ ds, v, g, h => by
    unfold Rep at h ⊢
    unfold gr at g
    obtain ⟨a, kvs, e, h1, hi, hl, hk, hr⟩ := h
    exact ⟨a, kvs, e, h1, fun hm => hi (hs a hm), hl, hk, Reps.ground hs ds _ g hr⟩
  | .fn i, v, _, h => by unfold Rep at h ⊢; exact h
  | .cls i, v, _, h => by unfold Rep at h ⊢; exact h
  | .ty _, v, _, h => h
  | .ins _ _ ds, v, g, h => by
    unfold Rep at h ⊢
    unfold gr at g
    obtain ⟨a, C, dx, kvs, e, h0, h1, hi, hk, hr⟩ := h
    exact ⟨a, C, dx, kvs, e, h0, h1, fun hm => hi (hs a hm), hk, Reps.ground hs ds _ g hr⟩
  | .ref i, v, g, h => by
    unfold gr at g
    cases g
theorem Reps.ground {io' : List Addr} (hs : ∀ a ∈ io', a ∈ io) : ∀ (ds : List D) (vs : List V), grs ds = true → Reps S lk H io ds vs → Reps S lk H io' ds vs
  | [], vs, _, h => h
  | d :: ds, vs, g, h => by
    unfold Reps at h ⊢
    unfold grs at g
    rw [Bool.and_eq_true] at g
    obtain ⟨v, r, e, h1, h2⟩ := h
    exact ⟨v, r, e, Rep.ground hs d v g.1 h1, Reps.ground hs ds r g.2 h2⟩
end

/-! ### lists of data -/
theorem Reps.length : ∀ {ds : List D} {vs : List V}, Reps S lk H io ds vs → ds.length = vs.length
  | [], vs, h => by
    unfold Reps at h
    rw [h]
    rfl
  | d :: ds, vs, h => by
    unfold Reps at h
    obtain ⟨v, r, rfl, _, h2⟩ := h
    rw [List.length_cons, List.length_cons, Reps.length h2]
theorem Reps.nil : Reps S lk H io [] [] := by unfold Reps; rfl
theorem Reps.cons {d : D} {ds : List D} {v : V} {vs : List V} (h : Rep S lk H io d v) (t : Reps S lk H io ds vs) : Reps S lk H io (d :: ds) (v :: vs) := by
  unfold Reps
  exact ⟨v, vs, rfl, h, t⟩
theorem Reps.inv {d : D} {ds : List D} {vs : List V} (h : Reps S lk H io (d :: ds) vs) : ∃ v r, vs = v :: r ∧ Rep S lk H io d v ∧ Reps S lk H io ds r := by
  unfold Reps at h
  exact h
theorem Reps.inv0 {vs : List V} (h : Reps S lk H io [] vs) : vs = [] := by
  unfold Reps at h
  exact h
theorem Reps.get : ∀ {ds : List D} {vs : List V} {i : Nat} {d : D}, Reps S lk H io ds vs → ds[i]? = some d → ∃ v, vs[i]? = some v ∧ Rep S lk H io d v
  | [], _, _, _, _, e => by simp at e
  | d :: ds, vs, 0, x, h, e => by
    obtain ⟨v, r, rfl, h1, _⟩ := h.inv
    simp at e
    subst e
    exact ⟨v, rfl, h1⟩
  | d :: ds, vs, i + 1, x, h, e => by
    obtain ⟨v, r, rfl, _, h2⟩ := h.inv
    obtain ⟨u, e1, h3⟩ := Reps.get (i := i) h2 (by simpa using e)
    exact ⟨u, by simpa using e1, h3⟩
theorem Reps.append : ∀ {ds es : List D} {vs ws : List V}, Reps S lk H io ds vs → Reps S lk H io es ws → Reps S lk H io (ds ++ es) (vs ++ ws)
  | [], es, vs, ws, h, k => by
    rw [h.inv0]
    exact k
  | d :: ds, es, vs, ws, h, k => by
    obtain ⟨v, r, rfl, h1, h2⟩ := h.inv
    exact .cons h1 (Reps.append h2 k)
theorem Reps.take : ∀ {ds : List D} {vs : List V} (n : Nat), Reps S lk H io ds vs → Reps S lk H io (ds.take n) (vs.take n)
  | _, _, 0, _ => .nil
  | [], vs, n + 1, h => by
    rw [h.inv0]
    exact .nil
  | d :: ds, vs, n + 1, h => by
    obtain ⟨v, r, rfl, h1, h2⟩ := h.inv
    exact .cons h1 (Reps.take n h2)
theorem Reps.drop : ∀ {ds : List D} {vs : List V} (n : Nat), Reps S lk H io ds vs → Reps S lk H io (ds.drop n) (vs.drop n)
  | _, _, 0, h => h
  | [], vs, n + 1, h => by
    rw [h.inv0]
    exact .nil
  | d :: ds, vs, n + 1, h => by
    obtain ⟨v, r, rfl, _, h2⟩ := h.inv
    exact Reps.drop n h2
theorem Reps.set {d : D} {v : V} (hd : Rep S lk H io d v) : ∀ {ds : List D} {vs : List V} (i : Nat), Reps S lk H io ds vs → Reps S lk H io (ds.set i d) (vs.set i v)
  | [], vs, i, h => by
    rw [h.inv0]
    exact .nil
  | x :: ds, vs, 0, h => by
    obtain ⟨u, r, rfl, _, h2⟩ := h.inv
    exact .cons hd h2
  | x :: ds, vs, i + 1, h => by
    obtain ⟨u, r, rfl, h1, h2⟩ := h.inv
    exact .cons h1 (Reps.set hd i h2)
theorem Reps.erase : ∀ {ds : List D} {vs : List V} (i : Nat), Reps S lk H io ds vs → Reps S lk H io (ds.eraseIdx i) (vs.eraseIdx i)
  | [], vs, i, h => by
    rw [h.inv0]
    exact .nil
  | x :: ds, vs, 0, h => by
    obtain ⟨u, r, rfl, _, h2⟩ := h.inv
    exact h2
  | x :: ds, vs, i + 1, h => by
    obtain ⟨u, r, rfl, h1, h2⟩ := h.inv
    exact .cons h1 (Reps.erase i h2)
theorem Reps.rep {ds : List D} {vs : List V} (h : Reps S lk H io ds vs) : ∀ k : Nat, Reps S lk H io (List.replicate k ds).flatten (List.replicate k vs).flatten
  | 0 => .nil
  | k + 1 => by
    rw [List.replicate_succ, List.replicate_succ, List.flatten_cons, List.flatten_cons]
    exact h.append (Reps.rep h k)
theorem grs_all : ∀ {xs : List D}, grs xs = true ↔ ∀ x ∈ xs, gr x = true
  | [] => by simp [grs]
  | x :: xs => by
    unfold grs
    rw [Bool.and_eq_true, grs_all (xs := xs)]
    simp
theorem grs_append {xs ys : List D} (h : grs xs = true) (k : grs ys = true) : grs (xs ++ ys) = true := grs_all.mpr fun x hx => by
  rcases List.mem_append.mp hx with z | z
  · exact grs_all.mp h x z
  · exact grs_all.mp k x z

/-! ### the store -/
/-- what a changing list or dict is in a heap -/
def CRep (S : Sta) (lk : List Addr) (H : Hp) (io : List Addr) : Cell → HO → Prop
  | .lst xs, o => ∃ vs, o = .lst vs ∧ vs.length ≤ lim ∧ grs xs = true ∧ Reps S lk H io xs vs
  | .dk kvs, o => ∃ kws, o = .dK kws ∧ kws.length ≤ lim ∧ grs (kvs.map (·.2)) = true ∧ kws.map (·.1) = kvs.map (·.1) ∧ Reps S lk H io (kvs.map (·.2)) (kws.map (·.2))
  | .ins c fs, o => ∃ C dx kvs, o = .ins C dx kvs ∧ S.ia c = some C ∧ grs (fs.map (·.2)) = true ∧ kvs.map (·.1) = fs.map (·.1) ∧ Reps S lk H io (fs.map (·.2)) (kvs.map (·.2))
theorem CRep.of {S' : Sta} {lk lk' : List Addr} {H H' : Hp} {io io' : List Addr} {c : Cell} {o : HO} (h : CRep S lk H io c o) (k : ∀ xs vs, grs xs = true → Reps S lk H io xs vs → Reps S' lk' H' io' xs vs) (hia : S.ia = S'.ia := by rfl) : CRep S' lk' H' io' c o := by
  cases c with
  | lst xs =>
    obtain ⟨vs, e, h1, h2, h3⟩ := h
    exact ⟨vs, e, h1, h2, k _ _ h2 h3⟩
  | dk kvs =>
    obtain ⟨kws, e, h1, h2, h3, h4⟩ := h
    exact ⟨kws, e, h1, h2, h3, k _ _ h2 h4⟩
  | ins a b =>
    obtain ⟨C, dx, kvs, e, h0, h1, h2, h3⟩ := h
    exact ⟨C, dx, kvs, e, hia ▸ h0, h1, h2, k _ _ h1 h3⟩
theorem CRep.kind {c : Cell} {o : HO} (h : CRep S lk H io c o) : (∃ vs, o = .lst vs) ∨ (∃ kws, o = .dK kws) ∨ ∃ C dx kvs, o = .ins C dx kvs := by
  cases c with
  | lst xs => exact .inl (let ⟨vs, e, _⟩ := h; ⟨vs, e⟩)
  | dk kvs => exact .inr (.inl (let ⟨vs, e, _⟩ := h; ⟨vs, e⟩))
  | ins a b => exact .inr (.inr (let ⟨C, dx, kvs, e, _⟩ := h; ⟨C, dx, kvs, e⟩))
structure Sto (S : Sta) (lk : List Addr) (H : Hp) (io : List Addr) (M : Mem) : Prop where
  nd : io.Nodup
  len : io.length = M.length
  cell : ∀ (i : Nat) (c : Cell), M[i]? = some c → ∃ a o, io[i]? = some a ∧ H a = some o ∧ CRep S lk H io c o
  lkd : ∀ a ∈ lk, (∃ vs, H a = some (.lst vs)) ∧ a ∉ io
  tabs : LamX.Tabs S.tb H
theorem Sto.at {M : Mem} (r : Sto S lk H io M) {a : Addr} (h : a ∈ io) : ∃ o, H a = some o ∧ ((∃ vs, o = .lst vs) ∨ (∃ kws, o = .dK kws) ∨ ∃ C dx kvs, o = .ins C dx kvs) := by
  obtain ⟨i, hi⟩ := List.getElem?_of_mem h
  have hl : i < M.length := by
    rw [← r.len]
    exact (List.getElem?_eq_some_iff.mp hi).1
  obtain ⟨a', o, e1, e2, e3⟩ := r.cell i M[i] (List.getElem?_eq_getElem hl)
  rw [hi] at e1
  cases e1
  exact ⟨o, e2, e3.kind⟩
theorem Sto.fresh {M : Mem} (r : Sto S lk H io M) {p : Addr} (h : H p = none) : p ∉ io ∧ p ∉ lk := by
  refine ⟨fun hm => ?_, fun hm => ?_⟩
  rotate_left
  · obtain ⟨⟨vs, e⟩, _⟩ := r.lkd p hm
    rw [h] at e
    cases e
  obtain ⟨o, e, _⟩ := r.at hm
  rw [h] at e
  cases e
/-- a new object: the store stands -/
theorem Sto.laid {M : Mem} (r : Sto S lk H io M) {p : Addr} {o : HO} (h : H p = none) : Sto S lk (upd H p o) io M := by
  have ne : ∀ a u, H a = some u → a ≠ p := fun a u e z => by
    rw [z, h] at e
    cases e
  refine ⟨r.nd, r.len, fun i c hc => ?_, fun a ha => ⟨?_, (r.lkd a ha).2⟩, r.tabs.ext fun a u e => by rw [upd_ne (ne a u e)]; exact e⟩
  · obtain ⟨a, u, h1, h2, h3⟩ := r.cell i c hc
    exact ⟨a, u, h1, by rw [upd_ne (ne a _ h2)]; exact h2, h3.of fun _ _ _ q => Reps.mono (Ext.laid h) _ _ q⟩
  · obtain ⟨vs', q⟩ := (r.lkd a ha).1
    exact ⟨vs', by rw [upd_ne (ne a _ q)]; exact q⟩
/-- a new list or dict is owned -/
theorem Sto.ownC {M : Mem} (r : Sto S lk H io M) {p : Addr} {c : Cell} {u : HO} (h : H p = none) (hv : CRep S lk H io c u) : Sto S lk (upd H p u) (io ++ [p]) (M ++ [c]) := by
  have ne : ∀ a u, H a = some u → a ≠ p := fun a u e z => by
    rw [z, h] at e
    cases e
  have x : Ext H io (upd H p u) (io ++ [p]) := Ext.own h
  refine ⟨?_, by rw [List.length_append, List.length_append, r.len]; rfl, fun i c hc => ?_, fun a ha => ⟨?_, fun hm => ?_⟩, r.tabs.ext fun a u e => by rw [upd_ne (ne a u e)]; exact e⟩
  · rw [List.nodup_append]
    refine ⟨r.nd, by simp, fun a ha b hb => ?_⟩
    have e : b = p := by simpa using hb
    rw [e]
    intro z
    rw [z] at ha
    exact (r.fresh h).1 ha
  · by_cases hi : i < M.length
    · rw [List.getElem?_append_left hi] at hc
      obtain ⟨a, w, h1, h2, h3⟩ := r.cell i c hc
      exact ⟨a, w, x.at h1, by rw [upd_ne (ne a _ h2)]; exact h2, h3.of fun _ _ _ q => Reps.mono x _ _ q⟩
    · rw [List.getElem?_append_right (Nat.le_of_not_lt hi)] at hc
      have e0 : i = M.length := by
        cases q : i - M.length with
        | zero => omega
        | succ n => rw [q] at hc; simp at hc
      subst e0
      simp at hc
      subst hc
      exact ⟨p, u, by rw [List.getElem?_append_right (by rw [r.len]; exact Nat.le_refl _), r.len]; simp, upd_same, hv.of fun _ _ _ q => Reps.mono x _ _ q⟩
  · obtain ⟨vs', q⟩ := (r.lkd a ha).1
    exact ⟨vs', by rw [upd_ne (ne a _ q)]; exact q⟩
  · rcases List.mem_append.mp hm with z | z
    · exact (r.lkd a ha).2 z
    · have e : a = p := by simpa using z
      rw [e] at ha
      obtain ⟨⟨vs', q⟩, _⟩ := r.lkd p ha
      rw [h] at q
      cases q
theorem Sto.own {M : Mem} (r : Sto S lk H io M) {p : Addr} {xs : List D} {vs : List V} (h : H p = none) (hv : Reps S lk H io xs vs) (hl : vs.length ≤ lim) (hg : grs xs = true) : Sto S lk (upd H p (.lst vs)) (io ++ [p]) (M ++ [.lst xs]) :=
  r.ownC h ⟨vs, rfl, hl, hg, hv⟩
/-- an owned list or dict is changed -/
theorem Sto.writeC {M : Mem} (r : Sto S lk H io M) {i : Nat} {a : Addr} {c : Cell} {u : HO} (hi : io[i]? = some a) (hv : CRep S lk H io c u) : Sto S lk (upd H a u) io (M.set i c) := by
  have hm : a ∈ io := List.mem_of_getElem? hi
  have x : Ext H io (upd H a u) io := Ext.write hm
  have hil : i < M.length := by
    rw [← r.len]
    exact (List.getElem?_eq_some_iff.mp hi).1
  obtain ⟨w, ea, ek⟩ := r.at hm
  refine ⟨r.nd, by rw [List.length_set, r.len], fun j c hc => ?_, fun b hb => ⟨?_, (r.lkd b hb).2⟩, fun p hp => ?_⟩
  · by_cases hj : i = j
    · subst hj
      rw [List.getElem?_set_self hil] at hc
      cases hc
      exact ⟨a, u, hi, upd_same, hv.of fun _ _ _ q => Reps.mono x _ _ q⟩
    · rw [List.getElem?_set_ne hj] at hc
      obtain ⟨b, w', h1, h2, h3⟩ := r.cell j c hc
      have nb : b ≠ a := fun z => by
        rw [z] at h1
        exact hj ((List.getElem?_inj (List.getElem?_eq_some_iff.mp hi).1 r.nd).mp (hi.trans h1.symm))
      exact ⟨b, w', h1, by rw [upd_ne nb]; exact h2, h3.of fun _ _ _ q => Reps.mono x _ _ q⟩
  · by_cases z : b = a
    · exact absurd hm (by rw [← z]; exact (r.lkd b hb).2)
    · rw [upd_ne z]
      exact (r.lkd b hb).1
  · obtain ⟨ps, h1, h2, h3⟩ := r.tabs p hp
    have n1 : p.1 ≠ a := fun z => by
      rw [z, ea] at h1
      rcases ek with ⟨vs, rfl⟩ | ⟨vs, rfl⟩ | ⟨C, dx, vs, rfl⟩ <;> cases h1
    refine ⟨ps, by rw [upd_ne n1]; exact h1, h2, fun pos cv q => ?_⟩
    obtain ⟨c, e1, e2⟩ := h3 pos cv q
    refine ⟨c, e1, ?_⟩
    rw [upd_ne fun z => ?_]
    · exact e2
    · rw [z, ea] at e2
      have e3 := Option.some.inj e2
      unfold LamX.CodeO at e3
      rcases ek with ⟨vs, rfl⟩ | ⟨vs, rfl⟩ | ⟨C, dx, vs, rfl⟩ <;> cases e3
theorem Sto.write {M : Mem} (r : Sto S lk H io M) {i : Nat} {a : Addr} {xs : List D} {vs : List V} (hi : io[i]? = some a) (hv : Reps S lk H io xs vs) (hl : vs.length ≤ lim) (hg : grs xs = true) : Sto S lk (upd H a (.lst vs)) io (M.set i (.lst xs)) :=
  r.writeC hi ⟨vs, rfl, hl, hg, hv⟩
theorem Sto.pick {M : Mem} (r : Sto S lk H io M) {i : Nat} {xs : List D} {a : Addr} (h : M[i]? = some (.lst xs)) (ha : io[i]? = some a) : ∃ vs, H a = some (.lst vs) ∧ vs.length ≤ lim ∧ grs xs = true ∧ Reps S lk H io xs vs := by
  obtain ⟨b, o, h1, h2, vs, rfl, h3, h4, h5⟩ := r.cell i _ h
  rw [ha] at h1
  cases h1
  exact ⟨vs, h2, h3, h4, h5⟩
theorem Sto.pickD {M : Mem} (r : Sto S lk H io M) {i : Nat} {kvs : List (Sum Int Str × D)} {a : Addr} (h : M[i]? = some (.dk kvs)) (ha : io[i]? = some a) :
    ∃ kws, H a = some (.dK kws) ∧ kws.length ≤ lim ∧ grs (kvs.map (·.2)) = true ∧ kws.map (·.1) = kvs.map (·.1) ∧ Reps S lk H io (kvs.map (·.2)) (kws.map (·.2)) := by
  obtain ⟨b, o, h1, h2, kws, rfl, h3, h4, h5, h6⟩ := r.cell i _ h
  rw [ha] at h1
  cases h1
  exact ⟨kws, h2, h3, h4, h5, h6⟩
/-- the dict's words in the heap and told -/
theorem keys_val {kvs : List (Sum Int Str × D)} {kws : List (L2.Key × V)} (h : kws.map (·.1) = kvs.map (·.1)) (k : Sum Int Str) : (valV kws k).isSome = hasK kvs k := by
  induction kws generalizing kvs with
  | nil =>
    cases kvs with
    | nil => rfl
    | cons p r => cases h
  | cons q r ih =>
    cases kvs with
    | nil => cases h
    | cons p r' =>
      simp only [List.map_cons, List.cons.injEq] at h
      unfold hasK
      rw [List.any_cons, ← h.1]
      by_cases e : q.1 = k
      · rw [valV_pos e, decide_eq_true e]
        rfl
      · rw [valV_neg e, decide_eq_false e, Bool.false_or]
        exact ih h.2
theorem keys_any {kvs : List (Sum Int Str × D)} {kws : List (L2.Key × V)} (h : kws.map (·.1) = kvs.map (·.1)) (k : Sum Int Str) : (kws.any fun kv => decide (kv.1 = k)) = hasK kvs k := by
  have e1 : (kws.any fun kv => decide (kv.1 = k)) = ((kws.map (·.1)).any fun x => decide (x = k)) := by rw [List.any_map]; rfl
  have e2 : hasK kvs k = ((kvs.map (·.1)).any fun x => decide (x = k)) := by unfold hasK; rw [List.any_map]; rfl
  rw [e1, e2, h]
theorem put_rep {kvs : List (Sum Int Str × D)} {kws : List (L2.Key × V)} {k : Sum Int Str} {d : D} {v : V} (h : kws.map (·.1) = kvs.map (·.1)) (hr : Reps S lk H io (kvs.map (·.2)) (kws.map (·.2))) (hg : grs (kvs.map (·.2)) = true) (hd : gr d = true) (rd : Rep S lk H io d v) :
    (putK kws k v).map (·.1) = (setK kvs k d).map (·.1) ∧ Reps S lk H io ((setK kvs k d).map (·.2)) ((putK kws k v).map (·.2)) ∧ grs ((setK kvs k d).map (·.2)) = true ∧ (putK kws k v).length ≤ kws.length + 1 := by
  unfold putK setK
  rw [keys_any h k]
  split
  · rename_i hk
    clear hk
    refine ⟨?_, ?_, ?_, by rw [List.length_map]; omega⟩
    · rw [List.map_map, List.map_map]
      have a1 : ∀ (l : List (L2.Key × V)), l.map ((fun x => x.1) ∘ fun kv => if kv.1 = k then (kv.1, v) else kv) = l.map (·.1) := fun l => List.map_congr_left fun kv _ => by
        show (if kv.1 = k then (kv.1, v) else kv).1 = _
        split <;> rfl
      have a2 : ∀ (l : List (Sum Int Str × D)), l.map ((fun x => x.1) ∘ fun kv => if kv.1 = k then (kv.1, d) else kv) = l.map (·.1) := fun l => List.map_congr_left fun kv _ => by
        show (if kv.1 = k then (kv.1, d) else kv).1 = _
        split <;> rfl
      rw [a1, a2, h]
    · clear hg
      induction kws generalizing kvs with
      | nil =>
        cases kvs with
        | nil => exact .nil
        | cons p r => cases h
      | cons q r ih =>
        cases kvs with
        | nil => cases h
        | cons p r' =>
          simp only [List.map_cons, List.cons.injEq] at h
          obtain ⟨_, _, e, h1, h2⟩ := hr.inv
          cases e
          have t := ih h.2 h2
          simp only [List.map_cons]
          by_cases e : q.1 = k
          · rw [if_pos e, if_pos (by rw [← h.1]; exact e)]
            exact .cons rd t
          · rw [if_neg e, if_neg (by rw [← h.1]; exact e)]
            exact .cons h1 t
    · refine grs_all.mpr fun x hx => ?_
      simp only [List.mem_map] at hx
      obtain ⟨p, ⟨q, hq, rfl⟩, rfl⟩ := hx
      split
      · exact hd
      · exact grs_all.mp hg _ (List.mem_map_of_mem hq)
  · refine ⟨by rw [List.map_append, List.map_append, h]; rfl, ?_, ?_, by rw [List.length_append]; exact Nat.le_refl _⟩
    · rw [List.map_append, List.map_append]
      exact hr.append (.cons rd .nil)
    · rw [List.map_append]
      exact grs_append hg (grs_all.mpr fun x hx => by
        rw [show x = d by simpa using hx]
        exact hd)

/-- the slots of a def -/
structure Slots (S : Sta) (lk : List Addr) (H : Hp) (io : List Addr) (σ : L2.St) (r : Rho) : Prop where
  len : σ.length = r.length
  get : ∀ (i : Nat) (d : D), r[i]? = some (some d) → ∃ v, σ[i]? = some (some v) ∧ Rep S lk H io d v
theorem Slots.mono {σ : L2.St} {r : Rho} (s : Slots S lk H io σ r) (x : Ext H io H1 io1) : Slots S lk H1 io1 σ r := ⟨s.len, fun i d h => by
  obtain ⟨v, e, q⟩ := s.get i d h
  exact ⟨v, e, Rep.mono x d v q⟩⟩
theorem Slots.lock {lk' : List Addr} {σ : L2.St} {r : Rho} (s : Slots S lk H io σ r) (hl : ∀ a vs, H a = some (.lst vs) → a ∉ io → a ∉ lk → a ∉ lk') : Slots S lk' H io σ r := ⟨s.len, fun i d h => by
  obtain ⟨v, e, q⟩ := s.get i d h
  exact ⟨v, e, Rep.lock hl d v q⟩⟩
theorem Slots.set {σ : L2.St} {r : Rho} {i : Nat} {d : D} {v : V} (s : Slots S lk H io σ r) (h : Rep S lk H io d v) : Slots S lk H io (σ.set i (some v)) (r.set i (some d)) := by
  refine ⟨by rw [List.length_set, List.length_set, s.len], fun j e hj => ?_⟩
  by_cases hji : i = j
  · subst hji
    by_cases hl : i < r.length
    · rw [List.getElem?_set_self hl] at hj
      cases hj
      exact ⟨v, by rw [List.getElem?_set_self (by rw [s.len]; exact hl)], h⟩
    · rw [List.getElem?_eq_none (by simpa using Nat.le_of_not_lt hl)] at hj
      cases hj
  · rw [List.getElem?_set_ne hji] at hj
    obtain ⟨u, e1, q⟩ := s.get j e hj
    exact ⟨u, by rw [List.getElem?_set_ne hji]; exact e1, q⟩
theorem Slots.unset {σ : L2.St} {r : Rho} {i : Nat} (s : Slots S lk H io σ r) : Slots S lk H io (σ.set i none) (r.set i none) := by
  refine ⟨by rw [List.length_set, List.length_set, s.len], fun j e hj => ?_⟩
  by_cases hji : i = j
  · subst hji
    by_cases hl : i < r.length
    · rw [List.getElem?_set_self hl] at hj
      cases hj
    · rw [List.getElem?_eq_none (by simpa using Nat.le_of_not_lt hl)] at hj
      cases hj
  · rw [List.getElem?_set_ne hji] at hj
    obtain ⟨u, e1, q⟩ := s.get j e hj
    exact ⟨u, by rw [List.getElem?_set_ne hji]; exact e1, q⟩
theorem Slots.wipe {σ : L2.St} {r : Rho} (s : Slots S lk H io σ r) : ∀ own : List Nat, Slots S lk H io (L2.wipe σ own) (wipeR r own)
  | [] => s
  | v :: vs => (Slots.wipe s vs).unset

/-- an exception: its class, its own dict -/
def RepX (S : Sta) (lk : List Addr) (H : Hp) (io : List Addr) (c : Nat) (fs : List D) (cls : Value) (dx : Option Addr) : Prop :=
  ∃ C p kvs, S.ca c = some C ∧ cls = .ref C ∧ dx = some p ∧ H p = some (.xd kvs) ∧ p ∉ io ∧ kvs.map (·.1) = S.fl c ∧ Reps S lk H io fs (kvs.map (·.2))

/-! ### what a reading owes -/
def PostE (S : Sta) (W : WX) (lk : List Addr) (σ : L2.St) (H : Hp) (io : List Addr) (r : Res) (Q : VK) : Prop := match r with
  | .ok d M => ∀ v H1 io1, Sto S lk H1 io1 M → Ext H io H1 io1 → Rep S lk H1 io1 d v → Q v H1
  | .exn c fs M => ∀ cls dx H1 io1, Sto S lk H1 io1 M → Ext H io H1 io1 → RepX S lk H1 io1 c fs cls dx → W cls dx σ H1
  | .stuck => False
/-- of a list of arguments -/
def PostA (S : Sta) (W : WX) (lk : List Addr) (σ : L2.St) (H : Hp) (io : List Addr) (r : Res) (Q : List V → Hp → Prop) : Prop := match r with
  | .ok d M => ∃ ds, d = .tup ds ∧ ∀ vs H1 io1, Sto S lk H1 io1 M → Ext H io H1 io1 → Reps S lk H1 io1 ds vs → Q vs H1
  | .exn c fs M => ∀ cls dx H1 io1, Sto S lk H1 io1 M → Ext H io H1 io1 → RepX S lk H1 io1 c fs cls dx → W cls dx σ H1
  | .stuck => False
/-- of a test -/
def PostT (S : Sta) (W : WX) (lk : List Addr) (σ : L2.St) (H : Hp) (io : List Addr) (r : Res) (Q : Bool → Hp → Prop) : Prop := match r with
  | .ok d M => ∃ b, d = .bl b ∧ ∀ H1 io1, Sto S lk H1 io1 M → Ext H io H1 io1 → Q b H1
  | .exn c fs M => ∀ cls dx H1 io1, Sto S lk H1 io1 M → Ext H io H1 io1 → RepX S lk H1 io1 c fs cls dx → W cls dx σ H1
  | .stuck => False
variable {W : WX} {σ : L2.St} {r : Res} {k : D → Mem → Res}
theorem PostE.ext {Q : VK} (x : Ext H io H1 io1) (h : PostE S W lk σ H io r Q) : PostE S W lk σ H1 io1 r Q := by
  cases r with
  | ok d M => exact fun v H2 io2 a b c => h v H2 io2 a (x.trans b) c
  | exn c fs M => exact fun cls dx H2 io2 a b c => h cls dx H2 io2 a (x.trans b) c
  | stuck => exact h
theorem PostA.ext {Q : List V → Hp → Prop} (x : Ext H io H1 io1) (h : PostA S W lk σ H io r Q) : PostA S W lk σ H1 io1 r Q := by
  cases r with
  | ok d M =>
    obtain ⟨ds, e, h⟩ := h
    exact ⟨ds, e, fun v H2 io2 a b c => h v H2 io2 a (x.trans b) c⟩
  | exn c fs M => exact fun cls dx H2 io2 a b c => h cls dx H2 io2 a (x.trans b) c
  | stuck => exact h
theorem PostT.ext {Q : Bool → Hp → Prop} (x : Ext H io H1 io1) (h : PostT S W lk σ H io r Q) : PostT S W lk σ H1 io1 r Q := by
  cases r with
  | ok d M =>
    obtain ⟨b, e, h⟩ := h
    exact ⟨b, e, fun H2 io2 a b => h H2 io2 a (x.trans b)⟩
  | exn c fs M => exact fun cls dx H2 io2 a b c => h cls dx H2 io2 a (x.trans b) c
  | stuck => exact h
/-- one behind another -/
theorem post_bind {Q Qa : VK} {A : VK → Prop} (hA : ∀ Qa, PostE S W lk σ H io r Qa → A Qa) (h : PostE S W lk σ H io (r.bind k) Q)
    (hk : ∀ d M1 v H1 io1, Sto S lk H1 io1 M1 → Ext H io H1 io1 → Rep S lk H1 io1 d v → PostE S W lk σ H1 io1 (k d M1) Q → Qa v H1) : A Qa := by
  refine hA Qa ?_
  cases r with
  | ok d M => exact fun v H1 io1 a b c => hk d M v H1 io1 a b c (PostE.ext b h)
  | exn c fs M => exact h
  | stuck => exact h
theorem post_bindA {Q : VK} {Qa : List V → Hp → Prop} {A : (List V → Hp → Prop) → Prop} (hA : ∀ Qa, PostA S W lk σ H io r Qa → A Qa) (h : PostE S W lk σ H io (r.bind k) Q) (hn : ∀ d M1, (∀ ds, d ≠ .tup ds) → k d M1 = .stuck)
    (hk : ∀ ds M1 vs H1 io1, Sto S lk H1 io1 M1 → Ext H io H1 io1 → Reps S lk H1 io1 ds vs → PostE S W lk σ H1 io1 (k (.tup ds) M1) Q → Qa vs H1) : A Qa := by
  refine hA Qa ?_
  cases r with
  | ok d M =>
    by_cases q : ∃ ds, d = .tup ds
    · obtain ⟨ds, rfl⟩ := q
      exact ⟨ds, rfl, fun v H1 io1 a b c => hk ds M v H1 io1 a b c (PostE.ext b h)⟩
    · have e : k d M = .stuck := hn d M fun ds z => q ⟨ds, z⟩
      have h' : PostE S W lk σ H io (k d M) Q := h
      rw [e] at h'
      exact h'.elim
  | exn c fs M => exact h
  | stuck => exact h

/-- the readings of expressions, argument lists, tests, by what the interpreter gives -/
def TEd (S : Sta) (W : WX) (t : TE) (f : Rho → Mem → Res) : Prop := ∀ lk σ H r M io Q, Sto S lk H io M → Slots S lk H io σ r → PostE S W lk σ H io (f r M) Q → t σ H Q
def TAd (S : Sta) (W : WX) (t : TA) (f : Rho → Mem → Res) : Prop := ∀ lk σ H r M io Q, Sto S lk H io M → Slots S lk H io σ r → PostA S W lk σ H io (f r M) Q → t σ H Q
def TTd (S : Sta) (W : WX) (t : TT) (f : Rho → Mem → Res) : Prop := ∀ lk σ H r M io Q, Sto S lk H io M → Slots S lk H io σ r → PostT S W lk σ H io (f r M) Q → t σ H Q
end
end Iv

/-! ## IvI -/
/-! Iv, part I: walks over a list or a tuple, over zip and enumerate of such in any mix. -/
namespace PySem
/-- enumerate(v), v anything that begins -/
theorem ivEnumMeets {v : Value} {o : Obj} {G : Heap → Prop} (B : Begins v o G) :
    Meets (Builtin.«enumerate.__new__» ⟨[.type "enumerate", v], []⟩) (fun _ R s => G s.heap ∧
      R (.ok (.ret (.ref (s.heap.push o).objs.size)))
        { s with heap := (s.heap.push o).push { cls := .type "enumerate", data := .fields #[.none, .bool false, .ref s.heap.objs.size, rawInt 0, .none, .none] } }) := by
  refine .of_wp fun pr wo Ar Rr st hst => ?_
  obtain ⟨hp, g, d, tk, os⟩ := st
  obtain ⟨hG, hR⟩ := hst
  have hsub := sub_enumerate
  have begin_ : ∀ {Ai : Around} {Ei : Value → Shared → Prop} {Qi : Value → Shared → Prop}, Qi (.ref hp.objs.size) ⟨hp.push o, g, d, tk, os⟩ →
      wpAny (model pr wo) Ai (pyIter v) Qi Ei ⟨hp, g, d, tk, os⟩ := fun hq => B.iter pr wo _ _ ⟨hp, g, d, tk, os⟩ _ hG hq
  wp_walk using begin_
  apply wpAny_stack_any
  intro stk
  apply wpAny_pure
  split
  · rename_i c _ _ _ _ _
    by_cases hc : (c == Value.type "enumerate") = true
    · simp only [hc]
      wp_walk using begin_
      exact ⟨_, rfl, hR⟩
    · have hc' : (c == Value.type "enumerate") = false := by simpa using hc
      simp only [hc']
      wp_walk using begin_
      exact ⟨_, rfl, hR⟩
  · wp_walk using begin_
    exact ⟨_, rfl, hR⟩
end PySem
namespace Iv
open PySem PySem.Spec PyProof.Rows L2
section
variable {prog : Program} {w : World} {A : Around} {E : Value → Shared → Prop} {s : Shared}
theorem enumBegins {v : Value} {o : Obj} {G : Heap → Prop} {Q : Value → Shared → Prop} (B : Begins v o G) (hG : G s.heap)
    (hq : ∀ h' : Heap, IsEnum h' (s.heap.objs.size + 1) s.heap.objs.size 0 .none → h'.get? s.heap.objs.size = some o → (∀ b u, s.heap.get? b = some u → h'.get? b = some u) →
      Q (.ref (s.heap.objs.size + 1)) { s with heap := h' }) : wpAny (model prog w) A (call (.type "enumerate") [v]) Q E s := by
  refine callType_new F.called_enumerate (by decide) (F.typeCall_enumerate_1 _) (F.newCall_enumerate_1 _) (fun obj => F.args_object_init_2 obj _) F.entry_enumerate_new (PySem.ivEnumMeets B) ⟨hG, ?_⟩
  have sz : (s.heap.push o).objs.size = s.heap.objs.size + 1 := Heap.size_push ..
  have en : IsEnum ((s.heap.push o).push { cls := .type "enumerate", data := .fields #[.none, .bool false, .ref s.heap.objs.size, rawInt 0, .none, .none] }) (s.heap.objs.size + 1) s.heap.objs.size 0 .none := by
    have z := Heap.get?_push_size (s.heap.push o) (o := { cls := .type "enumerate", data := .fields #[.none, .bool false, .ref s.heap.objs.size, rawInt 0, .none, .none] }) rfl
    rw [sz] at z
    exact z
  show _ ∧ _
  rw [sz]
  exact ⟨⟨_, en, rfl⟩, hq _ en (Heap.get?_push_of_some _ (Heap.get?_push_size _ B.free)) fun b u e => Heap.get?_push_of_some _ (Heap.get?_push_of_some _ e)⟩
end
/-- a list (false) or a tuple (true) at a -/
def SqK (K : PySem.W.Frag) (H : Hp) (t : Bool) (a : Addr) (xs : List V) : Prop := match t with
  | false => SqL K H a xs
  | true => SqT K H a xs
def itAt (t : Bool) (h : Heap) (it a : Addr) (i : Nat) : Prop := match t with
  | false => h.IsListIter it a i
  | true => h.IsTupleIter it a i
def sqAt (t : Bool) (h : Heap) (a : Addr) (items : Array Value) : Prop := match t with
  | false => h.IsList a items
  | true => h.IsTuple a items
section
variable {X : Cx} {pins : List (Addr × Obj)} {σ : L2.St} {H : Hp} {s : Shared} {t u : Bool} {a b : Addr} {xs ys : List V}
theorem sqk_of (I : Inv X pins σ H s) (h : SqK X.K H t a xs) : ∃ its : List Value, Vals xs its ∧ sqAt t s.heap a its.toArray ∧ xs.length ≤ sizeLine := by
  cases t with
  | false =>
    obtain ⟨its, r, p, z⟩ := I.list h
    exact ⟨its, r, p.isList, z⟩
  | true =>
    obtain ⟨its, r, p, z⟩ := I.tuple h
    exact ⟨its, r, p, z⟩
theorem sqk_inj (I : Inv X pins σ H s) (h : SqK X.K H t a xs) (k : SqK X.K H t a ys) : xs = ys := by
  cases t with
  | false => exact I.list_inj h k
  | true => exact I.tuple_inj h k
theorem itAt_obj {h : Heap} {it : Addr} {i : Nat} (x : itAt t h it a i) : ∃ o, h.get? it = some o ∧ ∀ v, o.data ≠ .cell v := by
  cases t with
  | false =>
    obtain ⟨o, e, _, d⟩ := x
    exact ⟨o, e, fun v z => by rw [d] at z; cases z⟩
  | true =>
    obtain ⟨o, e, _, d⟩ := x
    exact ⟨o, e, fun v z => by rw [d] at z; cases z⟩
theorem itAt_keep {h h' : Heap} {it : Addr} {i : Nat} (x : itAt t h it a i) (k : ∀ o, h.get? it = some o → h'.get? it = some o) : itAt t h' it a i := by
  cases t with
  | false => exact Heap.IsListIter.at x k
  | true => exact Heap.IsTupleIter.at x k
theorem draws_k {P : Program} {w : World} {Ar : Around} (hh : Ar.handled = none) (t : Bool) (it a : Addr) (hne : a ≠ it) (items : Array Value) :
    Draws P w Ar it [it, a] items.size (fun i v => items[i]? = some v) (fun i h => itAt t h it a i ∧ sqAt t h a items) := by
  cases t with
  | false => exact Draws.list hh it a hne items
  | true => exact Draws.tuple hh it a hne items
/-- the object that iter(..) makes -/
def itO (t : Bool) (a : Addr) : Obj := match t with
  | false => { cls := .type "list_iterator", data := .fields #[.ref a, .int 0 0] }
  | true => { cls := .type "tuple_iterator", data := .fields #[.ref a, .int 0 0] }
theorem begins_k (t : Bool) (a : Addr) (items : Array Value) : Begins (.ref a) (itO t a) (fun h => sqAt t h a items) := by
  cases t with
  | false => exact begins_list a items
  | true => exact begins_tuple a items
theorem itAt_new {h : Heap} {it : Addr} (e : h.get? it = some (itO t a)) : itAt t h it a 0 := by
  cases t with
  | false => exact ⟨_, e, rfl, rfl⟩
  | true => exact ⟨_, e, rfl, rfl⟩
theorem sqAt_lt {h : Heap} {items : Array Value} (x : sqAt t h a items) : a < h.objs.size := by
  cases t with
  | false =>
    obtain ⟨o, e, _⟩ := x
    exact Heap.lt_size e
  | true =>
    obtain ⟨o, e, _⟩ := x
    exact Heap.lt_size e
end

/-! ### zip of two -/
def ItzK (K : PySem.W.Frag) (t u : Bool) (a b : Addr) : It :=
  ⟨fun i H => ∃ (xs ys : List V) (x y : V), SqK K H t a xs ∧ SqK K H u b ys ∧ xs[i]? = some x ∧ ys[i]? = some y,
    fun i H v H' => ∃ T x y, v = .ref T ∧ H T = none ∧ H' = upd H T (.tup [x, y]) ∧ (∀ xs, SqK K H t a xs → xs[i]? = some x) ∧ ∀ ys, SqK K H u b ys → ys[i]? = some y,
    fun i H => ∃ xs ys : List V, SqK K H t a xs ∧ SqK K H u b ys ∧ i = min xs.length ys.length⟩
theorem mem5 {z TI TO i1 i2 c : Addr} (h : c ∈ [z, TI, TO, i1, i2]) : c = z ∨ c = TI ∨ c = TO ∨ c = i1 ∨ c = i2 := by simpa using h
theorem turn_zipK {P : Program} {w : World} {K : PySem.W.Frag} {elts : List Expr} {kk : Nat} {tpos : Pos} {t u : Bool} {a b z TI TO i1 i2 : Addr} (D : ZipSep2 z TI TO i1 i2 [i1, a] [i2, b]) (h1 : a ≠ i1) (h2 : b ≠ i2) :
    Turn P w K (.Tuple elts kk tpos) (ItzK K t u a b) [z, TI, TO, i1, i2] z (fun i h => IsZip h z TI TO .none ∧ IsTupOf2 h TI (.ref i1) (.ref i2) ∧ (∃ v1 v2, IsTupOf2 h TO v1 v2) ∧ itAt t h i1 a i ∧ itAt u h i2 b i) where
  mem := by simp
  obj := by
    intro i h st c hc
    obtain ⟨e1, e2, ⟨v1, v2, e3⟩, e4, e5⟩ := st
    rcases mem5 hc with q | q | q | q | q
    · exact ⟨_, by rw [q]; exact e1, fun v q' => by cases q'⟩
    · exact ⟨_, by rw [q]; exact e2, fun v q' => by cases q'⟩
    · exact ⟨_, by rw [q]; exact e3, fun v q' => by cases q'⟩
    · rw [q]
      exact itAt_obj e4
    · rw [q]
      exact itAt_obj e5
  keep := by
    intro i h h' st k
    obtain ⟨e1, e2, ⟨v1, v2, e3⟩, e4, e5⟩ := st
    exact ⟨k z (by simp) _ e1, k TI (by simp) _ e2, ⟨v1, v2, k TO (by simp) _ e3⟩, itAt_keep e4 fun o q => k i1 (by simp) o q, itAt_keep e5 fun o q => k i2 (by simp) o q⟩
  item := by
    intro X eP eW eK hc i pins s σ H E I hf st hg
    subst eP eW eK
    obtain ⟨e1, e2, e3, e4, e5⟩ := st
    obtain ⟨xs, ys, x, y, qx, qy, hx, hy⟩ := hg
    obtain ⟨its1, rv1, p1, _⟩ := sqk_of I qx
    obtain ⟨its2, rv2, p2, _⟩ := sqk_of I qy
    have hd : X.A.in1.handled = none := I.ok.hd hc
    have G := GoesN.zip2 (elts := elts) (x1 := kk) (pos := tpos) D (draws_k (P := X.prog) (w := X.w) hd t i1 a h1 its1.toArray) (draws_k (P := X.prog) (w := X.w) hd u i2 b h2 its2.toArray)
    obtain ⟨u1, hu1, ru1⟩ := rv1.get hx
    obtain ⟨u2, hu2, ru2⟩ := rv2.get hy
    have l1 : i < its1.length := (List.getElem?_eq_some_iff.mp hu1).1
    have l2 : i < its2.length := (List.getElem?_eq_some_iff.mp hu2).1
    refine G.goes i s (fun v s2 => ∃ x H', Inv X pins σ H' s2 ∧ RelV x v ∧ (ItzK X.K t u a b).yld i H x H' ∧ (IsZip s2.heap z TI TO .none ∧ IsTupOf2 s2.heap TI (.ref i1) (.ref i2) ∧ (∃ v1 v2, IsTupOf2 s2.heap TO v1 v2) ∧ itAt t s2.heap i1 a (i + 1) ∧ itAt u s2.heap i2 b (i + 1)) ∧ ∀ c ∈ [z, TI, TO, i1, i2], H' c = none) E
      (by simp only [List.size_toArray]; omega) ⟨e1, e2, e3, ⟨e4, p1⟩, ⟨e5, p2⟩⟩ fun v h' tk hY hSt hk htk => ?_
    obtain ⟨T, w1, w2, rfl, hT, g1, g2, hTup⟩ := hY
    have z1 : w1 = u1 := by
      have q : its1.toArray[i]? = some u1 := by simpa using hu1
      rw [q] at g1
      exact (Option.some.inj g1).symm
    have z2 : w2 = u2 := by
      have q : its2.toArray[i]? = some u2 := by simpa using hu2
      rw [q] at g2
      exact (Option.some.inj g2).symm
    subst z1 z2
    have nw : ObjOk X.prog X.w (upd H T (.tup [x, y])) h' T (.tup [x, y]) := by
      refine ⟨by show 2 ≤ sizeLine; decide, [w1, w2], .cons ru1 (.cons ru2 .nil), ?_⟩
      exact hTup
    have J : Inv X pins σ (upd H T (.tup [x, y])) { s with heap := h', toks := tk } := I.turnedNew (ch := [z, TI, TO, i1, i2])
      (fun c o hb q => hk c o (fun q' => hb (by rcases (show c = z ∨ c = TO ∨ c = i1 ∨ c = i2 by simpa using q') with r | r | r | r <;> simp [r])) q) hf hT nw
    refine ⟨.ref T, _, J, rfl, ⟨T, x, y, rfl, I.hok.fresh hT, rfl, fun l hl => by rw [sqk_inj I hl qx]; exact hx, fun l hl => by rw [sqk_inj I hl qy]; exact hy⟩, ⟨hSt.1, hSt.2.1, hSt.2.2.1, hSt.2.2.2.1.1, hSt.2.2.2.2.1⟩, fun c hcm => ?_⟩
    have hlt : c < s.heap.objs.size := by
      rcases mem5 hcm with q | q | q | q | q
      · rw [q]; exact Heap.lt_size e1
      · rw [q]; exact Heap.lt_size e2
      · rw [q]; obtain ⟨v1, v2, e3⟩ := e3; exact Heap.lt_size e3
      · rw [q]; obtain ⟨o, e, _⟩ := itAt_obj e4; exact Heap.lt_size e
      · rw [q]; obtain ⟨o, e, _⟩ := itAt_obj e5; exact Heap.lt_size e
    rw [upd_ne (Nat.ne_of_lt (Nat.lt_of_lt_of_le hlt hT))]
    exact (hf c hcm).1
  done := by
    intro X eP eW eK hc i pins s σ H E I hf st hg
    subst eP eW eK
    obtain ⟨e1, e2, e3, e4, e5⟩ := st
    obtain ⟨xs, ys, qx, qy, hi⟩ := hg
    obtain ⟨its1, rv1, p1, _⟩ := sqk_of I qx
    obtain ⟨its2, rv2, p2, _⟩ := sqk_of I qy
    have hd : X.A.in1.handled = none := I.ok.hd hc
    have G := GoesN.zip2 (elts := elts) (x1 := kk) (pos := tpos) D (draws_k (P := X.prog) (w := X.w) hd t i1 a h1 its1.toArray) (draws_k (P := X.prog) (w := X.w) hd u i2 b h2 its2.toArray)
    have ei : i = min its1.toArray.size its2.toArray.size := by
      rw [hi, rv1.length, rv2.length]
      simp
    subst ei
    refine G.stops s (fun s1 => Inv X pins σ H s1) E ⟨e1, e2, e3, ⟨e4, p1⟩, ⟨e5, p2⟩⟩ fun h' tk hk htk => ?_
    exact I.turnedL (ch := [z, TI, TO, i1, i2]) (fun c o hb q => hk c o (fun q' => hb (by rcases (show c = z ∨ c = TO ∨ c = i1 ∨ c = i2 by simpa using q') with r | r | r | r <;> simp [r])) q) hf
  self := fun A i s Q E st h => wpAny_pyIter_zip st.1 h

def iZipK (K : PySem.W.Frag) (ta : L2.TA) : TI := fun σ H R => ta σ H fun vs H1 => ∃ t u a b xs ys, vs = [.ref a, .ref b] ∧ SqK K H1 t a xs ∧ SqK K H1 u b ys ∧ R (ItzK K t u a b) H1
/-- zip of two, the target open: its turns are given -/
theorem pi_zipX {X : Cx} {tg e e2 : Expr} {ta : L2.TA} {p pos : Pos}
    (turn : ∀ (t u : Bool) (a b z TI TO i1 i2 : Addr), ZipSep2 z TI TO i1 i2 [i1, a] [i2, b] → a ≠ i1 → b ≠ i2 → ∃ tn : Nat → Heap → Prop, Turn X.prog X.w X.K tg (ItzK X.K t u a b) [z, TI, TO, i1, i2] z tn ∧
      ∀ h, IsZip h z TI TO .none → IsTupOf2 h TI (.ref i1) (.ref i2) → (∃ v1 v2, IsTupOf2 h TO v1 v2) → itAt t h i1 a 0 → itAt u h i2 b 0 → tn 0 h)
    (hg : Gl X "zip") (hm : X.mg "zip" = none) (ha : PA X [e, e2] ta)
    (hs : starEach [e, e2] X.env = (false, eval e X.env) :: starEach [e2] X.env) (hpl : (backTo pos (starEach [e2] X.env)).any (·.1) = false) :
    PI X tg (.Call (.Name "zip" p) [e, e2] [] pos) (iZipK X.K ta) := by
  constructor
  intro pins s σ H R I h
  refine Call_ (ld_blt I hg hm PyProof.Rows.boot_zip (PyProof.Rows.callWith_type1 (thn (ha.run pos pins s σ H _ I h) fun us s1 hus => ?_) hs hpl))
  obtain ⟨vs, H1, J, r, t, u, a, b, xs, ys, ex, qx, qy, q⟩ := hus
  subst ex
  obtain ⟨w1, w2, rfl, r1, r2⟩ := vals2 r
  cases (show w1 = Value.ref a from r1)
  cases (show w2 = Value.ref b from r2)
  obtain ⟨its1, rv1, p1, _⟩ := sqk_of J qx
  obtain ⟨its2, rv2, p2, _⟩ := sqk_of J qy
  have la := sqAt_lt p1
  have lb := sqAt_lt p2
  refine zip_begins2 (begins_k t a its1.toArray) (begins_k u b its2.toArray) p1 p2 fun h' c1 c2 c3 c4 c5 c6 c7 => wpAny_pyIter_zip c1 ?_
  have J2 : Inv X pins σ H1 { s1 with heap := h' } := J.kept (t' := s1.toks) c7
  generalize hN : s1.heap.objs.size = N at *
  have D : ZipSep2 (N + 4) (N + 2) (N + 3) N (N + 1) [N, a] [N + 1, b] := by
    have f : ∀ {x y : Nat}, x ≠ y → (x : Addr) ≠ y := fun q => q
    have ga : ∀ k : Nat, N + k ≠ a := fun k q => by
      have la' : a < N := la
      rw [← q] at la'
      exact absurd la' (Nat.not_lt.mpr (Nat.le_add_right N k))
    have gb : ∀ k : Nat, N + k ≠ b := fun k q => by
      have lb' : b < N := lb
      rw [← q] at lb'
      exact absurd lb' (Nat.not_lt.mpr (Nat.le_add_right N k))
    have g0 : ∀ i j : Nat, i ≠ j → N + i ≠ N + j := fun i j h q => h (Nat.add_left_cancel q)
    have gz : ∀ i : Nat, 0 ≠ i → N + i ≠ N := fun i h q => h (Nat.add_left_cancel (q.trans (Nat.add_zero N).symm)).symm
    refine ⟨g0 2 4 (by decide), g0 3 4 (by decide), g0 2 3 (by decide), gz 2 (by decide), by simp, ?_, ?_, g0 2 1 (by decide), by simp, ?_, ?_, ?_, ?_⟩
    · intro q
      rcases (show N + 4 = N ∨ N + 4 = a by simpa using q) with z | z
      · exact gz 4 (by decide) z
      · exact ga 4 z
    · intro q
      rcases (show N + 3 = N ∨ N + 3 = a by simpa using q) with z | z
      · exact gz 3 (by decide) z
      · exact ga 3 z
    · intro q
      rcases (show N + 4 = N + 1 ∨ N + 4 = b by simpa using q) with z | z
      · exact g0 4 1 (by decide) z
      · exact gb 4 z
    · intro q
      rcases (show N + 3 = N + 1 ∨ N + 3 = b by simpa using q) with z | z
      · exact g0 3 1 (by decide) z
      · exact gb 3 z
    · intro q
      rcases (show N = N + 1 ∨ N = b by simpa using q) with z | z
      · exact gz 1 (by decide) z.symm
      · exact gb 0 z
    · intro q
      rcases (show N + 1 = N ∨ N + 1 = a by simpa using q) with z | z
      · exact gz 1 (by decide) z
      · exact ga 1 z
  obtain ⟨tn, hT, h0⟩ := turn t u a b (N + 4) (N + 2) (N + 3) N (N + 1) D (Nat.ne_of_lt la) (Nat.ne_of_lt (Nat.lt_succ_of_lt lb))
  refine ⟨N + 4, [N + 4, N + 2, N + 3, N, N + 1], tn, _, H1, rfl, J2, hT, h0 _ c1 c2 ⟨_, _, c3⟩ (itAt_new c4) (itAt_new c5), fun c hcm => ?_, q⟩
  have hle : N ≤ c := by
    rcases mem5 hcm with z | z | z | z | z
    · rw [z]; exact Nat.le_add_right _ _
    · rw [z]; exact Nat.le_add_right _ _
    · rw [z]; exact Nat.le_add_right _ _
    · rw [z]; exact Nat.le_refl _
    · rw [z]; exact Nat.le_add_right _ _
  exact J.fpOk (by rw [hN]; exact hle) (J.hok.fresh (by rw [hN]; exact hle))

theorem pi_zipK {X : Cx} {e e2 : Expr} {ta : L2.TA} {p pos tpos : Pos} {elts : List Expr} {kk : Nat} (hg : Gl X "zip") (hm : X.mg "zip" = none) (ha : PA X [e, e2] ta)
    (hs : starEach [e, e2] X.env = (false, eval e X.env) :: starEach [e2] X.env) (hpl : (backTo pos (starEach [e2] X.env)).any (·.1) = false) :
    PI X (.Tuple elts kk tpos) (.Call (.Name "zip" p) [e, e2] [] pos) (iZipK X.K ta) :=
  pi_zipX (fun _ _ _ _ _ _ _ _ _ D h1 h2 => ⟨_, turn_zipK D h1 h2, fun _ a b c d e => ⟨a, b, c, d, e⟩⟩) hg hm ha hs hpl

/-! ### enumerate -/
def IteK (K : PySem.W.Frag) (t : Bool) (a : Addr) : It :=
  ⟨fun i H => ∃ (xs : List V) (x : V), SqK K H t a xs ∧ xs[i]? = some x,
    fun i H v H' => ∃ T x, v = .ref T ∧ H T = none ∧ H' = upd H T (.tup [.int (i : Nat), x]) ∧ ∀ xs, SqK K H t a xs → xs[i]? = some x,
    fun i H => ∃ xs : List V, SqK K H t a xs ∧ i = xs.length⟩
theorem turn_enumK {P : Program} {w : World} {K : PySem.W.Frag} {elts : List Expr} {kk : Nat} {tpos : Pos} {t : Bool} {a e it : Addr} (h1 : e ≠ it) (h2 : e ≠ a) (h3 : a ≠ it) :
    Turn P w K (.Tuple elts kk tpos) (IteK K t a) [e, it] e (fun i h => (∃ old, IsEnum h e it (0 + (i : Int)) old) ∧ itAt t h it a i) where
  mem := by simp
  obj := by
    intro i h st c hc
    obtain ⟨⟨old, e1⟩, e2⟩ := st
    rcases (show c = e ∨ c = it by simpa using hc) with q | q
    · exact ⟨_, by rw [q]; exact e1, fun v q' => by cases q'⟩
    · rw [q]
      exact itAt_obj e2
  keep := by
    intro i h h' st k
    obtain ⟨⟨old, e1⟩, e2⟩ := st
    exact ⟨⟨old, k e (by simp) _ e1⟩, itAt_keep e2 fun o q => k it (by simp) o q⟩
  item := by
    intro X eP eW eK hc i pins s σ H E I hf st hg
    subst eP eW eK
    obtain ⟨e1, e2⟩ := st
    obtain ⟨xs, x, qx, hx⟩ := hg
    obtain ⟨its, rv, p, _⟩ := sqk_of I qx
    have hd : X.A.in1.handled = none := I.ok.hd hc
    have G := GoesN.enumFrom (elts := elts) (x1 := kk) (pos := tpos) 0 (draws_k (P := X.prog) (w := X.w) hd t it a h3 its.toArray) e h1 (by simp [h1, h2]) (by simp)
    obtain ⟨u1, hu1, ru1⟩ := rv.get hx
    have l1 : i < its.length := (List.getElem?_eq_some_iff.mp hu1).1
    refine G.goes i s (fun v s2 => ∃ x H', Inv X pins σ H' s2 ∧ RelV x v ∧ (IteK X.K t a).yld i H x H' ∧ ((∃ old, IsEnum s2.heap e it (0 + ((i + 1 : Nat) : Int)) old) ∧ itAt t s2.heap it a (i + 1)) ∧ ∀ c ∈ [e, it], H' c = none) E
      (by simp only [List.size_toArray]; exact l1) ⟨e1, ⟨e2, p⟩⟩ fun v h' tk hY hSt hk htk => ?_
    obtain ⟨T, tt, w1, rfl, hT, g1, hTup⟩ := hY
    have z1 : w1 = u1 := by
      have q : its.toArray[i]? = some u1 := by simpa using hu1
      rw [q] at g1
      exact (Option.some.inj g1).symm
    subst z1
    have e0 : (0 + (i : Int)) = (i : Int) := by omega
    rw [e0] at hTup
    have nw : ObjOk X.prog X.w (upd H T (.tup [.int (i : Nat), x])) h' T (.tup [.int (i : Nat), x]) := by
      refine ⟨by show 2 ≤ sizeLine; decide, [.int i tt, w1], .cons ⟨_, rfl⟩ (.cons ru1 .nil), ?_⟩
      exact hTup
    have J : Inv X pins σ (upd H T (.tup [.int (i : Nat), x])) { s with heap := h', toks := tk } := I.turnedNew (ch := [e, it]) (fun c o hb q => hk c o hb q) hf hT nw
    refine ⟨.ref T, _, J, rfl, ⟨T, x, rfl, I.hok.fresh hT, rfl, fun l hl => by rw [sqk_inj I hl qx]; exact hx⟩, ⟨hSt.1, hSt.2.1⟩, fun c hcm => ?_⟩
    have hlt : c < s.heap.objs.size := by
      rcases (show c = e ∨ c = it by simpa using hcm) with q | q
      · obtain ⟨old, e1⟩ := e1
        rw [q]; exact Heap.lt_size e1
      · rw [q]; obtain ⟨o, e, _⟩ := itAt_obj e2; exact Heap.lt_size e
    rw [upd_ne (Nat.ne_of_lt (Nat.lt_of_lt_of_le hlt hT))]
    exact (hf c hcm).1
  done := by
    intro X eP eW eK hc i pins s σ H E I hf st hg
    subst eP eW eK
    obtain ⟨e1, e2⟩ := st
    obtain ⟨xs, qx, hi⟩ := hg
    obtain ⟨its, rv, p, _⟩ := sqk_of I qx
    have hd : X.A.in1.handled = none := I.ok.hd hc
    have G := GoesN.enumFrom (elts := elts) (x1 := kk) (pos := tpos) 0 (draws_k (P := X.prog) (w := X.w) hd t it a h3 its.toArray) e h1 (by simp [h1, h2]) (by simp)
    have ei : i = its.toArray.size := by
      rw [hi, rv.length]
      simp
    subst ei
    exact G.stops s (fun s1 => Inv X pins σ H s1) E ⟨e1, ⟨e2, p⟩⟩ fun h' tk hk htk => I.turnedL (ch := [e, it]) (fun c o hb q => hk c o hb q) hf
  self := fun A i s Q E st h => let ⟨⟨_, he⟩, _⟩ := st; wpAny_pyIter_enum he h
def iEnumK (K : PySem.W.Frag) (ta : L2.TA) : TI := fun σ H R => ta σ H fun vs H1 => ∃ t a xs, vs = [.ref a] ∧ SqK K H1 t a xs ∧ R (IteK K t a) H1
theorem pi_enumK {X : Cx} {e : Expr} {ta : L2.TA} {p pos tpos : Pos} {elts : List Expr} {kk : Nat} (hg : Gl X "enumerate") (hm : X.mg "enumerate" = none) (ha : PA X [e] ta)
    (hs : starEach [e] X.env = (false, eval e X.env) :: starEach [] X.env) : PI X (.Tuple elts kk tpos) (.Call (.Name "enumerate" p) [e] [] pos) (iEnumK X.K ta) := by
  constructor
  intro pins s σ H R I h
  refine Call_ (ld_blt I hg hm boot_enumerate (PyProof.Rows.callWith_type1 (thn (ha.run pos pins s σ H _ I h) fun us s1 hus => ?_) hs rfl))
  obtain ⟨vs, H1, J, r, t, a, xs, ex, qx, q⟩ := hus
  subst ex
  obtain ⟨w1, rfl, r1⟩ := vals1 r
  cases (show w1 = Value.ref a from r1)
  obtain ⟨its, rv, p1, _⟩ := sqk_of J qx
  have la := sqAt_lt p1
  refine enumBegins (begins_k t a its.toArray) p1 fun h' c1 c4 c7 => wpAny_pyIter_enum c1 ?_
  have J2 : Inv X pins σ H1 { s1 with heap := h' } := J.kept (t' := s1.toks) c7
  generalize hN : s1.heap.objs.size = N at *
  refine ⟨N + 1, [N + 1, N], _, _, H1, rfl, J2, turn_enumK (Nat.succ_ne_self N) (Nat.ne_of_gt (Nat.lt_succ_of_lt la)) (Nat.ne_of_lt la), ⟨⟨_, c1⟩, itAt_new c4⟩, fun c hcm => ?_, q⟩
  have hle : N ≤ c := by
    rcases (show c = N + 1 ∨ c = N by simpa using hcm) with z | z
    · rw [z]; exact Nat.le_add_right _ _
    · rw [z]; exact Nat.le_refl _
  exact J.fpOk (by rw [hN]; exact hle) (J.hok.fresh (by rw [hN]; exact hle))

/-! ### a list or a tuple itself -/
def iSeq (K : PySem.W.Frag) (te : L2.TE) : TI := fun σ H R => te σ H fun x H1 => ∃ t a xs, x = .ref a ∧ SqK K H1 t a xs ∧ R (match t with
  | false => Itl K a
  | true => Itt K a) H1
theorem pi_seq {X : Cx} {tg e : Expr} {te : L2.TE} (he : PE X e te) : PI X tg e (iSeq X.K te) := by
  constructor
  intro pins s σ H R I h
  refine thn (he.run pins s σ H _ I h) fun v s1 hv => ?_
  obtain ⟨x, H1, J, r, t, a, xs, ex, qx, q⟩ := hv
  subst ex
  cases (show v = Value.ref a from r)
  obtain ⟨its, rv, p1, _⟩ := sqk_of J qx
  refine (begins_k t a its.toArray).iter _ _ _ _ s1 _ p1 ?_
  have J2 : Inv X pins σ H1 { s1 with heap := s1.heap.push (itO t a) } := J.kept (t' := s1.toks) fun b u e => Heap.get?_push_of_some _ e
  have fr : ∀ b ∈ [s1.heap.objs.size], FpOk X pins H1 b := fun b hb => by
    have eb : b = s1.heap.objs.size := by simpa using hb
    rw [eb]
    exact J.fpOk (Nat.le_refl _) (J.hok.fresh (Nat.le_refl _))
  cases t with
  | false => exact ⟨s1.heap.objs.size, [s1.heap.objs.size], _, _, H1, rfl, J2, turn_list a _, ⟨_, Heap.get?_push_size _ rfl, rfl, rfl⟩, fr, q⟩
  | true => exact ⟨s1.heap.objs.size, [s1.heap.objs.size], _, _, H1, rfl, J2, turn_tuple a _, ⟨_, Heap.get?_push_size _ rfl, rfl, rfl⟩, fr, q⟩
end Iv

/-! ## IvW -/
/-! Iv, part W: zip of two to a target of one name: the tuple that was handed out may still be there. -/
namespace PySem
open Sem (wp)
/-- a zip whatever it handed out -/
abbrev ZipAny (h : Heap) (z TI TO : Addr) (own f : Value) : Prop :=
  h.get? z = some { cls := .type "zip", dict := none, data := .fields #[own, f, .bool false, .ref TI, .ref TO], slots := #[] }
def OwnZ (own : Value) : Prop := own = .none ∨ ∃ T : Addr, own = rawInt T
def FlagZ (f : Value) : Prop := ∃ b, f = .bool b
section
variable {prog : Program} {w : World} {A : Around} {E : Value → Shared → Prop} {s : Shared}
variable {z TI TO i1 i2 : Addr} {fp1 fp2 : List Addr} {n1 n2 : Nat} {P1 P2 : Nat → Value → Prop} {St1 St2 : Nat → Heap → Prop} {i : Nat} {a1 a2 own f : Value}
/-- is the tuple free: in either way it goes on -/
theorem free_or {Q : Bool → Shared → Prop} (hz : ZipAny s.heap z TI TO own f) (ho : OwnZ own) (hf : FlagZ f) (yes : Q true s) (no : ∀ h', ZipAny h' z TI TO own (.bool true) → Heap.SameBut z s.heap h' → Q false { s with heap := h' }) :
    wpAny (model prog w) A (Builtin.SmallTypes.ownedTupleIsFree (.ref z)) Q E s := by
  unfold Builtin.SmallTypes.ownedTupleIsFree
  rcases ho with rfl | ⟨T, rfl⟩
  · exact wpAny_bind (wpAny_field hz rfl (x := .none) rfl (wpAny_pure yes))
  · refine wpAny_bind (wpAny_field hz rfl (x := rawInt T) rfl ?_)
    show wpAny _ _ (loadIfAlive ((T : Int).toNat) >>= _) _ _ _
    rw [Int.toNat_natCast]
    cases q : s.heap.get? T with
    | none =>
      have dead : ∀ {R : Option Obj → Shared → Prop}, R none s → wpAny (model prog w) A (loadIfAlive T) R E s := fun {R} r => by
        have r' : R (s.heap.get? T) s := by rw [q]; exact r
        exact fun _ _ _ => r'
      refine wpAny_bind (dead ?_)
      simp only [Option.isNone_none, if_true]
      exact wpAny_pure yes
    | some o =>
      have live : ∀ {R : Option Obj → Shared → Prop}, R (some o) s → wpAny (model prog w) A (loadIfAlive T) R E s := fun {R} r => by
        have r' : R (s.heap.get? T) s := by rw [q]; exact r
        exact fun _ _ _ => r'
      refine wpAny_bind (live ?_)
      simp only [Option.isNone_some, Bool.false_eq_true, if_false]
      obtain ⟨b, rfl⟩ := hf
      refine wpAny_bind (wpAny_field hz rfl (x := .bool b) rfl ?_)
      cases b with
      | true =>
        rw [if_neg (by decide)]
        exact wpAny_pure (no s.heap hz (Heap.SameBut.refl _ _))
      | false =>
        rw [if_pos (by decide)]
        exact wpAny_bind (wpAny_setField_rec hz (by simp) fun h1 q1 q2 => wpAny_pure (no h1 q1 q2))
theorem zip1_next_item {Q : Value → Shared → Prop} (S : ZipSep2 z TI TO i1 i2 fp1 fp2) (D1 : Draws prog w A i1 fp1 n1 P1 St1) (D2 : Draws prog w A i2 fp2 n2 P2 St2)
    (hz : ZipAny s.heap z TI TO own f) (ho : OwnZ own) (hf : FlagZ f) (hTI : IsTupOf2 s.heap TI (.ref i1) (.ref i2)) (hTO : IsTupOf2 s.heap TO a1 a2) (st1 : St1 i s.heap) (st2 : St2 i s.heap) (hlt1 : i < n1) (hlt2 : i < n2)
    (hQ : ∀ x1 x2 h' tk own' f' b1 b2, P1 i x1 → P2 i x2 → ZipAny h' z TI TO own' f' → OwnZ own' → FlagZ f' → IsTupOf2 h' TO b1 b2 → St1 (i + 1) h' → St2 (i + 1) h' → IsTupOf2 h' s.heap.objs.size x1 x2 →
      (∀ c o, c ≠ z → c ≠ TO → c ≠ i1 → c ≠ i2 → s.heap.get? c = some o → h'.get? c = some o) → Q (.ref s.heap.objs.size) { s with heap := h', toks := tk }) :
    wpAny (model prog w) A (Builtin.«zip.__next__» ⟨[.ref z], []⟩) (fun fin s' => ∃ v, fin = .done (.ret v) ∧ Q v s') E s := by
  obtain ⟨hp, g, d, tk0, os⟩ := s
  show wpAny _ _ (field (.ref z) 2 >>= _) _ _ _
  refine wpAny_bind (wpAny_field hz rfl (x := .bool false) rfl ?_)
  show wpAny _ _ (field (.ref z) 3 >>= _) _ _ _
  refine wpAny_bind (wpAny_field hz rfl (x := .ref TI) rfl ?_)
  refine wpAny_bind (wpAny_seqItems hTI rfl ?_)
  show wpAny _ _ (Builtin.SmallTypes.ownedTupleIsFree (.ref z) >>= _) _ _ _
  refine wpAny_bind (free_or hz ho hf ?yes fun g0 z0 e0 => ?no)
  case yes =>
    simp only [if_true]
    refine wpAny_bind (wpAny_rule ?_)
    refine wpAny_bind (wpAny_field hz rfl (x := .ref TO) rfl ?_)
    refine wpAny_bind (wpAny_setField_rec hz (by simp) fun g0 z0 e0 => ?_)
    replace z0 : ZipAny g0 z TI TO .ellipsis f := z0
    replace e0 : Heap.SameBut z hp g0 := e0
    refine wpAny_bind ?_
    simp only [List.zipIdx_cons, List.zipIdx_nil, List.forIn_cons, List.forIn_nil]
    refine wpAny_bind (wpAny_bind (wpAny_onRaise ?_))
    show wpAny _ _ (Builtin.SmallTypes.nextOf (.ref i1) >>= _) _ _ ⟨g0, g, d, tk0, os⟩
    refine wpAny_bind (D1.item i _ _ _ hlt1 (D1.over st1 e0 S.zf1) fun y1 g1 tk1 q1 st1' e1 => wpAny_pure ?_)
    replace e1 : Heap.SameBut i1 g0 g1 := e1
    have t1 : IsTupOf2 g1 TO a1 a2 := e1.extBut _ _ S.Ti1 (e0.extBut _ _ S.TOz hTO)
    refine wpAny_bind (wpAny_seqItems (s := ⟨g1, g, d, tk1, os⟩) t1 rfl ?_)
    refine wpAny_bind (updateSeq_IsTupOf2 (s := ⟨g1, g, d, tk1, os⟩) t1 fun g2 t2 e2 => ?_)
    replace t2 : IsTupOf2 g2 TO y1 a2 := t2
    replace e2 : Heap.SameBut TO g1 g2 := e2
    refine wpAny_bind (wpAny_letGo (wpAny_pure ?_))
    refine wpAny_bind (wpAny_bind (wpAny_onRaise ?_))
    show wpAny _ _ (Builtin.SmallTypes.nextOf (.ref i2) >>= _) _ _ ⟨g2, g, d, tk1, os⟩
    refine wpAny_bind (D2.item i _ _ _ hlt2 (D2.over (D2.over (D2.over st2 e0 S.zf2) e1 S.sep1_2) e2 S.Tf2) fun y2 g3 tk2 q2 st2' e3 => wpAny_pure ?_)
    replace e3 : Heap.SameBut i2 g2 g3 := e3
    have t3 : IsTupOf2 g3 TO y1 a2 := e3.extBut _ _ S.Ti2 t2
    refine wpAny_bind (wpAny_seqItems (s := ⟨g3, g, d, tk2, os⟩) t3 rfl ?_)
    refine wpAny_bind (updateSeq_IsTupOf2 (s := ⟨g3, g, d, tk2, os⟩) t3 fun g4 t4 e4 => ?_)
    replace t4 : IsTupOf2 g4 TO y1 y2 := t4
    replace e4 : Heap.SameBut TO g3 g4 := e4
    refine wpAny_bind (wpAny_letGo (wpAny_pure (wpAny_pure ?_)))
    refine wpAny_bind (wpAny_seqItems (s := ⟨g4, g, d, tk2, os⟩) t4 rfl ?_)
    refine wpAny_bind (wpAny_newTuple ?_)
    have size : g4.objs.size = hp.objs.size := by rw [e4.1, e3.1, e2.1, e1.1, e0.1]
    have z4 : ZipAny g4 z TI TO .ellipsis f := e4.extBut _ _ S.TOz.symm (e3.extBut _ _ S.zi2 (e2.extBut _ _ S.TOz.symm (e1.extBut _ _ S.zi1 z0)))
    have kept : ∀ c o, c ≠ z → c ≠ TO → c ≠ i1 → c ≠ i2 → hp.get? c = some o → g4.get? c = some o := fun c o k0 k1 k2 k3 e =>
      e4.extBut _ _ k1 (e3.extBut _ _ k3 (e2.extBut _ _ k1 (e1.extBut _ _ k2 (e0.extBut _ _ k0 e))))
    have u1 : St1 (i + 1) g4 := D1.over (D1.over (D1.over st1' e2 S.Tf1) e3 S.sep2_1) e4 S.Tf1
    have u2 : St2 (i + 1) g4 := D2.over st2' e4 S.Tf2
    have zlt : z < g4.objs.size := Heap.lt_size z4
    show wpAny _ _ (Builtin.SmallTypes.ownedTupleHandOut (.ref z) (.ref g4.objs.size) >>= _) _ _ ⟨g4.push { cls := .type "tuple", data := .seq #[y1, y2] }, g, d, tk2, os⟩
    refine wpAny_bind ?_
    unfold Builtin.SmallTypes.ownedTupleHandOut
    have z5 : ZipAny (g4.push { cls := .type "tuple", data := .seq #[y1, y2] }) z TI TO .ellipsis f := Heap.get?_push_of_some _ z4
    refine wpAny_bind (wpAny_setField_rec z5 (by simp) fun g6 z6 e6 => ?_)
    replace z6 : ZipAny g6 z TI TO (rawInt g4.objs.size) f := z6
    refine wpAny_setField_rec z6 (by simp) fun g7 z7 e7 => ?_
    replace z7 : ZipAny g7 z TI TO (rawInt g4.objs.size) (.bool false) := z7
    replace e6 : Heap.SameBut z (g4.push { cls := .type "tuple", data := .seq #[y1, y2] }) g6 := e6
    replace e7 : Heap.SameBut z g6 g7 := e7
    have up : ∀ c o, c ≠ z → g4.get? c = some o → g7.get? c = some o := fun c o k e => e7.extBut _ _ k (e6.extBut _ _ k (Heap.get?_push_of_some _ e))
    have new : IsTupOf2 g7 g4.objs.size y1 y2 := e7.extBut _ _ (Nat.ne_of_gt zlt) (e6.extBut _ _ (Nat.ne_of_gt zlt) (Heap.get?_push_size _ rfl))
    rw [size] at z7 new
    refine wpAny_pure ⟨_, rfl, ?_⟩
    show Q (.ref g4.objs.size) ⟨g7, g, d, tk2, os⟩
    rw [size]
    exact hQ y1 y2 g7 tk2 _ _ y1 y2 q1 q2 z7 (.inr ⟨_, rfl⟩) ⟨_, rfl⟩ (up _ _ S.TOz t4) (D1.frame _ _ _ u1 fun b hb o e => up b o (fun q => S.zf1 (q ▸ hb)) e) (D2.frame _ _ _ u2 fun b hb o e => up b o (fun q => S.zf2 (q ▸ hb)) e) new fun c o k0 k1 k2 k3 e => up c o k0 (kept c o k0 k1 k2 k3 e)
  case no =>
    replace e0 : Heap.SameBut z hp g0 := e0
    simp only [Bool.false_eq_true, if_false]
    refine wpAny_bind ?_
    rw [← Array.forIn_toList]
    simp only [List.forIn_cons, List.forIn_nil]
    refine wpAny_bind (wpAny_bind (wpAny_holding ?_))
    show wpAny _ _ (Builtin.SmallTypes.nextOf (.ref i1) >>= _) _ _ ⟨g0, g, d, tk0, os⟩
    refine wpAny_bind (D1.item i _ _ _ hlt1 (D1.over st1 e0 S.zf1) fun y1 g1 tk1 q1 st1' e1 => wpAny_pure ?_)
    replace e1 : Heap.SameBut i1 g0 g1 := e1
    refine wpAny_pure ?_
    refine wpAny_bind (wpAny_bind (wpAny_holding ?_))
    show wpAny _ _ (Builtin.SmallTypes.nextOf (.ref i2) >>= _) _ _ ⟨g1, g, d, tk1, os⟩
    refine wpAny_bind (D2.item i _ _ _ hlt2 (D2.over (D2.over st2 e0 S.zf2) e1 S.sep1_2) fun y2 g2 tk2 q2 st2' e2 => wpAny_pure ?_)
    replace e2 : Heap.SameBut i2 g1 g2 := e2
    refine wpAny_pure (wpAny_pure ?_)
    show wpAny _ _ (newTuple [y1, y2] >>= _) _ _ ⟨g2, g, d, tk2, os⟩
    refine wpAny_bind (wpAny_newTuple ?_)
    have size : g2.objs.size = hp.objs.size := by rw [e2.1, e1.1, e0.1]
    have up : ∀ {c o}, g2.get? c = some o → (g2.push { cls := .type "tuple", data := .seq #[y1, y2] }).get? c = some o := fun e => Heap.get?_push_of_some _ e
    have z2 : ZipAny g2 z TI TO own (.bool true) := e2.extBut _ _ S.zi2 (e1.extBut _ _ S.zi1 z0)
    have new : IsTupOf2 (g2.push { cls := .type "tuple", data := .seq #[y1, y2] }) g2.objs.size y1 y2 := Heap.get?_push_size _ rfl
    rw [size] at new
    refine wpAny_pure ⟨_, rfl, ?_⟩
    show Q (.ref g2.objs.size) _
    rw [size]
    exact hQ y1 y2 _ tk2 _ _ a1 a2 q1 q2 (up z2) ho ⟨_, rfl⟩ (up (e2.extBut _ _ S.Ti2 (e1.extBut _ _ S.Ti1 (e0.extBut _ _ S.TOz hTO)))) (D1.frame _ _ _ (D1.over st1' e2 S.sep2_1) fun b hb o e => up e) (D2.frame _ _ _ st2' fun b hb o e => up e) new
      fun c o k0 k1 k2 k3 e => up (e2.extBut _ _ k3 (e1.extBut _ _ k2 (e0.extBut _ _ k0 e)))
theorem zip1_next_end {Q : Fin → Shared → Prop} (S : ZipSep2 z TI TO i1 i2 fp1 fp2) (D1 : Draws prog w A i1 fp1 n1 P1 St1) (D2 : Draws prog w A i2 fp2 n2 P2 St2)
    (hz : ZipAny s.heap z TI TO own f) (ho : OwnZ own) (hf : FlagZ f) (hTI : IsTupOf2 s.heap TI (.ref i1) (.ref i2)) (hTO : IsTupOf2 s.heap TO a1 a2) (st1 : St1 i s.heap) (st2 : St2 i s.heap) (hle1 : i ≤ n1) (hle2 : i ≤ n2) (hend : i = n1 ∨ i = n2)
    (hE : ∀ h' tk e, (∀ c o, c ≠ z → c ≠ TO → c ≠ i1 → c ≠ i2 → s.heap.get? c = some o → h'.get? c = some o) → (∃ o, h'.get? e = some o ∧ o.cls = .type "StopIteration") → E (.ref e) { s with heap := h', toks := tk }) :
    wpAny (model prog w) A (Builtin.«zip.__next__» ⟨[.ref z], []⟩) Q E s := by
  obtain ⟨hp, g, d, tk0, os⟩ := s
  show wpAny _ _ (field (.ref z) 2 >>= _) _ _ _
  refine wpAny_bind (wpAny_field hz rfl (x := .bool false) rfl ?_)
  show wpAny _ _ (field (.ref z) 3 >>= _) _ _ _
  refine wpAny_bind (wpAny_field hz rfl (x := .ref TI) rfl ?_)
  refine wpAny_bind (wpAny_seqItems hTI rfl ?_)
  show wpAny _ _ (Builtin.SmallTypes.ownedTupleIsFree (.ref z) >>= _) _ _ _
  refine wpAny_bind (free_or hz ho hf ?yes fun g0 z0 e0 => ?no)
  case yes =>
    simp only [if_true]
    refine wpAny_bind (wpAny_rule ?_)
    refine wpAny_bind (wpAny_field hz rfl (x := .ref TO) rfl ?_)
    refine wpAny_bind (wpAny_setField_rec hz (by simp) fun g0 z0 e0 => ?_)
    replace z0 : ZipAny g0 z TI TO .ellipsis f := z0
    replace e0 : Heap.SameBut z hp g0 := e0
    refine wpAny_bind ?_
    simp only [List.zipIdx_cons, List.zipIdx_nil, List.forIn_cons, List.forIn_nil]
    refine wpAny_bind (wpAny_bind (wpAny_onRaise ?_))
    show wpAny _ _ (Builtin.SmallTypes.nextOf (.ref i1) >>= _) _ _ ⟨g0, g, d, tk0, os⟩
    by_cases l1 : i < n1
    · refine wpAny_bind (D1.item i _ _ _ l1 (D1.over st1 e0 S.zf1) fun y1 g1 tk1 q1 st1' e1 => wpAny_pure ?_)
      replace e1 : Heap.SameBut i1 g0 g1 := e1
      have t1 : IsTupOf2 g1 TO a1 a2 := e1.extBut _ _ S.Ti1 (e0.extBut _ _ S.TOz hTO)
      refine wpAny_bind (wpAny_seqItems (s := ⟨g1, g, d, tk1, os⟩) t1 rfl ?_)
      refine wpAny_bind (updateSeq_IsTupOf2 (s := ⟨g1, g, d, tk1, os⟩) t1 fun g2 t2 e2 => ?_)
      replace e2 : Heap.SameBut TO g1 g2 := e2
      refine wpAny_bind (wpAny_letGo (wpAny_pure ?_))
      have l2 : i = n2 := by omega
      refine wpAny_bind (wpAny_bind (wpAny_onRaise ?_))
      show wpAny _ _ (Builtin.SmallTypes.nextOf (.ref i2) >>= _) _ _ ⟨g2, g, d, tk1, os⟩
      refine wpAny_bind (D2.done ⟨g2, g, d, tk1, os⟩ _ _ (by rw [← l2]; exact D2.over (D2.over (D2.over st2 e0 S.zf2) e1 S.sep1_2) e2 S.Tf2) fun g3 e e3 he => ?_)
      replace e3 : Heap.ExtBut i2 g2 g3 := e3
      obtain ⟨oe, o1, o2⟩ := he
      replace o1 : g3.get? e = some oe := o1
      have z3 : ZipAny g3 z TI TO .ellipsis f := e3 _ _ S.zi2 (e2.extBut _ _ S.TOz.symm (e1.extBut _ _ S.zi1 z0))
      have ne : e ≠ z := fun q => by
        subst q
        rw [z3] at o1
        cases o1
        simp at o2
      refine wpAny_setField_rec (s := ⟨g3, g, d, tk1, os⟩) z3 (by simp) fun g4 _ e4 => ?_
      replace e4 : Heap.SameBut z g3 g4 := e4
      exact hE g4 tk1 e (fun c o k0 k1 k2 k3 q => e4.extBut _ _ k0 (e3 _ _ k3 (e2.extBut _ _ k1 (e1.extBut _ _ k2 (e0.extBut _ _ k0 q))))) ⟨oe, e4.extBut _ _ ne o1, o2⟩
    · have l1' : i = n1 := by omega
      refine wpAny_bind (D1.done ⟨g0, g, d, tk0, os⟩ _ _ (by rw [← l1']; exact D1.over st1 e0 S.zf1) fun g3 e e3 he => ?_)
      replace e3 : Heap.ExtBut i1 g0 g3 := e3
      obtain ⟨oe, o1, o2⟩ := he
      replace o1 : g3.get? e = some oe := o1
      have z3 : ZipAny g3 z TI TO .ellipsis f := e3 _ _ S.zi1 z0
      have ne : e ≠ z := fun q => by
        subst q
        rw [z3] at o1
        cases o1
        simp at o2
      refine wpAny_setField_rec (s := ⟨g3, g, d, tk0, os⟩) z3 (by simp) fun g4 _ e4 => ?_
      replace e4 : Heap.SameBut z g3 g4 := e4
      exact hE g4 tk0 e (fun c o k0 k1 k2 k3 q => e4.extBut _ _ k0 (e3 _ _ k2 (e0.extBut _ _ k0 q))) ⟨oe, e4.extBut _ _ ne o1, o2⟩
  case no =>
    replace e0 : Heap.SameBut z hp g0 := e0
    simp only [Bool.false_eq_true, if_false]
    refine wpAny_bind ?_
    rw [← Array.forIn_toList]
    simp only [List.forIn_cons, List.forIn_nil]
    refine wpAny_bind (wpAny_bind (wpAny_holding ?_))
    show wpAny _ _ (Builtin.SmallTypes.nextOf (.ref i1) >>= _) _ _ ⟨g0, g, d, tk0, os⟩
    by_cases l1 : i < n1
    · refine wpAny_bind (D1.item i _ _ _ l1 (D1.over st1 e0 S.zf1) fun y1 g1 tk1 q1 st1' e1 => wpAny_pure ?_)
      replace e1 : Heap.SameBut i1 g0 g1 := e1
      refine wpAny_pure ?_
      have l2 : i = n2 := by omega
      refine wpAny_bind (wpAny_bind (wpAny_holding ?_))
      show wpAny _ _ (Builtin.SmallTypes.nextOf (.ref i2) >>= _) _ _ ⟨g1, g, d, tk1, os⟩
      refine wpAny_bind (D2.done ⟨g1, g, d, tk1, os⟩ _ _ (by rw [← l2]; exact D2.over (D2.over st2 e0 S.zf2) e1 S.sep1_2) fun g3 e e3 he => ?_)
      replace e3 : Heap.ExtBut i2 g1 g3 := e3
      exact hE g3 tk1 e (fun c o k0 k1 k2 k3 q => e3 _ _ k3 (e1.extBut _ _ k2 (e0.extBut _ _ k0 q))) he
    · have l1' : i = n1 := by omega
      refine wpAny_bind (D1.done ⟨g0, g, d, tk0, os⟩ _ _ (by rw [← l1']; exact D1.over st1 e0 S.zf1) fun g3 e e3 he => ?_)
      replace e3 : Heap.ExtBut i1 g0 g3 := e3
      exact hE g3 tk0 e (fun c o k0 k1 k2 k3 q => e3 _ _ k2 (e0.extBut _ _ k0 q)) he
end
end PySem
namespace Iv
open PySem PySem.Spec PyProof.Rows L2
def notTup : Expr → Bool
  | .Tuple .. => false
  | .List .. => false
  | _ => true
theorem go_plain {M : Model} {A : Around} {E : Value → Shared → Prop} {s : Shared} {tg : Expr} {it v : Value} {Q : Unit → Shared → Prop} (h : notTup tg = true) (hQ : Q () s) : wpAny M A (letOwnedTupleGo tg it v) Q E s := by
  unfold letOwnedTupleGo
  cases tg <;> first
    | exact wpAny_pure hQ
    | cases h
theorem turn_zip1 {P : Program} {w : World} {K : PySem.W.Frag} {tg : Expr} {t u : Bool} {a b z TI TO i1 i2 : Addr} (ht : notTup tg = true) (D : ZipSep2 z TI TO i1 i2 [i1, a] [i2, b]) (h1 : a ≠ i1) (h2 : b ≠ i2) :
    Turn P w K tg (ItzK K t u a b) [z, TI, TO, i1, i2] z (fun i h => (∃ own f, ZipAny h z TI TO own f ∧ OwnZ own ∧ FlagZ f) ∧ IsTupOf2 h TI (.ref i1) (.ref i2) ∧ (∃ v1 v2, IsTupOf2 h TO v1 v2) ∧ itAt t h i1 a i ∧ itAt u h i2 b i) where
  mem := by simp
  obj := by
    intro i h st c hc
    obtain ⟨⟨own, f, e1, _⟩, e2, ⟨v1, v2, e3⟩, e4, e5⟩ := st
    rcases mem5 hc with q | q | q | q | q
    · exact ⟨_, by rw [q]; exact e1, fun v q' => by cases q'⟩
    · exact ⟨_, by rw [q]; exact e2, fun v q' => by cases q'⟩
    · exact ⟨_, by rw [q]; exact e3, fun v q' => by cases q'⟩
    · rw [q]
      exact itAt_obj e4
    · rw [q]
      exact itAt_obj e5
  keep := by
    intro i h h' st k
    obtain ⟨⟨own, f, e1, eo⟩, e2, ⟨v1, v2, e3⟩, e4, e5⟩ := st
    exact ⟨⟨own, f, k z (by simp) _ e1, eo⟩, k TI (by simp) _ e2, ⟨v1, v2, k TO (by simp) _ e3⟩, itAt_keep e4 fun o q => k i1 (by simp) o q, itAt_keep e5 fun o q => k i2 (by simp) o q⟩
  item := by
    intro X eP eW eK hc i pins s σ H E I hfp st hg
    subst eP eW eK
    obtain ⟨⟨own, f, e1, eo, ef⟩, e2, ⟨v1, v2, e3⟩, e4, e5⟩ := st
    obtain ⟨xs, ys, x, y, qx, qy, hx, hy⟩ := hg
    obtain ⟨its1, rv1, p1, _⟩ := sqk_of I qx
    obtain ⟨its2, rv2, p2, _⟩ := sqk_of I qy
    have hd : X.A.in1.handled = none := I.ok.hd hc
    obtain ⟨u1, hu1, ru1⟩ := rv1.get hx
    obtain ⟨u2, hu2, ru2⟩ := rv2.get hy
    have l1 : i < its1.length := (List.getElem?_eq_some_iff.mp hu1).1
    have l2 : i < its2.length := (List.getElem?_eq_some_iff.mp hu2).1
    have hT : s.TypeIs (.ref z) "zip" := ⟨_, e1, rfl⟩
    unfold pyNext
    refine wpAny_bind (wpAny_attempt (wpAny_callSpecial?_slot (name := Str.ofString "__next__") hT F.slot_zip_next (wpAny_call_entry F.slot_zip_next hT F.entry_zip_next
      (zip1_next_item (i := i) D (draws_k (P := X.prog) (w := X.w) hd t i1 a h1 its1.toArray) (draws_k (P := X.prog) (w := X.w) hd u i2 b h2 its2.toArray) e1 eo ef e2 e3 ⟨e4, p1⟩ ⟨e5, p2⟩ (by simpa using l1) (by simpa using l2)
        fun w1 w2 h' tk own' f' b1 b2 g1 g2 z' o' f2 t' s1 s2 new keep => wpAny_pure ?_) (F.args_zip_next_1 _))))
    have z1 : w1 = u1 := by
      have q : its1.toArray[i]? = some u1 := by simpa using hu1
      rw [q] at g1
      exact (Option.some.inj g1).symm
    have z2 : w2 = u2 := by
      have q : its2.toArray[i]? = some u2 := by simpa using hu2
      rw [q] at g2
      exact (Option.some.inj g2).symm
    subst z1 z2
    refine ⟨_, rfl, go_plain ht ?_⟩
    have nw : ObjOk X.prog X.w (upd H s.heap.objs.size (.tup [x, y])) h' s.heap.objs.size (.tup [x, y]) :=
      ⟨by show 2 ≤ sizeLine; decide, [w1, w2], .cons ru1 (.cons ru2 .nil), ⟨_, new, rfl, _, rfl⟩⟩
    have J : Inv X pins σ (upd H s.heap.objs.size (.tup [x, y])) { s with heap := h', toks := tk } := I.turnedNew (ch := [z, TI, TO, i1, i2])
      (fun c o hb q => keep c o (fun q' => hb (by simp [q'])) (fun q' => hb (by simp [q'])) (fun q' => hb (by simp [q'])) (fun q' => hb (by simp [q'])) q) hfp (Nat.le_refl _) nw
    refine ⟨.ref s.heap.objs.size, _, J, rfl, ⟨s.heap.objs.size, x, y, rfl, I.hok.fresh (Nat.le_refl _), rfl, fun l hl => by rw [sqk_inj I hl qx]; exact hx, fun l hl => by rw [sqk_inj I hl qy]; exact hy⟩, ⟨⟨_, _, z', o', f2⟩, ?_, ⟨_, _, t'⟩, s1.1, s2.1⟩, fun c hcm => ?_⟩
    · exact keep TI _ D.TIz D.TITO D.TIi1 D.TIi2 e2
    · have hlt : c < s.heap.objs.size := by
        rcases mem5 hcm with q | q | q | q | q
        · rw [q]; exact Heap.lt_size e1
        · rw [q]; exact Heap.lt_size e2
        · rw [q]; exact Heap.lt_size e3
        · rw [q]; obtain ⟨o, e, _⟩ := itAt_obj e4; exact Heap.lt_size e
        · rw [q]; obtain ⟨o, e, _⟩ := itAt_obj e5; exact Heap.lt_size e
      rw [upd_ne (Nat.ne_of_lt hlt)]
      exact (hfp c hcm).1
  done := by
    intro X eP eW eK hc i pins s σ H E I hfp st hg
    subst eP eW eK
    obtain ⟨⟨own, f, e1, eo, ef⟩, e2, ⟨v1, v2, e3⟩, e4, e5⟩ := st
    obtain ⟨xs, ys, qx, qy, hi⟩ := hg
    obtain ⟨its1, rv1, p1, _⟩ := sqk_of I qx
    obtain ⟨its2, rv2, p2, _⟩ := sqk_of I qy
    have hd : X.A.in1.handled = none := I.ok.hd hc
    have n1 := rv1.length
    have n2 := rv2.length
    have hT : s.TypeIs (.ref z) "zip" := ⟨_, e1, rfl⟩
    unfold pyNext
    refine wpAny_bind (wpAny_attempt (wpAny_callSpecial?_slot (name := Str.ofString "__next__") hT F.slot_zip_next (wpAny_call_entry F.slot_zip_next hT F.entry_zip_next
      (zip1_next_end (i := i) D (draws_k (P := X.prog) (w := X.w) hd t i1 a h1 its1.toArray) (draws_k (P := X.prog) (w := X.w) hd u i2 b h2 its2.toArray) e1 eo ef e2 e3 ⟨e4, p1⟩ ⟨e5, p2⟩ (by simp; omega) (by simp; omega) (by simp; omega)
        fun h' tk e keep he => ?_) (F.args_zip_next_1 _))))
    obtain ⟨o, ho, hcl⟩ := he
    refine wpAny_bind (wpAny_isInstance (T := "StopIteration") (b := true) ⟨o, ho, hcl⟩ isSubtype_stop ?_)
    refine wpAny_pure ⟨rfl, ?_⟩
    exact I.turnedL (ch := [z, TI, TO, i1, i2]) (fun c o hb q => keep c o (fun q' => hb (by simp [q'])) (fun q' => hb (by simp [q'])) (fun q' => hb (by simp [q'])) (fun q' => hb (by simp [q'])) q) hfp
  self := fun A i s Q E st h => by
    obtain ⟨⟨own, f, e1, _⟩, _⟩ := st
    have hT : s.TypeIs (.ref z) "zip" := ⟨_, e1, rfl⟩
    refine wpAny_pyIter_slot hT F.slot_zip_iter (wpAny_call_entry F.slot_zip_iter hT F.entry_zip_iter ?_ (F.args_zip_iter_1 _))
    exact wpAny_pure ⟨_, rfl, "zip", _, hT, F.slot_zip_next.lookup, h⟩
theorem pi_zip1 {X : Cx} {tg e e2 : Expr} {ta : L2.TA} {p pos : Pos} (ht : notTup tg = true) (hg : Gl X "zip") (hm : X.mg "zip" = none) (ha : PA X [e, e2] ta)
    (hs : starEach [e, e2] X.env = (false, eval e X.env) :: starEach [e2] X.env) (hpl : (backTo pos (starEach [e2] X.env)).any (·.1) = false) :
    PI X tg (.Call (.Name "zip" p) [e, e2] [] pos) (iZipK X.K ta) :=
  pi_zipX (fun _ _ _ _ _ _ _ _ _ D h1 h2 => ⟨_, turn_zip1 ht D h1 h2, fun _ a b c d e => ⟨⟨_, _, a, .inl rfl, _, rfl⟩, b, c, d, e⟩⟩) hg hm ha hs hpl
end Iv

/-! ## IvZ -/
/-! Iv, part Z: zip(*xs), xs a list or tuple of lists and tuples, all of one length, to a target of one name. -/
namespace PySem
open Sem (wp)
structure Strand where
  it : Addr
  t : Bool
  a : Addr
  vs : List Value
def Strand.on (q : Strand) (i : Nat) (h : Heap) : Prop := Iv.itAt q.t h q.it q.a i ∧ Iv.sqAt q.t h q.a q.vs.toArray
abbrev IsTupL (h : Heap) (T : Addr) (xs : List Value) : Prop := h.get? T = some { cls := .type "tuple", data := .seq xs.toArray }
structure ZipSepN (z TI TO : Addr) (L : List Strand) : Prop where
  TIz : TI ≠ z
  TOz : TO ≠ z
  TITO : TI ≠ TO
  off : ∀ q ∈ L, z ≠ q.it ∧ z ≠ q.a ∧ TO ≠ q.it ∧ TO ≠ q.a ∧ TI ≠ q.it
  sep : ∀ q ∈ L, ∀ r ∈ L, q.it ≠ r.a
  nd : (L.map (·.it)).Nodup
section
variable {prog : Program} {w : World} {A : Around} {E : Value → Shared → Prop} {s : Shared}
theorem Strand.draws (hh : A.handled = none) (q : Strand) (hne : q.a ≠ q.it) : Draws prog w A q.it [q.it, q.a] q.vs.length (fun i v => q.vs[i]? = some v) (fun i h => q.on i h) := by
  have z := Iv.draws_k (P := prog) (w := w) hh q.t q.it q.a hne q.vs.toArray
  simp only [List.size_toArray, List.getElem?_toArray] at z
  exact z
theorem Strand.keep {q : Strand} {i : Nat} {h h' : Heap} (x : q.on i h) (hne : q.a ≠ q.it) (k1 : ∀ o, h.get? q.it = some o → h'.get? q.it = some o) (k2 : ∀ o, h.get? q.a = some o → h'.get? q.a = some o) : q.on i h' := by
  refine ⟨Iv.itAt_keep x.1 k1, ?_⟩
  obtain ⟨_, x2⟩ := x
  obtain ⟨it, t, a, vs⟩ := q
  cases t with
  | false => exact Heap.IsList.at x2 k2
  | true => exact Heap.IsTuple.at x2 k2
theorem updateSeq_L {T : Addr} {x : Value} {k : Nat} {xs : List Value} {Q : Unit → Shared → Prop} (hT : IsTupL s.heap T xs) (hl : xs.length ≤ sizeLine)
    (h : ∀ h', IsTupL h' T (xs.set k x) → Heap.SameBut T s.heap h' → Q () { s with heap := h' }) :
    wpAny (model prog w) A (updateSeq T (·.setIfInBounds k x)) Q E s := by
  refine wpAny_updateSeq hT rfl (h _ ?_ (Heap.SameBut.update ..)) (by simpa using hl) (by simp; omega)
  show Heap.get? _ _ = _
  rw [Heap.get?_update_self _ hT rfl]
  simp [Obj.mapSeq]
theorem set_take (vals old : List Value) (m : Nat) (x : Value) (hx : vals[m]? = some x) (hl : m < old.length) : (vals.take m ++ old.drop m).set m x = vals.take (m + 1) ++ old.drop (m + 1) := by
  have hm : m < vals.length := (List.getElem?_eq_some_iff.mp hx).1
  rw [List.set_append_right _ _ (by rw [List.length_take]; omega), List.length_take, Nat.min_eq_left (Nat.le_of_lt hm), Nat.sub_self, List.drop_eq_getElem_cons hl, List.set_cons_zero,
    List.take_add_one, hx]
  simp
/-- where a turn of zip stands: P has been drawn, R is to be -/
structure ZTurn (hp : Heap) (z TI TO : Addr) (L : List Strand) (i : Nat) (own f : Value) (P R : List Strand) (cur : List Value) (h : Heap) : Prop where
  all : L = P ++ R
  tup : IsTupL h TO cur
  past : ∀ q ∈ P, q.on (i + 1) h
  rest : ∀ q ∈ R, q.on i h
  zip : ZipAny h z TI TO own f
  keeps : ∀ c o, c ≠ z → c ≠ TO → c ∉ L.map (·.it) → hp.get? c = some o → h.get? c = some o
  size : h.objs.size = hp.objs.size
theorem Strand.other {q r : Strand} {L : List Strand} {z TI TO : Addr} (D : ZipSepN z TI TO L) (hq : q ∈ L) (hr : r ∈ L) (hn : q.it ≠ r.it) {i : Nat} {h h' : Heap} (x : r.on i h) (e : Heap.SameBut q.it h h') : r.on i h' :=
  Strand.keep x (fun z => D.sep r hr r hr z.symm) (fun o k => e.extBut _ _ (fun z => hn z.symm) k) fun o k => e.extBut _ _ (fun z => D.sep q hq r hr z.symm) k
theorem nodup_split {q : Strand} {P R : List Strand} (h : ((P ++ q :: R).map (·.it)).Nodup) : (∀ r ∈ P, q.it ≠ r.it) ∧ ∀ r ∈ R, q.it ≠ r.it := by
  rw [List.map_append, List.map_cons, List.nodup_append] at h
  obtain ⟨_, h2, h3⟩ := h
  rw [List.nodup_cons] at h2
  exact ⟨fun r hr z => h3 r.it (List.mem_map_of_mem hr) q.it List.mem_cons_self z.symm, fun r hr z => h2.1 (z ▸ List.mem_map_of_mem hr)⟩
/-- one strand drawn -/
theorem zturn_draw {hp : Heap} {z TI TO : Addr} {L : List Strand} {i : Nat} {cur : List Value} {own f : Value} {q : Strand} {P R : List Strand} {Q : Value → Shared → Prop} (hh : A.handled = none) (D : ZipSepN z TI TO L) (t : ZTurn hp z TI TO L i own f P (q :: R) cur s.heap) {x : Value} (hx : q.vs[i]? = some x)
    (hQ : ∀ g tk, ZTurn hp z TI TO L i own f (P ++ [q]) R cur g → Q x { s with heap := g, toks := tk }) :
    wpAny (model prog w) A (Builtin.SmallTypes.nextOf (.ref q.it)) Q E s := by
  have eL := t.all
  have hq : q ∈ L := by rw [eL]; simp
  have hl : i < q.vs.length := (List.getElem?_eq_some_iff.mp hx).1
  obtain ⟨o1, o2, o3, o4, o5⟩ := D.off q hq
  have nd := D.nd
  rw [eL] at nd
  obtain ⟨n1, n2⟩ := nodup_split nd
  refine (q.draws (prog := prog) (w := w) hh fun z => D.sep q hq q hq z.symm).item i s Q E hl (t.rest q List.mem_cons_self) fun y g tk hy st e => ?_
  rw [hx] at hy
  cases hy
  refine hQ g tk ⟨by rw [eL, List.append_assoc]; rfl, e.extBut _ _ o3 t.tup, fun r hr => ?_, fun r hr => Strand.other D hq (by rw [eL]; exact List.mem_append_right _ (List.mem_cons_of_mem _ hr)) (n2 r hr) (t.rest r (List.mem_cons_of_mem _ hr)) e,
    e.extBut _ _ o1 t.zip, fun c o k1 k2 k3 k => e.extBut _ _ (fun z => k3 (by rw [z]; exact List.mem_map_of_mem hq)) (t.keeps c o k1 k2 k3 k), by rw [e.1]; exact t.size⟩
  rcases List.mem_append.mp hr with hr | hr
  · exact Strand.other D hq (by rw [eL]; exact List.mem_append_left _ hr) (n1 r hr) (t.past r hr) e
  · have e2 : r = q := by simpa using hr
    rw [e2]
    exact st
/-- the drawing in the owned tuple -/
theorem zipN_next_item {z TI TO : Addr} {L : List Strand} {i : Nat} {vals old : List Value} {own f : Value} {Q : Value → Shared → Prop} (hh : A.handled = none) (D : ZipSepN z TI TO L) (h0 : L ≠ []) (hlim : L.length ≤ sizeLine) (hold : old.length = L.length) (hlen : vals.length = L.length)
    (hv : ∀ (m : Nat) (q : Strand), L[m]? = some q → q.vs[i]? = vals[m]?)
    (hz : ZipAny s.heap z TI TO own f) (ho : OwnZ own) (hf : FlagZ f) (hTI : IsTupL s.heap TI (L.map fun q => .ref q.it)) (hTO : IsTupL s.heap TO old) (st : ∀ q ∈ L, q.on i s.heap)
    (hQ : ∀ h' tk own' f' old', ZipAny h' z TI TO own' f' → OwnZ own' → FlagZ f' → IsTupL h' TO old' → old'.length = L.length → IsTupL h' TI (L.map fun q => .ref q.it) → (∀ q ∈ L, q.on (i + 1) h') → IsTupL h' s.heap.objs.size vals →
      (∀ c o, c ≠ z → c ≠ TO → c ∉ L.map (·.it) → s.heap.get? c = some o → h'.get? c = some o) → Q (.ref s.heap.objs.size) { s with heap := h', toks := tk }) :
    wpAny (model prog w) A (Builtin.«zip.__next__» ⟨[.ref z], []⟩) (fun fin s' => ∃ v, fin = .done (.ret v) ∧ Q v s') E s := by
  obtain ⟨hp, g, d, tk0, os⟩ := s
  have TIL : TI ∉ L.map (·.it) := fun m => by
    obtain ⟨q, hq, e⟩ := List.mem_map.mp m
    exact (D.off q hq).2.2.2.2 e.symm
  show wpAny _ _ (field (.ref z) 2 >>= _) _ _ _
  refine wpAny_bind (wpAny_field hz rfl (x := .bool false) rfl ?_)
  show wpAny _ _ (field (.ref z) 3 >>= _) _ _ _
  refine wpAny_bind (wpAny_field hz rfl (x := .ref TI) rfl ?_)
  refine wpAny_bind (wpAny_seqItems hTI rfl ?_)
  have ne : (L.map fun q => Value.ref q.it).toArray.isEmpty = false := by
    cases L with
    | nil => exact absurd rfl h0
    | cons q L => rfl
  simp only [ne, Bool.false_eq_true, if_false]
  show wpAny _ _ (Builtin.SmallTypes.ownedTupleIsFree (.ref z) >>= _) _ _ _
  refine wpAny_bind (free_or hz ho hf ?yes fun g0 z0 e0 => ?no)
  case yes =>
    simp only [if_true]
    refine wpAny_bind (wpAny_rule ?_)
    refine wpAny_bind (wpAny_field hz rfl (x := .ref TO) rfl ?_)
    refine wpAny_bind (wpAny_setField_rec hz (by simp) fun g0 z0 e0 => ?_)
    replace z0 : ZipAny g0 z TI TO .ellipsis f := z0
    replace e0 : Heap.SameBut z hp g0 := e0
    refine wpAny_bind (wpAny_forIn_list _ (fun rest b s' => b.1 = none ∧ ∃ R P g' tk, rest = (R.map fun q : Strand => Value.ref q.it).zipIdx P.length ∧ s' = ⟨g', g, d, tk, os⟩ ∧ ZTurn hp z TI TO L i .ellipsis f P R (vals.take P.length ++ old.drop P.length) g') _ ?turn ?fin _ _ ?start)
    case start =>
      refine ⟨rfl, L, [], g0, tk0, rfl, rfl, rfl, ?_, (fun q hq => by cases hq), fun q hq => ?_, z0, fun c o k1 k2 k3 k => e0.extBut _ _ k1 k, e0.1⟩
      · simp only [List.length_nil, List.take_zero, List.nil_append, List.drop_zero]
        exact e0.extBut _ _ D.TOz hTO
      · obtain ⟨o1, o2, _⟩ := D.off q hq
        exact Strand.keep (st q hq) (fun z => D.sep q hq q hq z.symm) (fun o k => e0.extBut _ _ (fun z => o1 z.symm) k) fun o k => e0.extBut _ _ (fun z => o2 z.symm) k
    case turn =>
      rintro ⟨v, k⟩ rest b s' ⟨hb, R, P, g', tk, eR, rfl, t⟩
      cases R with
      | nil => cases eR
      | cons q R =>
        simp only [List.map_cons, List.zipIdx_cons, List.cons.injEq, Prod.mk.injEq] at eR
        obtain ⟨⟨rfl, rfl⟩, rfl⟩ := eR
        have hqL : L[P.length]? = some q := by rw [t.all, List.getElem?_append_right (Nat.le_refl _), Nat.sub_self]; rfl
        have hm : P.length < L.length := (List.getElem?_eq_some_iff.mp hqL).1
        obtain ⟨x, hx⟩ : ∃ x, vals[P.length]? = some x := ⟨vals[P.length]'(by omega), List.getElem?_eq_getElem (by omega)⟩
        have hqx : q.vs[i]? = some x := by rw [hv _ q hqL, hx]
        refine wpAny_bind (wpAny_onRaise ?_)
        show wpAny _ _ (Builtin.SmallTypes.nextOf (.ref q.it) >>= _) _ _ ⟨g', g, d, tk, os⟩
        refine wpAny_bind (zturn_draw hh D t hqx fun g1 tk1 t1 => wpAny_pure ?_)
        have hl : (vals.take P.length ++ old.drop P.length).length ≤ sizeLine := by
          rw [List.length_append, List.length_take, List.length_drop]
          omega
        refine wpAny_bind (wpAny_seqItems (s := ⟨g1, g, d, tk1, os⟩) t1.tup rfl ?_)
        refine wpAny_bind (updateSeq_L (s := ⟨g1, g, d, tk1, os⟩) t1.tup hl fun g2 t2 e2 => ?_)
        replace t2 : IsTupL g2 TO _ := t2
        replace e2 : Heap.SameBut TO g1 g2 := e2
        rw [set_take vals old P.length x hx (by omega)] at t2
        refine wpAny_bind (wpAny_letGo (wpAny_pure ?_))
        refine ⟨rfl, R, P ++ [q], g2, tk1, by rw [List.length_append]; rfl, rfl, t1.all, by rw [List.length_append]; exact t2, fun r hr => ?_, fun r hr => ?_, e2.extBut _ _ D.TOz.symm t1.zip, fun c o k1 k2 k3 k => e2.extBut _ _ k2 (t1.keeps c o k1 k2 k3 k), by rw [e2.1]; exact t1.size⟩
        · obtain ⟨_, _, o3, o4, _⟩ := D.off r (by rw [t1.all]; exact List.mem_append_left _ hr)
          exact Strand.keep (t1.past r hr) (fun z => by have hrL : r ∈ L := (by rw [t1.all]; exact List.mem_append_left _ hr); exact D.sep r hrL r hrL z.symm) (fun o k => e2.extBut _ _ (fun z => o3 z.symm) k) fun o k => e2.extBut _ _ (fun z => o4 z.symm) k
        · obtain ⟨_, _, o3, o4, _⟩ := D.off r (by rw [t1.all]; exact List.mem_append_right _ hr)
          exact Strand.keep (t1.rest r hr) (fun z => by have hrL : r ∈ L := (by rw [t1.all]; exact List.mem_append_right _ hr); exact D.sep r hrL r hrL z.symm) (fun o k => e2.extBut _ _ (fun z => o3 z.symm) k) fun o k => e2.extBut _ _ (fun z => o4 z.symm) k
    case fin =>
      rintro ⟨b1, b2⟩ s' ⟨hb, R, P, g', tk, eR, rfl, t⟩
      simp only at hb
      subst hb
      have eR0 : R = [] := by
        cases R with
        | nil => rfl
        | cons q R => simp [List.zipIdx_cons] at eR
      subst eR0
      have hP : P.length = L.length := by rw [t.all, List.append_nil]
      have tT := t.tup
      rw [hP, ← hlen, List.take_length, hlen, ← hold, List.drop_length, List.append_nil] at tT
      have hvl : vals.length ≤ sizeLine := by omega
      refine wpAny_bind (wpAny_seqItems (s := ⟨g', g, d, tk, os⟩) tT rfl ?_)
      refine wpAny_bind (wpAny_newTuple ?_ (by simpa using hvl))
      show wpAny _ _ (Builtin.SmallTypes.ownedTupleHandOut (.ref z) (.ref g'.objs.size) >>= _) _ _ ⟨g'.push { cls := .type "tuple", data := .seq vals.toArray }, g, d, tk, os⟩
      refine wpAny_bind ?_
      unfold Builtin.SmallTypes.ownedTupleHandOut
      have z5 : ZipAny (g'.push { cls := .type "tuple", data := .seq vals.toArray }) z TI TO .ellipsis f := Heap.get?_push_of_some _ t.zip
      refine wpAny_bind (wpAny_setField_rec z5 (by simp) fun g6 z6 e6 => ?_)
      replace z6 : ZipAny g6 z TI TO (rawInt g'.objs.size) f := z6
      refine wpAny_setField_rec z6 (by simp) fun g7 z7 e7 => ?_
      replace z7 : ZipAny g7 z TI TO (rawInt g'.objs.size) (.bool false) := z7
      replace e6 : Heap.SameBut z (g'.push { cls := .type "tuple", data := .seq vals.toArray }) g6 := e6
      replace e7 : Heap.SameBut z g6 g7 := e7
      have zlt : z < g'.objs.size := Heap.lt_size t.zip
      have up : ∀ c o, c ≠ z → g'.get? c = some o → g7.get? c = some o := fun c o k e => e7.extBut _ _ k (e6.extBut _ _ k (Heap.get?_push_of_some _ e))
      have new : IsTupL g7 g'.objs.size vals := e7.extBut _ _ (Nat.ne_of_gt zlt) (e6.extBut _ _ (Nat.ne_of_gt zlt) (Heap.get?_push_size _ rfl))
      rw [t.size] at z7 new
      refine wpAny_pure ⟨_, rfl, ?_⟩
      show Q (.ref g'.objs.size) ⟨g7, g, d, tk, os⟩
      rw [t.size]
      have PL : P = L := by rw [t.all, List.append_nil]
      refine hQ g7 tk _ _ vals z7 (.inr ⟨_, rfl⟩) ⟨_, rfl⟩ (up _ _ D.TOz tT) hlen (up _ _ D.TIz (t.keeps _ _ D.TIz D.TITO TIL hTI)) (fun q hq => ?_) new fun c o k0 k1 k2 e => up c o k0 (t.keeps c o k0 k1 k2 e)
      obtain ⟨o1, o2, _⟩ := D.off q hq
      exact Strand.keep (t.past q (by rw [PL]; exact hq)) (fun z => D.sep q hq q hq z.symm) (fun o k => up _ _ (fun z => o1 z.symm) k) fun o k => up _ _ (fun z => o2 z.symm) k
  case no =>
    replace e0 : Heap.SameBut z hp g0 := e0
    simp only [Bool.false_eq_true, if_false]
    refine wpAny_bind ?_
    rw [← Array.forIn_toList]
    refine wpAny_forIn_list _ (fun rest b s' => ∃ R P g' tk, rest = (R.map fun q : Strand => Value.ref q.it) ∧ b = (none, (vals.take P.length).toArray) ∧ s' = ⟨g', g, d, tk, os⟩ ∧ ZTurn hp z TI TO L i own (.bool true) P R old g') _ ?turn ?fin _ _ ?start
    case start =>
      refine ⟨L, [], g0, tk0, rfl, rfl, rfl, rfl, e0.extBut _ _ D.TOz hTO, (fun q hq => by cases hq), fun q hq => ?_, z0, fun c o k1 k2 k3 k => e0.extBut _ _ k1 k, e0.1⟩
      obtain ⟨o1, o2, _⟩ := D.off q hq
      exact Strand.keep (st q hq) (fun z => D.sep q hq q hq z.symm) (fun o k => e0.extBut _ _ (fun z => o1 z.symm) k) fun o k => e0.extBut _ _ (fun z => o2 z.symm) k
    case turn =>
      rintro v rest b s' ⟨R, P, g', tk, eR, rfl, rfl, t⟩
      cases R with
      | nil => cases eR
      | cons q R =>
        simp only [List.map_cons, List.cons.injEq] at eR
        obtain ⟨rfl, rfl⟩ := eR
        have hqL : L[P.length]? = some q := by rw [t.all, List.getElem?_append_right (Nat.le_refl _), Nat.sub_self]; rfl
        have hm : P.length < L.length := (List.getElem?_eq_some_iff.mp hqL).1
        obtain ⟨x, hx⟩ : ∃ x, vals[P.length]? = some x := ⟨vals[P.length]'(by omega), List.getElem?_eq_getElem (by omega)⟩
        have hqx : q.vs[i]? = some x := by rw [hv _ q hqL, hx]
        refine wpAny_bind (wpAny_holding ?_)
        show wpAny _ _ (Builtin.SmallTypes.nextOf (.ref q.it) >>= _) _ _ ⟨g', g, d, tk, os⟩
        refine wpAny_bind (zturn_draw hh D t hqx fun g1 tk1 t1 => wpAny_pure (wpAny_pure ?_))
        refine ⟨R, P ++ [q], g1, tk1, rfl, ?_, rfl, t1⟩
        rw [List.length_append, List.length_singleton, List.take_add_one, hx]
        simp
    case fin =>
      rintro b s' ⟨R, P, g', tk, eR, rfl, rfl, t⟩
      have eR0 : R = [] := by
        cases R with
        | nil => rfl
        | cons q R => cases eR
      subst eR0
      have PL : P = L := by rw [t.all, List.append_nil]
      have eV : vals.take P.length = vals := by rw [PL, ← hlen, List.take_length]
      have hvl : vals.length ≤ sizeLine := by omega
      rw [eV]
      show wpAny _ _ (newTuple vals.toArray.toList >>= _) _ _ ⟨g', g, d, tk, os⟩
      refine wpAny_bind (wpAny_newTuple ?_ (by simpa using hvl))
      have up : ∀ {c o}, g'.get? c = some o → (g'.push { cls := .type "tuple", data := .seq vals.toArray }).get? c = some o := fun e => Heap.get?_push_of_some _ e
      have new : IsTupL (g'.push { cls := .type "tuple", data := .seq vals.toArray }) g'.objs.size vals := Heap.get?_push_size _ rfl
      rw [t.size] at new
      refine wpAny_pure ⟨_, rfl, ?_⟩
      show Q (.ref g'.objs.size) _
      rw [t.size]
      exact hQ _ tk _ _ old (up t.zip) ho ⟨_, rfl⟩ (up t.tup) hold (up (t.keeps _ _ D.TIz D.TITO TIL hTI)) (fun q hq => Strand.keep (t.past q (by rw [PL]; exact hq)) (fun z => D.sep q hq q hq z.symm) (fun o k => up k) fun o k => up k) new
        fun c o k0 k1 k2 e => up (t.keeps c o k0 k1 k2 e)
/-- the end: the first strand has ended -/
theorem zipN_next_end {z TI TO : Addr} {L : List Strand} {i : Nat} {own f : Value} {Q : Fin → Shared → Prop} (hh : A.handled = none) (D : ZipSepN z TI TO L) (q : Strand) (R : List Strand) (hL : L = q :: R) (hend : i = q.vs.length)
    (hz : ZipAny s.heap z TI TO own f) (ho : OwnZ own) (hf : FlagZ f) (hTI : IsTupL s.heap TI (L.map fun q => .ref q.it)) (st : ∀ q ∈ L, q.on i s.heap)
    (hE : ∀ h' tk e, (∀ c o, c ≠ z → c ≠ TO → c ∉ L.map (·.it) → s.heap.get? c = some o → h'.get? c = some o) → (∃ o, h'.get? e = some o ∧ o.cls = .type "StopIteration") → E (.ref e) { s with heap := h', toks := tk }) :
    wpAny (model prog w) A (Builtin.«zip.__next__» ⟨[.ref z], []⟩) Q E s := by
  obtain ⟨hp, g, d, tk0, os⟩ := s
  subst hL
  have hq : q ∈ q :: R := List.mem_cons_self
  obtain ⟨o1, o2, o3, o4, o5⟩ := D.off q hq
  have hne : q.a ≠ q.it := fun z => D.sep q hq q hq z.symm
  show wpAny _ _ (field (.ref z) 2 >>= _) _ _ _
  refine wpAny_bind (wpAny_field hz rfl (x := .bool false) rfl ?_)
  show wpAny _ _ (field (.ref z) 3 >>= _) _ _ _
  refine wpAny_bind (wpAny_field hz rfl (x := .ref TI) rfl ?_)
  refine wpAny_bind (wpAny_seqItems hTI rfl ?_)
  have ne : ((q :: R).map fun q => Value.ref q.it).toArray.isEmpty = false := rfl
  simp only [ne, Bool.false_eq_true, if_false]
  show wpAny _ _ (Builtin.SmallTypes.ownedTupleIsFree (.ref z) >>= _) _ _ _
  refine wpAny_bind (free_or hz ho hf ?yes fun g0 z0 e0 => ?no)
  case yes =>
    simp only [if_true]
    refine wpAny_bind (wpAny_rule ?_)
    refine wpAny_bind (wpAny_field hz rfl (x := .ref TO) rfl ?_)
    refine wpAny_bind (wpAny_setField_rec hz (by simp) fun g0 z0 e0 => ?_)
    replace z0 : ZipAny g0 z TI TO .ellipsis f := z0
    replace e0 : Heap.SameBut z hp g0 := e0
    refine wpAny_bind ?_
    simp only [List.map_cons, List.zipIdx_cons, List.forIn_cons]
    refine wpAny_bind (wpAny_bind (wpAny_onRaise ?_))
    show wpAny _ _ (Builtin.SmallTypes.nextOf (.ref q.it) >>= _) _ _ ⟨g0, g, d, tk0, os⟩
    have sq : q.on i g0 := Strand.keep (st q hq) hne (fun o k => e0.extBut _ _ (fun z => o1 z.symm) k) fun o k => e0.extBut _ _ (fun z => o2 z.symm) k
    refine wpAny_bind ((q.draws (prog := prog) (w := w) hh hne).done ⟨g0, g, d, tk0, os⟩ _ _ (by rw [← hend]; exact sq) fun g3 e e3 he => ?_)
    replace e3 : Heap.ExtBut q.it g0 g3 := e3
    obtain ⟨oe, p1, p2⟩ := he
    replace p1 : g3.get? e = some oe := p1
    have z3 : ZipAny g3 z TI TO .ellipsis f := e3 _ _ o1 z0
    have ne : e ≠ z := fun q => by
      subst q
      rw [z3] at p1
      cases p1
      simp at p2
    refine wpAny_setField_rec (s := ⟨g3, g, d, tk0, os⟩) z3 (by simp) fun g4 _ e4 => ?_
    replace e4 : Heap.SameBut z g3 g4 := e4
    exact hE g4 tk0 e (fun c o k0 k1 k2 k => e4.extBut _ _ k0 (e3 _ _ (fun z => k2 (by rw [z]; exact List.mem_map_of_mem hq)) (e0.extBut _ _ k0 k))) ⟨oe, e4.extBut _ _ ne p1, p2⟩
  case no =>
    replace e0 : Heap.SameBut z hp g0 := e0
    simp only [Bool.false_eq_true, if_false]
    refine wpAny_bind ?_
    rw [← Array.forIn_toList]
    simp only [List.map_cons, List.forIn_cons]
    refine wpAny_bind (wpAny_bind (wpAny_holding ?_))
    show wpAny _ _ (Builtin.SmallTypes.nextOf (.ref q.it) >>= _) _ _ ⟨g0, g, d, tk0, os⟩
    have sq : q.on i g0 := Strand.keep (st q hq) hne (fun o k => e0.extBut _ _ (fun z => o1 z.symm) k) fun o k => e0.extBut _ _ (fun z => o2 z.symm) k
    refine wpAny_bind ((q.draws (prog := prog) (w := w) hh hne).done ⟨g0, g, d, tk0, os⟩ _ _ (by rw [← hend]; exact sq) fun g3 e e3 he => ?_)
    replace e3 : Heap.ExtBut q.it g0 g3 := e3
    exact hE g3 tk0 e (fun c o k0 k1 k2 k => e3 _ _ (fun z => k2 (by rw [z]; exact List.mem_map_of_mem hq)) (e0.extBut _ _ k0 k)) he
/-! ### zip is made -/
/-- the iterators of some sequences, made one behind the other -/
def itsFrom : Nat → List (Bool × Addr × List Value) → List Strand
  | _, [] => []
  | n, q :: l => ⟨n, q.1, q.2.1, q.2.2⟩ :: itsFrom (n + 1) l
theorem itsFrom_append : ∀ (n : Nat) (P : List (Bool × Addr × List Value)) (q : Bool × Addr × List Value), itsFrom n (P ++ [q]) = itsFrom n P ++ [⟨n + P.length, q.1, q.2.1, q.2.2⟩]
  | n, [], q => rfl
  | n, p :: P, q => by
    show _ :: itsFrom (n + 1) (P ++ [q]) = _ :: (itsFrom (n + 1) P ++ _)
    rw [itsFrom_append (n + 1) P q, List.length_cons, show n + 1 + P.length = n + (P.length + 1) by omega]
theorem itsFrom_length : ∀ (n : Nat) (P : List (Bool × Addr × List Value)), (itsFrom n P).length = P.length
  | n, [] => rfl
  | n, p :: P => by
    show (itsFrom (n + 1) P).length + 1 = P.length + 1
    rw [itsFrom_length]
theorem itsFrom_it : ∀ (n : Nat) (P : List (Bool × Addr × List Value)) (q : Strand), q ∈ itsFrom n P → n ≤ q.it ∧ q.it < n + P.length ∧ (q.t, q.a, q.vs) ∈ P
  | n, [], q, h => by cases h
  | n, p :: P, q, h => by
    rcases List.mem_cons.mp h with e | h
    · subst e
      exact ⟨Nat.le_refl _, by show n < n + (P.length + 1); omega, List.mem_cons_self⟩
    · obtain ⟨h1, h2, h3⟩ := itsFrom_it (n + 1) P q h
      have h1' : n + 1 ≤ q.it := h1
      have h2' : q.it < n + 1 + P.length := h2
      exact ⟨Nat.le_of_succ_le h1', by show q.it < n + (P.length + 1); rw [show n + (P.length + 1) = n + 1 + P.length by omega]; exact h2', List.mem_cons_of_mem _ h3⟩
theorem itsFrom_ta : ∀ (n : Nat) (P : List (Bool × Addr × List Value)), (itsFrom n P).map (fun q => (q.t, q.a)) = P.map fun q => (q.1, q.2.1)
  | n, [] => rfl
  | n, p :: P => by
    show _ :: (itsFrom (n + 1) P).map _ = _ :: P.map _
    rw [itsFrom_ta]
theorem itsFrom_nd : ∀ (n : Nat) (P : List (Bool × Addr × List Value)), ((itsFrom n P).map (·.it)).Nodup
  | n, [] => List.nodup_nil
  | n, p :: P => by
    show ((n : Addr) :: (itsFrom (n + 1) P).map (·.it)).Nodup
    rw [List.nodup_cons]
    refine ⟨fun h => ?_, itsFrom_nd (n + 1) P⟩
    obtain ⟨q, hq, e⟩ := List.mem_map.mp h
    have := (itsFrom_it (n + 1) P q hq).1
    rw [e] at this
    exact absurd this (Nat.not_succ_le_self n)
theorem iterAll_k {n : Nat} (L : List (Bool × Addr × List Value)) (hL : ∀ q ∈ L, Iv.sqAt q.1 s.heap q.2.1 q.2.2.toArray) {Q : List Value → Shared → Prop} (hn : s.heap.objs.size = n)
    (hQ : ∀ h', (∀ q ∈ itsFrom n L, h'.get? q.it = some (Iv.itO q.t q.a)) → h'.objs.size = n + L.length → (∀ c o, s.heap.get? c = some o → h'.get? c = some o) → Q ((itsFrom n L).map fun q => .ref q.it) { s with heap := h' }) :
    wpAny (model prog w) A (Builtin.SmallTypes.iterAll (L.map fun q => .ref q.2.1)) Q E s := by
  unfold Builtin.SmallTypes.iterAll
  refine wpAny_bind (wpAny_forIn_list _ (fun rest b s' => ∃ P R g', L = P ++ R ∧ rest = (R.map fun q : Bool × Addr × List Value => Value.ref q.2.1) ∧ b = ((itsFrom n P).map fun q => Value.ref q.it).toArray ∧ s' = { s with heap := g' } ∧
    (∀ q ∈ itsFrom n P, g'.get? q.it = some (Iv.itO q.t q.a)) ∧ g'.objs.size = n + P.length ∧ ∀ c o, s.heap.get? c = some o → g'.get? c = some o) _ ?turn ?fin _ _ ?start)
  case start => exact ⟨[], L, s.heap, rfl, rfl, rfl, rfl, (fun q hq => by cases hq), hn, fun c o k => k⟩
  case fin =>
    rintro b s' ⟨P, R, g', eL, eR, rfl, rfl, h1, h2, h3⟩
    have eR0 : R = [] := by
      cases R with
      | nil => rfl
      | cons q R => cases eR
    subst eR0
    rw [List.append_nil] at eL
    subst eL
    exact wpAny_pure (hQ g' h1 h2 h3)
  case turn =>
    rintro v rest b s' ⟨P, R, g', eL, eR, rfl, rfl, h1, h2, h3⟩
    cases R with
    | nil => cases eR
    | cons q R =>
      simp only [List.map_cons, List.cons.injEq] at eR
      obtain ⟨rfl, rfl⟩ := eR
      have hq : q ∈ L := by rw [eL]; simp
      have sq : Iv.sqAt q.1 g' q.2.1 q.2.2.toArray := (Iv.begins_k q.1 q.2.1 q.2.2.toArray).keeps _ _ (hL q hq) h3
      refine wpAny_bind (wpAny_holding ((Iv.begins_k q.1 q.2.1 q.2.2.toArray).iter prog w _ _ { s with heap := g' } _ sq ?_))
      refine wpAny_pure ⟨P ++ [q], R, g'.push (Iv.itO q.1 q.2.1), by rw [eL, List.append_assoc]; rfl, rfl, ?_, rfl, fun r hr => ?_, ?_, fun c o k => Heap.get?_push_of_some _ (h3 c o k)⟩
      · rw [itsFrom_append, List.map_append]
        show Array.push _ (Value.ref g'.objs.size) = _
        rw [h2]
        simp
      · rw [itsFrom_append] at hr
        rcases List.mem_append.mp hr with hr | hr
        · exact Heap.get?_push_of_some _ (h1 r hr)
        · have e : r = ⟨n + P.length, q.1, q.2.1, q.2.2⟩ := by simpa using hr
          subst e
          have z := Heap.get?_push_size g' (o := Iv.itO q.1 q.2.1) (by cases q.1 <;> rfl)
          rw [h2] at z
          exact z
      · rw [Heap.size_push, h2, List.length_append]
        show n + P.length + 1 = n + (P.length + 1)
        omega
theorem F.typeCall_zip_N (vs : List Value) : checkTypeCall "zip" ⟨vs, []⟩ = pure () := by kernel_rfl
theorem F.newCall_zip_1 (a : Value) : checkBuiltinCall "zip.__new__" ⟨[.type "zip", a], []⟩ = pure () := by kernel_rfl
theorem F.newCall_zip_4 (a b c d : Value) : checkBuiltinCall "zip.__new__" ⟨[.type "zip", a, b, c, d], []⟩ = pure () := by kernel_rfl
theorem F.newCall_zip_5 (a b c d e : Value) : checkBuiltinCall "zip.__new__" ⟨[.type "zip", a, b, c, d, e], []⟩ = pure () := by kernel_rfl
theorem F.newCall_zip_N : ∀ (vs : List Value), vs ≠ [] → vs.length ≤ 5 → checkBuiltinCall "zip.__new__" ⟨.type "zip" :: vs, []⟩ = pure ()
  | [], h, _ => absurd rfl h
  | [a], _, _ => F.newCall_zip_1 a
  | [a, b], _, _ => F.newCall_zip_2 a b
  | [a, b, c], _, _ => F.newCall_zip_3 a b c
  | [a, b, c, d], _, _ => F.newCall_zip_4 a b c d
  | [a, b, c, d, e], _, _ => F.newCall_zip_5 a b c d e
  | _ :: _ :: _ :: _ :: _ :: _ :: _, _, h => by simp at h
theorem F.args_object_init_5 (obj a b c d : Value) : argsOk "object.__init__" ⟨[obj, a, b, c, d], []⟩ := by unfold argsOk; kernel_rfl
theorem F.args_object_init_6 (obj a b c d e : Value) : argsOk "object.__init__" ⟨[obj, a, b, c, d, e], []⟩ := by unfold argsOk; kernel_rfl
theorem F.args_object_init_N (obj : Value) : ∀ (vs : List Value), vs ≠ [] → vs.length ≤ 5 → argsOk "object.__init__" ⟨obj :: vs, []⟩
  | [], h, _ => absurd rfl h
  | [a], _, _ => F.args_object_init_2 obj a
  | [a, b], _, _ => F.args_object_init_3 obj a b
  | [a, b, c], _, _ => F.args_object_init_4 obj a b c
  | [a, b, c, d], _, _ => F.args_object_init_5 obj a b c d
  | [a, b, c, d, e], _, _ => F.args_object_init_6 obj a b c d e
  | _ :: _ :: _ :: _ :: _ :: _ :: _, _, h => by simp at h
theorem meets_zip_newN (L : List (Bool × Addr × List Value)) (hl : L.length ≤ 5) :
    Meets (Builtin.«zip.__new__» ⟨.type "zip" :: L.map (fun q => .ref q.2.1), []⟩) (fun _ R s => (∀ q ∈ L, Iv.sqAt q.1 s.heap q.2.1 q.2.2.toArray) ∧
      ∀ h' : Heap, (∀ q ∈ itsFrom s.heap.objs.size L, h'.get? q.it = some (Iv.itO q.t q.a)) → h'.objs.size = s.heap.objs.size + L.length → (∀ c o, s.heap.get? c = some o → h'.get? c = some o) →
        R (.ok (.ret (.ref (h'.objs.size + 2)))) { s with heap := ((h'.push { cls := .type "tuple", data := .seq ((itsFrom s.heap.objs.size L).map fun q => Value.ref q.it).toArray }).push { cls := .type "tuple", data := .seq (((itsFrom s.heap.objs.size L).map fun q => Value.ref q.it).map fun _ => Value.none).toArray }).push { cls := .type "zip", data := .fields #[.none, .bool false, .bool false, .ref h'.objs.size, .ref (h'.objs.size + 1)] } }) :=
  .of_wp fun prog w A R s h => by
    obtain ⟨hp, g, d, tk, os⟩ := s; obtain ⟨h1, h⟩ := h
    have hsub := sub_zip
    have q1 : ∀ {A' : Around} {E : Value → Shared → Prop} {Q : List Value → Shared → Prop}, (∀ h', (∀ q ∈ itsFrom hp.objs.size L, h'.get? q.it = some (Iv.itO q.t q.a)) → h'.objs.size = hp.objs.size + L.length → (∀ c o, hp.get? c = some o → h'.get? c = some o) → Q ((itsFrom hp.objs.size L).map fun q => .ref q.it) ⟨h', g, d, tk, os⟩) →
        wpAny (model prog w) A' (Builtin.SmallTypes.iterAll (L.map fun q => .ref q.2.1)) Q E ⟨hp, g, d, tk, os⟩ :=
      fun q => iterAll_k L h1 rfl q
    wp_walk using q1
    intro h' a b c
    have l1 : (List.map (fun q => Value.ref q.it) (itsFrom hp.objs.size L)).length ≤ sizeLine := by
      rw [List.length_map, itsFrom_length]
      exact Nat.le_trans hl (by decide)
    refine wpAny_bind (wpAny_newTuple ?_ l1)
    refine wpAny_bind (wpAny_newTuple ?_ (by rw [List.length_map]; exact l1))
    have hh := h h' a b c
    have z1 : (h'.push { cls := .type "tuple", data := .seq (List.map (fun q => Value.ref q.it) (itsFrom hp.objs.size L)).toArray }).objs.size = h'.objs.size + 1 := by rw [Heap.size_push]
    have z2 : ((h'.push { cls := .type "tuple", data := .seq (List.map (fun q => Value.ref q.it) (itsFrom hp.objs.size L)).toArray }).push { cls := .type "tuple", data := .seq (List.map (fun _ => Value.none) (List.map (fun q => Value.ref q.it) (itsFrom hp.objs.size L))).toArray }).objs.size = h'.objs.size + 2 := by rw [Heap.size_push, z1]
    wp_walk
    refine ⟨_, rfl, ?_⟩
    rw [← z2, ← z1] at hh
    exact hh
end
end PySem
namespace Iv
open PySem PySem.Spec PyProof.Rows L2
open PySem.Calls
section
variable {M : Model} {A : Around} {E : Value → Shared → Prop} {s : Shared}
theorem callWith_typeS {pos : Pos} {T : String} {x : Sem Value} {Q : Value → Shared → Prop} (h : wpAny M A x (fun v s₁ => PySem.W.StarOf M A E v (fun vs s₂ => wpAny M A (call (.type T) vs) Q E s₂) s₁) E s) :
    wpAny M A (callWith pos (.type T) [] [(true, (do let v ← x; standAt pos; pure v))] []) Q E s := by
  unfold callWith
  refine wpAny_bind (wpAny_holding (wpAny_mono (PySem.W.ks_lone (Q := fun a s₁ => wpAny M A (call (.type T) a.pos a.kw) Q E s₁) h) (fun a s₁ h₁ => wpAny_bind (wpAny_standAt ?_)) fun _ _ x => x))
  simp only [List.any_cons, Bool.true_or]
  refine wpAny_bind (wpAny_pure ?_)
  refine wpAny_bind (wpAny_operating ?_)
  exact wpAny_mono h₁ (fun r s₂ hr => wpAny_bind (wpAny_holding (wpAny_point (wpAny_pure hr)))) fun _ _ x => x
end
def SqKs (K : PySem.W.Frag) (H : Hp) : List (Bool × Addr) → List (List V) → Prop
  | [], xss => xss = []
  | q :: qs, xss => ∃ xs r, xss = xs :: r ∧ SqK K H q.1 q.2 xs ∧ SqKs K H qs r
def Col (i : Nat) : List (List V) → List V → Prop
  | [], ys => ys = []
  | xs :: xss, ys => ∃ y r, ys = y :: r ∧ xs[i]? = some y ∧ Col i xss r
theorem Col.length {i : Nat} : ∀ {xss : List (List V)} {ys : List V}, Col i xss ys → ys.length = xss.length
  | [], ys, h => by
    rw [show ys = [] from h]
    rfl
  | xs :: xss, ys, ⟨y, r, e, _, h⟩ => by rw [e, List.length_cons, List.length_cons, Col.length h]
def ItzS (K : PySem.W.Frag) (qs : List (Bool × Addr)) : It :=
  ⟨fun i H => ∃ (xss : List (List V)) (ys : List V), SqKs K H qs xss ∧ Col i xss ys,
    fun i H v H' => ∃ T ys, v = .ref T ∧ H T = none ∧ H' = upd H T (.tup ys) ∧ ∀ xss, SqKs K H qs xss → Col i xss ys,
    fun i H => ∃ xss : List (List V), SqKs K H qs xss ∧ ∀ xs ∈ xss, xs.length = i⟩
theorem sqks_inj {X : Cx} {pins : List (Addr × Obj)} {σ : L2.St} {H : Hp} {s : Shared} (I : Inv X pins σ H s) : ∀ {qs : List (Bool × Addr)} {xss yss : List (List V)}, SqKs X.K H qs xss → SqKs X.K H qs yss → xss = yss
  | [], xss, yss, h, k => by rw [show xss = [] from h, show yss = [] from k]
  | q :: qs, xss, yss, ⟨xs, r, e1, h1, h2⟩, ⟨ys, r', e2, k1, k2⟩ => by rw [e1, e2, sqk_inj I h1 k1, sqks_inj I h2 k2]
theorem strands_of {X : Cx} {pins : List (Addr × Obj)} {σ : L2.St} {H : Hp} {s : Shared} (I : Inv X pins σ H s) : ∀ {PL : List (Addr × Bool × Addr)} {xss : List (List V)}, SqKs X.K H (PL.map (·.2)) xss →
    ∃ L : List Strand, L.map (fun q => (q.it, q.t, q.a)) = PL ∧ (∀ q ∈ L, sqAt q.t s.heap q.a q.vs.toArray) ∧
      (∀ i ys, Col i xss ys → ∃ vals, Vals ys vals ∧ vals.length = L.length ∧ ∀ (m : Nat) (q : Strand), L[m]? = some q → q.vs[i]? = vals[m]?) ∧ (∀ i, (∀ xs ∈ xss, xs.length = i) → ∀ q ∈ L, q.vs.length = i)
  | [], xss, h => ⟨[], rfl, (fun q hq => by cases hq), fun i ys hc => by
      rw [show xss = [] from h] at hc
      rw [show ys = [] from hc]
      exact ⟨[], .nil, rfl, fun m q e => by simp at e⟩, fun i _ q hq => by cases hq⟩
  | p :: PL, xss, ⟨xs, r, e1, h1, h2⟩ => by
    obtain ⟨L, k1, k2, k3, k4⟩ := strands_of I h2
    obtain ⟨its, rv, p1, _⟩ := sqk_of I h1
    subst e1
    refine ⟨⟨p.1, p.2.1, p.2.2, its⟩ :: L, by rw [List.map_cons, k1], fun q hq => ?_, fun i ys hc => ?_, fun i ha q hq => ?_⟩
    · rcases List.mem_cons.mp hq with e | hq
      · rw [e]; exact p1
      · exact k2 q hq
    · obtain ⟨y, r', rfl, e2, hc2⟩ := hc
      obtain ⟨vals, v1, v2, v3⟩ := k3 i r' hc2
      obtain ⟨u, hu, ru⟩ := rv.get e2
      refine ⟨u :: vals, .cons ru v1, by rw [List.length_cons, List.length_cons, v2], fun m q e => ?_⟩
      cases m with
      | zero =>
        have e' : (⟨p.1, p.2.1, p.2.2, its⟩ : Strand) = q := by simpa using e
        rw [← e']
        exact hu
      | succ m => exact v3 m q (by simpa using e)
    · rcases List.mem_cons.mp hq with e | hq
      · rw [e, ← ha xs List.mem_cons_self]
        exact rv.length.symm
      · exact k4 i (fun xs hx => ha xs (List.mem_cons_of_mem _ hx)) q hq
theorem mem_strand {PL : List (Addr × Bool × Addr)} {L : List Strand} (e : L.map (fun q => (q.it, q.t, q.a)) = PL) {q : Strand} (hq : q ∈ L) : (q.it, q.t, q.a) ∈ PL := by
  rw [← e]
  exact List.mem_map_of_mem hq
theorem refs_strand {PL : List (Addr × Bool × Addr)} {L : List Strand} (e : L.map (fun q => (q.it, q.t, q.a)) = PL) : (PL.map fun p => Value.ref p.1) = L.map (fun q => Value.ref q.it) ∧ PL.map (·.1) = L.map (·.it) ∧ PL.length = L.length := by
  rw [← e]
  simp
theorem turn_zipS {P : Program} {w : World} {K : PySem.W.Frag} {tg : Expr} {PL : List (Addr × Bool × Addr)} {z TI TO : Addr} (ht : notTup tg = true) (h0 : PL ≠ []) (h4 : PL.length ≤ 5) (D : ∀ L : List Strand, L.map (fun q => (q.it, q.t, q.a)) = PL → ZipSepN z TI TO L) :
    Turn P w K tg (ItzS K (PL.map (·.2))) (z :: TI :: TO :: PL.map (·.1)) z (fun i h => (∃ own f, ZipAny h z TI TO own f ∧ OwnZ own ∧ FlagZ f) ∧ IsTupL h TI (PL.map fun p => .ref p.1) ∧ (∃ old, IsTupL h TO old ∧ old.length = PL.length) ∧ ∀ p ∈ PL, itAt p.2.1 h p.1 p.2.2 i) where
  mem := by simp
  obj := by
    intro i h st c hc
    obtain ⟨⟨own, f, e1, _⟩, e2, ⟨old, e3, _⟩, e4⟩ := st
    simp only [List.mem_cons] at hc
    rcases hc with q | q | q | q
    · exact ⟨_, by rw [q]; exact e1, fun v q' => by cases q'⟩
    · exact ⟨_, by rw [q]; exact e2, fun v q' => by cases q'⟩
    · exact ⟨_, by rw [q]; exact e3, fun v q' => by cases q'⟩
    · obtain ⟨p, hp, rfl⟩ := List.mem_map.mp q
      exact itAt_obj (e4 p hp)
  keep := by
    intro i h h' st k
    obtain ⟨⟨own, f, e1, eo⟩, e2, ⟨old, e3, eo3⟩, e4⟩ := st
    exact ⟨⟨own, f, k z (by simp) _ e1, eo⟩, k TI (by simp) _ e2, ⟨old, k TO (by simp) _ e3, eo3⟩, fun p hp => itAt_keep (e4 p hp) fun o q => k p.1 (by simp only [List.mem_cons]; exact .inr (.inr (.inr (List.mem_map_of_mem hp)))) o q⟩
  item := by
    intro X eP eW eK hc i pins s σ H E I hfp st hg
    subst eP eW eK
    obtain ⟨⟨own, f, e1, eo, ef⟩, e2, ⟨old, e3, eo3⟩, e4⟩ := st
    obtain ⟨xss, ys, qx, hcol⟩ := hg
    obtain ⟨L, k1, k2, k3, _⟩ := strands_of I qx
    obtain ⟨vals, v1, v2, v3⟩ := k3 i ys hcol
    obtain ⟨r1, r2, r3⟩ := refs_strand k1
    have hd : X.A.in1.handled = none := I.ok.hd hc
    have hT : s.TypeIs (.ref z) "zip" := ⟨_, e1, rfl⟩
    have hL0 : L ≠ [] := fun e => h0 (by rw [← k1, e]; rfl)
    have hLl : L.length ≤ sizeLine := by rw [← r3]; exact Nat.le_trans h4 (by decide)
    rw [r1] at e2
    unfold pyNext
    refine wpAny_bind (wpAny_attempt (wpAny_callSpecial?_slot (name := Str.ofString "__next__") hT F.slot_zip_next (wpAny_call_entry F.slot_zip_next hT F.entry_zip_next
      (zipN_next_item (i := i) (L := L) (vals := vals) hd (D L k1) hL0 hLl (by rw [eo3, r3]) v2 v3 e1 eo ef e2 e3 (fun q hq => ⟨e4 _ (mem_strand k1 hq), k2 q hq⟩)
        fun h' tk own' f' old' z' o' f2 t' lt' ti' so new keep => wpAny_pure ?_) (F.args_zip_next_1 _))))
    refine ⟨_, rfl, go_plain ht ?_⟩
    have hyl : ys.length ≤ sizeLine := by rw [v1.length, v2]; exact hLl
    have nw : ObjOk X.prog X.w (upd H s.heap.objs.size (.tup ys)) h' s.heap.objs.size (.tup ys) :=
      ⟨hyl, vals, v1, ⟨_, new, rfl, _, rfl⟩⟩
    have J : Inv X pins σ (upd H s.heap.objs.size (.tup ys)) { s with heap := h', toks := tk } := I.turnedNew (ch := z :: TI :: TO :: PL.map (·.1))
      (fun c o hb q => keep c o (fun q' => hb (by simp [q'])) (fun q' => hb (by simp [q'])) (fun q' => hb (by rw [r2]; simp only [List.mem_cons]; exact .inr (.inr (.inr q')))) q) hfp (Nat.le_refl _) nw
    refine ⟨.ref s.heap.objs.size, _, J, rfl, ⟨s.heap.objs.size, ys, rfl, I.hok.fresh (Nat.le_refl _), rfl, fun l hl => by rw [sqks_inj I hl qx]; exact hcol⟩, ⟨⟨_, _, z', o', f2⟩, by rw [r1]; exact ti', ⟨old', t', by rw [lt', r3]⟩, fun p hp => ?_⟩, fun c hcm => ?_⟩
    · rw [← k1] at hp
      obtain ⟨q, hq, rfl⟩ := List.mem_map.mp hp
      exact (so q hq).1
    · have hlt : c < s.heap.objs.size := by
        simp only [List.mem_cons] at hcm
        rcases hcm with q | q | q | q
        · rw [q]; exact Heap.lt_size e1
        · rw [q]; exact Heap.lt_size e2
        · rw [q]; exact Heap.lt_size e3
        · obtain ⟨p, hp, rfl⟩ := List.mem_map.mp q
          obtain ⟨o, e, _⟩ := itAt_obj (e4 p hp)
          exact Heap.lt_size e
      rw [upd_ne (Nat.ne_of_lt hlt)]
      exact (hfp c hcm).1
  done := by
    intro X eP eW eK hc i pins s σ H E I hfp st hg
    subst eP eW eK
    obtain ⟨⟨own, f, e1, eo, ef⟩, e2, ⟨old, e3, eo3⟩, e4⟩ := st
    obtain ⟨xss, qx, hi⟩ := hg
    obtain ⟨L, k1, k2, _, k4⟩ := strands_of I qx
    obtain ⟨r1, r2, r3⟩ := refs_strand k1
    have hd : X.A.in1.handled = none := I.ok.hd hc
    have hT : s.TypeIs (.ref z) "zip" := ⟨_, e1, rfl⟩
    rw [r1] at e2
    obtain ⟨q, R, hL⟩ : ∃ q R, L = q :: R := by
      cases L with
      | nil => exact absurd (by rw [← k1]; rfl) h0
      | cons q R => exact ⟨q, R, rfl⟩
    unfold pyNext
    refine wpAny_bind (wpAny_attempt (wpAny_callSpecial?_slot (name := Str.ofString "__next__") hT F.slot_zip_next (wpAny_call_entry F.slot_zip_next hT F.entry_zip_next
      (zipN_next_end (i := i) (L := L) hd (D L k1) q R hL (k4 i hi q (by rw [hL]; exact List.mem_cons_self)).symm e1 eo ef e2 (fun q hq => ⟨e4 _ (mem_strand k1 hq), k2 q hq⟩)
        fun h' tk e keep he => ?_) (F.args_zip_next_1 _))))
    obtain ⟨o, ho, hcl⟩ := he
    refine wpAny_bind (wpAny_isInstance (T := "StopIteration") (b := true) ⟨o, ho, hcl⟩ isSubtype_stop ?_)
    refine wpAny_pure ⟨rfl, ?_⟩
    exact I.turnedL (ch := z :: TI :: TO :: PL.map (·.1)) (fun c o hb q => keep c o (fun q' => hb (by simp [q'])) (fun q' => hb (by simp [q'])) (fun q' => hb (by rw [r2]; simp only [List.mem_cons]; exact .inr (.inr (.inr q')))) q) hfp
  self := fun A i s Q E st h => by
    obtain ⟨⟨own, f, e1, _⟩, _⟩ := st
    have hT : s.TypeIs (.ref z) "zip" := ⟨_, e1, rfl⟩
    refine wpAny_pyIter_slot hT F.slot_zip_iter (wpAny_call_entry F.slot_zip_iter hT F.entry_zip_iter ?_ (F.args_zip_iter_1 _))
    exact wpAny_pure ⟨_, rfl, "zip", _, hT, F.slot_zip_next.lookup, h⟩
def iZipS (K : PySem.W.Frag) (te : L2.TE) : TI := fun σ H R => te σ H fun x H1 => ∃ (a : Addr) (qs : List (Bool × Addr)) (xss : List (List V)), x = .ref a ∧ (SqT K H1 a (qs.map fun q => .ref q.2) ∨ SqL K H1 a (qs.map fun q => .ref q.2)) ∧ SqKs K H1 qs xss ∧ qs ≠ [] ∧ qs.length ≤ 5 ∧ R (ItzS K qs) H1
theorem vals_refs : ∀ {qs : List (Bool × Addr)} {us : List Value}, Vals (qs.map fun q => V.ref q.2) us → us = qs.map fun q => Value.ref q.2
  | [], _, .nil => rfl
  | q :: qs, u :: us, .cons h r => by
    rw [show u = Value.ref q.2 from h, vals_refs r]
    rfl
theorem sqs_of {X : Cx} {pins : List (Addr × Obj)} {σ : L2.St} {H : Hp} {s : Shared} (I : Inv X pins σ H s) : ∀ {qs : List (Bool × Addr)} {xss : List (List V)}, SqKs X.K H qs xss →
    ∃ L : List (Bool × Addr × List Value), L.map (fun q => (q.1, q.2.1)) = qs ∧ ∀ q ∈ L, sqAt q.1 s.heap q.2.1 q.2.2.toArray
  | [], xss, h => ⟨[], rfl, fun q hq => by cases hq⟩
  | p :: qs, xss, ⟨xs, r, e1, h1, h2⟩ => by
    obtain ⟨L, k1, k2⟩ := sqs_of I h2
    obtain ⟨its, rv, p1, _⟩ := sqk_of I h1
    refine ⟨(p.1, p.2, its) :: L, by rw [List.map_cons, k1], fun q hq => ?_⟩
    rcases List.mem_cons.mp hq with e | hq
    · rw [e]; exact p1
    · exact k2 q hq
theorem pi_zipS {X : Cx} {tg e : Expr} {te : L2.TE} {p p2 pos : Pos} (ht : notTup tg = true) (hg : Gl X "zip") (hm : X.mg "zip" = none) (he : PE X e te)
    (hs : starEach [.Starred e p2] X.env = [(true, eval e X.env)] := by rfl) :
    PI X tg (.Call (.Name "zip" p) [.Starred e p2] [] pos) (iZipS X.K te) := by
  constructor
  intro pins s σ H R I h
  refine Call_ (ld_blt I hg hm PyProof.Rows.boot_zip ?_)
  rw [hs]
  refine callWith_typeS (thn (he.run pins s σ H _ I h) fun v s0 hv => ?_)
  obtain ⟨y, H1, J0, ry, a, qs, xss, ey, hsq, qx, h0, h4, q⟩ := hv
  subst ey
  obtain rfl : v = Value.ref a := ry
  refine StX.star_any J0 hsq fun us s1 J r => ?_
  have eu := vals_refs r
  subst eu
  obtain ⟨L0, k1, k2⟩ := sqs_of J qx
  have eus : (qs.map fun q => Value.ref q.2) = L0.map fun q => Value.ref q.2.1 := by
    rw [← k1, List.map_map]
    rfl
  have l0 : L0.length = qs.length := by rw [← k1, List.length_map]
  rw [eus]
  have n0 : (L0.map fun q => Value.ref q.2.1) ≠ [] := by
    intro e
    have := congrArg List.length e
    rw [List.length_map, l0] at this
    exact h0 (List.length_eq_zero_iff.mp this)
  refine PySem.callType_new PySem.F.called_zip (by decide) (PySem.F.typeCall_zip_N _) (PySem.F.newCall_zip_N _ n0 (by rw [List.length_map, l0]; exact h4)) (fun obj => PySem.F.args_object_init_N obj _ n0 (by rw [List.length_map, l0]; exact h4)) PySem.F.entry_zip_new
    (PySem.meets_zip_newN L0 (by rw [l0]; exact h4)) ⟨k2, fun h' c1 c2 c3 => ?_⟩
  generalize hN : s1.heap.objs.size = N at *
  have hna : ∀ q ∈ itsFrom N L0, q.a < N := fun q hq => by
    have hm := (itsFrom_it N L0 q hq).2.2
    rw [← hN]
    exact sqAt_lt (k2 _ hm)
  have gTI : ∀ (o1 o2 : Obj), ((h'.push { cls := .type "tuple", data := .seq ((itsFrom N L0).map fun q => Value.ref q.it).toArray }).push o1 |>.push o2).get? h'.objs.size = some { cls := .type "tuple", data := .seq ((itsFrom N L0).map fun q => Value.ref q.it).toArray } :=
    fun o1 o2 => Heap.get?_push_of_some _ (Heap.get?_push_of_some _ (Heap.get?_push_size _ rfl))
  generalize e1 : ({ cls := .type "tuple", data := .seq ((itsFrom N L0).map fun q => Value.ref q.it).toArray } : Obj) = oTI at *
  generalize e2 : ({ cls := .type "tuple", data := .seq (((itsFrom N L0).map fun q => Value.ref q.it).map fun _ => Value.none).toArray } : Obj) = oTO at *
  generalize e3 : ({ cls := .type "zip", data := .fields #[.none, .bool false, .bool false, .ref h'.objs.size, .ref (h'.objs.size + 1)] } : Obj) = oz at *
  have s1' : (h'.push oTI).objs.size = h'.objs.size + 1 := Heap.size_push ..
  have s2' : ((h'.push oTI).push oTO).objs.size = h'.objs.size + 2 := by rw [Heap.size_push, s1']
  have gTI' := gTI oTO oz
  have gTO : (((h'.push oTI).push oTO).push oz).get? (h'.objs.size + 1) = some oTO := by
    rw [← s1']
    exact Heap.get?_push_of_some _ (Heap.get?_push_size _ (by rw [← e2]; rfl))
  have gz : (((h'.push oTI).push oTO).push oz).get? (h'.objs.size + 2) = some oz := by
    rw [← s2']
    exact Heap.get?_push_size _ (by rw [← e3]; rfl)
  have up : ∀ c o, h'.get? c = some o → (((h'.push oTI).push oTO).push oz).get? c = some o := fun c o k => Heap.get?_push_of_some _ (Heap.get?_push_of_some _ (Heap.get?_push_of_some _ k))
  generalize (((h'.push oTI).push oTO).push oz) = hz at *
  have hT : ({ s1 with heap := hz } : Shared).TypeIs (.ref (h'.objs.size + 2)) "zip" := ⟨_, gz, by rw [← e3]⟩
  refine ⟨hT, ?_⟩
  refine wpAny_pyIter_slot hT PySem.F.slot_zip_iter (wpAny_call_entry PySem.F.slot_zip_iter hT PySem.F.entry_zip_iter ?_ (PySem.F.args_zip_iter_1 _))
  refine wpAny_pure ⟨_, rfl, "zip", _, hT, PySem.F.slot_zip_next.lookup, ?_⟩
  have J2 : Inv X pins σ H1 { s1 with heap := hz } := J.kept (t' := s1.toks) fun c o k => up c o (c3 c o k)
  have eta : ((itsFrom N L0).map fun q => (q.it, q.t, q.a)).map (·.2) = qs := by
    rw [List.map_map, ← k1]
    exact itsFrom_ta N L0
  have szh : h'.objs.size = N + qs.length := by rw [c2, l0]
  refine ⟨h'.objs.size + 2, _, _, _, H1, rfl, J2, turn_zipS (PL := (itsFrom N L0).map fun q => (q.it, q.t, q.a)) (TI := h'.objs.size) (TO := h'.objs.size + 1) ht (fun e => ?_) (by rw [List.length_map, itsFrom_length, l0]; exact h4) (fun L eL => ?_), ⟨⟨.none, .bool false, (by show hz.get? _ = some _; rw [gz, ← e3]), .inl rfl, ⟨_, rfl⟩⟩, ?_, ?_, fun p hp => ?_⟩, fun c hcm => ?_, by rw [eta]; exact q⟩
  · have := congrArg List.length e
    rw [List.length_map, itsFrom_length, l0] at this
    exact h0 (List.length_eq_zero_iff.mp this)
  · have hm : ∀ q ∈ L, ∃ r ∈ itsFrom N L0, r.it = q.it ∧ r.a = q.a := fun q hq => by
      have := mem_strand eL hq
      obtain ⟨r, hr, er⟩ := List.mem_map.mp this
      simp only [Prod.mk.injEq] at er
      exact ⟨r, hr, er.1, er.2.2⟩
    have hb : ∀ q ∈ L, N ≤ q.it ∧ q.it < h'.objs.size ∧ q.a < N := fun q hq => by
      obtain ⟨r, hr, b1, b2⟩ := hm q hq
      obtain ⟨x1, x2, _⟩ := itsFrom_it N L0 r hr
      rw [← b1, ← b2, c2]
      exact ⟨x1, x2, hna r hr⟩
    refine ⟨?_, ?_, ?_, fun q hq => ?_, fun q hq r hr => ?_, ?_⟩
    · exact Nat.ne_of_lt (Nat.lt_add_of_pos_right (by decide))
    · exact Nat.ne_of_lt (Nat.lt_succ_self _)
    · exact Nat.ne_of_lt (Nat.lt_succ_self _)
    · obtain ⟨x1, x2, x3⟩ := hb q hq
      have x4 : q.a < h'.objs.size := Nat.lt_trans x3 (Nat.lt_of_le_of_lt x1 x2)
      exact ⟨Nat.ne_of_gt (Nat.lt_trans x2 (Nat.lt_add_of_pos_right (by decide))), Nat.ne_of_gt (Nat.lt_trans x4 (Nat.lt_add_of_pos_right (by decide))), Nat.ne_of_gt (Nat.lt_trans x2 (Nat.lt_succ_self _)), Nat.ne_of_gt (Nat.lt_trans x4 (Nat.lt_succ_self _)), Nat.ne_of_gt x2⟩
    · exact Nat.ne_of_gt (Nat.lt_of_lt_of_le (hb r hr).2.2 (hb q hq).1)
    · have e4 : L.map (·.it) = (itsFrom N L0).map (·.it) := by
        have := congrArg (List.map (·.1)) eL
        rw [List.map_map, List.map_map] at this
        exact this
      rw [e4]
      exact itsFrom_nd N L0
  · rw [List.map_map]
    show hz.get? h'.objs.size = _
    rw [gTI', ← e1]
    rfl
  · refine ⟨_, (show hz.get? _ = some _ by rw [gTO, ← e2]), by simp⟩
  · obtain ⟨r, hr, rfl⟩ := List.mem_map.mp hp
    exact itAt_new (up _ _ (c1 r hr))
  · have hle : N ≤ c := by
      rw [List.map_map] at hcm
      simp only [List.mem_cons] at hcm
      rcases hcm with z | z | z | z
      · rw [z, szh]; exact Nat.le_trans (Nat.le_add_right _ _) (Nat.le_add_right _ _)
      · rw [z, szh]; exact Nat.le_add_right _ _
      · rw [z, szh]; exact Nat.le_trans (Nat.le_add_right _ _) (Nat.le_add_right _ _)
      · obtain ⟨r, hr, e⟩ := List.mem_map.mp z
        rw [← e]
        exact (itsFrom_it N L0 r hr).1
    exact J.fpOk (by rw [hN]; exact hle) (J.hok.fresh (by rw [hN]; exact hle))
end Iv

/-! ## IvX -/
/-! Iv, part X: list(zip(a, b)): the tuples are handed out one by one and kept. -/
namespace PySem
namespace F
theorem zip_no_len : typeLookup (.type "zip") "__len__" = pure none := by rw [typeLookup_type, builtinLookup_eq_fast]; kernel_rfl
theorem zip_no_hint : typeLookup (.type "zip") "__length_hint__" = pure none := by rw [typeLookup_type, builtinLookup_eq_fast]; kernel_rfl
end F
end PySem
namespace Iv
open PySem PySem.Spec PyProof.Rows L2
theorem SqK.up {K : PySem.W.Frag} {H H' : Hp} {t : Bool} {a : Addr} {xs : List V} (h : SqK K H t a xs) (k : ∀ c o, H c = some o → H' c = some o) : SqK K H' t a xs := by
  have rd : ∀ u, Rd H a u → Rd H' a u := fun u r => r.elim (fun e => .inl (k _ _ e)) fun ⟨o, e⟩ => .inr ⟨o, k _ _ e⟩
  cases t with
  | false => exact h.imp (rd _) id
  | true => exact h.imp (rd _) id
/-- pairs laid one after the other, away from l -/
inductive ZipUp (l : Addr) : Hp → List (V × V) → Hp → List V → Prop
  | nil {H} : ZipUp l H [] H []
  | cons {H H' : Hp} {p : Addr} {x y : V} {r : List (V × V)} {rs : List V} : H p = none → p ≠ l → ZipUp l (upd H p (.tup [x, y])) r H' rs → ZipUp l H ((x, y) :: r) H' (.ref p :: rs)
theorem ZipUp.free {l : Addr} {H H' : Hp} {ps : List (V × V)} {rs : List V} (h : ZipUp l H ps H' rs) (e : H l = none) : H' l = none := by
  induction h with
  | nil => exact e
  | cons h1 h2 _ ih => exact ih (by rw [upd_ne (Ne.symm h2)]; exact e)
theorem ZipUp.length {l : Addr} {H H' : Hp} {ps : List (V × V)} {rs : List V} (h : ZipUp l H ps H' rs) : rs.length = ps.length := by
  induction h with
  | nil => rfl
  | cons _ _ _ ih => rw [List.length_cons, List.length_cons, ih]
theorem upd_swap {H : Hp} {a b : Addr} {o u : HO} (h : a ≠ b) : upd (upd H a o) b u = upd (upd H b u) a o := by
  funext c
  unfold upd
  split
  · rename_i e
    rw [if_neg (by rw [e]; exact Ne.symm h)]
  · rfl
theorem zsep {N : Nat} {a b : Addr} (la : a < N) (lb : b < N) : ZipSep2 (N + 4) (N + 2) (N + 3) N (N + 1) [N, a] [N + 1, b] := by
  have ga : ∀ k : Nat, N + k ≠ a := fun k q => by
    have la' : a < N := la
    rw [← q] at la'
    exact absurd la' (Nat.not_lt.mpr (Nat.le_add_right N k))
  have gb : ∀ k : Nat, N + k ≠ b := fun k q => by
    have lb' : b < N := lb
    rw [← q] at lb'
    exact absurd lb' (Nat.not_lt.mpr (Nat.le_add_right N k))
  have g0 : ∀ i j : Nat, i ≠ j → N + i ≠ N + j := fun i j h q => h (Nat.add_left_cancel q)
  have gz : ∀ i : Nat, 0 ≠ i → N + i ≠ N := fun i h q => h (Nat.add_left_cancel (q.trans (Nat.add_zero N).symm)).symm
  refine ⟨g0 2 4 (by decide), g0 3 4 (by decide), g0 2 3 (by decide), gz 2 (by decide), by simp, ?_, ?_, g0 2 1 (by decide), by simp, ?_, ?_, ?_, ?_⟩
  · intro q
    rcases (show N + 4 = N ∨ N + 4 = a by simpa using q) with z | z
    · exact gz 4 (by decide) z
    · exact ga 4 z
  · intro q
    rcases (show N + 3 = N ∨ N + 3 = a by simpa using q) with z | z
    · exact gz 3 (by decide) z
    · exact ga 3 z
  · intro q
    rcases (show N + 4 = N + 1 ∨ N + 4 = b by simpa using q) with z | z
    · exact g0 4 1 (by decide) z
    · exact gb 4 z
  · intro q
    rcases (show N + 3 = N + 1 ∨ N + 3 = b by simpa using q) with z | z
    · exact g0 3 1 (by decide) z
    · exact gb 3 z
  · intro q
    rcases (show N = N + 1 ∨ N = b by simpa using q) with z | z
    · exact gz 1 (by decide) z.symm
    · exact gb 0 z
  · intro q
    rcases (show N + 1 = N ∨ N + 1 = a by simpa using q) with z | z
    · exact gz 1 (by decide) z
    · exact ga 1 z
/-- where a zip stands -/
def ZSt (t u : Bool) (a b z TI TO i1 i2 : Addr) (i : Nat) (h : Heap) : Prop :=
  (∃ own f, ZipAny h z TI TO own f ∧ OwnZ own ∧ FlagZ f) ∧ IsTupOf2 h TI (.ref i1) (.ref i2) ∧ (∃ v1 v2, IsTupOf2 h TO v1 v2) ∧ itAt t h i1 a i ∧ itAt u h i2 b i
section
variable {X : Cx} {pins : List (Addr × Obj)} {σ : L2.St} {H : Hp} {s : Shared} {A : Around} {E : Value → Shared → Prop} {t u : Bool} {a b z TI TO i1 i2 l : Addr} {xs ys : List V}
theorem ZSt.keep {i : Nat} {h h' : Heap} (st : ZSt t u a b z TI TO i1 i2 i h) (k : ∀ c ∈ [z, TI, TO, i1, i2], ∀ o, h.get? c = some o → h'.get? c = some o) : ZSt t u a b z TI TO i1 i2 i h' := by
  obtain ⟨⟨own, f, e1, eo⟩, e2, ⟨v1, v2, e3⟩, e4, e5⟩ := st
  exact ⟨⟨own, f, k z (by simp) _ e1, eo⟩, k TI (by simp) _ e2, ⟨v1, v2, k TO (by simp) _ e3⟩, itAt_keep e4 fun o q => k i1 (by simp) o q, itAt_keep e5 fun o q => k i2 (by simp) o q⟩
theorem ZSt.low {i : Nat} {h : Heap} (st : ZSt t u a b z TI TO i1 i2 i h) {c : Addr} (hc : c ∈ [z, TI, TO, i1, i2]) : c < h.objs.size := by
  obtain ⟨⟨own, f, e1, eo⟩, e2, ⟨v1, v2, e3⟩, e4, e5⟩ := st
  rcases mem5 hc with q | q | q | q | q
  · rw [q]; exact Heap.lt_size e1
  · rw [q]; exact Heap.lt_size e2
  · rw [q]; exact Heap.lt_size e3
  · rw [q]; obtain ⟨o, e, _⟩ := itAt_obj e4; exact Heap.lt_size e
  · rw [q]; obtain ⟨o, e, _⟩ := itAt_obj e5; exact Heap.lt_size e
theorem znext_item {Q : Option Value → Shared → Prop} {i : Nat} {x y : V} (hd : A.in1.handled = none) (D : ZipSep2 z TI TO i1 i2 [i1, a] [i2, b]) (h1 : a ≠ i1) (h2 : b ≠ i2) (I : Inv X pins σ H s) (hfp : ∀ c ∈ [z, TI, TO, i1, i2], FpOk X pins H c)
    (st : ZSt t u a b z TI TO i1 i2 i s.heap) (qx : SqK X.K H t a xs) (qy : SqK X.K H u b ys) (hx : xs[i]? = some x) (hy : ys[i]? = some y)
    (k : ∀ h' tk, Inv X pins σ (upd H s.heap.objs.size (.tup [x, y])) { s with heap := h', toks := tk } → ZSt t u a b z TI TO i1 i2 (i + 1) h' → Q (some (.ref s.heap.objs.size)) { s with heap := h', toks := tk }) :
    wpAny (model X.prog X.w) A (pyNext (.ref z)) Q E s := by
  obtain ⟨⟨own, f, e1, eo, ef⟩, e2, ⟨v1, v2, e3⟩, e4, e5⟩ := st
  obtain ⟨its1, rv1, p1, _⟩ := sqk_of I qx
  obtain ⟨its2, rv2, p2, _⟩ := sqk_of I qy
  obtain ⟨u1, hu1, ru1⟩ := rv1.get hx
  obtain ⟨u2, hu2, ru2⟩ := rv2.get hy
  have l1 : i < its1.length := (List.getElem?_eq_some_iff.mp hu1).1
  have l2 : i < its2.length := (List.getElem?_eq_some_iff.mp hu2).1
  have hT : s.TypeIs (.ref z) "zip" := ⟨_, e1, rfl⟩
  unfold pyNext
  refine wpAny_bind (wpAny_attempt (wpAny_callSpecial?_slot (name := Str.ofString "__next__") hT F.slot_zip_next (wpAny_call_entry F.slot_zip_next hT F.entry_zip_next
    (zip1_next_item (i := i) D (draws_k (P := X.prog) (w := X.w) hd t i1 a h1 its1.toArray) (draws_k (P := X.prog) (w := X.w) hd u i2 b h2 its2.toArray) e1 eo ef e2 e3 ⟨e4, p1⟩ ⟨e5, p2⟩ (by simpa using l1) (by simpa using l2)
      fun w1 w2 h' tk own' f' b1 b2 g1 g2 z' o' f2 t' s1 s2 new keep => wpAny_pure ?_) (F.args_zip_next_1 _))))
  have z1 : w1 = u1 := by
    have q : its1.toArray[i]? = some u1 := by simpa using hu1
    rw [q] at g1
    exact (Option.some.inj g1).symm
  have z2 : w2 = u2 := by
    have q : its2.toArray[i]? = some u2 := by simpa using hu2
    rw [q] at g2
    exact (Option.some.inj g2).symm
  subst z1 z2
  have nw : ObjOk X.prog X.w (upd H s.heap.objs.size (.tup [x, y])) h' s.heap.objs.size (.tup [x, y]) :=
    ⟨by show 2 ≤ sizeLine; decide, [w1, w2], .cons ru1 (.cons ru2 .nil), ⟨_, new, rfl, _, rfl⟩⟩
  have J : Inv X pins σ (upd H s.heap.objs.size (.tup [x, y])) { s with heap := h', toks := tk } := I.turnedNew (ch := [z, TI, TO, i1, i2])
    (fun c o hb q => keep c o (fun q' => hb (by simp [q'])) (fun q' => hb (by simp [q'])) (fun q' => hb (by simp [q'])) (fun q' => hb (by simp [q'])) q) hfp (Nat.le_refl _) nw
  exact k h' tk J ⟨⟨_, _, z', o', f2⟩, keep TI _ D.TIz D.TITO D.TIi1 D.TIi2 e2, ⟨_, _, t'⟩, s1.1, s2.1⟩
theorem znext_end {Q : Option Value → Shared → Prop} {i : Nat} (hd : A.in1.handled = none) (D : ZipSep2 z TI TO i1 i2 [i1, a] [i2, b]) (h1 : a ≠ i1) (h2 : b ≠ i2) (I : Inv X pins σ H s) (hfp : ∀ c ∈ [z, TI, TO, i1, i2], FpOk X pins H c)
    (st : ZSt t u a b z TI TO i1 i2 i s.heap) (qx : SqK X.K H t a xs) (qy : SqK X.K H u b ys) (hi : i = min xs.length ys.length)
    (k : ∀ h' tk, Inv X pins σ H { s with heap := h', toks := tk } → Q none { s with heap := h', toks := tk }) :
    wpAny (model X.prog X.w) A (pyNext (.ref z)) Q E s := by
  obtain ⟨⟨own, f, e1, eo, ef⟩, e2, ⟨v1, v2, e3⟩, e4, e5⟩ := st
  obtain ⟨its1, rv1, p1, _⟩ := sqk_of I qx
  obtain ⟨its2, rv2, p2, _⟩ := sqk_of I qy
  have n1 := rv1.length
  have n2 := rv2.length
  have hT : s.TypeIs (.ref z) "zip" := ⟨_, e1, rfl⟩
  unfold pyNext
  refine wpAny_bind (wpAny_attempt (wpAny_callSpecial?_slot (name := Str.ofString "__next__") hT F.slot_zip_next (wpAny_call_entry F.slot_zip_next hT F.entry_zip_next
    (zip1_next_end (i := i) D (draws_k (P := X.prog) (w := X.w) hd t i1 a h1 its1.toArray) (draws_k (P := X.prog) (w := X.w) hd u i2 b h2 its2.toArray) e1 eo ef e2 e3 ⟨e4, p1⟩ ⟨e5, p2⟩ (by simp; omega) (by simp; omega) (by simp; omega)
      fun h' tk e keep he => ?_) (F.args_zip_next_1 _))))
  obtain ⟨o, ho, hcl⟩ := he
  refine wpAny_bind (wpAny_isInstance (T := "StopIteration") (b := true) ⟨o, ho, hcl⟩ isSubtype_stop ?_)
  refine wpAny_pure ?_
  exact k _ _ (I.turnedL (ch := [z, TI, TO, i1, i2]) (fun c o hb q => keep c o (fun q' => hb (by simp [q'])) (fun q' => hb (by simp [q'])) (fun q' => hb (by simp [q'])) (fun q' => hb (by simp [q'])) q) hfp)
theorem fpok_to {H' : Hp} {c : Addr} (h : FpOk X pins H c) (e : H' c = none) : FpOk X pins H' c := ⟨e, h.2⟩
/-- the loop of list.extend over a zip -/
theorem zloop {R : Result → Shared → Prop} (hd : A.in1.in1.handled = none) (D : ZipSep2 z TI TO i1 i2 [i1, a] [i2, b]) (h1 : a ≠ i1) (h2 : b ≠ i2) (hl : l ∉ [z, TI, TO, i1, i2]) (res : Value) (hz : min xs.length ys.length ≤ sizeLine) :
    ∀ (k i : Nat) (s : Shared) (H : Hp) (acc : List V), min xs.length ys.length - i = k → i ≤ min xs.length ys.length → Inv X pins σ (upd H l (.lst acc)) s → (∀ c ∈ [z, TI, TO, i1, i2], FpOk X pins H c) → H l = none → acc.length = i →
      ZSt t u a b z TI TO i1 i2 i s.heap → SqK X.K H t a xs → SqK X.K H u b ys →
      (∀ H' rs s', ZipUp l H ((xs.zip ys).drop i) H' rs → Inv X pins σ (upd H' l (.lst (acc ++ rs))) s' → R (.ok (.ret res)) s') →
      codeAny (model X.prog X.w) A (.builtin "list.extend.loop" ⟨[.ref l, .ref z, res], []⟩) R s := by
  have nel : ∀ c ∈ [z, TI, TO, i1, i2], c ≠ l := fun c hc q => hl (by rw [← q]; exact hc)
  intro k
  induction k with
  | zero =>
    intro i s H acc hk hi I hfp hn ha st qx qy hR
    have up : ∀ c o, H c = some o → upd H l (.lst acc) c = some o := fun c o e => by
      rw [upd_ne (fun q => by rw [q, hn] at e; cases e)]
      exact e
    refine codeAny_builtin F.entry_extend_loop ?_
    rw [Around.under_plainId F.plain_extend_loop _]
    show wpAny _ A.in1 (pyNext (.ref z) >>= _) _ _ s
    refine wpAny_bind (znext_end hd D h1 h2 I (fun c hc => fpok_to (hfp c hc) (by rw [upd_ne (nel c hc)]; exact (hfp c hc).1)) st (qx.up up) (qy.up up) (by omega) fun h' tk I' => ?_)
    refine wpAny_pure (hR H [] _ ?_ (by rw [List.append_nil]; exact I'))
    rw [List.drop_of_length_le (by rw [List.length_zip]; omega)]
    exact .nil
  | succ k ih =>
    intro i s H acc hk hi I hfp hn ha st qx qy hR
    have up : ∀ c o, H c = some o → upd H l (.lst acc) c = some o := fun c o e => by
      rw [upd_ne (fun q => by rw [q, hn] at e; cases e)]
      exact e
    have hlt : i < min xs.length ys.length := by omega
    have lx : i < xs.length := by omega
    have ly : i < ys.length := by omega
    refine codeAny_builtin F.entry_extend_loop ?_
    rw [Around.under_plainId F.plain_extend_loop _]
    show wpAny _ A.in1 (pyNext (.ref z) >>= _) _ _ s
    refine wpAny_bind (znext_item hd D h1 h2 I (fun c hc => fpok_to (hfp c hc) (by rw [upd_ne (nel c hc)]; exact (hfp c hc).1)) st (qx.up up) (qy.up up) (List.getElem?_eq_getElem lx) (List.getElem?_eq_getElem ly) fun h' tk I' st' => ?_)
    have hlp : s.heap.objs.size ≠ l := fun q => by
      have w := I.hok.fresh (Nat.le_refl s.heap.objs.size)
      rw [q, upd_same] at w
      cases w
    have hpn : H s.heap.objs.size = none := by
      have w := I.hok.fresh (Nat.le_refl s.heap.objs.size)
      rw [upd_ne hlp] at w
      exact w
    rw [upd_swap (Ne.symm hlp)] at I'
    obtain ⟨z1, its, n, rv, len, e⟩ := I'.lstM upd_same
    show wpAny _ A.in1 (updateSeq l (·.push (.ref s.heap.objs.size)) >>= _) _ _ _
    refine wpAny_bind ?_
    have hsz : its.toArray.size ≤ sizeLine := by rw [List.size_toArray, ← len]; exact z1
    refine wpAny_updateSeq (hz := hsz) (_hz' := by rw [Array.size_push]; omega) e rfl (wpAny_pure ⟨plainId_quiet F.plain_extend_loop _, ?_⟩)
    have I2 := I'.lset (its' := its ++ [.ref s.heap.objs.size]) (ys := acc ++ [V.ref s.heap.objs.size]) (f := (·.push (.ref s.heap.objs.size))) (t' := tk) upd_same e (by simp) (rv.append (.cons (show RelV (.ref s.heap.objs.size) (Value.ref s.heap.objs.size) from rfl) .nil)) (by rw [List.length_append, List.length_singleton, ha]; omega)
    rw [upd_upd] at I2
    have lowc : ∀ c ∈ [z, TI, TO, i1, i2], c ≠ s.heap.objs.size := fun c hc => Nat.ne_of_lt (st.low hc)
    have up2 : ∀ c o, H c = some o → upd H s.heap.objs.size (.tup [xs[i], ys[i]]) c = some o := fun c o e => by
      rw [upd_ne (fun q => by rw [q, hpn] at e; cases e)]
      exact e
    refine ih (i + 1) _ (upd H s.heap.objs.size (.tup [xs[i], ys[i]])) (acc ++ [V.ref s.heap.objs.size]) (by omega) hlt I2 (fun c hc => fpok_to (hfp c hc) (by rw [upd_ne (lowc c hc)]; exact (hfp c hc).1)) (by rw [upd_ne (Ne.symm hlp)]; exact hn) (by rw [List.length_append, List.length_singleton, ha])
      (st'.keep fun c hc o q => (Heap.get?_update_other _ _ (fun w => nel c hc w.symm)).trans q) (qx.up up2) (qy.up up2) fun H' rs s' zu I3 => ?_
    refine hR H' (.ref s.heap.objs.size :: rs) s' ?_ (by rw [List.append_assoc] at I3; exact I3)
    rw [List.drop_eq_getElem_cons (by rw [List.length_zip]; omega), List.getElem_zip]
    exact .cons hpn hlp zu
/-- list.extend of a new list by a zip -/
theorem zextend {R : Result → Shared → Prop} (hd : A.in1.in1.handled = none) (D : ZipSep2 z TI TO i1 i2 [i1, a] [i2, b]) (h1 : a ≠ i1) (h2 : b ≠ i2) (hl : l ∉ [z, TI, TO, i1, i2]) (res : Value) (hz : min xs.length ys.length ≤ sizeLine)
    (I : Inv X pins σ (upd H l (.lst [])) s) (hfp : ∀ c ∈ [z, TI, TO, i1, i2], FpOk X pins H c) (hn : H l = none) (st : ZSt t u a b z TI TO i1 i2 0 s.heap) (qx : SqK X.K H t a xs) (qy : SqK X.K H u b ys)
    (hR : ∀ H' rs s', ZipUp l H (xs.zip ys) H' rs → Inv X pins σ (upd H' l (.lst rs)) s' → R (.ok (.ret res)) s') :
    wpAny (model X.prog X.w) A.in1 (Builtin.List.listExtendWith (.ref l) (.ref z) res)
      (fun fin s' => match fin with | .done f => R (.ok f) s' | .again c' => c'.quiet = true ∧ codeAny (model X.prog X.w) A c' R s') (fun e s' => R (.error e) s') s := by
  have nel : ∀ c ∈ [z, TI, TO, i1, i2], c ≠ l := fun c hc q => hl (by rw [← q]; exact hc)
  obtain ⟨⟨own, f, e1, eo, ef⟩, _⟩ := id st
  have hT : s.TypeIs (.ref z) "zip" := ⟨_, e1, rfl⟩
  unfold Builtin.List.listExtendWith
  refine wpAny_bind (wpAny_typeOf hT ?_)
  have n1 : Builtin.List.listSameRef (.ref l) (.ref z) = false := by simp [Builtin.List.listSameRef, Ne.symm (nel z (by simp))]
  have n2 : (Value.type "zip" == Value.type "list") = false := by decide
  have n3 : (Value.type "zip" == Value.type "tuple") = false := by decide
  simp only [n1, n2, n3, Bool.or_false, Bool.false_eq_true, if_false]
  refine wpAny_bind (wpAny_pyIter_slot hT F.slot_zip_iter (wpAny_call_entry F.slot_zip_iter hT F.entry_zip_iter ?_ (F.args_zip_iter_1 _)))
  refine wpAny_pure ⟨_, rfl, "zip", _, hT, F.slot_zip_next.lookup, ?_⟩
  refine wpAny_bind (wpAny_holding ?_)
  unfold Builtin.List.listLengthHint
  refine wpAny_bind (wpAny_specialOf hT F.zip_no_len ?_)
  show wpAny _ A.in1 (specialOf (Value.ref z) (Str.ofString "__length_hint__") >>= _) _ _ _
  refine wpAny_bind (wpAny_specialOf hT F.zip_no_hint ?_)
  refine wpAny_pure ?_
  show wpAny _ A.in1 (rule "list.extend.makes-room" >>= fun _ => Builtin.List.listTouch (.ref l) >>= fun _ =>
    again (.builtin "list.extend.loop" ⟨[.ref l, .ref z, res], []⟩)) _ _ _
  refine wpAny_bind (wpAny_rule ?_)
  refine wpAny_bind ?_
  show wpAny _ A.in1 (updateSeq l (·.push .none) >>= fun _ => updateSeq l (·.pop)) _ _ _
  obtain ⟨_, its, n, rv, len, e⟩ := I.lstM upd_same
  obtain rfl : its = [] := List.eq_nil_of_length_eq_zero len.symm
  refine wpAny_bind (wpAny_updateSeq (hz := by simp) (_hz' := by simp) e rfl ?_)
  have I1 := I.lset (its' := [.none]) (ys := [V.non]) (f := (·.push Value.none)) (t' := s.toks) upd_same e (by simp) (.cons rfl .nil) (by rw [List.length_singleton]; decide)
  rw [upd_upd] at I1
  have e2 := Heap.get?_update_self (Obj.mapSeq (·.push Value.none)) e rfl
  refine wpAny_updateSeq (hz := by simp [sizeLine_eq]) (_hz' := by simp) e2 rfl ?_
  have I2 := I1.lset (its := [.none]) (its' := []) (ys := []) (f := (·.pop)) (t' := s.toks) upd_same e2 (by simp) .nil (Nat.zero_le _)
  rw [upd_upd] at I2
  refine wpAny_pure ⟨plainId_quiet F.plain_extend_loop _, zloop hd D h1 h2 hl res hz _ 0 _ H [] rfl (Nat.zero_le _) I2 hfp hn rfl (st.keep fun c hc o q => ?_) qx qy fun H' rs s' zu I3 => hR H' rs s' zu I3⟩
  exact (Heap.get?_update_other _ _ (fun w => nel c hc w.symm)).trans ((Heap.get?_update_other _ _ (fun w => nel c hc w.symm)).trans q)
theorem zcall {Q : Value → Shared → Prop} (hd : A.in1.in1.in1.in1.handled = none) (D : ZipSep2 z TI TO i1 i2 [i1, a] [i2, b]) (h1 : a ≠ i1) (h2 : b ≠ i2) (hz : min xs.length ys.length ≤ sizeLine)
    (I : Inv X pins σ H s) (hfp : ∀ c ∈ [z, TI, TO, i1, i2], FpOk X pins H c) (st : ZSt t u a b z TI TO i1 i2 0 s.heap) (qx : SqK X.K H t a xs) (qy : SqK X.K H u b ys)
    (hQ : ∀ l H' rs s', H l = none → ZipUp l H (xs.zip ys) H' rs → Inv X pins σ (upd H' l (.lst rs)) s' → Q (.ref l) s') :
    wpAny (model X.prog X.w) A (call (.type "list") [.ref z]) Q E s := by
  refine callType_codes (Q₁ := fun obj s₁ => obj = .ref s.heap.objs.size ∧ s₁ = { s with heap := s.heap.push { cls := .type "list", data := .seq #[] } }) F.called_list (F.typeCall_list_1 _) F.entry_list_init
    (code_list_new _ ⟨rfl, rfl⟩) fun obj s₁ h₁ => ?_
  obtain ⟨rfl, rfl⟩ := h₁
  have hS : (s.heap.push { cls := .type "list", data := .seq #[] }).get? s.heap.objs.size = some { cls := .type "list", data := .seq #[] } := Heap.get?_push_size _ rfl
  have I1 := I.lnew (its := []) (ys := []) (t' := s.toks) .nil (Nat.zero_le _)
  have st1 : ZSt t u a b z TI TO i1 i2 0 (s.heap.push { cls := .type "list", data := .seq #[] }) := st.keep fun c hc o q => Heap.get?_push_of_some _ q
  have hl : s.heap.objs.size ∉ [z, TI, TO, i1, i2] := fun q => Nat.lt_irrefl _ (st.low q)
  refine ⟨⟨_, hS, rfl⟩, F.args_list_init_2 _ _, ?_⟩
  show wpAny _ A.in1.in1 (do let old ← Builtin.List.listItems (.ref s.heap.objs.size); Builtin.List.listUpdate (.ref s.heap.objs.size) (fun _ => #[]); letGo old.toList.reverse; Builtin.List.listExtendWith (.ref s.heap.objs.size) (.ref z) .none) _ _ _
  refine wpAny_bind ?_
  unfold Builtin.List.listItems
  refine wpAny_bind (wpAny_seqItems hS rfl (wpAny_pure ?_))
  show wpAny _ A.in1.in1 (updateSeq s.heap.objs.size (fun _ => #[]) >>= fun _ => letGo (#[] : Array Value).toList.reverse >>= fun _ => Builtin.List.listExtendWith (.ref s.heap.objs.size) (.ref z) .none) _ _ _
  refine wpAny_bind (wpAny_updateSeq hS rfl ?_)
  have I2 := I1.lset (its := []) (its' := []) (ys := []) (f := fun _ => #[]) (t' := s.toks) upd_same hS rfl .nil (Nat.zero_le _)
  rw [upd_upd] at I2
  refine wpAny_bind (wpAny_letGo ?_)
  exact zextend (A := A.in1) hd D h1 h2 hl .none hz I2 hfp I.fresh (st1.keep fun c hc o q => (Heap.get?_update_other _ _ (fun w => hl (by rw [w]; exact hc))).trans q) qx qy fun H' rs s' zu I3 => ⟨rfl, hQ _ H' rs s' I.fresh zu I3⟩
end
def tLZip (K : PySem.W.Frag) (ta : L2.TA) : TE := fun σ H Q => ta σ H fun vs H1 => ∃ t u a b xs ys, vs = [.ref a, .ref b] ∧ SqK K H1 t a xs ∧ SqK K H1 u b ys ∧ min xs.length ys.length ≤ sizeLine ∧
  ∀ l H2 rs, H1 l = none → ZipUp l H1 (xs.zip ys) H2 rs → Q (.ref l) (upd H2 l (.lst rs))
theorem pe_listZip {X : Cx} {e e2 : Expr} {ta : L2.TA} {p1 p2 pos pos2 : Pos} (hc : X.calm = true) (hg1 : Gl X "list") (hm1 : X.mg "list" = none) (hg : Gl X "zip") (hm : X.mg "zip" = none) (ha : PA X [e, e2] ta)
    (hs : starEach [e, e2] X.env = (false, eval e X.env) :: starEach [e2] X.env) (hpl : (backTo pos2 (starEach [e2] X.env)).any (·.1) = false)
    (na : starEach [.Call (.Name "zip" p2) [e, e2] [] pos2] X.env = (false, eval (.Call (.Name "zip" p2) [e, e2] [] pos2) X.env) :: starEach [] X.env) :
    PE X (.Call (.Name "list" p1) [.Call (.Name "zip" p2) [e, e2] [] pos2] [] pos) (tLZip X.K ta) := by
  refine ⟨fun pins s σ H Q I h => ?_⟩
  refine Call_ (ld_blt I hg1 hm1 boot_list (PyProof.Rows.callWith_type1 (args_cons ?_ na) na))
  refine Call_ (ld_blt I hg hm PyProof.Rows.boot_zip (PyProof.Rows.callWith_type1 (thn (ha.run pos2 pins s σ H _ I h) fun us s1 hus => ?_) hs hpl))
  obtain ⟨vs, H1, J, r, t, u, a, b, xs, ys, ex, qx, qy, hz, q⟩ := hus
  subst ex
  obtain ⟨w1, w2, rfl, r1, r2⟩ := vals2 r
  cases (show w1 = Value.ref a from r1)
  cases (show w2 = Value.ref b from r2)
  obtain ⟨its1, rv1, p1, _⟩ := sqk_of J qx
  obtain ⟨its2, rv2, p2, _⟩ := sqk_of J qy
  have la := sqAt_lt p1
  have lb := sqAt_lt p2
  refine zip_begins2 (begins_k t a its1.toArray) (begins_k u b its2.toArray) p1 p2 fun h' c1 c2 c3 c4 c5 c6 c7 => args_nil ?_
  have J2 : Inv X pins σ H1 { s1 with heap := h' } := J.kept (t' := s1.toks) c7
  generalize hN : s1.heap.objs.size = N at *
  have D := zsep la lb
  refine zcall (A := X.A) (E := X.xe) (J.ok.hd hc) D (Nat.ne_of_lt la) (Nat.ne_of_lt (Nat.lt_succ_of_lt lb)) hz J2 (fun c hcm => ?_) ⟨⟨_, _, c1, .inl rfl, _, rfl⟩, c2, ⟨_, _, c3⟩, itAt_new c4, itAt_new c5⟩ qx qy fun l H' rs s' hl zu I3 => ⟨.ref l, _, I3, rfl, q l H' rs hl zu⟩
  have hle : N ≤ c := by
    rcases mem5 hcm with z | z | z | z | z
    · rw [z]; exact Nat.le_add_right _ _
    · rw [z]; exact Nat.le_add_right _ _
    · rw [z]; exact Nat.le_add_right _ _
    · rw [z]; exact Nat.le_refl _
    · rw [z]; exact Nat.le_add_right _ _
  exact J.fpOk (by rw [hN]; exact hle) (J.hok.fresh (by rw [hN]; exact hle))
end Iv

/-! ## IvY -/
/-! Iv, part Y: == of two lists that are told the very same. -/
namespace Iv
open PySem PySem.Spec PyProof.Rows L2
mutual
theorem sameD_eq : ∀ (d e : D), sameD d e = true → d = e
  | .non, e, h => by cases e <;> simp only [sameD, Bool.false_eq_true] at h; rfl
  | .bl a, e, h => by cases e <;> simp only [sameD, Bool.false_eq_true, beq_iff_eq] at h; rw [h]
  | .int a, e, h => by cases e <;> simp only [sameD, Bool.false_eq_true, decide_eq_true_eq] at h; rw [h]
  | .str a, e, h => by cases e <;> simp only [sameD, Bool.false_eq_true, decide_eq_true_eq] at h; rw [h]
  | .tup xs, e, h => by
    cases e <;> simp only [sameD, Bool.false_eq_true] at h
    rw [sameDs_eq xs _ h]
  | .lst xs, e, h => by
    cases e <;> simp only [sameD, Bool.false_eq_true] at h
    rw [sameDs_eq xs _ h]
  | .dk ks xs, e, h => by
    cases e <;> simp only [sameD, Bool.false_eq_true, Bool.and_eq_true, decide_eq_true_eq] at h
    rw [h.1.1, sameDs_eq xs _ h.2]
  | .sld _, e, h => by simp only [sameD, Bool.false_eq_true] at h
  | .fn _, e, h => by simp only [sameD, Bool.false_eq_true] at h
  | .cls _, e, h => by simp only [sameD, Bool.false_eq_true] at h
  | .ty _, e, h => by simp only [sameD, Bool.false_eq_true] at h
  | .ins _ _ _, e, h => by simp only [sameD, Bool.false_eq_true] at h
  | .ref _, e, h => by simp only [sameD, Bool.false_eq_true] at h
theorem sameDs_eq : ∀ (xs ys : List D), sameDs xs ys = true → xs = ys
  | [], ys, h => by
    cases ys with
    | nil => rfl
    | cons y ys => simp only [sameDs, List.isEmpty_cons, Bool.false_eq_true] at h
  | x :: xs, ys, h => by
    cases ys with
    | nil => simp only [sameDs, Bool.false_eq_true] at h
    | cons y ys =>
      simp only [sameDs, Bool.and_eq_true] at h
      rw [sameD_eq x y h.1, sameDs_eq xs ys h.2]
end
theorem sameDs_at : ∀ {xs : List D} {j : Nat} {d : D}, sameDs xs xs = true → xs[j]? = some d → sameD d d = true
  | x :: xs, 0, d, h, e => by
    simp only [sameDs, Bool.and_eq_true] at h
    cases e
    exact h.1
  | x :: xs, j + 1, d, h, e => by
    simp only [sameDs, Bool.and_eq_true] at h
    exact sameDs_at h.2 e
theorem dpDs_at : ∀ {xs : List D} {j : Nat} {d : D}, xs[j]? = some d → dpD d ≤ dpDs xs
  | x :: xs, 0, d, e => by
    cases e
    exact Nat.le_max_left _ _
  | x :: xs, j + 1, d, e => Nat.le_trans (dpDs_at (xs := xs) e) (Nat.le_max_right _ _)
theorem val_nodup : ∀ {kws : List (L2.Key × V)} {i : Nat} {p : L2.Key × V}, (kws.map (·.1)).Nodup → kws[i]? = some p → valV kws p.1 = some p.2
  | q :: r, 0, p, _, e => by
    cases e
    exact valV_pos rfl
  | q :: r, i + 1, p, h, e => by
    rw [List.map_cons, List.nodup_cons] at h
    rw [valV_neg fun z => h.1 (by rw [z]; exact List.mem_map_of_mem (List.mem_of_getElem? e))]
    exact val_nodup h.2 e
section
variable {X : Cx} {pins : List (Addr × Obj)} {σ : L2.St} {H : Hp} {s : Shared} {S : Sta} {lk : List Addr} {io : List Addr}
theorem rcP_tups {A : Around} {l b : Addr} {items items2 : Array Value} (hl : s.heap.IsTuple l items) (hb : s.heap.IsTuple b items2) (hsz : items.size = items2.size) (hu : A.units < cLine)
    (he : ∀ j (h1 : j < items.size) (h2 : j < items2.size), SeqAt.EqP X.prog X.w A.in1 s items[j] items2[j] true) (E Q : Value → Shared → Prop) (h : Q (.bool true) s) : wpAny (model X.prog X.w) A (richCompare .Eq (.ref l) (.ref b)) Q E s :=
  GQ.rc_tupG hsz hu (fun _ s' => s' = s) hl hb (fun i h1 h2 s' e => by
    subst e
    exact he i h1 h2 E _ ⟨rfl, rfl⟩) (fun s' e => by rw [e]; exact h) rfl
theorem same_run (I : Inv X pins σ H s) (hK : X.K = S.K) : ∀ (n : Nat) (A : Around), A.units + n < cLine → ∀ (d : D) (x y : V) (v u : Value), sameD d d = true → dpD d ≤ n → Rep S lk H io d x → Rep S lk H io d y → RelV x v → RelV y u → SeqAt.EqP X.prog X.w A s v u true
  | 0, A, hu, d, x, y, v, u, hs, hd, hx, hy, rx, ry => by cases d <;> simp only [dpD] at hd <;> omega
  | n + 1, A, hu, d, x, y, v, u, hs, hd, hx, hy, rx, ry => by
    have go : ∀ (ds : List D) (xs ys : List V) (us ws : List Value), sameDs ds ds = true → dpDs ds ≤ n → Reps S lk H io ds xs → Reps S lk H io ds ys → Vals xs us → Vals ys ws → us.toArray.size = ws.toArray.size ∧ ∀ j (h1 : j < us.toArray.size) (h2 : j < ws.toArray.size), SeqAt.EqP X.prog X.w A.in1 s us.toArray[j] ws.toArray[j] true := by
      intro ds xs ys us ws a1 a2 r1 r2 v1 v2
      have l1 := r1.length
      have l2 := r2.length
      have l3 := v1.length
      have l4 := v2.length
      refine ⟨by rw [List.size_toArray, List.size_toArray]; omega, fun j h1 h2 => ?_⟩
      have hj : j < ds.length := by
        rw [List.size_toArray] at h1
        omega
      have ed := List.getElem?_eq_getElem hj
      obtain ⟨x', e1, q1⟩ := r1.get ed
      obtain ⟨y', e2, q2⟩ := r2.get ed
      obtain ⟨u1, e3, q3⟩ := v1.get e1
      obtain ⟨w1, e4, q4⟩ := v2.get e2
      have f1 : us.toArray[j] = u1 := by
        have z : us[j]? = some us[j] := List.getElem?_eq_getElem (by simpa using h1)
        rw [e3] at z
        simpa using (Option.some.inj z).symm
      have f2 : ws.toArray[j] = w1 := by
        have z : ws[j]? = some ws[j] := List.getElem?_eq_getElem (by simpa using h2)
        rw [e4] at z
        simpa using (Option.some.inj z).symm
      rw [f1, f2]
      exact same_run I hK n A.in1 (by show A.units + 1 + n < cLine; omega) ds[j] x' y' u1 w1 (sameDs_at a1 ed) (Nat.le_trans (dpDs_at ed) a2) q1 q2 q3 q4
    cases d with
    | non =>
      unfold Rep at hx hy
      subst hx hy
      exact (eqAt_same rx ry rfl).eqP
    | bl b =>
      unfold Rep at hx hy
      subst hx hy
      exact (eqAt_same rx ry rfl).eqP
    | int b =>
      unfold Rep at hx hy
      subst hx hy
      exact (eqAt_same rx ry rfl).eqP
    | str b =>
      unfold Rep at hx hy
      subst hx hy
      exact (eqAt_same rx ry rfl).eqP
    | tup ds =>
      simp only [sameD] at hs
      simp only [dpD] at hd
      unfold Rep at hx hy
      obtain ⟨a, xs, rfl, p1, _, r1⟩ := hx
      obtain ⟨b, ys, rfl, p2, _, r2⟩ := hy
      cases (show v = Value.ref a from rx)
      cases (show u = Value.ref b from ry)
      have t1 : SqT X.K H a xs := by
        rw [hK]
        exact p1.elim (fun z => .inl (.inl z.1)) fun z => z H
      have t2 : SqT X.K H b ys := by
        rw [hK]
        exact p2.elim (fun z => .inl (.inl z.1)) fun z => z H
      by_cases e : a = b
      · subst e
        exact (SeqAt.EqAt.same _).eqP
      · obtain ⟨us, v1, i1, _⟩ := I.tuple t1
        obtain ⟨ws, v2, i2, _⟩ := I.tuple t2
        obtain ⟨z1, z2⟩ := go ds xs ys us ws hs (by omega) r1 r2 v1 v2
        exact SeqAt.eqP_refs e fun E Q q => rcP_tups i1 i2 z1 (by omega) z2 E Q q
    | lst ds =>
      simp only [sameD] at hs
      simp only [dpD] at hd
      unfold Rep at hx hy
      obtain ⟨a, xs, rfl, p1, _, _, _, r1⟩ := hx
      obtain ⟨b, ys, rfl, p2, _, _, _, r2⟩ := hy
      cases (show v = Value.ref a from rx)
      cases (show u = Value.ref b from ry)
      by_cases e : a = b
      · subst e
        exact (SeqAt.EqAt.same _).eqP
      · obtain ⟨us, v1, i1, _⟩ := I.list (show SqL X.K H a xs from .inl (.inl p1))
        obtain ⟨ws, v2, i2, _⟩ := I.list (show SqL X.K H b ys from .inl (.inl p2))
        obtain ⟨z1, z2⟩ := go ds xs ys us ws hs (by omega) r1 r2 v1 v2
        refine SeqAt.eqP_refs e fun E Q q => SeqAt.rcP_lists (e := fun _ => true) i1.isList i2.isList z1 (by omega) z2 E Q ?_
        rw [show ((List.range us.toArray.size).all fun _ => true) = true from List.all_eq_true.mpr fun _ _ => rfl]
        exact q
    | dk ks ds =>
      simp only [sameD, Bool.and_eq_true, decide_eq_true_eq] at hs
      simp only [dpD] at hd
      unfold Rep at hx hy
      obtain ⟨a, xs, rfl, p1, _, _, k1, r1⟩ := hx
      obtain ⟨b, ys, rfl, p2, _, _, k2, r2⟩ := hy
      cases (show v = Value.ref a from rx)
      cases (show u = Value.ref b from ry)
      by_cases e : a = b
      · subst e
        exact (SeqAt.EqAt.same _).eqP
      · obtain ⟨_, ya, va, ra, da⟩ := (show ObjOk X.prog X.w H s.heap a (.dK xs) from I.hok a _ p1)
        obtain ⟨_, yb, vb, rb, db⟩ := (show ObjOk X.prog X.w H s.heap b (.dK ys) from I.hok b _ p2)
        have hl : xs.length = ys.length := by
          have z := congrArg List.length (k1.trans k2.symm)
          simpa using z
        refine SeqAt.eqP_refs e fun E Q q => PySem.W.rcP_dicts (knd := mixKind X.prog X.w) (r := true) ya yb da db (by omega) (fun _ => hits_run (F := fun x y => ∃ d, sameD d d = true ∧ dpD d ≤ n ∧ Rep S lk H io d x ∧ Rep S lk H io d y) (fun x y v u f rx ry => ?_) rb ra fun p hp => ?_) E Q ?_
        · obtain ⟨d, f1, f2, f3, f4⟩ := f
          exact same_run I hK n A.in1 (by show A.units + 1 + n < cLine; omega) d x y v u f1 f2 f3 f4 rx ry
        · obtain ⟨i, hi⟩ := List.getElem?_of_mem hp
          have hil := (List.getElem?_eq_some_iff.mp hi).1
          have hil2 : i < ys.length := by omega
          have hi2 := List.getElem?_eq_getElem hil2
          have ek : ys[i].1 = p.1 := by
            have z := congrArg (fun l => l[i]?) (k1.trans k2.symm)
            simp only [List.getElem?_map, hi, hi2, Option.map_some, Option.some.injEq] at z
            exact z.symm
          have hdl : i < ds.length := by
            have z := r1.length
            rw [List.length_map] at z
            omega
          have ed := List.getElem?_eq_getElem hdl
          obtain ⟨x', e1, q1⟩ := r1.get ed
          obtain ⟨y', e2, q2⟩ := r2.get ed
          rw [List.getElem?_map, hi, Option.map_some, Option.some.injEq] at e1
          rw [List.getElem?_map, hi2, Option.map_some, Option.some.injEq] at e2
          refine ⟨y', ?_, ds[i], sameDs_at hs.2 ed, Nat.le_trans (dpDs_at ed) (by omega), by rw [e1]; exact q1, q2⟩
          rw [← ek, ← e2]
          exact val_nodup (by rw [k2]; exact hs.1.2) hi2
        · have e : va.length = vb.length := by rw [← ra.length, ← rb.length]; exact hl
          rw [show (va.length == vb.length && true) = true from by rw [e]; simp]
          exact q
    | sld _ => simp only [sameD, Bool.false_eq_true] at hs
    | fn _ => simp only [sameD, Bool.false_eq_true] at hs
    | cls _ => simp only [sameD, Bool.false_eq_true] at hs
    | ty _ => simp only [sameD, Bool.false_eq_true] at hs
    | ins _ _ => simp only [sameD, Bool.false_eq_true] at hs
    | ref _ => simp only [sameD, Bool.false_eq_true] at hs
/-- a == b, two lists told the very same -/
def rSame (S : Sta) : R2 := fun x y H Q => ∃ lk io a b xs ys ds, x = .ref a ∧ y = .ref b ∧ SqL S.K H a xs ∧ SqL S.K H b ys ∧ Reps S lk H io ds xs ∧ Reps S lk H io ds ys ∧ sameDs ds ds = true ∧ dpDs ds ≤ 50 ∧ Q (.bl true) H
theorem op_same (hK : X.K = S.K) (hu : X.A.units + 64 < cLine) : OpR X (compareOp .Eq) (rSame S) := by
  intro pins s σ H x y v u Q I rx ry h
  obtain ⟨lk, io, a, b, xs, ys, ds, rfl, rfl, p1, p2, r1, r2, hs, hd, q⟩ := h
  cases (show v = Value.ref a from rx)
  cases (show u = Value.ref b from ry)
  rw [← hK] at p1 p2
  obtain ⟨us, v1, i1, _⟩ := I.list p1
  obtain ⟨ws, v2, i2, _⟩ := I.list p2
  have l1 := r1.length
  have l2 := r2.length
  have l3 := v1.length
  have l4 := v2.length
  refine SeqAt.rcP_lists (A := X.A) (e := fun _ => true) i1.isList i2.isList (by rw [List.size_toArray, List.size_toArray]; omega) (by omega) (fun j h1 h2 => ?_) _ _ ?_
  · have hj : j < ds.length := by
      rw [List.size_toArray] at h1
      omega
    have ed := List.getElem?_eq_getElem hj
    obtain ⟨x', e1, q1⟩ := r1.get ed
    obtain ⟨y', e2, q2⟩ := r2.get ed
    obtain ⟨u1, e3, q3⟩ := v1.get e1
    obtain ⟨w1, e4, q4⟩ := v2.get e2
    have f1 : us.toArray[j] = u1 := by
      have z : us[j]? = some us[j] := List.getElem?_eq_getElem (by simpa using h1)
      rw [e3] at z
      simpa using (Option.some.inj z).symm
    have f2 : ws.toArray[j] = w1 := by
      have z : ws[j]? = some ws[j] := List.getElem?_eq_getElem (by simpa using h2)
      rw [e4] at z
      simpa using (Option.some.inj z).symm
    rw [f1, f2]
    exact same_run I hK 50 X.A.in1 (by show X.A.units + 1 + 50 < cLine; omega) ds[j] x' y' u1 w1 (sameDs_at hs ed) (Nat.le_trans (dpDs_at ed) hd) q1 q2 q3 q4
  · rw [show ((List.range us.toArray.size).all fun _ => true) = true from List.all_eq_true.mpr fun _ _ => rfl]
    exact ⟨.bl true, H, I, rfl, q⟩
end
end Iv

/-! ## IvC -/
/-! Iv, part C: operations by values. -/
namespace Iv
open PySem PySem.Spec PyProof.Rows L2
section
variable {S : Sta} {lk : List Addr} {H H1 : Hp} {io io1 : List Addr} {M : Mem} {W : WX} {σ : L2.St}
theorem lim_line : lim ≤ sizeLine := by
  rw [sizeLine_eq]
  decide
theorem lim_lt {n : Nat} (h : n ≤ lim) : n < sizeLine := Nat.lt_of_le_of_lt h (by rw [sizeLine_eq]; decide)
theorem list_rep (st : Sto S lk H io M) {d : D} {v : V} {xs : List D} (e : listOf M d = some xs) (h : Rep S lk H io d v) : ∃ a vs, v = .ref a ∧ SqL S.K H a vs ∧ vs.length ≤ lim ∧ Reps S lk H io xs vs := by
  cases d <;> simp only [listOf] at e <;> try cases e
  · unfold Rep at h
    obtain ⟨a, vs, rfl, h1, _, _, h2, h3⟩ := h
    exact ⟨a, vs, rfl, .of h1, h2, h3⟩
  · unfold Rep at h
    obtain ⟨a, vs, rfl, h1, h2, h3⟩ := h
    refine ⟨a, vs, rfl, ?_, h2, h3⟩
    rcases h1 with ⟨⟨o, h1⟩, _⟩ | h1
    · exact .inl (.inr ⟨o, h1⟩)
    · exact h1 H
  · rename_i i
    unfold Rep at h
    obtain ⟨a, ha, rfl⟩ := h
    split at e
    · rename_i ys hM
      cases e
      obtain ⟨vs, h1, h2, _, h3⟩ := st.pick hM ha
      exact ⟨a, vs, rfl, .of h1, h2, h3⟩
    · cases e
theorem trk_rep (st : Sto S lk H io M) {d : D} {v : V} {xs : List D} (e : trkOf M d = some xs) (h : Rep S lk H io d v) : ∃ a vs, v = .ref a ∧ H a = some (.lst vs) ∧ vs.length ≤ lim ∧ Reps S lk H io xs vs := by
  cases d <;> simp only [trkOf] at e <;> try cases e
  · unfold Rep at h
    obtain ⟨a, vs, rfl, h1, _, _, h2, h3⟩ := h
    exact ⟨a, vs, rfl, h1, h2, h3⟩
  · rename_i i
    unfold Rep at h
    obtain ⟨a, ha, rfl⟩ := h
    split at e
    · rename_i ys hM
      cases e
      obtain ⟨vs, h1, h2, _, h3⟩ := st.pick hM ha
      exact ⟨a, vs, rfl, h1, h2, h3⟩
    · cases e
theorem tup_rep {xs : List D} {v : V} (h : Rep S lk H io (.tup xs) v) : ∃ a vs, v = .ref a ∧ SqT S.K H a vs ∧ vs.length ≤ lim ∧ Reps S lk H io xs vs := by
  unfold Rep at h
  obtain ⟨a, vs, rfl, h1, h2, h3⟩ := h
  refine ⟨a, vs, rfl, ?_, h2, h3⟩
  rcases h1 with ⟨h1, _⟩ | h1
  · exact .of h1
  · exact h1 H
theorem seq_rep (st : Sto S lk H io M) {d : D} {v : V} {xs : List D} (e : seqOf M d = some xs) (h : Rep S lk H io d v) : ∃ t a vs, v = .ref a ∧ SqK S.K H t a vs ∧ vs.length ≤ lim ∧ Reps S lk H io xs vs := by
  by_cases q : ∃ ys, d = .tup ys
  · obtain ⟨ys, rfl⟩ := q
    simp only [seqOf] at e
    cases e
    obtain ⟨a, vs, rfl, h1, h2, h3⟩ := tup_rep h
    exact ⟨true, a, vs, rfl, h1, h2, h3⟩
  · have e' : listOf M d = some xs := by
      cases d <;> first | exact e | exact absurd ⟨_, rfl⟩ q
    obtain ⟨a, vs, rfl, h1, h2, h3⟩ := list_rep st e' h
    exact ⟨false, a, vs, rfl, h1, h2, h3⟩
theorem SqK.or {K : PySem.W.Frag} {t : Bool} {a : Addr} {vs : List V} (h : SqK K H t a vs) : SqL K H a vs ∨ SqT K H a vs := by
  cases t with
  | false => exact .inl h
  | true => exact .inr h

/-! ### new objects -/
theorem post_mk {m : Bool} {xs : List D} {vs : List V} {Q : VK} (st : Sto S lk H io M) (hv : Reps S lk H io xs vs) (hl : vs.length ≤ lim) (h : PostE S W lk σ H io (mk m xs M) Q) : ∀ p, H p = none → Q (.ref p) (upd H p (.lst vs)) := by
  intro p hp
  cases m with
  | false =>
    simp only [mk] at h
    refine h (.ref p) _ io (st.laid hp) (Ext.laid hp) ?_
    unfold Rep
    exact ⟨p, vs, rfl, upd_same, (st.fresh hp).1, (st.fresh hp).2, hl, Reps.mono (Ext.laid hp) _ _ hv⟩
  | true =>
    simp only [mk] at h
    split at h
    · rename_i hg
      refine h (.ref p) _ (io ++ [p]) (st.own hp hv hl hg) (Ext.own hp) ?_
      unfold Rep
      exact ⟨p, by rw [List.getElem?_append_right (by rw [st.len]; exact Nat.le_refl _), st.len]; simp, rfl⟩
    · exact h.elim
theorem post_tup {xs : List D} {vs : List V} {Q : VK} (st : Sto S lk H io M) (hv : Reps S lk H io xs vs) (hl : vs.length ≤ lim) (h : PostE S W lk σ H io (.ok (.tup xs) M) Q) : ∀ p, H p = none → Q (.ref p) (upd H p (.tup vs)) := by
  intro p hp
  refine h (.ref p) _ io (st.laid hp) (Ext.laid hp) ?_
  unfold Rep
  exact ⟨p, vs, rfl, .inl ⟨upd_same, (st.fresh hp).1⟩, hl, Reps.mono (Ext.laid hp) _ _ hv⟩
theorem post_ok {d : D} {v : V} {Q : VK} (st : Sto S lk H io M) (hv : Rep S lk H io d v) (h : PostE S W lk σ H io (.ok d M) Q) : Q v H := h v H io st (Ext.refl H io) hv
theorem rep_int {i : Int} : Rep S lk H io (.int i) (.int i) := by unfold Rep; rfl
theorem rep_bl {i : Bool} : Rep S lk H io (.bl i) (.bl i) := by unfold Rep; rfl
theorem rep_str {i : Str} : Rep S lk H io (.str i) (.str i) := by unfold Rep; rfl
theorem rep_non : Rep S lk H io .non .non := by unfold Rep; rfl
theorem int_of {i : Int} {v : V} (h : Rep S lk H io (.int i) v) : v = .int i := by unfold Rep at h; exact h
theorem bl_of {i : Bool} {v : V} (h : Rep S lk H io (.bl i) v) : v = .bl i := by unfold Rep at h; exact h
theorem str_of {i : Str} {v : V} (h : Rep S lk H io (.str i) v) : v = .str i := by unfold Rep at h; exact h
theorem non_of {v : V} (h : Rep S lk H io .non v) : v = .non := by unfold Rep at h; exact h
theorem ty_of {t : Ty} {v : V} (h : Rep S lk H io (.ty t) v) : v = .ty t.nm := by unfold Rep at h; exact h
theorem ints_of : ∀ {xs : List D} {vs : List V} {is : List Int}, intsOf xs = some is → Reps S lk H io xs vs → vs = is.map V.int
  | [], vs, is, e, h => by
    simp only [intsOf] at e
    cases e
    exact h.inv0
  | x :: xs, vs, is, e, h => by
    obtain ⟨v, r, rfl, h1, h2⟩ := h.inv
    cases x <;> simp only [intsOf] at e <;> try cases e
    rename_i i
    split at e
    · rename_i js ej
      cases e
      rw [int_of h1, ints_of ej h2]
      rfl
    · cases e
theorem bls_of : ∀ {xs : List D} {vs : List V} {is : List Bool}, blsOf xs = some is → Reps S lk H io xs vs → vs = is.map V.bl
  | [], vs, is, e, h => by
    simp only [blsOf] at e
    cases e
    exact h.inv0
  | x :: xs, vs, is, e, h => by
    obtain ⟨v, r, rfl, h1, h2⟩ := h.inv
    cases x <;> simp only [blsOf] at e <;> try cases e
    rename_i i
    split at e
    · rename_i js ej
      cases e
      rw [bl_of h1, bls_of ej h2]
      rfl
    · cases e

/-! ### data -/
mutual
theorem dp_rep : ∀ (d : D) (v : V) (p : PyData), toP d = some p → Rep S lk H io d v → Dp S.K H v p
  | .non, v, p, e, h => by
    simp only [toP] at e
    cases e
    rw [non_of h]
    exact .non
  | .bl b, v, p, e, h => by
    simp only [toP] at e
    cases e
    rw [bl_of h]
    exact .bl b
  | .int i, v, p, e, h => by
    simp only [toP] at e
    cases e
    rw [int_of h]
    exact .int i
  | .str x, v, p, e, h => by
    simp only [toP] at e
    cases e
    rw [str_of h]
    exact .str x
  | .tup xs, v, p, e, h => by
    simp only [toP] at e
    split at e
    · rename_i ps ep
      cases e
      obtain ⟨a, vs, rfl, h1, _, h2⟩ := tup_rep h
      exact .tup h1 (dps_rep xs vs ps ep h2)
    · cases e
  | .lst xs, v, p, e, h => by
    simp only [toP] at e
    split at e
    · rename_i ps ep
      cases e
      unfold Rep at h
      obtain ⟨a, vs, rfl, h1, _, _, _, h2⟩ := h
      exact .lst (.of h1) (dps_rep xs vs ps ep h2)
    · cases e
  | .sld xs, v, p, e, h => by
    simp only [toP] at e
    cases e
  | .dk _ _, v, p, e, h => by
    simp only [toP] at e
    cases e
  | .fn _, v, p, e, h => by
    simp only [toP] at e
    cases e
  | .cls _, v, p, e, h => by
    simp only [toP] at e
    cases e
  | .ty _, v, p, e, h => by
    simp only [toP] at e
    cases e
  | .ins _ _ _, v, p, e, h => by
    simp only [toP] at e
    cases e
  | .ref _, v, p, e, h => by
    simp only [toP] at e
    cases e
theorem dps_rep : ∀ (ds : List D) (vs : List V) (ps : List PyData), toPs ds = some ps → Reps S lk H io ds vs → DpAll S.K H vs ps
  | [], vs, ps, e, h => by
    simp only [toPs] at e
    cases e
    rw [h.inv0]
    exact .nil
  | d :: ds, vs, ps, e, h => by
    simp only [toPs] at e
    split at e
    · rename_i p qs e1 e2
      cases e
      obtain ⟨v, r, rfl, h1, h2⟩ := h.inv
      exact .cons (dp_rep d v p e1 h1) (dps_rep ds r qs e2 h2)
    · cases e
end
theorem dat_rep (st : Sto S lk H io M) {d : D} {v : V} {p : PyData} (e : datOf M d = some p) (h : Rep S lk H io d v) : Dp S.K H v p := by
  by_cases q : ∃ i, d = .ref i
  · obtain ⟨i, rfl⟩ := q
    simp only [datOf] at e
    split at e
    · rename_i xs hM
      split at e
      · rename_i ps ep
        cases e
        unfold Rep at h
        obtain ⟨a, ha, rfl⟩ := h
        obtain ⟨vs, h1, h2, _, h3⟩ := st.pick hM ha
        exact .lst (.of h1) (dps_rep xs vs ps ep h3)
      · cases e
    · cases e
  · have e' : toP d = some p := by
      cases d <;> first | exact e | exact absurd ⟨_, rfl⟩ q
    exact dp_rep d v p e' h
theorem flat_of {d : D} {v : V} (h : Rep S lk H io d v) (f : flatD d = true) : flatV v = true ∧ ∀ e u, flatD e = true → Rep S lk H io e u → eqV u v = eqF e d ∧ eqV v u = eqF d e := by
  cases d <;> simp only [flatD] at f <;> try cases f
  · rw [non_of h]
    refine ⟨rfl, fun e u g k => ?_⟩
    cases e <;> simp only [flatD] at g <;> try cases g
    · rw [non_of k]; exact ⟨rfl, rfl⟩
    · rw [bl_of k]; exact ⟨rfl, rfl⟩
    · rw [int_of k]; exact ⟨rfl, rfl⟩
    · rw [str_of k]; exact ⟨rfl, rfl⟩
  · rw [bl_of h]
    refine ⟨rfl, fun e u g k => ?_⟩
    cases e <;> simp only [flatD] at g <;> try cases g
    · rw [non_of k]; exact ⟨rfl, rfl⟩
    · rw [bl_of k]; exact ⟨rfl, rfl⟩
    · rw [int_of k]; exact ⟨rfl, rfl⟩
    · rw [str_of k]; exact ⟨rfl, rfl⟩
  · rw [int_of h]
    refine ⟨rfl, fun e u g k => ?_⟩
    cases e <;> simp only [flatD] at g <;> try cases g
    · rw [non_of k]; exact ⟨rfl, rfl⟩
    · rw [bl_of k]; exact ⟨rfl, rfl⟩
    · rw [int_of k]; exact ⟨rfl, rfl⟩
    · rw [str_of k]; exact ⟨rfl, rfl⟩
  · rw [str_of h]
    refine ⟨rfl, fun e u g k => ?_⟩
    cases e <;> simp only [flatD] at g <;> try cases g
    · rw [non_of k]; exact ⟨rfl, rfl⟩
    · rw [bl_of k]; exact ⟨rfl, rfl⟩
    · rw [int_of k]; exact ⟨rfl, rfl⟩
    · rw [str_of k]; exact ⟨rfl, rfl⟩
theorem flats_of {d : D} {v : V} (h : Rep S lk H io d v) (f : flatD d = true) : ∀ {ds : List D} {vs : List V}, Reps S lk H io ds vs → ds.all flatD = true → vs.all flatV = true ∧ vs.any (fun y => eqV y v) = ds.any fun y => eqF y d
  | [], vs, k, g => by
    rw [k.inv0]
    exact ⟨rfl, rfl⟩
  | x :: ds, vs, k, g => by
    obtain ⟨u, r, rfl, h1, h2⟩ := k.inv
    rw [List.all_cons, Bool.and_eq_true] at g
    obtain ⟨i1, i2⟩ := flats_of h f h2 g.2
    obtain ⟨j1, _⟩ := flat_of h1 g.1
    obtain ⟨_, j2⟩ := flat_of h f
    rw [List.all_cons, List.any_cons, List.any_cons, i1, i2, j1, (j2 x u g.1 h1).1]
    exact ⟨rfl, rfl⟩
/-- the first place -/
theorem first_of {d : D} {v : V} (h : Rep S lk H io d v) (f : flatD d = true) : ∀ {ds : List D} {vs : List V} {k j : Nat}, Reps S lk H io ds vs → ds.all flatD = true → firstAt d ds k = some j →
    ∃ i z, j = k + i ∧ vs[i]? = some z ∧ eqV z v = true ∧ ∀ m z', m < i → vs[m]? = some z' → eqV z' v = false
  | [], vs, k, j, q, g, e => by
    simp only [firstAt] at e
    cases e
  | x :: ds, vs, k, j, q, g, e => by
    obtain ⟨u, r, rfl, h1, h2⟩ := q.inv
    rw [List.all_cons, Bool.and_eq_true] at g
    obtain ⟨_, j2⟩ := flat_of h f
    have eq1 := (j2 x u g.1 h1).1
    simp only [firstAt] at e
    split at e
    · rename_i hx
      cases e
      exact ⟨0, u, rfl, rfl, eq1.trans hx, fun m z' hm => absurd hm (Nat.not_lt_zero _)⟩
    · rename_i hx
      obtain ⟨i, z, e1, e2, e3, e4⟩ := first_of h f h2 g.2 e
      refine ⟨i + 1, z, by omega, by simpa using e2, e3, fun m z' hm hz => ?_⟩
      cases m with
      | zero =>
        simp at hz
        rw [← hz, eq1]
        simpa using hx
      | succ m => exact e4 m z' (by omega) (by simpa using hz)
end

/-! ### operators -/
def opIs : BO → Operator → Bool
  | .add, .Add => true
  | .sub, .Sub => true
  | .mul, .Mult => true
  | .fdiv, .FloorDiv => true
  | .mod, .Mod => true
  | .pow, .Pow => true
  | .shl, .LShift => true
  | .shr, .RShift => true
  | .band, .BitAnd => true
  | _, _ => false
/-- an operation by values keeps what f says -/
def RedOf (S : Sta) (W : WX) (r : R2) (f : D → D → Mem → Res) : Prop :=
  ∀ lk σ H io M x y vx vy Q, Sto S lk H io M → Rep S lk H io x vx → Rep S lk H io y vy → PostE S W lk σ H io (f x y M) Q → r vx vy H Q
section
variable {S : Sta} {X : Cx} {W : WX}
theorem int2 {g : Int → Int → Int} {f : D → D → Mem → Res} (h : ∀ x y M, (∃ i j, x = .int i ∧ y = .int j ∧ (f x y M = .ok (.int (g i j)) M ∨ f x y M = .stuck)) ∨ f x y M = .stuck) : RedOf S W (rI0 fun i j => .int (g i j)) f := by
  intro lk σ H io M x y vx vy Q st hx hy p
  rcases h x y M with ⟨i, j, rfl, rfl, e | e⟩ | e
  · rw [e] at p
    exact ⟨i, j, int_of hx, int_of hy, post_ok st rep_int p⟩
  · rw [e] at p
    exact p.elim
  · rw [e] at p
    exact p.elim
theorem int2C {C : Int → Int → Prop} {g : Int → Int → Int} {f : D → D → Mem → Res} (h : ∀ x y M, (∃ i j, x = .int i ∧ y = .int j ∧ C i j ∧ f x y M = .ok (.int (g i j)) M) ∨ f x y M = .stuck) : RedOf S W (rI C fun i j => .int (g i j)) f := by
  intro lk σ H io M x y vx vy Q st hx hy p
  rcases h x y M with ⟨i, j, rfl, rfl, c, e⟩ | e
  · rw [e] at p
    exact ⟨i, j, int_of hx, int_of hy, c, post_ok st rep_int p⟩
  · rw [e] at p
    exact p.elim
def rStrA : R2 := fun x y H Q => ∃ i j, x = .str i ∧ y = .str j ∧ i.length + j.length ≤ sizeLine ∧ Q (.str (i ++ j)) H
def rAddA (K : PySem.W.Frag) : R2 := fun x y H Q => rI0 (fun i j => .int (i + j)) x y H Q ∨ rStrA x y H Q ∨ rCat x y H Q ∨ rCatA K x y H Q
theorem op_addA : OpR X (binaryOp .Add) (rAddA X.K) := op_add.or (op_add_str.or (op_cat.or op_catA))
theorem red_add (hK : X.K = S.K) : RedOf S W (rAddA X.K) (bop .add) := by
  intro lk σ H io M x y vx vy Q st hx hy p
  rw [hK]
  unfold bop at p
  split at p <;> rename_i e1 <;> try (first | cases e1 | skip)
  · exact .inl ⟨_, _, int_of hx, int_of hy, post_ok st rep_int p⟩
  · split at p
    · rename_i hl
      exact .inr (.inl ⟨_, _, str_of hx, str_of hy, Nat.le_trans hl lim_line, post_ok st rep_str p⟩)
    · exact p.elim
  · rename_i a b
    split at p
    · rename_i hl
      obtain ⟨pa, va, rfl, ha, la, ra⟩ := tup_rep hx
      obtain ⟨pb, vb, rfl, hb, lb, rb⟩ := tup_rep hy
      have ea := ra.length
      have eb := rb.length
      refine .inr (.inr (.inr ⟨pa, pb, va, vb, rfl, rfl, ha, hb, Nat.le_trans (by omega) lim_line, fun z => ?_, fun _ z => ?_, fun _ _ => post_tup st (ra.append rb) (by rw [List.length_append]; omega) p⟩))
      · have za : a = [] := by
          rw [z] at ea
          exact List.eq_nil_of_length_eq_zero ea
        rw [za] at p
        exact post_ok st hy p
      · have zb : b = [] := by
          rw [z] at eb
          exact List.eq_nil_of_length_eq_zero eb
        rw [zb, List.append_nil] at p
        exact post_ok st hx p
    · exact p.elim
  · split at p
    · rename_i xs ys ex ey
      split at p
      · rename_i hl
        obtain ⟨pa, va, rfl, ha, la, ra⟩ := trk_rep st ex hx
        obtain ⟨pb, vb, rfl, hb, lb, rb⟩ := trk_rep st ey hy
        have ea := ra.length
        have eb := rb.length
        exact .inr (.inr (.inl ⟨pa, pb, va, vb, rfl, rfl, ha, hb, Nat.le_trans (by omega) lim_line, post_mk (m := false) st (ra.append rb) (by rw [List.length_append]; omega) p⟩))
      · exact p.elim
    · exact p.elim
  · exact p.elim
/-- a text times an int -/
theorem rpt_foldl (c : Array Nat) : ∀ (k : Nat) (a : Array Nat), (List.replicate k c).foldl (· ++ ·) a = a ++ (List.replicate k c).foldl (· ++ ·) #[]
  | 0, a => by simp
  | k + 1, a => by
    rw [List.replicate_succ, List.foldl_cons, List.foldl_cons, rpt_foldl c k (a ++ c), rpt_foldl c k (#[] ++ c)]
    simp
theorem rptS_succ (x : Str) (k : Nat) : (rptS x (k + 1)).cps = x.cps ++ (rptS x k).cps := by
  unfold rptS
  rw [List.replicate_succ, List.foldl_cons, rpt_foldl]
  simp
theorem rptS_list (x : Str) : ∀ k : Nat, (rptS x k).cps.toList = (List.replicate k x.cps.toList).flatten
  | 0 => rfl
  | k + 1 => by
    rw [rptS_succ, Array.toList_append, rptS_list x k, List.replicate_succ, List.flatten_cons]
theorem rptS_len (x : Str) (k : Nat) : (rptS x k).length = x.length * k := by
  show (rptS x k).cps.size = x.cps.size * k
  rw [← Array.length_toList, rptS_list, List.length_flatten, List.map_replicate, List.sum_replicate_nat, Array.length_toList, Nat.mul_comm]
theorem rptS_one (x : Str) : rptS x 1 = x := by
  unfold rptS
  simp
theorem rptS_nil {x : Str} (h : x.length = 0) (k : Nat) : rptS x k = x := by
  have e : x.cps = #[] := Array.eq_empty_of_size_eq_zero h
  have e2 : (rptS x k).cps = x.cps := by
    apply Array.toList_inj.mp
    rw [rptS_list, e]
    simp
  cases x
  cases q : rptS _ k
  rw [q] at e2
  simpa using e2
def rMulS : R2 := fun x y H Q => ∃ a j, x = .str a ∧ y = .int j ∧ 0 ≤ j ∧ j ≤ lim ∧ a.length * j.toNat ≤ lim ∧ Q (.str (rptS a j.toNat)) H
theorem op_mulS : OpR X (binaryOp .Mult) rMulS := by
  intro pins s σ H x y v u Q I rx ry h
  obtain ⟨a, j, rfl, rfl, h1, h2, h3, q⟩ := h
  obtain ⟨t, rfl⟩ := rx
  obtain ⟨t', rfl⟩ := ry
  have hj : j ≤ 1000000 := h2
  refine P.mul_str ?_ (fun g1 g2 g3 => ?_) (fun _ _ => ?_) ?_
  · rw [decide_eq_false (by omega), decide_eq_false (by omega)]
    rfl
  · have ha : (a.length : Int) ≤ 1000000 := by
      have : a.length * 1 ≤ a.length * j.toNat := Nat.mul_le_mul_left _ (by omega)
      have h3' : a.length * j.toNat ≤ 1000000 := h3
      omega
    have hd : (2 ^ 63 - 1 : Int) / 1000000 ≤ (2 ^ 63 - 1) / j := by
      rw [Int.le_ediv_iff_mul_le (by omega)]
      have : (2 ^ 63 - 1 : Int) / 1000000 * j ≤ (2 ^ 63 - 1 : Int) / 1000000 * 1000000 := Int.mul_le_mul_of_nonneg_left hj (by decide)
      omega
    have : (2 ^ 63 - 1 : Int) / 1000000 = 9223372036854 := by decide
    omega
  · unfold Builtin.Str.tooLong
    exact decide_eq_false (by
      have := Nat.le_trans h3 lim_line
      omega)
  · split
    · rename_i h0
      have e : j.toNat = 0 := by omega
      rw [e] at q
      exact ⟨by decide, ⟨.str (rptS a 0), H, I.tok _, ⟨_, rfl⟩, q⟩⟩
    · split
      · rename_i hz
        rw [Bool.or_eq_true] at hz
        have e : rptS a j.toNat = a := by
          rcases hz with z | z
          · have : j = 1 := beq_iff_eq.mp z
            rw [this]
            exact rptS_one a
          · exact rptS_nil (beq_iff_eq.mp z) _
        rw [e] at q
        exact ⟨.str a, H, I, ⟨_, rfl⟩, q⟩
      · refine ⟨?_, ⟨.str (rptS a j.toNat), H, I.tok _, ⟨_, rfl⟩, q⟩⟩
        have := rptS_len a j.toNat
        unfold rptS at this
        rw [this]
        exact Nat.le_trans h3 lim_line
def rMulA : R2 := fun x y H Q => rI CMul (fun i j => .int (i * j)) x y H Q ∨ rMulS x y H Q
theorem op_mulA : OpR X (binaryOp .Mult) rMulA := op_mul.or op_mulS
theorem red_mul : RedOf S W rMulA (bop .mul) := by
  intro lk σ H io M x y vx vy Q st hx hy p
  cases x <;> cases y <;> try exact False.elim p
  · rename_i i j
    by_cases c : (-(2 ^ 64) < i ∧ i < 2 ^ 64) ∨ (-(2 ^ 64) < j ∧ j < 2 ^ 64)
    · rw [show bop .mul (.int i) (.int j) M = .ok (.int (i * j)) M from if_pos c] at p
      exact .inl ⟨_, _, int_of hx, int_of hy, c, post_ok st rep_int p⟩
    · rw [show bop .mul (.int i) (.int j) M = .stuck from if_neg c] at p
      exact p.elim
  · rename_i a j
    by_cases c : 0 ≤ j ∧ j ≤ lim ∧ a.length * j.toNat ≤ lim
    · rw [show bop .mul (.str a) (.int j) M = .ok (.str (rptS a j.toNat)) M from if_pos c] at p
      exact .inr ⟨_, _, str_of hx, int_of hy, c.1, c.2.1, c.2.2, post_ok st rep_str p⟩
    · rw [show bop .mul (.str a) (.int j) M = .stuck from if_neg c] at p
      exact p.elim
theorem bop_ok (hK : X.K = S.K) : ∀ (o : BO) (op : Operator), opIs o op = true → ∃ r, OpR X (binaryOp op) r ∧ RedOf S W r (bop o) := by
  intro o op h
  cases o <;> cases op <;> simp only [opIs] at h <;> try cases h
  · exact ⟨_, op_addA, red_add hK⟩
  · exact ⟨_, op_sub, int2 fun x y M => by cases x <;> cases y <;> first | exact .inl ⟨_, _, rfl, rfl, .inl rfl⟩ | exact .inr rfl⟩
  · exact ⟨_, op_mulA, red_mul⟩
  · refine ⟨_, op_fdiv, int2C fun x y M => ?_⟩
    cases x <;> cases y <;> try exact .inr rfl
    rename_i i j
    by_cases c : 0 < j ∧ j < 1073741824
    · exact .inl ⟨i, j, rfl, rfl, c, by simp only [bop]; rw [if_pos c]⟩
    · exact .inr (by simp only [bop]; rw [if_neg c])
  · refine ⟨_, op_mod, int2C fun x y M => ?_⟩
    cases x <;> cases y <;> try exact .inr rfl
    rename_i i j
    by_cases c : 0 < j
    · exact .inl ⟨i, j, rfl, rfl, c, by simp only [bop]; rw [if_pos c]⟩
    · exact .inr (by simp only [bop]; rw [if_neg c])
  · refine ⟨_, op_pow, int2C fun x y M => ?_⟩
    cases x <;> cases y <;> try exact .inr rfl
    rename_i i j
    by_cases c : 0 ≤ j ∧ j ≤ 1000000 ∧ i.natAbs < 2 ^ 64
    · exact .inl ⟨i, j, rfl, rfl, c, by simp only [bop]; rw [if_pos c]⟩
    · exact .inr (by simp only [bop]; rw [if_neg c])
  · refine ⟨_, op_shl, int2C fun x y M => ?_⟩
    cases x <;> cases y <;> try exact .inr rfl
    rename_i i j
    by_cases c : 0 ≤ j ∧ j ≤ 1000000 ∧ i.natAbs < 2 ^ 64
    · exact .inl ⟨i, j, rfl, rfl, c, by simp only [bop]; rw [if_pos c]⟩
    · exact .inr (by simp only [bop]; rw [if_neg c])
  · refine ⟨_, op_shr, int2C fun x y M => ?_⟩
    cases x <;> cases y <;> try exact .inr rfl
    rename_i i j
    by_cases c : 0 ≤ j
    · exact .inl ⟨i, j, rfl, rfl, c, by simp only [bop]; rw [if_pos c]⟩
    · exact .inr (by simp only [bop]; rw [if_neg c])
  · exact ⟨_, op_and, int2 fun x y M => by cases x <;> cases y <;> first | exact .inl ⟨_, _, rfl, rfl, .inl rfl⟩ | exact .inr rfl⟩
theorem red_rep (m : Bool) : RedOf S W rRep (rep m) := by
  intro lk σ H io M x y vx vy Q st hx hy p
  unfold rep at p
  split at p
  · rename_i xs k ex
    split at p
    · rename_i c
      obtain ⟨pa, va, rfl, ha, la, ra⟩ := trk_rep st ex hx
      have ea := ra.length
      have hl : (List.replicate k.toNat va).flatten.length = va.length * k.toNat := by
        rw [List.length_flatten, List.map_replicate, List.sum_replicate_nat, Nat.mul_comm]
      exact ⟨pa, k, va, rfl, int_of hy, ha, c.1, c.2.1, by rw [← ea]; exact Nat.le_trans c.2.2 lim_line, post_mk st (ra.rep _) (by rw [hl, ← ea]; exact c.2.2) p⟩
    · exact p.elim
  · exact p.elim

/-! ### comparisons -/
def cmIs : CO → CmpOp → Bool
  | .eq, .Eq => true
  | .ne, .NotEq => true
  | .lt, .Lt => true
  | .le, .LtE => true
  | .gt, .Gt => true
  | .ge, .GtE => true
  | .mem, .In => true
  | .nmem, .NotIn => true
  | .isn, .Is => true
  | .nisn, .IsNot => true
  | _, _ => false
theorem cop_ok_int {o : CO} {g : Int → Int → Bool} (h : ∀ x y M, (∃ i j, x = .int i ∧ y = .int j ∧ cmpB o x y M = some (g i j)) ∨ cmpB o x y M = none) : RedOf S W (rI0 fun i j => .bl (g i j)) (cop o) := by
  intro lk σ H io M x y vx vy Q st hx hy p
  unfold cop at p
  rcases h x y M with ⟨i, j, rfl, rfl, e⟩ | e
  · rw [e] at p
    exact ⟨i, j, int_of hx, int_of hy, post_ok st rep_bl p⟩
  · rw [e] at p
    exact p.elim
def rEqE (K : PySem.W.Frag) : R2 := fun x y H Q => rEqD K x y H Q ∨ rEq x y H Q
def rNeE (K : PySem.W.Frag) : R2 := fun x y H Q => rNeD K x y H Q ∨ rNe x y H Q
theorem eqB_cases {M : Mem} {x y : D} {b : Bool} (e : eqB M x y = some b) : (∃ p q, datOf M x = some p ∧ datOf M y = some q ∧ SeqAt.shaped p = true ∧ SeqAt.shaped q = true ∧ b = PyData.eqv p q) ∨ ∃ u v, x = .str u ∧ y = .str v ∧ b = (u == v) := by
  unfold eqB at e
  split at e
  · cases e
    exact .inr ⟨_, _, rfl, rfl, rfl⟩
  · unfold eqD at e
    split at e
    · rename_i p1 p2 e1 e2
      split at e
      · rename_i c
        cases e
        exact .inl ⟨p1, p2, e1, e2, c.1, c.2, rfl⟩
      · cases e
    · cases e
theorem trk_list {M : Mem} {d : D} {xs : List D} (e : trkOf M d = some xs) : listOf M d = some xs := by
  cases d <;> first | exact e | (simp only [trkOf] at e; cases e; done)
theorem eq_red (hK : X.K = S.K) : RedOf S W (fun x y H Q => rSame S x y H Q ∨ rEqE X.K x y H Q) (cop .eq) := by
  intro lk σ H io M x y vx vy Q st hx hy p
  rw [hK]
  unfold cop at p
  simp only [cmpB] at p
  split at p
  · rename_i b e0
    split at e0
    · rename_i b' e
      cases e0
      rcases eqB_cases e with ⟨p1, p2, e1, e2, c1, c2, rfl⟩ | ⟨u, v, rfl, rfl, rfl⟩
      · exact .inr (.inl ⟨p1, p2, dat_rep st e1 hx, dat_rep st e2 hy, c1, c2, post_ok st rep_bl p⟩)
      · rw [str_of hx, str_of hy]
        refine .inr (.inr ⟨rfl, ?_⟩)
        rw [dec_str]
        exact post_ok st rep_bl p
    · unfold eqS at e0
      split at e0
      · rename_i xs ys e1 e2
        split at e0
        · rename_i c
          cases e0
          obtain ⟨a, vs, rfl, h1, _, h2⟩ := list_rep st (trk_list e1) hx
          obtain ⟨b, ws, rfl, h3, _, h4⟩ := list_rep st (trk_list e2) hy
          have z := sameDs_eq _ _ c.1
          subst z
          exact .inl ⟨lk, io, a, b, vs, ws, xs, rfl, rfl, h1, h3, h2, h4, c.1, c.2, post_ok st rep_bl p⟩
        · cases e0
      · cases e0
  · exact p.elim
theorem ne_red (hK : X.K = S.K) : RedOf S W (rNeE X.K) (cop .ne) := by
  intro lk σ H io M x y vx vy Q st hx hy p
  rw [hK]
  unfold cop at p
  simp only [cmpB] at p
  split at p
  · rename_i b e
    split at e
    · rename_i b' e0
      cases e
      rcases eqB_cases e0 with ⟨p1, p2, e1, e2, c1, c2, rfl⟩ | ⟨u, v, rfl, rfl, rfl⟩
      · exact .inl ⟨p1, p2, dat_rep st e1 hx, dat_rep st e2 hy, c1, c2, post_ok st rep_bl p⟩
      · rw [str_of hx, str_of hy]
        refine .inr ⟨rfl, ?_⟩
        rw [dec_str]
        exact post_ok st rep_bl p
    · cases e
  · exact p.elim
def rDin (n : Bool) : R2 := fun x y H Q => ∃ a o, y = .ref a ∧ DGet H a x o ∧ Q (.bl (o.isSome != n)) H
theorem op_din (hu : X.A.units + 64 < cLine) : OpR X (compareOp .In) (rDin false) := by
  intro pins s σ H x y v u Q I rx ry h
  obtain ⟨a, o, rfl, g, q⟩ := h
  cases (show u = Value.ref a from ry)
  exact d_in (by omega) I g rx fun s' I' => ⟨.bl o.isSome, H, I', rfl, by simpa using q⟩
theorem op_dnin (hu : X.A.units + 64 < cLine) : OpR X (compareOp .NotIn) (rDin true) := by
  intro pins s σ H x y v u Q I rx ry h
  obtain ⟨a, o, rfl, g, q⟩ := h
  cases (show u = Value.ref a from ry)
  exact d_notIn (by omega) I g rx fun s' I' => ⟨.bl (!o.isSome), H, I', rfl, by simpa using q⟩
theorem key_rep {lk : List Addr} {H : Hp} {io : List Addr} {d : D} {v : V} {k : Sum Int Str} (h : Rep S lk H io d v) (e : keyD d = some k) : v = kV k := by
  cases d <;> simp only [keyD] at e <;> cases e
  · exact int_of h
  · exact str_of h
theorem dk_cell {lk : List Addr} {H : Hp} {io : List Addr} {M : Mem} {i : Nat} {v : V} {kvs : List (Sum Int Str × D)} (st : Sto S lk H io M) (h : Rep S lk H io (.ref i) v) (em : M[i]? = some (.dk kvs)) :
    ∃ a kws, io[i]? = some a ∧ v = .ref a ∧ H a = some (.dK kws) ∧ kws.length ≤ lim ∧ grs (kvs.map (·.2)) = true ∧ kws.map (·.1) = kvs.map (·.1) ∧ Reps S lk H io (kvs.map (·.2)) (kws.map (·.2)) := by
  unfold Rep at h
  obtain ⟨a, ha, rfl⟩ := h
  obtain ⟨kws, h1, h2, h3, h4, h5⟩ := st.pickD em ha
  exact ⟨a, kws, ha, rfl, h1, h2, h3, h4, h5⟩
theorem zip_fst {α β : Type} : ∀ {a : List α} {b : List β}, a.length = b.length → (a.zip b).map (·.1) = a ∧ (a.zip b).map (·.2) = b
  | [], [], _ => ⟨rfl, rfl⟩
  | x :: a, y :: b, h => by
    obtain ⟨h1, h2⟩ := zip_fst (a := a) (b := b) (by simpa using h)
    simp only [List.zip_cons_cons, List.map_cons, h1, h2, and_self]
theorem dk_rep {lk : List Addr} {H : Hp} {io : List Addr} {M : Mem} {d : D} {v : V} {kvs : List (Sum Int Str × D)} (st : Sto S lk H io M) (h : Rep S lk H io d v) (e : dkOf M d = some kvs) :
    ∃ a kws, v = .ref a ∧ H a = some (.dK kws) ∧ kws.length ≤ lim ∧ kws.map (·.1) = kvs.map (·.1) ∧ Reps S lk H io (kvs.map (·.2)) (kws.map (·.2)) := by
  cases d <;> simp only [dkOf] at e <;> try cases e
  · rename_i ks vs
    unfold Rep at h
    obtain ⟨a, kws, rfl, h1, _, hl, hk, hr⟩ := h
    have l := hr.length
    rw [List.length_map] at l
    obtain ⟨z1, z2⟩ := zip_fst (a := kws.map (·.1)) (b := vs) (by rw [List.length_map, l])
    subst hk
    exact ⟨a, kws, rfl, h1, hl, by rw [z1], by rw [z2]; exact hr⟩
  · rename_i i
    split at e
    · rename_i kvs' em
      cases e
      obtain ⟨a, kws, ha, rfl, h1, h2, h3, h4, h5⟩ := dk_cell st h em
      exact ⟨a, kws, rfl, h1, h2, h4, h5⟩
    · cases e
theorem getK_rep {lk : List Addr} {H : Hp} {io : List Addr} {k : Sum Int Str} {d : D} : ∀ {kvs : List (Sum Int Str × D)} {kws : List (L2.Key × V)}, kws.map (·.1) = kvs.map (·.1) → Reps S lk H io (kvs.map (·.2)) (kws.map (·.2)) → getK kvs k = some d → ∃ v, valV kws k = some v ∧ Rep S lk H io d v
  | [], _, _, _, e => by cases e
  | p :: kvs, [], h, _, _ => by cases h
  | p :: kvs, q :: kws, h, r, e => by
    simp only [List.map_cons, List.cons.injEq] at h
    obtain ⟨v, r', e1, h1, h2⟩ := r.inv
    simp only [List.map_cons, List.cons.injEq] at e1
    obtain ⟨rfl, rfl⟩ := e1
    unfold getK at e
    by_cases c : p.1 = k
    · rw [List.find?_cons_of_pos (by simpa using c)] at e
      cases e
      exact ⟨q.2, valV_pos (by rw [h.1]; exact c), h1⟩
    · rw [List.find?_cons_of_neg (by simpa using c)] at e
      obtain ⟨w, e2, h3⟩ := getK_rep h.2 h2 (show getK kvs k = some d from e)
      exact ⟨w, by rw [valV_neg (by rw [h.1]; exact c)]; exact e2, h3⟩
theorem chr_of {a : Str} {c : Nat} (h : chrOf a = some c) : a = ⟨#[c]⟩ := by
  unfold chrOf at h
  split at h
  · rename_i x e
    cases h
    obtain ⟨cps⟩ := a
    simp only at e
    congr 1
    exact Array.ext' (by rw [e])
  · cases h
theorem in_red (hK : X.K = S.K) : RedOf S W (fun x y H Q => rDin false x y H Q ∨ rIn X.K false x y H Q ∨ rInS x y H Q) (cop .mem) := by
  intro lk σ H io M x y vx vy Q st hx hy p
  rw [hK]
  unfold cop at p
  simp only [cmpB] at p
  split at p
  · rename_i b e
    unfold memB at e
    split at e
    · rename_i kvs ek
      split at e
      · rename_i kk e1
        cases e
        obtain ⟨a, kws, rfl, h1, _, h2, _⟩ := dk_rep st hy ek
        refine .inl ⟨a, _, rfl, .inl ⟨kws, kk, .inl h1, key_rep hx e1, rfl⟩, ?_⟩
        rw [keys_val h2]
        exact post_ok st (by rw [Bool.bne_false]; exact rep_bl) p
      · cases e
    unfold inB at e
    split at e
    · rename_i ys e1
      split at e
      · rename_i c
        cases e
        obtain ⟨t, a, vs, rfl, h1, _, h2⟩ := seq_rep st e1 hy
        obtain ⟨f1, f2⟩ := flats_of hx c.1 h2 c.2
        refine .inr (.inl ⟨a, vs, rfl, h1.or, (flat_of hx c.1).1, f1, ?_⟩)
        show Q (.bl (inV vx vs)) H
        unfold inV
        rw [f2]
        exact post_ok st rep_bl p
      · cases e
    · split at e
      · split at e
        · rename_i c ec
          cases e
          have ea := chr_of ec
          subst ea
          exact .inr (.inr ⟨c, _, str_of hx, str_of hy, post_ok st rep_bl p⟩)
        · cases e
      · cases e
  · exact p.elim
theorem nin_red (hK : X.K = S.K) : RedOf S W (fun x y H Q => rDin true x y H Q ∨ rIn X.K true x y H Q ∨ rNotInS x y H Q) (cop .nmem) := by
  intro lk σ H io M x y vx vy Q st hx hy p
  rw [hK]
  unfold cop at p
  simp only [cmpB] at p
  split at p
  · rename_i b e
    split at e
    · rename_i b' e0
      cases e
      unfold memB at e0
      split at e0
      · rename_i kvs ek
        split at e0
        · rename_i kk e1
          cases e0
          obtain ⟨a, kws, rfl, h1, _, h2, _⟩ := dk_rep st hy ek
          refine .inl ⟨a, _, rfl, .inl ⟨kws, kk, .inl h1, key_rep hx e1, rfl⟩, ?_⟩
          rw [keys_val h2]
          exact post_ok st (by rw [Bool.bne_true]; exact rep_bl) p
        · cases e0
      unfold inB at e0
      split at e0
      · rename_i ys e1
        split at e0
        · rename_i c
          cases e0
          obtain ⟨t, a, vs, rfl, h1, _, h2⟩ := seq_rep st e1 hy
          obtain ⟨f1, f2⟩ := flats_of hx c.1 h2 c.2
          refine .inr (.inl ⟨a, vs, rfl, h1.or, (flat_of hx c.1).1, f1, ?_⟩)
          show Q (.bl (!inV vx vs)) H
          unfold inV
          rw [f2]
          exact post_ok st rep_bl p
        · cases e0
      · split at e0
        · split at e0
          · rename_i c ec
            cases e0
            have ea := chr_of ec
            subst ea
            exact .inr (.inr ⟨c, _, str_of hx, str_of hy, post_ok st rep_bl p⟩)
          · cases e0
        · cases e0
    · cases e
  · exact p.elim
theorem ref_ne {d : D} {lk : List Addr} {H : Hp} {io : List Addr} {v : V} (h : Rep S lk H io d v) : isNonD d = decide (v = .non) := by
  cases d with
  | non => rw [non_of h]; rfl
  | bl b => rw [bl_of h]; rfl
  | int i => rw [int_of h]; rfl
  | str x => rw [str_of h]; rfl
  | ty t => rw [ty_of h]; rfl
  | tup xs => unfold Rep at h; obtain ⟨a, _, rfl, _⟩ := h; rfl
  | lst xs => unfold Rep at h; obtain ⟨a, _, rfl, _⟩ := h; rfl
  | sld xs => unfold Rep at h; obtain ⟨a, _, rfl, _⟩ := h; rfl
  | dk _ _ => unfold Rep at h; obtain ⟨a, _, rfl, _⟩ := h; rfl
  | fn i => unfold Rep at h; obtain ⟨a, _, rfl⟩ := h; rfl
  | cls i => unfold Rep at h; obtain ⟨a, _, rfl⟩ := h; rfl
  | ins _ _ _ => unfold Rep at h; obtain ⟨a, _, _, _, rfl, _⟩ := h; rfl
  | ref i => unfold Rep at h; obtain ⟨a, _, rfl⟩ := h; rfl
theorem cop_ok (hK : X.K = S.K) (hu : X.A.units + 64 < cLine) : ∀ (o : CO) (op : CmpOp), cmIs o op = true → ∃ r, OpR X (compareOp op) r ∧ RedOf S W r (cop o) := by
  intro o op h
  cases o <;> cases op <;> simp only [cmIs] at h <;> try cases h
  · exact ⟨_, (op_same hK hu).or ((op_eqD hu).or op_eq), eq_red hK⟩
  · exact ⟨_, (op_neD hu).or op_ne, ne_red hK⟩
  · exact ⟨_, op_lt, cop_ok_int fun x y M => by cases x <;> cases y <;> first | exact .inl ⟨_, _, rfl, rfl, rfl⟩ | exact .inr rfl⟩
  · exact ⟨_, op_le, cop_ok_int fun x y M => by cases x <;> cases y <;> first | exact .inl ⟨_, _, rfl, rfl, rfl⟩ | exact .inr rfl⟩
  · exact ⟨_, op_gt, cop_ok_int fun x y M => by cases x <;> cases y <;> first | exact .inl ⟨_, _, rfl, rfl, rfl⟩ | exact .inr rfl⟩
  · exact ⟨_, op_ge, cop_ok_int fun x y M => by cases x <;> cases y <;> first | exact .inl ⟨_, _, rfl, rfl, rfl⟩ | exact .inr rfl⟩
  · exact ⟨_, (op_din hu).or (op_in_seq.or op_inS), in_red hK⟩
  · exact ⟨_, (op_dnin hu).or (op_notIn_seq.or op_notInS), nin_red hK⟩
  · refine ⟨_, op_isN.or op_is_bl, ?_⟩
    intro lk σ H io M x y vx vy Q st hx hy p
    unfold cop at p
    cases y <;> simp only [cmpB] at p <;> try exact p.elim
    · refine .inl ⟨non_of hy, ?_⟩
      rw [← ref_ne hx]
      exact post_ok st rep_bl p
    · cases x <;> simp only [cmpB] at p <;> try exact p.elim
      exact .inr ⟨_, _, bl_of hx, bl_of hy, post_ok st rep_bl p⟩
  · refine ⟨_, op_notN.or op_isnot_bl, ?_⟩
    intro lk σ H io M x y vx vy Q st hx hy p
    unfold cop at p
    cases y <;> simp only [cmpB] at p <;> try exact p.elim
    · refine .inl ⟨non_of hy, ?_⟩
      rw [← ref_ne hx]
      exact post_ok st rep_bl p
    · cases x <;> simp only [cmpB] at p <;> try exact p.elim
      exact .inr ⟨_, _, bl_of hx, bl_of hy, post_ok st rep_bl p⟩
end
end Iv

/-! ## IvD -/
/-! Iv, part D: built-in functions and methods, items, slices, targets. -/
namespace Iv
open PySem PySem.Spec PyProof.Rows L2
section
variable {S : Sta} {lk : List Addr} {H H1 : Hp} {io io1 : List Addr} {M : Mem} {W : WX} {σ : L2.St}
theorem Reps.one {d : D} {vs : List V} (h : Reps S lk H io [d] vs) : ∃ v, vs = [v] ∧ Rep S lk H io d v := by
  obtain ⟨v, r, rfl, h1, h2⟩ := h.inv
  rw [h2.inv0]
  exact ⟨v, rfl, h1⟩
theorem Reps.two {d e : D} {vs : List V} (h : Reps S lk H io [d, e] vs) : ∃ v u, vs = [v, u] ∧ Rep S lk H io d v ∧ Rep S lk H io e u := by
  obtain ⟨v, r, rfl, h1, h2⟩ := h.inv
  obtain ⟨u, rfl, h3⟩ := h2.one
  exact ⟨v, u, rfl, h1, h3⟩
/-- a call by values keeps what f says -/
def FedOf (S : Sta) (W : WX) (r : List V → Hp → VK → Prop) (f : List D → Mem → Res) : Prop :=
  ∀ lk σ H io M ds vs Q, Sto S lk H io M → Reps S lk H io ds vs → PostE S W lk σ H io (f ds M) Q → r vs H Q
/-- a method's call by values -/
def MedOf (S : Sta) (W : WX) (r : V → List V → Hp → VK → Prop) (f : D → List D → Mem → Res) : Prop :=
  ∀ lk σ H io M d v ds vs Q, Sto S lk H io M → Rep S lk H io d v → Reps S lk H io ds vs → PostE S W lk σ H io (f d ds M) Q → r v vs H Q

/-! ### isinstance -/
theorem kit_sub : ∀ a b : Ty, kitB a.nm b.nm = some (a.sub b) := by
  intro a b
  cases a <;> cases b <;> decide +kernel
theorem ty_rep (st : Sto S lk H io M) {d : D} {v : V} {t : Ty} (e : tyOf M d = some t) (h : Rep S lk H io d v) : TyX S.K H v (.type t.nm) := by
  cases d <;> simp only [tyOf] at e <;> try cases e
  · rw [non_of h]; exact .base .non
  · rw [bl_of h]; exact .base (.bl _)
  · rw [int_of h]; exact .base (.int _)
  · rw [str_of h]; exact .base (.str _)
  · unfold Rep at h
    obtain ⟨a, vs, rfl, h1, _⟩ := h
    rcases h1 with ⟨h1, _⟩ | h1
    · exact .base (.tup h1)
    · rcases h1 (fun _ => none) with h2 | ⟨o, its, n, e1, e2, _⟩
      · rcases h2 with h2 | ⟨o, h2⟩ <;> cases h2
      · exact .kTuple e1 e2
  · unfold Rep at h
    obtain ⟨a, vs, rfl, h1, _⟩ := h
    exact .base (.lst h1)
  · unfold Rep at h
    obtain ⟨a, kvs, rfl, h1, _⟩ := h
    exact .base (.dK h1)
  · rename_i i
    unfold Rep at h
    obtain ⟨a, ha, rfl⟩ := h
    split at e
    · rename_i ys hM
      cases e
      obtain ⟨vs, h1, _⟩ := st.pick hM ha
      exact .base (.lst h1)
    · cases e
theorem tys_of : ∀ {ds : List D} {vs : List V} {ts : List Ty}, tysOf ds = some ts → Reps S lk H io ds vs → vs = ts.map fun t => V.ty t.nm
  | [], vs, is, e, h => by
    simp only [tysOf] at e
    cases e
    exact h.inv0
  | x :: xs, vs, is, e, h => by
    obtain ⟨v, r, rfl, h1, h2⟩ := h.inv
    cases x <;> simp only [tysOf] at e <;> try cases e
    rename_i i
    split at e
    · rename_i js ej
      cases e
      rw [ty_of h1, tys_of ej h2]
      rfl
    · cases e
theorem kit_any {K : PySem.W.Frag} (u : Ty) : ∀ ts : List Ty, PySem.W.kitAny K (.type u.nm) (ts.map fun t => Value.type t.nm) = some (ts.any fun t => u.sub t)
  | [] => kitAny_nil
  | t :: ts => by
    have h := kit_ty (K := K) (kit_sub u t)
    rw [List.map_cons, List.any_cons]
    refine kitAny_cons h (fun e => ?_) fun e => ?_
    · rw [e, Bool.false_or]
      exact kit_any u ts
    · rw [e, Bool.true_or]
theorem cls_tys : ∀ ts : List Ty, Paired ClsV (ts.map fun t => V.ty t.nm) (ts.map fun t => Value.type t.nm)
  | [] => .nil
  | t :: ts => .cons (.ty _) (cls_tys ts)
theorem vals_tys : ∀ {ts : List Ty} {us : List Value}, Vals (ts.map fun t => V.ty t.nm) us → us = ts.map fun t => Value.type t.nm
  | [], us, h => by cases h; rfl
  | t :: ts, us, h => by
    cases h with
    | cons r q =>
      rw [vals_tys q, show _ = Value.type t.nm from r]
      rfl

theorem reps_intsD : ∀ ns : List Int, Reps S lk H io (ns.map D.int) (ns.map V.int)
  | [] => .nil
  | n :: ns => .cons rep_int (reps_intsD ns)
/-! ### built-in functions -/
def BF.nm : BF → Str
  | .str => "str"
  | .len => "len"
  | .tuple => "tuple"
  | .list _ => "list"
  | .int => "int"
  | .abs => "abs"
  | .sum => "sum"
  | .all => "all"
  | .any => "any"
  | .isi => "isinstance"
  | .repr => "repr"
  | .max => "max"
  | .min => "min"
  | .sorted _ => "sorted"
def BF.isTy : BF → Bool
  | .str => true
  | .tuple => true
  | .list _ => true
  | .int => true
  | _ => false
def BF.id : BF → String
  | .str => "str"
  | .len => "len"
  | .tuple => "tuple"
  | .list _ => "list"
  | .int => "int"
  | .abs => "abs"
  | .sum => "sum"
  | .all => "all"
  | .any => "any"
  | .isi => "isinstance"
  | .repr => "repr"
  | .max => "max"
  | .min => "min"
  | .sorted _ => "sorted"
def BF.val (f : BF) : Value := if f.isTy = true then .type f.id else .builtin f.id
theorem boot_bf (f : BF) : bootBuiltins f.nm = some f.val := by
  cases f with
  | list m => exact (by decide +kernel : bootBuiltins ("list" : Str) = some (Value.type "list"))
  | sorted m => exact (by decide +kernel : bootBuiltins ("sorted" : Str) = some (Value.builtin "sorted"))
  | _ => decide +kernel
theorem bf_name (f : BF) : f.nm ≠ "__name__" ∧ (f.nm == ("__debug__" : Str)) = false := by
  cases f with
  | list m => exact (by decide +kernel : ("list" : Str) ≠ "__name__" ∧ (("list" : Str) == ("__debug__" : Str)) = false)
  | sorted m => exact (by decide +kernel : ("sorted" : Str) ≠ "__name__" ∧ (("sorted" : Str) == ("__debug__" : Str)) = false)
  | _ => exact ⟨by decide +kernel, by decide +kernel⟩
variable {X : Cx}
theorem seqD_ref {d : D} {v : V} (c : isSeqD d = true) (h : Rep S lk H io d v) : ∃ a, v = V.ref a := by
  cases d <;> first | (cases c; done) | skip
  · unfold Rep at h
    obtain ⟨a, vs, h1, _⟩ := h
    exact ⟨a, h1⟩
  · unfold Rep at h
    obtain ⟨a, vs, h1, _⟩ := h
    exact ⟨a, h1⟩
  · unfold Rep at h
    obtain ⟨a, _, h1⟩ := h
    exact ⟨a, h1⟩
/-- repr of data -/
def rRep (K : PySem.W.Frag) : List V → Hp → VK → Prop := fun xs H Q => ∃ (a : Addr) (d : PyData), xs = [.ref a] ∧ Dp K H (.ref a) d ∧ d.showable = true ∧ d.hasDict = false ∧ d.depth ≤ 64 ∧ d.shown.length ≤ sizeLine ∧ Q (.str d.shown) H
theorem call_rep (hg : X.A.guards = some []) (hu : X.A.units + 66 < cLine) : CallR X (.builtin "repr") (rRep X.K) := by
  intro pins s σ H xs us Q I r h
  obtain ⟨a, d, rfl, hd, h1, h2, h3, h4, q⟩ := h
  obtain ⟨u, rfl, ru⟩ := vals1 r
  cases (show u = Value.ref a from ru)
  obtain ⟨as, rd⟩ := Dp.reads I d _ _ hd rfl
  exact repr_of_reads' rd h1 (PyData.noDict_hsm h2) hg (by omega) (fun _ _ e => e) (fun h' u tk hk => ⟨.str d.shown, H, I.kept hk, ⟨u, rfl⟩, q⟩) h4
/-- max, min of a tuple of ints -/
def rMaxT (K : PySem.W.Frag) (g : Int → Int → Int) : List V → Hp → VK → Prop := fun xs H Q => ∃ (a : Addr) (i : Int) (is : List Int), xs = [.ref a] ∧ SqT K H a ((i :: is).map V.int) ∧ Q (.int (is.foldl g i)) H
theorem rep_ints {H : Hp} {s : Shared} {pins : List (Addr × Obj)} {its : List Value} {ns : List Int} (r : Vals (ns.map V.int) its) : ∃ as, ReadsAll s.heap its (ns.map PyData.int) as := by
  obtain ⟨as, q⟩ := PySem.W.HoldAll.of_ints (h := s.heap) r.ints
  exact ⟨as, q⟩
theorem alike_ints (ns : List Int) : PySem.W.AlikeAll (ns.map PyData.int) := PySem.W.alikeAll_datum ns
theorem call_maxT (hc : X.calm = true) (hu : X.A.units + 66 < cLine) : CallR X (.builtin "max") (rMaxT X.K max) := by
  intro pins s σ H xs us Q I r h
  obtain ⟨a, i, is, rfl, hs, q⟩ := h
  obtain ⟨its, rv, p, _⟩ := I.tuple hs
  rw [Vals.ref1 r]
  obtain ⟨as, rd⟩ := rep_ints (s := s) (pins := pins) (H := H) rv
  refine PySem.W.max_tuple_data (xs := is.map PyData.int) (x := .int i) (I.ok.hd hc) p rd (alike_ints (i :: is)) ?_ fun j v h' tk bs _ rv' hk => ?_
  · have z : PyData.depthAll ((i :: is).map PyData.int) ≤ 0 := PySem.W.depthAll_map (α := Int) (i :: is)
    have z' : PyData.depthAll (PyData.int i :: is.map PyData.int) ≤ 0 := z
    omega
  · rw [PySem.W.maxD_ints] at rv'
    cases rv'
    exact ⟨.int _, H, I.kept hk, ⟨_, rfl⟩, q⟩
theorem call_minT (hc : X.calm = true) (hu : X.A.units + 66 < cLine) : CallR X (.builtin "min") (rMaxT X.K min) := by
  intro pins s σ H xs us Q I r h
  obtain ⟨a, i, is, rfl, hs, q⟩ := h
  obtain ⟨its, rv, p, _⟩ := I.tuple hs
  rw [Vals.ref1 r]
  obtain ⟨as, rd⟩ := rep_ints (s := s) (pins := pins) (H := H) rv
  refine PySem.W.min_tuple_data (xs := is.map PyData.int) (x := .int i) (I.ok.hd hc) p rd (alike_ints (i :: is)) ?_ fun j v h' tk bs _ rv' hk => ?_
  · have z : PyData.depthAll ((i :: is).map PyData.int) ≤ 0 := PySem.W.depthAll_map (α := Int) (i :: is)
    have z' : PyData.depthAll (PyData.int i :: is.map PyData.int) ≤ 0 := z
    omega
  · rw [PySem.W.minD_ints] at rv'
    cases rv'
    exact ⟨.int _, H, I.kept hk, ⟨_, rfl⟩, q⟩
theorem foldl_max_spec : ∀ (is : List Int) (i : Int), (is.foldl max i ∈ i :: is) ∧ ∀ y ∈ i :: is, y ≤ is.foldl max i
  | [], i => ⟨by simp, by simp⟩
  | j :: is, i => by
    obtain ⟨h1, h2⟩ := foldl_max_spec is (max i j)
    have h3 := h2 (max i j) (by simp)
    rw [List.foldl_cons]
    refine ⟨?_, fun y hy => ?_⟩
    · rcases List.mem_cons.mp h1 with z | z
      · rw [z]
        rcases (by omega : max i j = i ∨ max i j = j) with q | q <;> rw [q] <;> simp
      · simp [z]
    · rcases List.mem_cons.mp hy with z | z
      · omega
      · rcases List.mem_cons.mp z with z | z
        · omega
        · exact h2 y (List.mem_cons_of_mem _ z)
theorem foldl_min_spec : ∀ (is : List Int) (i : Int), (is.foldl min i ∈ i :: is) ∧ ∀ y ∈ i :: is, is.foldl min i ≤ y
  | [], i => ⟨by simp, by simp⟩
  | j :: is, i => by
    obtain ⟨h1, h2⟩ := foldl_min_spec is (min i j)
    have h3 := h2 (min i j) (by simp)
    rw [List.foldl_cons]
    refine ⟨?_, fun y hy => ?_⟩
    · rcases List.mem_cons.mp h1 with z | z
      · rw [z]
        rcases (by omega : min i j = i ∨ min i j = j) with q | q <;> rw [q] <;> simp
      · simp [z]
    · rcases List.mem_cons.mp hy with z | z
      · omega
      · rcases List.mem_cons.mp z with z | z
        · omega
        · exact h2 y (List.mem_cons_of_mem _ z)
theorem insS_perm (x : Int) : ∀ ys : List Int, (insS x ys).Perm (x :: ys)
  | [] => .refl _
  | y :: ys => by
    unfold insS
    split
    · exact .refl _
    · exact ((insS_perm x ys).cons y).trans (List.Perm.swap x y ys)
theorem isort_perm : ∀ xs : List Int, (isort xs).Perm xs
  | [] => .refl _
  | x :: xs => (insS_perm x _).trans ((isort_perm xs).cons x)
theorem insS_sorted (x : Int) : ∀ ys : List Int, ys.Pairwise (· ≤ ·) → (insS x ys).Pairwise (· ≤ ·)
  | [], _ => by simp [insS]
  | y :: ys, h => by
    rw [List.pairwise_cons] at h
    unfold insS
    split
    · rename_i c
      rw [List.pairwise_cons]
      refine ⟨fun z hz => ?_, List.pairwise_cons.mpr h⟩
      rcases List.mem_cons.mp hz with q | q
      · omega
      · exact Int.le_trans c (h.1 z q)
    · rename_i c
      rw [List.pairwise_cons]
      refine ⟨fun z hz => ?_, insS_sorted x ys h.2⟩
      rcases List.mem_cons.mp ((insS_perm x ys).mem_iff.mp hz) with q | q
      · omega
      · exact h.1 z q
theorem isort_sorted : ∀ xs : List Int, (isort xs).Pairwise (· ≤ ·)
  | [] => .nil
  | x :: xs => insS_sorted x _ (isort_sorted xs)
theorem sorted_same {a b : List Int} (p : a.Perm b) (ha : a.Pairwise (· ≤ ·)) (hb : b.Pairwise (· ≤ ·)) : a = b :=
  p.eq_of_pairwise (fun x y _ _ h1 h2 => Int.le_antisymm h1 h2) ha hb
theorem bfn_ok (hK : X.K = S.K) (hc : X.calm = true) (hu : X.A.units + 66 < cLine) (hg : X.A.guards = some []) (f : BF) : ∃ r, CallR X f.val r ∧ FedOf S W r (bfn f) := by
  cases f with
  | repr =>
    refine ⟨_, call_rep hg hu, ?_⟩
    intro lk σ H io M ds vs Q st hr p
    unfold bfn at p
    split at p <;> rename_i e1 <;> try (first | cases e1 | skip)
    · obtain ⟨v, rfl, h1⟩ := hr.one
      split at p
      · rename_i pd ed
        split at p
        · rename_i c
          unfold showB at c
          simp only [Bool.and_eq_true, Bool.not_eq_true', decide_eq_true_eq] at c
          obtain ⟨⟨⟨⟨⟨c1, c2⟩, c3⟩, c4⟩, c5⟩, c6⟩ := c
          have c7 := PyData.shown_le 12 (by decide) pd c5
          have hd := dat_rep st ed h1
          obtain ⟨a, rfl⟩ : ∃ a, v = V.ref a := by
            exact seqD_ref c1 h1
          exact ⟨a, pd, rfl, by rw [hK]; exact hd, c2, c3, c4, Nat.le_trans (Nat.le_trans c7 c6) lim_line, post_ok st rep_str p⟩
        · exact p.elim
      · exact p.elim
    all_goals exact p.elim
  | max =>
    refine ⟨_, (call_max2 (X := X) hc).or ((call_maxT hc hu).or (cr_max (X := X) hc)), ?_⟩
    intro lk σ H io M ds vs Q st hr p
    unfold bfn at p
    split at p <;> rename_i e1 <;> try (first | cases e1 | skip)
    · obtain ⟨v, u, rfl, h1, h2⟩ := hr.two
      rw [int_of h1, int_of h2]
      exact .inl ⟨_, _, rfl, post_ok st rep_int p⟩
    · obtain ⟨v, rfl, h1⟩ := hr.one
      split at p
      · rename_i xs e
        split at p
        · rename_i i is ei
          obtain ⟨t, a, us, rfl, h2, _, h3⟩ := seq_rep st e h1
          have e2 := ints_of ei h3
          rw [e2] at h2
          cases t with
          | true => exact .inr (.inl ⟨a, i, is, rfl, by rw [hK]; exact h2, post_ok st rep_int p⟩)
          | false =>
            refine .inr (.inr ⟨a, i :: is, rfl, by rw [hK]; exact h2, Nat.zero_lt_succ _, fun m hm hy => ?_⟩)
            obtain ⟨f1, f2⟩ := foldl_max_spec is i
            have : m = is.foldl Max.max i := Int.le_antisymm (f2 m hm) (hy _ f1)
            rw [this]
            exact post_ok st rep_int p
        · exact p.elim
      · exact p.elim
    all_goals exact p.elim
  | min =>
    refine ⟨_, (call_min2 (X := X) hc).or ((call_minT hc hu).or (cr_min (X := X) hc)), ?_⟩
    intro lk σ H io M ds vs Q st hr p
    unfold bfn at p
    split at p <;> rename_i e1 <;> try (first | cases e1 | skip)
    · obtain ⟨v, u, rfl, h1, h2⟩ := hr.two
      rw [int_of h1, int_of h2]
      exact .inl ⟨_, _, rfl, post_ok st rep_int p⟩
    · obtain ⟨v, rfl, h1⟩ := hr.one
      split at p
      · rename_i xs e
        split at p
        · rename_i i is ei
          obtain ⟨t, a, us, rfl, h2, _, h3⟩ := seq_rep st e h1
          have e2 := ints_of ei h3
          rw [e2] at h2
          cases t with
          | true => exact .inr (.inl ⟨a, i, is, rfl, by rw [hK]; exact h2, post_ok st rep_int p⟩)
          | false =>
            refine .inr (.inr ⟨a, i :: is, rfl, by rw [hK]; exact h2, Nat.zero_lt_succ _, fun m hm hy => ?_⟩)
            obtain ⟨f1, f2⟩ := foldl_min_spec is i
            have : m = is.foldl Min.min i := Int.le_antisymm (hy _ f1) (f2 m hm)
            rw [this]
            exact post_ok st rep_int p
        · exact p.elim
      · exact p.elim
    all_goals exact p.elim
  | sorted m =>
    refine ⟨_, cr_sortedI (X := X), ?_⟩
    intro lk σ H io M ds vs Q st hr p
    unfold bfn at p
    split at p <;> rename_i e1 <;> try (first | cases e1 | skip)
    · obtain ⟨v, rfl, h1⟩ := hr.one
      split at p
      · rename_i xs e
        split at p
        · rename_i is ei
          obtain ⟨a, us, rfl, h2, h3, h4⟩ := list_rep st e h1
          have e2 := ints_of ei h4
          rw [e2] at h2
          refine ⟨a, is, rfl, by rw [hK]; exact h2, fun ns' q hp hs hq => ?_⟩
          have e3 : ns' = isort is := sorted_same (hp.trans (isort_perm is).symm) hs (isort_sorted is)
          subst e3
          have hl : ((isort is).map V.int).length ≤ lim := by
            rw [List.length_map, (isort_perm is).length_eq]
            rw [e2, List.length_map] at h3
            exact h3
          exact post_mk st (reps_intsD _) hl p q hq
        · exact p.elim
      · exact p.elim
    all_goals exact p.elim
  | len =>
    refine ⟨_, (call_len_seq (X := X)).or call_len_str, ?_⟩
    intro lk σ H io M ds vs Q st hr p
    unfold bfn at p
    split at p <;> rename_i e1 <;> try (first | cases e1 | skip)
    · obtain ⟨v, rfl, h1⟩ := hr.one
      rw [str_of h1]
      split at p
      · rename_i hl
        exact .inr ⟨_, rfl, Nat.le_trans hl lim_line, post_ok st rep_int p⟩
      · exact p.elim
    · obtain ⟨v, rfl, h1⟩ := hr.one
      split at p
      · rename_i xs e
        obtain ⟨t, a, us, rfl, h2, _, h3⟩ := seq_rep st e h1
        refine .inl ⟨a, us, rfl, by rw [hK]; exact h2.or, ?_⟩
        rw [h3.length] at p
        exact post_ok st rep_int p
      · exact p.elim
    all_goals exact p.elim
  | tuple =>
    refine ⟨_, call_tuple_of (X := X), ?_⟩
    intro lk σ H io M ds vs Q st hr p
    unfold bfn at p
    split at p <;> rename_i e1 <;> try (first | cases e1 | skip)
    · obtain ⟨v, rfl, h1⟩ := hr.one
      obtain ⟨a, us, rfl, h2, h3, h4⟩ := tup_rep h1
      exact ⟨a, us, rfl, .inr ⟨by rw [hK]; exact h2, post_ok st h1 p⟩⟩
    · obtain ⟨v, rfl, h1⟩ := hr.one
      split at p
      · rename_i xs e
        obtain ⟨a, us, rfl, h2, h3, h4⟩ := list_rep st e h1
        exact ⟨a, us, rfl, .inl ⟨by rw [hK]; exact h2, post_tup st h4 h3 p⟩⟩
      · exact p.elim
    all_goals exact p.elim
  | list m =>
    refine ⟨_, call_list_of (X := X), ?_⟩
    intro lk σ H io M ds vs Q st hr p
    unfold bfn at p
    split at p <;> rename_i e1 <;> try (first | cases e1 | skip)
    · obtain ⟨v, rfl, h1⟩ := hr.one
      split at p
      · rename_i xs e
        obtain ⟨t, a, us, rfl, h2, h3, h4⟩ := seq_rep st e h1
        exact ⟨a, us, rfl, by rw [hK]; exact h2.or, post_mk st h4 h3 p⟩
      · exact p.elim
    all_goals exact p.elim
  | int =>
    refine ⟨_, (call_int1 (X := X)).or call_int_str, ?_⟩
    intro lk σ H io M ds vs Q st hr p
    unfold bfn at p
    split at p <;> rename_i e1 <;> try (first | cases e1 | skip)
    · obtain ⟨v, rfl, h1⟩ := hr.one
      rw [int_of h1]
      exact .inl (.inl ⟨_, rfl, post_ok st rep_int p⟩)
    · obtain ⟨v, rfl, h1⟩ := hr.one
      rw [bl_of h1]
      exact .inl (.inr ⟨_, rfl, post_ok st rep_int p⟩)
    · obtain ⟨v, rfl, h1⟩ := hr.one
      rw [str_of h1]
      split at p
      · rename_i n en
        split at p
        · rename_i hl
          exact .inr ⟨_, n, rfl, en, hl, post_ok st rep_int p⟩
        · exact p.elim
      · exact p.elim
    all_goals exact p.elim
  | str =>
    refine ⟨_, (call_str_int (X := X)).or SkE.call_str_str, ?_⟩
    intro lk σ H io M ds vs Q st hr p
    unfold bfn at p
    split at p <;> rename_i e1 <;> try (first | cases e1 | skip)
    · obtain ⟨v, rfl, h1⟩ := hr.one
      rw [int_of h1]
      split at p
      · rename_i hl
        refine .inl ⟨_, rfl, ?_, post_ok st rep_str p⟩
        by_cases h0 : Int.natAbs ‹Int› = 0
        · rw [h0]
          decide
        · exact Nat.lt_of_lt_of_le ((Nat.log2_lt h0).mpr hl) (by decide)
      · exact p.elim
    · obtain ⟨v, rfl, h1⟩ := hr.one
      rw [str_of h1]
      exact .inr ⟨_, rfl, post_ok st rep_str p⟩
    all_goals exact p.elim
  | abs =>
    refine ⟨_, call_abs (X := X), ?_⟩
    intro lk σ H io M ds vs Q st hr p
    unfold bfn at p
    split at p <;> rename_i e1 <;> try (first | cases e1 | skip)
    · obtain ⟨v, rfl, h1⟩ := hr.one
      rw [int_of h1]
      exact ⟨_, rfl, post_ok st rep_int p⟩
    all_goals exact p.elim
  | sum =>
    refine ⟨_, cr_sum (X := X) hc, ?_⟩
    intro lk σ H io M ds vs Q st hr p
    unfold bfn at p
    split at p <;> rename_i e1 <;> try (first | cases e1 | skip)
    · obtain ⟨v, rfl, h1⟩ := hr.one
      split at p
      · rename_i xs e
        split at p
        · rename_i is ei
          obtain ⟨a, us, rfl, h2, h3, h4⟩ := list_rep st e h1
          have e2 := ints_of ei h4
          rw [e2] at h2
          exact ⟨a, is, rfl, by rw [hK]; exact h2, post_ok st rep_int p⟩
        · exact p.elim
      · exact p.elim
    all_goals exact p.elim
  | all =>
    refine ⟨_, cr_all (X := X) hc, ?_⟩
    intro lk σ H io M ds vs Q st hr p
    unfold bfn at p
    split at p <;> rename_i e1 <;> try (first | cases e1 | skip)
    · obtain ⟨v, rfl, h1⟩ := hr.one
      split at p
      · rename_i xs e
        split at p
        · rename_i is ei
          obtain ⟨a, us, rfl, h2, h3, h4⟩ := list_rep st e h1
          have e2 := bls_of ei h4
          rw [e2] at h2
          exact ⟨a, is, rfl, by rw [hK]; exact h2, post_ok st rep_bl p⟩
        · exact p.elim
      · exact p.elim
    all_goals exact p.elim
  | any =>
    refine ⟨_, cr_any (X := X) hc, ?_⟩
    intro lk σ H io M ds vs Q st hr p
    unfold bfn at p
    split at p <;> rename_i e1 <;> try (first | cases e1 | skip)
    · obtain ⟨v, rfl, h1⟩ := hr.one
      split at p
      · rename_i xs e
        split at p
        · rename_i is ei
          obtain ⟨a, us, rfl, h2, h3, h4⟩ := list_rep st e h1
          have e2 := bls_of ei h4
          rw [e2] at h2
          exact ⟨a, is, rfl, by rw [hK]; exact h2, post_ok st rep_bl p⟩
        · exact p.elim
      · exact p.elim
    all_goals exact p.elim
  | isi =>
    refine ⟨_, (call_isi (X := X)).or (call_isiT.or call_isiK), ?_⟩
    intro lk σ H io M ds vs Q st hr p
    unfold bfn at p
    split at p <;> rename_i e1 <;> try (first | cases e1 | skip)
    · obtain ⟨v, u, rfl, h1, h2⟩ := hr.two
      rw [ty_of h2]
      split at p
      · rename_i t e
        exact .inl ⟨v, _, _, _, _, rfl, .ty _, by rw [hK]; exact ty_rep st e h1, kit_ty (kit_sub t _), post_ok st rep_bl p⟩
      · exact p.elim
    · obtain ⟨v, u, rfl, h1, h2⟩ := hr.two
      split at p
      · rename_i t cs e ec
        unfold Rep at h2
        obtain ⟨a, us, rfl, h3, h4, h5⟩ := h2
        have e2 := tys_of ec h5
        subst e2
        rcases h3 with ⟨h3, _⟩ | h3
        · exact .inr (.inl ⟨v, a, _, _, _, _, rfl, h3, cls_tys cs, by rw [hK]; exact ty_rep st e h1, kit_any t cs, post_ok st rep_bl p⟩)
        · rcases h3 (fun _ => none) with h6 | ⟨o, its, n, k1, k2, k3, k4, k5⟩
          · rcases h6 with h6 | ⟨o, h6⟩ <;> cases h6
          · obtain ⟨oc, od, dt, sl⟩ := o
            simp only at k2 k3
            subst k2 k3
            have e3 := vals_tys k5
            refine .inr (.inr ⟨v, a, od, cs.map fun t => Value.type t.nm, n, sl, _, _, rfl, ?_, by rw [hK]; exact ty_rep st e h1, kit_any t cs, post_ok st rep_bl p⟩)
            rw [hK, k1, ← e3]
      · exact p.elim
    all_goals exact p.elim

/-! ### methods of lists -/
def MF.nm : MF → Str
  | .append => "append"
  | .popAt => "pop"
  | .index => "index"
  | .insert => "insert"
  | .extend => "extend"
def MF.id : MF → String
  | .append => "list.append"
  | .popAt => "list.pop"
  | .index => "list.index"
  | .insert => "list.insert"
  | .extend => "list.extend"
theorem slot_mf (f : MF) : Slot "list" f.nm f.id := by
  cases f
  · exact PySem.F.slot_list_append
  · exact PySem.F.slot_list_pop
  · exact PySem.F.slot_list_index
  · exact PySem.F.slot_list_insert
  · exact PySem.F.slot_list_extend
theorem type_mf (f : MF) : typeOf (.builtin f.id) = pure (.type "method_descriptor") := by
  cases f
  · exact PySem.F.type_list_append
  · exact PySem.F.type_list_pop
  · exact PySem.F.type_list_index
  · exact PySem.F.type_list_insert
  · exact PySem.F.type_list_extend
theorem grs_erase {xs : List D} (k : Nat) (h : grs xs = true) : grs (xs.eraseIdx k) = true := grs_all.mpr fun x hx => grs_all.mp h x (List.mem_of_mem_eraseIdx hx)
theorem mfn_ok (hK : X.K = S.K) (f : MF) : ∃ r, MtR X f.id r ∧ MedOf S W r (mfn f) := by
  cases f with
  | append =>
    refine ⟨_, mt_append (X := X), ?_⟩
    intro lk σ H io M d v ds vs Q st hd hr p
    unfold mfn at p
    split at p <;> rename_i e1 <;> try (first | cases e1 | skip)
    · rename_i i x
      obtain ⟨u, rfl, h1⟩ := hr.one
      unfold Rep at hd
      obtain ⟨a, ha, rfl⟩ := hd
      split at p
      · rename_i xs hM
        split at p
        · rename_i c
          obtain ⟨ws, h2, h3, h4, h5⟩ := st.pick hM ha
          have el := h5.length
          have hg : grs (xs ++ [x]) = true := grs_append h4 (by unfold grs; rw [c.2]; rfl)
          have hl : (ws ++ [u]).length ≤ lim := by
            rw [List.length_append, List.length_singleton]
            omega
          refine ⟨a, ws, u, rfl, rfl, h2, lim_lt (by omega), ?_⟩
          exact p .non _ io (st.write ha (h5.append (.cons h1 .nil)) hl hg) (Ext.write (List.mem_of_getElem? ha)) rep_non
        · exact p.elim
      · exact p.elim
    all_goals exact p.elim
  | popAt =>
    refine ⟨_, mt_popAt (X := X), ?_⟩
    intro lk σ H io M d v ds vs Q st hd hr p
    unfold mfn at p
    split at p <;> rename_i e1 <;> try (first | cases e1 | skip)
    · rename_i i j
      obtain ⟨u, rfl, h1⟩ := hr.one
      rw [int_of h1]
      unfold Rep at hd
      obtain ⟨a, ha, rfl⟩ := hd
      split at p
      · rename_i xs hM
        split at p
        · rename_i hj
          split at p
          · rename_i x hx
            obtain ⟨ws, h2, h3, h4, h5⟩ := st.pick hM ha
            have el := h5.length
            have hlt := (List.getElem?_eq_some_iff.mp hx).1
            obtain ⟨w, hw, h6⟩ := h5.get hx
            have eN : ixN ws.length j = some j.toNat := by
              unfold ixN
              rw [if_pos hj, if_pos (by omega)]
            have hs := ixN_seq eN
            have hlim : (lim : Int) < 2 ^ 63 := by decide
            have hm := List.mem_of_getElem? ha
            have hl : (ws.eraseIdx j.toNat).length ≤ lim := Nat.le_trans (len_erase _ _) h3
            refine ⟨a, ws, j, j.toNat, w, rfl, rfl, h2, by omega, by omega, hs.1, hw, ?_⟩
            exact p w _ io (st.write ha (h5.erase _) hl (grs_erase _ h4)) (Ext.write hm) (Rep.mono (Ext.write hm) _ _ h6)
          · exact p.elim
        · exact p.elim
      · exact p.elim
    all_goals exact p.elim
  | insert =>
    refine ⟨_, mt_insert (X := X), ?_⟩
    intro lk σ H io M d v ds vs Q st hd hr p
    unfold mfn at p
    split at p <;> rename_i e1 <;> try (first | cases e1 | skip)
    · rename_i i j x
      obtain ⟨w, u, rfl, h0, h1⟩ := hr.two
      rw [int_of h0]
      unfold Rep at hd
      obtain ⟨a, ha, rfl⟩ := hd
      split at p
      · rename_i xs hM
        split at p
        · rename_i c
          obtain ⟨c1, c2, c3, c4⟩ := c
          obtain ⟨ws, h2, h3, h4, h5⟩ := st.pick hM ha
          have el := h5.length
          have hg : grs (xs.take j.toNat ++ [x] ++ xs.drop j.toNat) = true := grs_append (grs_append (grs_all.mpr fun y hy => grs_all.mp h4 y (List.mem_of_mem_take hy)) (by unfold grs; rw [c4]; rfl)) (grs_all.mpr fun y hy => grs_all.mp h4 y (List.mem_of_mem_drop hy))
          have hl : (ws.take j.toNat ++ [u] ++ ws.drop j.toNat).length ≤ lim := by
            rw [List.length_append, List.length_append, List.length_take, List.length_drop, List.length_singleton]
            omega
          refine ⟨a, ws, j, u, rfl, rfl, h2, lim_lt (by omega), c1, by omega, ?_⟩
          exact p .non _ io (st.write ha (((h5.take _).append (.cons h1 .nil)).append (h5.drop _)) hl hg) (Ext.write (List.mem_of_getElem? ha)) rep_non
        · exact p.elim
      · exact p.elim
    all_goals exact p.elim
  | extend =>
    refine ⟨_, mt_extend (X := X), ?_⟩
    intro lk σ H io M d v ds vs Q st hd hr p
    unfold mfn at p
    split at p <;> rename_i e1 <;> try (first | cases e1 | skip)
    · rename_i i x
      obtain ⟨u, rfl, h1⟩ := hr.one
      unfold Rep at hd
      obtain ⟨a, ha, rfl⟩ := hd
      split at p
      · rename_i xs ys hM ey
        split at p
        · rename_i c
          obtain ⟨ws, h2, h3, h4, h5⟩ := st.pick hM ha
          obtain ⟨b, us, rfl, k1, k2, k3⟩ := trk_rep st ey h1
          have el := h5.length
          have el2 := k3.length
          have hl : (ws ++ us).length ≤ lim := by
            rw [List.length_append]
            omega
          refine ⟨a, b, ws, us, rfl, rfl, h2, k1, Nat.le_trans (by rw [List.length_append] at hl; exact hl) lim_line, ?_⟩
          exact p .non _ io (st.write ha (h5.append k3) hl (grs_append h4 c.2)) (Ext.write (List.mem_of_getElem? ha)) rep_non
        · exact p.elim
      · exact p.elim
    all_goals exact p.elim
  | index =>
    refine ⟨_, mt_index (X := X), ?_⟩
    intro lk σ H io M d v ds vs Q st hd hr p
    unfold mfn at p
    split at p <;> rename_i e1 <;> try (first | cases e1 | skip)
    · obtain ⟨u, rfl, h1⟩ := hr.one
      split at p
      · rename_i xs e
        split at p
        · rename_i c
          split at p
          · rename_i k ek
            obtain ⟨a, ws, rfl, h2, _, h3⟩ := list_rep st e hd
            obtain ⟨i, z, e2, e3, e4, e5⟩ := first_of h1 c.1 h3 c.2 ek
            obtain ⟨f1, _⟩ := flats_of h1 c.1 h3 c.2
            have e6 : k = i := by omega
            subst e6
            exact ⟨a, ws, u, k, z, rfl, rfl, by rw [hK]; exact h2, (flat_of h1 c.1).1, f1, e3, e4, e5, post_ok st rep_int p⟩
          · exact p.elim
        · exact p.elim
      · exact p.elim
    all_goals exact p.elim

/-! ### methods of texts -/
def SF.nm : SF → Str
  | .join => "join"
  | .split _ => "split"
def SF.id : SF → String
  | .join => "str.join"
  | .split _ => "str.split"
theorem slot_sf (f : SF) : Slot "str" f.nm f.id := by
  cases f
  · exact PySem.F.slot_str_join
  · exact PySem.F.slot_str_split
theorem type_sf (f : SF) : typeOf (.builtin f.id) = pure (.type "method_descriptor") := by
  cases f
  · exact PySem.F.type_str_join
  · exact PySem.F.type_str_split
theorem strs_of : ∀ {xs : List D} {vs : List V} {ys : List Str}, strsOf xs = some ys → Reps S lk H io xs vs → vs = ys.map V.str
  | [], vs, ys, e, h => by
    simp only [strsOf] at e
    cases e
    exact h.inv0
  | x :: xs, vs, ys, e, h => by
    obtain ⟨v, r, rfl, h1, h2⟩ := h.inv
    cases x <;> simp only [strsOf] at e <;> try cases e
    rename_i i
    split at e
    · rename_i js ej
      cases e
      rw [str_of h1, strs_of ej h2]
      rfl
    · cases e
theorem reps_strs : ∀ ys : List Str, Reps S lk H io (ys.map D.str) (ys.map V.str)
  | [] => .nil
  | n :: ns => .cons rep_str (reps_strs ns)
theorem sfn_ok (hK : X.K = S.K) (f : SF) : ∃ r, MtR X f.id r ∧ MedOf S W r (sfn f) := by
  cases f with
  | join =>
    refine ⟨_, mt_join (X := X), ?_⟩
    intro lk σ H io M d v ds vs Q st hd hr p
    unfold sfn at p
    split at p <;> rename_i e1 <;> try (first | cases e1 | skip)
    · obtain ⟨u, rfl, h1⟩ := hr.one
      split at p
      · rename_i xs ex
        split at p
        · rename_i ys ey
          split at p
          · rename_i hl
            obtain ⟨t, a, ws, rfl, h2, _, h3⟩ := seq_rep st ex h1
            have e2 := strs_of ey h3
            subst e2
            exact ⟨_, a, ys, str_of hd, rfl, by rw [hK]; exact h2.or, Nat.le_trans hl (by decide), post_ok st rep_str p⟩
          · exact p.elim
        · exact p.elim
      · exact p.elim
    all_goals exact p.elim
  | split m =>
    refine ⟨_, mt_split (X := X), ?_⟩
    intro lk σ H io M d v ds vs Q st hd hr p
    unfold sfn at p
    split at p <;> rename_i e1 <;> try (first | cases e1 | skip)
    · obtain ⟨u, rfl, h1⟩ := hr.one
      split at p
      · rename_i hl
        refine ⟨_, _, str_of hd, by rw [str_of h1], hl.1, Nat.le_trans hl.2.1 lim_line, ?_⟩
        exact post_mk st (reps_strs _) (by rw [List.length_map]; exact hl.2.2) p
      · exact p.elim
    all_goals exact p.elim
/-! ### items and slices -/
theorem atI_rep {xs : List D} {vs : List V} {i : Int} {d : D} (h : Reps S lk H io xs vs) (e : atI xs i = some d) : ∃ v, atI vs i = some v ∧ Rep S lk H io d v := by
  unfold atI at e ⊢
  rw [← h.length]
  cases q : ixN xs.length i with
  | none =>
    rw [q] at e
    cases e
  | some j =>
    rw [q] at e
    exact h.get (i := j) e
def rIxDK : R2 := fun x y H Q => ∃ a v, x = .ref a ∧ DGet H a y (some v) ∧ Q v H
theorem ix_dK (hu : X.A.units + 1 < cLine) : IxR X rIxDK := by
  intro value slice pins s σ H x y v u Q I rx ry h hs
  obtain ⟨a, w, rfl, g, q⟩ := h
  obtain rfl : v = Value.ref a := rx
  exact tail_any (dict_typeIs I g) PySem.F.slot_dict_getitem.lookup (d_getItem hu I g ry fun w' s3 I3 rw' => ⟨w, H, I3, rw', q⟩) hs
theorem ixO_red {lk : List Addr} {σ : L2.St} {H : Hp} {io : List Addr} {M : Mem} {x y : D} {vx vy : V} {Q : VK} (st : Sto S lk H io M) (hx : Rep S lk H io x vx) (hy : Rep S lk H io y vy) (p : PostE S W lk σ H io (ixO x y M) Q) : rIxS vx vy H Q ∨ rIxDK vx vy H Q := by
  unfold ixO at p
  split at p
  · rename_i kvs kk e1 e2
    split at p
    · rename_i d ed
      obtain ⟨a, kws, rfl, h1, _, h2, h3⟩ := dk_rep st hx e1
      obtain ⟨v, g1, g2⟩ := getK_rep h2 h3 ed
      refine .inr ⟨a, v, rfl, .inl ⟨kws, kk, .inl h1, key_rep hy e2, g1.symm⟩, post_ok st g2 p⟩
    · exact p.elim
  · split at p
    · split at p
      · rename_i hl
        split at p
        · rename_i c ec
          exact .inl ⟨_, _, c, str_of hx, int_of hy, Nat.le_trans hl lim_line, ec, post_ok st rep_str p⟩
        · exact p.elim
      · exact p.elim
    · exact p.elim
theorem ix_red (hK : X.K = S.K) : RedOf S W (fun x y H Q => rIxL X.K x y H Q ∨ rIxT X.K x y H Q ∨ rIxS x y H Q ∨ rIxDK x y H Q) ixf := by
  intro lk σ H io M x y vx vy Q st hx hy p
  unfold ixf at p
  split at p
  · rename_i i
    split at p
    · rename_i xs e
      split at p
      · rename_i d ed
        obtain ⟨t, a, vs, rfl, h1, _, h2⟩ := seq_rep st e hx
        obtain ⟨v, h3, h4⟩ := atI_rep h2 ed
        cases t with
        | false => exact .inl ⟨a, vs, i, v, rfl, int_of hy, by rw [hK]; exact h1, h3, post_ok st h4 p⟩
        | true => exact .inr (.inl ⟨a, vs, i, v, rfl, int_of hy, by rw [hK]; exact h1, h3, post_ok st h4 p⟩)
      · exact p.elim
    · exact .inr (.inr (ixO_red st hx hy p))
  · exact .inr (.inr (ixO_red st hx hy p))
theorem cut_rep {xs : List D} {vs : List V} (h : Reps S lk H io xs vs) (lo hi : Option Int) : Reps S lk H io (cutD xs lo hi) (cutV vs lo hi) := by
  unfold cutD cutV
  rw [h.length]
  exact (h.drop _).take _
def rSlE (K : PySem.W.Frag) : V → Option Int → Option Int → Hp → VK → Prop := fun x lo hi H Q => rSlL K x lo hi H Q ∨ rSlA K x lo hi H Q ∨ C8.rSlX x lo hi H Q
theorem sl_all : SlR X (rSlE X.K) := sl_list.or (sl_tupA.or C8.sl_txt)
theorem pt_rep {d : D} {v : V} {o : Option Int} (e : ptOf d = some o) (h : Rep S lk H io d v) : (o = none ∧ v = .non) ∨ ∃ i, o = some i ∧ v = .int i := by
  cases d <;> simp only [ptOf] at e <;> try cases e
  · exact .inl ⟨rfl, non_of h⟩
  · exact .inr ⟨_, rfl, int_of h⟩
theorem sl_red (hK : X.K = S.K) {lk : List Addr} {σ : L2.St} {H : Hp} {io : List Addr} {M : Mem} {x y z : D} {vx : V} {lo hi : Option Int} {Q : VK} (st : Sto S lk H io M) (hx : Rep S lk H io x vx) (ey : ptOf y = some lo) (ez : ptOf z = some hi)
    (p : PostE S W lk σ H io (slf x y z M) Q) : rSlE X.K vx lo hi H Q := by
  unfold slf at p
  rw [ey, ez] at p
  simp only at p
  split at p
  · rename_i xs
    obtain ⟨a, vs, rfl, h1, h2, h3⟩ := tup_rep hx
    have hl : (cutV vs lo hi).length ≤ lim := Nat.le_trans (cutV_length _ _ _) h2
    refine .inr (.inl ⟨a, vs, rfl, by rw [hK]; exact h1, fun c => ?_, fun _ => post_tup st (cut_rep h3 _ _) hl p⟩)
    have e : cutD xs lo hi = xs := by
      unfold cutD
      rw [h3.length, c.1, c.2, List.drop_zero, Nat.sub_zero, ← h3.length, List.take_length]
    rw [e] at p
    exact post_ok st hx p
  · split at p
    · rename_i hl
      exact .inr (.inr ⟨_, str_of hx, Nat.le_trans hl lim_line, post_ok st rep_str p⟩)
    · exact p.elim
  · split at p
    · rename_i xs e
      obtain ⟨a, vs, rfl, h1, h2, h3⟩ := list_rep st e hx
      have hl : (cutV vs lo hi).length ≤ lim := Nat.le_trans (cutV_length _ _ _) h2
      exact .inl ⟨a, vs, rfl, by rw [hK]; exact h1, post_mk (m := false) st (cut_rep h3 _ _) hl p⟩
    · exact p.elim

/-! ### a constant tuple's index -/
theorem mt_tidx : MtR X "tuple.index" (fun x xs H Q => ∃ p ys y j z, x = V.ref p ∧ xs = [y] ∧ SqT X.K H p ys ∧ flatV y = true ∧ ys.all flatV = true ∧ ys[j]? = some z ∧ eqV z y = true ∧ (∀ m z', m < j → ys[m]? = some z' → eqV z' y = false) ∧ Q (.int (j : Nat)) H) := by
  intro pins s σ H x xs v us Q I rx rs h
  obtain ⟨p, ys, y, j, z, rfl, rfl, hq, fy, fys, hz, hzj, hno, q⟩ := h
  cases (show v = Value.ref p from rx)
  obtain ⟨uy, rfl, ry⟩ := vals1 rs
  obtain ⟨its, r, ⟨o, ho, hc, n, hd⟩, _⟩ := I.tuple hq
  obtain ⟨ocls, odd, odt, osl⟩ := o
  simp only at hc hd
  subst hc hd
  obtain ⟨u, hu, ru⟩ := r.get hz
  obtain ⟨hjl, hje⟩ := List.getElem?_eq_some_iff.mp hu
  have hj : j < its.toArray.size := by simpa using hjl
  have flat : ∀ (m : Nat) (z' : V), ys[m]? = some z' → flatV z' = true := fun m z' e => List.all_eq_true.mp fys z' (List.mem_of_getElem? e)
  have key : ∀ (m : Nat) (hm : m < its.toArray.size), ∃ z', ys[m]? = some z' ∧ eqU y its.toArray[m] = eqV z' y := by
    intro m hm
    have hm1 : m < its.length := by simpa using hm
    have hm2 : m < ys.length := by
      rw [r.length]
      exact hm1
    obtain ⟨w, hw, rw'⟩ := r.get (List.getElem?_eq_getElem hm2)
    obtain ⟨_, e2⟩ := List.getElem?_eq_some_iff.mp hw
    have e1 : its.toArray[m] = w := by simpa using e2
    exact ⟨ys[m], List.getElem?_eq_getElem hm2, by rw [e1, eqU_of rw' (flat m _ (List.getElem?_eq_getElem hm2))]⟩
  refine call_meets PySem.F.slot_tuple_index ⟨_, ho, rfl⟩ PySem.F.entry_tuple_index (PySem.F.args_tuple_index_2 _ _)
    (_root_.TI.tuple_indexAt p its.toArray n odd osl uy (eqU y) j hj ?_ ?_) ⟨ho, fun w hw => mem_eqAt ry fy r fys w (by simpa using hw), ⟨.int (j : Nat), H, I.tok _, ⟨_, rfl⟩, q⟩⟩
  · obtain ⟨z', e1, e2⟩ := key j hj
    rw [hz] at e1
    cases e1
    rw [e2]
    exact hzj
  · intro m hm hmj
    obtain ⟨z', e1, e2⟩ := key m hm
    rw [e2]
    exact hno m z' hmj e1
theorem cidx_red (hK : X.K = S.K) {t : D} {vt : V} (ht : ∀ lk H io, Rep S lk H io t vt) : FedOf S W (fun xs H Q => (∃ o p, vt = .ref p ∧ X.K.lookup p = some o ∧ o.cls = .type "tuple") ∧ ∃ p ys y j z, vt = V.ref p ∧ xs = [y] ∧ SqT X.K H p ys ∧ flatV y = true ∧ ys.all flatV = true ∧ ys[j]? = some z ∧ eqV z y = true ∧ (∀ m z', m < j → ys[m]? = some z' → eqV z' y = false) ∧ Q (.int (j : Nat)) H) (cidxf t) := by
  intro lk σ H io M ds vs Q st hr p
  unfold cidxf at p
  split at p
  · rename_i xs x
    obtain ⟨u, rfl, h1⟩ := hr.one
    split at p
    · rename_i c
      split at p
      · rename_i k ek
        have hT := ht lk H io
        obtain ⟨a, ws, rfl, h2, _, h3⟩ := tup_rep hT
        obtain ⟨i, z, e2, e3, e4, e5⟩ := first_of h1 c.1 h3 c.2 ek
        obtain ⟨f1, _⟩ := flats_of h1 c.1 h3 c.2
        have e6 : k = i := by omega
        subst e6
        refine ⟨?_, a, ws, u, k, z, rfl, rfl, by rw [hK]; exact h2, (flat_of h1 c.1).1, f1, e3, e4, e5, post_ok st rep_int p⟩
        have h0 := ht [] (fun _ => none) []
        unfold Rep at h0
        obtain ⟨b, us, eb, h4, _⟩ := h0
        cases eb
        rcases h4 with ⟨h4, _⟩ | h4
        · cases h4
        · rcases h4 (fun _ => none) with h6 | ⟨o, its, n, k1, k2, _⟩
          · rcases h6 with h6 | ⟨o, h6⟩ <;> cases h6
          · exact ⟨o, a, rfl, by rw [hK]; exact k1, k2⟩
      · exact p.elim
    · exact p.elim
  · exact p.elim
end
end Iv

/-! ## IvE -/
/-! Iv, part E: targets, the context of a def's body, calls. -/
namespace Iv
open PySem PySem.Spec PyProof.Rows L2

/-! ### the readings that the interpreter gives -/
def canE (S : Sta) (W : WX) (f : Rho → Mem → Res) : L2.TE := fun σ H Q => ∃ lk r M io, Sto S lk H io M ∧ Slots S lk H io σ r ∧ PostE S W lk σ H io (f r M) Q
def canA (S : Sta) (W : WX) (f : Rho → Mem → Res) : L2.TA := fun σ H Q => ∃ lk r M io, Sto S lk H io M ∧ Slots S lk H io σ r ∧ PostA S W lk σ H io (f r M) Q
def canT (S : Sta) (W : WX) (f : Rho → Mem → Res) : L2.TT := fun σ H Q => ∃ lk r M io, Sto S lk H io M ∧ Slots S lk H io σ r ∧ PostT S W lk σ H io (f r M) Q
theorem pe_can {X : Cx} {S : Sta} {W : WX} {e : Expr} {t : L2.TE} {f : Rho → Mem → Res} (h : PE X e t)
    (k : ∀ lk σ H r M io Q, Sto S lk H io M → Slots S lk H io σ r → PostE S W lk σ H io (f r M) Q → t σ H Q) : PE X e (canE S W f) :=
  ⟨fun pins s σ H Q I ⟨lk, r, M, io, a, b, c⟩ => h.run pins s σ H Q I (k lk σ H r M io Q a b c)⟩
theorem pa_can {X : Cx} {S : Sta} {W : WX} {e : List Expr} {t : L2.TA} {f : Rho → Mem → Res} (h : PA X e t)
    (k : ∀ lk σ H r M io Q, Sto S lk H io M → Slots S lk H io σ r → PostA S W lk σ H io (f r M) Q → t σ H Q) : PA X e (canA S W f) :=
  ⟨fun pos pins s σ H Q I ⟨lk, r, M, io, a, b, c⟩ => h.run pos pins s σ H Q I (k lk σ H r M io Q a b c)⟩
theorem pt_can {X : Cx} {S : Sta} {W : WX} {e : Expr} {t : L2.TT} {f : Rho → Mem → Res} (h : PT X e t)
    (k : ∀ lk σ H r M io Q, Sto S lk H io M → Slots S lk H io σ r → PostT S W lk σ H io (f r M) Q → t σ H Q) : PT X e (canT S W f) :=
  ⟨fun pins s σ H Q I ⟨lk, r, M, io, a, b, c⟩ => h.run pins s σ H Q I (k lk σ H r M io Q a b c)⟩
theorem pw_can {X : Cx} {S : Sta} {W : WX} {e : Expr} {t : L2.TT} {f : Rho → Mem → Res} (h : PW X e t)
    (k : ∀ lk σ H r M io Q, Sto S lk H io M → Slots S lk H io σ r → PostT S W lk σ H io (f r M) Q → t σ H Q) : PW X e (canT S W f) :=
  ⟨fun wh pins s σ H Q I ⟨lk, r, M, io, a, b, c⟩ => h.run wh pins s σ H Q I (k lk σ H r M io Q a b c)⟩
/-- not behind the end -/
def Src.within (s : Src) (k : Nat) : Prop := ∀ xs, s = .fix xs → k ≤ xs.length
/-- what a walk owes -/
def ItIs (S : Sta) (lk : List Addr) (H : Hp) (io : List Addr) (J : It) (s : Src) : Prop :=
  ∀ lk1 H1 io1 M1, (∀ a vs, H a = some (.lst vs) → a ∉ io → a ∉ lk → a ∉ lk1) → Sto S lk1 H1 io1 M1 → Ext H io H1 io1 → ∀ k, match s.at M1 k with
    | none => True
    | some none => s.within k → J.stop k H1
    | some (some d) => J.go k H1 ∧ ∀ x H2, J.yld k H1 x H2 → Sto S lk1 H2 io1 M1 ∧ Ext H1 io1 H2 io1 ∧ Rep S lk1 H2 io1 d x
def PostI (S : Sta) (W : WX) (lk : List Addr) (σ : L2.St) (H : Hp) (io : List Addr) (r : Res) (R : It → Hp → Prop) : Prop := match r with
  | .ok d M => ∃ s, srcOf d = some s ∧ ∀ J H1 io1, Sto S lk H1 io1 M → Ext H io H1 io1 → ItIs S lk H1 io1 J s → R J H1
  | .exn c fs M => ∀ cls dx H1 io1, Sto S lk H1 io1 M → Ext H io H1 io1 → RepX S lk H1 io1 c fs cls dx → W cls dx σ H1
  | .stuck => False
def canI (S : Sta) (W : WX) (f : Rho → Mem → Res) : TI := fun σ H R => ∃ lk r M io, Sto S lk H io M ∧ Slots S lk H io σ r ∧ PostI S W lk σ H io (f r M) R
theorem pi_can {X : Cx} {S : Sta} {W : WX} {tg e : Expr} {t : TI} {f : Rho → Mem → Res} (h : PI X tg e t)
    (k : ∀ lk σ H r M io R, Sto S lk H io M → Slots S lk H io σ r → PostI S W lk σ H io (f r M) R → t σ H R) : PI X tg e (canI S W f) :=
  ⟨fun pins s σ H R I ⟨lk, r, M, io, a, b, c⟩ => h.run pins s σ H R I (k lk σ H r M io R a b c)⟩

abbrev W0 : WX := fun _ _ _ _ => False
/-! ### targets -/
def visB (sc : Scope) (x : Str) : Bool := match sc.names.lookup x with
  | some .local => true
  | some .cell => true
  | some .free => true
  | _ => false
def glB (sc : Scope) (x : Str) : Bool := match sc.names.lookup x with
  | some .globalImplicit => true
  | _ => false
def locB (sc : Scope) (x : Str) : Bool := match sc.names.lookup x with
  | some .local => true
  | _ => false
def cellB (sc : Scope) (x : Str) : Bool := match sc.names.lookup x with
  | some .cell => true
  | _ => false
def dbgB (x : Str) : Bool := (x == ("__debug__" : Str)) || (x == ("__classdict__" : Str))
theorem vis_of {sc : Scope} {x : Str} (h : visB sc x = true) : Vis sc x := by
  unfold visB at h
  split at h <;> rename_i e
  · exact .inl e
  · exact .inr (.inl e)
  · exact .inr (.inr e)
  · cases h
theorem gl_of {sc : Scope} {x : Str} (h : glB sc x = true) : sc.names.lookup x = some .globalImplicit := by
  unfold glB at h
  split at h <;> rename_i e
  · exact e
  · cases h
theorem loc_of {sc : Scope} {x : Str} (h : locB sc x = true) : sc.names.lookup x = some .local := by
  unfold locB at h
  split at h <;> rename_i e
  · exact e
  · cases h
theorem cell_of {sc : Scope} {x : Str} (h : cellB sc x = true) : sc.names.lookup x = some .cell := by
  unfold cellB at h
  split at h <;> rename_i e
  · exact e
  · cases h
theorem dbg_of {x : Str} (h : dbgB x = false) : (x == ("__debug__" : Str)) = false ∧ (x == ("__classdict__" : Str)) = false := by
  unfold dbgB at h
  rwa [Bool.or_eq_false_iff] at h
def nst : Expr → Bool
  | .Starred .. => false
  | _ => true
theorem star_ok {e : Expr} {es : List Expr} {env : PySem.Env} (h : nst e = true) : starEach (e :: es) env = (false, eval e env) :: starEach es env := by
  cases e <;> first | rfl | cases h
theorem stars_ok {pos : Pos} {env : PySem.Env} : ∀ {es : List Expr}, es.all nst = true → (backTo pos (starEach es env)).any (·.1) = false
  | [], _ => rfl
  | e :: es, h => by
    rw [List.all_cons, Bool.and_eq_true] at h
    rw [star_ok h.1]
    have ih := stars_ok (pos := pos) (env := env) h.2
    show (false || (backTo pos (starEach es env)).any (·.1)) = false
    rw [ih]
    rfl
theorem each_ok {e : Expr} {es : List Expr} {env : PySem.Env} (h : nst e = true) : assignEach (e :: es) env = (false, assign e env) :: assignEach es env := by
  cases e <;> first | rfl | cases h
theorem eachs_ok {env : PySem.Env} : ∀ {es : List Expr}, es.all nst = true → (assignEach es env).length = es.length ∧ (assignEach es env).findIdx? (·.1) = none
  | [], _ => ⟨rfl, rfl⟩
  | e :: es, h => by
    rw [List.all_cons, Bool.and_eq_true] at h
    obtain ⟨i1, i2⟩ := eachs_ok (env := env) h.2
    rw [each_ok h.1]
    refine ⟨by rw [List.length_cons, List.length_cons, i1], ?_⟩
    rw [List.findIdx?_cons]
    simp [i2]
/-- a target, a list of targets, against what is written -/
def chkT (N : List Str) (fnB : Str → Bool) (sc : Scope) : CT → Bool → List Expr → Bool
  | .nm i, false, [.Name x _] => decide (N[i]? = some x) && (locB sc x || (cellB sc x && fnB x))
  | .tp l, false, [.Tuple es _ _] => es.all nst && chkT N fnB sc l true es
  | .nil, true, [] => true
  | .cons a l, true, e :: es => nst e && chkT N fnB sc a false [e] && chkT N fnB sc l true es
  | _, _, _ => false
def canG (S : Sta) (t : CT) : TG := fun v σ H Q => ∃ lk io r d r', Slots S lk H io σ r ∧ Rep S lk H io d v ∧ asg t d r = some r' ∧
  ∀ σ', Slots S lk H io σ' r' → σ'.length = σ.length → (∀ j, j ∉ t.ixs → σ'[j]? = σ[j]?) → Q σ' H
def canGs (S : Sta) (t : CT) : TGs := fun vs σ H Q => ∃ lk io r ds r', Slots S lk H io σ r ∧ Reps S lk H io ds vs ∧ asg t (.tup ds) r = some r' ∧
  ∀ σ', Slots S lk H io σ' r' → σ'.length = σ.length → (∀ j, j ∉ t.ixs → σ'[j]? = σ[j]?) → Q σ' H
theorem asg_list : ∀ {t : CT} {N : List Str} {fnB : Str → Bool} {sc : Scope} {es : List Expr} {ds : List D} {r r' : Rho}, chkT N fnB sc t true es = true → asg t (.tup ds) r = some r' → ds.length = es.length
  | .nm i, N, fnB, sc, es, ds, r, r', h, e => by simp [chkT] at h
  | .tp l, N, fnB, sc, es, ds, r, r', h, e => by simp [chkT] at h
  | .nil, N, fnB, sc, [], ds, r, r', h, e => by
    cases ds with
    | nil => rfl
    | cons d ds => simp [asg] at e
  | .nil, N, fnB, sc, e1 :: es, ds, r, r', h, e => by simp [chkT] at h
  | .cons a l, N, fnB, sc, [], ds, r, r', h, e => by simp [chkT] at h
  | .cons a l, N, fnB, sc, e1 :: es, ds, r, r', h, e => by
    simp only [chkT, Bool.and_eq_true] at h
    cases ds with
    | nil => simp [asg] at e
    | cons d ds =>
      simp only [asg] at e
      split at e
      · rw [List.length_cons, List.length_cons, asg_list h.2 e]
      · cases e
theorem sound_tgt {S : Sta} {X : Cx} {fnB : Str → Bool} (hK : X.K = S.K) (hc : X.calm = true) (nd : X.N.Nodup) (hf : ∀ x, fnB x = true → X.fn x = true) : ∀ (t : CT),
    (∀ e, chkT X.N fnB X.env.scope t false [e] = true → PG X e (canG S t)) ∧ (∀ es, chkT X.N fnB X.env.scope t true es = true → PGs X es (canGs S t))
  | .nm i => by
    refine ⟨fun e h => ?_, fun es h => by simp [chkT] at h⟩
    cases e <;> simp only [chkT, Bool.false_eq_true] at h
    rename_i x pos
    rw [Bool.and_eq_true, Bool.or_eq_true, Bool.and_eq_true] at h
    obtain ⟨h1, h2⟩ := h
    have hN := of_decide_eq_true h1
    have hx : Loc X.env.scope x := h2.elim (fun z => .inl (loc_of z)) fun z => .inr (cell_of z.1)
    have hfx : X.fn x = true ∨ X.env.scope.names.lookup x = some .local := h2.elim (fun z => .inr (loc_of z)) fun z => .inl (hf x z.2)
    refine ⟨fun pins s σ H v u Q I r hq => (pg_name (pos := pos) nd hN hx hfx).run pins s σ H v u Q I r ?_⟩
    obtain ⟨lk, io, rr, d, r', s1, h1, h2, h3⟩ := hq
    simp only [asg] at h2
    split at h2
    · cases h2
      exact h3 _ (s1.set h1) (by rw [List.length_set]) fun j hj => by
        rw [List.getElem?_set_ne]
        intro z
        exact hj (by rw [z]; simp [CT.ixs])
    · cases h2
  | .tp l => by
    obtain ⟨_, ih⟩ := sound_tgt hK hc nd hf l
    refine ⟨fun e h => ?_, fun es h => by simp [chkT] at h⟩
    cases e <;> simp only [chkT, Bool.false_eq_true] at h
    rename_i es k pos
    rw [Bool.and_eq_true] at h
    obtain ⟨i1, i2⟩ := eachs_ok (env := X.env) h.1
    refine ⟨fun pins s σ H v u Q I r hq => (pg_tup (k := k) (pos := pos) hc (ih es h.2) i1 i2).run pins s σ H v u Q I r ?_⟩
    obtain ⟨lk, io, rr, d, r', s1, h1, h2, h3⟩ := hq
    cases d <;> simp only [asg] at h2 <;> try cases h2
    rename_i xs
    obtain ⟨a, vs, rfl, k1, k2, k3⟩ := tup_rep h1
    exact ⟨a, vs, rfl, by rw [hK]; exact k1, by rw [← k3.length]; exact asg_list h.2 h2, lk, io, rr, xs, r', s1, k3, h2, h3⟩
  | .nil => by
    refine ⟨fun e h => by simp [chkT] at h, fun es h => ?_⟩
    cases es with
    | cons e es => simp [chkT] at h
    | nil =>
      refine ⟨fun pins s σ H vs us Q I r hq => pgs_nil.run pins s σ H vs us Q I r ?_⟩
      obtain ⟨lk, io, rr, ds, r', s1, h1, h2, h3⟩ := hq
      cases ds with
      | cons d ds => simp [asg] at h2
      | nil =>
        simp only [asg] at h2
        cases h2
        exact ⟨h1.inv0, h3 σ s1 rfl fun _ _ => rfl⟩
  | .cons a l => by
    obtain ⟨ih1, _⟩ := sound_tgt hK hc nd hf a
    obtain ⟨_, ih2⟩ := sound_tgt hK hc nd hf l
    refine ⟨fun e h => by simp [chkT] at h, fun es h => ?_⟩
    cases es with
    | nil => simp [chkT] at h
    | cons e es =>
      simp only [chkT, Bool.and_eq_true] at h
      refine ⟨fun pins s σ H vs us Q I r hq => (pgs_cons (ih1 e h.1.2) (ih2 es h.2) (by rw [each_ok h.1.1]; rfl)).run pins s σ H vs us Q I r ?_⟩
      obtain ⟨lk, io, rr, ds, r', s1, h1, h2, h3⟩ := hq
      cases ds with
      | nil => simp [asg] at h2
      | cons d ds =>
        simp only [asg] at h2
        split at h2
        · rename_i r1 e1
          obtain ⟨v, vr, rfl, k1, k2⟩ := h1.inv
          refine ⟨v, vr, rfl, lk, io, rr, d, r1, s1, k1, e1, fun σ' s2 hl hj => ?_⟩
          refine ⟨lk, io, r1, ds, r', s2, k2, h2, fun σ2 s3 hl2 hj2 => h3 σ2 s3 (hl2.trans hl) fun j hn => ?_⟩
          rw [hj2 j fun z => hn (by unfold CT.ixs; exact List.mem_append_right _ z), hj j fun z => hn (by unfold CT.ixs; exact List.mem_append_left _ z)]
        · cases h2

/-! ### defs, their promises -/
def PostC (S : Sta) (lk : List Addr) (H : Hp) (io : List Addr) (r : Res) (Q : VK) (E : XK) : Prop := match r with
  | .ok d M => ∀ v H1 io1, Sto S lk H1 io1 M → Ext H io H1 io1 → Rep S lk H1 io1 d v → Q v H1
  | .exn c fs M => ∀ cls dx H1 io1, Sto S lk H1 io1 M → Ext H io H1 io1 → RepX S lk H1 io1 c fs cls dx → E cls dx H1
  | .stuck => False
theorem postC_E {S : Sta} {W : WX} {lk : List Addr} {σ : L2.St} {H : Hp} {io : List Addr} {r : Res} {Q : VK} (h : PostE S W lk σ H io r Q) : PostC S lk H io r Q (WE W σ) := by
  cases r <;> exact h
/-- the promise of a def whose calls give cf -/
def spD (S : Sta) (cf : List D → Mem → Res) (n : Nat) : Sp := fun vs H Q E => ∃ lk io M ds, Sto S lk H io M ∧ Reps S lk H io ds vs ∧ ds.length = n ∧ PostC S lk H io (cf ds M) Q E
/-- a def keeps its promise, wherever nothing is being shown -/
structure FnG (gd : Bool) (P : Program) (w : World) (K : PySem.W.Frag) (mg : Str → Option Value) (base : Heap) (k : Nat) (f : Addr) (fd : FuncData) (ps : List Str) (sp : Sp) : Prop where
  len : ∀ vs H Q E, sp vs H Q E → vs.length = ps.length
  run : ∀ (A : Around) (outer : List PySem.Env) (s : Shared) (H : Hp) (args : Args) (us : List Value) (vs : List V) (Q : VK) (E : XK), Room k A → (gd = true → A.guards = some []) → Env0 P w K mg base A outer s H →
    BindsTo s fd args (ps.zip us) → Vals vs us → sp vs H Q E → codeAny (model P w) A (.call (.ref f) args) (CR (L2.CX P w) outer P w H s Q E) s
def FnAt (T : Tab) (S : Sta) (cf : Nat → List D → Mem → Res) (P : Program) (w : World) (K : PySem.W.Frag) (mg : Str → Option Value) (base : Heap) (k : Nat) (i : Nat) (d : GDef) : Prop :=
  ∃ f fd, S.fa i = some f ∧ (d.glob = true → mg d.name = some (.ref f)) ∧ PySem.W.keepIn K (.ref f) = true ∧ ((∀ us : List Value, us.length = d.ps.length → bindArgs fd ⟨us, []⟩ = pure (d.ps.zip us)) ∧ (∃ oc od osl, K.lookup f = some ⟨oc, od, .func fd, osl⟩) ∧ ∀ p ∈ d.kws, ∀ ws : List Value, ws.length = p.1.length → (permL p.2 ws).length = d.ps.length ∧ bindArgs fd ⟨[], p.1.zip ws⟩ = pure (d.ps.zip (permL p.2 ws))) ∧ FnG S.gd P w K mg base k f fd d.ps (spD S (cf i) d.ps.length)
/-- an exception's __init__: each parameter is stored under its name -/
def spInit (C : Addr) (flds : List Str) : Sp := fun vs H Q _ => ∃ a ws, vs = V.ref a :: ws ∧ ws.length = flds.length ∧ H a = some (exo a C none) ∧ ∀ dx, H dx = none → dx ≠ a → Q .non (upd (upd H dx (exd dx (flds.zip ws).reverse)) a (exo a C (some dx)))
def ClsAt (S : Sta) (P : Program) (w : World) (K : PySem.W.Frag) (mg : Str → Option Value) (base : Heap) (c : Nat) (p : Str × List Str) : Prop :=
  ∃ C fI fd, S.ca c = some C ∧ mg p.1 = some (.ref C) ∧ OexC K C ∧ PySem.W.findIn K (.ref C) "__init__" = some (some (.ref fI)) ∧ PySem.W.typeIn K (.ref fI) = some (.type "function") ∧ Binds K fd ("self" :: p.2) [] ∧ S.fl c = p.2.reverse ∧
    FnOk P w K mg base C8.CX0 1 fI fd ("self" :: p.2) (spInit C p.2)
/-- a class whose instances are made -/
def IClsAt (T : Tab) (S : Sta) (K : PySem.W.Frag) (mg : Str → Option Value) (c : Nat) (p : ICls) : Prop :=
  ∃ C, S.ia c = some C ∧ mg p.name = some (.ref C) ∧ Cls K C ∧ PySem.W.keepIn K (.ref C) = true ∧
    (PySem.W.findIn K (.ref C) "__class__" = some (some (.builtin "object.__class__")) ∧ PySem.W.specialIn K (.builtin "object.__class__") "__get__" = some (some (.builtin "getset_descriptor.__get__")) ∧
      PySem.W.takesIn K (.builtin "object.__class__") = some true ∧ PySem.W.mroIn K C (.type "object") = some true) ∧
    (p.init < T.defs.length → ∃ f, S.fa p.init = some f ∧ Mk K C f) ∧ (∀ q ∈ p.meths, ∃ f, S.fa q.2 = some f ∧ Meth K C q.1 f) ∧ (∀ f ∈ p.flds, NoAttr K C f) ∧
    (∀ c2 C2, c2 < T.icls.length → S.ia c2 = some C2 → PySem.W.kitOne K (.ref C) (.ref C2) = some (p.ups.contains c2)) ∧ ∀ t : Ty, PySem.W.kitOne K (.type t.nm) (.ref C) = some false
def bltNames : List Str := ["len", "tuple", "list", "int", "bool", "str", "dict", "abs", "sum", "all", "any", "isinstance", "range", "zip", "enumerate", "repr", "max", "min", "sorted", "set", "super"]
/-- the context of a body -/
structure Con (T : Tab) (S : Sta) (cf : Nat → List D → Mem → Res) (k : Nat) (X : Cx) (W : WX) : Prop where
  sk : X.K = S.K
  calm : X.calm = true
  nd : X.N.Nodup
  gu : X.A.guards = some []
  room : Room k X.A
  tk : Takes X W
  po : PassesOwn (model X.prog X.w) X.A X.env X.xe
  fns : ∀ (i : Nat) (d : GDef), T.defs[i]? = some d → FnAt T S cf X.prog X.w X.K X.mg X.base k i d
  cons : ∀ (j : Nat) (p : Str × D), T.cons[j]? = some p → ∃ v u, X.mg p.1 = some u ∧ RelV v u ∧ (∀ lk H io, Rep S lk H io p.2 v) ∧ ∀ a, v = .ref a → ∃ o, X.K.lookup a = some o ∧ o.cls = .type "tuple" ∧ o.dict = none
  blt : ∀ x ∈ bltNames, X.mg x = none
  k2 : 2 ≤ k
  cls : ∀ (c : Nat) (p : Str × List Str), T.clss[c]? = some p → ClsAt S X.prog X.w X.K X.mg X.base c p
  ar : ∀ (g : Nat) (d : GDef) (ds : List D) (M : Mem), T.defs[g]? = some d → ds.length ≠ d.ps.length → cf g ds M = .stuck
  icl : ∀ (c : Nat) (p : ICls), T.icls[c]? = some p → IClsAt T S X.K X.mg c p
  room1 : Room (k + 1) X.A
theorem ctx_blk {T : Tab} {S : Sta} {cf : Nat → List D → Mem → Res} {k : Nat} {X : Cx} {W : WX} (C : Con T S cf k X W) (s : Shared) (H : Hp) (scope : Scope) (cenv : PySem.Env) (fp : List Addr) :
    Con T S cf k (X.blk s H scope cenv fp) (fun _ _ _ _ => False) :=
  ⟨C.sk, C.calm, C.nd, C.gu, C.room, LamX.takes0, PassesOwn.never, C.fns, C.cons, C.blt, C.k2, C.cls, C.ar, C.icl, C.room1⟩
section
variable {gd : Bool} {X : Cx} {k : Nat} {f : Addr} {fd : FuncData} {ps : List Str} {sp : Sp} {W : WX} {x : Str} {p pos : Pos} {e : Expr} {es : List Expr} {t : L2.TA}
/-- the callee runs -/
theorem run_fg {pins : List (Addr × Obj)} {σ : L2.St} {H : Hp} {s : Shared} {Q : VK} {us : List Value} {vs : List V} (F : FnG gd X.prog X.w X.K X.mg X.base k f fd ps sp) (hr : Room k X.A) (hg : gd = true → X.A.guards = some []) (hb : Binds X.K fd ps []) (tk : Takes X W)
    (I : Inv X pins σ H s) (r : Vals vs us) (h : sp vs H Q (WE W σ)) : wpAny (model X.prog X.w) X.A (call (.ref f) us) (EP X pins σ Q) X.xe s := by
  have n1 := F.len _ _ _ _ h
  have n2 : us.length = ps.length := r.length.symm.trans n1
  have bd : BindsTo s fd ⟨us, []⟩ (ps.zip us) := by
    have z := hb s us I.kIn (by rw [List.append_nil]; exact n2)
    rwa [List.append_nil] at z
  have cd := F.run X.A X.stack s H ⟨us, []⟩ us vs Q (WE W σ) hr hg I.env0 bd r h
  refine wpAny_call (codeAny_mono cd ?_)
  intro res s' hq
  match res, hq with
  | .error ev, hq => exact passAt tk σ pins H s ev s' I hq
  | .ok (.ret u), hq => exact I.after hq
  | .ok .next, hq => exact hq.elim
  | .ok .brk, hq => exact hq.elim
  | .ok .cont, hq => exact hq.elim
/-- f(e, ..) by the name of a def -/
theorem pe_callG (F : FnG gd X.prog X.w X.K X.mg X.base k f fd ps sp) (hr : Room k X.A) (hgu : gd = true → X.A.guards = some []) (hg : Gl X x) (hm : X.mg x = some (.ref f)) (hk : PySem.W.keepIn X.K (.ref f) = true) (hb : Binds X.K fd ps []) (tk : Takes X W)
    (ha : PA X (e :: es) t) (hdb : (x == ("__debug__" : Str)) = false) (hn : nst e = true) (hns : es.all nst = true) :
    PE X (.Call (.Name x p) (e :: es) [] pos) (fun σ H Q => t σ H fun vs H1 => sp vs H1 Q (WE W σ)) := by
  constructor
  intro pins s σ H Q I h
  apply wpAny_Call_Name_kw
  apply ld_glob I hg hm _ hdb
  refine PySem.W.callWith_K (h₀ := X.base) I.ok.mod.kin hk (thn (ha.run pos pins s σ H _ I h) ?_) (star_ok hn) (stars_ok hns)
  intro us s1 hus
  obtain ⟨vs, H1, J, r, q⟩ := hus
  exact ⟨J.kIn, run_fg F hr hgu hb tk J r q⟩
/-- f() -/
theorem pe_callG0 (F : FnG gd X.prog X.w X.K X.mg X.base k f fd ps sp) (hr : Room k X.A) (hgu : gd = true → X.A.guards = some []) (hg : Gl X x) (hm : X.mg x = some (.ref f)) (hk : PySem.W.keepIn X.K (.ref f) = true) (hb : Binds X.K fd ps []) (tk : Takes X W)
    (hdb : (x == ("__debug__" : Str)) = false) : PE X (.Call (.Name x p) [] [] pos) (fun σ H Q => sp [] H Q (WE W σ)) := by
  constructor
  intro pins s σ H Q I h
  apply wpAny_Call_Name_kw
  apply ld_glob I hg hm _ hdb
  exact PySem.W.callWith_K0 I.kIn hk (run_fg (us := []) F hr hgu hb tk I .nil h)
/-- o.m(e, ..) -/
def tMethG (C : Addr) (m : Str) (sp : Sp) (W : WX) (ta : L2.TE) (t : L2.TA) : L2.TE := fun σ H Q => ta σ H fun x H1 => ∃ a dx fs, x = .ref a ∧ H1 a = some (.ins C dx fs) ∧ fs.lookup m = none ∧ t σ H1 fun vs H2 => sp (x :: vs) H2 Q (WE W σ)
theorem pe_methG {C : Addr} {o : Expr} {m : Str} {apos : Pos} {ta : L2.TE} {pl : Sem Bool} (he : PE X o ta) (c : Cls X.K C) (hm : Meth X.K C m f) (F : FnG gd X.prog X.w X.K X.mg X.base k f fd ps sp) (hr : Room k X.A) (hgu : gd = true → X.A.guards = some []) (hb : Binds X.K fd ps []) (tk : Takes X W) (ha : PA X (e :: es) t)
    (hn : nst e = true) (hns : es.all nst = true)
    (ht : eval (.Call (.Attribute o m apos) (e :: es) [] pos) X.env = (do
      let ov ← eval o X.env
      standAt apos.atName
      let (f, first) ← holding [ov] (getMethod ov m pl)
      callWith pos f first (backTo pos (starEach (e :: es) X.env)) (backToKw pos (keywordEach [] X.env))) := by rfl) :
    PE X (.Call (.Attribute o m apos) (e :: es) [] pos) (tMethG C m sp W ta t) := by
  refine ⟨fun pins s σ H Q I h => ?_⟩
  refine PySem.W.methodCall_KW (pl := pl) (thn (he.run pins s σ H _ I h) fun u s1 ⟨x, H1, I1, rx, a, dx, fs, ex, ea, l, q⟩ => ?_) ht
  subst ex
  obtain rfl : u = Value.ref a := rx
  refine getmeth_ok I1 ea c hm l ?_
  refine PySem.W.callWith_K (first := [.ref a]) (h₀ := X.base) I.ok.mod.kin hm.kp (thn (ha.run pos pins s1 σ H1 _ I1 q) fun us s2 ⟨vs, H2, I2, r, q2⟩ => ⟨I2.kIn, ?_⟩) (star_ok hn) (stars_ok hns)
  exact run_fg (us := .ref a :: us) (vs := .ref a :: vs) F hr hgu hb tk I2 (.cons rfl r) q2
theorem pe_methG0 {C : Addr} {o : Expr} {m : Str} {apos : Pos} {ta : L2.TE} {pl : Sem Bool} (he : PE X o ta) (c : Cls X.K C) (hm : Meth X.K C m f) (F : FnG gd X.prog X.w X.K X.mg X.base k f fd ps sp) (hr : Room k X.A) (hgu : gd = true → X.A.guards = some []) (hb : Binds X.K fd ps []) (tk : Takes X W)
    (ht : eval (.Call (.Attribute o m apos) [] [] pos) X.env = (do
      let ov ← eval o X.env
      standAt apos.atName
      let (f, first) ← holding [ov] (getMethod ov m pl)
      callWith pos f first (backTo pos (starEach [] X.env)) (backToKw pos (keywordEach [] X.env))) := by rfl) :
    PE X (.Call (.Attribute o m apos) [] [] pos) (tMethG C m sp W ta tNil) := by
  refine ⟨fun pins s σ H Q I h => ?_⟩
  refine PySem.W.methodCall_KW (pl := pl) (thn (he.run pins s σ H _ I h) fun u s1 ⟨x, H1, I1, rx, a, dx, fs, ex, ea, l, q⟩ => ?_) ht
  subst ex
  obtain rfl : u = Value.ref a := rx
  refine getmeth_ok I1 ea c hm l ?_
  exact PySem.W.callWith_K0 (first := [.ref a]) I1.kIn hm.kp (run_fg (us := [.ref a]) (vs := [.ref a]) F hr hgu hb tk I1 (.cons rfl .nil) q)
/-- C(e, ..) -/
theorem make_guards {A : Around} {C : Addr} {us : List Value} {kw : List (Str × Value)} : (A.under (.builtin "type.__call__" ⟨.ref C :: us, kw⟩)).guards = A.guards := by
  first | rfl | simp [Around.under, Code.isGuard, guardIds]
theorem run_makeG {C : Addr} {pins : List (Addr × Obj)} {σ : L2.St} {H : Hp} {s : Shared} {Q : VK} {us : List Value} {vs : List V} (M : Mk X.K C f) (F : FnG gd X.prog X.w X.K X.mg X.base k f fd ps sp) (hr : Room (k + 1) X.A) (hgu : gd = true → X.A.guards = some []) (hb : Binds X.K fd ps []) (tk : Takes X W)
    (I : Inv X pins σ H s) (r : Vals vs us)
    (h : ∀ x dx, H x = none → H dx = none → dx ≠ x → sp (.ref x :: vs) (upd (upd H dx (.own x)) x (.ins C dx [])) (fun v H2 => v = .non ∧ Q (.ref x) H2) (WE W σ)) :
    wpAny (model X.prog X.w) X.A (call (.ref C) us) (EP X pins σ Q) X.xe s := by
  have hq := h (s.heap.objs.size + 1) s.heap.objs.size (I.hok.fresh (Nat.le_succ _)) (I.hok.fresh (Nat.le_refl _)) (Nat.ne_of_lt (Nat.lt_succ_self _))
  have I2 := Inv.made (C := C) I
  have r2 : Vals (V.ref (s.heap.objs.size + 1) :: vs) (Value.ref (s.heap.objs.size + 1) :: us) := .cons rfl r
  have hl : (Value.ref (s.heap.objs.size + 1) :: us).length = ps.length := by
    have e := r2.length
    rw [F.len _ _ _ _ hq] at e
    exact e.symm
  have bd : BindsTo { s with heap := (s.heap.push PySem.W.emptyDict).push (PySem.W.instObj C s.heap.objs.size) } fd ⟨Value.ref (s.heap.objs.size + 1) :: us, []⟩ (ps.zip (Value.ref (s.heap.objs.size + 1) :: us)) := by
    have z := hb _ (Value.ref (s.heap.objs.size + 1) :: us) I2.kIn (by rw [List.append_nil]; exact hl)
    rwa [List.append_nil] at z
  refine wpAny_call (make_map (f := f) I.kIn M.makes M.init (beq_iff_eq.mp M.fn) (codeAny_mono (F.run _ X.stack _ _ ⟨Value.ref (s.heap.objs.size + 1) :: us, []⟩ (Value.ref (s.heap.objs.size + 1) :: us) _ _ (WE W σ) (hr.make C us []) (fun z => by rw [make_guards]; exact hgu z)
    (I2.env0.make C us []) bd r2 hq) fun r s' hq' => ?_))
  cases r with
  | error e => exact passAt tk σ pins _ _ e s' I2 hq'
  | ok fl =>
    cases fl with
    | ret u =>
      obtain ⟨v, H', I3, rv, ev, q3⟩ := I2.after hq'
      subst ev
      exact ⟨rv, ⟨V.ref (s.heap.objs.size + 1), H', I3, rfl, q3⟩⟩
    | next => exact False.elim hq'
    | brk => exact False.elim hq'
    | cont => exact False.elim hq'
def tMakeG (C : Addr) (sp : Sp) (W : WX) (t : L2.TA) : L2.TE := fun σ H Q => t σ H fun vs H1 => ∀ x dx, H1 x = none → H1 dx = none → dx ≠ x → sp (.ref x :: vs) (upd (upd H1 dx (.own x)) x (.ins C dx [])) (fun v H2 => v = .non ∧ Q (.ref x) H2) (WE W σ)
theorem pe_makeG {C : Addr} (M : Mk X.K C f) (F : FnG gd X.prog X.w X.K X.mg X.base k f fd ps sp) (hr : Room (k + 1) X.A) (hgu : gd = true → X.A.guards = some []) (hg : Gl X x) (hm : X.mg x = some (.ref C)) (hb : Binds X.K fd ps []) (tk : Takes X W)
    (ha : PA X (e :: es) t) (hdb : (x == ("__debug__" : Str)) = false) (hn : nst e = true) (hns : es.all nst = true) :
    PE X (.Call (.Name x p) (e :: es) [] pos) (tMakeG C sp W t) := by
  refine ⟨fun pins s σ H Q I h => ?_⟩
  refine wpAny_Call_Name_kw (ld_glob I hg hm ?_ hdb)
  refine PySem.W.callWith_K (h₀ := X.base) I.ok.mod.kin M.kp (thn (ha.run pos pins s σ H _ I h) fun us s1 ⟨vs, H1, I1, r, q⟩ => ⟨I1.kIn, ?_⟩) (star_ok hn) (stars_ok hns)
  exact run_makeG M F hr hgu hb tk I1 r q
theorem pe_makeG0 {C : Addr} (M : Mk X.K C f) (F : FnG gd X.prog X.w X.K X.mg X.base k f fd ps sp) (hr : Room (k + 1) X.A) (hgu : gd = true → X.A.guards = some []) (hg : Gl X x) (hm : X.mg x = some (.ref C)) (hb : Binds X.K fd ps []) (tk : Takes X W)
    (hdb : (x == ("__debug__" : Str)) = false) : PE X (.Call (.Name x p) [] [] pos) (tMakeG C sp W tNil) := by
  refine ⟨fun pins s σ H Q I h => ?_⟩
  refine wpAny_Call_Name_kw (ld_glob I hg hm ?_ hdb)
  exact PySem.W.callWith_K0 I.kIn M.kp (run_makeG (us := []) M F hr hgu hb tk I .nil h)
theorem vals_perm {vs : List V} {us : List Value} (r : Vals vs us) : ∀ p : List Nat, Vals (permL p vs) (permL p us)
  | [] => .nil
  | i :: p => by
    unfold permL
    rw [List.filterMap_cons, List.filterMap_cons]
    have ih := vals_perm r p
    cases e : vs[i]? with
    | none =>
      have e2 : us[i]? = none := by
        rw [List.getElem?_eq_none_iff] at e ⊢
        rw [← r.length]
        exact e
      rw [e2]
      exact ih
    | some v =>
      obtain ⟨u, e2, ru⟩ := r.get e
      rw [e2]
      exact .cons ru ih
/-- f(k = e, ..) by the name of a def -/
theorem pe_callGK {kws : List Keyword} {pm : List Str × List Nat} {tk : L2.TA} (F : FnG gd X.prog X.w X.K X.mg X.base k f fd ps sp) (hr : Room k X.A) (hgu : gd = true → X.A.guards = some []) (hg : Gl X x) (hm : X.mg x = some (.ref f)) (hk : PySem.W.keepIn X.K (.ref f) = true)
    (hb : ∀ ws : List Value, ws.length = pm.1.length → (permL pm.2 ws).length = ps.length ∧ bindArgs fd ⟨[], pm.1.zip ws⟩ = pure (ps.zip (permL pm.2 ws))) (tk0 : Takes X W) (ha : PK X kws tk) (hdb : (x == ("__debug__" : Str)) = false) (hks : kws.map (·.arg) = pm.1.map some) :
    PE X (.Call (.Name x p) [] kws pos) (fun σ H Q => tk σ H fun vs H1 => vs.length = pm.1.length ∧ sp (permL pm.2 vs) H1 Q (WE W σ)) := by
  have names : ∀ (l : List Keyword) (n : List Str), l.map (·.arg) = n.map some → (backToKw pos (keywordEach l X.env)).all (·.1.isSome) = true ∧ (backToKw pos (keywordEach l X.env)).filterMap (·.1) = n ∧ (backToKw pos (keywordEach l X.env)).any (·.1.isNone) = false := by
    intro l
    induction l with
    | nil =>
      intro n h
      cases n with
      | nil => exact ⟨rfl, rfl, rfl⟩
      | cons y n => cases h
    | cons y l ih =>
      intro n h
      cases n with
      | nil => cases h
      | cons z n =>
        obtain ⟨yn, ye, yp⟩ := y
        simp only [List.map_cons, List.cons.injEq] at h
        obtain ⟨h1, h2⟩ := h
        subst h1
        obtain ⟨i1, i2, i3⟩ := ih n h2
        refine ⟨?_, ?_, ?_⟩
        · show (true && (backToKw pos (keywordEach l X.env)).all (·.1.isSome)) = true
          rw [i1]
          rfl
        · show z :: (backToKw pos (keywordEach l X.env)).filterMap (·.1) = z :: n
          rw [i2]
        · show (false || (backToKw pos (keywordEach l X.env)).any (·.1.isNone)) = false
          rw [i3]
          rfl
  obtain ⟨n1, n2, n3⟩ := names kws pm.1 hks
  constructor
  intro pins s σ H Q I h
  apply wpAny_Call_Name_kw
  apply ld_glob I hg hm _ hdb
  refine PySem.W.callWith_KW0 (h₀ := X.base) I.ok.mod.kin hk n1 (thn (ha.run pos pins s σ H _ I h) ?_) (by show (false || _) = false; rw [n3]; rfl)
  intro ws s1 hus
  obtain ⟨vs, H1, J, r, hl, q⟩ := hus
  refine ⟨J.kIn, ?_⟩
  rw [n2]
  have hl2 : ws.length = pm.1.length := by rw [← r.length]; exact hl
  obtain ⟨b1, b2⟩ := hb ws hl2
  have cd := F.run X.A X.stack s1 H1 ⟨[], pm.1.zip ws⟩ (permL pm.2 ws) (permL pm.2 vs) Q (WE W σ) hr hgu J.env0 (.of_eq b2) (vals_perm r _) q
  refine wpAny_call (codeAny_mono cd ?_)
  intro res s' hq
  match res, hq with
  | .error ev, hq => exact passAt tk0 σ pins H1 s1 ev s' J hq
  | .ok (.ret u), hq => exact J.after hq
  | .ok .next, hq => exact hq.elim
  | .ok .brk, hq => exact hq.elim
  | .ok .cont, hq => exact hq.elim
/-- a local name that holds a def, called -/
theorem pe_callV {i : Nat} {sps : Addr → Sp → Prop} (G : ∀ f sp, sps f sp → ∃ fd ps, FnG gd X.prog X.w X.K X.mg X.base k f fd ps sp ∧ PySem.W.keepIn X.K (.ref f) = true ∧ Binds X.K fd ps []) (hr : Room k X.A) (hgu : gd = true → X.A.guards = some []) (hN : X.N[i]? = some x) (hv : Vis X.env.scope x) (tk : Takes X W)
    (ha : PA X (e :: es) t) (hdb : (x == ("__debug__" : Str)) = false) (hcd : (x == ("__classdict__" : Str)) = false) (hn : nst e = true) (hns : es.all nst = true) :
    PE X (.Call (.Name x p) (e :: es) [] pos) (fun σ H Q => ∃ f sp, σ[i]? = some (some (.ref f)) ∧ sps f sp ∧ t σ H fun vs H1 => sp vs H1 Q (WE W σ)) := by
  constructor
  intro pins s σ H Q I h
  obtain ⟨f, sp, hs, hsp, ht⟩ := h
  obtain ⟨fd, ps, F, hk, hb⟩ := G f sp hsp
  have nm := (pe_var (pos := p) hN hv hdb hcd).run pins s σ H (fun v H1 => v = .ref f ∧ H1 = H) I ⟨.ref f, hs, rfl, rfl⟩
  refine wpAny_Call_Name_kw (thn nm ?_)
  intro u s1 hu
  obtain ⟨v, H1, J, r1, ev, eH⟩ := hu
  subst ev eH
  cases (show u = Value.ref f from r1)
  refine PySem.W.callWith_K (h₀ := X.base) J.ok.mod.kin hk (thn (ha.run pos pins s1 σ H1 _ J ht) ?_) (star_ok hn) (stars_ok hns)
  intro us s2 hus
  obtain ⟨vs, H2, J2, r, q⟩ := hus
  exact ⟨J2.kIn, run_fg F hr hgu hb tk J2 r q⟩
end
end Iv

/-! ## IvF -/
/-! Iv, part F: what is written, held against expressions of the interpreter; it gives what they give. -/
namespace Iv
open PySem PySem.Spec PyProof.Rows L2

/-- what is written: an expression, a list of such, a target and what is walked -/
inductive Syn where
  | e (x : Expr)
  | es (xs : List Expr)
  | it (tg x : Expr)
def notSet : Expr → Bool
  | .Set .. => false
  | _ => true
def notSlice : Expr → Bool
  | .Slice .. => false
  | _ => true
def notCall : Expr → Bool
  | .Call (.Name _ _) (_ :: _) _ _ => true
  | .Call .. => false
  | _ => true
/-- a test that is asked by its value's truth -/
def plainT : Expr → Bool
  | .UnaryOp .. => false
  | .BoolOp .. => false
  | .IfExp .. => false
  | .Compare .. => false
  | _ => true
def gnB (x y : Str) (sc : Scope) : Bool := decide (x = y) && glB sc x && !dbgB x
def ownP (N : List Str) (own : List Nat) : List (Str × Nat) := own.filterMap fun i => match N[i]? with
  | some x => some (x, i)
  | none => none
def isTup : Expr → Bool
  | .Tuple .. => true
  | _ => false

/-- may it stand as a test -/
def tst : CE → Bool
  | .ite _ _ _ => false
  | .neg _ => false
  | .not a => tst a
  | .and as => tst as
  | .or as => tst as
  | .cons a r => tst a && (r.isNil || tst r)
  | _ => true

/-- no lambda within -/
def noH : CE → Bool
  | .heard _ => false
  | .bin _ a b => noH a && noH b
  | .rep _ a b => noH a && noH b
  | .neg a => noH a
  | .not a => noH a
  | .and a => noH a
  | .or a => noH a
  | .cmp _ a b => noH a && noH b
  | .ite t a b => noH t && noH a && noH b
  | .call _ a => noH a
  | .callv _ a => noH a
  | .callk _ _ a => noH a
  | .bc _ a => noH a
  | .bm _ o a => noH o && noH a
  | .cidx _ a => noH a
  | .ix a b => noH a && noH b
  | .sl a b c => noH a && noH b && noH c
  | .tup a => noH a
  | .lst _ a => noH a
  | .lrange _ a => noH a
  | .lzip _ a b => noH a && noH b
  | .lc _ _ _ it ts e => noH it && noH ts && noH e
  | .itv a => noH a
  | .itr a => noH a
  | .ite2 a => noH a
  | .itz a b => noH a && noH b
  | .itzs a => noH a
  | .make _ _ a => noH a
  | .meth _ _ o a => noH o && noH a
  | .fld _ o => noH o
  | .isiO o _ => noH o
  | .sm _ o a => noH o && noH a
  | .chain _ _ a b c => noH a && noH b && noH c
  | .lsts _ a => noH a
  | .scons a b => noH a && noH b
  | .cons a b => noH a && noH b
  | _ => true
def noArgs : Arguments → Bool
  | ⟨[], [], none, [], [], none, []⟩ => true
  | _ => false
/-- a bound of a slice: left out, or an expression -/
def ptC (l : Option Expr) (c : CE) (b : Expr → Bool) : Bool := match l with
  | none => c.isNon
  | some e => !c.isNon && b e
/-- is it what is written -/
def chk (N : List Str) (T : Tab) : Md → CE → Scope → Syn → Bool
  | .v, .non => fun sc s => match s with
    | .e (.Constant .none _ _) => true
    | _ => false
  | .v, .bl b => fun sc s => match s with
    | .e (.Constant (.bool b') _ _) => b == b'
    | _ => false
  | .v, .int i => fun sc s => match s with
    | .e (.Constant (.int j) _ _) => decide (i = j)
    | _ => false
  | .v, .str x => fun sc s => match s with
    | .e (.Constant (.str y) _ _) => decide (x = y)
    | _ => false
  | .v, .var i => fun sc s => match s with
    | .e (.Name x _) => decide (N[i]? = some x) && visB sc x && !dbgB x
    | _ => false
  | .v, .con j => fun sc s => match s with
    | .e (.Name x _) => match T.cons[j]? with
      | some p => gnB x p.1 sc
      | none => false
    | _ => false
  | .v, .fnv i => fun sc s => match s with
    | .e (.Name x _) => match T.defs[i]? with
      | some d => d.glob && gnB x d.name sc
      | none => false
    | _ => false
  | .v, .tyv t => fun sc s => match s with
    | .e (.Name x _) => gnB x t.nm sc && !decide (t = .none)
    | _ => false
  | .v, .bin o a b => fun sc s => match s with
    | .e (.BinOp x op y _) => opIs o op && chk N T .v a sc (.e x) && chk N T .v b sc (.e y)
    | _ => false
  | .v, .rep m a b => fun sc s => match s with
    | .e (.BinOp x .Mult y _) => chk N T .v a sc (.e x) && chk N T .v b sc (.e y)
    | _ => false
  | .v, .neg a => fun sc s => match s with
    | .e (.UnaryOp .USub x _) => chk N T .v a sc (.e x)
    | _ => false
  | .v, .not a => fun sc s => match s with
    | .e (.UnaryOp .Not x _) => chk N T .v a sc (.e x)
    | _ => false
  | .v, .and as => fun sc s => match s with
    | .e (.BoolOp .And xs _) => chk N T .a as sc (.es xs)
    | _ => false
  | .v, .or as => fun sc s => match s with
    | .e (.BoolOp .Or xs _) => chk N T .o as sc (.es xs)
    | _ => false
  | .v, .cmp o a b => fun sc s => match s with
    | .e (.Compare x [op] [y] _) => cmIs o op && notSet y && chk N T .v a sc (.e x) && chk N T .v b sc (.e y)
    | _ => false
  | .v, .ite t a b => fun sc s => match s with
    | .e (.IfExp c x y _) => tst t && chk N T .v t sc (.e c) && chk N T .v a sc (.e x) && chk N T .v b sc (.e y)
    | _ => false
  | .v, .call g as => fun sc s => match s with
    | .e (.Call (.Name x _) (e :: es) [] _) => match T.defs[g]? with
      | some d => d.glob && gnB x d.name sc && nst e && es.all nst && chk N T .l as sc (.es (e :: es))
      | none => false
    | _ => false
  | .v, .callv i as => fun sc s => match s with
    | .e (.Call (.Name x _) (e :: es) [] _) => decide (N[i]? = some x) && visB sc x && !dbgB x && nst e && es.all nst && chk N T .l as sc (.es (e :: es))
    | _ => false
  | .v, .callk g w as => fun sc s => match s with
    | .e (.Call (.Name x _) [] kws _) => match T.defs[g]? with
      | some d => match d.kws[w]? with
        | some p => d.glob && gnB x d.name sc && decide (kws.map (·.arg) = p.1.map some) && chk N T .l as sc (.es (kws.map (·.value)))
        | none => false
      | none => false
    | _ => false
  | .v, .heard e => fun sc s => match s with
    | .e (.Call (.Name x _) [.Lambda ar bd lsc _] [] _) => gnB x T.hname sc && LamX.lamSB sc lsc && noArgs ar && noH e && chk N T .v e lsc (.e bd)
    | _ => false
  | .v, .bc f as => fun sc s => match s with
    | .e (.Call (.Name x _) (e :: es) [] _) => gnB x f.nm sc && nst e && es.all nst && chk N T .l as sc (.es (e :: es))
    | _ => false
  | .v, .bm f o as => fun sc s => match s with
    | .e (.Call (.Attribute x nm apos) (e :: es) [] pos) => decide (nm = f.nm) && notCall x && (apos.endLine == pos.line) && nst e && es.all nst && decide (es.length ≤ 8) && chk N T .v o sc (.e x) && chk N T .l as sc (.es (e :: es))
    | _ => false
  | .v, .sm f o as => fun sc s => match s with
    | .e (.Call (.Attribute x nm apos) (e :: es) [] pos) => decide (nm = f.nm) && notCall x && (apos.endLine == pos.line) && nst e && es.all nst && decide (es.length ≤ 8) && chk N T .v o sc (.e x) && chk N T .l as sc (.es (e :: es))
    | _ => false
  | .v, .make m c as => fun sc s => match s with
    | .e (.Call (.Name x _) es [] _) => match T.icls[c]? with
      | some p => decide (p.init < T.defs.length) && gnB x p.name sc && es.all nst && chk N T .l as sc (.es es)
      | none => false
    | _ => false
  | .v, .meth c f o as => fun sc s => match s with
    | .e (.Call (.Attribute (.Name x xp) nm apos) es [] pos) => match T.icls[c]? with
      | some p => match p.meths.lookup f with
        | some g => decide (g < T.defs.length) && decide (nm = f) && (apos.endLine == pos.line) && decide (es.length ≤ 8) && es.all nst && chk N T .v o sc (.e (.Name x xp)) && chk N T .l as sc (.es es)
        | none => false
      | none => false
    | _ => false
  | .v, .fld f o => fun sc s => match s with
    | .e (.Attribute x nm _) => decide (nm = f) && notCall x && chk N T .v o sc (.e x)
    | _ => false
  | .v, .isiO o c => fun sc s => match s with
    | .e (.Call (.Name x _) [e, .Name y _] [] _) => match T.icls[c]? with
      | some p => gnB x "isinstance" sc && gnB y p.name sc && nst e && chk N T .v o sc (.e e)
      | none => false
    | _ => false
  | .v, .chain o o' a b c => fun sc s => match s with
    | .e (.Compare x [op, op'] [y, z] _) => cmIs o op && cmIs o' op' && notSet z && chk N T .v a sc (.e x) && chk N T .v b sc (.e y) && chk N T .v c sc (.e z)
    | _ => false
  | .v, .lsts m as => fun sc s => match s with
    | .e (.List es _) => chk N T .t as sc (.es es)
    | _ => false
  | .t, .nil => fun sc s => match s with
    | .es [] => true
    | _ => false
  | .t, .cons a r => fun sc s => match s with
    | .es (e :: es) => nst e && chk N T .v a sc (.e e) && chk N T .t r sc (.es es)
    | _ => false
  | .t, .scons a r => fun sc s => match s with
    | .es (.Starred e _ :: es) => chk N T .v a sc (.e e) && chk N T .t r sc (.es es)
    | _ => false
  | .v, .cidx j as => fun sc s => match s with
    | .e (.Call (.Attribute (.Name x _) nm apos) [e] [] pos) => match T.cons[j]? with
      | some p => decide (nm = "index") && gnB x p.1 sc && (apos.endLine == pos.line) && nst e && chk N T .l as sc (.es [e])
      | none => false
    | _ => false
  | .v, .ix a b => fun sc s => match s with
    | .e (.Subscript x y _) => notSlice y && chk N T .v a sc (.e x) && chk N T .v b sc (.e y)
    | _ => false
  | .v, .sl a lo hi => fun sc s => match s with
    | .e (.Subscript x (.Slice l h none _) _) => chk N T .v a sc (.e x) && ptC l lo (fun e => chk N T .v lo sc (.e e)) && ptC h hi (fun e => chk N T .v hi sc (.e e))
    | _ => false
  | .v, .tup as => fun sc s => match s with
    | .e (.Tuple es _ _) => decide (es.length ≤ 1000) && chk N T .l as sc (.es es)
    | _ => false
  | .v, .lst m as => fun sc s => match s with
    | .e (.List es _) => decide (es.length ≤ 1000) && chk N T .l as sc (.es es)
    | _ => false
  | .v, .lrange m a => fun sc s => match s with
    | .e (.Call (.Name y _) [.Call (.Name x _) [e] [] _] [] _) => gnB y "list" sc && gnB x "range" sc && nst e && chk N T .v a sc (.e e)
    | _ => false
  | .v, .lzip m a b => fun sc s => match s with
    | .e (.Call (.Name y _) [.Call (.Name x _) [e, e2] [] _] [] _) => gnB y "list" sc && gnB x "zip" sc && nst e && nst e2 && chk N T .v a sc (.e e) && chk N T .v b sc (.e e2)
    | _ => false
  | .v, .dic k j => fun sc s => match s with
    | .e (.Dict [some (.Constant (.int k') _ _)] [.Constant (.int j') _ _] _) => decide (k = k') && decide (j = j')
    | _ => false
  | .v, .dnew => fun sc s => match s with
    | .e (.Dict [] [] _) => true
    | _ => false
  | .v, .dicv k i => fun sc s => match s with
    | .e (.Dict [some (.Constant (.int k') _ _)] [.Name x _] _) => decide (k = k') && decide (N[i]? = some x) && visB sc x && !dbgB x
    | _ => false
  | .v, .lc m own tg it ts e => fun sc s => match s with
    | .e (.ListComp elt [⟨tgt, iter, ifs, 0⟩] scope _) => noH ts && noH e && notSet iter && chk N T .s it sc (.it tgt iter) && blkC N sc scope (ownP N own) && decide ((ownP N own).map (·.2) = own) &&
        chkT N (fun x => cellB scope x) (relS scope sc) tg false [tgt] && tg.ixs.all (fun i => own.contains i) && (match ifs with
        | [] => ts.isNil
        | [c] => !ts.isNil && tst ts && chk N T .v ts (relS scope sc) (.e c)
        | _ => false) && chk N T .v e (relS scope sc) (.e elt)
    | _ => false
  | .s, .itv a => fun sc s => match s with
    | .it _ x => chk N T .v a sc (.e x)
    | _ => false
  | .s, .itr a => fun sc s => match s with
    | .it _ (.Call (.Name x _) [e] [] _) => gnB x "range" sc && nst e && chk N T .v a sc (.e e)
    | _ => false
  | .s, .ite2 a => fun sc s => match s with
    | .it (.Tuple ..) (.Call (.Name x _) [e] [] _) => gnB x "enumerate" sc && nst e && chk N T .v a sc (.e e)
    | _ => false
  | .s, .itz a b => fun sc s => match s with
    | .it tg (.Call (.Name x _) [e, e2] [] _) => (isTup tg || notTup tg) && gnB x "zip" sc && nst e && nst e2 && chk N T .v a sc (.e e) && chk N T .v b sc (.e e2)
    | _ => false
  | .s, .itzs a => fun sc s => match s with
    | .it tg (.Call (.Name x _) [.Starred e _] [] _) => notTup tg && gnB x "zip" sc && chk N T .v a sc (.e e)
    | _ => false
  | .l, .nil => fun sc s => match s with
    | .es [] => true
    | _ => false
  | .l, .cons a r => fun sc s => match s with
    | .es (e :: es) => nst e && chk N T .v a sc (.e e) && chk N T .l r sc (.es es)
    | _ => false
  | .a, .cons a r => fun sc s => match s with
    | .es (e :: es) => (if r.isNil = true then es.isEmpty else !es.isEmpty && chk N T .a r sc (.es es)) && chk N T .v a sc (.e e)
    | _ => false
  | .o, .cons a r => fun sc s => match s with
    | .es (e :: es) => (if r.isNil = true then es.isEmpty else !es.isEmpty && chk N T .o r sc (.es es)) && chk N T .v a sc (.e e)
    | _ => false
  | _, _ => fun _ _ => false
end Iv

/-! ## IvG -/
/-! Iv, part G: expressions give what the interpreter gives. -/
namespace Iv
open PySem PySem.Spec PyProof.Rows L2
section
variable {T : Tab} {S : Sta} {cf : Nat → List D → Mem → Res} {k : Nat} {X : Cx} {W : WX}

/-- an expression of the interpreter and what is written agree, in each way in which it may be read -/
structure Good (T : Tab) (S : Sta) (cf : Nat → List D → Mem → Res) (X : Cx) (W : WX) (c : CE) : Prop where
  v : ∀ e, chk X.N T .v c X.env.scope (.e e) = true → PE X e (canE S W (ev T cf .v c)) ∧ (tst c = true → PT X e (canT S W (ev T cf .v c)))
  l : ∀ es, chk X.N T .l c X.env.scope (.es es) = true → PA X es (canA S W (ev T cf .l c))
  lk : ∀ kws : List Keyword, chk X.N T .l c X.env.scope (.es (kws.map (·.value))) = true → PK X kws (canA S W (ev T cf .l c))
  a : ∀ es pos, chk X.N T .a c X.env.scope (.es es) = true → PE X (.BoolOp .And es pos) (canE S W (ev T cf .a c)) ∧ (tst c = true → PW X (.BoolOp .And es pos) (canT S W (ev T cf .a c)))
  o : ∀ es pos, chk X.N T .o c X.env.scope (.es es) = true → PE X (.BoolOp .Or es pos) (canE S W (ev T cf .o c)) ∧ (tst c = true → PW X (.BoolOp .Or es pos) (canT S W (ev T cf .o c)))
  s : ∀ tg e, chk X.N T .s c X.env.scope (.it tg e) = true → PI X tg e (canI S W (ev T cf .s c))
  t : ∀ es, chk X.N T .t c X.env.scope (.es es) = true → PA X es (canA S W (ev T cf .t c))
theorem good_v {c : CE} (hv : ∀ e, chk X.N T .v c X.env.scope (.e e) = true → PE X e (canE S W (ev T cf .v c)) ∧ (tst c = true → PT X e (canT S W (ev T cf .v c))))
    (hn : ∀ m, m ≠ .v → ∀ s, chk X.N T m c X.env.scope s = false) : Good T S cf X W c :=
  ⟨hv, (fun es h => by rw [hn .l (by decide)] at h; cases h), (fun es h => by rw [hn .l (by decide)] at h; cases h), (fun es pos h => by rw [hn .a (by decide)] at h; cases h), (fun es pos h => by rw [hn .o (by decide)] at h; cases h), (fun tg e h => by rw [hn .s (by decide)] at h; cases h), (fun es h => by rw [hn .t (by decide)] at h; cases h)⟩
theorem post_TE {lk : List Addr} {σ : L2.St} {H : Hp} {io : List Addr} {r : Res} {Q : Bool → Hp → Prop} (p : PostT S W lk σ H io r Q) : PostE S W lk σ H io r (fun x H1 => ∃ c, x = .bl c ∧ Q c H1) := by
  cases r with
  | ok d M =>
    obtain ⟨b, rfl, q⟩ := p
    exact fun v H1 io1 a b' c => ⟨b, bl_of c, q H1 io1 a b'⟩
  | exn c fs M => exact p
  | stuck => exact p
theorem pt_plain {e : Expr} {f : Rho → Mem → Res} (h : PE X e (canE S W f)) (hp : plainT e = true) : PT X e (canT S W f) := by
  refine pt_can (pt_val h fun whole => ?_) fun lk σ H r M io Q st sl p => ⟨lk, r, M, io, st, sl, post_TE p⟩
  cases e <;> first | rfl | (simp only [plainT, Bool.false_eq_true] at hp)
/-- a value that is plain as a test -/
theorem good_p {c : CE} (hv : ∀ e, chk X.N T .v c X.env.scope (.e e) = true → PE X e (canE S W (ev T cf .v c)) ∧ (plainT e = true ∨ tst c = false))
    (hn : ∀ m, m ≠ .v → ∀ s, chk X.N T m c X.env.scope s = false) : Good T S cf X W c :=
  good_v (fun e h => by
    obtain ⟨h1, h2⟩ := hv e h
    refine ⟨h1, fun ht => ?_⟩
    rcases h2 with h2 | h2
    · exact pt_plain h1 h2
    · rw [h2] at ht
      cases ht) hn
theorem gn_of {x y : Str} {sc : Scope} (h : gnB x y sc = true) : x = y ∧ sc.names.lookup x = some .globalImplicit ∧ (x == ("__debug__" : Str)) = false := by
  unfold gnB at h
  simp only [Bool.and_eq_true, decide_eq_true_eq, Bool.not_eq_true'] at h
  exact ⟨h.1.1, gl_of h.1.2, (dbg_of h.2).1⟩
/-- two values, one behind the other, then an operation -/
theorem post2 {fa fb : Rho → Mem → Res} {g : D → D → Mem → Res} {r2 : R2} {lk : List Addr} {σ : L2.St} {H : Hp} {r : Rho} {M : Mem} {io : List Addr} {Q : VK} (red : RedOf S W r2 g) (st : Sto S lk H io M) (sl : Slots S lk H io σ r)
    (p : PostE S W lk σ H io ((fa r M).bind fun x M1 => (fb r M1).bind fun y M2 => g x y M2) Q) : tOp r2 (canE S W fa) (canE S W fb) σ H Q := by
  refine post_bind (A := canE S W fa σ H) (fun Qa ha => ⟨lk, r, M, io, st, sl, ha⟩) p fun d1 M1 v1 H1 io1 st1 x1 rp1 p1 => ?_
  refine post_bind (A := canE S W fb σ H1) (fun Qa ha => ⟨lk, r, M1, io1, st1, sl.mono x1, ha⟩) p1 fun d2 M2 v2 H2 io2 st2 x2 rp2 p2 => ?_
  exact red lk σ H2 io2 M2 d1 d2 v1 v2 Q st2 (Rep.mono x2 _ _ rp1) rp2 p2
/-- arguments, then a call -/
theorem post1 {fa : Rho → Mem → Res} {g : D → Mem → Res} {r1 : List V → Hp → VK → Prop} {lk : List Addr} {σ : L2.St} {H : Hp} {r : Rho} {M : Mem} {io : List Addr} {Q : VK}
    (hn : ∀ d M1, (∀ ds, d ≠ .tup ds) → g d M1 = .stuck) (red : FedOf S W r1 (fun ds => g (.tup ds))) (st : Sto S lk H io M) (sl : Slots S lk H io σ r)
    (p : PostE S W lk σ H io ((fa r M).bind g) Q) : canA S W fa σ H (fun vs H1 => r1 vs H1 Q) := by
  refine post_bindA (A := canA S W fa σ H) (fun Qa ha => ⟨lk, r, M, io, st, sl, ha⟩) p hn fun ds M1 vs H1 io1 st1 x1 rp1 p1 => ?_
  exact red lk σ H1 io1 M1 ds vs Q st1 rp1 p1

theorem good_non : Good T S cf X W .non := good_p (fun e h => by
  cases e <;> simp only [chk, Bool.false_eq_true] at h
  rename_i c i pos
  cases c <;> simp only [Bool.false_eq_true] at h
  exact ⟨pe_can pe_non fun lk σ H r M io Q st sl p => post_ok st rep_non p, .inl rfl⟩) (fun m hm s => by cases m <;> first | exact absurd rfl hm | rfl)
theorem good_bl {b : Bool} : Good T S cf X W (.bl b) := good_p (fun e h => by
  cases e <;> simp only [chk, Bool.false_eq_true] at h
  rename_i c i pos
  cases c <;> simp only [Bool.false_eq_true, beq_iff_eq] at h
  subst h
  exact ⟨pe_can pe_bl fun lk σ H r M io Q st sl p => post_ok st rep_bl p, .inl rfl⟩) (fun m hm s => by cases m <;> first | exact absurd rfl hm | rfl)
theorem good_int {i : Int} : Good T S cf X W (.int i) := good_p (fun e h => by
  cases e <;> simp only [chk, Bool.false_eq_true] at h
  rename_i c j pos
  cases c <;> simp only [Bool.false_eq_true, decide_eq_true_eq] at h
  subst h
  exact ⟨pe_can pe_int fun lk σ H r M io Q st sl p => post_ok st rep_int p, .inl rfl⟩) (fun m hm s => by cases m <;> first | exact absurd rfl hm | rfl)
theorem good_str {x : Str} : Good T S cf X W (.str x) := good_p (fun e h => by
  cases e <;> simp only [chk, Bool.false_eq_true] at h
  rename_i c j pos
  cases c <;> simp only [Bool.false_eq_true, decide_eq_true_eq] at h
  subst h
  exact ⟨pe_can pe_str fun lk σ H r M io Q st sl p => post_ok st rep_str p, .inl rfl⟩) (fun m hm s => by cases m <;> first | exact absurd rfl hm | rfl)
theorem good_var {i : Nat} : Good T S cf X W (.var i) := good_p (fun e h => by
  cases e <;> simp only [chk, Bool.false_eq_true, Bool.and_eq_true, decide_eq_true_eq, Bool.not_eq_true'] at h
  rename_i x pos
  obtain ⟨⟨h1, h2⟩, h3⟩ := h
  obtain ⟨d1, d2⟩ := dbg_of h3
  refine ⟨pe_can (pe_var h1 (vis_of h2) d1 d2) fun lk σ H r M io Q st sl p => ?_, .inl rfl⟩
  simp only [ev] at p
  split at p
  · rename_i d e
    obtain ⟨v, e1, e2⟩ := sl.get i d e
    exact ⟨v, e1, post_ok st e2 p⟩
  · exact p.elim) (fun m hm s => by cases m <;> first | exact absurd rfl hm | rfl)
theorem good_con (C : Con T S cf k X W) {j : Nat} : Good T S cf X W (.con j) := good_p (fun e h => by
  cases e <;> simp only [chk, Bool.false_eq_true] at h
  rename_i x pos
  split at h
  · rename_i p ep
    obtain ⟨h1, h2, h3⟩ := gn_of h
    subst h1
    obtain ⟨v, u, m1, m2, m3, _⟩ := C.cons j p ep
    refine ⟨pe_can (pe_glob (v := v) h2 m1 m2 h3) fun lk σ H r M io Q st sl q => ?_, .inl rfl⟩
    simp only [ev, ep] at q
    exact post_ok st (m3 lk H io) q
  · cases h) (fun m hm s => by cases m <;> first | exact absurd rfl hm | rfl)
theorem good_fnv (C : Con T S cf k X W) {j : Nat} : Good T S cf X W (.fnv j) := good_p (fun e h => by
  cases e <;> simp only [chk, Bool.false_eq_true] at h
  rename_i x pos
  split at h
  · rename_i p ep
    rw [Bool.and_eq_true] at h
    obtain ⟨hgl, h⟩ := h
    obtain ⟨h1, h2, h3⟩ := gn_of h
    subst h1
    obtain ⟨f, fd, e1, e2, _⟩ := C.fns j p ep
    refine ⟨pe_can (pe_glob (v := .ref f) h2 (e2 hgl) rfl h3) fun lk σ H r M io Q st sl q => ?_, .inl rfl⟩
    simp only [ev] at q
    rw [if_pos (List.getElem?_eq_some_iff.mp ep).1] at q
    exact post_ok st (by unfold Rep; exact ⟨f, e1, rfl⟩) q
  · cases h) (fun m hm s => by cases m <;> first | exact absurd rfl hm | rfl)
theorem boot_ty (t : Ty) (h : t ≠ .none) : bootBuiltins t.nm = some (.type t.nm) ∧ (t.nm : Str) ≠ "__name__" ∧ (t.nm : Str) ∈ bltNames := by
  cases t <;> first | exact absurd rfl h | exact ⟨by decide +kernel, by decide +kernel, by decide +kernel⟩
theorem good_tyv (C : Con T S cf k X W) {t : Ty} : Good T S cf X W (.tyv t) := good_p (fun e h => by
  cases e <;> simp only [chk, Bool.false_eq_true, Bool.and_eq_true, Bool.not_eq_true', decide_eq_false_iff_not] at h
  rename_i x pos
  obtain ⟨h1, h2, h3⟩ := gn_of h.1
  subst h1
  obtain ⟨b1, b2, b3⟩ := boot_ty t h.2
  refine ⟨pe_can (pe_bltn (v := .ty t.nm) h2 (C.blt _ b3) b1 rfl b2 h3) fun lk σ H r M io Q st sl q => ?_, .inl rfl⟩
  exact post_ok st (by unfold Rep; rfl) q) (fun m hm s => by cases m <;> first | exact absurd rfl hm | rfl)
theorem good_bin (C : Con T S cf k X W) {o : BO} {a b : CE} (ga : Good T S cf X W a) (gb : Good T S cf X W b) : Good T S cf X W (.bin o a b) := good_p (fun e h => by
  cases e <;> simp only [chk, Bool.false_eq_true, Bool.and_eq_true] at h
  obtain ⟨⟨h1, h2⟩, h3⟩ := h
  obtain ⟨r2, hr, red⟩ := bop_ok (W := W) C.sk o _ h1
  exact ⟨pe_can (pe_op hr (ga.v _ h2).1 (gb.v _ h3).1) fun lk σ H r M io Q st sl p => post2 red st sl p, .inl rfl⟩) (fun m hm s => by cases m <;> first | exact absurd rfl hm | rfl)
theorem good_rep (C : Con T S cf k X W) {m : Bool} {a b : CE} (ga : Good T S cf X W a) (gb : Good T S cf X W b) : Good T S cf X W (.rep m a b) := good_p (fun e h => by
  cases e <;> simp only [chk, Bool.false_eq_true] at h
  rename_i x op y pos
  cases op <;> simp only [Bool.false_eq_true, Bool.and_eq_true] at h
  exact ⟨pe_can (pe_op op_rep (ga.v _ h.1).1 (gb.v _ h.2).1) fun lk σ H r M io Q st sl p => post2 (red_rep m) st sl p, .inl rfl⟩) (fun m hm s => by cases m <;> first | exact absurd rfl hm | rfl)
theorem good_neg {a : CE} (ga : Good T S cf X W a) : Good T S cf X W (.neg a) := good_p (fun e h => by
  cases e <;> simp only [chk, Bool.false_eq_true] at h
  rename_i op x pos
  cases op <;> simp only [Bool.false_eq_true] at h
  refine ⟨pe_can (pe_un un_neg (ga.v _ h).1) fun lk σ H r M io Q st sl p => ?_, .inr rfl⟩
  simp only [ev] at p
  refine post_bind (A := canE S W (ev T cf .v a) σ H) (fun Qa ha => ⟨lk, r, M, io, st, sl, ha⟩) p fun d1 M1 v1 H1 io1 st1 x1 rp1 p1 => ?_
  cases d1 <;> try exact p1.elim
  exact ⟨_, int_of rp1, post_ok st1 rep_int p1⟩) (fun m hm s => by cases m <;> first | exact absurd rfl hm | rfl)
theorem good_not {a : CE} (ga : Good T S cf X W a) : Good T S cf X W (.not a) := good_v (fun e h => by
  cases e <;> simp only [chk, Bool.false_eq_true] at h
  rename_i op x pos
  cases op <;> simp only [Bool.false_eq_true] at h
  obtain ⟨h1, h2⟩ := ga.v _ h
  refine ⟨pe_can (pe_not h1) fun lk σ H r M io Q st sl p => ?_, fun ht => pt_can (pt_not (h2 ht)) fun lk σ H r M io Q st sl p => ?_⟩
  · simp only [ev] at p
    refine post_bind (A := canE S W (ev T cf .v a) σ H) (fun Qa ha => ⟨lk, r, M, io, st, sl, ha⟩) p fun d1 M1 v1 H1 io1 st1 x1 rp1 p1 => ?_
    cases d1 <;> try exact p1.elim
    exact ⟨_, bl_of rp1, post_ok st1 rep_bl p1⟩
  · refine ⟨lk, r, M, io, st, sl, ?_⟩
    simp only [ev] at p
    cases q : ev T cf .v a r M with
    | ok d M1 =>
      rw [q] at p
      cases d
      case bl b =>
        obtain ⟨b', e1, p⟩ := p
        cases e1
        exact ⟨b, rfl, p⟩
      all_goals exact p.elim
    | exn c fs M1 => rw [q] at p; exact p
    | stuck => rw [q] at p; exact p) (fun m hm s => by cases m <;> first | exact absurd rfl hm | rfl)
theorem good_and {a : CE} (ga : Good T S cf X W a) : Good T S cf X W (.and a) := good_v (fun e h => by
  cases e <;> simp only [chk, Bool.false_eq_true] at h
  rename_i op xs pos
  cases op <;> simp only [Bool.false_eq_true] at h
  obtain ⟨h1, h2⟩ := ga.a _ pos h
  exact ⟨h1, fun ht => (h2 ht).pt⟩) (fun m hm s => by cases m <;> first | exact absurd rfl hm | rfl)
theorem good_or {a : CE} (ga : Good T S cf X W a) : Good T S cf X W (.or a) := good_v (fun e h => by
  cases e <;> simp only [chk, Bool.false_eq_true] at h
  rename_i op xs pos
  cases op <;> simp only [Bool.false_eq_true] at h
  obtain ⟨h1, h2⟩ := ga.o _ pos h
  exact ⟨h1, fun ht => (h2 ht).pt⟩) (fun m hm s => by cases m <;> first | exact absurd rfl hm | rfl)
theorem good_cmp (C : Con T S cf k X W) {o : CO} {a b : CE} (ga : Good T S cf X W a) (gb : Good T S cf X W b) : Good T S cf X W (.cmp o a b) := good_v (fun e h => by
  cases e <;> simp only [chk, Bool.false_eq_true] at h
  rename_i x ops ys pos
  match ops, ys, h with
  | [op], [y], h =>
    simp only [Bool.and_eq_true] at h
    obtain ⟨⟨⟨h1, h0⟩, h2⟩, h3⟩ := h
    obtain ⟨r2, hr, red⟩ := cop_ok (W := W) C.sk C.room.units o op h1
    have hb : behindInMarks op y = false := by
      cases y <;> first | rfl | (simp only [notSet, Bool.false_eq_true] at h0)
    refine ⟨pe_can (pe_cmpR hr (ga.v _ h2).1 (gb.v _ h3).1 hb) fun lk σ H r M io Q st sl p => post2 red st sl p, fun _ => pt_can (pt_cmpR hr (ga.v _ h2).1 (gb.v _ h3).1 hb) fun lk σ H r M io Q st sl p => ?_⟩
    exact post2 red st sl (post_TE p)) (fun m hm s => by cases m <;> first | exact absurd rfl hm | rfl)
theorem good_ite {t a b : CE} (gt : Good T S cf X W t) (ga : Good T S cf X W a) (gb : Good T S cf X W b) : Good T S cf X W (.ite t a b) := good_p (fun e h => by
  cases e <;> simp only [chk, Bool.false_eq_true, Bool.and_eq_true] at h
  obtain ⟨⟨⟨ht, h1⟩, h2⟩, h3⟩ := h
  refine ⟨pe_can (pe_ifExp ((gt.v _ h1).2 ht) (ga.v _ h2).1 (gb.v _ h3).1) fun lk σ H r M io Q st sl p => ?_, .inr rfl⟩
  refine ⟨lk, r, M, io, st, sl, ?_⟩
  simp only [ev] at p
  cases q : ev T cf .v t r M with
  | ok d M1 =>
    rw [q] at p
    cases d <;> try exact p.elim
    rename_i c
    refine ⟨c, rfl, fun H1 io1 st1 x1 => ?_⟩
    cases c with
    | true => exact ⟨lk, r, M1, io1, st1, sl.mono x1, PostE.ext x1 p⟩
    | false => exact ⟨lk, r, M1, io1, st1, sl.mono x1, PostE.ext x1 p⟩
  | exn c fs M1 => rw [q] at p; exact p
  | stuck => rw [q] at p; exact p) (fun m hm s => by cases m <;> first | exact absurd rfl hm | rfl)
theorem sp_post {g : Nat} {n : Nat} {lk : List Addr} {σ : L2.St} {H1 : Hp} {io1 : List Addr} {M1 : Mem} {ds : List D} {vs : List V} {Q : VK} (st1 : Sto S lk H1 io1 M1) (rp : Reps S lk H1 io1 ds vs) (hl : ds.length = n)
    (p : PostE S W lk σ H1 io1 (cf g ds M1) Q) : spD S (cf g) n vs H1 Q (WE W σ) := ⟨lk, io1, M1, ds, st1, rp, hl, postC_E p⟩
end
end Iv

/-! ## IvH -/
/-! Iv, part H: calls, items, slices, lists of arguments, tests. -/
namespace Iv
open PySem PySem.Spec PyProof.Rows L2
section
variable {T : Tab} {S : Sta} {cf : Nat → List D → Mem → Res} {k : Nat} {X : Cx} {W : WX}
theorem reps_perm {lk : List Addr} {H : Hp} {io : List Addr} {ds : List D} {vs : List V} (r : Reps S lk H io ds vs) : ∀ p : List Nat, Reps S lk H io (permL p ds) (permL p vs)
  | [] => .nil
  | i :: p => by
    unfold permL
    rw [List.filterMap_cons, List.filterMap_cons]
    have ih := reps_perm r p
    cases e : ds[i]? with
    | none =>
      have e2 : vs[i]? = none := by
        rw [List.getElem?_eq_none_iff] at e ⊢
        rw [← r.length]
        exact e
      rw [e2]
      exact ih
    | some v =>
      obtain ⟨u, e2, ru⟩ := r.get e
      rw [e2]
      exact .cons ru ih
theorem good_call (C : Con T S cf k X W) {g : Nat} {as : CE} (ga : Good T S cf X W as) : Good T S cf X W (.call g as) := good_p (fun e h => by
  simp only [chk] at h
  split at h
  · rename_i x p e1 es pos heq
    cases heq
    split at h
    · rename_i d ed
      simp only [Bool.and_eq_true] at h
      obtain ⟨⟨⟨⟨hgl, h1⟩, h2⟩, h3⟩, h4⟩ := h
      obtain ⟨n1, n2, n3⟩ := gn_of h1
      obtain ⟨f, fd, f1, f2, f3, f4, F⟩ := C.fns g d ed
      refine ⟨pe_can (pe_callG F C.room (fun _ => C.gu) n2 (by rw [n1]; exact f2 hgl) f3 (.all f4.1) C.tk (ga.l _ h4) n3 h2 h3) fun lk σ H r M io Q st sl p => ?_, .inl rfl⟩
      simp only [ev] at p
      refine post_bindA (A := canA S W (ev T cf .l as) σ H) (fun Qa ha => ⟨lk, r, M, io, st, sl, ha⟩) p (fun d M1 hd => ?_) fun ds M1 vs H1 io1 st1 x1 rp1 p1 => ?_
      · split
        · exact absurd rfl (hd _)
        · rfl
      · simp only at p1
        by_cases hl : ds.length = d.ps.length
        · exact sp_post st1 rp1 hl p1
        · rw [C.ar g d ds M1 ed hl] at p1
          exact p1.elim
    · cases h
  · cases h) (fun m hm s => by cases m <;> first | exact absurd rfl hm | rfl)
theorem good_callv (C : Con T S cf k X W) {i : Nat} {as : CE} (ga : Good T S cf X W as) : Good T S cf X W (.callv i as) := good_p (fun e h => by
  simp only [chk] at h
  split at h
  · rename_i x p e1 es pos heq
    cases heq
    simp only [Bool.and_eq_true, decide_eq_true_eq, Bool.not_eq_true'] at h
    obtain ⟨⟨⟨⟨⟨h1, h2⟩, h3⟩, h4⟩, h5⟩, h6⟩ := h
    obtain ⟨d1, d2⟩ := dbg_of h3
    refine ⟨pe_can (pe_callV (gd := S.gd) (sps := fun f sp => ∃ g d, T.defs[g]? = some d ∧ S.fa g = some f ∧ sp = spD S (cf g) d.ps.length) (fun f sp hs => ?_) C.room (fun _ => C.gu) h1 (vis_of h2) C.tk (ga.l _ h6) d1 d2 h4 h5) fun lk σ H r M io Q st sl p => ?_, .inl rfl⟩
    · obtain ⟨g, d, ed, ef, rfl⟩ := hs
      obtain ⟨f', fd, f1, f2, f3, f4, F⟩ := C.fns g d ed
      rw [ef] at f1
      cases f1
      exact ⟨fd, d.ps, F, f3, .all f4.1⟩
    · simp only [ev] at p
      split at p
      · rename_i g eg
        split at p
        · rename_i hg
          obtain ⟨v, e1, e2⟩ := sl.get i _ eg
          unfold Rep at e2
          obtain ⟨f, ef, rfl⟩ := e2
          have ed : T.defs[g]? = some T.defs[g] := List.getElem?_eq_getElem hg
          refine ⟨f, _, e1, ⟨g, _, ed, ef, rfl⟩, ?_⟩
          refine post_bindA (A := canA S W (ev T cf .l as) σ H) (fun Qa ha => ⟨lk, r, M, io, st, sl, ha⟩) p (fun d M1 hd => ?_) fun ds M1 vs H1 io1 st1 x1 rp1 p1 => ?_
          · split
            · exact absurd rfl (hd _)
            · rfl
          · simp only at p1
            by_cases hl : ds.length = T.defs[g].ps.length
            · exact sp_post st1 rp1 hl p1
            · rw [C.ar g _ ds M1 ed hl] at p1
              exact p1.elim
        · exact p.elim
      · exact p.elim
  · cases h) (fun m hm s => by cases m <;> first | exact absurd rfl hm | rfl)
theorem good_callk (C : Con T S cf k X W) {g w : Nat} {as : CE} (ga : Good T S cf X W as) (hlen : ∀ es r M d M1, chk X.N T .l as X.env.scope (.es es) = true → ev T cf .l as r M = .ok d M1 → ∃ ds, d = .tup ds ∧ ds.length = es.length) : Good T S cf X W (.callk g w as) := good_p (fun e h => by
  simp only [chk] at h
  split at h
  · rename_i x p kws pos heq
    cases heq
    split at h
    · rename_i d ed
      split at h
      · rename_i q eq
        simp only [Bool.and_eq_true, decide_eq_true_eq] at h
        obtain ⟨⟨⟨hgl, h1⟩, h2⟩, h4⟩ := h
        obtain ⟨n1, n2, n3⟩ := gn_of h1
        obtain ⟨f, fd, f1, f2, f3, f4, F⟩ := C.fns g d ed
        have hb := f4.2.2 q (List.mem_of_getElem? eq)
        refine ⟨pe_can (pe_callGK F C.room (fun _ => C.gu) n2 (by rw [n1]; exact f2 hgl) f3 hb C.tk (ga.lk _ h4) n3 h2) fun lk σ H r M io Q st sl p => ?_, .inl rfl⟩
        simp only [ev] at p
        refine ⟨lk, r, M, io, st, sl, ?_⟩
        cases qe : ev T cf .l as r M with
        | ok dd M1 =>
          rw [qe] at p
          obtain ⟨ds, rfl, hl⟩ := hlen _ r M dd M1 h4 qe
          refine ⟨ds, rfl, fun vs H1 io1 st1 x1 rp1 => ?_⟩
          simp only [Res.bind, ed, eq] at p
          have hk : kws.length = q.1.length := by
            have z := congrArg List.length h2
            simpa using z
          refine ⟨by rw [← rp1.length, hl, List.length_map, hk], ?_⟩
          have rp2 := reps_perm rp1 q.2
          by_cases hl2 : (permL q.2 ds).length = d.ps.length
          · exact sp_post st1 rp2 hl2 (PostE.ext x1 p)
          · rw [C.ar g d _ M1 ed hl2] at p
            exact p.elim
        | exn c fs M1 => rw [qe] at p; exact p
        | stuck => rw [qe] at p; exact p
      · cases h
    · cases h
  · cases h) (fun m hm s => by cases m <;> first | exact absurd rfl hm | rfl)
theorem nm_blt (f : BF) : f.nm ∈ bltNames := by
  cases f with
  | list m => exact (by decide +kernel : ("list" : Str) ∈ bltNames)
  | sorted m => exact (by decide +kernel : ("sorted" : Str) ∈ bltNames)
  | _ => decide +kernel
theorem good_bc (C : Con T S cf k X W) {f : BF} {as : CE} (ga : Good T S cf X W as) : Good T S cf X W (.bc f as) := good_p (fun e h => by
  simp only [chk] at h
  split at h
  · rename_i x p e1 es pos heq
    cases heq
    simp only [Bool.and_eq_true] at h
    obtain ⟨⟨⟨h1, h2⟩, h3⟩, h4⟩ := h
    obtain ⟨n1, n2, n3⟩ := gn_of h1
    subst n1
    obtain ⟨r1, hr, red⟩ := bfn_ok (W := W) C.sk C.calm (by have := C.room.un; omega) C.gu f
    have bb := boot_bf f
    obtain ⟨b1, b2⟩ := bf_name f
    have key : ∀ {lk : List Addr} {σ : L2.St} {H : Hp} {r : Rho} {M : Mem} {io : List Addr} {Q : VK}, Sto S lk H io M → Slots S lk H io σ r → PostE S W lk σ H io (ev T cf .v (.bc f as) r M) Q → tCB r1 (canA S W (ev T cf .l as)) σ H Q := by
      intro lk σ H r M io Q st sl p
      simp only [ev] at p
      refine post1 (g := fun x M1 => match x with
        | .tup ds => bfn f ds M1
        | _ => .stuck) (fun d M1 hd => ?_) red st sl p
      split
      · exact absurd rfl (hd _)
      · rfl
    unfold BF.val at hr bb
    split at hr
    · rename_i ht
      rw [if_pos ht] at bb
      exact ⟨pe_can (pe_callTy hr n2 (C.blt _ (nm_blt f)) bb (ga.l _ h4) b1 b2 (star_ok h2) (stars_ok h3)) fun lk σ H r M io Q st sl p => key st sl p, .inl rfl⟩
    · rename_i ht
      rw [if_neg ht] at bb
      exact ⟨pe_can (pe_callB hr n2 (C.blt _ (nm_blt f)) bb (ga.l _ h4) b1 b2 (star_ok h2) (stars_ok h3)) fun lk σ H r M io Q st sl p => key st sl p, .inl rfl⟩
  · cases h) (fun m hm s => by cases m <;> first | exact absurd rfl hm | rfl)
theorem few_all {pos : Pos} {env : PySem.Env} : ∀ {es : List Expr}, es.all nst = true → ((backTo pos (starEach es env)).all (fun x => !x.1)) = true
  | [], _ => rfl
  | e :: es, h => by
    rw [List.all_cons, Bool.and_eq_true] at h
    rw [star_ok h.1]
    show (true && (backTo pos (starEach es env)).all (fun x => !x.1)) = true
    rw [few_all h.2]
    rfl
theorem few_ok {e : Expr} {es : List Expr} {pos : Pos} {env : PySem.Env} (h : nst e = true) (hs : es.all nst = true) (hl : es.length ≤ 8) : ((backTo pos (starEach (e :: es) env)).all (fun x => !x.1) && (backToKw pos (keywordEach [] env)).all (fun x => x.1.isSome)
      && decide ((e :: es : List Expr).length + ([] : List Keyword).length + (if ([] : List Keyword).isEmpty then 0 else 1) < 30)) = true := by
  rw [few_all (es := e :: es) (by rw [List.all_cons, h, hs]; rfl), Bool.true_and, Bool.and_eq_true]
  refine ⟨rfl, decide_eq_true ?_⟩
  show es.length + 1 + 0 + 0 < 30
  omega
theorem base_ok {o : Expr} {name : Str} {env : PySem.Env} {m : Sem Value} (h : notCall o = true) : attributeBase o name env m = m := by
  cases o with
  | Call f as ks pos => cases f <;> cases as <;> first | rfl | (simp only [notCall, Bool.false_eq_true] at h)
  | _ => rfl
theorem good_bm (C : Con T S cf k X W) {f : MF} {o as : CE} (go : Good T S cf X W o) (ga : Good T S cf X W as) : Good T S cf X W (.bm f o as) := good_p (fun e h => by
  simp only [chk] at h
  split at h
  · rename_i x nm apos e1 es pos heq
    cases heq
    simp only [Bool.and_eq_true, decide_eq_true_eq] at h
    obtain ⟨⟨⟨⟨⟨⟨⟨h1, h2⟩, h3⟩, h4⟩, h7⟩, h8⟩, h5⟩, h6⟩ := h
    subst h1
    obtain ⟨r1, hr, red⟩ := mfn_ok (W := W) C.sk f
    refine ⟨pe_can (pe_bm PySem.F.plainAttrs_list (slot_mf f) (type_mf f) hr (go.v _ h5).1 (ga.l _ h6) (base_ok h2) (few_ok h4 h7 h8) h3 (star_ok h4) (stars_ok h7)) fun lk σ H r M io Q st sl p => ?_, .inl rfl⟩
    simp only [ev] at p
    refine post_bind (A := canE S W (ev T cf .v o) σ H) (fun Qa ha => ⟨lk, r, M, io, st, sl, ha⟩) p fun d1 M1 v1 H1 io1 st1 x1 rp1 p1 => ?_
    split at p1
    · rename_i hs
      obtain ⟨xs, ex⟩ := Option.isSome_iff_exists.mp hs
      obtain ⟨a, vs, rfl, h7, _⟩ := list_rep st1 ex rp1
      refine ⟨.inl ⟨rfl, vs, by rw [C.sk]; exact h7⟩, ?_⟩
      refine post_bindA (A := canA S W (ev T cf .l as) σ H1) (fun Qa ha => ⟨lk, r, M1, io1, st1, sl.mono x1, ha⟩) p1 (fun d M1 hd => ?_) fun ds M2 vs H2 io2 st2 x2 rp2 p2 => ?_
      · split
        · exact absurd rfl (hd _)
        · rfl
      · exact red lk σ H2 io2 M2 d1 _ ds vs Q st2 (Rep.mono x2 _ _ rp1) rp2 p2
    · exact p1.elim
  · cases h) (fun m hm s => by cases m <;> first | exact absurd rfl hm | rfl)
theorem good_cidx (C : Con T S cf k X W) {j : Nat} {as : CE} (ga : Good T S cf X W as) : Good T S cf X W (.cidx j as) := good_p (fun e h => by
  simp only [chk] at h
  split at h
  · rename_i x p nm apos e1 pos heq
    cases heq
    split at h
    · rename_i q eq
      simp only [Bool.and_eq_true, decide_eq_true_eq] at h
      obtain ⟨⟨⟨⟨h1, h2⟩, h3⟩, h4⟩, h5⟩ := h
      subst h1
      obtain ⟨n1, n2, n3⟩ := gn_of h2
      subst n1
      obtain ⟨v, u, m1, m2, m3, m4⟩ := C.cons j q eq
      refine ⟨pe_can (pe_bm PySem.F.plainAttrs_tuple PySem.F.slot_tuple_index PySem.F.type_tuple_index mt_tidx (pe_glob (v := v) n2 m1 m2 n3) (ga.l _ h5) rfl (few_ok h4 (es := []) rfl (Nat.zero_le _)) h3 (star_ok h4) (stars_ok (es := []) rfl)) fun lk σ H r M io Q st sl p => ?_, .inl rfl⟩
      simp only [ev] at p
      split at p
      · rename_i nm2 xs eq2
        rw [eq] at eq2
        cases eq2
        have h0 := m3 [] (fun _ => none) []
        unfold Rep at h0
        obtain ⟨a, us, ea, _⟩ := h0
        subst ea
        show tyV X.K "tuple" (.ref a) H ∧ _
        refine ⟨.inr (.inl ⟨rfl, m4 a rfl⟩), ?_⟩
        refine post_bindA (A := canA S W (ev T cf .l as) σ H) (fun Qa ha => ⟨lk, r, M, io, st, sl, ha⟩) p (fun d M1 hd => ?_) fun ds M1 vs H1 io1 st1 x1 rp1 p1 => ?_
        · split
          · exact absurd rfl (hd _)
          · rfl
        · exact (cidx_red (X := X) C.sk m3 lk σ H1 io1 M1 ds vs Q st1 rp1 p1).2
      · exact p.elim
    · cases h
  · cases h) (fun m hm s => by cases m <;> first | exact absurd rfl hm | rfl)
theorem plain_ix {b : Expr} (h : notSlice b = true) : PlainIx b := by
  intro o i
  cases b <;> first | rfl | (simp only [notSlice, Bool.false_eq_true] at h)
theorem good_ix (C : Con T S cf k X W) {a b : CE} (ga : Good T S cf X W a) (gb : Good T S cf X W b) : Good T S cf X W (.ix a b) := good_p (fun e h => by
  simp only [chk] at h
  split at h
  · rename_i x y pos heq
    cases heq
    simp only [Bool.and_eq_true] at h
    obtain ⟨⟨h1, h2⟩, h3⟩ := h
    exact ⟨pe_can (pe_ix (ix_list.or (ix_tup.or (ix_str.or (ix_dK (by have := C.room.un; omega))))) (ga.v _ h2).1 (gb.v _ h3).1 (plain_ix h1)) fun lk σ H r M io Q st sl p => post2 (ix_red C.sk) st sl p, .inl rfl⟩
  · cases h) (fun m hm s => by cases m <;> first | exact absurd rfl hm | rfl)
/-- a bound of a slice -/
theorem part_ok {l : Option Expr} {c : CE} (gc : Good T S cf X W c) (h : ptC l c (fun e => chk X.N T .v c X.env.scope (.e e)) = true) : ∃ t, PO X l t ∧ ∀ lk σ H r M io Q, Sto S lk H io M → Slots S lk H io σ r → ∀ (k : D → Mem → Res) (Qa : Option Int → Hp → Prop), PostE S W lk σ H io ((ev T cf .v c r M).bind fun y M1 => if okPt c y = true then k y M1 else .stuck) Q →
          (∀ d o M1 H1 io1, ptOf d = some o → Sto S lk H1 io1 M1 → Ext H io H1 io1 → PostE S W lk σ H1 io1 (k d M1) Q → Qa o H1) → t σ H Qa := by
  cases l with
  | none =>
    refine ⟨_, po_none, fun lk σ H r M io Q st sl k Qa p hq => ?_⟩
    cases c <;> simp only [ptC, CE.isNon, Bool.false_eq_true] at h
    exact hq .non none M H io rfl st (Ext.refl _ _) p
  | some e =>
    simp only [ptC, Bool.and_eq_true, Bool.not_eq_true'] at h
    refine ⟨_, po_some (gc.v _ h.2).1, fun lk σ H r M io Q st sl k Qa p hq => ?_⟩
    refine post_bind (A := canE S W (ev T cf .v c) σ H) (fun Qa ha => ⟨lk, r, M, io, st, sl, ha⟩) p fun d1 M1 v1 H1 io1 st1 x1 rp1 p1 => ?_
    split at p1
    · rename_i hp
      cases d1 <;> simp only [okPt, Bool.false_eq_true] at hp
      · rw [h.1] at hp
        cases hp
      · rename_i i
        exact ⟨i, int_of rp1, hq _ _ M1 H1 io1 rfl st1 x1 p1⟩
    · exact p1.elim
theorem good_sl (C : Con T S cf k X W) {a lo hi : CE} (ga : Good T S cf X W a) (gl : Good T S cf X W lo) (gh : Good T S cf X W hi) : Good T S cf X W (.sl a lo hi) := good_p (fun e h => by
  simp only [chk] at h
  split at h
  · rename_i x l u sp pos heq
    cases heq
    simp only [Bool.and_eq_true] at h
    obtain ⟨⟨h1, h2⟩, h3⟩ := h
    obtain ⟨tl, pl, ql⟩ := part_ok gl h2
    obtain ⟨tu, pu, qu⟩ := part_ok gh h3
    refine ⟨pe_can (pe_slice sl_all (ga.v _ h1).1 pl pu) fun lk σ H r M io Q st sl p => ?_, .inl rfl⟩
    simp only [ev] at p
    refine post_bind (A := canE S W (ev T cf .v a) σ H) (fun Qa ha => ⟨lk, r, M, io, st, sl, ha⟩) p fun d1 M1 v1 H1 io1 st1 x1 rp1 p1 => ?_
    refine ql lk σ H1 r M1 io1 Q st1 (sl.mono x1) _ _ p1 fun d2 o2 M2 H2 io2 e2 st2 x2 p2 => ?_
    refine qu lk σ H2 r M2 io2 Q st2 ((sl.mono x1).mono x2) _ _ p2 fun d3 o3 M3 H3 io3 e3 st3 x3 p3 => ?_
    exact sl_red C.sk st3 (Rep.mono x3 _ _ (Rep.mono x2 _ _ rp1)) e2 e3 p3
  · cases h) (fun m hm s => by cases m <;> first | exact absurd rfl hm | rfl)

/-! ### tuples, lists, lists of arguments -/
theorem nst_all : ∀ {as : CE} {es : List Expr} {N : List Str} {sc : Scope}, chk N T .l as sc (.es es) = true → es.all nst = true
  | .nil, [], _, _, _ => rfl
  | .cons a r, [], N, sc, h => by simp [chk] at h
  | .nil, e :: es, _, _, h => by simp [chk] at h
  | .cons a r, e :: es, N, sc, h => by
    simp only [chk, Bool.and_eq_true] at h
    rw [List.all_cons, h.1.1, nst_all h.2]
    rfl
theorem len_all {cf : Nat → List D → Mem → Res} : ∀ {as : CE} {es : List Expr} {N : List Str} {sc : Scope} {r : Rho} {M M1 : Mem} {d : D}, chk N T .l as sc (.es es) = true → ev T cf .l as r M = .ok d M1 → ∃ ds, d = .tup ds ∧ ds.length = es.length
  | .nil, [], _, _, _, _, _, _, _, h => by
    simp only [ev] at h
    cases h
    exact ⟨[], rfl, rfl⟩
  | .cons a rr, [], N, sc, _, _, _, _, h, _ => by simp [chk] at h
  | .nil, e :: es, _, _, _, _, _, _, h, _ => by simp [chk] at h
  | .cons a rr, e :: es, N, sc, r, M, M1, d, h, q => by
    simp only [chk, Bool.and_eq_true] at h
    simp only [ev] at q
    cases ha : ev T cf .v a r M with
    | ok x M2 =>
      rw [ha] at q
      simp only [Res.bind] at q
      cases hb : ev T cf .l rr r M2 with
      | ok y M3 =>
        rw [hb] at q
        obtain ⟨ys, rfl, hl⟩ := len_all h.2 hb
        cases q
        exact ⟨x :: ys, rfl, by rw [List.length_cons, List.length_cons, hl]⟩
      | exn c fs M3 => rw [hb] at q; cases q
      | stuck => rw [hb] at q; cases q
    | exn c fs M3 => rw [ha] at q; cases q
    | stuck => rw [ha] at q; cases q
theorem good_tup {as : CE} (ga : Good T S cf X W as) : Good T S cf X W (.tup as) := good_p (fun e h => by
  cases e <;> simp only [chk, Bool.false_eq_true, Bool.and_eq_true, decide_eq_true_eq] at h
  rename_i es x1 pos
  refine ⟨pe_can (pe_tup (ga.l _ h.2)) fun lk σ H r M io Q st sl p => ?_, .inl rfl⟩
  simp only [ev] at p
  refine ⟨lk, r, M, io, st, sl, ?_⟩
  cases q : ev T cf .l as r M with
  | ok d M1 =>
    rw [q] at p
    obtain ⟨ds, rfl, hl⟩ := len_all h.2 q
    refine ⟨ds, rfl, fun vs H1 io1 st1 x1 rp => ?_⟩
    have hl2 : vs.length ≤ lim := by
      rw [← rp.length, hl]
      exact Nat.le_trans h.1 (by decide)
    exact ⟨Nat.le_trans hl2 lim_line, post_tup st1 rp hl2 (PostE.ext x1 p)⟩
  | exn c fs M1 => rw [q] at p; exact p
  | stuck => rw [q] at p; exact p) (fun m hm s => by cases m <;> first | exact absurd rfl hm | rfl)
theorem rg_rep {lk : List Addr} {H : Hp} {io : List Addr} {S : Sta} (j : Int) : Reps S lk H io (rangeD j) (rgV 0 j) := by
  unfold rangeD rgV
  have g : ∀ l : List Nat, Reps S lk H io (l.map fun (i : Nat) => D.int i) (l.map fun i => V.int (0 + (i : Nat))) := by
    intro l
    induction l with
    | nil => exact .nil
    | cons x l ih => exact .cons (by show Rep S lk H io (.int (x : Int)) (.int (0 + (x : Nat))); rw [Int.zero_add]; exact rep_int) ih
  have e : (j - 0).toNat = j.toNat := by omega
  rw [e]
  exact g _
theorem good_lrange (C : Con T S cf k X W) {m : Bool} {a : CE} (ga : Good T S cf X W a) : Good T S cf X W (.lrange m a) := good_p (fun e h => by
  simp only [chk] at h
  split at h
  · rename_i y p1 x p2 e1 pos1 pos2 heq
    cases heq
    simp only [Bool.and_eq_true] at h
    obtain ⟨⟨⟨h1, h2⟩, h3⟩, h4⟩ := h
    obtain ⟨n1, n2, n3⟩ := gn_of h1
    obtain ⟨m1, m2, m3⟩ := gn_of h2
    subst n1 m1
    refine ⟨pe_can (pe_listRg C.calm n2 (C.blt _ (by decide)) (prg_1 m2 (C.blt _ (by decide)) (ga.v _ h4).1 (star_ok h3)) (star_ok rfl)) fun lk σ H r M io Q st sl p => ?_, .inl rfl⟩
    simp only [ev] at p
    refine post_bind (A := canE S W (ev T cf .v a) σ H) (fun Qa ha => ⟨lk, r, M, io, st, sl, ha⟩) p fun d1 M1 v1 H1 io1 st1 x1 rp1 p1 => ?_
    cases d1 <;> try exact p1.elim
    rename_i j
    simp only at p1
    split at p1
    · rename_i hj
      refine ⟨j, int_of rp1, ?_, ?_⟩
      · have hl : ((lim : Nat) : Int) = 1000000 := rfl
        unfold RgOk
        rw [hl] at hj
        omega
      · refine post_mk st1 (rg_rep j) ?_ p1
        rw [rgV_length]
        have hl : ((lim : Nat) : Int) = 1000000 := rfl
        have hl' : lim = 1000000 := rfl
        omega
    · exact p1.elim
  · cases h) (fun m hm s => by cases m <;> first | exact absurd rfl hm | rfl)
theorem good_lst {m : Bool} {as : CE} (ga : Good T S cf X W as) : Good T S cf X W (.lst m as) := good_p (fun e h => by
  cases e <;> simp only [chk, Bool.false_eq_true, Bool.and_eq_true, decide_eq_true_eq] at h
  rename_i es pos
  refine ⟨pe_can (pe_lst (ga.l _ h.2)) fun lk σ H r M io Q st sl p => ?_, .inl rfl⟩
  simp only [ev] at p
  refine ⟨lk, r, M, io, st, sl, ?_⟩
  cases q : ev T cf .l as r M with
  | ok d M1 =>
    rw [q] at p
    obtain ⟨ds, rfl, hl⟩ := len_all h.2 q
    refine ⟨ds, rfl, fun vs H1 io1 st1 x1 rp => ?_⟩
    have hl2 : vs.length ≤ lim := by
      rw [← rp.length, hl]
      exact Nat.le_trans h.1 (by decide)
    exact ⟨Nat.le_trans hl2 lim_line, post_mk st1 rp hl2 (PostE.ext x1 p)⟩
  | exn c fs M1 => rw [q] at p; exact p
  | stuck => rw [q] at p; exact p) (fun m hm s => by cases m <;> first | exact absurd rfl hm | rfl)
theorem good_no {c : CE} (h : ∀ m s, chk X.N T m c X.env.scope s = false) : Good T S cf X W c :=
  good_v (fun e q => by
    rw [h] at q
    cases q) fun m _ s => h m s
theorem pk_can {e : List Keyword} {t : L2.TA} {f : Rho → Mem → Res} (h : PK X e t)
    (k : ∀ lk σ H r M io Q, Sto S lk H io M → Slots S lk H io σ r → PostA S W lk σ H io (f r M) Q → t σ H Q) : PK X e (canA S W f) :=
  ⟨fun pos pins s σ H Q I ⟨lk, r, M, io, a, b, c⟩ => h.run pos pins s σ H Q I (k lk σ H r M io Q a b c)⟩
theorem good_nil : Good T S cf X W .nil := ⟨(fun e h => by cases h), (fun es h => by
    cases es with
    | nil =>
      refine pa_can pa_nil fun lk σ H r M io Q st sl p => ?_
      obtain ⟨ds, e, p⟩ := p
      cases e
      exact p [] H io st (Ext.refl _ _) .nil
    | cons e es => simp [chk] at h), (fun kws h => by
    cases kws with
    | nil =>
      refine pk_can pk_nil fun lk σ H r M io Q st sl p => ?_
      obtain ⟨ds, e, p⟩ := p
      cases e
      exact p [] H io st (Ext.refl _ _) .nil
    | cons e es => simp [chk] at h), (fun es pos h => by cases h), (fun es pos h => by cases h), (fun tg e h => by cases h), (fun es h => by
    cases es with
    | nil =>
      refine pa_can pa_nil fun lk σ H r M io Q st sl p => ?_
      obtain ⟨ds, e, p⟩ := p
      cases e
      exact p [] H io st (Ext.refl _ _) .nil
    | cons e es => simp [chk] at h)⟩
theorem post_bl {r : Res} {f : D → Mem → Res} {lk : List Addr} {σ : L2.St} {H : Hp} {io : List Addr} {Q : Bool → Hp → Prop} {Qa : Bool → Hp → Prop} (p : PostT S W lk σ H io (r.bind f) Q) (hn : ∀ d M, (∀ b, d ≠ .bl b) → f d M = .stuck)
    (hk : ∀ b M1 H1 io1, Sto S lk H1 io1 M1 → Ext H io H1 io1 → PostT S W lk σ H1 io1 (f (.bl b) M1) Q → Qa b H1) : PostT S W lk σ H io r Qa := by
  cases r with
  | ok d M1 =>
    by_cases hd : ∃ b, d = .bl b
    · obtain ⟨b, rfl⟩ := hd
      exact ⟨b, rfl, fun H1 io1 st1 x1 => hk b M1 H1 io1 st1 x1 (PostT.ext x1 p)⟩
    · have e : f d M1 = .stuck := hn d M1 fun b z => hd ⟨b, z⟩
      have p' : PostT S W lk σ H io (f d M1) Q := p
      rw [e] at p'
      exact p'.elim
  | exn c fs M1 => exact p
  | stuck => exact p
theorem post_tbl {b : Bool} {lk : List Addr} {σ : L2.St} {H : Hp} {io : List Addr} {M : Mem} {Q : Bool → Hp → Prop} (st : Sto S lk H io M) (p : PostT S W lk σ H io (.ok (.bl b) M) Q) : Q b H := by
  obtain ⟨b', e, p⟩ := p
  cases e
  exact p H io st (Ext.refl _ _)
theorem tup_all {cf : Nat → List D → Mem → Res} : ∀ {as : CE} {r : Rho} {M M1 : Mem} {d : D}, ev T cf .t as r M = .ok d M1 → ∃ ds, d = .tup ds
  | .nil, _, _, _, _, h => by
    simp only [ev] at h
    cases h
    exact ⟨[], rfl⟩
  | .cons a rr, r, M, M1, d, q => by
    simp only [ev] at q
    cases ha : ev T cf .v a r M with
    | ok x M2 =>
      rw [ha] at q
      simp only [Res.bind] at q
      cases hb : ev T cf .t rr r M2 with
      | ok y M3 =>
        rw [hb] at q
        obtain ⟨ys, rfl⟩ := tup_all hb
        cases q
        exact ⟨_, rfl⟩
      | exn c fs M3 => rw [hb] at q; cases q
      | stuck => rw [hb] at q; cases q
    | exn c fs M3 => rw [ha] at q; cases q
    | stuck => rw [ha] at q; cases q
  | .scons a rr, r, M, M1, d, q => by
    simp only [ev] at q
    cases ha : ev T cf .v a r M with
    | ok x M2 =>
      rw [ha] at q
      simp only [Res.bind] at q
      split at q
      · cases hb : ev T cf .t rr r M2 with
        | ok y M3 =>
          rw [hb] at q
          obtain ⟨ys, rfl⟩ := tup_all hb
          cases q
          exact ⟨_, rfl⟩
        | exn c fs M3 => rw [hb] at q; cases q
        | stuck => rw [hb] at q; cases q
      · cases q
    | exn c fs M3 => rw [ha] at q; cases q
    | stuck => rw [ha] at q; cases q
  | .non, _, _, _, _, h | .bl _, _, _, _, _, h | .int _, _, _, _, _, h | .str _, _, _, _, _, h | .var _, _, _, _, _, h | .con _, _, _, _, _, h | .fnv _, _, _, _, _, h | .tyv _, _, _, _, _, h | .bin _ _ _, _, _, _, _, h
  | .rep _ _ _, _, _, _, _, h | .neg _, _, _, _, _, h | .not _, _, _, _, _, h | .and _, _, _, _, _, h | .or _, _, _, _, _, h | .cmp _ _ _, _, _, _, _, h | .ite _ _ _, _, _, _, _, h | .call _ _, _, _, _, _, h | .callv _ _, _, _, _, _, h
  | .callk _ _ _, _, _, _, _, h | .heard _, _, _, _, _, h | .bc _ _, _, _, _, _, h | .bm _ _ _, _, _, _, _, h | .cidx _ _, _, _, _, _, h | .ix _ _, _, _, _, _, h | .sl _ _ _, _, _, _, _, h | .tup _, _, _, _, _, h | .lst _ _, _, _, _, _, h
  | .lrange _ _, _, _, _, _, h | .lzip _ _ _, _, _, _, _, h | .dic _ _, _, _, _, _, h | .dicv _ _, _, _, _, _, h | .dnew, _, _, _, _, h | .lc _ _ _ _ _ _, _, _, _, _, h | .itv _, _, _, _, _, h | .itr _, _, _, _, _, h | .ite2 _, _, _, _, _, h
  | .itz _ _, _, _, _, _, h | .itzs _, _, _, _, _, h | .make _ _ _, _, _, _, _, h | .meth _ _ _ _, _, _, _, _, h | .fld _ _, _, _, _, _, h | .isiO _ _, _, _, _, _, h | .sm _ _ _, _, _, _, _, h | .chain _ _ _ _ _, _, _, _, _, h | .lsts _ _, _, _, _, _, h => by
    simp only [ev] at h
    cases h
theorem good_cons {a rr : CE} (ga : Good T S cf X W a) (gr : Good T S cf X W rr) : Good T S cf X W (.cons a rr) := by
  refine ⟨(fun e h => by cases h), fun es h => ?_, fun kws h => ?_, fun es pos h => ?_, fun es pos h => ?_, (fun tg e h => by cases h), fun es h => ?_⟩
  · skip
    cases es with
    | nil => simp [chk] at h
    | cons e es =>
      simp only [chk, Bool.and_eq_true] at h
      obtain ⟨⟨h1, h2⟩, h3⟩ := h
      refine pa_can (pa_cons (ga.v _ h2).1 (gr.l _ h3) (star_ok h1)) fun lk σ H r M io Q st sl p => ?_
      simp only [ev] at p
      refine ⟨lk, r, M, io, st, sl, ?_⟩
      cases q : ev T cf .v a r M with
      | ok d M1 =>
        rw [q] at p
        intro v1 H1 io1 st1 x1 rp1
        refine ⟨lk, r, M1, io1, st1, sl.mono x1, ?_⟩
        have p1 : PostA S W lk σ H io ((ev T cf .l rr r M1).bind fun xs M2 => .ok (consD d xs) M2) Q := p
        cases q2 : ev T cf .l rr r M1 with
        | ok d2 M2 =>
          rw [q2] at p1
          obtain ⟨ds, rfl, hl⟩ := len_all h3 q2
          refine ⟨ds, rfl, fun vs H2 io2 st2 x2 rp2 => ?_⟩
          obtain ⟨ds2, e2, p2⟩ := p1
          cases e2
          exact p2 _ H2 io2 st2 (x1.trans x2) (.cons (Rep.mono x2 _ _ rp1) rp2)
        | exn c fs M2 =>
          rw [q2] at p1
          exact fun cls dx H2 io2 st2 x2 z => p1 cls dx H2 io2 st2 (x1.trans x2) z
        | stuck => rw [q2] at p1; exact p1
      | exn c fs M1 => rw [q] at p; exact p
      | stuck => rw [q] at p; exact p
  · skip
    cases kws with
    | nil => simp [chk] at h
    | cons kw es =>
      obtain ⟨kn, e, kp⟩ := kw
      simp only [List.map_cons, chk, Bool.and_eq_true] at h
      obtain ⟨⟨h1, h2⟩, h3⟩ := h
      refine pk_can (pk_cons (ga.v _ h2).1 (gr.lk _ h3)) fun lk σ H r M io Q st sl p => ?_
      simp only [ev] at p
      refine ⟨lk, r, M, io, st, sl, ?_⟩
      cases q : ev T cf .v a r M with
      | ok d M1 =>
        rw [q] at p
        intro v1 H1 io1 st1 x1 rp1
        refine ⟨lk, r, M1, io1, st1, sl.mono x1, ?_⟩
        have p1 : PostA S W lk σ H io ((ev T cf .l rr r M1).bind fun xs M2 => .ok (consD d xs) M2) Q := p
        cases q2 : ev T cf .l rr r M1 with
        | ok d2 M2 =>
          rw [q2] at p1
          obtain ⟨ds, rfl, hl⟩ := len_all h3 q2
          refine ⟨ds, rfl, fun vs H2 io2 st2 x2 rp2 => ?_⟩
          obtain ⟨ds2, e2, p2⟩ := p1
          cases e2
          exact p2 _ H2 io2 st2 (x1.trans x2) (.cons (Rep.mono x2 _ _ rp1) rp2)
        | exn c fs M2 =>
          rw [q2] at p1
          exact fun cls dx H2 io2 st2 x2 z => p1 cls dx H2 io2 st2 (x1.trans x2) z
        | stuck => rw [q2] at p1; exact p1
      | exn c fs M1 => rw [q] at p; exact p
      | stuck => rw [q] at p; exact p
  · skip
    cases es with
    | nil => simp [chk] at h
    | cons e es =>
      simp only [chk, Bool.and_eq_true] at h
      obtain ⟨h1, h2⟩ := h
      obtain ⟨g1, g2⟩ := ga.v _ h2
      by_cases hn : rr.isNil = true
      · rw [if_pos hn] at h1
        cases es with
        | cons e2 es => cases h1
        | nil =>
          refine ⟨pe_can (pe_one g1) fun lk σ H r M io Q st sl p => ⟨lk, r, M, io, st, sl, ?_⟩, fun ht => pw_can (pw_and1 (g2 ?_)) fun lk σ H r M io Q st sl p => ⟨lk, r, M, io, st, sl, ?_⟩⟩
          · simp only [ev, if_pos hn] at p
            exact p
          · simp only [tst, Bool.and_eq_true] at ht
            exact ht.1
          · simp only [ev, if_pos hn] at p
            exact p
      · rw [if_neg hn, Bool.and_eq_true] at h1
        cases es with
        | nil => cases h1.1
        | cons e2 es =>
          obtain ⟨k1, k2⟩ := gr.a _ pos h1.2
          refine ⟨pe_can (pe_and g1 k1) fun lk σ H r M io Q st sl p => ?_, fun ht => ?_⟩
          · simp only [ev, if_neg hn] at p
            refine post_bind (A := canE S W (ev T cf .v a) σ H) (fun Qa ha => ⟨lk, r, M, io, st, sl, ha⟩) p fun d1 M1 v1 H1 io1 st1 x1 rp1 p1 => ?_
            cases d1 <;> try exact p1.elim
            rename_i b
            refine ⟨b, bl_of rp1, ?_⟩
            cases b with
            | true => exact ⟨lk, r, M1, io1, st1, sl.mono x1, p1⟩
            | false => exact post_ok st1 rep_bl p1
          · simp only [tst, Bool.and_eq_true, Bool.or_eq_true] at ht
            refine pw_can (pw_and (g2 ht.1) (k2 (ht.2.resolve_left hn))) fun lk σ H r M io Q st sl p => ⟨lk, r, M, io, st, sl, ?_⟩
            simp only [ev, if_neg hn] at p
            refine post_bl p (fun d M hd => ?_) fun b M1 H1 io1 st1 x1 p1 => ?_
            · split <;> first | exact absurd rfl (hd _) | rfl
            · cases b with
              | true => exact ⟨lk, r, M1, io1, st1, sl.mono x1, p1⟩
              | false => exact post_tbl st1 p1
  · skip
    cases es with
    | nil => simp [chk] at h
    | cons e es =>
      simp only [chk, Bool.and_eq_true] at h
      obtain ⟨h1, h2⟩ := h
      obtain ⟨g1, g2⟩ := ga.v _ h2
      by_cases hn : rr.isNil = true
      · rw [if_pos hn] at h1
        cases es with
        | cons e2 es => cases h1
        | nil =>
          refine ⟨pe_can (pe_one g1) fun lk σ H r M io Q st sl p => ⟨lk, r, M, io, st, sl, ?_⟩, fun ht => pw_can (pw_or1 (g2 ?_)) fun lk σ H r M io Q st sl p => ⟨lk, r, M, io, st, sl, ?_⟩⟩
          · simp only [ev, if_pos hn] at p
            exact p
          · simp only [tst, Bool.and_eq_true] at ht
            exact ht.1
          · simp only [ev, if_pos hn] at p
            exact p
      · rw [if_neg hn, Bool.and_eq_true] at h1
        cases es with
        | nil => cases h1.1
        | cons e2 es =>
          obtain ⟨k1, k2⟩ := gr.o _ pos h1.2
          refine ⟨pe_can (pe_or g1 k1) fun lk σ H r M io Q st sl p => ?_, fun ht => ?_⟩
          · simp only [ev, if_neg hn] at p
            refine post_bind (A := canE S W (ev T cf .v a) σ H) (fun Qa ha => ⟨lk, r, M, io, st, sl, ha⟩) p fun d1 M1 v1 H1 io1 st1 x1 rp1 p1 => ?_
            cases d1 <;> try exact p1.elim
            rename_i b
            refine ⟨b, bl_of rp1, ?_⟩
            cases b with
            | false => exact ⟨lk, r, M1, io1, st1, sl.mono x1, p1⟩
            | true => exact post_ok st1 rep_bl p1
          · simp only [tst, Bool.and_eq_true, Bool.or_eq_true] at ht
            refine pw_can (pw_or (g2 ht.1) (k2 (ht.2.resolve_left hn))) fun lk σ H r M io Q st sl p => ⟨lk, r, M, io, st, sl, ?_⟩
            simp only [ev, if_neg hn] at p
            refine post_bl p (fun d M hd => ?_) fun b M1 H1 io1 st1 x1 p1 => ?_
            · split <;> first | exact absurd rfl (hd _) | rfl
            · cases b with
              | false => exact ⟨lk, r, M1, io1, st1, sl.mono x1, p1⟩
              | true => exact post_tbl st1 p1
  · skip
    cases es with
    | nil => simp [chk] at h
    | cons e es =>
      simp only [chk, Bool.and_eq_true] at h
      obtain ⟨⟨h1, h2⟩, h3⟩ := h
      refine pa_can (pa_cons (ga.v _ h2).1 (gr.t _ h3) (star_ok h1)) fun lk σ H r M io Q st sl p => ?_
      simp only [ev] at p
      refine ⟨lk, r, M, io, st, sl, ?_⟩
      cases q : ev T cf .v a r M with
      | ok d M1 =>
        rw [q] at p
        intro v1 H1 io1 st1 x1 rp1
        refine ⟨lk, r, M1, io1, st1, sl.mono x1, ?_⟩
        have p1 : PostA S W lk σ H io ((ev T cf .t rr r M1).bind fun xs M2 => .ok (consD d xs) M2) Q := p
        cases q2 : ev T cf .t rr r M1 with
        | ok d2 M2 =>
          rw [q2] at p1
          obtain ⟨ds, rfl⟩ := tup_all q2
          refine ⟨ds, rfl, fun vs H2 io2 st2 x2 rp2 => ?_⟩
          obtain ⟨ds2, e2, p2⟩ := p1
          cases e2
          exact p2 _ H2 io2 st2 (x1.trans x2) (.cons (Rep.mono x2 _ _ rp1) rp2)
        | exn c fs M2 =>
          rw [q2] at p1
          exact fun cls dx H2 io2 st2 x2 z => p1 cls dx H2 io2 st2 (x1.trans x2) z
        | stuck => rw [q2] at p1; exact p1
      | exn c fs M1 => rw [q] at p; exact p
      | stuck => rw [q] at p; exact p
end
end Iv

/-! ## IvH2 -/
/-! Iv, part H2: instances, texts, starred lists, chained comparisons. -/
namespace Iv
open PySem PySem.Spec PyProof.Rows L2
section
variable {T : Tab} {S : Sta} {cf : Nat → List D → Mem → Res} {k : Nat} {X : Cx} {W : WX}
theorem good_scons (C : Con T S cf k X W) {a rr : CE} (ga : Good T S cf X W a) (gr : Good T S cf X W rr) : Good T S cf X W (.scons a rr) := by
  refine ⟨(fun e h => by cases h), (fun es h => by cases h), (fun es h => by cases h), (fun es pos h => by cases h), (fun es pos h => by cases h), (fun tg e h => by cases h), fun es h => ?_⟩
  cases es with
  | nil => simp [chk] at h
  | cons e es =>
    simp only [chk] at h
    split at h
    · rename_i e1 p1 es1 heq
      cases heq
      simp only [Bool.and_eq_true] at h
      obtain ⟨h2, h3⟩ := h
      refine pa_can (StX.pa_star (ga.v _ h2).1 (gr.t _ h3)) fun lk σ H r M io Q st sl p => ?_
      simp only [ev] at p
      refine ⟨lk, r, M, io, st, sl, ?_⟩
      cases q : ev T cf .v a r M with
      | ok d M1 =>
        rw [q] at p
        intro v1 H1 io1 st1 x1 rp1
        simp only [Res.bind] at p
        split at p
        · rename_i xs ex
          obtain ⟨t, b, vs, rfl, k1, _, k2⟩ := seq_rep st1 ex rp1
          refine ⟨b, vs, rfl, by rw [C.sk]; exact k1.or.symm, lk, r, M1, io1, st1, sl.mono x1, ?_⟩
          have p1 : PostA S W lk σ H io ((ev T cf .t rr r M1).bind fun xs' M2 => .ok (appD xs xs') M2) Q := p
          cases q2 : ev T cf .t rr r M1 with
          | ok d2 M2 =>
            rw [q2] at p1
            obtain ⟨ds, rfl⟩ := tup_all q2
            refine ⟨ds, rfl, fun us H2 io2 st2 x2 rp2 => ?_⟩
            obtain ⟨ds2, e2, p2⟩ := p1
            cases e2
            exact p2 _ H2 io2 st2 (x1.trans x2) ((Reps.mono x2 _ _ k2).append rp2)
          | exn c fs M2 =>
            rw [q2] at p1
            exact fun cls dx H2 io2 st2 x2 z => p1 cls dx H2 io2 st2 (x1.trans x2) z
          | stuck => rw [q2] at p1; exact p1
        · exact (show False from p).elim
      | exn c fs M1 => rw [q] at p; exact p
      | stuck => rw [q] at p; exact p
    · cases h
theorem good_lsts {m : Bool} {as : CE} (ga : Good T S cf X W as) : Good T S cf X W (.lsts m as) := good_p (fun e h => by
  cases e <;> simp only [chk, Bool.false_eq_true] at h
  rename_i es pos
  refine ⟨pe_can (pe_lst (ga.t _ h)) fun lk σ H r M io Q st sl p => ?_, .inl rfl⟩
  simp only [ev] at p
  refine ⟨lk, r, M, io, st, sl, ?_⟩
  cases q : ev T cf .t as r M with
  | ok d M1 =>
    rw [q] at p
    obtain ⟨ds, rfl⟩ := tup_all q
    refine ⟨ds, rfl, fun vs H1 io1 st1 x1 rp => ?_⟩
    simp only [Res.bind] at p
    split at p
    · rename_i hl
      have hl2 : vs.length ≤ lim := by
        rw [← rp.length]
        exact hl
      exact ⟨Nat.le_trans hl2 lim_line, post_mk st1 rp hl2 (PostE.ext x1 p)⟩
    · exact (show False from p).elim
  | exn c fs M1 => rw [q] at p; exact p
  | stuck => rw [q] at p; exact p) (fun m hm s => by cases m <;> first | exact absurd rfl hm | rfl)
theorem good_sm (C : Con T S cf k X W) {f : SF} {o as : CE} (go : Good T S cf X W o) (ga : Good T S cf X W as) : Good T S cf X W (.sm f o as) := good_p (fun e h => by
  simp only [chk] at h
  split at h
  · rename_i x nm apos e1 es pos heq
    cases heq
    simp only [Bool.and_eq_true, decide_eq_true_eq] at h
    obtain ⟨⟨⟨⟨⟨⟨⟨h1, h2⟩, h3⟩, h4⟩, h7⟩, h8⟩, h5⟩, h6⟩ := h
    subst h1
    obtain ⟨r1, hr, red⟩ := sfn_ok (W := W) C.sk f
    refine ⟨pe_can (pe_bm PySem.F.plainAttrs_str (slot_sf f) (type_sf f) hr (go.v _ h5).1 (ga.l _ h6) (base_ok h2) (few_ok h4 h7 h8) h3 (star_ok h4) (stars_ok h7)) fun lk σ H r M io Q st sl p => ?_, .inl rfl⟩
    simp only [ev] at p
    refine post_bind (A := canE S W (ev T cf .v o) σ H) (fun Qa ha => ⟨lk, r, M, io, st, sl, ha⟩) p fun d1 M1 v1 H1 io1 st1 x1 rp1 p1 => ?_
    cases d1 <;> try exact p1.elim
    rename_i z
    have ez := str_of rp1
    subst ez
    refine ⟨rfl, ?_⟩
    refine post_bindA (A := canA S W (ev T cf .l as) σ H1) (fun Qa ha => ⟨lk, r, M1, io1, st1, sl.mono x1, ha⟩) p1 (fun d M1 hd => ?_) fun ds M2 vs H2 io2 st2 x2 rp2 p2 => ?_
    · split
      · exact absurd rfl (hd _)
      · rfl
    · exact red lk σ H2 io2 M2 _ _ ds vs Q st2 (Rep.mono x2 _ _ rp1) rp2 p2
  · cases h) (fun m hm s => by cases m <;> first | exact absurd rfl hm | rfl)
theorem good_chain (C : Con T S cf k X W) {o o' : CO} {a b c : CE} (ga : Good T S cf X W a) (gb : Good T S cf X W b) (gc : Good T S cf X W c) : Good T S cf X W (.chain o o' a b c) := good_v (fun e h => by
  simp only [chk] at h
  split at h
  · rename_i x op op' y z pos heq
    cases heq
    simp only [Bool.and_eq_true] at h
    obtain ⟨⟨⟨⟨⟨h1, h1'⟩, h0⟩, h2⟩, h3⟩, h4⟩ := h
    obtain ⟨r2, hr, red⟩ := cop_ok (W := W) C.sk C.room.units o op h1
    obtain ⟨r2', hr', red'⟩ := cop_ok (W := W) C.sk C.room.units o' op' h1'
    have hb : lastMarks [op, op'] [y, z] = false := by
      cases z <;> first | rfl | (simp only [notSet, Bool.false_eq_true] at h0)
    have key : ∀ {lk : List Addr} {σ : L2.St} {H : Hp} {r : Rho} {M : Mem} {io : List Addr} {Q : VK}, Sto S lk H io M → Slots S lk H io σ r → PostE S W lk σ H io (ev T cf .v (.chain o o' a b c) r M) Q →
        tChain r2 r2' (canE S W (ev T cf .v a)) (canE S W (ev T cf .v b)) (canE S W (ev T cf .v c)) σ H Q := by
      intro lk σ H r M io Q st sl p
      simp only [ev] at p
      refine post_bind (A := canE S W (ev T cf .v a) σ H) (fun Qa ha => ⟨lk, r, M, io, st, sl, ha⟩) p fun d1 M1 v1 H1 io1 st1 x1 rp1 p1 => ?_
      refine post_bind (A := canE S W (ev T cf .v b) σ H1) (fun Qa ha => ⟨lk, r, M1, io1, st1, sl.mono x1, ha⟩) p1 fun d2 M2 v2 H2 io2 st2 x2 rp2 p2 => ?_
      refine red lk σ H2 io2 M2 d1 d2 v1 v2 _ st2 (Rep.mono x2 _ _ rp1) rp2 ?_
      cases q : cop o d1 d2 M2 with
      | ok d3 M3 =>
        rw [q] at p2
        intro v3 H3 io3 st3 x3 rp3
        simp only [Res.bind] at p2
        split at p2
        · refine ⟨true, bl_of rp3, ?_⟩
          rw [if_pos rfl]
          have sl3 := ((sl.mono x1).mono x2).mono x3
          refine post_bind (A := canE S W (ev T cf .v c) σ H3) (fun Qa ha => ⟨lk, r, M3, io3, st3, sl3, ha⟩) (PostE.ext x3 p2) fun d4 M4 v4 H4 io4 st4 x4 rp4 p4 => ?_
          exact red' lk σ H4 io4 M4 d2 d4 v2 v4 Q st4 (Rep.mono x4 _ _ (Rep.mono x3 _ _ rp2)) rp4 p4
        · refine ⟨false, bl_of rp3, ?_⟩
          rw [if_neg Bool.false_ne_true]
          exact post_ok st3 rep_bl (PostE.ext x3 p2)
        · exact (show False from p2).elim
      | exn c fs M3 => rw [q] at p2; exact p2
      | stuck => rw [q] at p2; exact p2
    refine ⟨pe_can (pe_chain hr hr' (ga.v _ h2).1 (gb.v _ h3).1 (gc.v _ h4).1 hb) fun lk σ H r M io Q st sl p => key st sl p, fun _ => pt_can (pt_chain hr hr' (ga.v _ h2).1 (gb.v _ h3).1 (gc.v _ h4).1 hb) fun lk σ H r M io Q st sl p => ?_⟩
    exact key st sl (post_TE p)
  · cases h) (fun m hm s => by cases m <;> first | exact absurd rfl hm | rfl)
/-! ### instances -/
theorem ins_rep {lk : List Addr} {H : Hp} {io : List Addr} {M : Mem} {d : D} {v : V} {c : Nat} {fs : List (Str × D)} (st : Sto S lk H io M) (h : Rep S lk H io d v) (e : insOf M d = some (c, fs)) :
    ∃ a C dx kvs, v = .ref a ∧ S.ia c = some C ∧ H a = some (.ins C dx kvs) ∧ kvs.map (·.1) = fs.map (·.1) ∧ Reps S lk H io (fs.map (·.2)) (kvs.map (·.2)) := by
  cases d <;> simp only [insOf] at e <;> try cases e
  · rename_i ns xs
    unfold Rep at h
    obtain ⟨a, C, dx, kvs, rfl, h0, h1, _, hk, hr⟩ := h
    have l := hr.length
    rw [List.length_map] at l
    obtain ⟨z1, z2⟩ := zip_fst (a := kvs.map (·.1)) (b := xs) (by rw [List.length_map, l])
    subst hk
    exact ⟨a, C, dx, kvs, rfl, h0, h1, by rw [z1], by rw [z2]; exact hr⟩
  · rename_i i
    split at e
    · rename_i c' fs' em
      cases e
      unfold Rep at h
      obtain ⟨a, ha, rfl⟩ := h
      obtain ⟨b, o, h1, h2, C, dx, kvs, rfl, h3, h4, h5, h6⟩ := st.cell i _ em
      rw [ha] at h1
      cases h1
      exact ⟨a, C, dx, kvs, rfl, h3, h2, h5, h6⟩
    · cases e
theorem fld_rep {lk : List Addr} {H : Hp} {io : List Addr} {f : Str} {d : D} : ∀ {fs : List (Str × D)} {kvs : List (Str × V)}, kvs.map (·.1) = fs.map (·.1) → Reps S lk H io (fs.map (·.2)) (kvs.map (·.2)) → fs.lookup f = some d → ∃ v, kvs.lookup f = some v ∧ Rep S lk H io d v
  | [], _, _, _, e => by cases e
  | p :: fs, [], h, _, _ => by cases h
  | (g, y) :: fs, (g', w) :: kvs, h, r, e => by
    simp only [List.map_cons, List.cons.injEq] at h
    obtain ⟨rfl, h2⟩ := h
    obtain ⟨v, r', e1, h1, h3⟩ := r.inv
    simp only [List.map_cons, List.cons.injEq] at e1
    obtain ⟨rfl, rfl⟩ := e1
    rw [List.lookup_cons] at e ⊢
    split at e
    · rename_i q
      cases e
      exact ⟨w, rfl, h1⟩
    · rename_i q
      exact fld_rep h2 h3 e
theorem look_none {f : Str} : ∀ {kvs : List (Str × V)}, (kvs.map (·.1)).contains f = false → kvs.lookup f = none
  | [], _ => rfl
  | (g, w) :: kvs, h => by
    rw [List.map_cons, List.contains_cons, Bool.or_eq_false_iff] at h
    rw [List.lookup_cons, h.1]
    exact look_none h.2
theorem good_fld (C : Con T S cf k X W) {f : Str} {o : CE} (go : Good T S cf X W o) : Good T S cf X W (.fld f o) := good_p (fun e h => by
  simp only [chk] at h
  split at h
  · rename_i x nm pos heq
    cases heq
    simp only [Bool.and_eq_true, decide_eq_true_eq] at h
    obtain ⟨⟨h1, h2⟩, h3⟩ := h
    subst h1
    refine ⟨pe_can (pe_fld (go.v _ h3).1 (base_ok h2)) fun lk σ H r M io Q st sl p => ?_, .inl rfl⟩
    simp only [ev] at p
    refine post_bind (A := canE S W (ev T cf .v o) σ H) (fun Qa ha => ⟨lk, r, M, io, st, sl, ha⟩) p fun d1 M1 v1 H1 io1 st1 x1 rp1 p1 => ?_
    split at p1
    rotate_left
    · exact (show False from p1).elim
    rename_i c fs ei
    split at p1
    rotate_left
    · exact (show False from p1).elim
    rename_i pc ep
    split at p1
    rotate_left
    · exact (show False from p1).elim
    rename_i hf
    split at p1
    rotate_left
    · exact (show False from p1).elim
    rename_i d ed
    obtain ⟨a, C1, dx, kvs, rfl, k1, k2, k3, k4⟩ := ins_rep st1 rp1 ei
    obtain ⟨C2, q1, q2, q3, q4, q5, q6, q7, q8, _⟩ := C.icl c pc ep
    rw [k1] at q1
    cases q1
    obtain ⟨w, e1, e2⟩ := fld_rep k3 k4 ed
    refine ⟨a, C1, dx, kvs, w, rfl, k2, q3, q8 _ (List.contains_iff_mem.mp hf), e1, post_ok st1 e2 p1⟩
  · cases h) (fun m hm s => by cases m <;> first | exact absurd rfl hm | rfl)
end
section
variable {S : Sta} {lk : List Addr} {H H1 : Hp} {io io1 : List Addr} {M : Mem}
theorem Sto.cut (r : Sto S lk H1 io1 M) {t : List Addr} (e : io1 = io ++ t) : Sto S lk H1 io (M.take io.length) := by
  have hs : ∀ a ∈ io, a ∈ io1 := fun a h => by
    rw [e]
    exact List.mem_append_left _ h
  refine ⟨?_, ?_, fun i c hc => ?_, fun a ha => ⟨(r.lkd a ha).1, fun z => (r.lkd a ha).2 (hs a z)⟩, r.tabs⟩
  · have n := r.nd
    rw [e] at n
    exact (List.nodup_append.mp n).1
  · have hl := r.len
    rw [e, List.length_append] at hl
    rw [List.length_take]
    omega
  · have hi : i < io.length := by
      have q := (List.getElem?_eq_some_iff.mp hc).1
      rw [List.length_take] at q
      omega
    rw [List.getElem?_take_of_lt hi] at hc
    obtain ⟨a, o, h1, h2, h3⟩ := r.cell i c hc
    rw [e, List.getElem?_append_left hi] at h1
    exact ⟨a, o, h1, h2, h3.of fun _ _ g q => Reps.ground hs _ _ g q⟩
end
section
variable {T : Tab} {S : Sta} {cf : Nat → List D → Mem → Res} {k : Nat} {X : Cx} {W : WX}
theorem good_isiO (C : Con T S cf k X W) {o : CE} {c : Nat} (go : Good T S cf X W o) : Good T S cf X W (.isiO o c) := good_p (fun e h => by
  simp only [chk] at h
  split at h
  · rename_i x p e1 y p2 pos heq
    cases heq
    split at h
    · rename_i pc epc
      simp only [Bool.and_eq_true] at h
      obtain ⟨⟨⟨h1, h2⟩, h3⟩, h4⟩ := h
      obtain ⟨n1, n2, n3⟩ := gn_of h1
      subst n1
      obtain ⟨m1, m2, m3⟩ := gn_of h2
      obtain ⟨C2, q1, q2, q3, q3b, q4, q5, q6, q7, q8, q9⟩ := C.icl c pc epc
      have bb : bootBuiltins ("isinstance" : Str) = some (.builtin "isinstance") := boot_bf .isi
      refine ⟨pe_can (pe_callB call_isi n2 (C.blt _ (by decide +kernel)) bb (pa_cons (go.v _ h4).1 (pa_cons (pe_glob (v := .ref C2) m2 (by rw [m1]; exact q2) rfl m3) pa_nil) (star_ok h3)) (by decide +kernel) (by decide +kernel) (star_ok h3) (stars_ok (es := [_]) rfl)) fun lk σ H r M io Q st sl p => ?_, .inl rfl⟩
      simp only [ev] at p
      refine post_bind (A := canE S W (ev T cf .v o) σ H) (fun Qa ha => ⟨lk, r, M, io, st, sl, ha⟩) p fun d1 M1 v1 H1 io1 st1 x1 rp1 p1 => ?_
      split at p1
      · rename_i c' fs ei
        split at p1
        · rename_i p' ep'
          split at p1
          · rename_i hlt
            obtain ⟨a, C1, dx, kvs, rfl, k1, k2, k3, k4⟩ := ins_rep st1 rp1 ei
            obtain ⟨C3, r1, r2, r3, r3b, ⟨t1, t2, t3, t4⟩, r5, r6, r7, r8, r9⟩ := C.icl c' p' ep'
            rw [k1] at r1
            cases r1
            exact ⟨.ref a, .ref C2, .ref C1, .ref C2, _, rfl, .own _, .base (.ins k2 r3 t1 t2 t3 t4), r8 c C2 hlt q1, post_ok st1 rep_bl p1⟩
          · exact (show False from p1).elim
        · exact (show False from p1).elim
      · split at p1
        · rename_i t et
          split at p1
          · exact ⟨v1, .ref C2, _, .ref C2, false, rfl, .own _, by rw [C.sk]; exact ty_rep st1 et rp1, q9 t, post_ok st1 rep_bl p1⟩
          · exact (show False from p1).elim
        · exact (show False from p1).elim
    · cases h
  · cases h) (fun m hm s => by cases m <;> first | exact absurd rfl hm | rfl)
theorem look_mem {f : Str} {g : Nat} : ∀ {ms : List (Str × Nat)}, ms.lookup f = some g → (f, g) ∈ ms
  | [], h => by cases h
  | (x, y) :: ms, h => by
    rw [List.lookup_cons] at h
    split at h
    · rename_i q
      cases h
      rw [eq_of_beq q]
      exact List.mem_cons_self
    · exact List.mem_cons_of_mem _ (look_mem h)
theorem meth_eval {x : Str} {xp : Pos} {name : Str} {apos pos : Pos} {es : List Expr} {env : PySem.Env} (hn : es.all nst = true) (h8 : es.length ≤ 8) (hl : (apos.endLine == pos.line) = true) :
    eval (.Call (.Attribute (.Name x xp) name apos) es [] pos) env = (do
      let ov ← eval (.Name x xp) env
      standAt apos.atName
      let (f, first) ← holding [ov] (getMethod ov name (do return (← importBound (.Name x xp) env).getD true))
      callWith pos f first (backTo pos (starEach es env)) (backToKw pos (keywordEach [] env))) := by
  have hf : methodCallForm (es.length + ([] : List Keyword).length) (backTo pos (starEach es env)) (backToKw pos (keywordEach [] env)) = true := by
    unfold methodCallForm
    rw [few_all hn, Bool.true_and, Bool.and_eq_true]
    refine ⟨rfl, decide_eq_true ?_⟩
    show es.length + 0 + 0 < 30
    omega
  have e0 : eval (.Call (.Attribute (.Name x xp) name apos) es [] pos) env = (do
      let ov ← eval (.Name x xp) env
      standAt apos.atName
      methodCall (.Name x xp) name apos pos env ov (es.length + ([] : List Keyword).length) (backTo pos (starEach es env)) (backToKw pos (keywordEach [] env))) := by
    rfl
  rw [e0]
  unfold methodCall calleeOf methodCallPos
  simp only [hf, hl, if_true, Bool.not_true, Bool.false_or, pure_bind]
theorem good_meth (C : Con T S cf k X W) {c : Nat} {f : Str} {o as : CE} (go : Good T S cf X W o) (ga : Good T S cf X W as) : Good T S cf X W (.meth c f o as) := good_p (fun e h => by
  simp only [chk] at h
  split at h
  · rename_i x xp nm apos es pos heq
    cases heq
    split at h
    rotate_left
    · cases h
    rename_i p ep
    split at h
    rotate_left
    · cases h
    rename_i g eg
    simp only [Bool.and_eq_true, decide_eq_true_eq] at h
    obtain ⟨⟨⟨⟨⟨⟨hg, h1⟩, h5⟩, h6⟩, h2⟩, h3⟩, h4⟩ := h
    subst h1
    have ed : T.defs[g]? = some T.defs[g] := List.getElem?_eq_getElem hg
    obtain ⟨C1, q1, q2, q3, q3b, q4, q5, q6, q7, q8, q9⟩ := C.icl c p ep
    obtain ⟨f1, e1, hm⟩ := q6 _ (look_mem eg)
    obtain ⟨f2, fd, z1, z2, z3, z4, F⟩ := C.fns g _ ed
    rw [show S.fa g = some f1 from e1] at z1
    cases z1
    have key : ∀ {t : L2.TA}, (∀ {lk : List Addr} {σ : L2.St} {H : Hp} {r : Rho} {M : Mem} {io : List Addr} {Q : List V → Hp → Prop}, Sto S lk H io M → Slots S lk H io σ r → PostA S W lk σ H io (ev T cf .l as r M) Q → t σ H Q) →
        ∀ {lk : List Addr} {σ : L2.St} {H : Hp} {r : Rho} {M : Mem} {io : List Addr} {Q : VK}, Sto S lk H io M → Slots S lk H io σ r → PostE S W lk σ H io (ev T cf .v (.meth c nm o as) r M) Q →
        tMethG C1 nm (spD S (cf g) T.defs[g].ps.length) W (canE S W (ev T cf .v o)) t σ H Q := by
      intro t ht lk σ H r M io Q st sl p0
      simp only [ev] at p0
      refine post_bind (A := canE S W (ev T cf .v o) σ H) (fun Qa ha => ⟨lk, r, M, io, st, sl, ha⟩) p0 fun d1 M1 v1 H1 io1 st1 x1 rp1 p1 => ?_
      split at p1
      rotate_left
      · exact (show False from p1).elim
      rename_i c' fs ei
      split at p1
      rotate_left
      · exact (show False from p1).elim
      rename_i hc
      obtain ⟨rfl, hn⟩ := hc
      obtain ⟨a, C2, dx, kvs, rfl, k1, k2, k3, k4⟩ := ins_rep st1 rp1 ei
      rw [q1] at k1
      cases k1
      refine ⟨a, dx, kvs, rfl, k2, look_none (by rw [k3]; exact hn), ?_⟩
      refine post_bindA (A := t σ H1) (fun Qa ha => ht st1 (sl.mono x1) ha) p1 (fun d M1 hd => ?_) fun ds M2 vs H2 io2 st2 x2 rp2 p2 => ?_
      · split
        · exact absurd rfl (hd _)
        · rfl
      · simp only [ep, eg, if_pos hg] at p2
        by_cases hl : (d1 :: ds).length = T.defs[g].ps.length
        · exact sp_post st2 (.cons (Rep.mono x2 _ _ rp1) rp2) hl p2
        · rw [C.ar g _ (d1 :: ds) M2 ed hl] at p2
          exact p2.elim
    cases es with
    | nil =>
      have ht : ∀ {lk : List Addr} {σ : L2.St} {H : Hp} {r : Rho} {M : Mem} {io : List Addr} {Q : List V → Hp → Prop}, Sto S lk H io M → Slots S lk H io σ r → PostA S W lk σ H io (ev T cf .l as r M) Q → tNil σ H Q := by
        intro lk σ H r M io Q st sl p0
        have en : as = .nil := by
          cases as <;> first | rfl | (simp [chk] at h4)
        subst en
        obtain ⟨ds, e, p0⟩ := p0
        cases e
        exact p0 [] H io st (Ext.refl _ _) .nil
      exact ⟨pe_can (pe_methG0 (go.v _ h3).1 q3 hm F C.room (fun _ => C.gu) (.all z4.1) C.tk (meth_eval (es := []) rfl (Nat.zero_le _) h5)) fun lk σ H r M io Q st sl p0 => key ht st sl p0, .inl rfl⟩
    | cons e1 es =>
      have h2' := h2
      rw [List.all_cons, Bool.and_eq_true] at h2
      exact ⟨pe_can (pe_methG (go.v _ h3).1 q3 hm F C.room (fun _ => C.gu) (.all z4.1) C.tk (ga.l _ h4) h2.1 h2.2 (meth_eval h2' h6 h5)) fun lk σ H r M io Q st sl p0 => key (fun st sl p => ⟨_, _, _, _, st, sl, p⟩) st sl p0, .inl rfl⟩
  · cases h) (fun m hm s => by cases m <;> first | exact absurd rfl hm | rfl)
theorem good_make (C : Con T S cf k X W) {m : Bool} {c : Nat} {as : CE} (ga : Good T S cf X W as) : Good T S cf X W (.make m c as) := good_p (fun e h => by
  simp only [chk] at h
  split at h
  · rename_i x xp es pos heq
    cases heq
    split at h
    rotate_left
    · cases h
    rename_i p ep
    simp only [Bool.and_eq_true, decide_eq_true_eq] at h
    obtain ⟨⟨⟨hg, h1⟩, h2⟩, h4⟩ := h
    obtain ⟨n1, n2, n3⟩ := gn_of h1
    have ed : T.defs[p.init]? = some T.defs[p.init] := List.getElem?_eq_getElem hg
    obtain ⟨C1, q1, q2, q3, q3b, q4, q5, q6, q7, q8, q9⟩ := C.icl c p ep
    obtain ⟨f1, e1, Mk1⟩ := q5 hg
    obtain ⟨f2, fd, z1, z2, z3, z4, F⟩ := C.fns p.init _ ed
    rw [e1] at z1
    cases z1
    have key : ∀ {t : L2.TA}, (∀ {lk : List Addr} {σ : L2.St} {H : Hp} {r : Rho} {M : Mem} {io : List Addr} {Q : List V → Hp → Prop}, Sto S lk H io M → Slots S lk H io σ r → PostA S W lk σ H io (ev T cf .l as r M) Q → t σ H Q) →
        ∀ {lk : List Addr} {σ : L2.St} {H : Hp} {r : Rho} {M : Mem} {io : List Addr} {Q : VK}, Sto S lk H io M → Slots S lk H io σ r → PostE S W lk σ H io (ev T cf .v (.make m c as) r M) Q →
        tMakeG C1 (spD S (cf p.init) T.defs[p.init].ps.length) W t σ H Q := by
      intro t ht lk σ H r M io Q st sl p0
      simp only [ev] at p0
      refine post_bindA (A := t σ H) (fun Qa ha => ht st sl ha) p0 (fun d M1 hd => ?_) fun ds M1 vs H1 io1 st1 x1 rp1 p1 => ?_
      · split
        · exact absurd rfl (hd _)
        · rfl
      intro a dx ha hdx hne
      simp only [ep, if_pos hg] at p1
      have hax : (upd H1 dx (.own a)) a = none := by rw [upd_ne (Ne.symm hne)]; exact ha
      have X1 : Ext H1 io1 (upd H1 dx (.own a)) io1 := Ext.laid hdx
      have X2 : Ext (upd H1 dx (.own a)) io1 (upd (upd H1 dx (.own a)) a (.ins C1 dx [])) (io1 ++ [a]) := Ext.own hax
      have st2 : Sto S lk (upd (upd H1 dx (.own a)) a (.ins C1 dx [])) (io1 ++ [a]) (M1 ++ [.ins c []]) := (st1.laid hdx).ownC hax ⟨C1, dx, [], rfl, q1, rfl, rfl, .nil⟩
      have hM : M1.length = io1.length := st1.len.symm
      have hat : (io1 ++ [a])[M1.length]? = some a := by
        rw [hM, List.getElem?_append_right (Nat.le_refl _), Nat.sub_self]
        rfl
      have rp2 : Reps S lk (upd (upd H1 dx (.own a)) a (.ins C1 dx [])) (io1 ++ [a]) (.ref M1.length :: ds) (.ref a :: vs) := .cons (by unfold Rep; exact ⟨a, hat, rfl⟩) (Reps.mono (X1.trans X2) _ _ rp1)
      by_cases hl : (D.ref M1.length :: ds).length = T.defs[p.init].ps.length
      rotate_left
      · rw [C.ar p.init _ _ _ ed hl] at p1
        exact (show False from p1).elim
      refine ⟨lk, io1 ++ [a], M1 ++ [.ins c []], .ref M1.length :: ds, st2, rp2, hl, ?_⟩
      cases qe : cf p.init (.ref M1.length :: ds) (M1 ++ [.ins c []]) with
      | ok d M2 =>
        rw [qe] at p1
        intro v H2 io2 st3 x3 rp3
        unfold made at p1
        simp only [Res.bind] at p1
        split at p1
        rotate_left
        · exact (show False from p1).elim
        refine ⟨non_of rp3, ?_⟩
        have X3 := (X1.trans X2).trans x3
        cases m with
        | true =>
          exact p1 _ H2 io2 st3 X3 (by unfold Rep; exact ⟨a, x3.at hat, rfl⟩)
        | false =>
          simp only at p1
          split at p1
          rotate_left
          · exact (show False from p1).elim
          rename_i c' fs em
          split at p1
          rotate_left
          · exact (show False from p1).elim
          rename_i hc
          obtain ⟨c1, c2⟩ := hc
          obtain ⟨b, o, b1, b2, C3, dx3, kvs, rfl, b3, b4, b5, b6⟩ := st3.cell _ _ em
          rw [x3.at hat] at b1
          cases b1
          obtain ⟨t0, et⟩ := x3.pre
          have lt : t0 = [] := by
            have l1 := st3.len
            rw [et, List.length_append, List.length_append, c1, hM] at l1
            simp only [List.length_singleton] at l1
            exact List.length_eq_zero_iff.mp (by omega)
          rw [lt, List.append_nil] at et
          have sc := st3.cut et
          rw [← hM] at sc
          have hs : ∀ y ∈ io1, y ∈ io2 := fun y hy => by rw [et]; exact List.mem_append_left _ hy
          refine p1 _ H2 io1 sc X3.dis ?_
          unfold Rep
          refine ⟨a, C3, dx3, kvs, rfl, b3, b2, fun hm => ?_, b5, Reps.ground hs _ _ b4 b6⟩
          have nd := st3.nd
          rw [et, List.nodup_append] at nd
          exact nd.2.2 a hm a (by simp) rfl
      | exn c3 fs M2 =>
        rw [qe] at p1
        have p2 : PostE S W lk σ H1 io1 (.exn c3 fs M2) Q := p1
        exact fun cls dx' H2 io2 st3 x3 rx => p2 cls dx' H2 io2 st3 ((X1.trans X2).trans x3) rx
      | stuck => rw [qe] at p1; exact (show False from p1).elim
    cases es with
    | nil =>
      have ht : ∀ {lk : List Addr} {σ : L2.St} {H : Hp} {r : Rho} {M : Mem} {io : List Addr} {Q : List V → Hp → Prop}, Sto S lk H io M → Slots S lk H io σ r → PostA S W lk σ H io (ev T cf .l as r M) Q → tNil σ H Q := by
        intro lk σ H r M io Q st sl p0
        have en : as = .nil := by
          cases as <;> first | rfl | (simp [chk] at h4)
        subst en
        obtain ⟨ds, e, p0⟩ := p0
        cases e
        exact p0 [] H io st (Ext.refl _ _) .nil
      exact ⟨pe_can (pe_makeG0 Mk1 F C.room1 (fun _ => C.gu) n2 (by rw [n1]; exact q2) (.all z4.1) C.tk n3) fun lk σ H r M io Q st sl p0 => key ht st sl p0, .inl rfl⟩
    | cons e1 es =>
      rw [List.all_cons, Bool.and_eq_true] at h2
      exact ⟨pe_can (pe_makeG Mk1 F C.room1 (fun _ => C.gu) n2 (by rw [n1]; exact q2) (.all z4.1) C.tk (ga.l _ h4) n3 h2.1 h2.2) fun lk σ H r M io Q st sl p0 => key (fun st sl p => ⟨_, _, _, _, st, sl, p⟩) st sl p0, .inl rfl⟩
  · cases h) (fun m hm s => by cases m <;> first | exact absurd rfl hm | rfl)
end
end Iv

/-! ## IvJ -/
/-! Iv, part J: walks and comprehensions. -/
namespace Iv
open PySem PySem.Spec PyProof.Rows L2
section
variable {T : Tab} {S : Sta} {cf : Nat → List D → Mem → Res} {k : Nat} {X : Cx} {W : WX}

/-! ### what stands fast while it is walked -/
theorem sq_keep {lk : List Addr} {H : Hp} {io : List Addr} {M : Mem} {d : D} {v : V} {xs : List D} (e : itemsOf M d = some xs) (h : Rep S lk H io d v) :
    ∃ t a, v = .ref a ∧ ∀ lk1 H1 io1 M1, (∀ a vs, H a = some (.lst vs) → a ∉ io → a ∉ lk → a ∉ lk1) → Sto S lk1 H1 io1 M1 → Ext H io H1 io1 → ∃ vs, SqK S.K H1 t a vs ∧ vs.length ≤ lim ∧ Reps S lk1 H1 io1 xs vs := by
  cases d <;> simp only [itemsOf, seqOf, listOf] at e <;> try cases e
  · obtain ⟨a, vs, rfl, _⟩ := tup_rep h
    refine ⟨true, a, rfl, fun lk1 H1 io1 M1 c st x => ?_⟩
    obtain ⟨b, us, eb, h1, h2, h3⟩ := tup_rep (Rep.mono x _ _ (Rep.lock c _ _ h))
    cases eb
    exact ⟨us, h1, h2, h3⟩
  · have h0 := h
    unfold Rep at h0
    obtain ⟨a, vs, rfl, _⟩ := h0
    refine ⟨false, a, rfl, fun lk1 H1 io1 M1 c st x => ?_⟩
    obtain ⟨b, us, eb, h1, h2, h3⟩ := list_rep st (d := .lst xs) rfl (Rep.mono x _ _ (Rep.lock c _ _ h))
    cases eb
    exact ⟨us, h1, h2, h3⟩
  · have h0 := h
    unfold Rep at h0
    obtain ⟨a, vs, rfl, _⟩ := h0
    refine ⟨false, a, rfl, fun lk1 H1 io1 M1 c st x => ?_⟩
    obtain ⟨b, us, eb, h1, h2, h3⟩ := list_rep st (d := .sld xs) rfl (Rep.mono x _ _ (Rep.lock c _ _ h))
    cases eb
    exact ⟨us, h1, h2, h3⟩
theorem sq_keep1 {lk : List Addr} {H : Hp} {io : List Addr} {M : Mem} {d : D} {v : V} {xs : List D} (h : Rep S lk H io d v) (e : seqOf M d = some xs) (hd : ∀ i, d ≠ .ref i) :
    ∃ t a, v = .ref a ∧ ∀ lk1 H1 io1 M1, (∀ a vs, H a = some (.lst vs) → a ∉ io → a ∉ lk → a ∉ lk1) → Sto S lk1 H1 io1 M1 → Ext H io H1 io1 → ∃ vs, SqK S.K H1 t a vs ∧ vs.length ≤ lim ∧ Reps S lk1 H1 io1 xs vs := by
  refine sq_keep (M := M) (d := d) ?_ h
  cases d <;> first | exact e | exact absurd rfl (hd _)
theorem refl_lock {lk : List Addr} {H : Hp} {io : List Addr} : ∀ a vs, H a = some (HO.lst vs) → a ∉ io → a ∉ lk → a ∉ lk := fun _ _ _ _ h => h
def itSq (K : PySem.W.Frag) (t : Bool) (a : Addr) : It := match t with
  | false => Itl K a
  | true => Itt K a
/-- a walk over a list or a tuple -/
theorem itis_sq {lk : List Addr} {H : Hp} {io : List Addr} {t : Bool} {a : Addr} {s : Src}
    (h : ∀ lk1 H1 io1 M1, (∀ a vs, H a = some (.lst vs) → a ∉ io → a ∉ lk → a ∉ lk1) → Sto S lk1 H1 io1 M1 → Ext H io H1 io1 → ∀ k o, s.at M1 k = some o → ∃ xs vs, o = xs[k]? ∧ SqK S.K H1 t a vs ∧ Reps S lk1 H1 io1 xs vs) : ItIs S lk H io (itSq S.K t a) s := by
  intro lk1 H1 io1 M1 c st x k
  have h1 := h lk1 H1 io1 M1 c st x k
  split
  · trivial
  · rename_i e
    obtain ⟨xs, vs, e1, h2, h3⟩ := h1 _ e
    have hl : vs.length ≤ k := by
      rw [← h3.length]
      exact List.getElem?_eq_none_iff.mp e1.symm
    intro _
    cases t with
    | false => exact ⟨vs, h2, hl⟩
    | true => exact ⟨vs, h2, hl⟩
  · rename_i d e
    obtain ⟨xs, vs, e1, h2, h3⟩ := h1 _ e
    obtain ⟨v, e2, h4⟩ := h3.get e1.symm
    cases t with
    | false =>
      refine ⟨⟨vs, v, h2, e2⟩, fun u H2 y => ?_⟩
      obtain ⟨rfl, y⟩ := y
      have e3 := y vs h2
      rw [e2] at e3
      cases e3
      exact ⟨st, Ext.refl _ _, h4⟩
    | true =>
      refine ⟨⟨vs, v, h2, e2⟩, fun u H2 y => ?_⟩
      obtain ⟨rfl, y⟩ := y
      have e3 := y vs h2
      rw [e2] at e3
      cases e3
      exact ⟨st, Ext.refl _ _, h4⟩
theorem good_s {c : CE} (hs : ∀ tg e, chk X.N T .s c X.env.scope (.it tg e) = true → PI X tg e (canI S W (ev T cf .s c))) (hn : ∀ m, m ≠ .s → ∀ s, chk X.N T m c X.env.scope s = false) : Good T S cf X W c :=
  ⟨(fun e h => by rw [hn .v (by decide)] at h; cases h), (fun es h => by rw [hn .l (by decide)] at h; cases h), (fun es h => by rw [hn .l (by decide)] at h; cases h), (fun es pos h => by rw [hn .a (by decide)] at h; cases h), (fun es pos h => by rw [hn .o (by decide)] at h; cases h), hs, (fun es h => by rw [hn .t (by decide)] at h; cases h)⟩
/-- a value, then a walk over it -/
theorem post_bindI {fa : Rho → Mem → Res} {g : D → Mem → Res} {lk : List Addr} {σ : L2.St} {H : Hp} {r : Rho} {M : Mem} {io : List Addr} {R : It → Hp → Prop} {Qa : VK} (st : Sto S lk H io M) (sl : Slots S lk H io σ r)
    (p : PostI S W lk σ H io ((fa r M).bind g) R) (hk : ∀ d M1 v H1 io1, Sto S lk H1 io1 M1 → Ext H io H1 io1 → Rep S lk H1 io1 d v → PostI S W lk σ H1 io1 (g d M1) R → Qa v H1) : canE S W fa σ H Qa := by
  refine ⟨lk, r, M, io, st, sl, ?_⟩
  cases q : fa r M with
  | ok d M1 =>
    rw [q] at p
    refine fun v H1 io1 st1 x1 rp1 => hk d M1 v H1 io1 st1 x1 rp1 ?_
    have p' : PostI S W lk σ H io (g d M1) R := p
    cases q2 : g d M1 with
    | ok d2 M2 =>
      rw [q2] at p'
      obtain ⟨s, e, p2⟩ := p'
      exact ⟨s, e, fun J H2 io2 st2 x2 ii => p2 J H2 io2 st2 (x1.trans x2) ii⟩
    | exn c fs M2 =>
      rw [q2] at p'
      exact fun cls dx H2 io2 st2 x2 z => p' cls dx H2 io2 st2 (x1.trans x2) z
    | stuck => rw [q2] at p'; exact p'
  | exn c fs M1 => rw [q] at p; exact p
  | stuck => rw [q] at p; exact p
/-- a walk over a list, a tuple, a text -/
def iSeqT (K : PySem.W.Frag) (te : L2.TE) : TI := fun σ H R => te σ H fun x H1 => (∃ t a xs, x = .ref a ∧ SqK K H1 t a xs ∧ R (match t with
  | false => Itl K a
  | true => Itt K a) H1) ∨ ∃ z, x = .str z ∧ R (Its z) H1
theorem pi_seqT {X : Cx} {tg e : Expr} {te : L2.TE} (he : PE X e te) : PI X tg e (iSeqT X.K te) := by
  constructor
  intro pins s σ H R I h
  refine thn (he.run pins s σ H _ I h) fun v s1 hv => ?_
  obtain ⟨x, H1, J, r, hh⟩ := hv
  rcases hh with ⟨t, a, xs, ex, qx, q⟩ | ⟨z, ex, q⟩
  · subst ex
    cases (show v = Value.ref a from r)
    obtain ⟨its, rv, p1, _⟩ := sqk_of J qx
    refine (begins_k t a its.toArray).iter _ _ _ _ s1 _ p1 ?_
    have J2 : Inv X pins σ H1 { s1 with heap := s1.heap.push (itO t a) } := J.kept (t' := s1.toks) fun b u e => Heap.get?_push_of_some _ e
    have fr : ∀ b ∈ [s1.heap.objs.size], FpOk X pins H1 b := fun b hb => by
      have eb : b = s1.heap.objs.size := by simpa using hb
      rw [eb]
      exact J.fpOk (Nat.le_refl _) (J.hok.fresh (Nat.le_refl _))
    cases t with
    | false => exact ⟨s1.heap.objs.size, [s1.heap.objs.size], _, _, H1, rfl, J2, turn_list a _, ⟨_, Heap.get?_push_size _ rfl, rfl, rfl⟩, fr, q⟩
    | true => exact ⟨s1.heap.objs.size, [s1.heap.objs.size], _, _, H1, rfl, J2, turn_tuple a _, ⟨_, Heap.get?_push_size _ rfl, rfl, rfl⟩, fr, q⟩
  · subst ex
    obtain ⟨t, rfl⟩ := r
    cases ha : z.cps.all (· < 128)
    · exact wpAny_pyIter_wide ha (pi_one (tk := s1.toks) J _ (turn_str _ z t "str_iterator" (.inr rfl)) ⟨_, Heap.get?_push_size _ rfl, rfl, rfl⟩ q)
    · exact wpAny_pyIter_ascii ha (pi_one (tk := s1.toks) J _ (turn_str _ z t "str_ascii_iterator" (.inl rfl)) ⟨_, Heap.get?_push_size _ rfl, rfl, rfl⟩ q)
theorem chars_get (z : Str) (k : Nat) : (charsD z)[k]? = match z.cps[k]? with
    | some c => some (.str ⟨#[c]⟩)
    | none => none := by
  unfold charsD
  rw [List.getElem?_map, Array.getElem?_toList]
  cases z.cps[k]? <;> rfl
theorem good_itv (C : Con T S cf k X W) {a : CE} (ga : Good T S cf X W a) : Good T S cf X W (.itv a) := good_s (fun tg e h => by
  simp only [chk] at h
  refine pi_can (pi_seqT (ga.v _ h).1) fun lk σ H r M io R st sl p => ?_
  simp only [ev] at p
  refine post_bindI st sl p fun d M1 v H1 io1 st1 x1 rp1 p1 => ?_
  have hK := C.sk
  have key : ∀ {t : Bool} {a : Addr} {xs : List V} {J : It}, v = .ref a → SqK S.K H1 t a xs → R (itSq S.K t a) H1 → (∃ t a xs, v = .ref a ∧ SqK X.K H1 t a xs ∧ R (match t with
      | false => Itl X.K a
      | true => Itt X.K a) H1) ∨ ∃ z, v = .str z ∧ R (Its z) H1 := by
    intro t a xs J e1 e2 e3
    refine .inl ⟨t, a, xs, e1, by rw [hK]; exact e2, ?_⟩
    rw [hK]
    cases t <;> exact e3
  unfold itvf at p1
  cases d with
  | ref i =>
    simp only at p1
    split at p1
    rotate_left
    · exact p1.elim
    rename_i xs0 e0
    obtain ⟨s, es, p2⟩ := p1
    simp only [srcOf, Option.some.injEq] at es
    subst es
    have h0 := rp1
    unfold Rep at h0
    obtain ⟨a, ha, rfl⟩ := h0
    obtain ⟨us, e2, _⟩ := st1.pick e0 ha
    refine key (J := Itl S.K a) (t := false) rfl (.inl (.inl e2)) (p2 _ H1 io1 st1 (Ext.refl _ _) (itis_sq fun lk1 H2 io2 M2 c st2 x2 k o eo => ?_))
    simp only [Src.at] at eo
    split at eo
    · rename_i ys em
      cases eo
      obtain ⟨ws, f1, f2, f3, f4⟩ := st2.pick em (x2.at ha)
      exact ⟨ys, ws, rfl, .inl (.inl f1), f4⟩
    · cases eo
  | str z =>
    simp only at p1
    split at p1
    · obtain ⟨s, e3, p2⟩ := p1
      simp only [srcOf, Option.some.injEq] at e3
      subst e3
      refine .inr ⟨z, str_of rp1, p2 _ H1 io1 st1 (Ext.refl _ _) fun lk1 H2 io2 M2 c st2 x2 k => ?_⟩
      simp only [Src.at, chars_get]
      cases hz : z.cps[k]? with
      | none => exact fun _ => Array.getElem?_eq_none_iff.mp hz
      | some cp =>
        refine ⟨(Array.getElem?_eq_some_iff.mp hz).1, fun u H3 y => ?_⟩
        obtain ⟨rfl, cq, e5, rfl⟩ := y
        rw [hz] at e5
        cases e5
        exact ⟨st2, Ext.refl _ _, rep_str⟩
    · exact p1.elim
  | _ =>
    simp only at p1
    split at p1
    · rename_i xs es
      obtain ⟨s, e3, p2⟩ := p1
      simp only [srcOf, Option.some.injEq] at e3
      subst e3
      obtain ⟨t, a, e1, q⟩ := sq_keep1 rp1 es (by intro i z; cases z)
      obtain ⟨vs, f1, f2, f3⟩ := q lk H1 io1 M1 refl_lock st1 (Ext.refl _ _)
      refine key (J := Itl S.K a) e1 f1 (p2 _ H1 io1 st1 (Ext.refl _ _) (itis_sq fun lk1 H2 io2 M2 c st2 x2 k o eo => ?_))
      simp only [Src.at, Option.some.injEq] at eo
      obtain ⟨ws, g1, g2, g3⟩ := q lk1 H2 io2 M2 c st2 x2
      exact ⟨xs, ws, eo.symm, g1, g3⟩
    · exact p1.elim) (fun m hm s => by cases m <;> first | exact absurd rfl hm | rfl)
theorem range_get (j : Int) (k : Nat) : (rangeD j)[k]? = if k < j.toNat then some (D.int (k : Int)) else none := by
  unfold rangeD
  rw [List.getElem?_map]
  split
  · rename_i h
    rw [List.getElem?_range h]
    rfl
  · rename_i h
    rw [List.getElem?_eq_none (by simpa using h)]
    rfl
theorem good_itr (C : Con T S cf k X W) {a : CE} (ga : Good T S cf X W a) : Good T S cf X W (.itr a) := good_s (fun tg e h => by
  simp only [chk] at h
  split at h
  · rename_i tg' x p e1 pos heq
    cases heq
    simp only [Bool.and_eq_true] at h
    obtain ⟨⟨h1, h2⟩, h3⟩ := h
    obtain ⟨n1, n2, n3⟩ := gn_of h1
    subst n1
    refine pi_can (pi_range1 n2 (C.blt _ (by decide)) (pa_cons (ga.v _ h3).1 pa_nil (star_ok h2)) (star_ok h2)) fun lk σ H r M io R st sl p => ?_
    simp only [ev] at p
    refine post_bindI st sl p fun d M1 v H1 io1 st1 x1 rp1 p1 => ?_
    cases d <;> try exact p1.elim
    rename_i j
    simp only at p1
    split at p1
    · rename_i hj
      obtain ⟨s, e3, p2⟩ := p1
      simp only [srcOf, Option.some.injEq] at e3
      subst e3
      have hl : ((lim : Nat) : Int) < 2 ^ 62 := by decide
      refine ⟨j, by rw [int_of rp1], hj.2, Int.lt_of_le_of_lt hj.1 hl, p2 _ H1 io1 st1 (Ext.refl _ _) fun lk1 H2 io2 M2 c st2 x2 k => ?_⟩
      simp only [Src.at, range_get]
      by_cases hk : k < j.toNat
      · rw [if_pos hk]
        refine ⟨hk, fun x H3 y => ?_⟩
        obtain ⟨rfl, rfl⟩ := y
        refine ⟨st2, Ext.refl _ _, ?_⟩
        rw [show (0 : Int) + (k : Int) = k by omega]
        exact rep_int
      · rw [if_neg hk]
        exact fun _ => Nat.le_of_not_lt hk
    · exact p1.elim
  · cases h) (fun m hm s => by cases m <;> first | exact absurd rfl hm | rfl)
theorem enum_get : ∀ (xs : List D) (n k : Nat), (enumD n xs)[k]? = match xs[k]? with
    | some x => some (.tup [.int ((n + k : Nat) : Int), x])
    | none => none
  | [], n, k => by simp [enumD]
  | x :: xs, n, 0 => by simp [enumD]
  | x :: xs, n, k + 1 => by
    simp only [enumD, List.getElem?_cons_succ]
    rw [enum_get xs (n + 1) k]
    rw [show n + 1 + k = n + (k + 1) by omega]
theorem zip_get : ∀ (xs ys : List D) (k : Nat), (zipD xs ys)[k]? = match xs[k]?, ys[k]? with
    | some x, some y => some (.tup [x, y])
    | _, _ => none
  | [], ys, k => by simp [zipD]
  | x :: xs, [], k => by
    simp only [zipD, List.getElem?_nil]
    split <;> first | rfl | contradiction
  | x :: xs, y :: ys, 0 => by simp [zipD]
  | x :: xs, y :: ys, k + 1 => by
    simp only [zipD, List.getElem?_cons_succ]
    exact zip_get xs ys k
theorem enum_length : ∀ (xs : List D) (n : Nat), (enumD n xs).length = xs.length
  | [], n => rfl
  | x :: xs, n => by rw [enumD, List.length_cons, List.length_cons, enum_length xs (n + 1)]
theorem zip_length : ∀ (xs ys : List D), (zipD xs ys).length = min xs.length ys.length
  | [], ys => by simp [zipD]
  | x :: xs, [] => by simp [zipD]
  | x :: xs, y :: ys => by rw [zipD, List.length_cons, List.length_cons, List.length_cons, zip_length xs ys]; omega
theorem rep_new2 {lk : List Addr} {H : Hp} {io : List Addr} {M : Mem} {Tt : Addr} {x y : V} {d e : D} (st : Sto S lk H io M) (hT : H Tt = none) (hx : Rep S lk H io d x) (hy : Rep S lk H io e y) :
    Sto S lk (upd H Tt (.tup [x, y])) io M ∧ Ext H io (upd H Tt (.tup [x, y])) io ∧ Rep S lk (upd H Tt (.tup [x, y])) io (.tup [d, e]) (.ref Tt) := by
  refine ⟨st.laid hT, Ext.laid hT, ?_⟩
  unfold Rep
  exact ⟨Tt, [x, y], rfl, .inl ⟨upd_same, (st.fresh hT).1⟩, by show 2 ≤ lim; decide, .cons (Rep.mono (Ext.laid hT) _ _ hx) (.cons (Rep.mono (Ext.laid hT) _ _ hy) .nil)⟩
theorem good_ite2 (C : Con T S cf k X W) {a : CE} (ga : Good T S cf X W a) : Good T S cf X W (.ite2 a) := good_s (fun tg e h => by
  simp only [chk] at h
  split at h
  · rename_i es k0 tpos x p e1 pos heq
    cases heq
    simp only [Bool.and_eq_true] at h
    obtain ⟨⟨h1, h2⟩, h3⟩ := h
    obtain ⟨n1, n2, n3⟩ := gn_of h1
    subst n1
    refine pi_can (pi_enumK n2 (C.blt _ (by decide)) (pa_cons (ga.v _ h3).1 pa_nil (star_ok h2)) (star_ok h2)) fun lk σ H r M io R st sl p => ?_
    simp only [ev] at p
    refine post_bindI st sl p fun d M1 v H1 io1 st1 x1 rp1 p1 => ?_
    split at p1
    · rename_i xs ex
      obtain ⟨s, e3, p2⟩ := p1
      simp only [srcOf, Option.some.injEq] at e3
      subst e3
      obtain ⟨t, b, rfl, q⟩ := sq_keep ex rp1
      obtain ⟨vs, f1, f2, f3⟩ := q lk H1 io1 M1 refl_lock st1 (Ext.refl _ _)
      refine ⟨t, b, vs, rfl, by rw [C.sk]; exact f1, p2 _ H1 io1 st1 (Ext.refl _ _) fun lk1 H2 io2 M2 c st2 x2 k => ?_⟩
      obtain ⟨ws, g1, g2, g3⟩ := q lk1 H2 io2 M2 c st2 x2
      have hK := C.sk
      simp only [Src.at, enum_get]
      cases hx : xs[k]? with
      | none =>
        intro hw
        have h5 := hw _ rfl
        rw [enum_length] at h5
        refine ⟨ws, by rw [hK]; exact g1, ?_⟩
        rw [← g3.length]
        exact Nat.le_antisymm h5 (List.getElem?_eq_none_iff.mp hx)
      | some d2 =>
        obtain ⟨u, e4, g4⟩ := g3.get hx
        refine ⟨⟨ws, u, by rw [hK]; exact g1, e4⟩, fun w H3 y => ?_⟩
        obtain ⟨Tt, u2, rfl, hT, rfl, hy⟩ := y
        have e5 := hy ws (by rw [hK]; exact g1)
        rw [e4] at e5
        cases e5
        rw [show 0 + k = k by omega]
        exact rep_new2 st2 hT rep_int g4
    · exact p1.elim
  · cases h) (fun m hm s => by cases m <;> first | exact absurd rfl hm | rfl)
theorem good_itz (C : Con T S cf k X W) {a b : CE} (ga : Good T S cf X W a) (gb : Good T S cf X W b) : Good T S cf X W (.itz a b) := good_s (fun tg e h => by
  simp only [chk] at h
  split at h
  · rename_i tg' x p e1 e2 pos heq
    cases heq
    simp only [Bool.and_eq_true, Bool.or_eq_true] at h
    obtain ⟨⟨⟨⟨⟨h0, h1⟩, h2⟩, h3⟩, h4⟩, h5⟩ := h
    obtain ⟨n1, n2, n3⟩ := gn_of h1
    subst n1
    have PI0 : PI X tg (.Call (.Name "zip" p) [e1, e2] [] pos) (iZipK X.K (tCons (canE S W (ev T cf .v a)) (tCons (canE S W (ev T cf .v b)) tNil))) := by
      have hA := pa_cons (ga.v _ h4).1 (pa_cons (gb.v _ h5).1 pa_nil (star_ok h3)) (star_ok h2)
      rcases h0 with h0 | h0
      · cases tg <;> first | (cases h0; done) | skip
        exact pi_zipK n2 (C.blt _ (by decide)) hA (star_ok h2) (stars_ok (by simp [h3]))
      · exact pi_zip1 h0 n2 (C.blt _ (by decide)) hA (star_ok h2) (stars_ok (by simp [h3]))
    refine pi_can PI0 fun lk σ H r M io R st sl p => ?_
    simp only [ev] at p
    refine post_bindI st sl p fun d M1 v H1 io1 st1 x1 rp1 p1 => ?_
    refine post_bindI st1 (sl.mono x1) p1 fun d2 M2 v2 H2 io2 st2 x2 rp2 p2 => ?_
    have rp1' := Rep.mono x2 _ _ rp1
    split at p2
    · rename_i xs ys ex ey
      obtain ⟨s, e3, p3⟩ := p2
      simp only [srcOf, Option.some.injEq] at e3
      subst e3
      obtain ⟨t, b1, rfl, q⟩ := sq_keep ex rp1'
      obtain ⟨u, b2, rfl, q'⟩ := sq_keep ey rp2
      obtain ⟨vs, f1, f2, f3⟩ := q lk H2 io2 M2 refl_lock st2 (Ext.refl _ _)
      obtain ⟨vs', f1', f2', f3'⟩ := q' lk H2 io2 M2 refl_lock st2 (Ext.refl _ _)
      have hK := C.sk
      refine ⟨t, u, b1, b2, vs, vs', rfl, by rw [hK]; exact f1, by rw [hK]; exact f1', p3 _ H2 io2 st2 (Ext.refl _ _) fun lk1 H3 io3 M3 c st3 x3 k => ?_⟩
      obtain ⟨ws, g1, g2, g3⟩ := q lk1 H3 io3 M3 c st3 x3
      obtain ⟨ws', g1', g2', g3'⟩ := q' lk1 H3 io3 M3 c st3 x3
      simp only [Src.at, zip_get]
      cases hx : xs[k]? with
      | none =>
        intro hw
        have h6 := hw _ rfl
        rw [zip_length] at h6
        have h7 := List.getElem?_eq_none_iff.mp hx
        refine ⟨ws, ws', by rw [hK]; exact g1, by rw [hK]; exact g1', ?_⟩
        rw [← g3.length, ← g3'.length]
        omega
      | some d3 =>
        cases hy : ys[k]? with
        | none =>
          intro hw
          have h6 := hw _ rfl
          rw [zip_length] at h6
          have h7 := List.getElem?_eq_none_iff.mp hy
          refine ⟨ws, ws', by rw [hK]; exact g1, by rw [hK]; exact g1', ?_⟩
          rw [← g3.length, ← g3'.length]
          omega
        | some d4 =>
          obtain ⟨u1, e4, g4⟩ := g3.get hx
          obtain ⟨u2, e4', g4'⟩ := g3'.get hy
          refine ⟨⟨ws, ws', u1, u2, by rw [hK]; exact g1, by rw [hK]; exact g1', e4, e4'⟩, fun w H4 y => ?_⟩
          obtain ⟨Tt, w1, w2, rfl, hT, rfl, hy1, hy2⟩ := y
          have e5 := hy1 ws (by rw [hK]; exact g1)
          rw [e4] at e5
          cases e5
          have e6 := hy2 ws' (by rw [hK]; exact g1')
          rw [e4'] at e6
          cases e6
          exact rep_new2 st3 hT g4 g4'
    · exact p2.elim
  · cases h) (fun m hm s => by cases m <;> first | exact absurd rfl hm | rfl)
theorem col_inj {i : Nat} : ∀ {xss : List (List V)} {ys zs : List V}, Col i xss ys → Col i xss zs → ys = zs
  | [], ys, zs, h, k => by rw [show ys = [] from h, show zs = [] from k]
  | xs :: xss, ys, zs, ⟨y, r, e1, h1, h2⟩, ⟨z, r', e2, k1, k2⟩ => by
    rw [h1] at k1
    cases k1
    rw [e1, e2, col_inj h2 k2]
/-- the rows, each as it stands -/
def Repss (S : Sta) (lk : List Addr) (H : Hp) (io : List Addr) : List (List D) → List (List V) → Prop
  | [], wss => wss = []
  | xs :: xss, wss => ∃ ws r, wss = ws :: r ∧ Reps S lk H io xs ws ∧ Repss S lk H io xss r
theorem rows_keep {lk : List Addr} {H : Hp} {io : List Addr} {M : Mem} : ∀ {ds : List D} {vs : List V} {xss : List (List D)}, itemsAll M ds = some xss → Reps S lk H io ds vs →
    ∃ qs : List (Bool × Addr), vs = qs.map (fun q => V.ref q.2) ∧ qs.length = xss.length ∧ ∀ lk1 H1 io1 M1, (∀ a vs, H a = some (.lst vs) → a ∉ io → a ∉ lk → a ∉ lk1) → Sto S lk1 H1 io1 M1 → Ext H io H1 io1 → ∃ wss, SqKs S.K H1 qs wss ∧ Repss S lk1 H1 io1 xss wss
  | [], vs, xss, e, h => by
    cases e
    rw [h.inv0]
    exact ⟨[], rfl, rfl, fun lk1 H1 io1 M1 c st x => ⟨[], rfl, rfl⟩⟩
  | d :: ds, vs, xss, e, h => by
    obtain ⟨v, r, rfl, h1, h2⟩ := h.inv
    unfold itemsAll at e
    split at e
    · rename_i ys r' e1 e2
      cases e
      obtain ⟨t, a, rfl, q⟩ := sq_keep e1 h1
      obtain ⟨qs, rfl, ql, k⟩ := rows_keep e2 h2
      refine ⟨(t, a) :: qs, rfl, by rw [List.length_cons, List.length_cons, ql], fun lk1 H1 io1 M1 c st x => ?_⟩
      obtain ⟨ws, f1, _, f3⟩ := q lk1 H1 io1 M1 c st x
      obtain ⟨wss, g1, g2⟩ := k lk1 H1 io1 M1 c st x
      exact ⟨ws :: wss, ⟨ws, wss, rfl, f1, g1⟩, ⟨ws, wss, rfl, f3, g2⟩⟩
    · cases e
theorem wrows_len {lk : List Addr} {H : Hp} {io : List Addr} {n : Nat} : ∀ {xss : List (List D)} {wss : List (List V)}, Repss S lk H io xss wss → (∀ xs ∈ xss, xs.length = n) → ∀ ws ∈ wss, ws.length = n
  | [], wss, h, _, ws, hw => by
    rw [show wss = [] from h] at hw
    cases hw
  | xs :: xss, wss, ⟨u, r, e, h1, h2⟩, hn, ws, hw => by
    rw [e] at hw
    rcases List.mem_cons.mp hw with z | hw
    · rw [z, ← h1.length]
      exact hn xs List.mem_cons_self
    · exact wrows_len h2 (fun y hy => hn y (List.mem_cons_of_mem _ hy)) ws hw
theorem rows_col {lk : List Addr} {H : Hp} {io : List Addr} {n k : Nat} (hk : k < n) : ∀ {xss : List (List D)} {wss : List (List V)}, Repss S lk H io xss wss → (∀ xs ∈ xss, xs.length = n) →
    ∃ cs, Col k wss cs ∧ Reps S lk H io (xss.map fun xs => xs.getD k .non) cs
  | [], wss, h, _ => by
    rw [show wss = [] from h]
    exact ⟨[], rfl, .nil⟩
  | xs :: xss, wss, ⟨u, r, e, h1, h2⟩, hn => by
    obtain ⟨cs, c1, c2⟩ := rows_col hk h2 fun y hy => hn y (List.mem_cons_of_mem _ hy)
    have hl : k < xs.length := by rw [hn xs List.mem_cons_self]; exact hk
    obtain ⟨v, e1, h3⟩ := h1.get (List.getElem?_eq_getElem hl)
    subst e
    refine ⟨v :: cs, ⟨v, cs, rfl, e1, c1⟩, ?_⟩
    rw [List.map_cons, List.getD_eq_getElem?_getD, List.getElem?_eq_getElem hl]
    exact .cons h3 c2
theorem rep_newN {lk : List Addr} {H : Hp} {io : List Addr} {M : Mem} {Tt : Addr} {xs : List V} {ds : List D} (st : Sto S lk H io M) (hT : H Tt = none) (hl : xs.length ≤ lim) (hx : Reps S lk H io ds xs) :
    Sto S lk (upd H Tt (.tup xs)) io M ∧ Ext H io (upd H Tt (.tup xs)) io ∧ Rep S lk (upd H Tt (.tup xs)) io (.tup ds) (.ref Tt) := by
  refine ⟨st.laid hT, Ext.laid hT, ?_⟩
  unfold Rep
  exact ⟨Tt, xs, rfl, .inl ⟨upd_same, (st.fresh hT).1⟩, hl, Reps.mono (Ext.laid hT) _ _ hx⟩
theorem zips_get (xss : List (List D)) (k : Nat) : (zipsD xss)[k]? = if k < (xss.headD []).length then some (.tup (xss.map fun xs => xs.getD k .non)) else none := by
  unfold zipsD
  rw [List.getElem?_map]
  split
  · rename_i h
    rw [List.getElem?_range h]
    rfl
  · rename_i h
    rw [List.getElem?_eq_none (by simpa using h)]
    rfl
theorem good_itzs (C : Con T S cf k X W) {a : CE} (ga : Good T S cf X W a) : Good T S cf X W (.itzs a) := good_s (fun tg e h => by
  simp only [chk] at h
  split at h
  · rename_i tg' x p e1 p2 pos heq
    cases heq
    simp only [Bool.and_eq_true] at h
    obtain ⟨⟨h0, h1⟩, h3⟩ := h
    obtain ⟨n1, n2, n3⟩ := gn_of h1
    subst n1
    refine pi_can (pi_zipS h0 n2 (C.blt _ (by decide)) (ga.v _ h3).1) fun lk σ H r M io R st sl p => ?_
    simp only [ev] at p
    refine post_bindI st sl p fun d M1 v H1 io1 st1 x1 rp1 p1 => ?_
    split at p1
    rotate_left
    · exact p1.elim
    rename_i xs ex
    split at p1
    rotate_left
    · exact p1.elim
    rename_i yss ey
    split at p1
    rotate_left
    · exact p1.elim
    rename_i hc
    obtain ⟨hn0, hn4, hnl⟩ := hc
    obtain ⟨s, e3, p3⟩ := p1
    simp only [srcOf, Option.some.injEq] at e3
    subst e3
    obtain ⟨t, b1, rfl, q⟩ := sq_keep ex rp1
    obtain ⟨vs, f1, f2, f3⟩ := q lk H1 io1 M1 refl_lock st1 (Ext.refl _ _)
    obtain ⟨qs, rfl, ql, kp⟩ := rows_keep ey f3
    obtain ⟨wss, g1, g2⟩ := kp lk H1 io1 M1 refl_lock st1 (Ext.refl _ _)
    have hK := C.sk
    refine ⟨b1, qs, wss, rfl, ?_, by rw [hK]; exact g1, fun e => hn0 (List.length_eq_zero_iff.mp (by rw [← ql, e]; rfl)), by rw [ql]; exact hn4, p3 _ H1 io1 st1 (Ext.refl _ _) fun lk1 H3 io3 M3 c st3 x3 k => ?_⟩
    · rw [hK]
      cases t with
      | false => exact .inr f1
      | true => exact .inl f1
    obtain ⟨uss, u1, u2⟩ := kp lk1 H3 io3 M3 c st3 x3
    simp only [Src.at, zips_get]
    by_cases hk : k < (yss.headD []).length
    · rw [if_pos hk]
      obtain ⟨cs, c1, c2⟩ := rows_col hk u2 hnl
      refine ⟨⟨uss, cs, by rw [hK]; exact u1, c1⟩, fun w H4 y => ?_⟩
      obtain ⟨Tt, ys, rfl, hT, rfl, hy⟩ := y
      have e5 := hy uss (by rw [hK]; exact u1)
      have e6 : ys = cs := col_inj e5 c1
      subst e6
      refine rep_newN st3 hT ?_ c2
      rw [← c2.length, List.length_map]
      exact Nat.le_trans hn4 (by decide)
    · rw [if_neg hk]
      intro hw
      have h5 : k ≤ (zipsD yss).length := hw _ rfl
      have h6 : (zipsD yss).length = (yss.headD []).length := by
        unfold zipsD
        rw [List.length_map, List.length_range]
      refine ⟨uss, by rw [hK]; exact u1, ?_⟩
      rw [show k = (yss.headD []).length by omega]
      exact wrows_len u2 hnl
  · cases h) (fun m hm s => by cases m <;> first | exact absurd rfl hm | rfl)
end
theorem zipup_reps {lk : List Addr} {io : List Addr} {M : Mem} {l : Addr} {H H' : Hp} {ps : List (V × V)} {rs : List V} (h : ZipUp l H ps H' rs) : ∀ {xs ys : List D} {vs vs' : List V}, ps = vs.zip vs' → Reps S lk H io xs vs → Reps S lk H io ys vs' → Sto S lk H io M →
    Sto S lk H' io M ∧ Ext H io H' io ∧ Reps S lk H' io (zipD xs ys) rs := by
  induction h with
  | nil =>
    intro xs ys vs vs' e r1 r2 st
    refine ⟨st, Ext.refl _ _, ?_⟩
    cases vs with
    | nil =>
      cases xs with
      | nil => exact .nil
      | cons x xs => exact absurd r1.length (by simp)
    | cons v vs =>
      cases vs' with
      | nil =>
        cases ys with
        | nil =>
          cases xs with
          | nil => exact .nil
          | cons x xs => exact .nil
        | cons y ys => exact absurd r2.length (by simp)
      | cons v' vs' => cases e
  | @cons H H' p x y r rs hp hpl _ ih =>
    intro xs ys vs vs' e r1 r2 st
    cases vs with
    | nil => cases e
    | cons v vs =>
      cases vs' with
      | nil => cases e
      | cons v' vs' =>
        cases e
        cases xs with
        | nil => exact absurd r1.length (by simp)
        | cons d xs =>
          cases ys with
          | nil => exact absurd r2.length (by simp)
          | cons d' ys =>
            obtain ⟨_, _, e1, h1, h2⟩ := r1.inv
            cases e1
            obtain ⟨_, _, e2, h3, h4⟩ := r2.inv
            cases e2
            have X1 : Ext H io (upd H p (.tup [x, y])) io := Ext.laid hp
            obtain ⟨a1, a2, a3⟩ := ih rfl (Reps.mono X1 _ _ h2) (Reps.mono X1 _ _ h4) (st.laid hp)
            refine ⟨a1, Ext.trans X1 a2, .cons ?_ a3⟩
            refine Rep.mono a2 _ _ ?_
            unfold Rep
            exact ⟨p, [x, y], rfl, .inl ⟨upd_same, (st.fresh hp).1⟩, (show 2 ≤ lim by decide), .cons (Rep.mono X1 _ _ h1) (.cons (Rep.mono X1 _ _ h3) .nil)⟩
theorem good_lzip (C : Con T S cf k X W) {m : Bool} {a b : CE} (ga : Good T S cf X W a) (gb : Good T S cf X W b) : Good T S cf X W (.lzip m a b) := good_p (fun e h => by
  simp only [chk] at h
  split at h
  · rename_i y p1 x p2 e1 e2 pos1 pos2 heq
    cases heq
    simp only [Bool.and_eq_true] at h
    obtain ⟨⟨⟨⟨⟨h1, h2⟩, h3⟩, h4⟩, h5⟩, h6⟩ := h
    obtain ⟨n1, n2, n3⟩ := gn_of h1
    obtain ⟨m1, m2, m3⟩ := gn_of h2
    subst n1 m1
    have hA := pa_cons (ga.v _ h5).1 (pa_cons (gb.v _ h6).1 pa_nil (star_ok h4)) (star_ok h3)
    refine ⟨pe_can (pe_listZip C.calm n2 (C.blt _ (by decide)) m2 (C.blt _ (by decide)) hA (star_ok h3) (stars_ok (by simp [h4])) (star_ok rfl)) fun lk σ H r M io Q st sl p => ?_, .inl rfl⟩
    simp only [ev] at p
    refine post_bind (A := canE S W (ev T cf .v a) σ H) (fun Qa ha => ⟨lk, r, M, io, st, sl, ha⟩) p fun d M1 v H1 io1 st1 x1 rp1 p1 => ?_
    refine post_bind (A := canE S W (ev T cf .v b) σ H1) (fun Qa ha => ⟨lk, r, M1, io1, st1, sl.mono x1, ha⟩) p1 fun d2 M2 v2 H2 io2 st2 x2 rp2 p2 => ?_
    have rp1' := Rep.mono x2 _ _ rp1
    split at p2
    · rename_i xs ys ex ey
      obtain ⟨t, b1, rfl, q⟩ := sq_keep ex rp1'
      obtain ⟨u, b2, rfl, q'⟩ := sq_keep ey rp2
      obtain ⟨vs, f1, f2, f3⟩ := q lk H2 io2 M2 refl_lock st2 (Ext.refl _ _)
      obtain ⟨vs', f1', f2', f3'⟩ := q' lk H2 io2 M2 refl_lock st2 (Ext.refl _ _)
      have hK := C.sk
      refine ⟨t, u, b1, b2, vs, vs', rfl, by rw [hK]; exact f1, by rw [hK]; exact f1', Nat.le_trans (Nat.le_trans (Nat.min_le_left _ _) f2) lim_line, fun l H3 rs hl zu => ?_⟩
      obtain ⟨a1, a2, a3⟩ := zipup_reps zu rfl f3 f3' st2
      have hlen : rs.length ≤ lim := by
        rw [zu.length, List.length_zip]
        exact Nat.le_trans (Nat.min_le_left _ _) f2
      exact post_mk a1 a3 hlen (PostE.ext a2 p2) l (zu.free hl)
    · exact p2.elim
  · cases h) (fun m hm s => by cases m <;> first | exact absurd rfl hm | rfl)
theorem good_dic {k0 j0 : Int} : Good T S cf X W (.dic k0 j0) := good_p (fun e h => by
  simp only [chk] at h
  split at h
  · rename_i i j p1 i2 j2 p2 pos heq
    cases heq
    simp only [Bool.and_eq_true, decide_eq_true_eq] at h
    obtain ⟨rfl, rfl⟩ := h
    refine ⟨pe_can (pe_disp (pps_cons pe_int pe_int pps_nil) rfl rfl (by simp) (by show 1 ≤ 15; decide)) fun lk σ H r M io Q st sl p => ?_, .inl rfl⟩
    simp only [ev] at p
    intro a ha
    refine ⟨upd_same, [(.inl k0, .int j0)], rfl, (show 1 ≤ 15 by decide), ?_⟩
    rw [upd_upd]
    refine p (.ref a) _ io (st.laid ha) (Ext.laid ha) ?_
    unfold Rep
    exact ⟨a, _, rfl, upd_same, (st.fresh ha).1, (show 1 ≤ lim by decide), rfl, .cons rep_int .nil⟩
  · cases h) (fun m hm s => by cases m <;> first | exact absurd rfl hm | rfl)
theorem good_dnew : Good T S cf X W .dnew := good_p (fun e h => by
  simp only [chk] at h
  split at h
  · rename_i pos heq
    cases heq
    refine ⟨pe_can pe_dnewK fun lk σ H r M io Q st sl p => ?_, .inl rfl⟩
    simp only [ev] at p
    intro a ha
    refine p (.ref a) _ (io ++ [a]) (st.ownC ha ⟨[], rfl, Nat.zero_le _, rfl, rfl, .nil⟩) (Ext.own ha) ?_
    unfold Rep
    exact ⟨a, by rw [List.getElem?_append_right (by rw [st.len]; exact Nat.le_refl _), st.len]; simp, rfl⟩
  · cases h) (fun m hm s => by cases m <;> first | exact absurd rfl hm | rfl)
theorem good_dicv {k0 : Int} {i : Nat} : Good T S cf X W (.dicv k0 i) := good_p (fun e h => by
  simp only [chk] at h
  split at h
  · rename_i i' j p1 x p2 pos heq
    cases heq
    simp only [Bool.and_eq_true, decide_eq_true_eq, Bool.not_eq_true'] at h
    obtain ⟨⟨⟨rfl, h1⟩, h2⟩, h3⟩ := h
    obtain ⟨d1, d2⟩ := dbg_of h3
    refine ⟨pe_can (pe_disp (pps_cons pe_int (pe_var h1 (vis_of h2) d1 d2) pps_nil) rfl rfl (by simp) (by show 1 ≤ 15; decide)) fun lk σ H r M io Q st sl p => ?_, .inl rfl⟩
    simp only [ev] at p
    split at p
    · rename_i d e
      obtain ⟨v, e1, e2⟩ := sl.get i d e
      intro a ha
      refine ⟨v, e1, ?_⟩
      refine ⟨upd_same, [(.inl k0, v)], rfl, (show 1 ≤ 15 by decide), ?_⟩
      rw [upd_upd]
      refine p (.ref a) _ io (st.laid ha) (Ext.laid ha) ?_
      unfold Rep
      exact ⟨a, _, rfl, upd_same, (st.fresh ha).1, (show 1 ≤ lim by decide), rfl, .cons (Rep.mono (Ext.laid ha) _ _ e2) .nil⟩
    · exact p.elim
  · cases h) (fun m hm s => by cases m <;> first | exact absurd rfl hm | rfl)
end Iv

/-! ## IvO -/
/-! Iv, part O: what an except suite asks of the exception: isinstance, fields. -/
namespace Iv
open PySem PySem.Spec PyProof.Rows L2
/-- what is asked of the class D of an exception that has its own dict -/
structure ExcK (K : PySem.W.Frag) (D : Addr) : Prop where
  cl : (PySem.W.clsIn K D).isSome = true
  hg : PySem.W.findIn K (.ref D) "__getattribute__" = some (some (.builtin "BaseException.__getattribute__"))
  hk : PySem.W.findIn K (.ref D) "__getattr__" = some none
  hs : PySem.W.subIn K (.ref D) (.type "BaseException") = some true
  hd : PySem.W.hasDictIn K D = true
  ha : PySem.W.findIn K (.ref D) "__class__" = some (some (.builtin "object.__class__"))
  hn : PySem.W.specialIn K (.builtin "object.__class__") "__get__" = some (some (.builtin "getset_descriptor.__get__"))
  ht : PySem.W.takesIn K (.builtin "object.__class__") = some true
  hm : PySem.W.mroIn K D (.type "object") = some true
theorem ExcK.xf {K : PySem.W.Frag} {D : Addr} (C : ExcK K D) : XfC K D := ⟨C.hg, C.hk, C.hs, C.hd⟩
/-- isinstance(e, c), e the exception at a of the class D, its dict at dd -/
def rIsX (K : PySem.W.Frag) (D a dd : Addr) : List V → Hp → VK → Prop := fun xs H Q => ∃ (c : V) (cv : Value) (b : Bool) (fs : List (Str × V)), xs = [.ref a, c] ∧ H dd = some (.xd fs) ∧ (∀ u, RelV c u → u = cv) ∧ PySem.W.kitOne K (.ref D) cv = some b ∧ Q (.bl b) H
theorem call_isX {X : Cx} {a D dd : Addr} {oe : Obj} {pn : List (Addr × Obj)} (C : ExcK X.K D) (hz : Zc (.ref D) (some dd) oe) (hf : ∃ vs, oe.data = .fields vs) : CallR (X.suite a ((a, oe) :: pn)) (.builtin "isinstance") (rIsX X.K D a dd) := by
  intro pins s σ H xs us Q I r h
  obtain ⟨c, cv, b, fs, rfl, hdd, hcv, e, q⟩ := h
  obtain ⟨u1, u2, rfl, r1, r2⟩ := vals2 r
  cases (show u1 = Value.ref a from r1)
  have ec := hcv _ r2
  subst ec
  have hget := (I.pin (a, oe) (List.mem_append.mpr (.inl List.mem_cons_self))).1
  obtain ⟨vs, hv⟩ := hf
  have hx : ObjOk X.prog X.w H s.heap dd (.xd fs) := I.hok dd _ hdd
  obtain ⟨mA, hns, hr⟩ := hx
  obtain ⟨od, ho, hl⟩ := lookIn_ns hns
  have J : PySem.W.InstAt s.heap a oe D (some od) := by
    refine ⟨hget, hz.1, ?_, ?_⟩
    · unfold PySem.W.notCls
      rw [hv]
    · rw [hz.2]
      exact ho
  refine PySem.W.kia_one (PySem.W.kitx_exc C.cl C.hg C.hk C.hs C.ha C.hn C.ht C.hm) I.kIn J e (by intro z; cases z) fun tk => ?_
  exact ⟨.bl b, H, I.kept (t' := tk) (fun _ _ z => z), rfl, q⟩
end Iv

/-! ## IvQ -/
/-! Iv, part Q: a lambda without parameters, called in the def that got it; its exceptions are told of the very slots. -/
namespace Iv
open PySem PySem.Spec PyProof.Rows L2 LamX
section
variable {X : Cx} {pn0 : List (Addr × Obj)} {σ0 : L2.St} {H0 : Hp} {s0 : Shared}
/-- the context of the def that got the lambda -/
abbrev gotCx (X : Cx) (N : List Str) (q : Str) (sc : Scope) (g : Addr) (cd : Value) (s : Shared) (H : Hp) : Cx := cxOf C8.CX0 X.prog X.w X.K X.mg X.base N q sc g cd X.A X.stack s H C8.E0
/-- x(), told of the slots: W σ is what the frame wishes of an exception -/
theorem pe_actS {N : List Str} {q : Str} {sc : Scope} {g f cc : Addr} {cd pm ctv : Value} {ar : Arguments} {bd : Expr} {lsc : Scope} {k i : Nat} {a : Str} {pn : List (Addr × Obj)} {xe : Value → Shared → Prop} {W : WX} {tb : XK → L2.TE} {p1 p2 : Pos}
    (I : Inv X pn0 σ0 H0 s0) (L : LamS X.env.scope lsc)
    (hf : s0.heap.get? f = some (PySem.W.kla_obj "<lambda>" (X.env.qual ++ "<lambda>") ar bd lsc (cloFrom X.env.cells lsc.names []) pm cc ctv)) (hfn : H0 f = none) (hfr : f ∉ frs X.stack)
    (hb : bindArgs (PySem.W.kla_fn "<lambda>" (X.env.qual ++ "<lambda>") ar bd lsc (cloFrom X.env.cells lsc.names []) pm (.ref cc) ctv) ⟨[], []⟩ = pure [])
    (tk : Takes ((gotCx X N q sc g cd s0 H0).tr pn xe) W) (hr : Room (k + 1) (X.A.deeper (envOfC q sc s0.heap.objs.size g cd)))
    (hbody : ∀ (A : Around) (outer : List PySem.Env) (s : Shared) (H : Hp) (E : XK), A.guards = X.A.guards → Room k (A.deeper (lamEnv X lsc s.heap.objs.size f cc)) → PE (lamCx X A outer s H E lsc f cc) bd (tb E))
    (hN : N[i]? = some a) (hv : Vis sc a) (hd1 : (a == ("__debug__" : Str)) = false) (hd2 : (a == ("__classdict__" : Str)) = false) :
    PE ((gotCx X N q sc g cd s0 H0).tr pn xe) (.Call (.Name a p1) [] [] p2) (fun σ H Q => σ[i]? = some (some (.ref f)) ∧ H cc = some (CodeO cc (X.env.qual ++ "<lambda>")) ∧ tb (WE W σ) σ0 H Q) := by
  constructor
  intro pins s σ H Q J h
  obtain ⟨hs, hc, ht⟩ := h
  have nm := (pe_var (pos := p1) (i := i) hN hv hd1 hd2).run pins s σ H (fun v H1 => v = .ref f ∧ H1 = H) J ⟨.ref f, hs, rfl, rfl⟩
  refine wpAny_Call_Name_kw (thn nm ?_)
  intro u s1 hu
  obtain ⟨v, H1, J1, rv, ev, eH⟩ := hu
  subst ev eH
  cases (show u = Value.ref f from rv)
  have of1 := J1.base.keep f _ hf hfn hfr (fun z => absurd (show f ∈ ([] : List Addr) from z) (by simp))
  refine PySem.W.callWith_F0 ⟨_, _, _, _, of1⟩ ?_
  have un : Un (frs X.stack) [] H0 H1 s0.heap s1.heap := J1.base
  obtain ⟨⟨oc, vs, t, e1, e2, e3⟩, _, _⟩ := J1.hok cc _ hc
  have rc : codeAny (model X.prog X.w) (X.A.deeper (envOfC q sc s0.heap.objs.size g cd)) (.call (.ref f) ⟨[], []⟩)
      (CR (L2.CX X.prog X.w) (envOfC q sc s0.heap.objs.size g cd :: X.stack) X.prog X.w H1 s1 Q (WE W σ)) s1 := by
    refine PySem.W.kla_callFunE hr.depth of1 rfl L.co L.gen rfl ⟨cc, oc, vs, t, rfl, e1, e2, e3⟩ ?_
    rw [hb]
    refine wpAny_pure (wpAny_newFunctionEnv (fun y hy => (L.own y hy).2) (fun y hy => absurd hy (by simp)) (fun h2 hns hsb => ?_) L.kind)
    refine ⟨J1.nolimit.fresh _ hsb, ?_⟩
    have kp : ∀ b o, s1.heap.get? b = some o → h2.get? b = some o := fun b o e => by
      refine hsb.extBut b o (Nat.ne_of_lt (Heap.lt_size e)) ?_
      exact Heap.get?_push_of_some _ e
    have J2 := lam_start2 (A := X.A.deeper (envOfC q sc s0.heap.objs.size g cd)) (outer := envOfC q sc s0.heap.objs.size g cd :: X.stack) (E := WE W σ) (f := f) (c' := cc) (tk := s1.toks + ([] : List (Str × Value)).length) I L J1.env0 hr.hd un hns kp
    have bo := (hbody (X.A.deeper (envOfC q sc s0.heap.objs.size g cd)) _ s1 H1 (WE W σ) rfl (hr.deeper _)).run [] _ _ H1 Q J2 ht
    show codeAny _ _ (.expr bd (lamEnv X lsc s1.heap.objs.size f cc)) _ _
    refine PySem.W.kla_codeExpr (wpAny_mono bo (fun v2 s2 hq => ?_) fun e2 s2 hq => hq)
    obtain ⟨w2, H2, J3, rv2, q2⟩ := hq
    exact ⟨w2, H2, J3.os, J3.bare, J3.base, J3.hok, rv2, q2⟩
  refine wpAny_call (codeAny_mono rc ?_)
  intro res s2 hq
  match res, hq with
  | .error e, hq => exact passAt tk σ pins H1 s1 e s2 J1 hq
  | .ok (.ret u2), hq => exact J1.after hq
  | .ok .next, hq => exact hq.elim
  | .ok .brk, hq => exact hq.elim
  | .ok .cont, hq => exact hq.elim
/-- a def that got a lambda and calls it: TT tells what it makes of the lambda's reading -/
def GivesS (X : Cx) (N : List Str) (x : Str) (sc : Scope) (g : Addr) (cd : Value) (bg : List Stmt) (a qn : Str) (TT : (XK → Hp → VK → Prop) → Hp → VK → Prop) : Prop :=
  ∀ (f cc : Addr) (s : Shared) (H : Hp) (Q : VK) (tl : XK → Hp → VK → Prop),
    (∀ (W : WX) (pn : List (Addr × Obj)) (xe : Value → Shared → Prop) (p1 p2 : Pos), Takes ((gotCx X N x sc g cd s H).tr pn xe) W →
      PE ((gotCx X N x sc g cd s H).tr pn xe) (.Call (.Name a p1) [] [] p2) (fun σ H1 Q1 => σ[0]? = some (some (.ref f)) ∧ H1 cc = some (CodeO cc qn) ∧ tl (WE W σ) H1 Q1)) →
    H cc = some (CodeO cc qn) → TT tl H Q → ∃ t, PSs (gotCx X N x sc g cd s H).nox bg t ∧ t { nx := fun _ H' => Q .non H', rt := Q } (L2.start N [.ref f]) H
theorem pe_lamS {T : List (Addr × Str)} {TT : (XK → Hp → VK → Prop) → Hp → VK → Prop} {x a : Str} {g c P : Addr} {k : Nat} {st : Stmt} {kV dc pm cdv ct oc : Value} {an od : Option Addr} {sl : Array (Option Value)} {N : List Str}
    {ar : Arguments} {bd : Expr} {lsc : Scope} {tb : XK → L2.TE} {p lp pos : Pos} (hg : Gl X x) (hm : X.mg x = some (.ref g)) (hk : PySem.W.keepIn X.K (.ref g) = true)
    (lk : X.K.lookup g = some ⟨oc, od, .func (PySem.W.fnOf x x (C8.fnArgs st) (C8.fnBody st) (C8.fnScope st) .none kV dc pm an cdv ct), sl⟩) (hcg : PySem.W.codeIn X.K cdv x = true)
    (hb : ∀ us : List Value, us.length = 1 → bindArgs (PySem.W.fnOf x x (C8.fnArgs st) (C8.fnBody st) (C8.fnScope st) .none kV dc pm an cdv ct) ⟨us, []⟩ = pure (([a] : List Str).zip us))
    (Sg : FnScope N [a] (C8.fnScope st)) (hN : N[0]? = some a) (hv : Vis (C8.fnScope st) a) (hG : GivesS X N x (C8.fnScope st) g cdv (C8.fnBody st) a (X.env.qual ++ "<lambda>") TT)
    (TB : TabB X.base X.mg c P) (hcode : X.env.code = .ref c) (hmT : (P, X.env.qual ++ "<lambda>") ∈ T) (hu : ∀ y ∈ T, y.1 = P → y.2 = X.env.qual ++ "<lambda>") (hr : Room (k + 2) X.A) (L : LamS X.env.scope lsc)
    (har : ar = ⟨[], [], none, [], [], none, []⟩)
    (hbody : ∀ (A : Around) (outer : List PySem.Env) (s : Shared) (H : Hp) (E : XK) (f cc : Addr), A.guards = X.A.guards → Room k (A.deeper (lamEnv X lsc s.heap.objs.size f cc)) → PE (lamCx X A outer s H E lsc f cc) bd (tb E))
    (hdx : (x == ("__debug__" : Str)) = false) (hd1 : (a == ("__debug__" : Str)) = false) (hd2 : (a == ("__classdict__" : Str)) = false) :
    PE X (.Call (.Name x p) [.Lambda ar bd lsc lp] [] pos) (fun σ H Q => Tabs T H ∧ ∀ H1, ExtN H H1 → Tabs T H1 → TT (fun E H2 Q2 => tb E σ H2 Q2) H1 Q) := by
  constructor
  intro pins s σ H Q I h
  obtain ⟨hT, h⟩ := h
  refine wpAny_Call_Name_kw (ld_glob I hg hm ?_ hdx)
  refine PySem.W.callWith_K (h₀ := X.base) I.ok.mod.kin hk ?_ (by rfl) (by rfl)
  show wpAny _ _ (spliced ((false, eval (.Lambda ar bd lsc lp) X.env) :: backTo pos (starEach [] X.env))) _ _ s
  refine Calls.spliced_cons (lam_make2 I TB hcode hmT hu hT (by subst har; rfl) (L.has I.ok) ?_)
  intro f cc pm2 ctv H1 s1 I1 eN T1 hf hfn hfr hco
  refine Calls.spliced_nil ⟨I1.kIn, ?_⟩
  have rc : codeAny (model X.prog X.w) X.A (.call (.ref g) ⟨[.ref f], []⟩) (CR C8.CX0 X.stack X.prog X.w H1 s1 Q C8.E0) s1 := by
    refine run_ofS (N := N) (ps := [a]) (us := [.ref f]) (vs := [.ref f]) lk hcg Sg hr I1.env0 (.of_eq (hb [.ref f] rfl)) (.cons rfl .nil) rfl fun hr2 => ?_
    have act : ∀ (W : WX) (pn : List (Addr × Obj)) (xe : Value → Shared → Prop) (p1 p2 : Pos), Takes ((gotCx X N x (C8.fnScope st) g cdv s1 H1).tr pn xe) W →
        PE ((gotCx X N x (C8.fnScope st) g cdv s1 H1).tr pn xe) (.Call (.Name a p1) [] [] p2) (fun σ2 H2 Q2 => σ2[0]? = some (some (.ref f)) ∧ H2 cc = some (CodeO cc (X.env.qual ++ "<lambda>")) ∧ tb (WE W σ2) σ H2 Q2) :=
      fun W pn xe p1 p2 tk => pe_actS (i := 0) I1 L hf hfn hfr (by subst har; rfl) tk hr2 (fun A outer s H E hgd hr3 => hbody A outer s H E f cc hgd hr3) hN hv hd1 hd2
    obtain ⟨t2, ht2, hq2⟩ := hG f cc s1 H1 Q (fun E H2 Q2 => tb E σ H2 Q2) act hco (h H1 eN T1)
    exact ⟨t2, ht2.nox, hq2⟩
  refine wpAny_call (codeAny_mono rc ?_)
  intro res s2 hq
  match res, hq with
  | .error e, hq => exact (show False from hq).elim
  | .ok (.ret u2), hq => exact I1.after hq
  | .ok .next, hq => exact hq.elim
  | .ok .brk, hq => exact hq.elim
  | .ok .cont, hq => exact hq.elim
end
end Iv

/-! ## IvR -/
/-! Iv, part R: the suite that tells an exception by its class: isinstance after isinstance, the fields into a tuple. -/
namespace Iv
open PySem PySem.Spec PyProof.Rows L2 LamX
def attsB : List Str → List Expr → Bool
  | [], [] => true
  | f :: fl, .Attribute (.Name e _) g _ :: r => decide (e = "error") && decide (g = f) && attsB fl r
  | _, _ => false
/-- class, text, fields: row by row -/
def hChk (sc : Scope) : List (Str × Str × List Str) → List Stmt → Bool
  | [], [] => true
  | (cn, t, fl) :: rest, [.If (.Call (.Name i _) [.Name e _, .Name c _] [] _) [.Assign [.Name fo _] (.Tuple (.Constant (.str t') _ _ :: ats) _ _) _] orelse _] =>
    decide (i = "isinstance") && decide (e = "error") && decide (c = cn) && glB sc cn && !dbgB cn && decide (fo = "found") && decide (t' = t) && attsB fl ats && hChk sc rest orelse
  | _, _ => false
def HC (K : PySem.W.Frag) (mg : Str → Option Value) (D : Addr) (fs : List (Str × V)) (R : V → Hp → Prop) : List (Str × Str × List Str) → V → Hp → Prop
  | [], v, H => R v H
  | (cn, t, fl) :: rest, v, H => ∃ C b, mg cn = some (.ref C) ∧ PySem.W.kitOne K (.ref D) (.ref C) = some b ∧
      (b = true → (∀ f ∈ fl, PySem.W.findIn K (.ref D) f = some none) ∧ ∃ vs : List V, fl.map (fun f => fs.lookup f) = vs.map some ∧ vs.length ≤ 100 ∧ ∀ p, H p = none → R (.ref p) (upd H p (.tup (.str t :: vs)))) ∧ (b = false → HC K mg D fs R rest v H)
theorem PA.imp {X : Cx} {es : List Expr} {t t' : L2.TA} (h : PA X es t) (k : ∀ σ H Q, t' σ H Q → t σ H Q) : PA X es t' := ⟨fun pos pins s σ H Q I q => h.run pos pins s σ H Q I (k σ H Q q)⟩
section
variable {Y : Cx} {a D dd : Addr} {oe : Obj} {pn : List (Addr × Obj)}
def tAtts (a dd : Addr) (fs : List (Str × V)) (fl : List Str) : L2.TA := fun σ H Q => σ[2]? = some (some (V.ref a)) ∧ H dd = some (.xd fs) ∧ ∃ vs : List V, fl.map (fun f => fs.lookup f) = vs.map some ∧ Q vs H
theorem atts_ok (hz : Zc (.ref D) (some dd) oe) (hf : ∃ vs, oe.data = .fields vs) (ek : ExcK Y.K D) (n2 : Y.N[2]? = some ("error" : Str)) (v2 : visB Y.env.scope "error" = true) {fs : List (Str × V)} :
    ∀ (fl : List Str) (ats : List Expr), attsB fl ats = true → (∀ f ∈ fl, PySem.W.findIn Y.K (.ref D) f = some none) → PA (Y.suite a ((a, oe) :: pn)) ats (tAtts a dd fs fl)
  | [], [], _, _ => PA.imp pa_nil fun σ H Q h => by
    obtain ⟨_, _, vs, e, q⟩ := h
    have e2 : vs = [] := by
      cases vs with
      | nil => rfl
      | cons v vs => cases e
    rw [e2] at q
    exact q
  | f :: fl, [], h, _ => by cases h
  | [], x :: ats, h, _ => by cases h
  | f :: fl, x :: ats, h, hn => by
    obtain ⟨p, pos, e, h3⟩ : ∃ p pos, x = .Attribute (.Name "error" p) f pos ∧ attsB fl ats = true := by
      cases x <;> first | (cases h; done) | skip
      rename_i o g pos
      cases o <;> first | (cases h; done) | skip
      rename_i en p
      have z : (decide (en = "error") && decide (g = f) && attsB fl ats) = true := h
      simp only [Bool.and_eq_true, decide_eq_true_eq] at z
      obtain ⟨⟨z1, z2⟩, z3⟩ := z
      subst z1 z2
      exact ⟨p, pos, rfl, z3⟩
    subst e
    have ih := atts_ok (fs := fs) hz hf ek n2 v2 fl ats h3 fun y hy => hn y (List.mem_cons_of_mem _ hy)
    have nm : PE (Y.suite a ((a, oe) :: pn)) (.Name "error" p) _ := pe_var (i := 2) n2 (vis_of v2) (by decide +kernel) (by decide +kernel)
    have px := pe_xf (pos := pos) ek.xf (hn f List.mem_cons_self) hz hf nm (base_ok rfl)
    refine PA.imp (pa_cons px ih (star_ok rfl)) fun σ H Q q => ?_
    obtain ⟨q1, q2, vs, q3, q4⟩ := q
    cases vs with
    | nil => cases q3
    | cons v vs =>
      simp only [List.map_cons, List.cons.injEq] at q3
      exact ⟨V.ref a, q1, rfl, rfl, dd, fs, v, rfl, q2, q3.1, q1, q2, vs, q3.2, q4⟩
def tCh (K : PySem.W.Frag) (mg : Str → Option Value) (a D dd : Addr) (chain : List (Str × Str × List Str)) : TS := fun Dn σ H => ∃ (fs : List (Str × V)) (v : V), σ[2]? = some (some (V.ref a)) ∧ σ[1]? = some (some v) ∧ H dd = some (.xd fs) ∧ HC K mg D fs (fun v' H' => Dn.nx (σ.set 1 (some v')) H') chain v H
theorem chain_ok (hz : Zc (.ref D) (some dd) oe) (hf : ∃ vs, oe.data = .fields vs) (ek : ExcK Y.K D) (nd : Y.N.Nodup) (n1 : Y.N[1]? = some ("found" : Str)) (n2 : Y.N[2]? = some ("error" : Str)) (l1 : locB Y.env.scope "found" = true) (v2 : visB Y.env.scope "error" = true)
    (gi : glB Y.env.scope "isinstance" = true) (mi : Y.mg "isinstance" = none) : ∀ (chain : List (Str × Str × List Str)) (ss : List Stmt), hChk Y.env.scope chain ss = true → PSs (Y.suite a ((a, oe) :: pn)) ss (tCh Y.K Y.mg a D dd chain)
  | [], [], _ => by
    refine ⟨fun pins s σ H Dn I h => pss_nil.run pins s σ H Dn I ?_⟩
    obtain ⟨fs, v, h2, h1, _, q⟩ := h
    have e : σ.set 1 (some v) = σ := by
      apply List.ext_getElem?
      intro j
      by_cases hj : 1 = j
      · subst hj
        rw [List.getElem?_set_self (List.getElem?_eq_some_iff.mp h1).1, h1]
      · rw [List.getElem?_set_ne hj]
    have q' : Dn.nx (σ.set 1 (some v)) H := q
    rw [e] at q'
    exact q'
  | [], x :: ss, h => by simp [hChk] at h
  | (cn, t, fl) :: rest, ss, h => by
    unfold hChk at h
    split at h
    · rename_i heq
      cases heq
    · rename_i cn' t' fl' rest' i p1 e p2 c p3 p4 fo p5 t2 k2 p6 ats k3 p7 p8 orelse p9 heq
      cases heq
      simp only [Bool.and_eq_true, decide_eq_true_eq, Bool.not_eq_true'] at h
      obtain ⟨⟨⟨⟨⟨⟨⟨⟨h1, h2⟩, h3⟩, h4⟩, h5⟩, h6⟩, h7⟩, h8⟩, h9⟩ := h
      subst h1 h2 h3 h6 h7
      refine ⟨fun pins s σ H Dn I hq => ?_⟩
      obtain ⟨fs, v, q2, q1, qd, C, b, hm, hk, qt, qf⟩ := hq
      have nm : PE (Y.suite a ((a, oe) :: pn)) (.Name "error" p2) _ := pe_var (i := 2) n2 (vis_of v2) (by decide +kernel) (by decide +kernel)
      have cl : PE (Y.suite a ((a, oe) :: pn)) (.Name c p3) _ := pe_glob (v := .ref C) (gl_of h4) hm rfl (dbg_of h5).1
      have ci := pe_callB (x := "isinstance") (p := p1) (pos := p4) (call_isX (pn := pn) ek hz hf) (gl_of gi) mi (by decide +kernel : bootBuiltins ("isinstance" : Str) = some (.builtin "isinstance")) (pa_cons nm (pa_cons cl pa_nil (star_ok rfl)) (star_ok rfl)) (by decide +kernel) (by decide +kernel) (star_ok rfl) (stars_ok rfl)
      have ct := pt_val ci fun whole => rfl
      have rs := chain_ok hz hf ek nd n1 n2 l1 v2 gi mi rest orelse h9
      cases b with
      | false =>
        refine (pss_one (ps_if ct (pss_never (sts := _)) rs)).run pins s σ H Dn I ?_
        refine ⟨V.ref a, q2, V.ref C, .ref C, false, fs, rfl, qd, fun u r => r, hk, false, rfl, ?_⟩
        exact ⟨fs, v, q2, q1, qd, qf rfl⟩
      | true =>
        obtain ⟨hno, vs, e1, e2, e3⟩ := qt rfl
        have tp := pe_tup (x1 := k3) (pos := p7) (pa_cons (pe_str (x := t2) (j := k2) (pos := p6)) (atts_ok (fs := fs) (a := a) (pn := pn) (dd := dd) hz hf ek n2 v2 fl ats h8 hno) (star_ok rfl))
        refine (pss_one (ps_if ct (pss_one (ps_set (i := 1) (pos' := p5) (pos := p8) nd n1 (.inl (loc_of l1)) tp (by rfl) (.inr (loc_of l1)))) (pss_never (sts := _)))).run pins s σ H Dn I ?_
        refine ⟨V.ref a, q2, V.ref C, .ref C, true, fs, rfl, qd, fun u r => r, hk, true, rfl, ?_⟩
        refine ⟨q2, qd, vs, e1, ?_, fun p hp => e3 p hp⟩
        rw [sizeLine_eq, List.length_cons]
        omega
    · cases h
end
end Iv

/-! ## IvS -/
/-! Iv, part S: the def that calls a lambda and tells its exception. -/
namespace Iv
open PySem PySem.Spec PyProof.Rows L2 LamX
theorem HC.mono {K : PySem.W.Frag} {mg : Str → Option Value} {D : Addr} {fs : List (Str × V)} {R R' : V → Hp → Prop} (hR : ∀ v H, R v H → R' v H) : ∀ (chain : List (Str × Str × List Str)) (v : V) (H : Hp), HC K mg D fs R chain v H → HC K mg D fs R' chain v H
  | [], v, H, h => hR v H h
  | (cn, t, fl) :: rest, v, H, h => by
    obtain ⟨C, b, h1, h2, h3, h4⟩ := h
    refine ⟨C, b, h1, h2, fun hb => ?_, fun hb => HC.mono hR rest v H (h4 hb)⟩
    obtain ⟨a1, vs, a2, a3, a4⟩ := h3 hb
    exact ⟨a1, vs, a2, a3, fun p hp => hR _ _ (a4 p hp)⟩
/-- the whole def, held against what is written -/
def heardB (sc : Scope) (hn : Str) (chain : List (Str × Str × List Str)) : List Stmt → Bool
  | [.Assign [.Name f1 _] (.Tuple [] _ _) _, .Try [.Expr (.Call (.Name a1 _) [] [] _) _] [.ExceptHandler (some (.Name h1 _)) (some e1) (.Assign [.Name f2 _] (.Tuple [.Constant (.str o1) _ _] _ _) _ :: suite) _] [] [] _, .Return (some (.Name f3 _)) _] =>
    decide (f1 = "found") && decide (a1 = "ask") && decide (h1 = hn) && decide (e1 = "error") && decide (f2 = "found") && decide (o1 = "other") && decide (f3 = "found") && hChk sc chain suite
  | _ => false
/-- what it asks of the lambda's reading -/
def TTh (K : PySem.W.Frag) (mg : Str → Option Value) (CB : Addr) (chain : List (Str × Str × List Str)) : (XK → Hp → VK → Prop) → Hp → VK → Prop := fun tl H Q =>
  ∀ p0, H p0 = none → ∀ (E : XK) (Qv : VK), (∀ v H1, Q (.ref p0) H1 → Qv v H1) →
    (∀ cls d H1, (∃ D dd fs, cls = .ref D ∧ d = some dd ∧ H1 dd = some (.xd fs) ∧ ExcK K D ∧ PySem.W.exmOne K cls (.ref CB) = some true ∧ ∀ p1, H1 p1 = none → HC K mg D fs Q chain (.ref p1) (upd H1 p1 (.tup [.str "other"]))) → E cls d H1) → tl E (upd H p0 (.tup [])) Qv
theorem heard_gives {X : Cx} {x hn qn : Str} {sc : Scope} {g CB : Addr} {cd : Value} {bg : List Stmt} {chain : List (Str × Str × List Str)} (hb : heardB sc hn chain bg = true) (la : visB sc "ask" = true) (lf : locB sc "found" = true) (le : locB sc "error" = true) (gh : glB sc hn = true) (dh : dbgB hn = false)
    (mh : X.mg hn = some (.ref CB)) (gi : glB sc "isinstance" = true) (mi : X.mg "isinstance" = none) : GivesS X ["ask", "found", "error"] x sc g cd bg "ask" qn (TTh X.K X.mg CB chain) := by
  intro f cc s H Q tl act hcc hT
  unfold heardB at hb
  split at hb
  · rename_i f1 p1 k1 p2 p3 a1 p4 p5 p6 h1 p7 e1 f2 p8 o1 k2 p9 k3 p10 p11 suite p12 p13 f3 p14 p15
    simp only [Bool.and_eq_true, decide_eq_true_eq] at hb
    obtain ⟨⟨⟨⟨⟨⟨⟨z1, z2⟩, z3⟩, z4⟩, z5⟩, z6⟩, z7⟩, hch⟩ := hb
    subst z1 z2 z3 z4 z5 z6 z7
    have nd : (["ask", "found", "error"] : List Str).Nodup := by decide +kernel
    have vf : visB sc "found" = true := by
      unfold visB
      rw [loc_of lf]
    have ve : visB sc "error" = true := by
      unfold visB
      rw [loc_of le]
    refine ⟨_, pss_cons (ps_set (X := (gotCx X ["ask", "found", "error"] x sc g cd s H).nox) (i := 1) nd rfl (.inl (loc_of lf)) (pe_tup pa_nil) (by rfl) (.inr (loc_of lf)))
      (pss_cons (ps_try_as (X := (gotCx X ["ask", "found", "error"] x sc g cd s H).nox) (i := 2) (c := .ref CB) (Wout := W0)
        (tb := fun W Dn σ H1 => σ[0]? = some (some (.ref f)) ∧ H1 cc = some (CodeO cc qn) ∧ tl (WE W σ) H1 (fun _ H2 => Dn.nx σ H2))
        (ts := fun a cls d Dn σ H1 => ∃ D dd, cls = .ref D ∧ d = some dd ∧ ExcK X.K D ∧ ∀ p, H1 p = none → tCh X.K X.mg a D dd chain Dn (σ.set 1 (some (.ref p))) (upd H1 p (.tup [.str "other"])))
        rfl rfl nd rfl (loc_of le) ⟨gl_of gh, (dbg_of dh).1, .inl mh⟩ takes0 (fun W pn xe tk _ => ?_) (fun a oe cls d pn hz hf => ?_))
      (pss_one (ps_ret (pe_var (i := 1) rfl (vis_of vf) (by decide +kernel) (by decide +kernel))))), ?_⟩
    · refine pss_one ?_
      have z := ps_expr (pos := p6) (act W pn xe p4 p5 tk) (by rfl)
      exact ⟨fun pins s2 σ2 H2 Dn I h => z.run pins s2 σ2 H2 Dn I h⟩
    · refine ⟨fun pins s2 σ2 H2 Dn I h => ?_⟩
      obtain ⟨D, dd, rfl, rfl, ek, q⟩ := h
      have ck := chain_ok (Y := (gotCx X ["ask", "found", "error"] x sc g cd s H).nox) (a := a) (pn := pn) hz hf ek nd rfl rfl lf ve gi mi chain suite hch
      refine (pss_cons (ps_set (i := 1) (pos' := p8) (pos := p11) nd rfl (.inl (loc_of lf)) (pe_tup (x1 := k3) (pos := p10) (pa_cons (pe_str (x := "other") (j := k2) (pos := p9)) pa_nil (star_ok rfl))) (by rfl) (.inr (loc_of lf))) ck).run pins s2 σ2 H2 Dn I ?_
      exact ⟨by rw [sizeLine_eq]; decide, fun p hp => q p hp⟩
    · refine ⟨by rw [sizeLine_eq]; decide, fun p0 hp0 => ?_⟩
      refine ⟨rfl, ?_, ?_⟩
      · rw [upd_ne (ne_of_none hcc hp0)]
        exact hcc
      · refine hT p0 hp0 _ _ (fun v H1 q => ⟨.ref p0, rfl, q⟩) ?_
        rintro cls d H1 ⟨D, dd, fs, rfl, rfl, h1, ek, hx, hc⟩
        refine ⟨true, hx, fun _ a ha => ?_, fun z => by cases z⟩
        refine ⟨D, dd, rfl, rfl, ek, fun p hp => ?_⟩
        refine ⟨fs, .ref p, rfl, rfl, ?_, ?_⟩
        · rw [upd_ne (ne_of_none h1 hp)]
          exact h1
        · exact HC.mono (fun v' H' q => ⟨v', rfl, q⟩) _ _ _ (hc p hp)
  · cases hb
end Iv

/-! ## IvT -/
/-! Iv, part T: g(lambda: e), g the def that tells the exception: what the interpreter gives. -/
namespace Iv
open PySem PySem.Spec PyProof.Rows L2 LamX
/-- the table of what is heard is the chain's -/
def HRes (S : Sta) (K : PySem.W.Frag) (mg : Str → Option Value) (CB : Addr) (chain : List (Str × Str × List Str)) (hres : Nat → List D → Option D) : Prop :=
  ∀ (c : Nat) (fs : List D) (d : D) (lk : List Addr) (H : Hp) (io : List Addr) (M : Mem) (cls : Value) (dx : Option Addr), hres c fs = some d → Sto S lk H io M → RepX S lk H io c fs cls dx →
    ∃ D dd fv, cls = .ref D ∧ dx = some dd ∧ H dd = some (.xd fv) ∧ ExcK K D ∧ PySem.W.exmOne K cls (.ref CB) = some true ∧
      ∀ p1, H p1 = none → ∀ R : V → Hp → Prop, (∀ v H' , Sto S lk H' io M → Ext H io H' io → Rep S lk H' io d v → R v H') → HC K mg D fv R chain (.ref p1) (upd H p1 (.tup [.str "other"]))
section
variable {S : Sta} {lk : List Addr} {H H1 : Hp} {io : List Addr} {M : Mem}
theorem extN_ext (e : ExtN H H1) : Ext H io H1 io := ⟨⟨[], by simp⟩, fun _ h => .inl h, fun a o h _ hn => e a o h hn⟩
theorem Sto.extN (r : Sto S lk H io M) (e : ExtN H H1) (t : Tabs S.tb H1) : Sto S lk H1 io M := by
  have x : Ext H io H1 io := extN_ext e
  refine ⟨r.nd, r.len, fun i c hc => ?_, fun a ha => ?_, t⟩
  · obtain ⟨a, o, h1, h2, h3⟩ := r.cell i c hc
    exact ⟨a, o, h1, e a _ h2 (fun ps z => by rcases h3.kind with ⟨vs, q⟩ | ⟨vs, q⟩ | ⟨C0, dx0, vs, q⟩ <;> rw [q] at z <;> cases z), h3.of fun _ _ _ q => Reps.mono x _ _ q⟩
  · obtain ⟨⟨vs, h1⟩, h2⟩ := r.lkd a ha
    exact ⟨⟨vs, e a _ h1 (fun ps z => by cases z)⟩, h2⟩
end
theorem heard_post {S : Sta} {W : WX} {K : PySem.W.Frag} {mg : Str → Option Value} {CB : Addr} {chain : List (Str × Str × List Str)} {hres : Nat → List D → Option D} {fe : Rho → Mem → Res} (hr : HRes S K mg CB chain hres)
    {lk : List Addr} {σ : L2.St} {H : Hp} {r : Rho} {M : Mem} {io : List Addr} {Q : VK} (st : Sto S lk H io M) (sl : Slots S lk H io σ r) (p : PostE S W lk σ H io (heardR hres (fe r M)) Q) :
    Tabs S.tb H ∧ ∀ H1, ExtN H H1 → Tabs S.tb H1 → TTh K mg CB chain (fun E H2 Q2 => canE S (fun cls d _ H => E cls d H) fe σ H2 Q2) H1 Q := by
  refine ⟨st.tabs, fun H1 eN T1 => ?_⟩
  have x1 : Ext H io H1 io := extN_ext eN
  have st1 := st.extN eN T1
  have p1 := PostE.ext x1 p
  intro p0 hp0 E Qv hQv hE
  have st2 := st1.laid (o := .tup []) hp0
  have x2 : Ext H1 io (upd H1 p0 (.tup [])) io := Ext.laid hp0
  refine ⟨lk, r, M, io, st2, (sl.mono x1).mono x2, ?_⟩
  have p2 := PostE.ext x2 p1
  have fr := (st1.fresh hp0).1
  cases q : fe r M with
  | stuck =>
    rw [q] at p2
    exact p2
  | ok d M1 =>
    rw [q] at p2
    intro v H3 io3 st3 x3 rp3
    refine hQv v H3 (p2 (.ref p0) H3 io3 st3 x3 ?_)
    unfold Rep
    exact ⟨p0, [], rfl, .inl ⟨x3.keep p0 _ upd_same fr (fun ps z => by cases z), x3.out fr upd_same (fun ps z => by cases z)⟩, Nat.zero_le _, .nil⟩
  | exn c fs M1 =>
    rw [q] at p2
    intro cls dx H3 io3 st3 x3 rx
    unfold heardR at p2
    simp only at p2
    split at p2
    · rename_i d hd
      obtain ⟨D0, dd, fv, e1, e2, e3, e4, e5, e6⟩ := hr c fs d lk H3 io3 M1 cls dx hd st3 rx
      refine hE cls dx H3 ⟨D0, dd, fv, e1, e2, e3, e4, e5, fun p1 hp1 => e6 p1 hp1 _ fun v H4 st4 x4 rp4 => ?_⟩
      exact p2 v H4 io3 st4 (x3.trans x4) rp4
    · exact p2.elim
end Iv

/-! ## IvU -/
/-! Iv, part U: the table of what is heard, from what isinstance says of each class. -/
namespace Iv
open PySem PySem.Spec PyProof.Rows L2 LamX
def pickF (kv : List (Str × D)) : List Str → Option (List D)
  | [] => some []
  | f :: fl => match kv.lookup f, pickF kv fl with
    | some d, some ds => some (d :: ds)
    | _, _ => none
/-- down the chain: bs tells of each class whether the exception is one -/
def resOf (kv : List (Str × D)) : List (Str × Str × List Str) → List Bool → Option D
  | [], _ => some (.tup [.str "other"])
  | (_, t, ff) :: _, true :: _ => match pickF kv ff with
    | some ds => if ds.length ≤ 100 then some (.tup (.str t :: ds)) else none
    | none => none
  | _ :: rest, false :: bs => resOf kv rest bs
  | _ :: _, [] => none
/-- what isinstance says of D -/
def ChF (K : PySem.W.Frag) (mg : Str → Option Value) (D : Addr) : List (Str × Str × List Str) → List Bool → Prop
  | [], _ => True
  | (cn, _, ff) :: rest, b :: bs => (∃ C, mg cn = some (.ref C) ∧ PySem.W.kitOne K (.ref D) (.ref C) = some b) ∧ (∀ f ∈ ff, PySem.W.findIn K (.ref D) f = some none) ∧ ChF K mg D rest bs
  | _ :: _, [] => True
section
variable {S : Sta} {lk : List Addr} {H : Hp} {io : List Addr} {M : Mem}
theorem look_rep : ∀ {kvs : List (Str × V)} {fl : List Str} {fs : List D} {f : Str} {d : D}, kvs.map (·.1) = fl → Reps S lk H io fs (kvs.map (·.2)) → (fl.zip fs).lookup f = some d → ∃ v, kvs.lookup f = some v ∧ Rep S lk H io d v
  | [], fl, fs, f, d, h1, h2, h3 => by
    subst h1
    cases h3
  | (g, w) :: kvs, fl, fs, f, d, h1, h2, h3 => by
    subst h1
    cases fs with
    | nil => cases h3
    | cons x fs =>
      obtain ⟨v, r, e, h4, h5⟩ := h2.inv
      simp only [List.map_cons, List.cons.injEq] at e
      obtain ⟨e1, e2⟩ := e
      subst e1 e2
      simp only [List.map_cons, List.zip_cons_cons, List.lookup_cons] at h3 ⊢
      cases hg : f == g with
      | true =>
        rw [hg] at h3
        cases h3
        exact ⟨w, rfl, h4⟩
      | false =>
        rw [hg] at h3
        exact look_rep rfl h5 h3
theorem pick_rep {kvs : List (Str × V)} {fl : List Str} {fs : List D} (h1 : kvs.map (·.1) = fl) (h2 : Reps S lk H io fs (kvs.map (·.2))) : ∀ {ff : List Str} {ds : List D}, pickF (fl.zip fs) ff = some ds → ∃ vs : List V, ff.map (fun f => kvs.lookup f) = vs.map some ∧ Reps S lk H io ds vs
  | [], ds, h => by
    cases h
    exact ⟨[], rfl, .nil⟩
  | f :: ff, ds, h => by
    unfold pickF at h
    split at h
    · rename_i d ds' e1 e2
      cases h
      obtain ⟨v, g1, g2⟩ := look_rep h1 h2 e1
      obtain ⟨vs, g3, g4⟩ := pick_rep h1 h2 e2
      exact ⟨v :: vs, by rw [List.map_cons, List.map_cons, g1, g3], .cons g2 g4⟩
    · cases h
theorem hc_of {K : PySem.W.Frag} {mg : Str → Option Value} {D0 : Addr} {kvs : List (Str × V)} {fl : List Str} {fs : List D} (h1 : kvs.map (·.1) = fl) (h2 : Reps S lk H io fs (kvs.map (·.2))) (st : Sto S lk H io M) {p1 : Addr} (hp1 : H p1 = none) {R : V → Hp → Prop} {d : D}
    (hR : ∀ v H', Sto S lk H' io M → Ext H io H' io → Rep S lk H' io d v → R v H') : ∀ (chain : List (Str × Str × List Str)) (bs : List Bool), ChF K mg D0 chain bs → resOf (fl.zip fs) chain bs = some d → HC K mg D0 kvs R chain (.ref p1) (upd H p1 (.tup [.str "other"]))
  | [], bs, _, hd => by
    cases hd
    have x1 : Ext H io (upd H p1 (.tup [.str "other"])) io := Ext.laid hp1
    refine hR _ _ (st.laid hp1) x1 ?_
    unfold Rep
    exact ⟨p1, [.str "other"], rfl, .inl ⟨upd_same, (st.fresh hp1).1⟩, by show 1 ≤ lim; decide, .cons rep_str .nil⟩
  | (cn, t, ff) :: rest, [], _, hd => by simp [resOf] at hd
  | (cn, t, ff) :: rest, true :: bs, hc, hd => by
    obtain ⟨⟨C, c1, c2⟩, c3, _⟩ := hc
    unfold resOf at hd
    split at hd
    · rename_i ds e
      split at hd
      · rename_i hl
        cases hd
        obtain ⟨vs, g1, g2⟩ := pick_rep h1 h2 e
        refine ⟨C, true, c1, c2, fun _ => ⟨c3, vs, g1, by rw [← g2.length]; exact hl, fun p hp => ?_⟩, fun z => by cases z⟩
        have x1 : Ext H io (upd H p1 (.tup [.str "other"])) io := Ext.laid hp1
        have st1 := st.laid (o := .tup [.str "other"]) hp1
        have x2 : Ext (upd H p1 (.tup [.str "other"])) io (upd (upd H p1 (.tup [.str "other"])) p (.tup (.str t :: vs))) io := Ext.laid hp
        refine hR _ _ (st1.laid hp) (x1.trans x2) ?_
        unfold Rep
        refine ⟨p, .str t :: vs, rfl, .inl ⟨upd_same, (st1.fresh hp).1⟩, ?_, .cons rep_str (Reps.mono (x1.trans x2) _ _ g2)⟩
        rw [List.length_cons, ← g2.length]
        exact Nat.le_trans (Nat.succ_le_succ hl) (by decide)
      · cases hd
    · cases hd
  | (cn, t, ff) :: rest, false :: bs, hc, hd => by
    obtain ⟨⟨C, c1, c2⟩, _, c4⟩ := hc
    refine ⟨C, false, c1, c2, (fun z => by cases z), fun _ => hc_of h1 h2 st hp1 hR rest bs c4 ?_⟩
    simpa [resOf] using hd
/-- the table of what is heard -/
theorem hres_of {K : PySem.W.Frag} {mg : Str → Option Value} {CB : Addr} {chain : List (Str × Str × List Str)} {bs : Nat → Option (List Bool)}
    (hc : ∀ c b C, bs c = some b → S.ca c = some C → ExcK K C ∧ PySem.W.exmOne K (.ref C) (.ref CB) = some true ∧ ChF K mg C chain b) :
    HRes S K mg CB chain (fun c fs => match bs c with
      | some b => resOf ((S.fl c).zip fs) chain b
      | none => none) := by
  intro c fs d lk H io M cls dx hd st rx
  simp only at hd
  split at hd
  · rename_i b eb
    obtain ⟨C, p, kvs, r1, rfl, rfl, r4, r5, r6, r7⟩ := rx
    obtain ⟨e1, e2, e3⟩ := hc c b C eb r1
    exact ⟨C, p, kvs, rfl, rfl, r4, e1, e2, fun p1 hp1 R hR => hc_of r6 r7 st hp1 hR chain b e3 hd⟩
  · cases hd
end
end Iv

/-! ## IvK -/
/-! Iv, part K: list comprehensions; every expression. -/
namespace Iv
open PySem PySem.Spec PyProof.Rows L2
section
variable {S : Sta} {lk : List Addr} {H H1 : Hp} {io io1 : List Addr} {M : Mem} {dd : Addr}
mutual
/-- the new list grows: what is known of other things stands -/
theorem Rep.turnD {us ws : List V} (hm : dd ∈ lk) (hd : H dd = some (.lst us)) : ∀ (d : D) (v : V), Rep S lk H io d v → Rep S lk (upd H dd (.lst ws)) io d v
  | .non, v, h => h
  | .bl _, v, h => h
  | .int _, v, h => h
  | .str _, v, h => h
  | .tup ds, v, h => by
    unfold Rep at h ⊢
    obtain ⟨a, vs, e, h1, hl, h2⟩ := h
    refine ⟨a, vs, e, h1.imp (fun z => ⟨?_, z.2⟩) id, hl, Reps.turnD hm hd ds vs h2⟩
    rw [upd_ne fun q => by
      rw [q, hd] at z
      cases z.1]
    exact z.1
  | .lst ds, v, h => by
    unfold Rep at h ⊢
    obtain ⟨a, vs, e, h1, hi, hk, hl, h2⟩ := h
    refine ⟨a, vs, e, ?_, hi, hk, hl, Reps.turnD hm hd ds vs h2⟩
    rw [upd_ne fun q => by
      rw [q] at hk
      exact hk hm]
    exact h1
  | .sld ds, v, h => by
    unfold Rep at h ⊢
    obtain ⟨a, vs, e, h1, hl, h2⟩ := h
    refine ⟨a, vs, e, h1.imp (fun z => ⟨?_, z.2⟩) id, hl, Reps.turnD hm hd ds vs h2⟩
    obtain ⟨⟨o, z1⟩, z2⟩ := z
    exact ⟨o, by
      rw [upd_ne fun q => by
        rw [q, hd] at z1
        cases z1]
      exact z1⟩
  | .dk _ ds, v, h => by
    unfold Rep at h ⊢
    obtain ⟨a, kvs, e, h1, hi, hl, hk, hr⟩ := h
    refine ⟨a, kvs, e, ?_, hi, hl, hk, Reps.turnD hm hd ds _ hr⟩
    rw [upd_ne fun q => by
      rw [q, hd] at h1
      cases h1]
    exact h1
  | .fn i, v, h => by unfold Rep at h ⊢; exact h
  | .cls i, v, h => by unfold Rep at h ⊢; exact h
  | .ty _, v, h => h
  | .ins _ _ ds, v, h => by
    unfold Rep at h ⊢
    obtain ⟨a, C, dx, kvs, e, h0, h1, hi, hk, hr⟩ := h
    refine ⟨a, C, dx, kvs, e, h0, ?_, hi, hk, Reps.turnD hm hd ds _ hr⟩
    rw [upd_ne fun q => by
      rw [q, hd] at h1
      cases h1]
    exact h1
  | .ref i, v, h => by unfold Rep at h ⊢; exact h
theorem Reps.turnD {us ws : List V} (hm : dd ∈ lk) (hd : H dd = some (.lst us)) : ∀ (ds : List D) (vs : List V), Reps S lk H io ds vs → Reps S lk (upd H dd (.lst ws)) io ds vs
  | [], vs, h => h
  | d :: ds, vs, h => by
    unfold Reps at h ⊢
    obtain ⟨v, r, e, h1, h2⟩ := h
    exact ⟨v, r, e, Rep.turnD hm hd d v h1, Reps.turnD hm hd ds r h2⟩
end
mutual
/-- the new list is owned from now on -/
theorem Rep.adopt {us : List V} (hd : H dd = some (.lst us)) : ∀ (d : D) (v : V), Rep S (dd :: lk) H io d v → Rep S lk H (io ++ [dd]) d v
  | .non, v, h => h
  | .bl _, v, h => h
  | .int _, v, h => h
  | .str _, v, h => h
  | .tup ds, v, h => by
    unfold Rep at h ⊢
    obtain ⟨a, vs, e, h1, hl, h2⟩ := h
    refine ⟨a, vs, e, h1.imp (fun z => ⟨z.1, fun q => ?_⟩) id, hl, Reps.adopt hd ds vs h2⟩
    rcases List.mem_append.mp q with q | q
    · exact z.2 q
    · have q : a = dd := by simpa using q
      rw [q, hd] at z
      cases z.1
  | .lst ds, v, h => by
    unfold Rep at h ⊢
    obtain ⟨a, vs, e, h1, hi, hk, hl, h2⟩ := h
    refine ⟨a, vs, e, h1, fun q => ?_, fun q => hk (List.mem_cons_of_mem _ q), hl, Reps.adopt hd ds vs h2⟩
    rcases List.mem_append.mp q with q | q
    · exact hi q
    · have q : a = dd := by simpa using q
      exact hk (by rw [q]; exact List.mem_cons_self)
  | .sld ds, v, h => by
    unfold Rep at h ⊢
    obtain ⟨a, vs, e, h1, hl, h2⟩ := h
    refine ⟨a, vs, e, h1.imp (fun z => ⟨z.1, fun q => ?_⟩) id, hl, Reps.adopt hd ds vs h2⟩
    obtain ⟨⟨o, z1⟩, z2⟩ := z
    rcases List.mem_append.mp q with q | q
    · exact z2 q
    · have q : a = dd := by simpa using q
      rw [q, hd] at z1
      cases z1
  | .dk _ ds, v, h => by
    unfold Rep at h ⊢
    obtain ⟨a, kvs, e, h1, hi, hl, hk, hr⟩ := h
    refine ⟨a, kvs, e, h1, fun q => ?_, hl, hk, Reps.adopt hd ds _ hr⟩
    rcases List.mem_append.mp q with q | q
    · exact hi q
    · have q : a = dd := by simpa using q
      rw [q, hd] at h1
      cases h1
  | .fn i, v, h => by unfold Rep at h ⊢; exact h
  | .cls i, v, h => by unfold Rep at h ⊢; exact h
  | .ty _, v, h => h
  | .ins _ _ ds, v, h => by
    unfold Rep at h ⊢
    obtain ⟨a, C, dx, kvs, e, h0, h1, hi, hk, hr⟩ := h
    refine ⟨a, C, dx, kvs, e, h0, h1, fun q => ?_, hk, Reps.adopt hd ds _ hr⟩
    rcases List.mem_append.mp q with q | q
    · exact hi q
    · have q : a = dd := by simpa using q
      rw [q, hd] at h1
      cases h1
  | .ref i, v, h => by
    unfold Rep at h ⊢
    obtain ⟨a, e, h⟩ := h
    exact ⟨a, by rw [List.getElem?_append_left (List.getElem?_eq_some_iff.mp e).1]; exact e, h⟩
theorem Reps.adopt {us : List V} (hd : H dd = some (.lst us)) : ∀ (ds : List D) (vs : List V), Reps S (dd :: lk) H io ds vs → Reps S lk H (io ++ [dd]) ds vs
  | [], vs, h => h
  | d :: ds, vs, h => by
    unfold Reps at h ⊢
    obtain ⟨v, r, e, h1, h2⟩ := h
    exact ⟨v, r, e, Rep.adopt hd d v h1, Reps.adopt hd ds r h2⟩
end
theorem unlock_ok : ∀ a vs, H a = some (HO.lst vs) → a ∉ io → a ∉ dd :: lk → a ∉ lk := fun _ _ _ _ h q => h (List.mem_cons_of_mem _ q)
theorem lock_ok (h : H dd = none) : ∀ a vs, H a = some (HO.lst vs) → a ∉ io → a ∉ lk → a ∉ dd :: lk := fun a vs e _ h2 q => by
  rcases List.mem_cons.mp q with z | z
  · rw [z, h] at e
    cases e
  · exact h2 z
theorem Sto.openD (r : Sto S lk H io M) {us : List V} (h : H dd = none) : Sto S (dd :: lk) (upd H dd (.lst us)) io M := by
  have r1 := r.laid (o := .lst us) h
  refine ⟨r1.nd, r1.len, fun i c hc => ?_, fun a ha => ?_, r1.tabs⟩
  · obtain ⟨a, o, h1, h2, h3⟩ := r.cell i c hc
    refine ⟨a, o, h1, ?_, h3.of fun _ _ _ q => Reps.mono (Ext.laid h) _ _ (Reps.lock (lock_ok h) _ _ q)⟩
    rw [upd_ne fun q => by
      rw [q, h] at h2
      cases h2]
    exact h2
  · rcases List.mem_cons.mp ha with z | z
    · rw [z, upd_same]
      exact ⟨⟨_, rfl⟩, (r.fresh h).1⟩
    · exact r1.lkd a z
theorem Sto.closeD (r : Sto S (dd :: lk) H io M) : Sto S lk H io M := by
  refine ⟨r.nd, r.len, fun i c hc => ?_, fun a ha => r.lkd a (List.mem_cons_of_mem _ ha), r.tabs⟩
  obtain ⟨a, o, h1, h2, h3⟩ := r.cell i c hc
  exact ⟨a, o, h1, h2, h3.of fun _ _ _ q => Reps.lock unlock_ok _ _ q⟩
theorem tabs_lst {tb : List (Addr × Str)} {us ws : List V} (hd : H dd = some (.lst us)) (h : LamX.Tabs tb H) : LamX.Tabs tb (upd H dd (.lst ws)) := by
  intro p hp
  obtain ⟨ps, h1, h2, h3⟩ := h p hp
  have n1 : p.1 ≠ dd := fun z => by
    rw [z, hd] at h1
    cases h1
  refine ⟨ps, by rw [upd_ne n1]; exact h1, h2, fun pos cv q => ?_⟩
  obtain ⟨c, e1, e2⟩ := h3 pos cv q
  refine ⟨c, e1, ?_⟩
  rw [upd_ne fun z => ?_]
  · exact e2
  · rw [z, hd] at e2
    have e3 := Option.some.inj e2
    unfold LamX.CodeO at e3
    cases e3
theorem Sto.turnD (r : Sto S (dd :: lk) H io M) {us ws : List V} (hd : H dd = some (.lst us)) : Sto S (dd :: lk) (upd H dd (.lst ws)) io M := by
  have hn : dd ∉ io := (r.lkd dd List.mem_cons_self).2
  refine ⟨r.nd, r.len, fun i c hc => ?_, fun a ha => ⟨?_, (r.lkd a ha).2⟩, tabs_lst hd r.tabs⟩
  · obtain ⟨a, o, h1, h2, h3⟩ := r.cell i c hc
    refine ⟨a, o, h1, ?_, h3.of fun _ _ _ q => Reps.turnD List.mem_cons_self hd _ _ q⟩
    rw [upd_ne fun q => by
      rw [q] at h1
      exact hn (List.mem_of_getElem? h1)]
    exact h2
  · by_cases q : a = dd
    · rw [q, upd_same]
      exact ⟨_, rfl⟩
    · rw [upd_ne q]
      exact (r.lkd a ha).1
theorem Sto.adopt (r : Sto S (dd :: lk) H io M) {xs : List D} {us : List V} (hf : dd ∉ lk) (hd : H dd = some (.lst us)) (hl : us.length ≤ lim) (hg : grs xs = true) (hr : Reps S (dd :: lk) H io xs us) : Sto S lk H (io ++ [dd]) (M ++ [.lst xs]) := by
  have hn : dd ∉ io := (r.lkd dd List.mem_cons_self).2
  refine ⟨?_, by rw [List.length_append, List.length_append, r.len]; rfl, fun i c hc => ?_, fun a ha => ⟨(r.lkd a (List.mem_cons_of_mem _ ha)).1, fun hm => ?_⟩, r.tabs⟩
  · rw [List.nodup_append]
    refine ⟨r.nd, by simp, fun a ha b hb => ?_⟩
    have e : b = dd := by simpa using hb
    rw [e]
    intro z
    rw [z] at ha
    exact hn ha
  · by_cases hi : i < M.length
    · rw [List.getElem?_append_left hi] at hc
      obtain ⟨a, o, h1, h2, h3⟩ := r.cell i c hc
      exact ⟨a, o, by rw [List.getElem?_append_left (List.getElem?_eq_some_iff.mp h1).1]; exact h1, h2, h3.of fun _ _ _ q => Reps.adopt hd _ _ q⟩
    · rw [List.getElem?_append_right (Nat.le_of_not_lt hi)] at hc
      have e0 : i = M.length := by
        cases q : i - M.length with
        | zero => omega
        | succ n => rw [q] at hc; simp at hc
      subst e0
      simp at hc
      subst hc
      exact ⟨dd, _, by rw [List.getElem?_append_right (by rw [r.len]; exact Nat.le_refl _), r.len]; simp, hd, us, rfl, hl, hg, Reps.adopt hd _ _ hr⟩
  · rcases List.mem_append.mp hm with z | z
    · exact (r.lkd a (List.mem_cons_of_mem _ ha)).2 z
    · have e : a = dd := by simpa using z
      rw [e] at ha
      exact hf ha
/-- something new in between is written -/
theorem Ext.updD (x : Ext H io H1 io1) {o : HO} (h : H dd = none) : Ext H io (upd H1 dd o) io1 := by
  refine ⟨x.pre, x.new, fun a u e hi hn => ?_⟩
  rw [upd_ne fun q => by
    rw [q, h] at e
    cases e]
  exact x.keep a u e hi hn
theorem Ext.adopt (x : Ext H io H1 io1) (h : H dd = none) : Ext H io H1 (io1 ++ [dd]) := by
  obtain ⟨t, e⟩ := x.pre
  refine ⟨⟨t ++ [dd], by rw [e, List.append_assoc]⟩, fun a ha => ?_, x.keep⟩
  rcases List.mem_append.mp ha with z | z
  · exact x.new a z
  · have e : a = dd := by simpa using z
    rw [e]
    refine .inr fun o q => ?_
    rw [h] at q
    cases q
theorem wipe_get (σ : L2.St) : ∀ (vs : List Nat) (j : Nat), (L2.wipe σ vs)[j]? = if j ∈ vs ∧ j < σ.length then some none else σ[j]?
  | [], j => by simp [L2.wipe]
  | v :: vs, j => by
    unfold L2.wipe
    by_cases h : v = j
    · subst h
      by_cases hl : v < σ.length
      · rw [List.getElem?_set_self (by rw [wipe_length]; exact hl), if_pos ⟨List.mem_cons_self, hl⟩]
      · rw [List.getElem?_eq_none (by rw [List.length_set, wipe_length]; exact Nat.le_of_not_lt hl), if_neg fun q => hl q.2, List.getElem?_eq_none (Nat.le_of_not_lt hl)]
    · rw [List.getElem?_set_ne h, wipe_get σ vs j]
      have e : (j ∈ v :: vs ∧ j < σ.length) ↔ (j ∈ vs ∧ j < σ.length) := by
        rw [List.mem_cons]
        exact ⟨fun q => ⟨q.1.resolve_left fun z => h z.symm, q.2⟩, fun q => ⟨.inr q.1, q.2⟩⟩
      simp only [e]
theorem wipe_back {σ σ' : L2.St} {vs ws : List Nat} (hl : σ'.length = σ.length) (hj : ∀ j, j ∉ ws → σ'[j]? = (L2.wipe σ vs)[j]?) (hs : ∀ j ∈ ws, j ∈ vs) : L2.wipe σ' vs = L2.wipe σ vs := by
  apply List.ext_getElem?
  intro j
  rw [wipe_get, wipe_get, hl]
  by_cases h : j ∈ vs ∧ j < σ.length
  · rw [if_pos h, if_pos h]
  · rw [if_neg h, if_neg h]
    by_cases hw : j ∈ ws
    · have hlt : ¬ j < σ.length := fun q => h ⟨hs j hw, q⟩
      rw [List.getElem?_eq_none (by rw [hl]; exact Nat.le_of_not_lt hlt), List.getElem?_eq_none (Nat.le_of_not_lt hlt)]
    · rw [hj j hw, wipe_get, if_neg h]
end
section
variable {T : Tab} {S : Sta} {cf : Nat → List D → Mem → Res} {k : Nat} {X : Cx} {W : WX}
theorem lc_post {tg : CT} {ts el : Rho → Mem → Res} {own : List Nat} {mm : Bool} {f : Rho → Mem → Res} {tt : L2.TT} (htt : TTd S W0 tt ts) (hown : ∀ i ∈ tg.ixs, i ∈ own)
    {lk : List Addr} {σ : L2.St} {H : Hp} {r : Rho} {M : Mem} {io : List Addr} {Q : VK} (st : Sto S lk H io M) (sl : Slots S lk H io σ r)
    (p : PostE S W lk σ H io ((f r M).bind fun x M1 => match srcOf x with
      | some s => mkOf mm (lcGo (fun d => asg tg d (wipeR r own)) ts el s s.fuel 0 M1 [])
      | none => .stuck) Q) : tLc (canI S W f) (canG S tg) tt (canE S W0 el) own σ H Q := by
  refine ⟨lk, r, M, io, st, sl, ?_⟩
  cases q : f r M with
  | exn c fs M1 => rw [q] at p; exact p
  | stuck => rw [q] at p; exact p
  | ok d M1 =>
    rw [q] at p
    simp only [Res.bind] at p
    split at p
    · rename_i s es
      refine ⟨s, es, fun J H1 io1 st1 x1 ii dd hD => ?_⟩
      have p1 := PostE.ext x1 p
      have sl1 := sl.mono x1
      have fr := st1.fresh hD
      refine ⟨fun i m H2 => ∃ io2 M2 acc vs, Sto S (dd :: lk) H2 io2 M2 ∧ Ext H1 io1 H2 io2 ∧ H2 dd = some (.lst vs) ∧ Reps S (dd :: lk) H2 io2 acc vs ∧ s.within i ∧ PostE S W lk σ H1 io1 (mkOf mm (lcGo (fun d => asg tg d (wipeR r own)) ts el s m i M2 acc)) Q ∧ acc.length ≤ lim, ⟨s.fuel, io1, M1, [], [], st1.openD hD, (Ext.refl _ _).updD hD, upd_same, .nil, fun _ _ => Nat.zero_le _, p1, Nat.zero_le _⟩, ?_⟩
      rintro i m H2 ⟨io2, M2, acc, vs, st2, x2, hD2, ra, hw, p2, hlen⟩
      have hn2 : dd ∉ io2 := (st2.lkd dd List.mem_cons_self).2
      cases m with
      | zero => exact p2.elim
      | succ n =>
        have ii2 := ii (dd :: lk) H2 io2 M2 (lock_ok hD) st2 x2 i
        unfold lcGo at p2
        split at p2
        · exact p2.elim
        · rename_i e
          rw [e] at ii2
          refine .inl ⟨ii2 hw, ?_⟩
          have p3 : PostE S W lk σ H1 io1 (mk mm acc M2) Q := p2
          have hl : vs.length ≤ lim := by
            rw [← ra.length]
            exact hlen
          cases mm with
          | false =>
            refine p3 (.ref dd) H2 io2 st2.closeD x2 ?_
            unfold Rep
            exact ⟨dd, vs, rfl, hD2, hn2, fr.2, hl, Reps.lock unlock_ok _ _ ra⟩
          | true =>
            unfold mk at p3
            simp only at p3
            split at p3
            · rename_i hg
              refine p3 (.ref dd) H2 (io2 ++ [dd]) (st2.adopt fr.2 hD2 hl hg ra) (x2.adopt hD) ?_
              unfold Rep
              refine ⟨dd, ?_, rfl⟩
              rw [← st2.len, List.getElem?_append_right (Nat.le_refl _)]
              simp
            · exact p3.elim
        · rename_i dv e
          rw [e] at ii2
          refine .inr ⟨ii2.1, fun H' => ∃ io2 M2 acc vs, Sto S (dd :: lk) H' io2 M2 ∧ Ext H1 io1 H' io2 ∧ H' dd = some (.lst vs) ∧ Reps S (dd :: lk) H' io2 acc vs ∧ s.within (i + 1) ∧ PostE S W lk σ H1 io1 (mkOf mm (lcGo (fun d => asg tg d (wipeR r own)) ts el s n (i + 1) M2 acc)) Q ∧ acc.length ≤ lim, fun H' h => ⟨n, Nat.lt_succ_self n, h⟩, fun x H3 y => ?_⟩
          obtain ⟨st3, x3, rp3⟩ := ii2.2 x H3 y
          have hw1 : s.within (i + 1) := fun xs z => by
            rw [z] at e
            simp only [Src.at, Option.some.injEq] at e
            exact (List.getElem?_eq_some_iff.mp e).1
          have hD3 : H3 dd = some (.lst vs) := x3.keep dd _ hD2 hn2 (fun ps z => by cases z)
          have x13 := x2.trans x3
          split at p2
          · exact p2.elim
          · rename_i r' er
            have slw : Slots S (dd :: lk) H3 io2 (L2.wipe σ own) (wipeR r own) := ((sl1.lock (lock_ok hD)).mono x13).wipe own
            refine ⟨dd :: lk, io2, wipeR r own, dv, r', slw, rp3, er, fun σ2 sl2 hl2 hj2 => ⟨wipe_back (hl2.trans (wipe_length _ _)) hj2 hown, ?_⟩⟩
            refine htt (dd :: lk) σ2 H3 r' M2 io2 _ st3 sl2 ?_
            cases qt : ts r' M2 with
            | exn c fs M3 => rw [qt] at p2; exact p2.elim
            | stuck => rw [qt] at p2; exact p2.elim
            | ok dt M3 =>
              rw [qt] at p2
              simp only [Res.bindS] at p2
              cases dt <;> try exact p2.elim
              rename_i b
              refine ⟨b, rfl, fun H4 io4 st4 x4 => ?_⟩
              have hn3 : dd ∉ io2 := hn2
              have hD4 : H4 dd = some (.lst vs) := x4.keep dd _ hD3 hn3 (fun ps z => by cases z)
              have ra4 := Reps.mono x4 _ _ (Reps.mono x3 _ _ ra)
              cases b with
              | false =>
                simp only [Bool.false_eq_true, if_false]
                exact ⟨io4, M3, acc, vs, st4, x13.trans x4, hD4, ra4, hw1, p2, hlen⟩
              | true =>
                simp only [if_true]
                simp only at p2
                refine ⟨dd :: lk, r', M3, io4, st4, sl2.mono x4, ?_⟩
                cases qe : el r' M3 with
                | exn c fs M4 => rw [qe] at p2; exact p2.elim
                | stuck => rw [qe] at p2; exact p2.elim
                | ok de M4 =>
                  rw [qe] at p2
                  simp only [Res.bindS] at p2
                  intro ve H5 io5 st5 x5 rp5
                  have hn4 : dd ∉ io4 := (st4.lkd dd List.mem_cons_self).2
                  have hD5 : H5 dd = some (.lst vs) := x5.keep dd _ hD4 hn4 (fun ps z => by cases z)
                  have ra5 := Reps.mono x5 _ _ ra4
                  split at p2
                  · rename_i hlt
                    have hv : vs.length < lim := by
                      rw [← ra5.length]
                      exact hlt
                    refine ⟨vs, hD5, lim_lt (Nat.le_of_lt hv), io5, M4, acc ++ [de], vs ++ [ve], st5.turnD hD5, ((x13.trans x4).trans x5).updD hD, upd_same, ?_, hw1, p2, ?_⟩
                    · exact (Reps.turnD List.mem_cons_self hD5 _ _ ra5).append (.cons (Rep.turnD List.mem_cons_self hD5 _ _ rp5) .nil)
                    · rw [List.length_append]
                      exact hlt
                  · exact p2.elim
    · exact p.elim
theorem set_ok {iter : Expr} {env : PySem.Env} (h : notSet iter = true) : ∀ x, foldedSetIterable iter env x = pure x := by
  intro x
  cases iter <;> first | rfl | (simp only [notSet, Bool.false_eq_true] at h)
theorem tests_ok {N : List Str} {T : Tab} {sc : Scope} {Y : Cx} {ts : CE} {ifs : List Expr} (hN : Y.N = N) (hs : Y.env.scope = sc) (gt : Good T S cf Y W0 ts) (h : (match ifs with
        | [] => ts.isNil
        | [c] => !ts.isNil && tst ts && chk N T .v ts sc (.e c)
        | _ => false) = true) : PTs Y ifs (if ts.isNil = true then tYes else canT S W0 (ev T cf .v ts)) := by
  subst hN hs
  split at h
  · rw [if_pos h]
    exact pts_nil
  · simp only [Bool.and_eq_true, Bool.not_eq_true'] at h
    rw [if_neg (by rw [h.1.1]; simp)]
    exact pts_one ((gt.v _ h.2).2 h.1.2)
  · cases h
theorem ttd_ok {T : Tab} {ts : CE} : TTd S W0 (if ts.isNil = true then tYes else canT S W0 (ev T cf .v ts)) (if ts.isNil = true then (fun _ M => .ok (.bl true) M) else ev T cf .v ts) := by
  intro lk σ H r M io Q st sl p
  by_cases h : ts.isNil = true
  · rw [if_pos h] at p ⊢
    exact post_tbl st p
  · rw [if_neg h] at p ⊢
    exact ⟨lk, r, M, io, st, sl, p⟩
/-- the parts of a comprehension -/
theorem lc_parts (C : Con T S cf k X W) {m : Bool} {own : List Nat} {tg : CT} {it ts e : CE} (gi : Good T S cf X W it) (gt : noH ts = true → ∀ s H scope cenv fp, Good T S cf (X.blk s H scope cenv fp) W0 ts) (ge : noH e = true → ∀ s H scope cenv fp, Good T S cf (X.blk s H scope cenv fp) W0 e)
    {elt tgt iter : Expr} {ifs : List Expr} {scope : Scope} {pos : Pos} (h : chk X.N T .v (.lc m own tg it ts e) X.env.scope (.e (.ListComp elt [⟨tgt, iter, ifs, 0⟩] scope pos)) = true) :
    PI X tgt iter (canI S W (ev T cf .s it)) ∧ BlkOk X.N X.env.scope scope (ownP X.N own) ∧ (ownP X.N own).map (·.2) = own ∧ (∀ (s : Shared) (H : Hp) (C : Addr) (cl : List (Str × Addr)) (fp : List Addr), PG (X.blk s H scope (compEnvC scope cl C X.env) fp) tgt (canG S tg)) ∧
    (∀ (s : Shared) (H : Hp) (C : Addr) (cl : List (Str × Addr)) (fp : List Addr), PTs (X.blk s H scope (compEnvC scope cl C X.env) fp) ifs (if ts.isNil = true then tYes else canT S W0 (ev T cf .v ts))) ∧
    (∀ (s : Shared) (H : Hp) (C : Addr) (cl : List (Str × Addr)) (fp : List Addr), PE (X.blk s H scope (compEnvC scope cl C X.env) fp) elt (canE S W0 (ev T cf .v e))) ∧ (∀ x, foldedSetIterable iter X.env x = pure x) ∧ ∀ i ∈ tg.ixs, i ∈ own := by
  simp only [chk, Bool.and_eq_true, decide_eq_true_eq] at h
  obtain ⟨⟨⟨⟨⟨⟨⟨⟨⟨hn1, hn2⟩, h1⟩, h2⟩, h3⟩, h4⟩, h5⟩, h6⟩, h7⟩, h8⟩ := h
  refine ⟨gi.s _ _ h2, blkOk_by h3, h4, fun s H L cl fp => ?_, fun s H L cl fp => ?_, fun s H L cl fp => ?_, set_ok h1, fun i hi => ?_⟩
  · exact (sound_tgt (X := X.blk s H scope (compEnvC scope cl L X.env) fp) C.sk C.calm C.nd (fun x hx => by
      show (scope.names.lookup x == some .cell) = true
      rw [cell_of hx]
      rfl) tg).1 _ h5
  · exact tests_ok (Y := X.blk s H scope (compEnvC scope cl L X.env) fp) rfl rfl (gt hn1 s H scope _ fp) h7
  · exact ((ge hn2 s H scope (compEnvC scope cl L X.env) fp).v _ h8).1
  · have z := List.all_eq_true.mp h6 i hi
    simpa using z
theorem good_lc (C : Con T S cf k X W) {m : Bool} {own : List Nat} {tg : CT} {it ts e : CE} (gi : Good T S cf X W it) (gt : noH ts = true → ∀ s H scope cenv fp, Good T S cf (X.blk s H scope cenv fp) W0 ts) (ge : noH e = true → ∀ s H scope cenv fp, Good T S cf (X.blk s H scope cenv fp) W0 e) : Good T S cf X W (.lc m own tg it ts e) := good_p (fun x h => by
  have h0 := h
  simp only [chk] at h
  split at h
  · rename_i elt tgt iter ifs scope pos heq
    cases heq
    obtain ⟨k1, k2, k3, k4, k5, k6, k7, k8⟩ := lc_parts C gi gt ge h0
    have z := pe_lc (pos := pos) C.calm C.nd k1 k2 k4 k5 k6 k7
    rw [k3] at z
    refine ⟨pe_can z fun lk σ H r M io Q st sl p => ?_, .inl rfl⟩
    simp only [ev] at p
    exact lc_post ttd_ok k8 st sl p
  · cases h) (fun m hm s => by cases m <;> first | exact absurd rfl hm | rfl)
end
/-- what a def that makes lambdas must know -/
structure LamOk (T : Tab) (S : Sta) (k : Nat) (X : Cx) : Prop where
  room : Room (k + 3) X.A
  ex : ∃ (g c P CB : Addr) (chain : List (Str × Str × List Str)) (hn : Str) (st : Stmt) (kV dc pm cdv ct oc : Value) (an od : Option Addr) (sl : Array (Option Value)),
    X.mg T.hname = some (.ref g) ∧ PySem.W.keepIn X.K (.ref g) = true ∧ X.K.lookup g = some ⟨oc, od, .func (PySem.W.fnOf T.hname T.hname (C8.fnArgs st) (C8.fnBody st) (C8.fnScope st) .none kV dc pm an cdv ct), sl⟩ ∧ PySem.W.codeIn X.K cdv T.hname = true ∧
    (∀ us : List Value, us.length = 1 → bindArgs (PySem.W.fnOf T.hname T.hname (C8.fnArgs st) (C8.fnBody st) (C8.fnScope st) .none kV dc pm an cdv ct) ⟨us, []⟩ = pure ((["ask"] : List Str).zip us)) ∧ FnScope ["ask", "found", "error"] ["ask"] (C8.fnScope st) ∧
    heardB (C8.fnScope st) hn chain (C8.fnBody st) = true ∧ visB (C8.fnScope st) "ask" = true ∧ locB (C8.fnScope st) "found" = true ∧ locB (C8.fnScope st) "error" = true ∧ glB (C8.fnScope st) hn = true ∧ dbgB hn = false ∧ X.mg hn = some (.ref CB) ∧ glB (C8.fnScope st) "isinstance" = true ∧
    LamX.TabB X.base X.mg c P ∧ X.env.code = .ref c ∧ (P, X.env.qual ++ "<lambda>") ∈ S.tb ∧ (∀ y ∈ S.tb, y.1 = P → y.2 = X.env.qual ++ "<lambda>") ∧ HRes S X.K X.mg CB chain T.hres
section
variable {T : Tab} {S : Sta} {cf : Nat → List D → Mem → Res} {k : Nat} {X : Cx} {W : WX}
theorem noArgs_eq {ar : Arguments} (h : noArgs ar = true) : ar = ⟨[], [], none, [], [], none, []⟩ := by
  unfold noArgs at h
  split at h
  · rfl
  · cases h
theorem good_heard (C : Con T S cf k X W) (Lo : LamOk T S k X) {e : CE} (ge : noH e = true → ∀ {Y : Cx} {V : WX}, Con T S cf k Y V → Good T S cf Y V e) : Good T S cf X W (.heard e) := good_p (fun x h => by
  simp only [chk] at h
  split at h
  · rename_i nx p ar bd lsc lp pos heq
    cases heq
    simp only [Bool.and_eq_true] at h
    obtain ⟨⟨⟨⟨h1, h2⟩, h3⟩, h4⟩, h5⟩ := h
    obtain ⟨n1, n2, n3⟩ := gn_of h1
    subst n1
    obtain ⟨g, c, P, CB, chain, hn, st, kV, dc, pm, cdv, ct, oc, an, od, sl, l1, l2, l3, l4, l5, l6, l7, l8, l9, l10, l11, l12, l13, l14, l15, l16, l17, l18, l19⟩ := Lo.ex
    have gv := heard_gives (X := X) (x := T.hname) (qn := X.env.qual ++ "<lambda>") (g := g) (cd := cdv) l7 l8 l9 l10 l11 l12 l13 l14 (C.blt _ (by decide))
    refine ⟨pe_can (pe_lamS (k := k + 1) (tb := fun E => canE S (fun cls d _ H => E cls d H) (ev T cf .v e)) n2 l1 l2 l3 l4 l5 l6 rfl (vis_of l8) gv l15 l16 l17 l18 Lo.room (LamX.lamS_by h2) (noArgs_eq h3) (fun A outer s H E f cc hgd hr => ?_) n3 (by decide +kernel) (by decide +kernel)) fun lk σ H r M io Q st0 sl0 p0 => ?_, .inl rfl⟩
    · have CY : Con T S cf k (LamX.lamCx X A outer s H E lsc f cc) (fun cls d _ H => E cls d H) :=
        ⟨C.sk, rfl, C.nd, hgd.trans C.gu, hr.mono (Nat.le_succ _), takes_of rfl rfl rfl rfl, passes_of rfl, C.fns, C.cons, C.blt, C.k2, C.cls, C.ar, C.icl, hr⟩
      exact ((ge h4 CY).v _ h5).1
    · simp only [ev] at p0
      exact heard_post l19 st0 sl0 p0
  · cases h) (fun m hm s => by cases m <;> first | exact absurd rfl hm | rfl)
end
theorem hl {a b : Bool} {L : Prop} (h : (a && b) = true ∨ L) : a = true ∨ L := h.imp (fun z => (Bool.and_eq_true_iff.mp z).1) id
theorem hr2 {a b : Bool} {L : Prop} (h : (a && b) = true ∨ L) : b = true ∨ L := h.imp (fun z => (Bool.and_eq_true_iff.mp z).2) id
/-- every expression gives what the interpreter gives -/
theorem sound {T : Tab} {S : Sta} {cf : Nat → List D → Mem → Res} {k : Nat} : ∀ (c : CE) {X : Cx} {W : WX}, Con T S cf k X W → (noH c = true ∨ LamOk T S k X) → Good T S cf X W c
  | .non, _, _, _, h => good_non
  | .bl _, _, _, _, h => good_bl
  | .int _, _, _, _, h => good_int
  | .str _, _, _, _, h => good_str
  | .var _, _, _, _, h => good_var
  | .con _, _, _, C, h => good_con C
  | .fnv _, _, _, C, h => good_fnv C
  | .tyv _, _, _, C, h => good_tyv C
  | .bin _ a b, _, _, C, h => good_bin C (sound a C (hl (a := noH a) (b := noH b) h)) (sound b C (hr2 (a := noH a) (b := noH b) h))
  | .rep _ a b, _, _, C, h => good_rep C (sound a C (hl (a := noH a) (b := noH b) h)) (sound b C (hr2 (a := noH a) (b := noH b) h))
  | .neg a, _, _, C, h => good_neg (sound a C h)
  | .not a, _, _, C, h => good_not (sound a C h)
  | .and a, _, _, C, h => good_and (sound a C h)
  | .or a, _, _, C, h => good_or (sound a C h)
  | .cmp _ a b, _, _, C, h => good_cmp C (sound a C (hl (a := noH a) (b := noH b) h)) (sound b C (hr2 (a := noH a) (b := noH b) h))
  | .ite t a b, _, _, C, h => good_ite (sound t C (hl (a := noH t) (b := noH a) (hl (a := noH t && noH a) (b := noH b) h))) (sound a C (hr2 (a := noH t) (b := noH a) (hl (a := noH t && noH a) (b := noH b) h))) (sound b C (hr2 (a := noH t && noH a) (b := noH b) h))
  | .call _ a, _, _, C, h => good_call C (sound a C h)
  | .callv _ a, _, _, C, h => good_callv C (sound a C h)
  | .callk _ _ a, _, _, C, h => good_callk C (sound a C h) fun es r M d M1 h q => len_all h q
  | .heard e, _, _, C, h => good_heard C (h.elim (fun z => by cases z) id) fun hn Y V CY => sound e CY (.inl hn)
  | .bc _ a, _, _, C, h => good_bc C (sound a C h)
  | .bm _ o a, _, _, C, h => good_bm C (sound o C (hl (a := noH o) (b := noH a) h)) (sound a C (hr2 (a := noH o) (b := noH a) h))
  | .cidx _ a, _, _, C, h => good_cidx C (sound a C h)
  | .ix a b, _, _, C, h => good_ix C (sound a C (hl (a := noH a) (b := noH b) h)) (sound b C (hr2 (a := noH a) (b := noH b) h))
  | .sl a lo hi, _, _, C, h => good_sl C (sound a C (hl (a := noH a) (b := noH lo) (hl (a := noH a && noH lo) (b := noH hi) h))) (sound lo C (hr2 (a := noH a) (b := noH lo) (hl (a := noH a && noH lo) (b := noH hi) h))) (sound hi C (hr2 (a := noH a && noH lo) (b := noH hi) h))
  | .tup a, _, _, C, h => good_tup (sound a C h)
  | .lst _ a, _, _, C, h => good_lst (sound a C h)
  | .lrange _ a, _, _, C, h => good_lrange C (sound a C h)
  | .lzip _ a b, _, _, C, h => good_lzip C (sound a C (hl (a := noH a) (b := noH b) h)) (sound b C (hr2 (a := noH a) (b := noH b) h))
  | .dic _ _, _, _, _, h => good_dic
  | .dicv _ _, _, _, _, h => good_dicv
  | .dnew, _, _, _, h => good_dnew
  | .lc _ _ _ it ts e, _, _, C, h => good_lc C (sound it C (hl (a := noH it) (hl (a := noH it && noH ts) (b := noH e) h))) (fun hn s H sc ce fp => sound ts (ctx_blk C s H sc ce fp) (.inl hn)) (fun hn s H sc ce fp => sound e (ctx_blk C s H sc ce fp) (.inl hn))
  | .itv a, _, _, C, h => good_itv C (sound a C h)
  | .itr a, _, _, C, h => good_itr C (sound a C h)
  | .ite2 a, _, _, C, h => good_ite2 C (sound a C h)
  | .itz a b, _, _, C, h => good_itz C (sound a C (hl (a := noH a) (b := noH b) h)) (sound b C (hr2 (a := noH a) (b := noH b) h))
  | .itzs a, _, _, C, h => good_itzs C (sound a C h)
  | .make _ _ a, _, _, C, h => good_make C (sound a C h)
  | .meth _ _ o a, _, _, C, h => good_meth C (sound o C (hl (a := noH o) (b := noH a) h)) (sound a C (hr2 (a := noH o) (b := noH a) h))
  | .fld _ o, _, _, C, h => good_fld C (sound o C h)
  | .isiO o _, _, _, C, h => good_isiO C (sound o C h)
  | .sm _ o a, _, _, C, h => good_sm C (sound o C (hl (a := noH o) (b := noH a) h)) (sound a C (hr2 (a := noH o) (b := noH a) h))
  | .chain _ _ a b c, _, _, C, h => good_chain C (sound a C (hl (a := noH a) (b := noH b) (hl (a := noH a && noH b) (b := noH c) h))) (sound b C (hr2 (a := noH a) (b := noH b) (hl (a := noH a && noH b) (b := noH c) h))) (sound c C (hr2 (a := noH a && noH b) (b := noH c) h))
  | .lsts _ a, _, _, C, h => good_lsts (sound a C h)
  | .scons a b, _, _, C, h => good_scons C (sound a C (hl (a := noH a) (b := noH b) h)) (sound b C (hr2 (a := noH a) (b := noH b) h))
  | .nil, _, _, _, h => good_nil
  | .cons a b, _, _, C, h => good_cons (sound a C (hl (a := noH a) (b := noH b) h)) (sound b C (hr2 (a := noH a) (b := noH b) h))
end Iv

/-! ## IvL -/
/-! Iv, part L: statements. -/
namespace Iv
open PySem PySem.Spec PyProof.Rows L2
def PostS (S : Sta) (W : WX) (lk : List Addr) (H : Hp) (io : List Addr) (o : Out) (EE : Ends) : Prop := match o with
  | .nx r M => ∀ σ H1 io1, Sto S lk H1 io1 M → Ext H io H1 io1 → Slots S lk H1 io1 σ r → EE.nx σ H1
  | .rt d M => ∀ v H1 io1, Sto S lk H1 io1 M → Ext H io H1 io1 → Rep S lk H1 io1 d v → EE.rt v H1
  | .xn c fs r M => ∀ cls dx σ H1 io1, Sto S lk H1 io1 M → Ext H io H1 io1 → Slots S lk H1 io1 σ r → RepX S lk H1 io1 c fs cls dx → W cls dx σ H1
  | .stuck => False
def canS (S : Sta) (W : WX) (f : Rho → Mem → Out) : TS := fun EE σ H => ∃ lk r M io, Sto S lk H io M ∧ Slots S lk H io σ r ∧ PostS S W lk H io (f r M) EE
section
variable {T : Tab} {S : Sta} {cf : Nat → List D → Mem → Res} {k : Nat} {X : Cx} {W : WX} {lk : List Addr} {H H1 : Hp} {io io1 : List Addr} {o : Out} {EE : Ends}
theorem PostS.ext (x : Ext H io H1 io1) (h : PostS S W lk H io o EE) : PostS S W lk H1 io1 o EE := by
  cases o with
  | nx r M => exact fun σ H2 io2 a b c => h σ H2 io2 a (x.trans b) c
  | rt d M => exact fun v H2 io2 a b c => h v H2 io2 a (x.trans b) c
  | xn c fs r M => exact fun cls dx σ H2 io2 a b c d => h cls dx σ H2 io2 a (x.trans b) c d
  | stuck => exact h
theorem ps_can {st : Stmt} {t : TS} {f : Rho → Mem → Out} (h : PS X st t) (k : ∀ lk EE σ H r M io, Sto S lk H io M → Slots S lk H io σ r → PostS S W lk H io (f r M) EE → t EE σ H) : PS X st (canS S W f) :=
  ⟨fun pins s σ H EE I ⟨lk, r, M, io, a, b, c⟩ => h.run pins s σ H EE I (k lk EE σ H r M io a b c)⟩
theorem pss_can {st : List Stmt} {t : TS} {f : Rho → Mem → Out} (h : PSs X st t) (k : ∀ lk EE σ H r M io, Sto S lk H io M → Slots S lk H io σ r → PostS S W lk H io (f r M) EE → t EE σ H) : PSs X st (canS S W f) :=
  ⟨fun pins s σ H EE I ⟨lk, r, M, io, a, b, c⟩ => h.run pins s σ H EE I (k lk EE σ H r M io a b c)⟩
/-- a value, then what is done with it -/
theorem post_to {x : Res} {r : Rho} {σ : L2.St} {g : D → Mem → Out} {Qa : VK} (sl : Slots S lk H io σ r) (p : PostS S W lk H io (x.to r g) EE)
    (hk : ∀ d M1 v H1 io1, Sto S lk H1 io1 M1 → Ext H io H1 io1 → Rep S lk H1 io1 d v → PostS S W lk H1 io1 (g d M1) EE → Qa v H1) : PostE S W lk σ H io x Qa := by
  cases x with
  | ok d M1 => exact fun v H1 io1 a b c => hk d M1 v H1 io1 a b c (PostS.ext b p)
  | exn c fs M1 => exact fun cls dx H1 io1 a b c => p cls dx σ H1 io1 a b (sl.mono b) c
  | stuck => exact p
theorem post_toT {x : Res} {r : Rho} {σ : L2.St} {g : D → Mem → Out} {Qa : Bool → Hp → Prop} (sl : Slots S lk H io σ r) (p : PostS S W lk H io (x.to r g) EE) (hn : ∀ d M, (∀ b, d ≠ .bl b) → g d M = .stuck)
    (hk : ∀ b M1 H1 io1, Sto S lk H1 io1 M1 → Ext H io H1 io1 → PostS S W lk H1 io1 (g (.bl b) M1) EE → Qa b H1) : PostT S W lk σ H io x Qa := by
  cases x with
  | ok d M1 =>
    by_cases hd : ∃ b, d = .bl b
    · obtain ⟨b, rfl⟩ := hd
      exact ⟨b, rfl, fun H1 io1 st1 x1 => hk b M1 H1 io1 st1 x1 (PostS.ext x1 p)⟩
    · have e : g d M1 = .stuck := hn d M1 fun b z => hd ⟨b, z⟩
      have p' : PostS S W lk H io (g d M1) EE := p
      rw [e] at p'
      exact p'.elim
  | exn c fs M1 => exact fun cls dx H1 io1 a b c => p cls dx σ H1 io1 a b (sl.mono b) c
  | stuck => exact p
/-- one behind the other -/
theorem post_seqS {g : Rho → Mem → Out} {N : L2.St → Hp → Prop} {bk ct : L2.St → Hp → Prop} (p : PostS S W lk H io (o.seq g) EE)
    (hk : ∀ r M σ H1 io1, Sto S lk H1 io1 M → Ext H io H1 io1 → Slots S lk H1 io1 σ r → PostS S W lk H1 io1 (g r M) EE → N σ H1) : PostS S W lk H io o { EE with nx := N, bk := bk, ct := ct } := by
  cases o with
  | nx r M => exact fun σ H1 io1 a b c => hk r M σ H1 io1 a b c (PostS.ext b p)
  | rt d M => exact p
  | xn c fs r M => exact p
  | stuck => exact p
/-- no lambda within -/
def noHS : CS → Bool
  | .seq a b => noHS a && noHS b
  | .set _ e => noH e
  | .par _ _ a b => noH a && noH b
  | .asg _ e => noH e
  | .sub o i v => noH o && noH i && noH v
  | .fset o _ v => noH o && noH v
  | .drop e => noH e
  | .ite t a b => noH t && noHS a && noHS b
  | .for_ _ it b => noH it && noHS b
  | .whl _ t b => noH t && noHS b
  | .ret e => noH e
  | .raise _ as => noH as
  | _ => true
/-- what a statement needs -/
structure ConS (T : Tab) (S : Sta) (cf : Nat → List D → Mem → Res) (k : Nat) (X : Cx) (W : WX) : Prop where
  c : Con T S cf k X W
  fnT : ∀ x, X.fn x = true

/-! ### what is written -/
def funB (sc : Scope) : Bool := match sc.kind with
  | .function => true
  | _ => false
def plainV : Expr → Bool
  | .ListComp .. => false
  | .SetComp .. => false
  | .DictComp .. => false
  | _ => true
def swB (a b : Expr) (x y : Str) (px py : Pos) : Bool := (py.line == px.line) && nst a && nst b && !([a, b].all (foldedForSure 8)) && !([a, b].all (constantsAlone 8)) && !decide (x = y)
def swLc (x : Str) (p : Pos) (v : Expr) : Bool := match v with
  | .ListComp _ _ scope lpos => (p.line == lpos.line) && !(scope.names.any fun (n, k) => n == x && (k == .local || k == .cell))
  | _ => false
/-- two names that are not both plain -/
def notPair (sc : Scope) : Expr → Bool
  | .Tuple [.Name x _, .Name y _] _ _ => cellB sc x || cellB sc y
  | _ => false
def chkS (N : List Str) (T : Tab) : CS → Bool → Scope → List Stmt → Bool
  | .skip => fun l sc ss => match l, ss with
    | true, [] => true
    | false, [.Pass _] => true
    | false, [.Expr (.Constant (.str _) _ _) _] => true
    | _, _ => false
  | .seq a b => fun l sc ss => match l, ss with
    | true, s :: rest => chkS N T a false sc [s] && chkS N T b true sc rest
    | _, _ => false
  | .set i e => fun l sc ss => match l, ss with
    | false, [.Assign [.Name x p] v pos] => decide (N[i]? = some x) && (locB sc x || cellB sc x) && chk N T .v e sc (.e v) && ((plainV v || cellB sc x) || (funB sc && locB sc x && swLc x p v))
    | _, _ => false
  | .par i j a b => fun l sc ss => match l, ss with
    | false, [.Assign [.Tuple [.Name x px, .Name y py] _ _] (.Tuple [v, w] _ _) pos] => decide (N[i]? = some x) && decide (N[j]? = some y) && !decide (i = j) && locB sc x && locB sc y && funB sc && swB v w x y px py && chk N T .v a sc (.e v) && chk N T .v b sc (.e w)
    | _, _ => false
  | .asg t e => fun l sc ss => match l, ss with
    | false, [.Assign [tgt] v pos] => isTup tgt && (!isTup v || (funB sc && notPair sc tgt)) && chkT N (fun _ => true) sc t false [tgt] && chk N T .v e sc (.e v)
    | _, _ => false
  | .sub o i e => fun l sc ss => match l, ss with
    | false, [.Assign [.Subscript x y _] v pos] => notSlice y && chk N T .v o sc (.e x) && chk N T .v i sc (.e y) && chk N T .v e sc (.e v)
    | _, _ => false
  | .fset o f e => fun l sc ss => match l, ss with
    | false, [.Assign [.Attribute x nm _] v pos] => decide (nm = f) && plainV v && chk N T .v o sc (.e x) && chk N T .v e sc (.e v)
    | _, _ => false
  | .drop e => fun l sc ss => match l, ss with
    | false, [.Expr v _] => plainV v && chk N T .v e sc (.e v)
    | _, _ => false
  | .ite t a b => fun l sc ss => match l, ss with
    | false, [.If c x y _] => tst t && chk N T .v t sc (.e c) && chkS N T a true sc x && chkS N T b true sc y
    | _, _ => false
  | .for_ tg it b => fun l sc ss => match l, ss with
    | false, [.For tgt iter body [] _] => notSet iter && chkT N (fun _ => true) sc tg false [tgt] && chk N T .s it sc (.it tgt iter) && chkS N T b true sc body
    | _, _ => false
  | .whl n t b => fun l sc ss => match l, ss with
    | false, [.While c body [] _] => tst t && chk N T .v t sc (.e c) && chkS N T b true sc body
    | _, _ => false
  | .ret e => fun l sc ss => match l, ss with
    | false, [.Return (some v) _] => chk N T .v e sc (.e v)
    | _, _ => false
  | .retN => fun l sc ss => match l, ss with
    | false, [.Return none _] => true
    | _, _ => false
  | .raise c as => fun l sc ss => match l, ss with
    | false, [.Raise (some (.Call (.Name x _) (e :: es) [] _)) none _] => match T.clss[c]? with
      | some p => gnB x p.1 sc && nst e && es.all nst && chk N T .l as sc (.es (e :: es))
      | none => false
    | _, _ => false
  | .never => fun l sc ss => true
structure GoodS (T : Tab) (S : Sta) (cf : Nat → List D → Mem → Res) (X : Cx) (W : WX) (c : CS) : Prop where
  s : ∀ st, chkS X.N T c false X.env.scope [st] = true → PS X st (canS S W (ex T cf c))
  l : ∀ ss, chkS X.N T c true X.env.scope ss = true → PSs X ss (canS S W (ex T cf c))
theorem goodS_one {c : CS} (hs : ∀ st, chkS X.N T c false X.env.scope [st] = true → PS X st (canS S W (ex T cf c))) (hn : ∀ ss, chkS X.N T c true X.env.scope ss = false) : GoodS T S cf X W c :=
  ⟨hs, (fun ss h => by rw [hn] at h; cases h)⟩
theorem can_nx {r : Rho} {M : Mem} {σ : L2.St} (st : Sto S lk H io M) (sl : Slots S lk H io σ r) (p : PostS S W lk H io (.nx r M) EE) : EE.nx σ H := p σ H io st (Ext.refl _ _) sl
theorem goodS_skip : GoodS T S cf X W .skip := by
  refine ⟨fun st h => ?_, fun ss h => ?_⟩
  · simp only [chkS] at h
    split at h <;> simp only [Bool.false_eq_true] at h
    · rename_i heq
      cases heq
    · rename_i heq
      cases heq
      exact ps_can ps_pass fun lk EE σ H r M io st sl p => can_nx st sl p
    · rename_i heq
      cases heq
      exact ps_can ps_doc fun lk EE σ H r M io st sl p => can_nx st sl p
  · simp only [chkS] at h
    split at h <;> simp only [Bool.false_eq_true] at h
    · exact pss_can pss_nil fun lk EE σ H r M io st sl p => can_nx st sl p
    all_goals contradiction
theorem goodS_seq {a b : CS} (ga : GoodS T S cf X W a) (gb : GoodS T S cf X W b) : GoodS T S cf X W (.seq a b) := by
  refine ⟨fun st h => by simp [chkS] at h, fun ss h => ?_⟩
  cases ss with
  | nil => simp [chkS] at h
  | cons s rest =>
    simp only [chkS, Bool.and_eq_true] at h
    refine pss_can (pss_cons (ga.s _ h.1) (gb.l _ h.2)) fun lk EE σ H r M io st sl p => ⟨lk, r, M, io, st, sl, ?_⟩
    simp only [ex] at p
    refine post_seqS (bk := EE.bk) (ct := EE.ct) p fun r1 M1 σ1 H1 io1 st1 x1 sl1 p1 => ⟨lk, r1, M1, io1, st1, sl1, p1⟩
theorem pv_set {v : Expr} {x : Str} {p : Pos} {n : Nat} {env : PySem.Env} (h : plainV v = true) : swapsWith v (some (.Name x p)) n env = pure false := by
  cases v <;> first | rfl | (simp only [plainV, Bool.false_eq_true] at h)
theorem cv_set {v : Expr} {x : Str} {p : Pos} {n : Nat} {env : PySem.Env} (h : (plainV v || cellB env.scope x) = true) : swapsWith v (some (.Name x p)) n env = pure false := by
  rw [Bool.or_eq_true] at h
  rcases h with h | h
  · exact pv_set h
  · have q : (env.kindOf x == some .local) = false := by
      have z : env.kindOf x = some .cell := cell_of h
      rw [z]
      rfl
    cases v <;> first | rfl | (unfold swapsWith; simp only [q, Bool.and_false, Bool.false_and])
theorem fun_of {sc : Scope} (h : funB sc = true) : sc.kind = .function := by
  unfold funB at h
  split at h <;> first | assumption | cases h
theorem goodS_set (C : ConS T S cf k X W) {i : Nat} {e : CE} (hs : noH e = true ∨ LamOk T S k X) : GoodS T S cf X W (.set i e) := goodS_one (fun st h => by
  simp only [chkS] at h
  split at h
  · rename_i x p v pos _ heq
    cases heq
    simp only [Bool.and_eq_true, decide_eq_true_eq] at h
    obtain ⟨⟨⟨h1, h2⟩, h3⟩, h4⟩ := h
    have hx : Loc X.env.scope x := (Bool.or_eq_true _ _ ▸ h2 : locB X.env.scope x = true ∨ cellB X.env.scope x = true).elim (fun z => .inl (loc_of z)) fun z => .inr (cell_of z)
    have key : ∀ {lk : List Addr} {EE : Ends} {σ : L2.St} {H : Hp} {r : Rho} {M : Mem} {io : List Addr}, Sto S lk H io M → Slots S lk H io σ r → PostS S W lk H io (ex T cf (.set i e) r M) EE → PostE S W lk σ H io (ev T cf .v e r M) (fun v H1 => gName i v σ H1 EE.nx) := by
      intro lk EE σ H r M io st sl p
      simp only [ex] at p
      refine post_to sl p fun d M1 v H1 io1 st1 x1 rp1 p1 => ?_
      split at p1
      · exact can_nx st1 ((sl.mono x1).set rp1) p1
      · exact p1.elim
    cases hv : (plainV v || cellB X.env.scope x) with
    | true =>
      refine ps_can (ps_set C.c.nd h1 hx ((sound e C.c hs).v _ h3).1 (cv_set hv) (.inl (C.fnT x))) fun lk EE σ H r M io st sl p => ?_
      exact ⟨lk, r, M, io, st, sl, key st sl p⟩
    | false =>
      rw [hv, Bool.false_or, Bool.and_eq_true, Bool.and_eq_true] at h4
      obtain ⟨⟨h5, h6⟩, h7⟩ := h4
      cases v <;> simp only [swLc, Bool.false_eq_true, Bool.and_eq_true, Bool.not_eq_true'] at h7
      rename_i elt gens scope lpos
      have h3' := h3
      cases e <;> simp only [chk, Bool.false_eq_true] at h3'
      rename_i m own tg it ts el
      split at h3'
      · rename_i tgt iter ifs _ heq2
        have Cc := C.c
        cases heq2
        obtain ⟨k1, k2, k3, k4, k5, k6, k7, k8⟩ := lc_parts Cc (sound it Cc (hl (a := noH it) (hl (a := noH it && noH ts) (b := noH el) hs))) (fun hn s H sc ce fp => sound ts (ctx_blk Cc s H sc ce fp) (.inl hn)) (fun hn s H sc ce fp => sound el (ctx_blk Cc s H sc ce fp) (.inl hn)) h3
        have z := ps_setLc (py := p) (pos := lpos) (spos := pos) Cc.calm Cc.nd h1 (loc_of h6) (sw_true (fun_of h5) (loc_of h6) h7.1 h7.2) k1 k2 k4 k5 k6 k7
        rw [k3] at z
        refine ps_can z fun lk EE σ H r M io st sl p => ?_
        have q := key st sl p
        simp only [ev] at q
        exact lc_post ttd_ok k8 st sl q
      · cases h3'
  · cases h) (fun ss => by simp [chkS])

theorem swapped_ok {a b : Expr} {x y : Str} {px py pt pt2 : Pos} {kt k2} {env : PySem.Env} (hk : env.scope.kind = .function) (hx : env.scope.names.lookup x = some .local) (hy : env.scope.names.lookup y = some .local) (h : swB a b x y px py = true) :
    swappedStores [.Tuple [.Name x px, .Name y py] kt pt] (.Tuple [a, b] k2 pt2) env = pure (some [x, y]) := by
  unfold swB at h
  simp only [Bool.and_eq_true, Bool.not_eq_true', decide_eq_false_iff_not] at h
  obtain ⟨⟨⟨⟨⟨h1, h2⟩, h3⟩, h4⟩, h5⟩, h6⟩ := h
  have hb : env.blockKind = .function := by unfold Env.blockKind; rw [hk]; rfl
  have kx : env.kindOf x = some .local := hx
  have ky : env.kindOf y = some .local := hy
  have e2 : ([x, y] : List Str).eraseDups.length = 2 := by
    rw [List.eraseDups_cons]
    have q : (List.filter (fun b => !b == x) [y]) = [y] := by
      simp
      exact fun z => h6 z.symm
    rw [q]
    rfl
  have l1 : (py.line == px.line) = true := h1
  unfold swappedStores
  simp only [hb, List.filterMap_cons, List.filterMap_nil, kx, ky, List.head?_cons, Option.map_some, Option.getD_some, Expr.pos, beq_self_eq_true, Bool.and_true, Bool.true_and, l1, if_true, e2, h4, h5, List.length_cons, List.length_nil]
  simp
  intro z
  exfalso
  rcases z with z | z
  · cases a <;> first | (simp [nst] at h2; done) | (simp at z; done)
  · cases b <;> first | (simp [nst] at h3; done) | (simp at z; done)
theorem goodS_par (C : ConS T S cf k X W) {i j : Nat} {a b : CE} (hs : (noH a && noH b) = true ∨ LamOk T S k X) : GoodS T S cf X W (.par i j a b) := goodS_one (fun st h => by
  simp only [chkS] at h
  split at h
  · rename_i x px y py kt pt v w k2 pt2 pos _ heq
    cases heq
    simp only [Bool.and_eq_true, decide_eq_true_eq, Bool.not_eq_true', decide_eq_false_iff_not] at h
    obtain ⟨⟨⟨⟨⟨⟨⟨⟨h1, h2⟩, h3⟩, h4⟩, h5⟩, h6⟩, h7⟩, h8⟩, h9⟩ := h
    have h7' := h7
    unfold swB at h7'
    simp only [Bool.and_eq_true] at h7'
    obtain ⟨⟨⟨⟨⟨_, n1⟩, n2⟩, _⟩, _⟩, _⟩ := h7'
    refine ps_can (ps_par C.c.calm C.c.nd h1 h2 h3 (loc_of h4) (loc_of h5) (pa_cons ((sound a C.c (hl hs)).v _ h8).1 (pa_cons ((sound b C.c (hr2 hs)).v _ h9).1 pa_nil (star_ok n2)) (star_ok n1)) (swapped_ok (fun_of h6) (loc_of h4) (loc_of h5) h7) (by rfl)) fun lk EE σ H r M io st sl p => ?_
    simp only [ex] at p
    refine ⟨lk, r, M, io, st, sl, post_to sl p fun d1 M1 v1 H1 io1 st1 x1 rp1 p1 => ?_⟩
    refine ⟨lk, r, M1, io1, st1, sl.mono x1, post_to (sl.mono x1) p1 fun d2 M2 v2 H2 io2 st2 x2 rp2 p2 => ?_⟩
    refine ⟨v1, v2, rfl, ?_⟩
    split at p2
    · exact can_nx st2 ((((sl.mono x1).mono x2).set (Rep.mono x2 _ _ rp1)).set rp2) p2
    · exact p2.elim
  · cases h) (fun ss => by simp [chkS])
theorem pair_none {tg v : Expr} {env : PySem.Env} (hk : env.scope.kind = .function) (h : notPair env.scope tg = true) : swappedStores [tg] v env = pure none := by
  unfold notPair at h
  split at h
  · rename_i x px y py k pos
    have hb : env.blockKind = .function := by unfold Env.blockKind; rw [hk]; rfl
    have hxy : (env.kindOf x == some .local) = false ∨ (env.kindOf y == some .local) = false := by
      rcases (Bool.or_eq_true _ _ ▸ h : cellB env.scope x = true ∨ cellB env.scope y = true) with z | z
      · left
        have q : env.kindOf x = some .cell := cell_of z
        rw [q]
        rfl
      · right
        have q : env.kindOf y = some .cell := cell_of z
        rw [q]
        rfl
    cases v <;> first | rfl | skip
    unfold swappedStores
    have step : ∀ (c1 c2 c4 c5 : Prop) [Decidable c1] [Decidable c2] [Decidable c4] [Decidable c5] (names : List Str) (z : Sem (Option (List Str))), names.length ≠ 2 →
        (if c1 then (pure none : Sem (Option (List Str))) else if c2 then pure none else if (names.length != 2 || names.eraseDups.length != names.length) = true then pure none else if c4 then pure none else if c5 then z else pure (some names)) = pure none := by
      intro c1 c2 c4 c5 _ _ _ _ names z hn
      have e : (names.length != 2 || names.eraseDups.length != names.length) = true := by
        rw [Bool.or_eq_true]
        exact .inl (by simpa using hn)
      rw [e]
      split
      · rfl
      · split <;> rfl
    have hl : ([Expr.Name x px, Expr.Name y py].filterMap fun
        | .Name id pos => if (env.kindOf id == some .local && pos.line == (([Expr.Name x px, Expr.Name y py] : List Expr).head?.map (·.pos.line)).getD 0) = true then some id else none
        | _ => none).length ≠ 2 := by
      simp only [List.filterMap_cons, List.filterMap_nil]
      rcases hxy with q | q
      · simp only [q, Bool.false_and, Bool.false_eq_true, if_false]
        split <;> simp
      · simp only [q, Bool.false_and, Bool.false_eq_true, if_false]
        split <;> simp
    exact step _ _ _ _ _ _ hl
  · cases h
theorem asg_none {tg v : Expr} {env : PySem.Env} (h : isTup v = false) : swappedStores [tg] v env = pure none := by
  cases v <;> first | (cases tg <;> rfl) | cases h
theorem asg_no {tg v : Expr} {n : Nat} {env : PySem.Env} (h : isTup tg = true) : swapsWithSole [tg] v n env = pure false := by
  cases tg <;> first | cases h | skip
  cases v <;> rfl
theorem goodS_asg (C : ConS T S cf k X W) {t : CT} {e : CE} (hs : noH e = true ∨ LamOk T S k X) : GoodS T S cf X W (.asg t e) := goodS_one (fun st h => by
  simp only [chkS] at h
  split at h
  · rename_i tgt v pos _ heq
    cases heq
    simp only [Bool.and_eq_true] at h
    obtain ⟨⟨⟨h1, h2⟩, h3⟩, h4⟩ := h
    have h2' : swappedStores [tgt] v X.env = pure none := by
      cases hv : isTup v with
      | false => exact asg_none hv
      | true =>
        rw [hv] at h2
        simp only [Bool.not_true, Bool.false_or, Bool.and_eq_true] at h2
        exact pair_none (fun_of h2.1) h2.2
    have g := (sound_tgt (S := S) (X := X) (fnB := fun _ => true) C.c.sk C.c.calm C.c.nd (fun x _ => C.fnT x) t).1 _ h3
    have ae : (assignEach [tgt] X.env).map (·.2) = [assign tgt X.env] := by
      cases tgt <;> first | rfl | cases h1
    refine ps_can (ps_asg ((sound e C.c hs).v _ h4).1 g (asg_no h1) h2' ae) fun lk EE σ H r M io st sl p => ?_
    simp only [ex] at p
    refine ⟨lk, r, M, io, st, sl, post_to sl p fun d1 M1 v1 H1 io1 st1 x1 rp1 p1 => ?_⟩
    split at p1
    · rename_i r1 er
      exact ⟨lk, io1, r, d1, r1, sl.mono x1, rp1, er, fun σ2 sl2 _ _ => can_nx st1 sl2 p1⟩
    · exact p1.elim
  · cases h) (fun ss => by simp [chkS])
theorem ixN_lt {n : Nat} {i : Int} {j : Nat} (h : ixN n i = some j) : j < n := by
  obtain ⟨_, _, h3, h4⟩ := ixN_seq h
  omega
def rSetD : V → V → V → Hp → (Hp → Prop) → Prop := fun o i v H Q => ∃ a H', o = .ref a ∧ DPut H a i v H' ∧ Q H'
theorem set_both (hu : X.A.units + 64 < cLine) : PSet X (fun o i v H Q => rSetD o i v H Q ∨ rSetL o i v H Q) := by
  intro pins s σ H o i v ov iv u Q I ro ri rv h
  rcases h with ⟨a, H', rfl, g, q⟩ | h
  · cases (show ov = Value.ref a from ro)
    exact d_setItem (by omega) I g ri rv fun s' I' => ⟨H', I', q⟩
  · exact set_list pins s σ H o i v ov iv u Q I ro ri rv h
theorem goodS_sub (C : ConS T S cf k X W) {o i e : CE} (hs : (noH o && noH i && noH e) = true ∨ LamOk T S k X) : GoodS T S cf X W (.sub o i e) := goodS_one (fun st h => by
  simp only [chkS] at h
  split at h
  · rename_i x y sp v pos _ heq
    cases heq
    simp only [Bool.and_eq_true] at h
    obtain ⟨⟨⟨h1, h2⟩, h3⟩, h4⟩ := h
    have ha : ∀ v, assign (.Subscript x y sp) X.env v = (do
      let ov ← holding [v] (eval x X.env)
      let iv ← holding [v, ov] (eval y X.env)
      standAt sp
      holding [v, ov, iv] (setItem ov iv v)
      release [v, ov, iv] []) := by
      intro v
      cases y <;> first | rfl | cases h1
    have sw : swapsWithSole [.Subscript x y sp] v pos.line X.env = pure false := by cases v <;> rfl
    have sn : swappedStores [.Subscript x y sp] v X.env = pure none := by cases v <;> rfl
    refine ps_can (ps_asg ((sound e C.c (hr2 hs)).v _ h4).1 (pg_sub ((sound o C.c (hl (hl hs))).v _ h2).1 ((sound i C.c (hr2 (hl hs))).v _ h3).1 (set_both C.c.room.units) ha) sw sn (by rfl)) fun lk EE σ H r M io st sl p => ?_
    simp only [ex] at p
    refine ⟨lk, r, M, io, st, sl, post_to sl p fun d1 M1 v1 H1 io1 st1 x1 rp1 p1 => ?_⟩
    refine ⟨lk, r, M1, io1, st1, sl.mono x1, post_to (sl.mono x1) p1 fun d2 M2 v2 H2 io2 st2 x2 rp2 p2 => ?_⟩
    have sl2 := (sl.mono x1).mono x2
    refine ⟨lk, r, M2, io2, st2, sl2, post_to sl2 p2 fun d3 M3 v3 H3 io3 st3 x3 rp3 p3 => ?_⟩
    have rp1' := Rep.mono x3 _ _ (Rep.mono x2 _ _ rp1)
    have rp2' := Rep.mono x3 _ _ rp2
    split at p3
    · rename_i M4 e4
      unfold subf at e4
      split at e4
      · rename_i kvs ek
        split at e4
        · rename_i c kk e6
          simp only [dkOf] at ek
          split at ek
          rotate_left
          · cases ek
          rename_i kvs' em
          cases ek
          obtain ⟨a, kws, ea, rfl, h1, h2, h3, h4, h5⟩ := dk_cell st3 rp2' em
          split at e4
          · rename_i hg
            cases e4
            obtain ⟨q1, q2, q3, q4⟩ := put_rep (k := kk) h4 h5 h3 hg.1 rp1'
            have hlen : kws.length = kvs.length := by
              have z := congrArg List.length h4
              simpa using z
            have st4 : Sto S lk (upd H3 a (.dK (putK kws kk v1))) io3 (M3.set c (.dk (setK kvs kk d1))) := st3.writeC ea ⟨_, rfl, by omega, q3, q1, q2⟩
            refine .inl ⟨a, _, rfl, .inl ⟨kws, kk, h1, key_rep rp3 e6, Nat.lt_of_lt_of_le (by rw [hlen]; exact hg.2) lim_line, rfl⟩, ?_⟩
            exact p3 σ _ io3 st4 (Ext.write (List.mem_of_getElem? ea)) ((sl2.mono x3).mono (Ext.write (List.mem_of_getElem? ea)))
          · cases e4
        · cases e4
      unfold subL at e4
      split at e4
      · rename_i c z _
        split at e4
        · rename_i xs ex
          split at e4
          · rename_i kk ek
            split at e4
            · rename_i hg
              cases e4
              unfold Rep at rp2'
              obtain ⟨a, ea, rfl⟩ := rp2'
              obtain ⟨vs, f1, f2, f3, f4⟩ := st3.pick ex ea
              refine .inr ⟨a, vs, z, kk, rfl, int_of rp3, f1, by rw [← f4.length]; exact ek, ?_⟩
              have st4 : Sto S lk (upd H3 a (.lst (vs.set kk v1))) io3 (setCell M3 c (xs.set kk d1)) := by
                refine st3.write ea (f4.set rp1' kk) (by rw [List.length_set]; exact f2) (grs_all.mpr fun x hx => ?_)
                rcases List.mem_or_eq_of_mem_set hx with q | q
                · exact grs_all.mp f3 x q
                · rw [q]
                  exact hg
              exact p3 σ _ io3 st4 (Ext.write (List.mem_of_getElem? ea)) ((sl2.mono x3).mono (Ext.write (List.mem_of_getElem? ea)))
            · cases e4
          · cases e4
        · cases e4
      · cases e4
    · exact p3.elim
  · cases h) (fun ss => by simp [chkS])
theorem putF_rep {S : Sta} {lk : List Addr} {H : Hp} {io : List Addr} {f : Str} {d : D} {v : V} (hd : gr d = true) (rd : Rep S lk H io d v) : ∀ {fs : List (Str × D)} {kvs : List (Str × V)}, kvs.map (·.1) = fs.map (·.1) → Reps S lk H io (fs.map (·.2)) (kvs.map (·.2)) → grs (fs.map (·.2)) = true →
    (putF f v kvs).map (·.1) = (putFD f d fs).map (·.1) ∧ Reps S lk H io ((putFD f d fs).map (·.2)) ((putF f v kvs).map (·.2)) ∧ grs ((putFD f d fs).map (·.2)) = true
  | [], [], _, _, _ => ⟨rfl, .cons rd .nil, by show (gr d && true) = true; rw [hd]; rfl⟩
  | [], p :: kvs, h, _, _ => by cases h
  | p :: fs, [], h, _, _ => by cases h
  | (g, y) :: fs, (g', w) :: kvs, h, r, hg => by
    simp only [List.map_cons, List.cons.injEq] at h
    obtain ⟨rfl, h2⟩ := h
    obtain ⟨v', r', e1, h1, h3⟩ := r.inv
    simp only [List.map_cons, List.cons.injEq] at e1
    obtain ⟨rfl, rfl⟩ := e1
    have hg' : (gr y && grs (fs.map (·.2))) = true := hg
    rw [Bool.and_eq_true] at hg'
    unfold putF putFD
    by_cases c : g' = f
    · rw [if_pos c, if_pos c]
      refine ⟨by simp only [List.map_cons, h2], .cons rd h3, ?_⟩
      show (gr d && grs (fs.map (·.2))) = true
      rw [hd, hg'.2]
      rfl
    · rw [if_neg c, if_neg c]
      obtain ⟨z1, z2, z3⟩ := putF_rep hd rd h2 h3 hg'.2
      refine ⟨by simp only [List.map_cons, z1], .cons h1 z2, ?_⟩
      show (gr y && grs ((putFD f d fs).map (·.2))) = true
      rw [hg'.1, z3]
      rfl
theorem goodS_fset (C : ConS T S cf k X W) {o e : CE} {f : Str} (hs : (noH o && noH e) = true ∨ LamOk T S k X) : GoodS T S cf X W (.fset o f e) := goodS_one (fun st h => by
  simp only [chkS] at h
  split at h
  · rename_i x nm sp v pos _ heq
    cases heq
    simp only [Bool.and_eq_true, decide_eq_true_eq] at h
    obtain ⟨⟨⟨h1, h2⟩, h3⟩, h4⟩ := h
    subst h1
    have sw : swapsWith v (some (.Attribute x nm sp)) pos.line X.env = pure false := by
      cases v <;> first | rfl | (simp only [plainV, Bool.false_eq_true] at h2)
    refine ps_can (ps_fld ((sound o C.c (hl hs)).v _ h3).1 ((sound e C.c (hr2 hs)).v _ h4).1 sw) fun lk EE σ H r M io st sl p => ?_
    simp only [ex] at p
    refine ⟨lk, r, M, io, st, sl, post_to sl p fun d1 M1 v1 H1 io1 st1 x1 rp1 p1 => ?_⟩
    refine ⟨lk, r, M1, io1, st1, sl.mono x1, post_to (sl.mono x1) p1 fun d2 M2 v2 H2 io2 st2 x2 rp2 p2 => ?_⟩
    have sl2 := (sl.mono x1).mono x2
    have rp1' := Rep.mono x2 _ _ rp1
    split at p2
    rotate_left
    · exact (show False from p2).elim
    rename_i i
    split at p2
    rotate_left
    · exact (show False from p2).elim
    rename_i c fs em
    split at p2
    rotate_left
    · exact (show False from p2).elim
    rename_i pc ep
    split at p2
    rotate_left
    · exact (show False from p2).elim
    rename_i hc
    obtain ⟨c1, c2, c3⟩ := hc
    unfold Rep at rp2
    obtain ⟨a, ha, rfl⟩ := rp2
    obtain ⟨b, ob, b1, b2, C1, dx, kvs, rfl, b3, b4, b5, b6⟩ := st2.cell i _ em
    rw [ha] at b1
    cases b1
    obtain ⟨C2, q1, q2, q3, q3b, q4, q5, q6, q7, _⟩ := C.c.icl c pc ep
    rw [b3] at q1
    cases q1
    have hlen : kvs.length = fs.length := by
      have z := congrArg List.length b5
      simpa using z
    obtain ⟨z1, z2, z3⟩ := putF_rep (f := nm) c2 rp1' b5 b6 b4
    refine ⟨a, C1, dx, kvs, rfl, b2, q3, q7 _ (List.contains_iff_mem.mp c1), by rw [hlen]; exact c3, ?_⟩
    have hm := List.mem_of_getElem? ha
    exact p2 σ _ io2 (st2.writeC ha ⟨C1, dx, _, rfl, b3, z3, z1, z2⟩) (Ext.write hm) (sl2.mono (Ext.write hm))
  · cases h) (fun ss => by simp [chkS])
theorem goodS_drop (C : ConS T S cf k X W) {e : CE} (hs : noH e = true ∨ LamOk T S k X) : GoodS T S cf X W (.drop e) := goodS_one (fun st h => by
  simp only [chkS] at h
  split at h
  · rename_i v pos _ heq
    cases heq
    simp only [Bool.and_eq_true] at h
    have sw : swapsWith v none pos.line X.env = pure false := by
      cases v <;> first | rfl | (simp only [plainV, Bool.false_eq_true, false_and] at h)
    refine ps_can (ps_expr ((sound e C.c hs).v _ h.2).1 sw) fun lk EE σ H r M io st sl p => ?_
    simp only [ex] at p
    exact ⟨lk, r, M, io, st, sl, post_to sl p fun d1 M1 v1 H1 io1 st1 x1 rp1 p1 => can_nx st1 (sl.mono x1) p1⟩
  · cases h) (fun ss => by simp [chkS])
theorem goodS_ite (C : ConS T S cf k X W) {t : CE} {a b : CS} (hs : noH t = true ∨ LamOk T S k X) (ga : GoodS T S cf X W a) (gb : GoodS T S cf X W b) : GoodS T S cf X W (.ite t a b) := goodS_one (fun st h => by
  simp only [chkS] at h
  split at h
  · rename_i c x y pos _ heq
    cases heq
    simp only [Bool.and_eq_true] at h
    obtain ⟨⟨⟨h1, h2⟩, h3⟩, h4⟩ := h
    refine ps_can (ps_if (((sound t C.c hs).v _ h2).2 h1) (ga.l _ h3) (gb.l _ h4)) fun lk EE σ H r M io st sl p => ?_
    simp only [ex] at p
    refine ⟨lk, r, M, io, st, sl, post_toT sl p (fun d M hd => ?_) fun b M1 H1 io1 st1 x1 p1 => ?_⟩
    · split <;> first | exact absurd rfl (hd _) | rfl
    · cases b with
      | true => exact ⟨lk, r, M1, io1, st1, sl.mono x1, p1⟩
      | false => exact ⟨lk, r, M1, io1, st1, sl.mono x1, p1⟩
  · cases h) (fun ss => by simp [chkS])
theorem goodS_ret (C : ConS T S cf k X W) {e : CE} (hs : noH e = true ∨ LamOk T S k X) : GoodS T S cf X W (.ret e) := goodS_one (fun st h => by
  simp only [chkS] at h
  split at h
  · rename_i v pos _ heq
    cases heq
    refine ps_can (ps_ret ((sound e C.c hs).v _ h).1) fun lk EE σ H r M io st sl p => ?_
    simp only [ex] at p
    exact ⟨lk, r, M, io, st, sl, post_to sl p fun d1 M1 v1 H1 io1 st1 x1 rp1 p1 => p1 v1 H1 io1 st1 (Ext.refl _ _) rp1⟩
  · cases h) (fun ss => by simp [chkS])
theorem goodS_retN : GoodS T S cf X W .retN := goodS_one (fun st h => by
  simp only [chkS] at h
  split at h
  · rename_i pos _ heq
    cases heq
    exact ps_can ps_retN fun lk EE σ H r M io st sl p => p _ H io st (Ext.refl _ _) rep_non
  · cases h) (fun ss => by simp [chkS])
theorem zip_names : ∀ {a : List Str} {b : List V}, b.length = a.length → (a.zip b).map (·.1) = a ∧ (a.zip b).map (·.2) = b
  | [], [], _ => ⟨rfl, rfl⟩
  | x :: a, y :: b, h => by
    obtain ⟨h1, h2⟩ := zip_names (a := a) (b := b) (by simpa using h)
    exact ⟨by rw [List.zip_cons_cons, List.map_cons, h1], by rw [List.zip_cons_cons, List.map_cons, h2]⟩
theorem reps_rev : ∀ {ds : List D} {vs : List V}, Reps S lk H io ds vs → Reps S lk H io ds.reverse vs.reverse
  | [], vs, h => by
    rw [h.inv0]
    exact .nil
  | d :: ds, vs, h => by
    obtain ⟨v, r, rfl, h1, h2⟩ := h.inv
    rw [List.reverse_cons, List.reverse_cons]
    exact (reps_rev h2).append (.cons h1 .nil)
theorem goodS_raise (C : ConS T S cf k X W) {c : Nat} {as : CE} (hs : noH as = true ∨ LamOk T S k X) : GoodS T S cf X W (.raise c as) := goodS_one (fun st h => by
  simp only [chkS] at h
  split at h
  · rename_i x p e es pos rpos _ heq
    cases heq
    split at h
    · rename_i q eq
      simp only [Bool.and_eq_true] at h
      obtain ⟨⟨⟨h1, h2⟩, h3⟩, h4⟩ := h
      obtain ⟨n1, n2, n3⟩ := gn_of h1
      obtain ⟨CC, fI, fd, c1, c2, c3, c4, c5, c6, c7, c8⟩ := C.c.cls c q eq
      refine ps_can (ps_raise C.c.calm C.c.tk (pmk_oex (k := 1) (dvs := []) c3 c4 c5 c8 (C.c.room.mono C.c.k2) c6 .nil C8.pass0 n2 (by rw [n1]; exact c2) ((sound as C.c hs).l _ h4) n3 (star_ok h2) (stars_ok h3))) fun lk EE σ H r M io st sl p => ?_
      simp only [ex] at p
      refine ⟨lk, r, M, io, st, sl, ?_⟩
      cases qe : ev T cf .l as r M with
      | exn c fs M1 => rw [qe] at p; exact fun cls dx H1 io1 a b c => p cls dx σ H1 io1 a b (sl.mono b) c
      | stuck => rw [qe] at p; exact p
      | ok d M1 =>
        rw [qe] at p
        obtain ⟨ds, rfl, hl⟩ := len_all h4 qe
        refine ⟨ds, rfl, fun vs H1 io1 st1 x1 rp => ?_⟩
        simp only [Res.to, eq] at p
        split at p
        · rename_i hd
          obtain ⟨hd1, hd2, hd3⟩ := hd
          have hv : vs.length = q.2.length := by rw [← rp.length]; exact hd1
          refine ⟨by rw [← rp.length]; omega, fun a ha => ?_⟩
          refine ⟨a, vs ++ [], rfl, by rw [List.append_nil]; exact hv, upd_same, fun dx hdx hne => ⟨rfl, dx, (q.2.zip vs).reverse, upd_same, ?_, ?_, ?_⟩⟩
          · rw [upd_ne hne, upd_same, List.append_nil]
          · rw [upd_ne hne] at hdx
            exact hdx
          · have hdx0 : H1 dx = none := by
              rw [upd_ne hne] at hdx
              exact hdx
            have eH : upd (del (upd (upd (upd H1 a (exo a CC none)) dx (exd dx (q.2.zip (vs ++ [])).reverse)) a (exo a CC (some dx))) a) dx (.xd (q.2.zip vs).reverse) = upd H1 dx (.xd (q.2.zip vs).reverse) := by
              funext b
              by_cases hb : b = dx
              · rw [hb, upd_same, upd_same]
              · rw [upd_ne hb, upd_ne hb]
                by_cases hb2 : b = a
                · rw [hb2, del_same, ha]
                · rw [del_ne hb2, upd_ne hb2, upd_ne hb, upd_ne hb2]
            rw [eH]
            have xx : Ext H1 io1 (upd H1 dx (.xd (q.2.zip vs).reverse)) io1 := Ext.laid hdx0
            obtain ⟨z1, z2⟩ := zip_names hv
            refine p _ _ σ _ io1 (st1.laid hdx0) (x1.trans xx) ((sl.mono x1).mono xx) ⟨CC, dx, _, c1, rfl, rfl, upd_same, (st1.fresh hdx0).1, ?_, ?_⟩
            · rw [List.map_reverse, z1, c7]
            · rw [List.map_reverse, z2]
              exact Reps.mono xx _ _ (reps_rev rp)
        · exact p.elim
    · cases h
  · cases h) (fun ss => by simp [chkS])
theorem goodS_never : GoodS T S cf X W .never :=
  ⟨fun st _ => ps_can ps_never fun lk EE σ H r M io st sl p => p.elim, fun ss _ => pss_can pss_never fun lk EE σ H r M io st sl p => p.elim⟩
theorem goodS_for (C : ConS T S cf k X W) {tg : CT} {it : CE} {b : CS} (hs : noH it = true ∨ LamOk T S k X) (gb : GoodS T S cf X W b) : GoodS T S cf X W (.for_ tg it b) := goodS_one (fun st h => by
  simp only [chkS] at h
  split at h
  · rename_i tgt iter body pos _ heq
    cases heq
    simp only [Bool.and_eq_true] at h
    obtain ⟨⟨⟨h1, h2⟩, h3⟩, h4⟩ := h
    have g := (sound_tgt (S := S) (X := X) (fnB := fun _ => true) C.c.sk C.c.calm C.c.nd (fun x _ => C.fnT x) tg).1 _ h2
    refine ps_can (ps_for C.c.po C.c.calm ((sound it C.c hs).s _ _ h3) g (gb.l _ h4) (set_ok h1)) fun lk EE σ H r M io st sl p => ?_
    simp only [ex] at p
    refine ⟨lk, r, M, io, st, sl, ?_⟩
    cases q : ev T cf .s it r M with
    | exn c fs M1 => rw [q] at p; exact fun cls dx H1 io1 a b c => p cls dx σ H1 io1 a b (sl.mono b) c
    | stuck => rw [q] at p; exact p
    | ok d M1 =>
      rw [q] at p
      simp only [Res.to] at p
      split at p
      · rename_i s es
        refine ⟨s, es, fun J H1 io1 st1 x1 ii => ?_⟩
        have p1 := PostS.ext x1 p
        refine ⟨fun i m σ2 H2 => ∃ io2 M2 r2, Sto S lk H2 io2 M2 ∧ Ext H1 io1 H2 io2 ∧ Slots S lk H2 io2 σ2 r2 ∧ s.within i ∧ PostS S W lk H1 io1 (forGo (fun d r => asg tg d r) (ex T cf b) s m i r2 M2) EE, ⟨s.fuel, io1, M1, r, st1, Ext.refl _ _, sl.mono x1, fun _ _ => Nat.zero_le _, p1⟩, ?_⟩
        rintro i m σ2 H2 ⟨io2, M2, r2, st2, x2, sl2, hw, p2⟩
        cases m with
        | zero => exact p2.elim
        | succ n =>
          have ii2 := ii lk H2 io2 M2 refl_lock st2 x2 i
          unfold forGo at p2
          split at p2
          · exact p2.elim
          · rename_i e
            rw [e] at ii2
            exact .inl ⟨ii2 hw, can_nx st2 sl2 (PostS.ext x2 p2)⟩
          · rename_i dv e
            rw [e] at ii2
            refine .inr ⟨ii2.1, fun σ3 H3 => ∃ io3 M3 r3, Sto S lk H3 io3 M3 ∧ Ext H1 io1 H3 io3 ∧ Slots S lk H3 io3 σ3 r3 ∧ s.within (i + 1) ∧ PostS S W lk H1 io1 (forGo (fun d r => asg tg d r) (ex T cf b) s n (i + 1) r3 M3) EE, fun σ3 H3 h => ⟨n, Nat.lt_succ_self n, h⟩, fun x H3 y => ?_⟩
            obtain ⟨st3, x3, rp3⟩ := ii2.2 x H3 y
            have hw1 : s.within (i + 1) := fun xs z => by
              rw [z] at e
              simp only [Src.at, Option.some.injEq] at e
              exact (List.getElem?_eq_some_iff.mp e).1
            have x13 := x2.trans x3
            split at p2
            · exact p2.elim
            · rename_i r3 er
              refine ⟨lk, io2, r2, dv, r3, sl2.mono x3, rp3, er, fun σ4 sl4 _ _ => ⟨lk, r3, M2, io2, st3, sl4, ?_⟩⟩
              have p3 := PostS.ext x13 p2
              cases qb : ex T cf b r3 M2 with
              | nx r5 M5 =>
                rw [qb] at p2
                exact fun σ5 H5 io5 st5 x5 sl5 => ⟨io5, M5, r5, st5, x13.trans x5, sl5, hw1, p2⟩
              | rt d5 M5 => rw [qb] at p3; exact p3
              | xn c fs r5 M5 => rw [qb] at p3; exact p3
              | stuck => rw [qb] at p3; exact p3
      · exact p.elim
  · cases h) (fun ss => by simp [chkS])
theorem goodS_whl (C : ConS T S cf k X W) {n : Nat} {t : CE} {b : CS} (hs : noH t = true ∨ LamOk T S k X) (gb : GoodS T S cf X W b) : GoodS T S cf X W (.whl n t b) := goodS_one (fun st h => by
  simp only [chkS] at h
  split at h
  · rename_i c body pos _ heq
    cases heq
    simp only [Bool.and_eq_true] at h
    obtain ⟨⟨h1, h2⟩, h3⟩ := h
    refine ps_can (ps_while C.c.po (((sound t C.c hs).v _ h2).2 h1) (gb.l _ h3)) fun lk EE σ H r M io st sl p => ?_
    simp only [ex] at p
    refine ⟨fun m σ2 H2 => ∃ io2 M2 r2, Sto S lk H2 io2 M2 ∧ Slots S lk H2 io2 σ2 r2 ∧ PostS S W lk H2 io2 (whlGo (ev T cf .v t) (ex T cf b) m r2 M2) EE, ⟨n, io, M, r, st, sl, p⟩, ?_⟩
    rintro m σ2 H2 ⟨io2, M2, r2, st2, sl2, p2⟩
    cases m with
    | zero => exact p2.elim
    | succ m =>
      unfold whlGo at p2
      refine ⟨lk, r2, M2, io2, st2, sl2, post_toT sl2 p2 (fun d M hd => ?_) fun bb M3 H3 io3 st3 x3 p3 => ?_⟩
      · split <;> first | exact absurd rfl (hd _) | rfl
      · cases bb with
        | false =>
          simp only [Bool.false_eq_true, if_false]
          exact can_nx st3 (sl2.mono x3) p3
        | true =>
          simp only [if_true]
          refine ⟨fun σ4 H4 => ∃ io4 M4 r4, Sto S lk H4 io4 M4 ∧ Slots S lk H4 io4 σ4 r4 ∧ PostS S W lk H4 io4 (whlGo (ev T cf .v t) (ex T cf b) m r4 M4) EE, fun σ4 H4 h => ⟨m, Nat.lt_succ_self m, h⟩, lk, r2, M3, io3, st3, sl2.mono x3, ?_⟩
          exact post_seqS p3 fun r5 M5 σ5 H5 io5 st5 x5 sl5 p5 => ⟨io5, M5, r5, st5, sl5, p5⟩
  · cases h) (fun ss => by simp [chkS])
end
/-- every statement does what the interpreter does -/
theorem soundS {T : Tab} {S : Sta} {cf : Nat → List D → Mem → Res} {k : Nat} {X : Cx} {W : WX} (C : ConS T S cf k X W) : ∀ (c : CS), (noHS c = true ∨ LamOk T S k X) → GoodS T S cf X W c
  | .skip, _ => goodS_skip
  | .seq a b, h => goodS_seq (soundS C a (hl (a := noHS a) (b := noHS b) h)) (soundS C b (hr2 (a := noHS a) (b := noHS b) h))
  | .set _ _, h => goodS_set C h
  | .par _ _ _ _, h => goodS_par C h
  | .asg _ _, h => goodS_asg C h
  | .sub _ _ _, h => goodS_sub C h
  | .fset _ _ _, h => goodS_fset C h
  | .drop _, h => goodS_drop C h
  | .ite t a b, h => goodS_ite C (hl (a := noH t) (b := noHS a) (hl (a := noH t && noHS a) (b := noHS b) h)) (soundS C a (hr2 (a := noH t) (b := noHS a) (hl (a := noH t && noHS a) (b := noHS b) h))) (soundS C b (hr2 (a := noH t && noHS a) (b := noHS b) h))
  | .for_ _ it b, h => goodS_for C (hl (a := noH it) (b := noHS b) h) (soundS C b (hr2 (a := noH it) (b := noHS b) h))
  | .whl _ t b, h => goodS_whl C (hl (a := noH t) (b := noHS b) h) (soundS C b (hr2 (a := noH t) (b := noHS b) h))
  | .ret _, h => goodS_ret C h
  | .retN, _ => goodS_retN
  | .raise _ _, h => goodS_raise C h
  | .never, _ => goodS_never
end Iv

/-! ## IvV -/
/-! Iv, part V: the end of a law's row for defs that ask that nothing is being shown. -/
namespace Iv
open PySem PySem.Spec PyProof.Rows L2
section
variable {P : Program} {w : World} {K : PySem.W.Frag} {mg mb : Str → Option Value} {k : Nat} {fa a : Addr} {cs : List (Addr × Addr)} {fd : FuncData} {x : Str} {sp : Sp} {t : Shared} {vs : List Value} {ns : List Int}
/-- an empty table of code objects -/
abbrev noCode : Obj := { cls := .none, data := .fields #[] }
abbrev lstO (vs : List Value) : Obj := { cls := .type "list", data := .seq vs.toArray }
/-- what is tracked when the law begins: the tables, and the script if the module does not hold it -/
def beg (K : PySem.W.Frag) (ts : List Addr) (a : Addr) (vs : List Value) (ns : List Int) : Hp := fun b =>
  if b ∈ ts then some (HO.tbl #[]) else if b = a ∧ K.lookup a = none then some (HO.frz (lstO vs) (.lst (ns.map V.int))) else none
theorem beg_tab {ts : List Addr} {b : Addr} (h : b ∈ ts) : beg K ts a vs ns b = some (.tbl #[]) := if_pos h
theorem beg_cases {ts : List Addr} {b : Addr} {u : HO} (h : beg K ts a vs ns b = some u) : (b ∈ ts ∧ u = .tbl #[]) ∨ (b = a ∧ b ∉ ts ∧ K.lookup a = none ∧ u = .frz (lstO vs) (.lst (ns.map V.int))) := by
  unfold beg at h
  by_cases h1 : b ∈ ts
  · rw [if_pos h1] at h
    cases h
    exact .inl ⟨h1, rfl⟩
  · rw [if_neg h1] at h
    by_cases h2 : b = a ∧ K.lookup a = none
    · rw [if_pos h2] at h
      cases h
      exact .inr ⟨h2.1, h1, h2.2, rfl⟩
    · rw [if_neg h2] at h
      cases h
/-- the call of the law itself -/
theorem law_callG (KX : K.In t.heap) (hns : t.heap.Ns mainGlobals mg) (hb : t.heap.Ns builtinsNs mb) (hbb : ∀ y : Str, y ≠ "__name__" → mb y = bootBuiltins y) (hlim : t.heap.NoLimit) (hg : t.gens = #[])
    (hT : ∀ p ∈ cs, t.heap.get? p.2 = some noCode) (nT : ∀ p ∈ cs, K.lookup p.2 = none) (hC : ∀ p ∈ cs, PySem.W.CodeHd t.heap p.1 p.2)
    (hbm : ∃ (bm : Addr) (ob : Obj), mg "__builtins__" = some (.ref bm) ∧ bm ≠ builtinsNs ∧ t.heap.get? bm = some ob ∧ ob.cls = .type "module" ∧ ob.dict = some builtinsNs ∧ ob.data = .plain)
    (ha : t.heap.get? a = some (lstO vs)) (hi : IntsAre vs ns) (hl : ns.length ≤ sizeLine) (hr : Room k callerA)
    (F : ∀ base : Heap, K.In base → base.Ns mainGlobals mg → (∀ p ∈ cs, LamX.TabB base mg p.1 p.2) → FnG true P w K mg base k fa fd [x] sp) (hbind : ∀ (s : Shared) (u : Value), BindsTo s fd ⟨[u], []⟩ [(x, u)])
    (hsp : ∀ H : Hp, (∀ p ∈ cs, H p.2 = some (.tbl #[])) → ((∃ o, H a = some (.frz o (.lst (ns.map V.int)))) ∨ ∀ H', SqL K H' a (ns.map V.int)) → sp [.ref a] H (fun v _ => v = .bl true) fun _ _ _ => False) :
    codeAny (model P w) callerA (.call (.ref fa) ⟨[.ref a], []⟩) (fun r s' => r = .ok (.ret (.bool true)) ∧ OldK t.heap s'.heap ∧ s'.os = t.os ∧ AllBare s'.gens) t := by
  have rv := vals_ints hi
  have lv := hi.length
  generalize hts : cs.map (fun p : Addr × Addr => p.2) = ts
  have inT : ∀ p ∈ cs, p.2 ∈ ts := fun p hp => by rw [← hts]; exact List.mem_map.mpr ⟨p, hp, rfl⟩
  have outT : ∀ b ∈ ts, ∃ p ∈ cs, p.2 = b := fun b h => by rw [← hts] at h; exact List.mem_map.mp h
  have tabO : ∀ b ∈ ts, t.heap.get? b = some noCode := fun b h => by
    obtain ⟨p, hp, rfl⟩ := outT b h
    exact hT p hp
  have kT : ∀ b ∈ ts, K.lookup b = none := fun b h => by
    obtain ⟨p, hp, rfl⟩ := outT b h
    exact nT p hp
  have aT : a ∉ ts := fun h => by
    have e := (tabO a h).symm.trans ha
    cases e
  generalize hH : beg K ts a vs ns = H
  have hcase : ∀ {b : Addr} {u : HO}, H b = some u → (b ∈ ts ∧ u = .tbl #[]) ∨ (b = a ∧ b ∉ ts ∧ K.lookup a = none ∧ u = .frz (lstO vs) (.lst (ns.map V.int))) := fun h => by
    rw [← hH] at h
    exact beg_cases h
  have htab : ∀ b ∈ ts, H b = some (.tbl #[]) := fun b h => by
    rw [← hH]
    exact beg_tab h
  -- what is tracked is a table or the script's list
  have kind : ∀ {b : Addr} {u : HO} {o : Obj}, H b = some u → t.heap.get? b = some o → o = noCode ∨ o = lstO vs := fun {b u o} h e => by
    rcases hcase h with ⟨h1, _⟩ | ⟨h1, _⟩
    · exact .inl (Option.some.inj (e.symm.trans (tabO b h1)))
    · rw [h1] at e
      exact .inr (Option.some.inj (e.symm.trans ha))
  have free : ∀ {b : Addr} {o : Obj}, t.heap.get? b = some o → o ≠ noCode → o ≠ lstO vs → H b = none := fun {b o} e n1 n2 => by
    cases q : H b with
    | none => rfl
    | some u => exact (kind q e).elim (fun z => absurd z n1) fun z => absurd z n2
  have seen : ∀ {b : Addr} {o : Obj}, t.heap.get? b = some o → o ≠ noCode → o ≠ lstO vs → (hidT t.heap H).get? b = some o := fun e n1 n2 => hidT_get e (free e n1 n2)
  have ns' : ∀ {b : Addr} {m : Str → Option Value}, t.heap.Ns b m → (hidT t.heap H).Ns b m := fun ⟨o, es, ep, e, d, r⟩ =>
    ⟨o, es, ep, seen e (fun z => by rw [z] at d; cases d) (fun z => by rw [z] at d; cases d), d, r⟩
  have kin : K.In (hidT t.heap H) := fun b o e => hidT_get (KX b o e) (by
    cases q : H b with
    | none => rfl
    | some u =>
      rcases hcase q with ⟨h1, _⟩ | ⟨h1, _, h2, _⟩
      · rw [kT b h1] at e
        cases e
      · rw [h1, h2] at e
        cases e)
  have md : L2.Mod K mg (hidT t.heap H) := ⟨kin, ns' hns, ⟨mb, ns' hb, hbb⟩, hlim.elim fun mc z => ⟨mc, ns' z.1, z.2⟩⟩
  have tb : ∀ p ∈ cs, LamX.TabB (hidT t.heap H) mg p.1 p.2 := by
    intro p hp
    refine ⟨?_, ?_, ?_⟩
    · obtain ⟨o, us, file, tf, flags, tg, inF, text, tt, e1, r1, r2, r3, rest⟩ := hC p hp
      refine ⟨o, us, file, tf, flags, tg, inF, text, tt, seen e1 (fun z => ?_) (fun z => ?_), r1, r2, r3, rest⟩
      · rw [z] at r2
        cases r2
        simp at r3
      · rw [z] at r2
        cases r2
    · obtain ⟨bm, ob, b1, b2, b3, b4, b5, b6⟩ := hbm
      refine ⟨bm, ob, b1, b2, fun z => ?_, fun z => ?_, seen b3 (fun z => by rw [z] at b6; cases b6) (fun z => by rw [z] at b6; cases b6), b4, b5, b6⟩
      · obtain ⟨o, es, ep, e, d, _⟩ := hns
        rw [z] at b3
        rw [Option.some.inj (b3.symm.trans e)] at b6
        rw [d] at b6
        cases b6
      · rw [z] at b3
        rw [Option.some.inj (b3.symm.trans (hT p hp))] at b6
        cases b6
    · intro z
      obtain ⟨o, es, ep, e, d, _⟩ := hns
      rw [z] at e
      rw [Option.some.inj (e.symm.trans (hT p hp))] at d
      cases d
  have hok : HOk P w H t.heap := fun b u h => by
    rcases hcase h with ⟨h1, e⟩ | ⟨h1, _, _, e⟩
    · rw [e]
      exact tabO b h1
    · rw [e, h1]
      exact ⟨ha, by rw [List.length_map]; exact hl, vs, _, rv, ha⟩
  have env : Env0 P w K mg (hidT t.heap H) callerA [] t H := by
    refine ⟨rfl, md, fun b o e => of_hidT e, ?_, trivial, ?_, hok, .of_eq hg⟩
    · rw [hidT_size]
      exact Nat.le_refl _
    · intro b h
      exact absurd h List.not_mem_nil
  have script : (∃ o, H a = some (.frz o (.lst (ns.map V.int)))) ∨ ∀ H', SqL K H' a (ns.map V.int) := by
    cases q : K.lookup a with
    | none =>
      refine .inl ⟨lstO vs, ?_⟩
      rw [← hH]
      unfold beg
      rw [if_neg aT, if_pos ⟨rfl, q⟩]
    | some o =>
      have e : o = lstO vs := Option.some.inj ((KX a o q).symm.trans ha)
      subst e
      exact .inr fun H' => .inr ⟨_, vs.toArray, _, q, rfl, rfl, rfl, by rw [List.size_toArray, lv]; exact hl, by simpa using rv⟩
  have call := (F _ kin (ns' hns) tb).run callerA [] t H ⟨[.ref a], []⟩ [.ref a] [.ref a] (fun v _ => v = .bl true) (fun _ _ _ => False) hr (fun _ => rfl) env (hbind t (.ref a)) (.cons rfl .nil) (hsp H (fun p hp => htab _ (inT p hp)) script)
  refine codeAny_mono call ?_
  intro r s' h
  match r, h with
  | .error e, h =>
    obtain ⟨_, _, _, _, _, _, _, _, _, _, _, _, z⟩ := h
    exact z.elim
  | .ok .next, h => exact h.elim
  | .ok .brk, h => exact h.elim
  | .ok .cont, h => exact h.elim
  | .ok (.ret u), h =>
    obtain ⟨v, H2, os, bare, un, hok2, ru, rfl⟩ := h
    have eu : u = .bool true := ru
    subst eu
    have keep : ∀ b o, b ∉ ts → t.heap.get? b = some o → s'.heap.get? b = some o := fun b o nb e => by
      cases q : H b with
      | none => exact un.keep b o e q List.not_mem_nil List.not_mem_nil
      | some z =>
        rcases hcase q with ⟨h1, _⟩ | ⟨h1, _, _, h4⟩
        · exact absurd h1 nb
        · rw [h4] at q
          have q2 := (hok2 b _ (un.frzs b _ _ q)).1
          rw [h1] at e
          rw [Option.some.inj (e.symm.trans ha)]
          exact q2
    have grew : ∀ b ∈ ts, ∃ more : Array Value, s'.heap.get? b = some { cls := .none, data := .fields more } := fun b h => by
      obtain ⟨more, z⟩ := un.tbls b _ (htab b h)
      exact ⟨_, hok2 b _ z⟩
    refine ⟨rfl, ⟨fun b o e => ?_, fun b o e => ?_⟩, os, bare⟩
    · by_cases h : b ∈ ts
      · obtain ⟨more, z⟩ := grew b h
        obtain ⟨p, hp, rfl⟩ := outT b h
        rw [← Option.some.inj ((hT p hp).symm.trans e)]
        exact .inr (.inl ⟨((hC p hp).tab (hT p hp)).isCodeTable, rfl, #[], more, rfl, by rw [Array.empty_append]; exact z⟩)
      · exact .inl (keep b o h e)
    · by_cases h : b ∈ ts
      · obtain ⟨more, z⟩ := grew b h
        exact ⟨_, z⟩
      · exact ⟨o, keep b o h e⟩
end
/-- what is known of the law at the head's heap h. cs: code objects and their tables -/
def LawG (l : PySem.W.OpenLaw) (w : World) (K : PySem.W.Frag) (k n : Nat) (x : Str) (mg : Str → Option Value) (fa : Addr) (h : Heap) : Prop :=
  ∃ (fd : FuncData) (cs : List (Addr × Addr)) (sp : Sp), (∀ p ∈ cs, h.get? p.2 = some noCode) ∧ (∀ p ∈ cs, K.lookup p.2 = none) ∧ (∀ p ∈ cs, PySem.W.CodeHd h p.1 p.2) ∧ (∀ (s : Shared) (u : Value), BindsTo s fd ⟨[u], []⟩ [(x, u)]) ∧
    (∀ (H : Hp) (a : Addr) (ns : List Int), ns.length ≤ n → (∀ z ∈ ns, Builtin.Int.intBits z ≤ 1048576) → (∀ p ∈ cs, H p.2 = some (.tbl #[])) → ((∃ o, H a = some (.frz o (.lst (ns.map V.int)))) ∨ ∀ H', SqL K H' a (ns.map V.int)) → sp [.ref a] H (fun v _ => v = .bl true) fun _ _ _ => False) ∧
    ∀ base : Heap, K.In base → base.Ns mainGlobals mg → (∀ p ∈ cs, LamX.TabB base mg p.1 p.2) → FnG true l.prog w K mg base k fa fd [x] sp
/-- the tables of the program's defs are empty -/
def OwnTabs (q : Program) (K : PySem.W.Frag) (mg : Str → Option Value) (h : Heap) : Prop := ∀ (nm : Str) (f : Addr), ((recsOf q).any fun e => e.name == nm) = true → mg nm = some (.ref f) → LamX.OwnTab K f h
theorem walkG {l : PySem.W.OpenLaw} {q : Program} {loose : List Str} {XP : (Str → Option Value) → Heap → Prop} {YP : World → Heap → Prop} {d : DefRec} {K : Params → PySem.W.Frag} {x : Str} {k : Nat} (hr : Room k callerA) (hn : l.most = some 63) (hdf : d.params.defaults = [])
    (hY : ∀ (w : World) (h : Heap), YP w h → (K w.params).In h)
    (F : ∀ (w : World) (mg : Str → Option Value) (fa : Addr) (h : Heap), (K w.params).In h → h.Ns mainGlobals mg → mg d.name = some (.ref fa) → OwnTabs q (K w.params) mg h → LawG l w (K w.params) k 63 x mg fa h) :
    PySem.W.WalkO q loose XP YP l.row.toRowW d [] (fun f vs => PySem.call f vs) := by
  refine Att.attach_callB hn hdf ?_
  intro w s0 t mg mb fa o pm cd doc a vs ns G Y ho hd hcd hmg hobj hints hlen hbits hgens
  have KX := hY w _ Y
  have own : OwnTabs q (K w.params) mg t.heap := by
    intro nm f hrec hf c P o1 fd1 e dd vs1 sl k1 k2 k3 k4 k5
    obtain ⟨r, hm, he⟩ := List.any_eq_true.mp hrec
    obtain ⟨a', o', fd', c', P', h1, h2, h3, h4, h5, h6⟩ := G.T.tab r hm
    rw [beq_iff_eq.mp he, hf] at h1
    cases h1
    have e2 := Option.some.inj ((KX _ _ k1).symm.trans h2)
    subst e2
    rw [k2] at h3
    cases h3
    rw [k3] at h4
    cases h4
    obtain ⟨⟨oc, vc, e1, _, e3, e4⟩, hP⟩ := h6
    have e5 := Option.some.inj ((KX _ _ k4).symm.trans e1)
    subst e5
    cases e3
    rw [k5] at e4
    cases e4
    exact hP
  obtain ⟨fd, cs, sp, hT, nT, hC, hb, hsp, hF⟩ := F w mg fa _ KX G.T.g hmg own
  exact law_callG KX G.T.g G.T.b G.T.builtins G.T.nolimit hgens hT nT hC G.T.bmain hobj hints (Nat.le_trans hlen (by decide)) hr hF hb fun H h1 h2 => hsp H a ns hlen hbits h1 h2
end Iv

/-! ## IvM -/
/-! Iv, part M: defs keep what the interpreter says. -/
namespace Iv
open PySem PySem.Spec PyProof.Rows L2
section
variable {S : Sta} {lk : List Addr} {H H1 : Hp} {io io1 : List Addr} {M : Mem}
theorem tell_lst {t : List Addr} (st1 : Sto S lk H1 io1 M) (e : io1 = io ++ t) {i : Nat} {a : Addr} (ea : io1[i]? = some a) (hi : ¬ i < io.length) : a ∉ io := fun hm => by
  obtain ⟨j, hj⟩ := List.getElem?_of_mem hm
  have hjl : j < io.length := (List.getElem?_eq_some_iff.mp hj).1
  have hj1 : io1[j]? = some a := by rw [e, List.getElem?_append_left hjl]; exact hj
  have ij : i = j := (List.getElem?_inj (List.getElem?_eq_some_iff.mp ea).1 st1.nd).mp (ea.trans hj1.symm)
  omega
/-- a changing thing that is new, told as it stands -/
theorem tell_ref {t : List Addr} (st1 : Sto S lk H1 io1 M) (e : io1 = io ++ t) {i : Nat} {v : V} {d : D} (rp : Rep S lk H1 io1 (.ref i) v) (hi : ¬ i < io.length) (h : (match M[i]? with
    | some (.lst xs) => some (D.lst xs)
    | some (.dk kvs) => some (.dk (kvs.map (·.1)) (kvs.map (·.2)))
    | some (.ins c fs) => some (.ins c (fs.map (·.1)) (fs.map (·.2)))
    | none => none) = some d) : Rep S lk H1 io d v := by
  have hs : ∀ a ∈ io, a ∈ io1 := fun a h => by
    rw [e]
    exact List.mem_append_left _ h
  unfold Rep at rp
  obtain ⟨a, ea, rfl⟩ := rp
  have hn := tell_lst st1 e ea hi
  split at h
  · rename_i xs ex
    cases h
    obtain ⟨vs, f1, f2, f3, f4⟩ := st1.pick ex ea
    unfold Rep
    exact ⟨a, vs, rfl, f1, hn, fun hm => (st1.lkd a hm).2 (List.mem_of_getElem? ea), f2, Reps.ground hs _ _ f3 f4⟩
  · rename_i kvs ex
    cases h
    obtain ⟨kws, f1, f2, f3, f4, f5⟩ := st1.pickD ex ea
    unfold Rep
    exact ⟨a, kws, rfl, f1, hn, f2, f4, Reps.ground hs _ _ f3 f5⟩
  · rename_i c fs ex
    cases h
    obtain ⟨b, o, f0, f1, C, dx, kvs, f2, f3, f4, f5, f6⟩ := st1.cell i _ ex
    rw [ea] at f0
    cases f0
    unfold Rep
    exact ⟨a, C, dx, kvs, rfl, f3, by rw [f1, f2], hn, f5, Reps.ground hs _ _ f4 f6⟩
  · cases h
mutual
theorem Rep.tell {t : List Addr} (st1 : Sto S lk H1 io1 M) (e : io1 = io ++ t) : ∀ (d : D) (v : V) (d' : D), Rep S lk H1 io1 d v → tellD io.length M d = some d' → Rep S lk H1 io d' v
  | .non, v, _, h, q => by cases q; exact h
  | .bl _, v, _, h, q => by cases q; exact h
  | .int _, v, _, h, q => by cases q; exact h
  | .str _, v, _, h, q => by cases q; exact h
  | .tup ds, v, d', h, q => by
    unfold tellD at q
    split at q
    · rename_i ys ey
      cases q
      unfold Rep at h ⊢
      obtain ⟨a, vs, e0, h1, hl, h2⟩ := h
      exact ⟨a, vs, e0, h1.imp (fun z => ⟨z.1, fun hm => z.2 (by rw [e]; exact List.mem_append_left _ hm)⟩) id, hl, Reps.tell st1 e ds vs ys h2 ey⟩
    · cases q
  | .lst ds, v, d', h, q => by
    unfold tellD at q
    split at q
    · rename_i ys ey
      cases q
      unfold Rep at h ⊢
      obtain ⟨a, vs, e0, h1, hi, hk, hl, h2⟩ := h
      exact ⟨a, vs, e0, h1, fun hm => hi (by rw [e]; exact List.mem_append_left _ hm), hk, hl, Reps.tell st1 e ds vs ys h2 ey⟩
    · cases q
  | .sld ds, v, d', h, q => by
    unfold tellD at q
    split at q
    · rename_i ys ey
      cases q
      unfold Rep at h ⊢
      obtain ⟨a, vs, e0, h1, hl, h2⟩ := h
      exact ⟨a, vs, e0, h1.imp (fun z => ⟨z.1, fun hm => z.2 (by rw [e]; exact List.mem_append_left _ hm)⟩) id, hl, Reps.tell st1 e ds vs ys h2 ey⟩
    · cases q
  | .dk _ ds, v, d', h, q => by
    unfold tellD at q
    split at q
    · rename_i ys ey
      cases q
      unfold Rep at h ⊢
      obtain ⟨a, kvs, e0, h1, hi, hl, hk, hr⟩ := h
      exact ⟨a, kvs, e0, h1, fun hm => hi (by rw [e]; exact List.mem_append_left _ hm), hl, hk, Reps.tell st1 e ds _ ys hr ey⟩
    · cases q
  | .fn i, v, d', h, q => by cases q; unfold Rep at h ⊢; exact h
  | .cls i, v, d', h, q => by cases q; unfold Rep at h ⊢; exact h
  | .ty _, v, d', h, q => by cases q; exact h
  | .ins _ _ ds, v, d', h, q => by
    unfold tellD at q
    split at q
    · rename_i ys ey
      cases q
      unfold Rep at h ⊢
      obtain ⟨a, C, dx, kvs, e0, h0, h1, hi, hk, hr⟩ := h
      exact ⟨a, C, dx, kvs, e0, h0, h1, fun hm => hi (by rw [e]; exact List.mem_append_left _ hm), hk, Reps.tell st1 e ds _ ys hr ey⟩
    · cases q
  | .ref i, v, d', h, q => by
    unfold tellD at q
    split at q
    · rename_i hi
      cases q
      unfold Rep at h ⊢
      obtain ⟨a, ea, rfl⟩ := h
      refine ⟨a, ?_, rfl⟩
      rw [e, List.getElem?_append_left hi] at ea
      exact ea
    · rename_i hi
      exact tell_ref st1 e h hi q
theorem Reps.tell {t : List Addr} (st1 : Sto S lk H1 io1 M) (e : io1 = io ++ t) : ∀ (ds : List D) (vs : List V) (ds' : List D), Reps S lk H1 io1 ds vs → tellDs io.length M ds = some ds' → Reps S lk H1 io ds' vs
  | [], vs, d', h, q => by
    cases q
    unfold Reps at h ⊢
    exact h
  | d :: ds, vs, d', h, q => by
    unfold tellDs at q
    split at q
    · rename_i y ys e1 e2
      cases q
      unfold Reps at h ⊢
      obtain ⟨v, r, e0, h1, h2⟩ := h
      exact ⟨v, r, e0, Rep.tell st1 e d v y h1 e1, Reps.tell st1 e ds r ys h2 e2⟩
    · cases q
end
theorem back_ok {keep : Bool} {d : D} {v : V} {Q : VK} {E : XK} (st : Sto S lk H io M) {M1 : Mem} (st1 : Sto S lk H1 io1 M1) (x : Ext H io H1 io1) (rp : Rep S lk H1 io1 d v) (p : PostC S lk H io (back keep M.length d M1) Q E) : Q v H1 := by
  have hn : M.length = io.length := st.len.symm
  unfold back at p
  split at p
  · exact p v H1 io1 st1 x rp
  · obtain ⟨t, e⟩ := x.pre
    have hs : ∀ a ∈ io, a ∈ io1 := fun a h => by
      rw [e]
      exact List.mem_append_left _ h
    have sc := st1.cut e
    rw [← hn] at sc
    have gen : ∀ {d : D}, Rep S lk H1 io1 d v → PostC S lk H io (if gr d = true then .ok d (M1.take M.length) else match tellD M.length M1 d with
      | some d' => .ok d' (M1.take M.length)
      | none => .stuck) Q E → Q v H1 := by
      intro d rp p
      split at p
      · rename_i hg
        exact p v H1 io sc x.dis (Rep.ground hs d v hg rp)
      · split at p
        · rename_i d' ed
          rw [hn] at ed
          exact p v H1 io sc x.dis (Rep.tell st1 e d v d' rp ed)
        · exact p.elim
    cases d with
    | ref i =>
      simp only at p
      split at p
      · rename_i hi
        unfold Rep at rp
        obtain ⟨a, ea, rfl⟩ := rp
        refine p _ H1 io sc x.dis ?_
        unfold Rep
        refine ⟨a, ?_, rfl⟩
        rw [e, List.getElem?_append_left (by rw [← hn]; exact hi)] at ea
        exact ea
      · rename_i hi
        rw [hn] at hi
        split at p
        · rename_i xs ex
          exact p _ H1 io sc x.dis (tell_ref st1 e rp hi (by rw [ex]))
        · rename_i xs ex
          exact p _ H1 io sc x.dis (tell_ref st1 e rp hi (by rw [ex]))
        · rename_i xs ys ex
          exact p _ H1 io sc x.dis (tell_ref st1 e rp hi (by rw [ex]))
        · exact p.elim
    | _ => exact gen rp p
theorem backX_ok {c : Nat} {fs : List D} {cls : Value} {dx : Option Addr} {Q : VK} {E : XK} (st : Sto S lk H io M) {M1 : Mem} (st1 : Sto S lk H1 io1 M1) (x : Ext H io H1 io1) (rp : RepX S lk H1 io1 c fs cls dx) (p : PostC S lk H io (backX M.length c fs M1) Q E) : E cls dx H1 := by
  have hn : M.length = io.length := st.len.symm
  unfold backX at p
  split at p
  · exact p cls dx H1 io1 st1 x rp
  · obtain ⟨t, e⟩ := x.pre
    have hs : ∀ a ∈ io, a ∈ io1 := fun a h => by
      rw [e]
      exact List.mem_append_left _ h
    have sc := st1.cut e
    rw [← hn] at sc
    split at p
    · rename_i hg
      refine p cls dx H1 io sc x.dis ?_
      obtain ⟨C, q, kvs, h1, h2, h3, h4, h5, h6, h7⟩ := rp
      exact ⟨C, q, kvs, h1, h2, h3, h4, fun z => h5 (hs _ z), h6, Reps.ground hs _ _ hg h7⟩
    · exact p.elim
theorem start_slots {N : List Str} {ds : List D} {vs : List V} (h : Reps S lk H io ds vs) : Slots S lk H io (L2.start N vs) (startR N.length ds) := by
  have hl := h.length
  unfold L2.start startR
  refine ⟨by simp [hl], fun i d e => ?_⟩
  by_cases hi : i < ds.length
  · rw [List.getElem?_append_left (by simpa using hi), List.getElem?_map] at e
    cases q : ds[i]? with
    | none => rw [q] at e; cases e
    | some d2 =>
      rw [q] at e
      cases e
      obtain ⟨v, e1, e2⟩ := h.get q
      refine ⟨v, ?_, e2⟩
      rw [List.getElem?_append_left (by simpa [← hl] using hi), List.getElem?_map, e1]
      rfl
  · rw [List.getElem?_append_right (by simpa using Nat.le_of_not_lt hi), List.getElem?_replicate] at e
    split at e <;> cases e
end
/-- what the lambdas of a def are called -/
def lamQ (x : Str) : Str := x ++ ".<locals>." ++ "<lambda>"
/-- a def as it stands in the module. cs: code objects and their tables -/
structure DefOk (T : Tab) (S : Sta) (cs : List (Addr × Addr)) (mg : Str → Option Value) (i : Nat) (d : GDef) (p : PDef) : Prop where
  ex : ∃ (f : Addr) (st : Stmt) (oc : Value) (od : Option Addr) (kV doc pm : Value) (an : Option Addr) (cdv ct : Value) (osl : Array (Option Value)),
    S.K.lookup f = some ⟨oc, od, .func (PySem.W.fnOf d.name d.qual (C8.fnArgs st) (C8.fnBody st) (C8.fnScope st) .none kV doc pm an cdv ct), osl⟩ ∧ PySem.W.codeIn S.K cdv d.qual = true ∧ S.fa i = some f ∧ (d.glob = true → mg d.name = some (.ref f)) ∧ PySem.W.keepIn S.K (.ref f) = true ∧
    FnScope d.N d.ps (C8.fnScope st) ∧ chkS d.N T p.body true (C8.fnScope st) (C8.fnBody st) = true ∧
    (∀ us : List Value, us.length = d.ps.length → bindArgs (PySem.W.fnOf d.name d.qual (C8.fnArgs st) (C8.fnBody st) (C8.fnScope st) .none kV doc pm an cdv ct) ⟨us, []⟩ = pure (d.ps.zip us)) ∧
    (∀ p ∈ d.kws, ∀ ws : List Value, ws.length = p.1.length → (permL p.2 ws).length = d.ps.length ∧ bindArgs (PySem.W.fnOf d.name d.qual (C8.fnArgs st) (C8.fnBody st) (C8.fnScope st) .none kV doc pm an cdv ct) ⟨[], p.1.zip ws⟩ = pure (d.ps.zip (permL p.2 ws))) ∧
    (noHS p.body = true ∨ ∃ c P, cdv = .ref c ∧ (c, P) ∈ cs ∧ (P, lamQ d.qual) ∈ S.tb ∧ ∀ y ∈ S.tb, y.1 = P → y.2 = lamQ d.qual)
/-- the def that tells a lambda's exception -/
def HeardOk (T : Tab) (S : Sta) (mg : Str → Option Value) : Prop :=
  ∃ (g CB : Addr) (chain : List (Str × Str × List Str)) (hn : Str) (st : Stmt) (kV dc pm cdv ct oc : Value) (an od : Option Addr) (sl : Array (Option Value)),
    mg T.hname = some (.ref g) ∧ PySem.W.keepIn S.K (.ref g) = true ∧ S.K.lookup g = some ⟨oc, od, .func (PySem.W.fnOf T.hname T.hname (C8.fnArgs st) (C8.fnBody st) (C8.fnScope st) .none kV dc pm an cdv ct), sl⟩ ∧ PySem.W.codeIn S.K cdv T.hname = true ∧
    (∀ us : List Value, us.length = 1 → bindArgs (PySem.W.fnOf T.hname T.hname (C8.fnArgs st) (C8.fnBody st) (C8.fnScope st) .none kV dc pm an cdv ct) ⟨us, []⟩ = pure ((["ask"] : List Str).zip us)) ∧ FnScope ["ask", "found", "error"] ["ask"] (C8.fnScope st) ∧
    heardB (C8.fnScope st) hn chain (C8.fnBody st) = true ∧ visB (C8.fnScope st) "ask" = true ∧ locB (C8.fnScope st) "found" = true ∧ locB (C8.fnScope st) "error" = true ∧ glB (C8.fnScope st) hn = true ∧ dbgB hn = false ∧ mg hn = some (.ref CB) ∧ glB (C8.fnScope st) "isinstance" = true ∧ HRes S S.K mg CB chain T.hres
/-- the module -/
structure ModOk (T : Tab) (S : Sta) (cs : List (Addr × Addr)) (pd : List PDef) (mg : Str → Option Value) : Prop where
  len : pd.length = T.defs.length
  gd : S.gd = true
  noh : pd.all (fun p => noHS p.body) = true ∨ HeardOk T S mg
  defs : ∀ (i : Nat) (d : GDef) (p : PDef), T.defs[i]? = some d → pd[i]? = some p → DefOk T S cs mg i d p
  cons : ∀ (j : Nat) (p : Str × D), T.cons[j]? = some p → ∃ v u, mg p.1 = some u ∧ RelV v u ∧ (∀ lk H io, Rep S lk H io p.2 v) ∧ ∀ a, v = .ref a → ∃ o, S.K.lookup a = some o ∧ o.cls = .type "tuple" ∧ o.dict = none
  blt : ∀ x ∈ bltNames, mg x = none
  cls : ∀ (P : Program) (w : World) (base : Heap) (c : Nat) (p : Str × List Str), T.clss[c]? = some p → ClsAt S P w S.K mg base c p
  icl : ∀ (c : Nat) (p : ICls), T.icls[c]? = some p → IClsAt T S S.K mg c p
theorem callN_ar {T : Tab} {pd : List PDef} : ∀ (k : Nat) (g : Nat) (d : GDef) (ds : List D) (M : Mem), T.defs[g]? = some d → ds.length ≠ d.ps.length → callN T pd k g ds M = .stuck
  | 0, g, d, ds, M, _, _ => rfl
  | k + 1, g, d, ds, M, h, n => by
    unfold callN
    rw [h]
    cases pd[g]? with
    | none => rfl
    | some p =>
      simp only
      rw [if_neg n]
/-- how much room a call takes -/
def roomN (k : Nat) : Nat := 4 * k + 4
theorem fn_all {T : Tab} {S : Sta} {cs : List (Addr × Addr)} {pd : List PDef} {P : Program} {w : World} {mg : Str → Option Value} {base : Heap} (m : ModOk T S cs pd mg) (TB : ∀ p ∈ cs, LamX.TabB base mg p.1 p.2) : ∀ (k : Nat) (i : Nat) (d : GDef), T.defs[i]? = some d → FnAt T S (callN T pd k) P w S.K mg base (roomN k) i d := by
  intro k
  induction k with
  | zero =>
    intro i d hd
    have hi : i < pd.length := by
      rw [m.len]
      exact (List.getElem?_eq_some_iff.mp hd).1
    obtain ⟨f, st, oc, od, kV, doc, pm, an, cdv, ct, osl, h1, h2, h3, h4, h5, h6, h7, h8, h9, _⟩ := (m.defs i d _ hd (List.getElem?_eq_getElem hi)).ex
    refine ⟨f, _, h3, h4, h5, ⟨h8, ⟨_, _, _, h1⟩, h9⟩, ⟨fun vs H Q E h => ?_, fun A outer s H args us vs Q E _ _ _ _ _ h => ?_⟩⟩
    · obtain ⟨lk, io, M, ds, _, r, hl, _⟩ := h
      rw [← hl, r.length]
    · obtain ⟨lk, io, M, ds, _, _, _, p⟩ := h
      exact p.elim
  | succ k ih =>
    intro i d hd
    have hi : i < pd.length := by
      rw [m.len]
      exact (List.getElem?_eq_some_iff.mp hd).1
    have hp := List.getElem?_eq_getElem hi
    obtain ⟨f, st, oc, od, kV, doc, pm, an, cdv, ct, osl, h1, h2, h3, h4, h5, h6, h7, h8, h9, h10⟩ := (m.defs i d _ hd hp).ex
    refine ⟨f, _, h3, h4, h5, ⟨h8, ⟨_, _, _, h1⟩, h9⟩, ⟨fun vs H Q E h => ?_, fun A outer s H args us vs Q E hr0 hg e0 hb rv h => ?_⟩⟩
    · obtain ⟨lk, io, M, ds, _, r, hl, _⟩ := h
      rw [← hl, r.length]
    · obtain ⟨lk, io, M, ds, sto, r, hl, p⟩ := h
      have hl2 : vs.length = d.ps.length := by rw [← r.length, hl]
      have hr : Room ((roomN k + 3) + 1) A := hr0.mono (by unfold roomN; omega)
      refine LamX.run_ofS (N := d.N) h1 h2 h6 hr e0 hb rv hl2 fun hr' => ?_
      have C : ConS T S (callN T pd k) (roomN k) (cxOf (L2.CX P w) P w S.K mg base d.N d.qual (C8.fnScope st) f cdv A outer s H E) (fun cls dx _ H => E cls dx H) :=
        ⟨⟨rfl, rfl, h6.nd, hg m.gd, hr'.mono (by omega), takes_of rfl rfl rfl rfl, passes_of rfl, fun j e he => ih j e he, m.cons, m.blt, by unfold roomN; omega, m.cls P w base, callN_ar k, m.icl, hr'.mono (by omega)⟩, fun _ => rfl⟩
      have Lo : noHS pd[i].body = true ∨ LamOk T S (roomN k) (cxOf (L2.CX P w) P w S.K mg base d.N d.qual (C8.fnScope st) f cdv A outer s H E) := by
        rcases h10 with z | ⟨c, P1, z1, z2, z3, z4⟩
        · exact .inl z
        · rcases m.noh with y | y
          · exact .inl (List.all_eq_true.mp y _ (List.getElem_mem hi))
          · obtain ⟨g, CB, chain, hn, st', kV', dc', pm', cdv', ct', oc', an', od', sl', l1, l2, l3, l4, l5, l6, l7, l8, l9, l10, l11, l12, l13, l14, l15⟩ := y
            exact .inr ⟨hr', g, c, P1, CB, chain, hn, st', kV', dc', pm', cdv', ct', oc', an', od', sl', l1, l2, l3, l4, l5, l6, l7, l8, l9, l10, l11, l12, l13, l14, TB _ z2, z1, z3, z4, l15⟩
      refine ⟨_, (soundS C pd[i].body Lo).l _ h7, ⟨lk, startR d.N.length ds, M, io, sto, start_slots r, ?_⟩⟩
      unfold callN at p
      rw [hd, hp] at p
      simp only [if_pos hl] at p
      cases q : ex T (callN T pd k) pd[i].body (startR d.N.length ds) M with
      | nx r1 M1 =>
        rw [q] at p
        exact fun σ H1 io1 st1 x1 _ => back_ok sto st1 x1 rep_non p
      | rt d1 M1 =>
        rw [q] at p
        exact fun v H1 io1 st1 x1 rp => back_ok sto st1 x1 rp p
      | xn c fs r1 M1 =>
        rw [q] at p
        exact fun cls dx σ H1 io1 st1 x1 _ rx => backX_ok sto st1 x1 rx p
      | stuck => rw [q] at p; exact p
/-- the law's own promise: the script's list is read alone; the answer is True -/
def spL (K : PySem.W.Frag) (tb : List (Addr × Str)) (n : Nat) : Sp := fun vs H Q E => ∃ (a : Addr) (ns : List Int), vs = [.ref a] ∧ ns.length ≤ n ∧ (∀ z ∈ ns, Builtin.Int.intBits z ≤ 1048576) ∧ (∀ p ∈ tb, H p.1 = some (.tbl #[])) ∧
  ((∃ o, H a = some (.frz o (.lst (ns.map V.int)))) ∨ ∀ H', SqL K H' a (ns.map V.int)) ∧ ∀ H', Q (.bl true) H'
theorem reps_ints {S : Sta} {lk : List Addr} {H : Hp} {io : List Addr} : ∀ ns : List Int, Reps S lk H io (ns.map D.int) (ns.map V.int)
  | [] => .nil
  | n :: ns => .cons rep_int (reps_ints ns)
theorem fn_law {T : Tab} {S : Sta} {cs : List (Addr × Addr)} {pd : List PDef} {l : PySem.W.OpenLaw} {w : World} {mg : Str → Option Value} {h : Heap} {f : Addr} {k i : Nat} {d : GDef} {x : Str} (m : ModOk T S cs pd mg) (KX : S.K.In h) (hcs : ∀ p ∈ cs, h.get? p.2 = some noCode ∧ S.K.lookup p.2 = none ∧ PySem.W.codeHdIn S.K p.1 p.2 = true)
    (htb : S.tb.all (fun p => cs.any fun q => q.2 == p.1) = true) (hd : T.defs[i]? = some d) (hps : d.ps = [x]) (hgd : S.gd = true) (hgl : d.glob = true) (hf : mg d.name = some (.ref f))
    (hlaw : ∀ ns : List Int, ns.length ≤ 63 → (∀ z ∈ ns, Builtin.Int.intBits z ≤ 1048576) → ∃ M, callN T pd k i [.sld (ns.map D.int)] [] = .ok (.bl true) M) :
    LawG l w S.K (roomN k) 63 x mg f h := by
  have hi : i < pd.length := by
    rw [m.len]
    exact (List.getElem?_eq_some_iff.mp hd).1
  obtain ⟨f1, st, oc, od, kV, doc, pm, an, cdv, ct, osl, h1, h2, h3, h4, h5, h6, h7, h8, h9, _⟩ := (m.defs i d _ hd (List.getElem?_eq_getElem hi)).ex
  have h4 := h4 hgl
  rw [hf] at h4
  cases h4
  rw [hps] at h8
  refine ⟨_, cs, spL S.K S.tb 63, fun p hp => (hcs p hp).1, fun p hp => (hcs p hp).2.1, fun p hp => PySem.W.codeHd_of_K KX (hcs p hp).2.2, fun s u => .of_eq (h8 [u] rfl), fun H a ns z1 z2 z3 z4 => ⟨a, ns, rfl, z1, z2, fun p hp => ?_, z4, fun _ => rfl⟩, fun base _ _ TB => ?_⟩
  · obtain ⟨q, hq, e⟩ := List.any_eq_true.mp (List.all_eq_true.mp htb p hp)
    rw [← beq_iff_eq.mp e]
    exact z3 q hq
  · obtain ⟨f', fd', e1, e2, e3, ⟨b, ⟨oc', od', osl', el⟩, _⟩, F⟩ := fn_all (P := l.prog) (w := w) (base := base) m TB k i d hd
    rw [h3] at e1
    cases e1
    rw [h1] at el
    cases el
    rw [hps, hgd] at F
    refine ⟨fun vs H Q E z => ?_, fun A outer s H args us vs Q E hr hg e0 hb rv z => ?_⟩
    · obtain ⟨a, ns, rfl, _⟩ := z
      rfl
    · refine F.run A outer s H args us vs Q E hr hg e0 hb rv ?_
      obtain ⟨a, ns, rfl, z1, z2, z3, z4, z5⟩ := z
      obtain ⟨M, hM⟩ := hlaw ns z1 z2
      refine ⟨[], [], [], [.sld (ns.map D.int)], ⟨List.nodup_nil, rfl, fun i c hc => by simp at hc, fun a ha => absurd ha (by simp), ?_⟩, ?_, rfl, ?_⟩
      · intro p hp
        refine ⟨#[], z3 p hp, ?_, ?_⟩
        · first
            | exact trivial
            | simp [LamX.TriplesOk]
        · intro pos cv q
          simp [codeAmong] at q
      · refine .cons ?_ .nil
        unfold Rep
        refine ⟨a, ns.map V.int, rfl, z4.imp (fun z => ⟨z, by simp⟩) id, ?_, reps_ints ns⟩
        rw [List.length_map]
        exact Nat.le_trans z1 (by decide)
      · rw [hM]
        exact fun v H1 io1 _ _ rp => by
          rw [bl_of rp]
          exact z5 H1
/-- a def of the module, from what the program's top shows -/
theorem defOk_mk {T : Tab} {S : Sta} {cs : List (Addr × Addr)} {h : Heap} {mg : Str → Option Value} {i : Nat} {d : GDef} {p : PDef} {f : Addr} {st : Stmt} {oc : Value} {od : Option Addr} {kV doc pm : Value} {an : Option Addr} {cdv ct : Value} {osl : Array (Option Value)} (X : S.K.In h) (G : h.Ns mainGlobals mg)
    (a : d.glob = true → PySem.W.nsIn S.K mainGlobals d.name = some (some (.ref f))) (l : S.K.lookup f = some ⟨oc, od, .func (PySem.W.fnOf d.name d.qual (C8.fnArgs st) (C8.fnBody st) (C8.fnScope st) .none kV doc pm an cdv ct), osl⟩) (c : PySem.W.codeIn S.K cdv d.qual = true) (k : PySem.W.keepIn S.K (.ref f) = true)
    (hf : S.fa i = some f) (sc : C8.scC d.N d.ps (C8.fnScope st) = true) (ck : chkS d.N T p.body true (C8.fnScope st) (C8.fnBody st) = true)
    (hb : ∀ (kV doc pm : Value) (an : Option Addr) (cdv ct : Value) (us : List Value), us.length = d.ps.length → bindArgs (PySem.W.fnOf d.name d.qual (C8.fnArgs st) (C8.fnBody st) (C8.fnScope st) .none kV doc pm an cdv ct) ⟨us, []⟩ = pure (d.ps.zip us))
    (hkw : ∀ (kV doc pm : Value) (an : Option Addr) (cdv ct : Value) (p : List Str × List Nat), p ∈ d.kws → ∀ ws : List Value, ws.length = p.1.length → (permL p.2 ws).length = d.ps.length ∧ bindArgs (PySem.W.fnOf d.name d.qual (C8.fnArgs st) (C8.fnBody st) (C8.fnScope st) .none kV doc pm an cdv ct) ⟨[], p.1.zip ws⟩ = pure (d.ps.zip (permL p.2 ws)))
    (hlm : noHS p.body = true ∨ ∃ c P, cdv = .ref c ∧ (c, P) ∈ cs ∧ (P, lamQ d.qual) ∈ S.tb ∧ ∀ y ∈ S.tb, y.1 = P → y.2 = lamQ d.qual) : DefOk T S cs mg i d p :=
  ⟨f, st, oc, od, kV, doc, pm, an, cdv, ct, osl, l, c, hf, fun z => PySem.W.mg_of X G (a z), k, C8.fnScope_by sc, ck, hb kV doc pm an cdv ct, hkw kV doc pm an cdv ct, hlm⟩
def intArr : List Value → Option (List Int)
  | [] => some []
  | .int i _ :: r => match intArr r with
    | some is => some (i :: is)
    | none => none
  | _ => none
theorem intArr_vals : ∀ {us : List Value} {is : List Int}, intArr us = some is → Vals (is.map V.int) us
  | [], is, h => by
    cases h
    exact .nil
  | u :: us, is, h => by
    unfold intArr at h
    split at h
    · rename_i heq
      cases heq
    · rename_i i t r heq
      cases heq
      split at h
      · rename_i js e
        cases h
        exact .cons ⟨t, rfl⟩ (intArr_vals e)
      · cases h
    · cases h
/-- a module's name that holds a tuple of ints -/
theorem con_ints {S : Sta} {h : Heap} {mg : Str → Option Value} {x : Str} {a : Addr} {ns : List Int} {arr : Array Value} {n : Nat} {sl : Array (Option Value)} (X : S.K.In h) (G : h.Ns mainGlobals mg)
    (e : PySem.W.nsIn S.K mainGlobals x = some (some (.ref a))) (l : S.K.lookup a = some ⟨.type "tuple", none, .seq arr n, sl⟩) (hi : intArr arr.toList = some ns) (hl : ns.length ≤ lim) :
    ∃ v u, mg x = some u ∧ RelV v u ∧ (∀ lk H io, Rep S lk H io (.tup (ns.map D.int)) v) ∧ ∀ b, v = .ref b → ∃ o, S.K.lookup b = some o ∧ o.cls = .type "tuple" ∧ o.dict = none := by
  have rv := intArr_vals hi
  have hs : arr.size = ns.length := by
    have z := rv.length
    rw [List.length_map] at z
    rw [z]
    simp
  refine ⟨.ref a, .ref a, PySem.W.mg_of X G e, rfl, fun lk H io => ?_, fun b hb => ?_⟩
  · unfold Rep
    refine ⟨a, ns.map V.int, rfl, .inr fun H' => .inr ⟨_, arr, n, l, rfl, rfl, ?_, ?_⟩, by rw [List.length_map]; exact hl, reps_ints ns⟩
    · rw [hs]
      exact Nat.le_trans hl lim_line
    · exact rv
  · cases hb
    exact ⟨_, l, rfl, rfl⟩
end Iv

/-! ## IvN -/
/-! Iv, part N: own exception classes of one and of two fields; constants; classes whose instances are made. -/
namespace Iv
open PySem PySem.Spec PyProof.Rows L2
def initB (f : Str) : List Stmt → Bool
  | [.Assign [.Attribute (.Name x _) g _] (.Name y _) _] => decide (x = "self") && decide (g = f) && decide (y = f)
  | _ => false
theorem clsAt1 {S : Sta} {P : Program} {w : World} {K : PySem.W.Frag} {h : Heap} {mg : Str → Option Value} {base : Heap} {c : Nat} {x f : Str} {C fI : Addr} {st : Stmt} {q : Str} (X : K.In h) (G : h.Ns mainGlobals mg) (hK : S.K = K) (hca : S.ca c = some C) (hfl : S.fl c = [f])
    {oc : Value} {od : Option Addr} {kV dc pm : Value} {an : Option Addr} {cd ct : Value} {sl : Array (Option Value)}
    (a : PySem.W.nsIn K mainGlobals x = some (some (.ref C))) (T : OexC K C) (iI : PySem.W.findIn K (.ref C) "__init__" = some (some (.ref fI))) (tI : PySem.W.typeIn K (.ref fI) = some (.type "function")) (hno : PySem.W.findIn K (.ref C) f = some none)
    (lI : K.lookup fI = some ⟨oc, od, .func (PySem.W.fnOf "__init__" q (C8.fnArgs st) (C8.fnBody st) (C8.fnScope st) .none kV dc pm an cd ct), sl⟩) (cI : PySem.W.codeIn K cd q = true)
    (hbody : initB f (C8.fnBody st) = true) (sc : C8.scC ["self", f] ["self", f] (C8.fnScope st) = true) (hv : (visB (C8.fnScope st) "self" && visB (C8.fnScope st) f && !dbgB f) = true)
    (hb : ∀ us : List Value, us.length = 2 → bindArgs (PySem.W.fnOf "__init__" q (C8.fnArgs st) (C8.fnBody st) (C8.fnScope st) .none kV dc pm an cd ct) ⟨us, []⟩ = pure ((["self", f] : List Str).zip us)) : ClsAt S P w K mg base c (x, [f]) := by
  simp only [Bool.and_eq_true, Bool.not_eq_true'] at hv
  obtain ⟨⟨v1, v2⟩, v3⟩ := hv
  obtain ⟨d1, d2⟩ := dbg_of v3
  refine ⟨C, fI, _, hca, PySem.W.mg_of X G a, T, iI, tI, .all hb, hfl, ?_⟩
  refine L2.fn_of (k := 0) lI cI (C8.fnScope_by sc) (fun vs H Q E hs => ?_) (fun A outer s H vs Q E hr hs => ?_)
  · obtain ⟨b, ws, rfl, hw, _⟩ := hs
    simp only [List.length_cons, hw]
  · obtain ⟨b, ws, rfl, hw, hbo, hq⟩ := hs
    match ws, hw with
    | [y], _ =>
      generalize hB : C8.fnBody st = B at hbody ⊢
      unfold initB at hbody
      split at hbody
      · rename_i x1 p1 g p2 y1 p3 p4
        simp only [Bool.and_eq_true, decide_eq_true_eq] at hbody
        obtain ⟨⟨e1, e2⟩, e3⟩ := hbody
        subst e1 e2 e3
        refine ⟨_, pss_one (ps_ost (pe_var (i := 0) rfl (vis_of v1) (by decide +kernel) (by decide +kernel)) (pe_var (i := 1) rfl (vis_of v2) d1 d2) rfl), ?_⟩
        exact ⟨y, rfl, V.ref b, rfl, b, C, rfl, T, hno, .inl ⟨hbo, fun dx h1 h2 => hq dx h1 h2⟩⟩
      · cases hbody
def initB2 (f g : Str) : List Stmt → Bool
  | [.Assign [.Attribute (.Name x _) f1 _] (.Name y _) _, .Assign [.Attribute (.Name x2 _) g1 _] (.Name y2 _) _] => decide (x = "self") && decide (f1 = f) && decide (y = f) && decide (x2 = "self") && decide (g1 = g) && decide (y2 = g)
  | _ => false
theorem upd_over2 {H : Hp} {a b : Addr} {o1 o2 o3 : HO} (n : a ≠ b) : upd (upd (upd H a o1) b o2) a o3 = upd (upd H a o3) b o2 := by
  funext c
  by_cases h1 : c = a
  · rw [h1, upd_same, upd_ne n, upd_same]
  · rw [upd_ne h1]
    by_cases h2 : c = b
    · rw [h2, upd_same, upd_same]
    · rw [upd_ne h2, upd_ne h2, upd_ne h1, upd_ne h1]
theorem clsAt2 {S : Sta} {P : Program} {w : World} {K : PySem.W.Frag} {h : Heap} {mg : Str → Option Value} {base : Heap} {c : Nat} {x f g : Str} {C fI : Addr} {st : Stmt} {q : Str} (X : K.In h) (G : h.Ns mainGlobals mg) (hK : S.K = K) (hca : S.ca c = some C) (hfl : S.fl c = [g, f])
    {oc : Value} {od : Option Addr} {kV dc pm : Value} {an : Option Addr} {cd ct : Value} {sl : Array (Option Value)}
    (a : PySem.W.nsIn K mainGlobals x = some (some (.ref C))) (T : OexC K C) (iI : PySem.W.findIn K (.ref C) "__init__" = some (some (.ref fI))) (tI : PySem.W.typeIn K (.ref fI) = some (.type "function")) (hno : PySem.W.findIn K (.ref C) f = some none) (hno2 : PySem.W.findIn K (.ref C) g = some none)
    (lI : K.lookup fI = some ⟨oc, od, .func (PySem.W.fnOf "__init__" q (C8.fnArgs st) (C8.fnBody st) (C8.fnScope st) .none kV dc pm an cd ct), sl⟩) (cI : PySem.W.codeIn K cd q = true)
    (hbody : initB2 f g (C8.fnBody st) = true) (sc : C8.scC ["self", f, g] ["self", f, g] (C8.fnScope st) = true) (hv : (visB (C8.fnScope st) "self" && visB (C8.fnScope st) f && !dbgB f && visB (C8.fnScope st) g && !dbgB g) = true)
    (hb : ∀ us : List Value, us.length = 3 → bindArgs (PySem.W.fnOf "__init__" q (C8.fnArgs st) (C8.fnBody st) (C8.fnScope st) .none kV dc pm an cd ct) ⟨us, []⟩ = pure ((["self", f, g] : List Str).zip us)) : ClsAt S P w K mg base c (x, [f, g]) := by
  simp only [Bool.and_eq_true, Bool.not_eq_true'] at hv
  obtain ⟨⟨⟨⟨v1, v2⟩, v3⟩, v4⟩, v5⟩ := hv
  obtain ⟨d1, d2⟩ := dbg_of v3
  obtain ⟨d3, d4⟩ := dbg_of v5
  refine ⟨C, fI, _, hca, PySem.W.mg_of X G a, T, iI, tI, .all hb, hfl, ?_⟩
  refine L2.fn_of (k := 0) lI cI (C8.fnScope_by sc) (fun vs H Q E hs => ?_) (fun A outer s H vs Q E hr hs => ?_)
  · obtain ⟨b, ws, rfl, hw, _⟩ := hs
    simp only [List.length_cons, hw]
  · obtain ⟨b, ws, rfl, hw, hbo, hq⟩ := hs
    match ws, hw with
    | [y, z], _ =>
      generalize hB : C8.fnBody st = B at hbody ⊢
      unfold initB2 at hbody
      split at hbody
      · rename_i x1 p1 f1 p2 y1 p3 p4 x2 p5 g1 p6 y2 p7 p8
        simp only [Bool.and_eq_true, decide_eq_true_eq] at hbody
        obtain ⟨⟨⟨⟨⟨e1, e2⟩, e3⟩, e4⟩, e5⟩, e6⟩ := hbody
        subst e1 e2 e3 e4 e5 e6
        refine ⟨_, pss_cons (ps_ost (pe_var (i := 0) rfl (vis_of v1) (by decide +kernel) (by decide +kernel)) (pe_var (i := 1) rfl (vis_of v2) d1 d2) rfl)
          (pss_one (ps_ost (pe_var (i := 0) rfl (vis_of v1) (by decide +kernel) (by decide +kernel)) (pe_var (i := 2) rfl (vis_of v4) d3 d4) rfl)), ?_⟩
        refine ⟨y, rfl, V.ref b, rfl, b, C, rfl, T, hno, .inl ⟨hbo, fun dx h1 h2 => ?_⟩⟩
        refine ⟨z, rfl, V.ref b, rfl, b, C, rfl, T, hno2, .inr ⟨dx, _, upd_same, by rw [upd_ne h2, upd_same], by simp, ?_⟩⟩
        rw [upd_over2 h2]
        exact hq dx h1 h2
      · cases hbody
/-- a module's name that holds an int -/
theorem con_int {S : Sta} {h : Heap} {mg : Str → Option Value} {x : Str} {i : Int} {t : Tok} (X : S.K.In h) (G : h.Ns mainGlobals mg) (e : PySem.W.nsIn S.K mainGlobals x = some (some (.int i t))) :
    ∃ v u, mg x = some u ∧ RelV v u ∧ (∀ lk H io, Rep S lk H io (.int i) v) ∧ ∀ b, v = .ref b → ∃ o, S.K.lookup b = some o ∧ o.cls = .type "tuple" ∧ o.dict = none :=
  ⟨.int i, .int i t, PySem.W.mg_of X G e, ⟨t, rfl⟩, fun _ _ _ => rep_int, fun b hb => by cases hb⟩
theorem con_str {S : Sta} {h : Heap} {mg : Str → Option Value} {x z : Str} {t : Tok} (X : S.K.In h) (G : h.Ns mainGlobals mg) (e : PySem.W.nsIn S.K mainGlobals x = some (some (.str z t))) :
    ∃ v u, mg x = some u ∧ RelV v u ∧ (∀ lk H io, Rep S lk H io (.str z) v) ∧ ∀ b, v = .ref b → ∃ o, S.K.lookup b = some o ∧ o.cls = .type "tuple" ∧ o.dict = none :=
  ⟨.str z, .str z t, PySem.W.mg_of X G e, ⟨t, rfl⟩, fun _ _ _ => rep_str, fun b hb => by cases hb⟩
def strArr : List Value → Option (List Str)
  | [] => some []
  | .str i _ :: r => match strArr r with
    | some is => some (i :: is)
    | none => none
  | _ => none
theorem strArr_vals : ∀ {us : List Value} {is : List Str}, strArr us = some is → Vals (is.map V.str) us
  | [], is, h => by
    cases h
    exact .nil
  | u :: us, is, h => by
    unfold strArr at h
    split at h
    · rename_i heq
      cases heq
    · rename_i i t r heq
      cases heq
      split at h
      · rename_i js e
        cases h
        exact .cons ⟨t, rfl⟩ (strArr_vals e)
      · cases h
    · cases h
/-- a module's name that holds a tuple of texts -/
theorem con_strs {S : Sta} {h : Heap} {mg : Str → Option Value} {x : Str} {a : Addr} {ns : List Str} {arr : Array Value} {n : Nat} {sl : Array (Option Value)} (X : S.K.In h) (G : h.Ns mainGlobals mg)
    (e : PySem.W.nsIn S.K mainGlobals x = some (some (.ref a))) (l : S.K.lookup a = some ⟨.type "tuple", none, .seq arr n, sl⟩) (hi : strArr arr.toList = some ns) (hl : ns.length ≤ lim) :
    ∃ v u, mg x = some u ∧ RelV v u ∧ (∀ lk H io, Rep S lk H io (.tup (ns.map D.str)) v) ∧ ∀ b, v = .ref b → ∃ o, S.K.lookup b = some o ∧ o.cls = .type "tuple" ∧ o.dict = none := by
  have rv := strArr_vals hi
  have hs : arr.size = ns.length := by
    have z := rv.length
    rw [List.length_map] at z
    rw [z]
    simp
  refine ⟨.ref a, .ref a, PySem.W.mg_of X G e, rfl, fun lk H io => ?_, fun b hb => ?_⟩
  · unfold Rep
    refine ⟨a, ns.map V.str, rfl, .inr fun H' => .inr ⟨_, arr, n, l, rfl, rfl, ?_, ?_⟩, by rw [List.length_map]; exact hl, reps_strs ns⟩
    · rw [hs]
      exact Nat.le_trans hl lim_line
    · exact rv
  · cases hb
    exact ⟨_, l, rfl, rfl⟩
/-- a class whose instances are made, from what the program's top shows -/
theorem icls_mk {T : Tab} {S : Sta} {h : Heap} {mg : Str → Option Value} {c : Nat} {p : ICls} {C fI : Addr} (X : S.K.In h) (G : h.Ns mainGlobals mg) (hC : S.ia c = some C) (a : PySem.W.nsIn S.K mainGlobals p.name = some (some (.ref C)))
    (pg : PySem.W.plainGet S.K C Str.empty = true) (hd : PySem.W.hasDictIn S.K C = true) (po : PySem.W.plainOver S.K C = true) (sa : PySem.W.findIn S.K (.ref C) "__setattr__" = some (some (.builtin "object.__setattr__"))) (kp : PySem.W.keepIn S.K (.ref C) = true)
    (c1 : PySem.W.findIn S.K (.ref C) "__class__" = some (some (.builtin "object.__class__"))) (c2 : PySem.W.specialIn S.K (.builtin "object.__class__") "__get__" = some (some (.builtin "getset_descriptor.__get__"))) (c3 : PySem.W.takesIn S.K (.builtin "object.__class__") = some true)
    (c4 : PySem.W.mroIn S.K C (.type "object") = some true) (hI : S.fa p.init = some fI) (mk : PySem.W.makesIn S.K C = true) (ini : PySem.W.findIn S.K (.ref C) "__init__" = some (some (.ref fI))) (fnI : PySem.W.isFn S.K (.ref fI) = true)
    (hm : ∀ q ∈ p.meths, ∃ f, S.fa q.2 = some f ∧ Meth S.K C q.1 f) (hf : ∀ f ∈ p.flds, PySem.W.findIn S.K (.ref C) f = some none)
    (hk : ∀ c2 C2, c2 < T.icls.length → S.ia c2 = some C2 → PySem.W.kitOne S.K (.ref C) (.ref C2) = some (p.ups.contains c2))
    (t1 : PySem.W.kitOne S.K (.type "int") (.ref C) = some false) (t2 : PySem.W.kitOne S.K (.type "bool") (.ref C) = some false) (t3 : PySem.W.kitOne S.K (.type "str") (.ref C) = some false) (t4 : PySem.W.kitOne S.K (.type "list") (.ref C) = some false)
    (t5 : PySem.W.kitOne S.K (.type "tuple") (.ref C) = some false) (t6 : PySem.W.kitOne S.K (.type "dict") (.ref C) = some false) (t7 : PySem.W.kitOne S.K (.type "NoneType") (.ref C) = some false) : IClsAt T S S.K mg c p :=
  ⟨C, hC, PySem.W.mg_of X G a, ⟨pg, hd, po, sa⟩, kp, ⟨c1, c2, c3, c4⟩, fun _ => ⟨fI, hI, ⟨mk, ini, fnI, kp⟩⟩, hm, hf, hk, fun t => by cases t <;> assumption⟩
/-- tables at addresses that are all unlike -/
theorem dis_of : ∀ {l : List (Addr × Str)}, (l.map (·.1)).Nodup → ∀ y ∈ l, ∀ z ∈ l, y.1 = z.1 → y.2 = z.2
  | [], _, y, hy, _, _, _ => by cases hy
  | p :: l, n, y, hy, z, hz, e => by
    rw [List.map_cons, List.nodup_cons] at n
    rcases List.mem_cons.mp hy with h1 | h1 <;> rcases List.mem_cons.mp hz with h2 | h2
    · rw [h1, h2]
    · exact absurd (List.mem_map.mpr ⟨z, h2, by rw [← e, h1]⟩) n.1
    · exact absurd (List.mem_map.mpr ⟨y, h1, by rw [e, h2]⟩) n.1
    · exact dis_of n.2 y h1 z h2 e
theorem meths_nil {S : Sta} {C : Addr} : ∀ q ∈ ([] : List (Str × Nat)), ∃ f, S.fa q.2 = some f ∧ Meth S.K C q.1 f := fun q h => by cases h
theorem meths_cons {S : Sta} {C f : Addr} {m : Str} {g : Nat} {r : List (Str × Nat)} (hf : S.fa g = some f) (a : PySem.W.findIn S.K (.ref C) m = some (some (.ref f))) (b : PySem.W.isFn S.K (.ref f) = true) (k : PySem.W.keepIn S.K (.ref f) = true)
    (h : ∀ q ∈ r, ∃ f, S.fa q.2 = some f ∧ Meth S.K C q.1 f) : ∀ q ∈ (m, g) :: r, ∃ f, S.fa q.2 = some f ∧ Meth S.K C q.1 f := fun q hq => by
  rcases List.mem_cons.mp hq with z | z
  · rw [z]
    exact ⟨f, hf, ⟨a, b, k⟩⟩
  · exact h q z
theorem flds_nil {K : PySem.W.Frag} {C : Addr} : ∀ f ∈ ([] : List Str), PySem.W.findIn K (.ref C) f = some none := fun f h => by cases h
theorem flds_cons {K : PySem.W.Frag} {C : Addr} {f : Str} {r : List Str} (a : PySem.W.findIn K (.ref C) f = some none) (h : ∀ f ∈ r, PySem.W.findIn K (.ref C) f = some none) : ∀ g ∈ f :: r, PySem.W.findIn K (.ref C) g = some none := fun g hg => by
  rcases List.mem_cons.mp hg with z | z
  · rw [z]
    exact a
  · exact h g z
theorem oexC_mk {K : PySem.W.Frag} {C N : Addr} {nm q : Str} {bs bm : List Value} {sn : List Str} {sub : List Value} {ab : Bool} {col : Option Bool} {dd : Option Addr} {k0 k1 k2 k3 k5 : Option Value} (l : K.lookup C = some (excClassObj nm q C N bs bm true sn sub ab col dd k0 k1 k2 k3 k5 "ValueError.__new__")) (hbm : PySem.HandSPX.refsVE bm = true)
    (sa : PySem.W.findIn K (.ref C) "__setattr__" = some (some (.builtin "object.__setattr__"))) (ex : PySem.W.subIn K (.ref C) (.type "BaseException") = some true) (ty : PySem.W.typeIn K (.ref C) = some (.type "type")) (kC : PySem.W.keepIn K (.ref C) = true) : OexC K C :=
  ⟨⟨nm, q, N, bs, bm, sn, sub, ab, col, dd, k0, k1, k2, k3, k5, l, hbm⟩, sa, ex, ty, kC⟩
end Iv

/-! ## IvP -/
/-! Iv, part P: plain laws of the interpreter. -/
namespace Iv
open PySem PySem.Spec L2
abbrev dI (xs : List Int) : List D := xs.map D.int
theorem okPt_int (c : CE) (i : Int) : okPt c (.int i) = true := rfl
theorem okPt_non : okPt .non .non = true := rfl
theorem srcOf_tup (xs : List D) : srcOf (.tup xs) = some (.fix xs) := rfl
theorem srcOf_ref (i : Nat) : srcOf (.ref i) = some (.cell i) := rfl
theorem bop_addI (i j : Int) (M : Mem) : bop .add (.int i) (.int j) M = .ok (.int (i + j)) M := rfl
theorem bop_subI (i j : Int) (M : Mem) : bop .sub (.int i) (.int j) M = .ok (.int (i - j)) M := rfl
theorem bop_mulI {i j : Int} (M : Mem) (h : (-(2 ^ 64) < i ∧ i < 2 ^ 64) ∨ (-(2 ^ 64) < j ∧ j < 2 ^ 64)) : bop .mul (.int i) (.int j) M = .ok (.int (i * j)) M := if_pos h
theorem bop_modI {i j : Int} (M : Mem) (h : 0 < j) : bop .mod (.int i) (.int j) M = .ok (.int (i % j)) M := if_pos h
theorem bop_divI {i j : Int} (M : Mem) (h : 0 < j ∧ j < 1073741824) : bop .fdiv (.int i) (.int j) M = .ok (.int (i / j)) M := if_pos h
theorem bop_addL {xs ys : List D} (M : Mem) (h : xs.length + ys.length ≤ lim) : bop .add (.lst xs) (.lst ys) M = .ok (.lst (xs ++ ys)) M := if_pos h
theorem bop_addT {xs ys : List D} (M : Mem) (h : xs.length + ys.length ≤ lim) : bop .add (.tup xs) (.tup ys) M = .ok (.tup (xs ++ ys)) M := if_pos h
theorem bop_addS {a b : Str} (M : Mem) (h : a.length + b.length ≤ lim) : bop .add (.str a) (.str b) M = .ok (.str (a ++ b)) M := if_pos h
theorem flatD_int (i : Int) : flatD (.int i) = true := rfl
/-! ### equality of dI' tuples, lists -/
theorem toPs_ints : ∀ xs : List Int, toPs (dI xs) = some (xs.map PyData.int)
  | [] => rfl
  | x :: xs => by
    show (match toP (.int x), toPs (dI xs) with
      | some p, some ps => some (p :: ps)
      | _, _ => none) = _
    rw [toPs_ints xs]
    rfl
theorem eqvAll_ints : ∀ xs ys : List Int, PyData.eqvAll (xs.map PyData.int) (ys.map PyData.int) = decide (xs = ys)
  | [], [] => by simp [PyData.eqvAll]
  | [], y :: ys => by simp [PyData.eqvAll]
  | x :: xs, [] => by simp [PyData.eqvAll]
  | x :: xs, y :: ys => by
    simp only [List.map_cons, PyData.eqvAll, PyData.eqv, eqvAll_ints xs ys]
    by_cases h : x = y
    · subst h
      simp
    · have e : (x == y) = false := by simpa using h
      rw [e]
      simp [h]
/-! ### comprehensions over what stands fast -/
theorem lc_fix {tg : D → Option Rho} {ts el : Rho → Mem → Res} {M : Mem} {g : D → Rho} {p : D → Bool} {h : D → D} {all : List D} : ∀ (xs : List D) (n k : Nat) (acc : List D),
    all.drop k = xs → xs.length < n → acc.length + xs.length ≤ lim →
    (∀ d ∈ xs, tg d = some (g d) ∧ ts (g d) M = .ok (.bl (p d)) M ∧ (p d = true → el (g d) M = .ok (h d) M)) →
    lcGo tg ts el (.fix all) n k M acc = .ok (.lst (acc ++ (xs.filter p).map h)) M
  | [], 0, k, acc, _, hn, _, _ => absurd hn (by simp)
  | [], n + 1, k, acc, hd, hn, hl, hh => by
    have e : all[k]? = none := by
      rw [← List.head?_drop, hd]
      rfl
    simp [lcGo, Src.at, e]
  | x :: xs, 0, k, acc, _, hn, _, _ => absurd hn (by simp)
  | x :: xs, n + 1, k, acc, hd, hn, hl, hh => by
    have e : all[k]? = some x := by
      rw [← List.head?_drop, hd]
      rfl
    have hd' : all.drop (k + 1) = xs := by
      rw [← List.drop_drop, hd]
      rfl
    obtain ⟨h1, h2, h3⟩ := hh x List.mem_cons_self
    simp only [List.length_cons] at hn hl
    have hh' : ∀ d ∈ xs, tg d = some (g d) ∧ ts (g d) M = .ok (.bl (p d)) M ∧ (p d = true → el (g d) M = .ok (h d) M) := fun d hm => hh d (List.mem_cons_of_mem _ hm)
    cases hp : p x with
    | false =>
      rw [hp] at h2
      simp only [lcGo, Src.at, e, h1, h2, Res.bindS]
      rw [lc_fix xs n (k + 1) acc hd' (by omega) (by omega) hh', List.filter_cons, hp]
      simp
    | true =>
      rw [hp] at h2
      simp only [lcGo, Src.at, e, h1, h2, Res.bindS, h3 hp]
      rw [if_pos (by omega), lc_fix xs n (k + 1) (acc ++ [h x]) hd' (by omega) (by simp; omega) hh', List.filter_cons, hp]
      simp
theorem lc_all {tg : D → Option Rho} {ts el : Rho → Mem → Res} {M : Mem} {all : List D} (g : D → Rho) (p : D → Bool) (h : D → D) (hl : all.length ≤ lim)
    (hh : ∀ d ∈ all, tg d = some (g d) ∧ ts (g d) M = .ok (.bl (p d)) M ∧ (p d = true → el (g d) M = .ok (h d) M)) :
    lcGo tg ts el (.fix all) (Src.fix all).fuel 0 M [] = .ok (.lst ((all.filter p).map h)) M := by
  have z := lc_fix (all := all) all (all.length + 1) 0 [] rfl (by omega) (by simpa using hl) hh
  simp only [List.nil_append] at z
  exact z
/-- the store may change: an invariant of the store, a word of each item -/
theorem lc_st {tg : D → Option Rho} {ts el : Rho → Mem → Res} {I : Nat → Mem → Prop} {P : D → D → Prop} {all : List D} (hl : all.length ≤ lim)
    (hh : ∀ j d M, all[j]? = some d → I j M → ∃ r, tg d = some r ∧ ∃ b M1, ts r M = .ok (.bl b) M1 ∧ (b = false → I (j + 1) M1) ∧ (b = true → ∃ y M2, el r M1 = .ok y M2 ∧ I (j + 1) M2 ∧ P d y)) :
    ∀ (n k : Nat) (M : Mem) (acc : List D), k ≤ all.length → all.length < n + k → acc.length ≤ k → I k M → ∃ ys M', lcGo tg ts el (.fix all) n k M acc = .ok (.lst (acc ++ ys)) M' ∧ I all.length M' ∧ (∀ y ∈ ys, ∃ d ∈ all, P d y) ∧ ys.length ≤ all.length - k
  | 0, k, M, acc, h1, h2, _, _ => by omega
  | n + 1, k, M, acc, h1, h2, h3, hi => by
    by_cases hk : k < all.length
    · have e := List.getElem?_eq_getElem hk
      obtain ⟨r, e1, b, M1, e2, h4, h5⟩ := hh k _ M e hi
      cases b with
      | false =>
        obtain ⟨ys, M', e3, h6, h7, h8⟩ := lc_st hl hh n (k + 1) M1 acc (by omega) (by omega) (by omega) (h4 rfl)
        refine ⟨ys, M', ?_, h6, h7, by omega⟩
        simp only [lcGo, Src.at, e, e1, e2, Res.bindS]
        exact e3
      | true =>
        obtain ⟨y, M2, e4, h9, h10⟩ := h5 rfl
        obtain ⟨ys, M', e3, h6, h7, h8⟩ := lc_st hl hh n (k + 1) M2 (acc ++ [y]) (by omega) (by omega) (by simp; omega) h9
        refine ⟨y :: ys, M', ?_, h6, fun z hz => ?_, by simp only [List.length_cons]; omega⟩
        · simp only [lcGo, Src.at, e, e1, e2, Res.bindS, e4]
          rw [if_pos (by omega), e3]
          simp
        · rcases List.mem_cons.mp hz with q | q
          · exact ⟨_, List.getElem_mem hk, by rw [q]; exact h10⟩
          · exact h7 z q
    · have e : all[k]? = none := List.getElem?_eq_none (by omega)
      have ek : k = all.length := by omega
      exact ⟨[], M, by simp [lcGo, Src.at, e], by rw [← ek]; exact hi, by simp, by simp⟩
/-! ### loops -/
theorem for_fix {tg : D → Rho → Option Rho} {body : Rho → Mem → Out} {all : List D} {I : Nat → Rho → Mem → Prop}
    (hh : ∀ j d r M, all[j]? = some d → I j r M → ∃ r1, tg d r = some r1 ∧ ∃ r2 M2, body r1 M = .nx r2 M2 ∧ I (j + 1) r2 M2) :
    ∀ (n k : Nat) (r : Rho) (M : Mem), k ≤ all.length → all.length < n + k → I k r M → ∃ r' M', forGo tg body (.fix all) n k r M = .nx r' M' ∧ I all.length r' M'
  | 0, k, r, M, h1, h2, _ => by omega
  | n + 1, k, r, M, h1, h2, hi => by
    by_cases hk : k < all.length
    · have e := List.getElem?_eq_getElem hk
      obtain ⟨r1, e1, r2, M2, e2, h4⟩ := hh k _ r M e hi
      obtain ⟨r', M', e3, h6⟩ := for_fix hh n (k + 1) r2 M2 (by omega) (by omega) h4
      refine ⟨r', M', ?_, h6⟩
      simp only [forGo, Src.at, e, e1, e2, Out.seq]
      exact e3
    · have e : all[k]? = none := List.getElem?_eq_none (by omega)
      have ek : k = all.length := by omega
      exact ⟨r, M, by simp [forGo, Src.at, e], by rw [← ek]; exact hi⟩
theorem rangeD_eq (n : Nat) : rangeD (n : Int) = dI ((List.range n).map fun i : Nat => (i : Int)) := by
  unfold rangeD dI
  rw [List.map_map]
  rfl
theorem rangeD_len (n : Nat) : (rangeD (n : Int)).length = n := by
  unfold rangeD
  simp
theorem rangeD_get (n j : Nat) (h : j < n) : (rangeD (n : Int))[j]? = some (.int (j : Int)) := by
  rw [range_get]
  simp [h]
theorem intsOf_ints : ∀ xs : List Int, intsOf (dI xs) = some xs
  | [] => rfl
  | x :: xs => by
    show (match intsOf (dI xs) with
      | some is => some (x :: is)
      | none => none) = _
    rw [intsOf_ints xs]
theorem blsOf_map {α : Type} (f : α → Bool) : ∀ xs : List α, blsOf (xs.map fun x => D.bl (f x)) = some (xs.map f)
  | [] => rfl
  | x :: xs => by
    show (match blsOf (xs.map fun x => D.bl (f x)) with
      | some is => some (f x :: is)
      | none => none) = _
    rw [blsOf_map f xs]
    rfl
theorem atI_nat' {α : Type} {xs : List α} {k : Nat} (h : k < xs.length) : atI xs (k : Int) = xs[k]? := by
  unfold atI ixN
  rw [if_pos (by omega), if_pos (by omega)]
  simp
theorem depth_dI : ∀ xs : List Int, PyData.depthAll (xs.map PyData.int) = 0
  | [] => rfl
  | x :: xs => by
    simp only [List.map_cons, PyData.depthAll, PyData.depth, depth_dI xs]
    rfl
theorem lay_dI : ∀ xs : List Int, PyData.canLayAll0 (xs.map PyData.int) = true
  | [] => rfl
  | x :: xs => by
    simp only [List.map_cons, PyData.canLayAll0, PyData.canLay0, lay_dI xs]
    rfl
theorem shaped_tup (xs : List Int) : SeqAt.shaped (.tuple (xs.map PyData.int)) = true := by
  unfold SeqAt.shaped
  simp [PyData.canLay0, PyData.depth, lay_dI, depth_dI]
theorem shaped_lst (xs : List Int) : SeqAt.shaped (.list (xs.map PyData.int)) = true := by
  unfold SeqAt.shaped
  simp [PyData.canLay0, PyData.depth, lay_dI, depth_dI]
theorem eqB_tup (M : Mem) (xs ys : List Int) : eqB M (.tup (dI xs)) (.tup (dI ys)) = some (decide (xs = ys)) := by
  simp only [eqB, eqD, datOf, toP, toPs_ints, shaped_tup, and_self, if_true, PyData.eqv, eqvAll_ints]
theorem eqB_lst (M : Mem) (xs ys : List Int) : eqB M (.lst (dI xs)) (.lst (dI ys)) = some (decide (xs = ys)) := by
  simp only [eqB, eqD, datOf, toP, toPs_ints, shaped_lst, and_self, if_true, PyData.eqv, eqvAll_ints]
theorem eqB_cell (M : Mem) (i : Nat) (xs ys : List Int) (h : M[i]? = some (.lst (dI xs))) : eqB M (.ref i) (.lst (dI ys)) = some (decide (xs = ys)) := by
  simp only [eqB, eqD, datOf, h, toP, toPs_ints, shaped_lst, and_self, if_true, PyData.eqv, eqvAll_ints]
theorem eqB_int (M : Mem) (x y : Int) : eqB M (.int x) (.int y) = some (decide (x = y)) := by
  simp only [eqB, eqD, datOf, toP]
  rw [show SeqAt.shaped (.int x) = true from rfl, show SeqAt.shaped (.int y) = true from rfl]
  simp only [and_self, if_true, PyData.eqv]
  congr 1
theorem eqB_bl (M : Mem) (x y : Bool) : eqB M (.bl x) (.bl y) = some (decide (x = y)) := by
  cases x <;> cases y <;> rfl
theorem flat_dI (xs : List Int) : (dI xs).all flatD = true := by
  rw [List.all_eq_true]
  intro d hd
  obtain ⟨x, _, rfl⟩ := List.mem_map.mp hd
  rfl
theorem any_dI (i : Int) : ∀ xs : List Int, (dI xs).any (fun y => eqF y (.int i)) = decide (i ∈ xs)
  | [] => by simp
  | x :: xs => by
    show (eqF (.int x) (.int i) || (dI xs).any fun y => eqF y (.int i)) = _
    rw [any_dI i xs]
    by_cases h : i = x
    · subst h
      simp [eqF]
    · have e : eqF (.int x) (.int i) = false := by
        show (x == i) = false
        simpa using fun z => h z.symm
      rw [e]
      simp [h]
theorem inB_dI (M : Mem) (i : Int) (y : D) (xs : List Int) (h : seqOf M y = some (dI xs)) : inB M (.int i) y = some (decide (i ∈ xs)) := by
  unfold inB
  rw [h]
  simp only [flat_dI, flatD_int, and_self, if_true, any_dI]

/-! ### the rows of a table -/
def rows : Nat → List (List Int)
  | 0 => [[]]
  | n + 1 => (rows n).map (fun r => 0 :: r) ++ (rows n).map (fun r => 1 :: r)
theorem rows_len : ∀ n, (rows n).length = 2 ^ n
  | 0 => rfl
  | n + 1 => by
    simp only [rows, List.length_append, List.length_map, rows_len n]
    rw [Nat.pow_succ]
    omega
theorem rows_mem : ∀ {n : Nat} {r : List Int}, r ∈ rows n ↔ r.length = n ∧ ∀ x ∈ r, x = 0 ∨ x = 1
  | 0, r => by
    simp only [rows, List.mem_singleton]
    constructor
    · rintro rfl
      simp
    · rintro ⟨h, _⟩
      exact List.length_eq_zero_iff.mp h
  | n + 1, r => by
    simp only [rows, List.mem_append, List.mem_map]
    constructor
    · rintro (⟨s, hs, rfl⟩ | ⟨s, hs, rfl⟩)
      · obtain ⟨h1, h2⟩ := rows_mem.mp hs
        exact ⟨by simp [h1], fun x hx => (List.mem_cons.mp hx).elim (fun z => .inl z) (h2 x)⟩
      · obtain ⟨h1, h2⟩ := rows_mem.mp hs
        exact ⟨by simp [h1], fun x hx => (List.mem_cons.mp hx).elim (fun z => .inr z) (h2 x)⟩
    · rintro ⟨h1, h2⟩
      cases r with
      | nil => simp at h1
      | cons a r =>
        have hr : r ∈ rows n := rows_mem.mpr ⟨by simpa using h1, fun x hx => h2 x (List.mem_cons_of_mem _ hx)⟩
        rcases h2 a List.mem_cons_self with z | z
        · exact .inl ⟨r, hr, by rw [z]⟩
        · exact .inr ⟨r, hr, by rw [z]⟩
/-- the number of a row -/
def num : List Int → Nat
  | [] => 0
  | x :: r => x.toNat * 2 ^ r.length + num r
theorem num_lt : ∀ {n : Nat} {r : List Int}, r ∈ rows n → num r < 2 ^ n
  | 0, r, h => by
    simp only [rows, List.mem_singleton] at h
    subst h
    simp [num]
  | n + 1, r, h => by
    simp only [rows, List.mem_append, List.mem_map] at h
    rcases h with ⟨s, hs, rfl⟩ | ⟨s, hs, rfl⟩
    · have := num_lt hs
      simp only [num, Int.toNat_zero, Nat.zero_mul, Nat.zero_add]
      rw [Nat.pow_succ]
      omega
    · have := num_lt hs
      have hl := (rows_mem.mp hs).1
      simp only [num, hl]
      rw [Nat.pow_succ]
      have : (1 : Int).toNat = 1 := rfl
      rw [this]
      omega
theorem rows_get : ∀ {n : Nat} {r : List Int}, r ∈ rows n → (rows n)[num r]? = some r
  | 0, r, h => by
    simp only [rows, List.mem_singleton] at h
    subst h
    rfl
  | n + 1, r, h => by
    simp only [rows, List.mem_append, List.mem_map] at h
    rcases h with ⟨s, hs, rfl⟩ | ⟨s, hs, rfl⟩
    · have h1 := num_lt hs
      simp only [rows, num, Int.toNat_zero, Nat.zero_mul, Nat.zero_add]
      rw [List.getElem?_append_left (by simp [rows_len]; exact h1), List.getElem?_map, rows_get hs]
      rfl
    · have h1 := num_lt hs
      have hl := (rows_mem.mp hs).1
      have e : num (1 :: s) = 2 ^ n + num s := by
        simp only [num, hl]
        have : (1 : Int).toNat = 1 := rfl
        rw [this]
        omega
      rw [e]
      simp only [rows]
      rw [List.getElem?_append_right (by simp [rows_len]), List.length_map, rows_len]
      rw [show 2 ^ n + num s - 2 ^ n = num s by omega, List.getElem?_map, rows_get hs]
      rfl
/-- a table as a word of its rows -/
def tbl (n : Nat) (f : List Int → Int) : List Int := (rows n).map f
theorem tbl_len (n : Nat) (f : List Int → Int) : (tbl n f).length = 2 ^ n := by
  unfold tbl
  rw [List.length_map, rows_len]
theorem tbl_get {n : Nat} {f : List Int → Int} {r : List Int} (h : r ∈ rows n) : (tbl n f)[num r]? = some (f r) := by
  unfold tbl
  rw [List.getElem?_map, rows_get h]
  rfl
theorem tbl_of : ∀ {n : Nat} {t : List Int}, t.length = 2 ^ n → ∃ f, t = tbl n f
  | 0, t, h => by
    match t, h with
    | [x], _ => exact ⟨fun _ => x, rfl⟩
  | n + 1, t, h => by
    obtain ⟨f, hf⟩ := tbl_of (n := n) (t := t.take (2 ^ n)) (by rw [List.length_take, h, Nat.pow_succ]; omega)
    obtain ⟨g, hg⟩ := tbl_of (n := n) (t := t.drop (2 ^ n)) (by rw [List.length_drop, h, Nat.pow_succ]; omega)
    refine ⟨fun r => match r with
      | x :: s => if x = 0 then f s else g s
      | [] => 0, ?_⟩
    rw [← List.take_append_drop (2 ^ n) t, hf, hg]
    simp [tbl, rows, Function.comp_def]
theorem tbl_inj {n : Nat} {f g : List Int → Int} : tbl n f = tbl n g ↔ ∀ r ∈ rows n, f r = g r := by
  unfold tbl
  exact List.map_inj_left
theorem tbl_succ (n : Nat) (f : List Int → Int) : tbl (n + 1) f = tbl n (fun s => f (0 :: s)) ++ tbl n (fun s => f (1 :: s)) := by
  simp [tbl, rows, Function.comp_def]
/-- a sign put in at a place -/
def ins : List Int → Nat → Int → List Int
  | s, 0, b => b :: s
  | x :: s, j + 1, b => x :: ins s j b
  | [], _ + 1, b => [b]
theorem ins_zero (s : List Int) (b : Int) : ins s 0 b = b :: s := by cases s <;> rfl
/-- the items at the places that are told -/
def pick (F : Nat → Bool) : Nat → List Int → List Int
  | _, [] => []
  | o, x :: xs => if F o = true then x :: pick F (o + 1) xs else pick F (o + 1) xs
theorem pick_append (F : Nat → Bool) : ∀ (o : Nat) (xs ys : List Int), pick F o (xs ++ ys) = pick F o xs ++ pick F (o + xs.length) ys
  | o, [], ys => by simp [pick]
  | o, x :: xs, ys => by
    simp only [List.cons_append, pick, pick_append F (o + 1) xs ys, List.length_cons]
    rw [show o + 1 + xs.length = o + (xs.length + 1) by omega]
    split <;> rfl
theorem pick_all {F : Nat → Bool} : ∀ (o : Nat) (xs : List Int), (∀ i, o ≤ i → i < o + xs.length → F i = true) → pick F o xs = xs
  | o, [], _ => rfl
  | o, x :: xs, h => by
    simp only [pick]
    rw [if_pos (h o (Nat.le_refl _) (by simp)), pick_all (o + 1) xs fun i h1 h2 => h i (by omega) (by simp; omega)]
theorem pick_none {F : Nat → Bool} : ∀ (o : Nat) (xs : List Int), (∀ i, o ≤ i → i < o + xs.length → F i = false) → pick F o xs = []
  | o, [], _ => rfl
  | o, x :: xs, h => by
    simp only [pick]
    rw [if_neg (by rw [h o (Nat.le_refl _) (by simp)]; simp), pick_none (o + 1) xs fun i h1 h2 => h i (by omega) (by simp; omega)]
theorem tbl_pick (b : Nat) (hb : b = 0 ∨ b = 1) : ∀ (p j c : Nat) (f : List Int → Int), j < p + 1 → pick (fun i => decide (i / 2 ^ (p - j) % 2 = b)) (c * 2 ^ (p + 1)) (tbl (p + 1) f) = tbl p (fun s => f (ins s j (b : Int)))
  | p, 0, c, f, _ => by
    have hp : 0 < 2 ^ p := Nat.two_pow_pos p
    have d0 : ∀ i, c * 2 ^ (p + 1) ≤ i → i < c * 2 ^ (p + 1) + 2 ^ p → i / 2 ^ p = 2 * c := by
      intro i h1 h2
      rw [Nat.pow_succ] at h1 h2
      apply Nat.div_eq_of_lt_le
      · calc 2 * c * 2 ^ p = c * (2 ^ p * 2) := by rw [Nat.mul_comm 2 c, Nat.mul_assoc, Nat.mul_comm 2]
          _ ≤ i := h1
      · calc i < c * (2 ^ p * 2) + 2 ^ p := h2
          _ = (2 * c + 1) * 2 ^ p := by rw [Nat.add_mul, Nat.one_mul, Nat.mul_comm 2 c, Nat.mul_assoc, Nat.mul_comm 2]
    have d1 : ∀ i, c * 2 ^ (p + 1) + 2 ^ p ≤ i → i < c * 2 ^ (p + 1) + 2 ^ p + 2 ^ p → i / 2 ^ p = 2 * c + 1 := by
      intro i h1 h2
      rw [Nat.pow_succ] at h1 h2
      apply Nat.div_eq_of_lt_le
      · calc (2 * c + 1) * 2 ^ p = c * (2 ^ p * 2) + 2 ^ p := by rw [Nat.add_mul, Nat.one_mul, Nat.mul_comm 2 c, Nat.mul_assoc, Nat.mul_comm 2]
          _ ≤ i := h1
      · calc i < c * (2 ^ p * 2) + 2 ^ p + 2 ^ p := h2
          _ = (2 * c + 1 + 1) * 2 ^ p := by rw [Nat.add_mul, Nat.add_mul, Nat.one_mul, Nat.mul_comm 2 c, Nat.mul_assoc, Nat.mul_comm 2]
    rw [tbl_succ, pick_append, tbl_len, Nat.sub_zero]
    rcases hb with hb | hb
    · subst hb
      rw [pick_all, pick_none, List.append_nil]
      · simp only [ins_zero]
        rfl
      · intro i h1 h2
        rw [tbl_len] at h2
        rw [d1 i h1 h2]
        simp
      · intro i h1 h2
        rw [tbl_len] at h2
        rw [d0 i h1 h2]
        simp
    · subst hb
      rw [pick_none, pick_all, List.nil_append]
      · simp only [ins_zero]
        rfl
      · intro i h1 h2
        rw [tbl_len] at h2
        rw [d1 i h1 h2]
        simp
      · intro i h1 h2
        rw [tbl_len] at h2
        rw [d0 i h1 h2]
        simp
  | 0, j + 1, c, f, h => by omega
  | p + 1, j + 1, c, f, h => by
    rw [tbl_succ, pick_append, tbl_len, tbl_succ p (fun s => f (ins s (j + 1) b))]
    rw [show p + 1 - (j + 1) = p - j by omega]
    rw [show c * 2 ^ (p + 1 + 1) = (2 * c) * 2 ^ (p + 1) by rw [Nat.pow_succ 2 (p + 1)]; rw [Nat.mul_comm 2 c, Nat.mul_assoc, Nat.mul_comm 2]]
    rw [show (2 * c) * 2 ^ (p + 1) + 2 ^ (p + 1) = (2 * c + 1) * 2 ^ (p + 1) by rw [Nat.add_mul, Nat.one_mul]]
    rw [tbl_pick b hb p j (2 * c) _ (by omega), tbl_pick b hb p j (2 * c + 1) _ (by omega)]
    rfl
/-- what enumerate gives, looked at by its number -/
theorem enum_pick {P : D → Bool} {h : D → D} {F : Nat → Bool} : ∀ (o : Nat) (xs : List Int), (∀ (i : Nat) (x : Int), P (.tup [.int (i : Nat), .int x]) = F i) → (∀ (i : Nat) (x : Int), h (.tup [.int (i : Nat), .int x]) = .int x) →
    ((enumD o (dI xs)).filter P).map h = dI (pick F o xs)
  | o, [], _, _ => rfl
  | o, x :: xs, h1, h2 => by
    have ih := enum_pick (P := P) (h := h) (F := F) (o + 1) xs h1 h2
    show (((D.tup [.int (o : Nat), .int x]) :: enumD (o + 1) (dI xs)).filter P).map h = _
    rw [List.filter_cons, h1]
    simp only [pick]
    split
    · rw [List.map_cons, h2, ih]
      rfl
    · exact ih
theorem zipD_map {α : Type} (a b : α → D) : ∀ xs : List α, zipD (xs.map a) (xs.map b) = xs.map fun x => .tup [a x, b x]
  | [] => rfl
  | x :: xs => by
    simp only [List.map_cons, zipD, zipD_map a b xs]
theorem num_append : ∀ (s : List Int) (x : Int), num (s ++ [x]) = 2 * num s + x.toNat
  | [], x => by simp [num]
  | y :: s, x => by
    simp only [List.cons_append, num, List.length_append, List.length_cons, List.length_nil, num_append s x, Nat.zero_add, Nat.pow_succ]
    rw [Nat.mul_add, ← Nat.mul_assoc, Nat.mul_comm _ 2]
    omega
/-- over what stands fast in the store -/
theorem lc_src {tg : D → Option Rho} {ts el : Rho → Mem → Res} {M : Mem} {g : D → Rho} {p : D → Bool} {h : D → D} {all : List D} {s : Src} (hs : ∀ k, s.at M k = some all[k]?) : ∀ (xs : List D) (n k : Nat) (acc : List D),
    all.drop k = xs → xs.length < n → acc.length + xs.length ≤ lim →
    (∀ d ∈ xs, tg d = some (g d) ∧ ts (g d) M = .ok (.bl (p d)) M ∧ (p d = true → el (g d) M = .ok (h d) M)) →
    lcGo tg ts el s n k M acc = .ok (.lst (acc ++ (xs.filter p).map h)) M
  | [], 0, k, acc, _, hn, _, _ => absurd hn (by simp)
  | [], n + 1, k, acc, hd, hn, hl, hh => by
    have e : all[k]? = none := by
      rw [← List.head?_drop, hd]
      rfl
    simp [lcGo, hs, e]
  | x :: xs, 0, k, acc, _, hn, _, _ => absurd hn (by simp)
  | x :: xs, n + 1, k, acc, hd, hn, hl, hh => by
    have e : all[k]? = some x := by
      rw [← List.head?_drop, hd]
      rfl
    have hd' : all.drop (k + 1) = xs := by
      rw [← List.drop_drop, hd]
      rfl
    obtain ⟨h1, h2, h3⟩ := hh x List.mem_cons_self
    simp only [List.length_cons] at hn hl
    have hh' : ∀ d ∈ xs, tg d = some (g d) ∧ ts (g d) M = .ok (.bl (p d)) M ∧ (p d = true → el (g d) M = .ok (h d) M) := fun d hm => hh d (List.mem_cons_of_mem _ hm)
    cases hp : p x with
    | false =>
      rw [hp] at h2
      simp only [lcGo, hs, e, h1, h2, Res.bindS]
      rw [lc_src hs xs n (k + 1) acc hd' (by omega) (by omega) hh', List.filter_cons, hp]
      simp
    | true =>
      rw [hp] at h2
      simp only [lcGo, hs, e, h1, h2, Res.bindS, h3 hp]
      rw [if_pos (by omega), lc_src hs xs n (k + 1) (acc ++ [h x]) hd' (by omega) (by simp; omega) hh', List.filter_cons, hp]
      simp
theorem lc_cell {tg : D → Option Rho} {ts el : Rho → Mem → Res} {M : Mem} {i : Nat} {all : List D} (g : D → Rho) (p : D → Bool) (h : D → D) (hi : M[i]? = some (.lst all)) (hl : all.length ≤ 4000)
    (hh : ∀ d ∈ all, tg d = some (g d) ∧ ts (g d) M = .ok (.bl (p d)) M ∧ (p d = true → el (g d) M = .ok (h d) M)) :
    lcGo tg ts el (.cell i) (Src.cell i).fuel 0 M [] = .ok (.lst ((all.filter p).map h)) M := by
  have z := lc_src (s := .cell i) (M := M) (all := all) (fun k => by simp only [Src.at, hi]) all 5000 0 [] rfl (by omega) (by have : lim = 1000000 := rfl; simp; omega) hh
  simp only [List.nil_append] at z
  exact z
/-- the store may change; every item is taken -/
theorem lc_each {tg : D → Option Rho} {el : Rho → Mem → Res} {I : Nat → Mem → Prop} {P : D → D → Prop} {all : List D} (hl : all.length ≤ lim)
    (hh : ∀ j d M, all[j]? = some d → I j M → ∃ r, tg d = some r ∧ ∃ y M2, el r M = .ok y M2 ∧ I (j + 1) M2 ∧ P d y) :
    ∀ (n k : Nat) (M : Mem) (acc : List D), k ≤ all.length → all.length < n + k → acc.length ≤ k → I k M → ∃ ys M', lcGo tg (fun _ M => .ok (.bl true) M) el (.fix all) n k M acc = .ok (.lst (acc ++ ys)) M' ∧ I all.length M' ∧ (∀ y ∈ ys, ∃ d ∈ all, P d y) ∧ ys.length = all.length - k
  | 0, k, M, acc, h1, h2, _, _ => by omega
  | n + 1, k, M, acc, h1, h2, h3, hi => by
    by_cases hk : k < all.length
    · have e := List.getElem?_eq_getElem hk
      obtain ⟨r, e1, y, M2, e4, h9, h10⟩ := hh k _ M e hi
      obtain ⟨ys, M', e3, h6, h7, h8⟩ := lc_each hl hh n (k + 1) M2 (acc ++ [y]) (by omega) (by omega) (by simp; omega) h9
      refine ⟨y :: ys, M', ?_, h6, fun z hz => ?_, by simp only [List.length_cons]; omega⟩
      · simp only [lcGo, Src.at, e, e1, Res.bindS, e4]
        rw [if_pos (by omega), e3]
        simp
      · rcases List.mem_cons.mp hz with q | q
        · exact ⟨_, List.getElem_mem hk, by rw [q]; exact h10⟩
        · exact h7 z q
    · have e : all[k]? = none := List.getElem?_eq_none (by omega)
      have ek : k = all.length := by omega
      exact ⟨[], M, by simp [lcGo, Src.at, e], by rw [← ek]; exact hi, by simp, by simp; omega⟩
theorem all_ints : ∀ {ys : List D}, (∀ y ∈ ys, y = .int 0 ∨ y = .int 1) → ∃ t : List Int, ys = dI t ∧ ∀ x ∈ t, x = 0 ∨ x = 1
  | [], _ => ⟨[], rfl, by simp⟩
  | y :: ys, h => by
    obtain ⟨t, e, ht⟩ := all_ints (ys := ys) fun z hz => h z (List.mem_cons_of_mem _ hz)
    rcases h y List.mem_cons_self with z | z
    · exact ⟨0 :: t, by rw [z, e]; rfl, fun x hx => (List.mem_cons.mp hx).elim (fun q => .inl q) (ht x)⟩
    · exact ⟨1 :: t, by rw [z, e]; rfl, fun x hx => (List.mem_cons.mp hx).elim (fun q => .inr q) (ht x)⟩
mutual
theorem eqv_refl : ∀ p : PyData, p.canLay0 = true → PyData.eqv p p = true
  | .none, _ => by simp [PyData.eqv]
  | .bool b, _ => by simp [PyData.eqv]
  | .int i, _ => by simp [PyData.eqv]
  | .str x, _ => by
    simp only [PyData.eqv]
    rw [← dec_str]
    simp
  | .list xs, h => by
    simp only [PyData.eqv]
    exact eqvAll_refl xs (by simpa [PyData.canLay0] using h)
  | .tuple xs, h => by
    simp only [PyData.eqv]
    exact eqvAll_refl xs (by simpa [PyData.canLay0] using h)
  | .dict _, h => by simp [PyData.canLay0] at h
theorem eqvAll_refl : ∀ xs : List PyData, PyData.canLayAll0 xs = true → PyData.eqvAll xs xs = true
  | [], _ => by simp [PyData.eqvAll]
  | x :: xs, h => by
    simp only [PyData.canLayAll0, Bool.and_eq_true] at h
    simp only [PyData.eqvAll, eqv_refl x h.1, eqvAll_refl xs h.2, Bool.and_self]
end
theorem eqB_same {M : Mem} {x y : D} {p : PyData} (hx : datOf M x = some p) (hy : datOf M y = some p) (hs : SeqAt.shaped p = true) : eqB M x y = some true := by
  have e : eqD M x y = some true := by
    simp only [eqD, hx, hy, hs, and_self, if_true]
    rw [eqv_refl p (SeqAt.canLay_of_shaped hs)]
  unfold eqB
  split
  · rename_i a b
    simp only [datOf, toP, Option.some.injEq] at hx hy
    rw [← hx] at hy
    cases hy
    rw [← dec_str]
    simp
  · exact e
theorem str_same (x : Str) : (x == x) = true := by
  rw [← dec_str]
  simp
/-! ### what is shown -/
theorem sg_show : ∀ t : List Int, (∀ x ∈ t, x = 0 ∨ x = 1) → PyData.showableAll (t.map PyData.int) = true ∧ PyData.hasDictAll (t.map PyData.int) = false ∧ PyData.leavesShortAll 12 (t.map PyData.int) = true ∧ PyData.weightAll (t.map PyData.int) ≤ 2 * t.length
  | [], _ => ⟨rfl, rfl, rfl, Nat.le_refl _⟩
  | x :: t, h => by
    obtain ⟨h1, h2, h3, h4⟩ := sg_show t fun y hy => h y (List.mem_cons_of_mem _ hy)
    have hx : PyData.showable (.int x) = true ∧ PyData.leavesShort 12 (.int x) = true ∧ PyData.weight (.int x) ≤ 1 := by
      rcases h x List.mem_cons_self with z | z <;> subst z
      · exact ⟨by decide, by decide, by decide⟩
      · exact ⟨by decide, by decide, by decide⟩
    refine ⟨?_, ?_, ?_, ?_⟩
    · simp only [List.map_cons, PyData.showableAll, hx.1, h1, Bool.and_self]
    · simp only [List.map_cons, PyData.hasDictAll, PyData.hasDict, h2, Bool.or_self]
    · simp only [List.map_cons, PyData.leavesShortAll, hx.2.1, h3, Bool.and_self]
    · simp only [List.map_cons, PyData.weightAll, List.length_cons]
      have := hx.2.2
      omega
abbrev tuI (t : List Int) : PyData := .tuple (t.map PyData.int)
theorem tups_show : ∀ ts : List (List Int), (∀ t ∈ ts, (∀ x ∈ t, x = 0 ∨ x = 1) ∧ t.length ≤ 256) → toPs (ts.map fun t => .tup (dI t)) = some (ts.map tuI) ∧ PyData.showableAll (ts.map tuI) = true ∧ PyData.hasDictAll (ts.map tuI) = false ∧ PyData.leavesShortAll 12 (ts.map tuI) = true ∧
    PyData.weightAll (ts.map tuI) ≤ 513 * ts.length ∧ PyData.depthAll (ts.map tuI) ≤ 1
  | [], _ => ⟨rfl, rfl, rfl, rfl, Nat.le_refl _, by decide⟩
  | t :: ts, h => by
    obtain ⟨h0, h1, h2, h3, h4, h5⟩ := tups_show ts fun y hy => h y (List.mem_cons_of_mem _ hy)
    obtain ⟨hs, hl⟩ := h t List.mem_cons_self
    obtain ⟨k1, k2, k3, k4⟩ := sg_show t hs
    refine ⟨?_, ?_, ?_, ?_, ?_, ?_⟩
    · simp only [List.map_cons, toPs, toP, toPs_ints, h0]
    · simp only [List.map_cons, PyData.showableAll, PyData.showable, k1, h1, Bool.and_self]
    · simp only [List.map_cons, PyData.hasDictAll, PyData.hasDict, k2, h2, Bool.or_self]
    · simp only [List.map_cons, PyData.leavesShortAll, PyData.leavesShort, k3, h3, Bool.and_self]
    · simp only [List.map_cons, PyData.weightAll, PyData.weight, List.length_cons]
      omega
    · simp only [List.map_cons, PyData.depthAll, PyData.depth, depth_dI]
      omega
/-- repr of a list of tables -/
theorem repr_tups (M : Mem) (ts : List (List Int)) (h : ∀ t ∈ ts, (∀ x ∈ t, x = 0 ∨ x = 1) ∧ t.length ≤ 256) (hl : ts.length ≤ 16) : bfn .repr [.lst (ts.map fun t => .tup (dI t))] M = .ok (.str (PyData.shown (.list (ts.map tuI)))) M := by
  obtain ⟨h0, h1, h2, h3, h4, h5⟩ := tups_show ts h
  have e : datOf M (.lst (ts.map fun t => .tup (dI t))) = some (.list (ts.map tuI)) := by
    simp only [datOf, toP, h0]
  have s : showB (.lst (ts.map fun t => .tup (dI t))) (.list (ts.map tuI)) = true := by
    unfold showB
    simp only [isSeqD, PyData.showable, h1, PyData.hasDict, h2, PyData.leavesShort, h3, PyData.depth, PyData.weight, Bool.not_false, Bool.and_self, Bool.true_and, Bool.and_eq_true, decide_eq_true_eq, Bool.and_true]
    have hlim : lim = 1000000 := rfl
    rw [hlim]
    constructor <;> first | (apply decide_eq_true; omega) | omega
  simp only [bfn, e, s, if_true]
/-- repr of a table -/
theorem repr_tup (M : Mem) (t : List Int) (hs : ∀ x ∈ t, x = 0 ∨ x = 1) (hl : t.length ≤ 256) : bfn .repr [.tup (dI t)] M = .ok (.str (PyData.shown (tuI t))) M := by
  obtain ⟨k1, k2, k3, k4⟩ := sg_show t hs
  have e : datOf M (.tup (dI t)) = some (tuI t) := by
    simp only [datOf, toP, toPs_ints]
  have s : showB (.tup (dI t)) (tuI t) = true := by
    unfold showB
    simp only [isSeqD, PyData.showable, k1, PyData.hasDict, k2, PyData.leavesShort, k3, PyData.depth, depth_dI, PyData.weight, Bool.not_false, Bool.and_self, Bool.true_and, Bool.and_eq_true, decide_eq_true_eq, Bool.and_true]
    have hlim : lim = 1000000 := rfl
    rw [hlim]
    constructor <;> first | (apply decide_eq_true; omega) | omega
  simp only [bfn, e, s, if_true]
theorem cop_ne_str (x : Str) (M : Mem) : cop .ne (.str x) (.str x) M = .ok (.bl false) M := by
  simp only [cop, cmpB, eqB, str_same]
  rfl
theorem cop_eq_tup (M : Mem) (xs ys : List Int) : cop .eq (.tup (dI xs)) (.tup (dI ys)) M = .ok (.bl (decide (xs = ys))) M := by
  simp only [cop, cmpB, eqB_tup]
theorem cop_ne_tup (M : Mem) (xs ys : List Int) : cop .ne (.tup (dI xs)) (.tup (dI ys)) M = .ok (.bl (!decide (xs = ys))) M := by
  simp only [cop, cmpB, eqB_tup]
end Iv

/-! ## IvP2 -/
/-! Iv, part P2: more plain laws: comprehensions and loops over lists of anything, told by their datum. -/
namespace Iv
open PySem PySem.Spec PyProof.Rows L2
theorem bind_ok (d : D) (M : Mem) (g : D → Mem → Res) : (Res.ok d M).bind g = g d M := rfl
theorem to_ok (d : D) (M : Mem) (r : Rho) (g : D → Mem → Out) : (Res.ok d M).to r g = g d M := rfl
theorem seq_nx (r : Rho) (M : Mem) (g : Rho → Mem → Out) : (Out.nx r M).seq g = g r M := rfl
theorem bind_exn (c : Nat) (fs : List D) (M : Mem) (g : D → Mem → Res) : (Res.exn c fs M).bind g = .exn c fs M := rfl
theorem to_exn (c : Nat) (fs : List D) (M : Mem) (r : Rho) (g : D → Mem → Out) : (Res.exn c fs M).to r g = .xn c fs r M := rfl
theorem seq_rt (d : D) (M : Mem) (g : Rho → Mem → Out) : (Out.rt d M).seq g = .rt d M := rfl
theorem seq_xn (c : Nat) (fs : List D) (r : Rho) (M : Mem) (g : Rho → Mem → Out) : (Out.xn c fs r M).seq g = .xn c fs r M := rfl
theorem lc_go {α : Type} (a b : α → D) (p : α → Bool) {tg : D → Option Rho} {ts el : Rho → Mem → Res} {M : Mem} {all : List D} : ∀ (rest pre : List α) (n : Nat) (acc : List D), all = (pre ++ rest).map a → pre.length + rest.length ≤ lim → acc.length ≤ pre.length → rest.length < n →
    (∀ x ∈ rest, ∃ r, tg (a x) = some r ∧ ts r M = .ok (.bl (p x)) M ∧ (p x = true → el r M = .ok (b x) M)) →
    lcGo tg ts el (.fix all) n pre.length M acc = .ok (.lst (acc ++ (rest.filter p).map b)) M
  | [], pre, 0, acc, _, _, _, hn, _ => by simp at hn
  | x :: rest, pre, 0, acc, _, _, _, hn, _ => by simp at hn
  | [], pre, n + 1, acc, e, _, _, _, _ => by
    have h : all[pre.length]? = none := by rw [e]; simp
    simp [lcGo, Src.at, h]
  | x :: rest, pre, n + 1, acc, e, hl, ha, hn, hh => by
    have h : all[pre.length]? = some (a x) := by rw [e]; simp
    obtain ⟨r, h1, h2, h3⟩ := hh x List.mem_cons_self
    have e' : all = ((pre ++ [x]) ++ rest).map a := by rw [e, List.append_assoc]; rfl
    rw [List.length_cons] at hl hn
    have hl' : (pre ++ [x]).length + rest.length ≤ lim := by rw [List.length_append, List.length_singleton]; omega
    have hp : (pre ++ [x]).length = pre.length + 1 := by rw [List.length_append]; rfl
    cases hx : p x with
    | true =>
      have z := lc_go a b p rest (pre ++ [x]) n (acc ++ [b x]) e' hl' (by rw [hp, List.length_append, List.length_singleton]; omega) (by omega) fun y hy => hh y (List.mem_cons_of_mem _ hy)
      simp only [lcGo, Src.at, h, h1, h2, hx, Res.bindS, h3 hx]
      rw [if_pos (by omega)]
      rw [hp] at z
      rw [z, List.filter_cons_of_pos hx, List.map_cons, List.append_assoc]
      rfl
    | false =>
      have z := lc_go a b p rest (pre ++ [x]) n acc e' hl' (by rw [hp]; omega) (by omega) fun y hy => hh y (List.mem_cons_of_mem _ hy)
      simp only [lcGo, Src.at, h, h1, h2, hx, Res.bindS]
      rw [hp] at z
      rw [z, List.filter_cons_of_neg (by rw [hx]; exact Bool.false_ne_true)]
/-- [el for x in xs] -/
theorem lc_map {α : Type} (a b : α → D) (xs : List α) {tg : D → Option Rho} {el : Rho → Mem → Res} {M : Mem} (hl : xs.length ≤ lim) (hh : ∀ x ∈ xs, ∃ r, tg (a x) = some r ∧ el r M = .ok (b x) M) :
    lcGo tg (fun _ M => .ok (.bl true) M) el (.fix (xs.map a)) (Src.fix (xs.map a)).fuel 0 M [] = .ok (.lst (xs.map b)) M := by
  have z := lc_go a b (fun _ => true) (tg := tg) (ts := fun _ M => .ok (.bl true) M) (el := el) (M := M) (all := xs.map a) xs [] (Src.fix (xs.map a)).fuel [] rfl (by simpa using hl) (Nat.le_refl _) (by show xs.length < (xs.map a).length + 1; rw [List.length_map]; omega)
    fun x hx => by
      obtain ⟨r, h1, h2⟩ := hh x hx
      exact ⟨r, h1, rfl, fun _ => h2⟩
  rw [show xs.filter (fun _ => true) = xs by simp] at z
  exact z
/-- [el for x in xs if ts] -/
theorem lc_filt {α : Type} (a b : α → D) (p : α → Bool) (xs : List α) {tg : D → Option Rho} {ts el : Rho → Mem → Res} {M : Mem} (hl : xs.length ≤ lim) (hh : ∀ x ∈ xs, ∃ r, tg (a x) = some r ∧ ts r M = .ok (.bl (p x)) M ∧ (p x = true → el r M = .ok (b x) M)) :
    lcGo tg ts el (.fix (xs.map a)) (Src.fix (xs.map a)).fuel 0 M [] = .ok (.lst ((xs.filter p).map b)) M :=
  lc_go a b p (all := xs.map a) xs [] (Src.fix (xs.map a)).fuel [] rfl (by simpa using hl) (Nat.le_refl _) (by show xs.length < (xs.map a).length + 1; rw [List.length_map]; omega) hh
/-- for x in xs: body -/
theorem for_go {α : Type} (a : α → D) (I : List α → Rho → Mem → Prop) (xs : List α) {tg : D → Rho → Option Rho} {body : Rho → Mem → Out}
    (hh : ∀ pre x post r M, xs = pre ++ x :: post → I pre r M → ∃ r1, tg (a x) r = some r1 ∧ ∃ r2 M2, body r1 M = .nx r2 M2 ∧ I (pre ++ [x]) r2 M2) :
    ∀ (rest pre : List α) (n : Nat) (r : Rho) (M : Mem), xs = pre ++ rest → rest.length < n → I pre r M → ∃ r' M', forGo tg body (.fix (xs.map a)) n pre.length r M = .nx r' M' ∧ I xs r' M'
  | _, pre, 0, r, M, _, hn, _ => by simp at hn
  | [], pre, n + 1, r, M, e, _, hi => by
    have h : (xs.map a)[pre.length]? = none := by rw [e]; simp
    rw [List.append_nil] at e
    exact ⟨r, M, by simp [forGo, Src.at, h], by rw [e]; exact hi⟩
  | x :: rest, pre, n + 1, r, M, e, hn, hi => by
    have h : (xs.map a)[pre.length]? = some (a x) := by rw [e]; simp
    obtain ⟨r1, h1, r2, M2, h2, h3⟩ := hh pre x rest r M e hi
    obtain ⟨r', M', h4, h5⟩ := for_go a I xs hh rest (pre ++ [x]) n r2 M2 (by rw [e, List.append_assoc]; rfl) (by rw [List.length_cons] at hn; omega) h3
    refine ⟨r', M', ?_, h5⟩
    simp only [forGo, Src.at, h, h1, h2, Out.seq]
    rw [show (pre ++ [x]).length = pre.length + 1 by rw [List.length_append]; rfl] at h4
    exact h4
theorem for_all {α : Type} (a : α → D) (I : List α → Rho → Mem → Prop) (xs : List α) {tg : D → Rho → Option Rho} {body : Rho → Mem → Out} {r : Rho} {M : Mem}
    (hh : ∀ pre x post r M, xs = pre ++ x :: post → I pre r M → ∃ r1, tg (a x) r = some r1 ∧ ∃ r2 M2, body r1 M = .nx r2 M2 ∧ I (pre ++ [x]) r2 M2) (h0 : I [] r M) :
    ∃ r' M', forGo tg body (.fix (xs.map a)) (Src.fix (xs.map a)).fuel 0 r M = .nx r' M' ∧ I xs r' M' :=
  for_go a I xs hh xs [] (Src.fix (xs.map a)).fuel r M rfl (by show xs.length < (xs.map a).length + 1; rw [List.length_map]; omega) h0
section
variable {T : Tab} {cf : Nat → List D → Mem → Res}
theorem ev_lc {own : List Nat} {tg : CT} {it e : CE} {r : Rho} {M M1 M' : Mem} {xs ys : List D} (hit : ev T cf .s it r M = .ok (.tup xs) M1)
    (hh : lcGo (fun d => asg tg d (wipeR r own)) (fun _ M => .ok (.bl true) M) (ev T cf .v e) (.fix xs) (Src.fix xs).fuel 0 M1 [] = .ok (.lst ys) M') :
    ev T cf .v (.lc false own tg it .nil e) r M = .ok (.lst ys) M' := by
  rw [ev]
  simp only [hit, Res.bind, Iv.srcOf_tup, CE.isNil, if_true]
  rw [hh]
  rfl
theorem ev_lcf {own : List Nat} {tg : CT} {it ts e : CE} {r : Rho} {M M1 M' : Mem} {xs ys : List D} (hn : ts.isNil = false) (hit : ev T cf .s it r M = .ok (.tup xs) M1)
    (hh : lcGo (fun d => asg tg d (wipeR r own)) (ev T cf .v ts) (ev T cf .v e) (.fix xs) (Src.fix xs).fuel 0 M1 [] = .ok (.lst ys) M') :
    ev T cf .v (.lc false own tg it ts e) r M = .ok (.lst ys) M' := by
  rw [ev]
  simp only [hit, Res.bind, Iv.srcOf_tup, hn, Bool.false_eq_true, if_false]
  rw [hh]
  rfl
theorem ev_call1 {g : Nat} {a : CE} {r : Rho} {M M1 : Mem} {x : D} (h : ev T cf .v a r M = .ok x M1) : ev T cf .v (.call g (.cons a .nil)) r M = cf g [x] M1 := by
  rw [ev]
  show (((ev T cf .v a r M).bind fun x M1 => .ok (.tup [x]) M1).bind _) = _
  rw [h]
  rfl
theorem ev_call2 {g : Nat} {a b : CE} {r : Rho} {M M1 M2 : Mem} {x y : D} (h : ev T cf .v a r M = .ok x M1) (k : ev T cf .v b r M1 = .ok y M2) : ev T cf .v (.call g (.cons a (.cons b .nil))) r M = cf g [x, y] M2 := by
  rw [ev]
  show (((ev T cf .v a r M).bind fun x M1 => ((ev T cf .v b r M1).bind fun y M2 => .ok (.tup [y]) M2).bind fun xs M2 => .ok (consD x xs) M2).bind _) = _
  rw [h, bind_ok, k]
  rfl
theorem ev_bc1 {f : BF} {a : CE} {r : Rho} {M M1 : Mem} {x : D} (h : ev T cf .v a r M = .ok x M1) : ev T cf .v (.bc f (.cons a .nil)) r M = bfn f [x] M1 := by
  rw [ev]
  show (((ev T cf .v a r M).bind fun x M1 => .ok (.tup [x]) M1).bind _) = _
  rw [h]
  rfl
theorem ev_cmp {o : CO} {a b : CE} {r : Rho} {M M1 M2 : Mem} {x y : D} (h : ev T cf .v a r M = .ok x M1) (k : ev T cf .v b r M1 = .ok y M2) : ev T cf .v (.cmp o a b) r M = cop o x y M2 := by
  rw [ev]
  show ((ev T cf .v a r M).bind fun x M1 => (ev T cf .v b r M1).bind fun y M2 => cop o x y M2) = _
  rw [h, bind_ok, k, bind_ok]
theorem ev_ix {a b : CE} {r : Rho} {M M1 M2 : Mem} {x y : D} (h : ev T cf .v a r M = .ok x M1) (k : ev T cf .v b r M1 = .ok y M2) : ev T cf .v (.ix a b) r M = ixf x y M2 := by
  rw [ev]
  show ((ev T cf .v a r M).bind fun x M1 => (ev T cf .v b r M1).bind fun y M2 => ixf x y M2) = _
  rw [h, bind_ok, k, bind_ok]
theorem ev_or2F {a b : CE} {r : Rho} {M : Mem} (h1 : ev T cf .v a r M = .ok (.bl false) M) (h2 : ev T cf .v b r M = .ok (.bl false) M) : ev T cf .v (.or (.cons a (.cons b .nil))) r M = .ok (.bl false) M := by
  simp only [ev, h1, h2, Res.bind, CE.isNil, Bool.false_eq_true, if_false, if_true]
theorem ev_or2T {a b : CE} {r : Rho} {M : Mem} (h1 : ev T cf .v a r M = .ok (.bl true) M) : ev T cf .v (.or (.cons a (.cons b .nil))) r M = .ok (.bl true) M := by
  simp only [ev, h1, Res.bind, CE.isNil, Bool.false_eq_true, if_false, if_true]
theorem ev_or2R {a b : CE} {r : Rho} {M : Mem} {c : Bool} (h1 : ev T cf .v a r M = .ok (.bl false) M) (h2 : ev T cf .v b r M = .ok (.bl c) M) : ev T cf .v (.or (.cons a (.cons b .nil))) r M = .ok (.bl c) M := by
  simp only [ev, h1, h2, Res.bind, CE.isNil, Bool.false_eq_true, if_false, if_true]
theorem ev_not {a : CE} {r : Rho} {M M1 : Mem} {b : Bool} (h : ev T cf .v a r M = .ok (.bl b) M1) : ev T cf .v (.not a) r M = .ok (.bl (!b)) M1 := by
  simp only [ev, h, Res.bind]
theorem ev_range {i p : Nat} {r : Rho} {M : Mem} (hp : p ≤ lim) (h : r[i]? = some (some (.int (p : Int)))) : ev T cf .s (.itr (.var i)) r M = .ok (.tup (rangeD (p : Int))) M := by
  have hc : ((p : Nat) : Int) ≤ ((lim : Nat) : Int) ∧ -(2 ^ 62) ≤ ((p : Nat) : Int) := ⟨Int.ofNat_le.mpr hp, by omega⟩
  simp only [ev, h, Res.bind]
  rw [if_pos hc]
theorem ev_var {i : Nat} {r : Rho} {M : Mem} {d : D} (h : r[i]? = some (some d)) : ev T cf .v (.var i) r M = .ok d M := by
  simp only [ev, h]
end
theorem cop_ne_lst (M : Mem) (xs ys : List Int) : cop .ne (.lst (dI xs)) (.lst (dI ys)) M = .ok (.bl (!decide (xs = ys))) M := by
  simp only [cop, cmpB, eqB_lst]
theorem cop_eq_lst (M : Mem) (xs ys : List Int) : cop .eq (.lst (dI xs)) (.lst (dI ys)) M = .ok (.bl (decide (xs = ys))) M := by
  simp only [cop, cmpB, eqB_lst]
theorem cop_eq_int (M : Mem) (x y : Int) : cop .eq (.int x) (.int y) M = .ok (.bl (decide (x = y))) M := by
  simp only [cop, cmpB, eqB_int]
theorem cop_ne_int (M : Mem) (x y : Int) : cop .ne (.int x) (.int y) M = .ok (.bl (!decide (x = y))) M := by
  simp only [cop, cmpB, eqB_int]
theorem cop_ne_same (M : Mem) (xs : List Int) : cop .ne (.tup (dI xs)) (.tup (dI xs)) M = .ok (.bl false) M := by
  rw [cop_ne_tup, decide_eq_true rfl]
  rfl
/-- lists of tables, one and the same -/
theorem toPs_tups : ∀ ts : List (List Int), toPs (ts.map fun t => .tup (dI t)) = some (ts.map tuI)
  | [] => rfl
  | t :: ts => by
    simp only [List.map_cons, toPs, toP, toPs_ints, toPs_tups ts]
theorem lay_tups : ∀ ts : List (List Int), PyData.canLayAll0 (ts.map tuI) = true ∧ PyData.depthAll (ts.map tuI) ≤ 1
  | [] => ⟨rfl, by decide⟩
  | t :: ts => by
    obtain ⟨h1, h2⟩ := lay_tups ts
    refine ⟨?_, ?_⟩
    · simp only [List.map_cons, PyData.canLayAll0, PyData.canLay0, lay_dI, h1, Bool.and_self]
    · simp only [List.map_cons, PyData.depthAll, PyData.depth, depth_dI]
      omega
theorem eqB_tups (M : Mem) (ts us : List (List Int)) : eqB M (.lst (ts.map fun t => .tup (dI t))) (.lst (us.map fun t => .tup (dI t))) = some (PyData.eqvAll (ts.map tuI) (us.map tuI)) := by
  have sh : ∀ ws : List (List Int), SeqAt.shaped (.list (ws.map tuI)) = true := fun ws => by
    obtain ⟨h1, h2⟩ := lay_tups ws
    unfold SeqAt.shaped
    rw [Bool.and_eq_true]
    refine ⟨by simpa only [PyData.canLay0] using h1, decide_eq_true ?_⟩
    simp only [PyData.depth]
    omega
  simp only [eqB, eqD, datOf, toP, toPs_tups, sh, and_self, if_true, PyData.eqv]
theorem eqvAll_same (ts : List (List Int)) : PyData.eqvAll (ts.map tuI) (ts.map tuI) = true := eqvAll_refl _ (lay_tups ts).1
theorem cop_ne_tups (M : Mem) (ts : List (List Int)) : cop .ne (.lst (ts.map fun t => .tup (dI t))) (.lst (ts.map fun t => .tup (dI t))) M = .ok (.bl false) M := by
  simp only [cop, cmpB, eqB_tups, eqvAll_same, Bool.not_true]
theorem cop_ne_tups_nil (M : Mem) (ts : List (List Int)) : cop .ne (.lst (ts.map fun t => .tup (dI t))) (.lst []) M = .ok (.bl (!decide (ts = []))) M := by
  have h := eqB_tups M ts []
  simp only [List.map_nil] at h
  simp only [cop, cmpB, h]
  cases ts with
  | nil => rfl
  | cons t ts => rfl
/-! ### instances -/
section
variable {T : Tab} {cf : Nat → List D → Mem → Res}
theorem ev_meth {c g : Nat} {f : Str} {o as : CE} {r : Rho} {M M1 M2 : Mem} {y : D} {fs : List (Str × D)} {ds : List D} {p : ICls} (ho : ev T cf .v o r M = .ok y M1) (hi : insOf M1 y = some (c, fs)) (hp : T.icls[c]? = some p) (hm : p.meths.lookup f = some g) (hf : (fs.map (·.1)).contains f = false)
    (hg : g < T.defs.length) (ha : ev T cf .l as r M1 = .ok (.tup ds) M2) : ev T cf .v (.meth c f o as) r M = cf g (y :: ds) M2 := by
  simp only [ev, ho, Res.bind, hi]
  rw [if_pos ⟨trivial, hf⟩, ha]
  simp only [hp, hm]
  rw [if_pos hg]
theorem ev_fld {c : Nat} {f : Str} {o : CE} {r : Rho} {M M1 : Mem} {y d : D} {fs : List (Str × D)} {p : ICls} (ho : ev T cf .v o r M = .ok y M1) (hi : insOf M1 y = some (c, fs)) (hp : T.icls[c]? = some p) (hf : p.flds.contains f = true) (hl : fs.lookup f = some d) : ev T cf .v (.fld f o) r M = .ok d M1 := by
  simp only [ev, ho, Res.bind, hi, hp, hl]
  rw [if_pos hf]
theorem ins_last (M : Mem) (c : Nat) (fs : List (Str × D)) : insOf (M ++ [.ins c fs]) (.ref M.length) = some (c, fs) := by
  have e : (M ++ [Cell.ins c fs])[M.length]? = some (.ins c fs) := by
    rw [List.getElem?_append_right (Nat.le_refl _), Nat.sub_self]
    rfl
  simp only [insOf, e]
theorem set_last1 (M : Mem) (c c' : Cell) : (M ++ [c]).set M.length c' = M ++ [c'] := by
  rw [List.set_append_right _ _ (Nat.le_refl _), Nat.sub_self]
  rfl
/-- o.f = v, o the last of the store -/
theorem ex_fset {c : Nat} {f : Str} {o v : CE} {r : Rho} {M0 M : Mem} {d : D} {fs : List (Str × D)} {p : ICls} (hv : ev T cf .v v r M = .ok d (M0 ++ [.ins c fs])) (ho : ev T cf .v o r (M0 ++ [.ins c fs]) = .ok (.ref M0.length) (M0 ++ [.ins c fs])) (hp : T.icls[c]? = some p) (hf : p.flds.contains f = true)
    (hg : gr d = true) (hl : fs.length < 1000) : ex T cf (.fset o f v) r M = .nx r (M0 ++ [.ins c (putFD f d fs)]) := by
  have e : (M0 ++ [Cell.ins c fs])[M0.length]? = some (.ins c fs) := by
    rw [List.getElem?_append_right (Nat.le_refl _), Nat.sub_self]
    rfl
  simp only [ex, hv, ho, Res.to, e, hp]
  rw [if_pos ⟨hf, hg, hl⟩, set_last1]
theorem ev_make {c : Nat} {as : CE} {r : Rho} {M M1 M2 : Mem} {ds : List D} {p : ICls} (ha : ev T cf .l as r M = .ok (.tup ds) M1) (hp : T.icls[c]? = some p) (hi : p.init < T.defs.length) (hc : cf p.init (.ref M1.length :: ds) (M1 ++ [.ins c []]) = .ok .non M2) :
    ev T cf .v (.make true c as) r M = .ok (.ref M1.length) M2 := by
  simp only [ev, ha, Res.bind, hp]
  rw [if_pos hi, hc]
  rfl
theorem ev_make_xn {m : Bool} {c c1 : Nat} {as : CE} {r : Rho} {M M1 M2 : Mem} {ds fs : List D} {p : ICls} (ha : ev T cf .l as r M = .ok (.tup ds) M1) (hp : T.icls[c]? = some p) (hi : p.init < T.defs.length) (hc : cf p.init (.ref M1.length :: ds) (M1 ++ [.ins c []]) = .exn c1 fs M2) :
    ev T cf .v (.make m c as) r M = .exn c1 fs M2 := by
  simp only [ev, ha, Res.bind, hp]
  rw [if_pos hi, hc]
  rfl
/-- an instance that is told -/
theorem ev_makeT {c : Nat} {as : CE} {r : Rho} {M M1 : Mem} {ds : List D} {p : ICls} {fs : List (Str × D)} (ha : ev T cf .l as r M = .ok (.tup ds) M1) (hp : T.icls[c]? = some p) (hi : p.init < T.defs.length) (hc : cf p.init (.ref M1.length :: ds) (M1 ++ [.ins c []]) = .ok .non (M1 ++ [.ins c fs]))
    (hg : grs (fs.map (·.2)) = true) : ev T cf .v (.make false c as) r M = .ok (.ins c (fs.map (·.1)) (fs.map (·.2))) M1 := by
  have e : (M1 ++ [Cell.ins c fs])[M1.length]? = some (.ins c fs) := by
    rw [List.getElem?_append_right (Nat.le_refl _), Nat.sub_self]
    rfl
  simp only [ev, ha, Res.bind, hp]
  rw [if_pos hi, hc]
  simp only [made, Res.bind, e]
  rw [if_pos ⟨by simp, hg⟩, List.take_left' rfl]
end
/-! ### comprehensions that change the store -/
theorem lc_relg {α : Type} (a : α → D) (I : List α → List D → Mem → Prop) (xs : List α) {tg : D → Option Rho} {el : Rho → Mem → Res} (hl : xs.length ≤ lim)
    (hh : ∀ pre x post ys M, xs = pre ++ x :: post → ys.length = pre.length → I pre ys M → ∃ r, tg (a x) = some r ∧ ∃ y M2, el r M = .ok y M2 ∧ I (pre ++ [x]) (ys ++ [y]) M2) :
    ∀ (rest pre : List α) (n : Nat) (M : Mem) (acc : List D), xs = pre ++ rest → acc.length = pre.length → rest.length < n → I pre acc M → ∃ ys M', lcGo tg (fun _ M => .ok (.bl true) M) el (.fix (xs.map a)) n pre.length M acc = .ok (.lst ys) M' ∧ I xs ys M' ∧ ys.length = xs.length
  | _, pre, 0, M, acc, _, _, hn, _ => by simp at hn
  | [], pre, n + 1, M, acc, e, ha, _, hi => by
    have h : (xs.map a)[pre.length]? = none := by rw [e]; simp
    rw [List.append_nil] at e
    exact ⟨acc, M, by simp [lcGo, Src.at, h], by rw [e]; exact hi, by rw [ha, e]⟩
  | x :: rest, pre, n + 1, M, acc, e, ha, hn, hi => by
    have h : (xs.map a)[pre.length]? = some (a x) := by rw [e]; simp
    obtain ⟨r, h1, y, M2, h2, h3⟩ := hh pre x rest acc M e ha hi
    have hx : acc.length < lim := by
      rw [ha]
      have := congrArg List.length e
      simp at this
      omega
    obtain ⟨ys, M', h4, h5, h6⟩ := lc_relg a I xs hl hh rest (pre ++ [x]) n M2 (acc ++ [y]) (by rw [e, List.append_assoc]; rfl) (by simp [ha]) (by rw [List.length_cons] at hn; omega) h3
    refine ⟨ys, M', ?_, h5, h6⟩
    simp only [lcGo, Src.at, h, h1, Res.bindS, h2]
    rw [if_pos hx]
    rw [show (pre ++ [x]).length = pre.length + 1 by rw [List.length_append]; rfl] at h4
    exact h4
theorem lc_rel {α : Type} (a : α → D) (I : List α → List D → Mem → Prop) (xs : List α) {tg : D → Option Rho} {el : Rho → Mem → Res} {M : Mem} (hl : xs.length ≤ lim)
    (hh : ∀ pre x post ys M, xs = pre ++ x :: post → ys.length = pre.length → I pre ys M → ∃ r, tg (a x) = some r ∧ ∃ y M2, el r M = .ok y M2 ∧ I (pre ++ [x]) (ys ++ [y]) M2) (h0 : I [] [] M) :
    ∃ ys M', lcGo tg (fun _ M => .ok (.bl true) M) el (.fix (xs.map a)) (Src.fix (xs.map a)).fuel 0 M [] = .ok (.lst ys) M' ∧ I xs ys M' ∧ ys.length = xs.length :=
  lc_relg a I xs hl hh xs [] _ M [] rfl rfl (by show xs.length < (xs.map a).length + 1; rw [List.length_map]; omega) h0
theorem enumD_map : ∀ (xs : List Int) (o : Nat), enumD o (dI xs) = (xs.zipIdx o).map fun p => .tup [.int (p.2 : Nat), .int p.1]
  | [], o => rfl
  | x :: xs, o => by
    show D.tup [.int (o : Nat), .int x] :: enumD (o + 1) (dI xs) = _
    rw [enumD_map xs (o + 1)]
    rfl
/-! ### one step at a time -/
section
variable {T : Tab} {cf : Nat → List D → Mem → Res}
theorem ex_seq (a b : CS) (r : Rho) (M : Mem) : ex T cf (.seq a b) r M = (ex T cf a r M).seq fun r1 M1 => ex T cf b r1 M1 := rfl
theorem ex_skip (r : Rho) (M : Mem) : ex T cf .skip r M = .nx r M := rfl
theorem ex_set (i : Nat) (e : CE) (r : Rho) (M : Mem) : ex T cf (.set i e) r M = (ev T cf .v e r M).to r fun d M1 => if i < r.length then .nx (r.set i (some d)) M1 else .stuck := rfl
theorem ex_drop (e : CE) (r : Rho) (M : Mem) : ex T cf (.drop e) r M = (ev T cf .v e r M).to r fun _ M1 => .nx r M1 := rfl
theorem ex_ret (e : CE) (r : Rho) (M : Mem) : ex T cf (.ret e) r M = (ev T cf .v e r M).to r fun d M1 => .rt d M1 := rfl
theorem ex_ite (t : CE) (a b : CS) (r : Rho) (M : Mem) : ex T cf (.ite t a b) r M = (ev T cf .v t r M).to r fun x M1 => match x with
    | .bl true => ex T cf a r M1
    | .bl false => ex T cf b r M1
    | _ => .stuck := rfl
theorem ex_iteT {t : CE} {a b : CS} {r : Rho} {M M1 : Mem} (h : ev T cf .v t r M = .ok (.bl true) M1) : ex T cf (.ite t a b) r M = ex T cf a r M1 := by rw [ex_ite, h]; rfl
theorem ex_iteF {t : CE} {a b : CS} {r : Rho} {M M1 : Mem} (h : ev T cf .v t r M = .ok (.bl false) M1) : ex T cf (.ite t a b) r M = ex T cf b r M1 := by rw [ex_ite, h]; rfl
theorem ex_retE {e : CE} {r : Rho} {M M1 : Mem} {d : D} (h : ev T cf .v e r M = .ok d M1) : ex T cf (.ret e) r M = .rt d M1 := by rw [ex_ret, h]; rfl
theorem ex_setE {i : Nat} {e : CE} {r : Rho} {M M1 : Mem} {d : D} (h : ev T cf .v e r M = .ok d M1) (hi : i < r.length) : ex T cf (.set i e) r M = .nx (r.set i (some d)) M1 := by
  rw [ex_set, h]
  exact if_pos hi
theorem ex_dropE {e : CE} {r : Rho} {M M1 : Mem} {d : D} (h : ev T cf .v e r M = .ok d M1) : ex T cf (.drop e) r M = .nx r M1 := by rw [ex_drop, h]; rfl
theorem ex_dropX {e : CE} {r : Rho} {M M1 : Mem} {c : Nat} {fs : List D} (h : ev T cf .v e r M = .exn c fs M1) : ex T cf (.drop e) r M = .xn c fs r M1 := by rw [ex_drop, h]; rfl
theorem ex_seqN {a b : CS} {r r1 : Rho} {M M1 : Mem} (h : ex T cf a r M = .nx r1 M1) : ex T cf (.seq a b) r M = ex T cf b r1 M1 := by rw [ex_seq, h]; rfl
theorem ex_seqR {a b : CS} {r : Rho} {M M1 : Mem} {d : D} (h : ex T cf a r M = .rt d M1) : ex T cf (.seq a b) r M = .rt d M1 := by rw [ex_seq, h]; rfl
theorem ex_seqX {a b : CS} {r r1 : Rho} {M M1 : Mem} {c : Nat} {fs : List D} (h : ex T cf a r M = .xn c fs r1 M1) : ex T cf (.seq a b) r M = .xn c fs r1 M1 := by rw [ex_seq, h]; rfl
theorem ev_bin (o : BO) (a b : CE) (r : Rho) (M : Mem) : ev T cf .v (.bin o a b) r M = (ev T cf .v a r M).bind fun x M1 => (ev T cf .v b r M1).bind fun y M2 => bop o x y M2 := rfl
theorem ev_binE {o : BO} {a b : CE} {r : Rho} {M M1 M2 : Mem} {x y : D} (h : ev T cf .v a r M = .ok x M1) (k : ev T cf .v b r M1 = .ok y M2) : ev T cf .v (.bin o a b) r M = bop o x y M2 := by
  rw [ev_bin, h]
  show (ev T cf .v b r M1).bind _ = _
  rw [k]
  rfl
theorem ev_iteT {t a b : CE} {r : Rho} {M M1 : Mem} (h : ev T cf .v t r M = .ok (.bl true) M1) : ev T cf .v (.ite t a b) r M = ev T cf .v a r M1 := by simp only [ev, h, Res.bind]
theorem ev_iteF {t a b : CE} {r : Rho} {M M1 : Mem} (h : ev T cf .v t r M = .ok (.bl false) M1) : ev T cf .v (.ite t a b) r M = ev T cf .v b r M1 := by simp only [ev, h, Res.bind]
theorem ev_nil (r : Rho) (M : Mem) : ev T cf .l .nil r M = .ok (.tup []) M := rfl
theorem ev_cons {a b : CE} {r : Rho} {M M1 M2 : Mem} {x : D} {xs : List D} (h : ev T cf .v a r M = .ok x M1) (k : ev T cf .l b r M1 = .ok (.tup xs) M2) : ev T cf .l (.cons a b) r M = .ok (.tup (x :: xs)) M2 := by
  simp only [ev, h, Res.bind, k, consD]
theorem ev_tup {as : CE} {r : Rho} {M : Mem} : ev T cf .v (.tup as) r M = ev T cf .l as r M := rfl
theorem ex_raise {c : Nat} {as : CE} {r : Rho} {M M1 : Mem} {fs : List D} {p : Str × List Str} (h : ev T cf .l as r M = .ok (.tup fs) M1) (hp : T.clss[c]? = some p) (hl : fs.length = p.2.length) (h0 : 0 < fs.length) (h2 : fs.length ≤ 2) : ex T cf (.raise c as) r M = .xn c fs.reverse r M1 := by
  simp only [ex, h, Res.to, hp]
  rw [if_pos ⟨hl, h0, h2⟩]
theorem ev_callE {g : Nat} {as : CE} {r : Rho} {M M1 : Mem} {ds : List D} (h : ev T cf .l as r M = .ok (.tup ds) M1) : ev T cf .v (.call g as) r M = cf g ds M1 := by simp only [ev, h, Res.bind]
theorem ev_callkE {g w : Nat} {as : CE} {r : Rho} {M M1 : Mem} {ds : List D} {d : GDef} {p : List Str × List Nat} (h : ev T cf .l as r M = .ok (.tup ds) M1) (hd : T.defs[g]? = some d) (hk : d.kws[w]? = some p) : ev T cf .v (.callk g w as) r M = cf g (permL p.2 ds) M1 := by
  simp only [ev, h, Res.bind, hd, hk]
theorem ev_bcE {f : BF} {as : CE} {r : Rho} {M M1 : Mem} {ds : List D} (h : ev T cf .l as r M = .ok (.tup ds) M1) : ev T cf .v (.bc f as) r M = bfn f ds M1 := by simp only [ev, h, Res.bind]
end
/-- behind a call: its last cell is let go -/
theorem fin_rtL {M : Mem} {d : D} {c : Cell} (h : gr d = true) (hr : ∀ i, d ≠ .ref i) : Iv.fin false M.length (.rt d (M ++ [c])) = .ok d M := by
  show back false M.length d (M ++ [c]) = _
  unfold back
  rw [if_neg (by simp)]
  cases d <;> first | exact absurd rfl (hr _) | skip
  all_goals
    simp only
    rw [if_pos h]
    simp
theorem fin_xnL {M : Mem} {c : Nat} {fs : List D} {r : Rho} {cl : Cell} (h : grs fs = true) : Iv.fin false M.length (.xn c fs r (M ++ [cl])) = .exn c fs M := by
  show backX M.length c fs (M ++ [cl]) = _
  unfold backX
  rw [if_neg (by simp), if_pos h]
  simp
end Iv

/-! ## K03A -/
namespace K03
open PySem PySem.Spec PyProof.Rows L2 Iv
def top (i : Nat) : Stmt := PySem.Challenge.pw_holegates_k03_tables_and_settings_by_num.main.body.getD i (.Pass ⟨0, 0, 0, 0⟩)
def g0 : GDef := ⟨"is_integer", ["value"], ["value"], [], "is_integer", true⟩
def g1 : GDef := ⟨"is_within", ["value", "least", "most"], ["value", "least", "most"], [], "is_within", true⟩
def g2 : GDef := ⟨"is_sign", ["value"], ["value"], [], "is_sign", true⟩
def g3 : GDef := ⟨"are_signs", ["value"], ["value", "part"], [], "are_signs", true⟩
def g4 : GDef := ⟨"__init__", ["self", "text"], ["self", "text"], [], "Scan.__init__", false⟩
def g5 : GDef := ⟨"is_over", ["self"], ["self"], [], "Scan.is_over", false⟩
def g6 : GDef := ⟨"seen", ["self"], ["self"], [], "Scan.seen", false⟩
def g7 : GDef := ⟨"refuse", ["self"], ["self"], [], "Scan.refuse", false⟩
def g8 : GDef := ⟨"take", ["self"], ["self", "item"], [], "Scan.take", false⟩
def g9 : GDef := ⟨"finish", ["self"], ["self"], [], "Scan.finish", false⟩
def g10 : GDef := ⟨"need_table", ["value", "part"], ["value", "part"], [], "need_table", true⟩
def g11 : GDef := ⟨"need_setting", ["value"], ["value"], [], "need_setting", true⟩
def g12 : GDef := ⟨"places_in", ["table"], ["table"], [], "places_in", true⟩
def g13 : GDef := ⟨"number_in", ["setting"], ["setting", "found", "sign"], [], "number_in", true⟩
def g14 : GDef := ⟨"setting_in", ["places", "row"], ["places", "row", "place"], [], "setting_in", true⟩
def g15 : GDef := ⟨"is_table", ["value"], ["value"], [(["value"], [0])], "is_table", true⟩
def g16 : GDef := ⟨"places_of", ["table"], ["table"], [(["table"], [0])], "places_of", true⟩
def g17 : GDef := ⟨"row_of", ["setting"], ["setting"], [(["setting"], [0])], "row_of", true⟩
def g18 : GDef := ⟨"setting_of", ["places", "row"], ["places", "row"], [(["places", "row"], [0, 1])], "setting_of", true⟩
def g19 : GDef := ⟨"sign_at", ["table", "setting"], ["table", "setting"], [(["table", "setting"], [0, 1])], "sign_at", true⟩
def g20 : GDef := ⟨"table_text", ["table"], ["table", "sign"], [(["table"], [0])], "table_text", true⟩
def g21 : GDef := ⟨"read_table", ["text"], ["text", "scan", "found"], [(["text"], [0])], "read_table", true⟩
def g22 : GDef := ⟨"table_in", ["item"], ["item", "sign"], [], "table_in", true⟩
def g23 : GDef := ⟨"_law_pen", ["script"], ["script", "cell"], [], "_law_pen", true⟩
def g24 : GDef := ⟨"_law_draw", ["pen", "many"], ["pen", "many", "at", "cell", "mixed", "digit", "great"], [], "_law_draw", true⟩
def g25 : GDef := ⟨"_law_pick", ["pen", "some"], ["pen", "some"], [], "_law_pick", true⟩
def g26 : GDef := ⟨"_law_twos", ["many"], ["many", "found", "turn"], [], "_law_twos", true⟩
def g27 : GDef := ⟨"_law_table", ["pen", "places"], ["pen", "places", "way", "share", "rows", "part", "far", "row"], [], "_law_table", true⟩
def g28 : GDef := ⟨"_law_setting", ["places", "row"], ["places", "row", "found", "place"], [], "_law_setting", true⟩
def g29 : GDef := ⟨"_law_number", ["setting"], ["setting", "place", "sign"], [], "_law_number", true⟩
def g30 : GDef := ⟨"_law_table_right", ["pen", "places"], ["pen", "places", "table", "passed", "row", "setting", "text", "bent", "odd", "item", "sign", "at", "value"], [], "_law_table_right", true⟩
def g31 : GDef := ⟨"law", ["script"], ["script", "pen", "lap", "odd", "strange", "heard", "due"], [], "law", true⟩
abbrev n_is_integer : Nat := 0
abbrev n_is_within : Nat := 1
abbrev n_is_sign : Nat := 2
abbrev n_are_signs : Nat := 3
abbrev n_Scan___init__ : Nat := 4
abbrev n_Scan_is_over : Nat := 5
abbrev n_Scan_seen : Nat := 6
abbrev n_Scan_refuse : Nat := 7
abbrev n_Scan_take : Nat := 8
abbrev n_Scan_finish : Nat := 9
abbrev n_need_table : Nat := 10
abbrev n_need_setting : Nat := 11
abbrev n_places_in : Nat := 12
abbrev n_number_in : Nat := 13
abbrev n_setting_in : Nat := 14
abbrev n_is_table : Nat := 15
abbrev n_places_of : Nat := 16
abbrev n_row_of : Nat := 17
abbrev n_setting_of : Nat := 18
abbrev n_sign_at : Nat := 19
abbrev n_table_text : Nat := 20
abbrev n_read_table : Nat := 21
abbrev n_table_in : Nat := 22
abbrev n_law_pen : Nat := 23
abbrev n_law_draw : Nat := 24
abbrev n_law_pick : Nat := 25
abbrev n_law_twos : Nat := 26
abbrev n_law_table : Nat := 27
abbrev n_law_setting : Nat := 28
abbrev n_law_number : Nat := 29
abbrev n_law_table_right : Nat := 30
abbrev n_law : Nat := 31
abbrev c_BadText : Nat := 0
abbrev c_BadTable : Nat := 1
abbrev c_BadNumber : Nat := 2
abbrev c_Misfit : Nat := 3
abbrev k_MOST_PLACES : Nat := 0
abbrev k_SIZES : Nat := 1
abbrev k_SIGN_TEXTS : Nat := 2
abbrev k0 : Int := 8
def SIZES : List Int := [1, 2, 4, 8, 16, 32, 64, 128, 256]
abbrev k1 : List Int := SIZES
def SIGN_TEXTS : List Str := ["0", "1"]
abbrev k2 : List Str := SIGN_TEXTS
def flT : Nat → List Str := fun i => ([["item", "line"], ["part"], ["part"], ["part"]] : List (List Str)).getD i []
def chainT : List (Str × Str × List Str) := [("BadTable", "table", ["part"]), ("BadNumber", "number", ["part"]), ("Misfit", "misfit", ["part"]), ("BadText", "text", ["line", "item"])]
def bsT : Nat → Option (List Bool) := fun i => ([[false, false, false, true], [true, false, false, false], [false, true, false, false], [false, false, true, false]] : List (List Bool))[i]?
def hresT : Nat → List D → Option D := fun c fs => match bsT c with
  | some b => resOf ((flT c).zip fs) chainT b
  | none => none
def tab : Tab := { defs := [g0, g1, g2, g3, g4, g5, g6, g7, g8, g9, g10, g11, g12, g13, g14, g15, g16, g17, g18, g19, g20, g21, g22, g23, g24, g25, g26, g27, g28, g29, g30, g31], cons := [("MOST_PLACES", .int k0), ("SIZES", .tup (k1.map D.int)), ("SIGN_TEXTS", .tup (k2.map D.str))], clss := [("BadText", ["line", "item"]), ("BadTable", ["part"]), ("BadNumber", ["part"]), ("Misfit", ["part"])], icls := [⟨"Scan", n_Scan___init__, [("finish", n_Scan_finish), ("is_over", n_Scan_is_over), ("refuse", n_Scan_refuse), ("seen", n_Scan_seen), ("take", n_Scan_take)], ["items_left", "spot"], [0]⟩], hname := "_law_heard", hres := hresT }
/-- is_integer -/
def b_is_integer : CS := (.seq (.ret (.and (.cons (.bc .isi (.cons (.var 0) (.cons (.tyv .int) .nil))) (.cons (.not (.bc .isi (.cons (.var 0) (.cons (.tyv .bool) .nil)))) .nil))))
  .skip)
abbrev b0 : CS := b_is_integer
/-- is_within -/
def b_is_within : CS := (.seq (.ite (.or (.cons (.not (.call n_is_integer (.cons (.var 0) .nil))) (.cons (.and (.cons (.cmp .nisn (.var 1) .non) (.cons (.cmp .lt (.var 0) (.var 1)) .nil))) .nil))) (.seq (.ret (.bl false))
  .skip) .skip)
  (.seq (.ret (.or (.cons (.cmp .isn (.var 2) .non) (.cons (.cmp .le (.var 0) (.var 2)) .nil))))
  .skip))
abbrev b1 : CS := b_is_within
/-- is_sign -/
def b_is_sign : CS := (.seq (.ret (.call n_is_within (.cons (.var 0) (.cons (.int 0) (.cons (.int 1) .nil)))))
  .skip)
abbrev b2 : CS := b_is_sign
/-- are_signs -/
def b_are_signs : CS := (.seq (.ret (.and (.cons (.bc .isi (.cons (.var 0) (.cons (.tup (.cons (.tyv .list) (.cons (.tyv .tuple) .nil))) .nil))) (.cons (.bc .all (.cons (.lc false [1] (.nm 1) (.itv (.var 0)) .nil (.call n_is_sign (.cons (.var 1) .nil))) .nil)) .nil))))
  .skip)
abbrev b3 : CS := b_are_signs
/-- Scan.__init__ -/
def b_Scan___init__ : CS := (.seq (.ite (.not (.bc .isi (.cons (.var 1) (.cons (.tyv .str) .nil)))) (.seq (.raise 0 (.cons (.int 0) (.cons (.int 0) .nil)))
  .skip) .skip)
  (.seq (.fset (.var 0) "items_left" (.sm (.split false) (.var 1) (.cons (.str " ") .nil)))
  (.seq (.fset (.var 0) "spot" (.int 0))
  .skip)))
abbrev b4 : CS := b_Scan___init__
/-- Scan.is_over -/
def b_Scan_is_over : CS := (.seq (.ret (.cmp .eq (.fld "spot" (.var 0)) (.bc .len (.cons (.fld "items_left" (.var 0)) .nil))))
  .skip)
abbrev b5 : CS := b_Scan_is_over
/-- Scan.seen -/
def b_Scan_seen : CS := (.seq (.ret (.ite (.meth 0 "is_over" (.var 0) .nil) .non (.ix (.fld "items_left" (.var 0)) (.fld "spot" (.var 0)))))
  .skip)
abbrev b6 : CS := b_Scan_seen
/-- Scan.refuse -/
def b_Scan_refuse : CS := (.seq (.raise 0 (.cons (.int 0) (.cons (.fld "spot" (.var 0)) .nil)))
  .skip)
abbrev b7 : CS := b_Scan_refuse
/-- Scan.take -/
def b_Scan_take : CS := (.seq (.set 1 (.meth 0 "seen" (.var 0) .nil))
  (.seq (.ite (.cmp .isn (.var 1) .non) (.seq (.drop (.meth 0 "refuse" (.var 0) .nil))
  .skip) .skip)
  (.seq (.fset (.var 0) "spot" (.bin .add (.fld "spot" (.var 0)) (.int 1)))
  (.seq (.ret (.var 1))
  .skip))))
abbrev b8 : CS := b_Scan_take
/-- Scan.finish -/
def b_Scan_finish : CS := (.seq (.ite (.not (.meth 0 "is_over" (.var 0) .nil)) (.seq (.drop (.meth 0 "refuse" (.var 0) .nil))
  .skip) .skip)
  .skip)
abbrev b9 : CS := b_Scan_finish
/-- need_table -/
def b_need_table : CS := (.seq (.ite (.not (.call n_is_table (.cons (.var 0) .nil))) (.seq (.raise 1 (.cons (.var 1) .nil))
  .skip) .skip)
  .skip)
abbrev b10 : CS := b_need_table
/-- need_setting -/
def b_need_setting : CS := (.seq (.ite (.or (.cons (.not (.call n_are_signs (.cons (.var 0) .nil))) (.cons (.cmp .gt (.bc .len (.cons (.var 0) .nil)) (.con 0)) .nil))) (.seq (.raise 2 (.cons (.str "setting") .nil))
  .skip) .skip)
  .skip)
abbrev b11 : CS := b_need_setting
/-- places_in -/
def b_places_in : CS := (.seq (.ret (.cidx 1 (.cons (.bc .len (.cons (.var 0) .nil)) .nil)))
  .skip)
abbrev b12 : CS := b_places_in
/-- number_in -/
def l_number_in_0 : CS := (.seq (.set 1 (.bin .add (.bin .mul (.int 2) (.var 1)) (.var 2)))
  .skip)
def b_number_in : CS := (.seq (.set 1 (.int 0))
  (.seq (.for_ (.nm 2) (.itv (.var 0)) l_number_in_0)
  (.seq (.ret (.var 1))
  .skip)))
abbrev b13 : CS := b_number_in
/-- setting_in -/
def b_setting_in : CS := (.seq (.ret (.bc .tuple (.cons (.lc false [2] (.nm 2) (.itr (.var 0)) .nil (.bin .band (.bin .shr (.var 1) (.bin .sub (.bin .sub (.var 0) (.int 1)) (.var 2))) (.int 1))) .nil)))
  .skip)
abbrev b14 : CS := b_setting_in
/-- is_table -/
def b_is_table : CS := (.seq (.ret (.and (.cons (.call n_are_signs (.cons (.var 0) .nil)) (.cons (.cmp .mem (.bc .len (.cons (.var 0) .nil)) (.con 1)) .nil))))
  .skip)
abbrev b15 : CS := b_is_table
/-- places_of -/
def b_places_of : CS := (.seq (.drop (.call n_need_table (.cons (.var 0) (.cons (.str "table") .nil))))
  (.seq (.ret (.call n_places_in (.cons (.var 0) .nil)))
  .skip))
abbrev b16 : CS := b_places_of
/-- row_of -/
def b_row_of : CS := (.seq (.drop (.call n_need_setting (.cons (.var 0) .nil)))
  (.seq (.ret (.call n_number_in (.cons (.var 0) .nil)))
  .skip))
abbrev b17 : CS := b_row_of
/-- setting_of -/
def b_setting_of : CS := (.seq (.ite (.not (.call n_is_within (.cons (.var 0) (.cons (.int 0) (.cons (.con 0) .nil))))) (.seq (.raise 2 (.cons (.str "places") .nil))
  .skip) .skip)
  (.seq (.ite (.not (.call n_is_within (.cons (.var 1) (.cons (.int 0) (.cons (.bin .sub (.bin .shl (.int 1) (.var 0)) (.int 1)) .nil))))) (.seq (.raise 2 (.cons (.str "row") .nil))
  .skip) .skip)
  (.seq (.ret (.call n_setting_in (.cons (.var 0) (.cons (.var 1) .nil))))
  .skip)))
abbrev b18 : CS := b_setting_of
/-- sign_at -/
def b_sign_at : CS := (.seq (.drop (.call n_need_table (.cons (.var 0) (.cons (.str "table") .nil))))
  (.seq (.drop (.call n_need_setting (.cons (.var 1) .nil)))
  (.seq (.ite (.cmp .ne (.bc .len (.cons (.var 0) .nil)) (.bin .shl (.int 1) (.bc .len (.cons (.var 1) .nil)))) (.seq (.raise 3 (.cons (.str "places") .nil))
  .skip) .skip)
  (.seq (.ret (.ix (.var 0) (.call n_number_in (.cons (.var 1) .nil))))
  .skip))))
abbrev b19 : CS := b_sign_at
/-- table_text -/
def b_table_text : CS := (.seq (.drop (.call n_need_table (.cons (.var 0) (.cons (.str "table") .nil))))
  (.seq (.ret (.sm .join (.str "") (.cons (.lc false [1] (.nm 1) (.itv (.var 0)) .nil (.bc .str (.cons (.var 1) .nil))) .nil)))
  .skip))
abbrev b20 : CS := b_table_text
/-- read_table -/
def t_read_table_1_0 : CS := .seq (.drop (.meth 0 "refuse" (.var 1) .nil)) .skip
def t_read_table_0_5 : CS := .seq (.ret (.var 2)) .skip
def t_read_table_0_4 : CS := .seq (.drop (.meth 0 "finish" (.var 1) .nil)) t_read_table_0_5
def t_read_table_0_3 : CS := .seq (.drop (.meth 0 "take" (.var 1) .nil)) t_read_table_0_4
def t_read_table_0_2 : CS := .seq (.ite (.cmp .isn (.var 2) .non) t_read_table_1_0 .skip) t_read_table_0_3
def t_read_table_0_1 : CS := .seq (.set 2 (.call n_table_in (.cons (.meth 0 "seen" (.var 1) .nil) .nil))) t_read_table_0_2
def t_read_table_0_0 : CS := .seq (.set 1 (.make true 0 (.cons (.var 0) .nil))) t_read_table_0_1
def b_read_table : CS := t_read_table_0_0
abbrev b21 : CS := b_read_table
/-- table_in -/
def b_table_in : CS := (.seq (.ite (.or (.cons (.cmp .nmem (.bc .len (.cons (.var 0) .nil)) (.con 1)) (.cons (.not (.bc .all (.cons (.lc false [1] (.nm 1) (.itv (.var 0)) .nil (.cmp .mem (.var 1) (.con 2))) .nil))) .nil))) (.seq (.ret .non)
  .skip) .skip)
  (.seq (.ret (.bc .tuple (.cons (.lc false [1] (.nm 1) (.itv (.var 0)) .nil (.bc .int (.cons (.var 1) .nil))) .nil)))
  .skip))
abbrev b22 : CS := b_table_in
/-- _law_pen -/
def b_law_pen : CS := (.seq (.ret (.lst true (.cons (.lc false [1] (.nm 1) (.itv (.sl (.var 0) .non (.int 60))) .nil (.bc .int (.cons (.var 1) .nil))) (.cons (.int 0) (.cons (.int 0) .nil)))))
  .skip)
abbrev b23 : CS := b_law_pen
/-- _law_draw -/
def t_law_draw_1_2 : CS := .seq (.ret (.var 5)) .skip
def t_law_draw_1_1 : CS := .seq (.sub (.var 0) (.int 2) (.bin .fdiv (.bc .int (.cons (.ix (.var 0) (.int 2)) .nil)) (.var 1))) t_law_draw_1_2
def t_law_draw_1_0 : CS := .seq (.set 5 (.bin .mod (.bc .int (.cons (.ix (.var 0) (.int 2)) .nil)) (.var 1))) t_law_draw_1_1
def t_law_draw_3_0 : CS := .seq (.set 3 (.ix (.ix (.var 0) (.int 0)) (.bin .mod (.bc .int (.cons (.var 2) .nil)) (.bc .len (.cons (.ix (.var 0) (.int 0)) .nil))))) .skip
def t_law_draw_5_2 : CS := .seq (.ret (.bin .mod (.bc .int (.cons (.var 6) .nil)) (.var 1))) .skip
def t_law_draw_5_1 : CS := .seq (.sub (.var 0) (.int 2) (.bin .fdiv (.bc .int (.cons (.var 6) .nil)) (.var 1))) t_law_draw_5_2
def t_law_draw_5_0 : CS := .seq (.set 6 (.bin .add (.bin .mul (.int 2) (.bin .sub (.bc .abs (.cons (.var 3) .nil)) (.bin .pow (.int 10) (.int 18)))) (.bc .int (.cons (.cmp .lt (.var 3) (.int 0)) .nil)))) t_law_draw_5_1
def t_law_draw_0_8 : CS := .seq (.ret (.bin .mod (.bc .int (.cons (.bin .fdiv (.var 4) (.int 64)) .nil)) (.var 1))) .skip
def t_law_draw_0_7 : CS := .seq (.set 4 (.bin .mod (.bc .int (.cons (.bin .pow (.bin .add (.bin .add (.bin .mul (.var 4) (.bin .add (.bin .mul (.int 2) (.var 2)) (.int 2239))) (.bin .mul (.bin .mul (.int 58031) (.var 2)) (.var 2))) (.int 4231)) (.int 3)) .nil)) (.int 2147483647))) t_law_draw_0_8
def t_law_draw_0_6 : CS := .seq (.set 4 (.bin .mod (.bc .int (.cons (.bin .pow (.bin .add (.bin .add (.bin .mod (.bc .int (.cons (.var 3) .nil)) (.int 2147483549)) (.bin .mul (.int 81401) (.var 2))) (.int 4231)) (.int 5)) .nil)) (.int 2147483629))) t_law_draw_0_7
def t_law_draw_0_5 : CS := .seq (.ite (.and (.cons (.cmp .lt (.var 2) (.bc .len (.cons (.ix (.var 0) (.int 0)) .nil))) (.cons (.cmp .ge (.bc .abs (.cons (.var 3) .nil)) (.bin .pow (.int 10) (.int 18))) .nil))) t_law_draw_5_0 .skip) t_law_draw_0_6
def t_law_draw_0_4 : CS := .seq (.ite (.cmp .ne (.ix (.var 0) (.int 0)) (.lst false .nil)) t_law_draw_3_0 .skip) t_law_draw_0_5
def t_law_draw_0_3 : CS := .seq (.set 3 (.bin .add (.bin .mul (.int 81401) (.var 2)) (.int 4231))) t_law_draw_0_4
def t_law_draw_0_2 : CS := .seq (.sub (.var 0) (.int 1) (.bin .add (.var 2) (.int 1))) t_law_draw_0_3
def t_law_draw_0_1 : CS := .seq (.set 2 (.ix (.var 0) (.int 1))) t_law_draw_0_2
def t_law_draw_0_0 : CS := .seq (.ite (.cmp .gt (.ix (.var 0) (.int 2)) (.int 0)) t_law_draw_1_0 .skip) t_law_draw_0_1
def b_law_draw : CS := t_law_draw_0_0
abbrev b24 : CS := b_law_draw
/-- _law_pick -/
def b_law_pick : CS := (.seq (.ret (.ix (.var 1) (.call n_law_draw (.cons (.var 0) (.cons (.bc .len (.cons (.var 1) .nil)) .nil)))))
  .skip)
abbrev b25 : CS := b_law_pick
/-- _law_twos -/
def l_law_twos_0 : CS := (.seq (.set 1 (.bin .mul (.int 2) (.var 1)))
  .skip)
def b_law_twos : CS := (.seq (.set 1 (.int 1))
  (.seq (.for_ (.nm 2) (.itr (.var 0)) l_law_twos_0)
  (.seq (.ret (.var 1))
  .skip)))
abbrev b26 : CS := b_law_twos
/-- _law_table -/
def t_law_table_1_2 : CS := .seq (.ret (.bc .tuple (.cons (.lc false [7] (.nm 7) (.itv (.var 4)) .nil (.ix (.var 5) (.call n_law_number (.cons (.bin .add (.sl (.var 7) .non (.var 6)) (.sl (.var 7) (.bin .add (.var 6) (.int 1)) .non)) .nil)))) .nil))) .skip
def t_law_table_1_1 : CS := .seq (.set 4 (.lc false [7] (.nm 7) (.itr (.call n_law_twos (.cons (.var 1) .nil))) .nil (.call n_law_setting (.cons (.var 1) (.cons (.var 7) .nil))))) t_law_table_1_2
def t_law_table_1_0 : CS := .seq (.asg (.tp (.cons (.nm 5) (.cons (.nm 6) .nil))) (.tup (.cons (.call n_law_table (.cons (.var 0) (.cons (.bin .sub (.var 1) (.int 1)) .nil))) (.cons (.call n_law_draw (.cons (.var 0) (.cons (.var 1) .nil))) .nil)))) t_law_table_1_1
def t_law_table_0_3 : CS := .seq (.ret (.bc .tuple (.cons (.lc false [7] (.nm 7) (.itr (.call n_law_twos (.cons (.var 1) .nil))) .nil (.bc .int (.cons (.cmp .eq (.call n_law_draw (.cons (.var 0) (.cons (.var 3) .nil))) (.int 0)) .nil))) .nil))) .skip
def t_law_table_0_2 : CS := .seq (.set 3 (.call n_law_pick (.cons (.var 0) (.cons (.lst false (.cons (.int 2) (.cons (.int 2) (.cons (.int 3) (.cons (.int 7) .nil))))) .nil)))) t_law_table_0_3
def t_law_table_0_1 : CS := .seq (.ite (.and (.cons (.cmp .eq (.var 2) (.int 0)) (.cons (.cmp .gt (.var 1) (.int 0)) .nil))) t_law_table_1_0 .skip) t_law_table_0_2
def t_law_table_0_0 : CS := .seq (.set 2 (.call n_law_draw (.cons (.var 0) (.cons (.int 4) .nil)))) t_law_table_0_1
def b_law_table : CS := t_law_table_0_0
abbrev b27 : CS := b_law_table
/-- _law_setting -/
def l_law_setting_0 : CS := (.seq (.set 2 (.bin .add (.lst false (.cons (.bin .mod (.bc .int (.cons (.var 1) .nil)) (.int 2)) .nil)) (.var 2)))
  (.seq (.set 1 (.bin .fdiv (.bc .int (.cons (.var 1) .nil)) (.int 2)))
  .skip))
def b_law_setting : CS := (.seq (.set 2 (.lst false .nil))
  (.seq (.for_ (.nm 3) (.itr (.var 0)) l_law_setting_0)
  (.seq (.ret (.var 2))
  .skip)))
abbrev b28 : CS := b_law_setting
/-- _law_number -/
def b_law_number : CS := (.seq (.ret (.bc .sum (.cons (.lc false [1, 2] (.tp (.cons (.nm 1) (.cons (.nm 2) .nil))) (.ite2 (.var 0)) .nil (.bin .mul (.var 2) (.call n_law_twos (.cons (.bin .sub (.bin .sub (.bc .len (.cons (.var 0) .nil)) (.int 1)) (.var 1)) .nil)))) .nil)))
  .skip)
abbrev b29 : CS := b_law_number
/-- _law_table_right -/
def t_law_table_right_1_0 : CS := .seq (.ret (.bl false)) .skip
def t_law_table_right_3_0 : CS := .seq (.ret (.bl false)) .skip
def t_law_table_right_5_0 : CS := .seq (.ret (.bl false)) .skip
def t_law_table_right_7_0 : CS := .seq (.ret (.bl false)) .skip
def t_law_table_right_10_0 : CS := .seq (.ret (.bl false)) .skip
def t_law_table_right_9_0 : CS := .seq (.ite (.cmp .ne (.heard (.call n_read_table (.cons (.var 9) .nil))) (.tup (.cons (.str "text") (.cons (.int 0) (.cons (.int 0) .nil))))) t_law_table_right_10_0 .skip) .skip
def l_law_table_right_0 : CS := t_law_table_right_9_0
def t_law_table_right_0_12 : CS := .seq (.ret (.cmp .eq (.heard (.call n_read_table (.cons (.bin .add (.bin .add (.var 6) (.str " ")) (.var 6)) .nil))) (.tup (.cons (.str "text") (.cons (.int 0) (.cons (.int 1) .nil)))))) .skip
def t_law_table_right_0_11 : CS := .seq (.for_ (.nm 9) (.itv (.tup (.cons (.bin .add (.var 6) (.str "2")) (.cons (.bin .add (.bin .add (.var 6) (.bin .mul (.str "0") (.call n_law_twos (.cons (.var 1) .nil)))) (.str "1")) (.cons (.bin .add (.str "2") (.sl (.var 6) (.int 1) .non)) (.cons (.bin .add (.sl (.var 6) .non (.neg (.int 1))) (.str "-")) (.cons (.str "") .nil))))))) l_law_table_right_0) t_law_table_right_0_12
def t_law_table_right_0_10 : CS := .seq (.ite (.cmp .ne (.lc false [12] (.nm 12) (.itv (.var 8)) (.cmp .nisn (.call n_is_table (.cons (.var 12) .nil)) (.bl false)) (.var 12)) (.lst false .nil)) t_law_table_right_7_0 .skip) t_law_table_right_0_11
def t_law_table_right_0_9 : CS := .seq (.set 8 (.lst false (.cons (.var 7) (.cons (.bin .add (.bc (.list false) (.cons (.var 2) .nil)) (.lst false (.cons (.int 0) (.cons (.int 1) (.cons (.int 0) (.cons (.int 1) (.cons (.int 1) .nil))))))) (.cons (.var 6) (.cons .non (.cons (.int 5) (.cons (.dic 0 1) (.cons (.lst false .nil) (.cons (.rep false (.bc (.list false) (.cons (.var 2) .nil)) (.int 3)) .nil)))))))))) t_law_table_right_0_10
def t_law_table_right_0_8 : CS := .seq (.set 7 (.lc false [11, 10] (.tp (.cons (.nm 11) (.cons (.nm 10) .nil))) (.ite2 (.var 2)) .nil (.ite (.cmp .eq (.var 11) (.var 4)) (.call n_law_pick (.cons (.var 0) (.cons (.lst false (.cons (.bl true) (.cons (.int 2) (.cons (.neg (.int 1)) (.cons .non (.cons (.str "1") (.cons (.lst false (.cons (.int 0) .nil)) (.cons (.bin .sub (.int 1) (.bin .pow (.int 10) (.int 30))) .nil)))))))) .nil))) (.var 10)))) t_law_table_right_0_9
def t_law_table_right_0_7 : CS := .seq (.ite (.or (.cons (.cmp .ne (.callk n_sign_at 0 (.cons (.var 3) (.cons (.var 5) .nil))) (.ix (.var 2) (.var 4))) (.cons (.cmp .ne (.callk n_table_text 0 (.cons (.var 3) .nil)) (.var 6)) (.cons (.cmp .ne (.bc .repr (.cons (.callk n_read_table 0 (.cons (.var 6) .nil)) .nil)) (.bc .repr (.cons (.var 2) .nil))) .nil)))) t_law_table_right_5_0 .skip) t_law_table_right_0_8
def t_law_table_right_0_6 : CS := .seq (.set 6 (.sm .join (.str "") (.cons (.lc false [10] (.nm 10) (.itv (.var 2)) .nil (.bc .str (.cons (.var 10) .nil))) .nil))) t_law_table_right_0_7
def t_law_table_right_0_5 : CS := .seq (.ite (.or (.cons (.cmp .ne (.callk n_row_of 0 (.cons (.var 5) .nil)) (.var 4)) (.cons (.cmp .ne (.call n_row_of (.cons (.bc .tuple (.cons (.var 5) .nil)) .nil)) (.var 4)) (.cons (.cmp .ne (.callk n_setting_of 0 (.cons (.var 1) (.cons (.var 4) .nil))) (.bc .tuple (.cons (.var 5) .nil))) .nil)))) t_law_table_right_3_0 .skip) t_law_table_right_0_6
def t_law_table_right_0_4 : CS := .seq (.set 5 (.call n_law_setting (.cons (.var 1) (.cons (.var 4) .nil)))) t_law_table_right_0_5
def t_law_table_right_0_3 : CS := .seq (.set 4 (.call n_law_draw (.cons (.var 0) (.cons (.call n_law_twos (.cons (.var 1) .nil)) .nil)))) t_law_table_right_0_4
def t_law_table_right_0_2 : CS := .seq (.ite (.or (.cons (.cmp .nisn (.call n_is_table (.cons (.var 2) .nil)) (.bl true)) (.cons (.cmp .nisn (.callk n_is_table 0 (.cons (.var 3) .nil)) (.bl true)) (.cons (.cmp .ne (.callk n_places_of 0 (.cons (.var 3) .nil)) (.var 1)) (.cons (.cmp .ne (.var 3) (.bc (.list false) (.cons (.var 2) .nil))) .nil))))) t_law_table_right_1_0 .skip) t_law_table_right_0_3
def t_law_table_right_0_1 : CS := .seq (.set 3 (.bc (.list false) (.cons (.var 2) .nil))) t_law_table_right_0_2
def t_law_table_right_0_0 : CS := .seq (.set 2 (.call n_law_table (.cons (.var 0) (.cons (.var 1) .nil)))) t_law_table_right_0_1
def b_law_table_right : CS := t_law_table_right_0_0
abbrev b30 : CS := b_law_table_right
/-- law -/
def t_law_2_0 : CS := .seq (.ret (.bl false)) .skip
def t_law_1_0 : CS := .seq (.ite (.not (.call n_law_table_right (.cons (.var 1) (.cons (.call n_law_pick (.cons (.var 1) (.cons (.lst false (.cons (.int 2) (.cons (.int 3) (.cons (.int 1) (.cons (.int 0) (.cons (.int 4) (.cons (.int 5) (.cons (.int 8) (.cons (.int 6) .nil))))))))) .nil))) .nil)))) t_law_2_0 .skip) .skip
def l_law_0 : CS := t_law_1_0
def t_law_0_14 : CS := .seq (.ret (.and (.cons (.cmp .eq (.var 5) (.bin .add (.var 6) (.lst false (.cons (.tup (.cons (.str "number") (.cons (.str "places") .nil))) (.cons (.tup (.cons (.str "number") (.cons (.str "row") .nil))) (.cons (.tup (.cons (.str "text") (.cons (.int 0) (.cons (.int 0) .nil)))) .nil)))))) (.cons (.cmp .eq (.call n_setting_of (.cons (.int 0) (.cons (.int 0) .nil))) (.tup .nil)) (.cons (.cmp .eq (.call n_row_of (.cons (.lst false .nil) .nil)) (.int 0)) .nil))))) .skip
def t_law_0_13 : CS := .seq (.set 6 (.lst false (.cons (.tup (.cons (.str "table") (.cons (.str "table") .nil))) (.cons (.tup (.cons (.str "table") (.cons (.str "table") .nil))) (.cons (.tup (.cons (.str "number") (.cons (.str "setting") .nil))) (.cons (.tup (.cons (.str "misfit") (.cons (.str "places") .nil))) (.cons (.tup (.cons (.str "table") (.cons (.str "table") .nil))) (.cons (.tup (.cons (.str "number") (.cons (.str "setting") .nil))) .nil)))))))) t_law_0_14
def t_law_0_12 : CS := .seq (.drop (.bm .append (.var 5) (.cons (.heard (.call n_read_table (.cons (.call n_law_pick (.cons (.var 1) (.cons (.lst false (.cons .non (.cons (.int 5) (.cons (.lst false (.cons (.int 0) (.cons (.int 1) .nil))) (.cons (.tup (.cons (.int 0) (.cons (.int 1) .nil))) (.cons (.bl true) .nil)))))) .nil))) .nil))) .nil))) t_law_0_13
def t_law_0_11 : CS := .seq (.drop (.bm .append (.var 5) (.cons (.heard (.call n_setting_of (.cons (.int 3) (.cons (.call n_law_pick (.cons (.var 1) (.cons (.lst false (.cons (.neg (.int 1)) (.cons (.int 8) (.cons .non (.cons (.bl true) (.cons (.str "2") (.cons (.bin .pow (.int 10) (.int 30)) .nil))))))) .nil))) .nil)))) .nil))) t_law_0_12
def t_law_0_10 : CS := .seq (.drop (.bm .append (.var 5) (.cons (.heard (.call n_setting_of (.cons (.call n_law_pick (.cons (.var 1) (.cons (.lst false (.cons (.neg (.int 1)) (.cons (.int 9) (.cons .non (.cons (.bl true) (.cons (.str "2") .nil)))))) .nil))) (.cons .non .nil)))) .nil))) t_law_0_11
def t_law_0_9 : CS := .seq (.drop (.bm .append (.var 5) (.cons (.heard (.call n_row_of (.cons (.var 4) .nil))) .nil))) t_law_0_10
def t_law_0_8 : CS := .seq (.drop (.bm .append (.var 5) (.cons (.heard (.call n_table_text (.cons (.var 3) .nil))) .nil))) t_law_0_9
def t_law_0_7 : CS := .seq (.drop (.bm .append (.var 5) (.cons (.heard (.call n_sign_at (.cons (.lst false (.cons (.int 0) (.cons (.int 1) .nil))) (.cons (.rep false (.lst false (.cons (.int 0) .nil)) (.call n_law_pick (.cons (.var 1) (.cons (.lst false (.cons (.int 0) (.cons (.int 2) (.cons (.int 8) .nil)))) .nil)))) .nil)))) .nil))) t_law_0_8
def t_law_0_6 : CS := .seq (.drop (.bm .append (.var 5) (.cons (.heard (.call n_sign_at (.cons (.lst false (.cons (.int 0) (.cons (.int 1) .nil))) (.cons (.var 4) .nil)))) .nil))) t_law_0_7
def t_law_0_5 : CS := .seq (.drop (.bm .append (.var 5) (.cons (.heard (.call n_sign_at (.cons (.var 3) (.cons (.var 4) .nil)))) .nil))) t_law_0_6
def t_law_0_4 : CS := .seq (.set 5 (.lst true (.cons (.heard (.call n_places_of (.cons (.var 3) .nil))) .nil))) t_law_0_5
def t_law_0_3 : CS := .seq (.set 4 (.call n_law_pick (.cons (.var 1) (.cons (.lst false (.cons .non (.cons (.int 5) (.cons (.str "01") (.cons (.lst false (.cons (.int 2) .nil)) (.cons (.lst false (.cons (.bl true) .nil)) (.cons (.rep false (.lst false (.cons (.int 0) .nil)) (.int 9)) (.cons (.lst false (.cons (.str "1") .nil)) (.cons (.dic 0 1) .nil))))))))) .nil)))) t_law_0_4
def t_law_0_2 : CS := .seq (.set 3 (.call n_law_pick (.cons (.var 1) (.cons (.lst false (.cons .non (.cons (.int 5) (.cons (.str "01") (.cons (.lst false (.cons (.int 0) (.cons (.int 1) (.cons (.int 1) .nil)))) (.cons (.lst false .nil) (.cons (.lst false (.cons (.int 0) (.cons (.bl true) .nil))) (.cons (.lst false (.cons (.int 2) .nil)) (.cons (.lst false (.cons (.lst false (.cons (.int 0) (.cons (.int 1) .nil))) .nil)) (.cons (.dic 0 1) .nil)))))))))) .nil)))) t_law_0_3
def t_law_0_1 : CS := .seq (.for_ (.nm 2) (.itr (.int 4)) l_law_0) t_law_0_2
def t_law_0_0 : CS := .seq (.set 1 (.call n_law_pen (.cons (.var 0) .nil))) t_law_0_1
def b_law : CS := t_law_0_0
abbrev b31 : CS := b_law
def pds : List PDef := [⟨false, b0⟩, ⟨false, b1⟩, ⟨false, b2⟩, ⟨false, b3⟩, ⟨false, b4⟩, ⟨false, b5⟩, ⟨false, b6⟩, ⟨false, b7⟩, ⟨false, b8⟩, ⟨false, b9⟩, ⟨false, b10⟩, ⟨false, b11⟩, ⟨false, b12⟩, ⟨false, b13⟩, ⟨false, b14⟩, ⟨false, b15⟩, ⟨false, b16⟩, ⟨false, b17⟩, ⟨false, b18⟩, ⟨false, b19⟩, ⟨false, b20⟩, ⟨false, b21⟩, ⟨false, b22⟩, ⟨true, b23⟩, ⟨false, b24⟩, ⟨false, b25⟩, ⟨false, b26⟩, ⟨false, b27⟩, ⟨false, b28⟩, ⟨false, b29⟩, ⟨false, b30⟩, ⟨false, b31⟩]
theorem sc0 : C8.scC g0.N g0.ps (C8.fnScope (top 8)) = true := by decide +kernel
theorem ck0 : chkS g0.N tab b0 true (C8.fnScope (top 8)) (C8.fnBody (top 8)) = true := by decide +kernel
theorem sc1 : C8.scC g1.N g1.ps (C8.fnScope (top 9)) = true := by decide +kernel
theorem ck1 : chkS g1.N tab b1 true (C8.fnScope (top 9)) (C8.fnBody (top 9)) = true := by decide +kernel
theorem sc2 : C8.scC g2.N g2.ps (C8.fnScope (top 10)) = true := by decide +kernel
theorem ck2 : chkS g2.N tab b2 true (C8.fnScope (top 10)) (C8.fnBody (top 10)) = true := by decide +kernel
theorem sc3 : C8.scC g3.N g3.ps (C8.fnScope (top 11)) = true := by decide +kernel
theorem ck3 : chkS g3.N tab b3 true (C8.fnScope (top 11)) (C8.fnBody (top 11)) = true := by decide +kernel
theorem sc4 : C8.scC g4.N g4.ps (C8.fnScope ((C8.clsBody (top 13)).getD 0 (.Pass ⟨0, 0, 0, 0⟩))) = true := by decide +kernel
theorem ck4 : chkS g4.N tab b4 true (C8.fnScope ((C8.clsBody (top 13)).getD 0 (.Pass ⟨0, 0, 0, 0⟩))) (C8.fnBody ((C8.clsBody (top 13)).getD 0 (.Pass ⟨0, 0, 0, 0⟩))) = true := by decide +kernel
theorem sc5 : C8.scC g5.N g5.ps (C8.fnScope ((C8.clsBody (top 13)).getD 1 (.Pass ⟨0, 0, 0, 0⟩))) = true := by decide +kernel
theorem ck5 : chkS g5.N tab b5 true (C8.fnScope ((C8.clsBody (top 13)).getD 1 (.Pass ⟨0, 0, 0, 0⟩))) (C8.fnBody ((C8.clsBody (top 13)).getD 1 (.Pass ⟨0, 0, 0, 0⟩))) = true := by decide +kernel
theorem sc6 : C8.scC g6.N g6.ps (C8.fnScope ((C8.clsBody (top 13)).getD 2 (.Pass ⟨0, 0, 0, 0⟩))) = true := by decide +kernel
theorem ck6 : chkS g6.N tab b6 true (C8.fnScope ((C8.clsBody (top 13)).getD 2 (.Pass ⟨0, 0, 0, 0⟩))) (C8.fnBody ((C8.clsBody (top 13)).getD 2 (.Pass ⟨0, 0, 0, 0⟩))) = true := by decide +kernel
theorem sc7 : C8.scC g7.N g7.ps (C8.fnScope ((C8.clsBody (top 13)).getD 3 (.Pass ⟨0, 0, 0, 0⟩))) = true := by decide +kernel
theorem ck7 : chkS g7.N tab b7 true (C8.fnScope ((C8.clsBody (top 13)).getD 3 (.Pass ⟨0, 0, 0, 0⟩))) (C8.fnBody ((C8.clsBody (top 13)).getD 3 (.Pass ⟨0, 0, 0, 0⟩))) = true := by decide +kernel
theorem sc8 : C8.scC g8.N g8.ps (C8.fnScope ((C8.clsBody (top 13)).getD 5 (.Pass ⟨0, 0, 0, 0⟩))) = true := by decide +kernel
theorem ck8 : chkS g8.N tab b8 true (C8.fnScope ((C8.clsBody (top 13)).getD 5 (.Pass ⟨0, 0, 0, 0⟩))) (C8.fnBody ((C8.clsBody (top 13)).getD 5 (.Pass ⟨0, 0, 0, 0⟩))) = true := by decide +kernel
theorem sc9 : C8.scC g9.N g9.ps (C8.fnScope ((C8.clsBody (top 13)).getD 7 (.Pass ⟨0, 0, 0, 0⟩))) = true := by decide +kernel
theorem ck9 : chkS g9.N tab b9 true (C8.fnScope ((C8.clsBody (top 13)).getD 7 (.Pass ⟨0, 0, 0, 0⟩))) (C8.fnBody ((C8.clsBody (top 13)).getD 7 (.Pass ⟨0, 0, 0, 0⟩))) = true := by decide +kernel
theorem sc10 : C8.scC g10.N g10.ps (C8.fnScope (top 18)) = true := by decide +kernel
theorem ck10 : chkS g10.N tab b10 true (C8.fnScope (top 18)) (C8.fnBody (top 18)) = true := by decide +kernel
theorem sc11 : C8.scC g11.N g11.ps (C8.fnScope (top 19)) = true := by decide +kernel
theorem ck11 : chkS g11.N tab b11 true (C8.fnScope (top 19)) (C8.fnBody (top 19)) = true := by decide +kernel
theorem sc12 : C8.scC g12.N g12.ps (C8.fnScope (top 20)) = true := by decide +kernel
theorem ck12 : chkS g12.N tab b12 true (C8.fnScope (top 20)) (C8.fnBody (top 20)) = true := by decide +kernel
theorem sc13 : C8.scC g13.N g13.ps (C8.fnScope (top 21)) = true := by decide +kernel
theorem ck13 : chkS g13.N tab b13 true (C8.fnScope (top 21)) (C8.fnBody (top 21)) = true := by decide +kernel
theorem sc14 : C8.scC g14.N g14.ps (C8.fnScope (top 22)) = true := by decide +kernel
theorem ck14 : chkS g14.N tab b14 true (C8.fnScope (top 22)) (C8.fnBody (top 22)) = true := by decide +kernel
theorem sc15 : C8.scC g15.N g15.ps (C8.fnScope (top 23)) = true := by decide +kernel
theorem ck15 : chkS g15.N tab b15 true (C8.fnScope (top 23)) (C8.fnBody (top 23)) = true := by decide +kernel
theorem sc16 : C8.scC g16.N g16.ps (C8.fnScope (top 24)) = true := by decide +kernel
theorem ck16 : chkS g16.N tab b16 true (C8.fnScope (top 24)) (C8.fnBody (top 24)) = true := by decide +kernel
theorem sc17 : C8.scC g17.N g17.ps (C8.fnScope (top 25)) = true := by decide +kernel
theorem ck17 : chkS g17.N tab b17 true (C8.fnScope (top 25)) (C8.fnBody (top 25)) = true := by decide +kernel
theorem sc18 : C8.scC g18.N g18.ps (C8.fnScope (top 26)) = true := by decide +kernel
theorem ck18 : chkS g18.N tab b18 true (C8.fnScope (top 26)) (C8.fnBody (top 26)) = true := by decide +kernel
theorem sc19 : C8.scC g19.N g19.ps (C8.fnScope (top 27)) = true := by decide +kernel
theorem ck19 : chkS g19.N tab b19 true (C8.fnScope (top 27)) (C8.fnBody (top 27)) = true := by decide +kernel
theorem sc20 : C8.scC g20.N g20.ps (C8.fnScope (top 28)) = true := by decide +kernel
theorem ck20 : chkS g20.N tab b20 true (C8.fnScope (top 28)) (C8.fnBody (top 28)) = true := by decide +kernel
theorem sc21 : C8.scC g21.N g21.ps (C8.fnScope (top 29)) = true := by decide +kernel
theorem ck21 : chkS g21.N tab b21 true (C8.fnScope (top 29)) (C8.fnBody (top 29)) = true := by decide +kernel
theorem sc22 : C8.scC g22.N g22.ps (C8.fnScope (top 30)) = true := by decide +kernel
theorem ck22 : chkS g22.N tab b22 true (C8.fnScope (top 30)) (C8.fnBody (top 30)) = true := by decide +kernel
theorem sc23 : C8.scC g23.N g23.ps (C8.fnScope (top 32)) = true := by decide +kernel
theorem ck23 : chkS g23.N tab b23 true (C8.fnScope (top 32)) (C8.fnBody (top 32)) = true := by decide +kernel
theorem sc24 : C8.scC g24.N g24.ps (C8.fnScope (top 33)) = true := by decide +kernel
theorem ck24 : chkS g24.N tab b24 true (C8.fnScope (top 33)) (C8.fnBody (top 33)) = true := by decide +kernel
theorem sc25 : C8.scC g25.N g25.ps (C8.fnScope (top 34)) = true := by decide +kernel
theorem ck25 : chkS g25.N tab b25 true (C8.fnScope (top 34)) (C8.fnBody (top 34)) = true := by decide +kernel
theorem sc26 : C8.scC g26.N g26.ps (C8.fnScope (top 35)) = true := by decide +kernel
theorem ck26 : chkS g26.N tab b26 true (C8.fnScope (top 35)) (C8.fnBody (top 35)) = true := by decide +kernel
theorem sc27 : C8.scC g27.N g27.ps (C8.fnScope (top 36)) = true := by decide +kernel
theorem ck27 : chkS g27.N tab b27 true (C8.fnScope (top 36)) (C8.fnBody (top 36)) = true := by decide +kernel
theorem sc28 : C8.scC g28.N g28.ps (C8.fnScope (top 37)) = true := by decide +kernel
theorem ck28 : chkS g28.N tab b28 true (C8.fnScope (top 37)) (C8.fnBody (top 37)) = true := by decide +kernel
theorem sc29 : C8.scC g29.N g29.ps (C8.fnScope (top 38)) = true := by decide +kernel
theorem ck29 : chkS g29.N tab b29 true (C8.fnScope (top 38)) (C8.fnBody (top 38)) = true := by decide +kernel
theorem sc30 : C8.scC g30.N g30.ps (C8.fnScope (top 41)) = true := by decide +kernel
theorem ck30 : chkS g30.N tab b30 true (C8.fnScope (top 41)) (C8.fnBody (top 41)) = true := by decide +kernel
theorem sc31 : C8.scC g31.N g31.ps (C8.fnScope (top 42)) = true := by decide +kernel
theorem ck31 : chkS g31.N tab b31 true (C8.fnScope (top 42)) (C8.fnBody (top 42)) = true := by decide +kernel
theorem u_is_integer (k : Nat) (x0 : D) (M : Mem) : callN tab pds (k + 1) n_is_integer [x0] M = Iv.fin false M.length (ex tab (callN tab pds k) b_is_integer [some x0] M) := rfl
theorem u_is_within (k : Nat) (x0 x1 x2 : D) (M : Mem) : callN tab pds (k + 1) n_is_within [x0, x1, x2] M = Iv.fin false M.length (ex tab (callN tab pds k) b_is_within [some x0, some x1, some x2] M) := rfl
theorem u_is_sign (k : Nat) (x0 : D) (M : Mem) : callN tab pds (k + 1) n_is_sign [x0] M = Iv.fin false M.length (ex tab (callN tab pds k) b_is_sign [some x0] M) := rfl
theorem u_are_signs (k : Nat) (x0 : D) (M : Mem) : callN tab pds (k + 1) n_are_signs [x0] M = Iv.fin false M.length (ex tab (callN tab pds k) b_are_signs [some x0, none] M) := rfl
theorem u_Scan___init__ (k : Nat) (x0 x1 : D) (M : Mem) : callN tab pds (k + 1) n_Scan___init__ [x0, x1] M = Iv.fin false M.length (ex tab (callN tab pds k) b_Scan___init__ [some x0, some x1] M) := rfl
theorem u_Scan_is_over (k : Nat) (x0 : D) (M : Mem) : callN tab pds (k + 1) n_Scan_is_over [x0] M = Iv.fin false M.length (ex tab (callN tab pds k) b_Scan_is_over [some x0] M) := rfl
theorem u_Scan_seen (k : Nat) (x0 : D) (M : Mem) : callN tab pds (k + 1) n_Scan_seen [x0] M = Iv.fin false M.length (ex tab (callN tab pds k) b_Scan_seen [some x0] M) := rfl
theorem u_Scan_refuse (k : Nat) (x0 : D) (M : Mem) : callN tab pds (k + 1) n_Scan_refuse [x0] M = Iv.fin false M.length (ex tab (callN tab pds k) b_Scan_refuse [some x0] M) := rfl
theorem u_Scan_take (k : Nat) (x0 : D) (M : Mem) : callN tab pds (k + 1) n_Scan_take [x0] M = Iv.fin false M.length (ex tab (callN tab pds k) b_Scan_take [some x0, none] M) := rfl
theorem u_Scan_finish (k : Nat) (x0 : D) (M : Mem) : callN tab pds (k + 1) n_Scan_finish [x0] M = Iv.fin false M.length (ex tab (callN tab pds k) b_Scan_finish [some x0] M) := rfl
theorem u_need_table (k : Nat) (x0 x1 : D) (M : Mem) : callN tab pds (k + 1) n_need_table [x0, x1] M = Iv.fin false M.length (ex tab (callN tab pds k) b_need_table [some x0, some x1] M) := rfl
theorem u_need_setting (k : Nat) (x0 : D) (M : Mem) : callN tab pds (k + 1) n_need_setting [x0] M = Iv.fin false M.length (ex tab (callN tab pds k) b_need_setting [some x0] M) := rfl
theorem u_places_in (k : Nat) (x0 : D) (M : Mem) : callN tab pds (k + 1) n_places_in [x0] M = Iv.fin false M.length (ex tab (callN tab pds k) b_places_in [some x0] M) := rfl
theorem u_number_in (k : Nat) (x0 : D) (M : Mem) : callN tab pds (k + 1) n_number_in [x0] M = Iv.fin false M.length (ex tab (callN tab pds k) b_number_in [some x0, none, none] M) := rfl
theorem u_setting_in (k : Nat) (x0 x1 : D) (M : Mem) : callN tab pds (k + 1) n_setting_in [x0, x1] M = Iv.fin false M.length (ex tab (callN tab pds k) b_setting_in [some x0, some x1, none] M) := rfl
theorem u_is_table (k : Nat) (x0 : D) (M : Mem) : callN tab pds (k + 1) n_is_table [x0] M = Iv.fin false M.length (ex tab (callN tab pds k) b_is_table [some x0] M) := rfl
theorem u_places_of (k : Nat) (x0 : D) (M : Mem) : callN tab pds (k + 1) n_places_of [x0] M = Iv.fin false M.length (ex tab (callN tab pds k) b_places_of [some x0] M) := rfl
theorem u_row_of (k : Nat) (x0 : D) (M : Mem) : callN tab pds (k + 1) n_row_of [x0] M = Iv.fin false M.length (ex tab (callN tab pds k) b_row_of [some x0] M) := rfl
theorem u_setting_of (k : Nat) (x0 x1 : D) (M : Mem) : callN tab pds (k + 1) n_setting_of [x0, x1] M = Iv.fin false M.length (ex tab (callN tab pds k) b_setting_of [some x0, some x1] M) := rfl
theorem u_sign_at (k : Nat) (x0 x1 : D) (M : Mem) : callN tab pds (k + 1) n_sign_at [x0, x1] M = Iv.fin false M.length (ex tab (callN tab pds k) b_sign_at [some x0, some x1] M) := rfl
theorem u_table_text (k : Nat) (x0 : D) (M : Mem) : callN tab pds (k + 1) n_table_text [x0] M = Iv.fin false M.length (ex tab (callN tab pds k) b_table_text [some x0, none] M) := rfl
theorem u_read_table (k : Nat) (x0 : D) (M : Mem) : callN tab pds (k + 1) n_read_table [x0] M = Iv.fin false M.length (ex tab (callN tab pds k) b_read_table [some x0, none, none] M) := rfl
theorem u_table_in (k : Nat) (x0 : D) (M : Mem) : callN tab pds (k + 1) n_table_in [x0] M = Iv.fin false M.length (ex tab (callN tab pds k) b_table_in [some x0, none] M) := rfl
theorem u_law_pen (k : Nat) (x0 : D) (M : Mem) : callN tab pds (k + 1) n_law_pen [x0] M = Iv.fin true M.length (ex tab (callN tab pds k) b_law_pen [some x0, none] M) := rfl
theorem u_law_draw (k : Nat) (x0 x1 : D) (M : Mem) : callN tab pds (k + 1) n_law_draw [x0, x1] M = Iv.fin false M.length (ex tab (callN tab pds k) b_law_draw [some x0, some x1, none, none, none, none, none] M) := rfl
theorem u_law_pick (k : Nat) (x0 x1 : D) (M : Mem) : callN tab pds (k + 1) n_law_pick [x0, x1] M = Iv.fin false M.length (ex tab (callN tab pds k) b_law_pick [some x0, some x1] M) := rfl
theorem u_law_twos (k : Nat) (x0 : D) (M : Mem) : callN tab pds (k + 1) n_law_twos [x0] M = Iv.fin false M.length (ex tab (callN tab pds k) b_law_twos [some x0, none, none] M) := rfl
theorem u_law_table (k : Nat) (x0 x1 : D) (M : Mem) : callN tab pds (k + 1) n_law_table [x0, x1] M = Iv.fin false M.length (ex tab (callN tab pds k) b_law_table [some x0, some x1, none, none, none, none, none, none] M) := rfl
theorem u_law_setting (k : Nat) (x0 x1 : D) (M : Mem) : callN tab pds (k + 1) n_law_setting [x0, x1] M = Iv.fin false M.length (ex tab (callN tab pds k) b_law_setting [some x0, some x1, none, none] M) := rfl
theorem u_law_number (k : Nat) (x0 : D) (M : Mem) : callN tab pds (k + 1) n_law_number [x0] M = Iv.fin false M.length (ex tab (callN tab pds k) b_law_number [some x0, none, none] M) := rfl
theorem u_law_table_right (k : Nat) (x0 x1 : D) (M : Mem) : callN tab pds (k + 1) n_law_table_right [x0, x1] M = Iv.fin false M.length (ex tab (callN tab pds k) b_law_table_right [some x0, some x1, none, none, none, none, none, none, none, none, none, none, none] M) := rfl
theorem u_law (k : Nat) (x0 : D) (M : Mem) : callN tab pds (k + 1) n_law [x0] M = Iv.fin false M.length (ex tab (callN tab pds k) b_law [some x0, none, none, none, none, none, none] M) := rfl
end K03

/-! ## K03P -/
namespace K03
open PySem PySem.Spec L2 Iv
abbrev C (k g : Nat) (ds : List D) (M : Mem) : Res := callN tab pds k g ds M
theorem fin_rt {k : Bool} {n : Nat} {d : D} {M : Mem} (h : M.length = n) : Iv.fin k n (.rt d M) = .ok d M := by
  show back k n d M = _
  unfold back
  rw [if_pos (.inr h)]
theorem fin_nx {k : Bool} {n : Nat} {r : Rho} {M : Mem} (h : M.length = n) : Iv.fin k n (.nx r M) = .ok .non M := by
  show back k n .non M = _
  unfold back
  rw [if_pos (.inr h)]
theorem fin_xn {k : Bool} {n c : Nat} {fs : List D} {r : Rho} {M : Mem} (h : M.length = n) : Iv.fin k n (.xn c fs r M) = .exn c fs M := by
  show backX n c fs M = _
  unfold backX
  rw [if_pos h]
theorem filt_true {α : Type} (xs : List α) : xs.filter (fun _ => true) = xs := by simp
abbrev Sg (t : List Int) : Prop := ∀ x ∈ t, x = 0 ∨ x = 1
theorem pow_inj {p q : Nat} (h : 2 ^ p = 2 ^ q) : p = q := by
  rcases Nat.lt_trichotomy p q with z | z | z
  · have := Nat.pow_lt_pow_right (a := 2) (by decide) z
    omega
  · exact z
  · have := Nat.pow_lt_pow_right (a := 2) (by decide) z
    omega
/-! ### any value -/
def tyOk : D → Bool
  | .ref _ => false
  | .sld _ => false
  | .fn _ => false
  | .cls _ => false
  | .ty _ => false
  | .ins _ _ _ => false
  | _ => true
theorem tyOk_some {d : D} (h : tyOk d = true) (M : Mem) : ∃ u, tyOf M d = some u := by
  cases d <;> first | (cases h; done) | exact ⟨_, rfl⟩
/-- the items of a list or tuple that is told -/
def sqD : D → Option (List D)
  | .tup xs => some xs
  | .lst xs => some xs
  | _ => none
def okV (d : D) : Bool := match sqD d with
  | some xs => decide (xs.length ≤ lim) && xs.all tyOk
  | none => tyOk d
theorem sqD_cases {d : D} {xs : List D} (h : sqD d = some xs) : d = .tup xs ∨ d = .lst xs := by
  cases d <;> first | (cases h; done) | skip
  · cases h
    exact .inl rfl
  · cases h
    exact .inr rfl
theorem sqD_seq {d : D} {xs : List D} (h : sqD d = some xs) (M : Mem) : seqOf M d = some xs := by
  rcases sqD_cases h with rfl | rfl <;> rfl
theorem sqD_items {d : D} {xs : List D} (h : sqD d = some xs) (M : Mem) : itemsOf M d = some xs := by
  rcases sqD_cases h with rfl | rfl <;> rfl
theorem itvf_sq {d : D} {xs : List D} (h : sqD d = some xs) (M : Mem) : itvf d M = .ok (.tup xs) M := by
  rcases sqD_cases h with rfl | rfl <;> rfl
theorem okV_ty {d : D} (h : okV d = true) : tyOk d = true := by
  unfold okV at h
  cases e : sqD d with
  | some xs => rcases sqD_cases e with rfl | rfl <;> rfl
  | none =>
    rw [e] at h
    exact h
def isIntD : D → Bool
  | .int _ => true
  | _ => false
theorem isInt_ty {d : D} {u : Ty} {M : Mem} (h : tyOf M d = some u) : isIntD d = (u.sub .int && !u.sub .bool) := by
  cases d <;> simp only [tyOf] at h <;> first | (cases h; done) | (cases h; rfl) | skip
  split at h
  · cases h
    rfl
  · cases h
theorem s_is_integer (k : Nat) (d : D) (M : Mem) (h : tyOk d = true) : C (k + 1) n_is_integer [d] M = .ok (.bl (isIntD d)) M := by
  obtain ⟨u, e⟩ := tyOk_some h M
  unfold C
  rw [u_is_integer]
  simp only [b_is_integer, ex, ev, Res.bind, Res.to, Out.seq, consD, List.getElem?_cons_zero, List.getElem?_cons_succ, CE.isNil, CE.isNon, Bool.false_eq_true, if_false, if_true, Bool.not_true, Bool.not_false, Iv.srcOf_tup, Iv.srcOf_ref, Iv.mkOf, Iv.mk, Iv.okPt_int, Iv.okPt_non, Iv.ptOf, Iv.itvf, Iv.seqOf, Iv.listOf, Iv.trkOf, Iv.itemsOf, bfn, e]
  rw [isInt_ty e]
  cases h1 : u.sub .int
  · simp only [Bool.false_and]
    exact fin_rt rfl
  · simp only [Bool.true_and]
    exact fin_rt rfl
def withinD (d : D) (a b : Int) : Bool := match d with
  | .int v => decide (a ≤ v) && decide (v ≤ b)
  | _ => false
theorem s_is_within (k : Nat) (d : D) (a b : Int) (M : Mem) (h : tyOk d = true) : C (k + 2) n_is_within [d, .int a, .int b] M = .ok (.bl (withinD d a b)) M := by
  unfold C
  rw [u_is_within]
  have h := s_is_integer k d M h
  unfold C at h
  simp only [b_is_within, ex, ev, Res.bind, Res.to, Out.seq, consD, List.getElem?_cons_zero, List.getElem?_cons_succ, CE.isNil, CE.isNon, Bool.false_eq_true, if_false, if_true, Bool.not_true, Bool.not_false, Iv.srcOf_tup, Iv.srcOf_ref, Iv.mkOf, Iv.mk, Iv.okPt_int, Iv.okPt_non, Iv.ptOf, Iv.itvf, Iv.seqOf, Iv.listOf, Iv.trkOf, Iv.itemsOf, h, cop, cmpB, isNonD]
  by_cases hi : ∃ v, d = .int v
  · obtain ⟨v, rfl⟩ := hi
    simp only [isIntD, withinD, Bool.not_true, cmpB]
    by_cases h1 : v < a
    · simp [h1, Out.seq, fin_rt, show ¬ a ≤ v by omega]
    · simp [h1, Out.seq, fin_rt, show a ≤ v by omega]
  · have e1 : isIntD d = false := by cases d <;> first | rfl | exact absurd ⟨_, rfl⟩ hi
    have e2 : withinD d a b = false := by cases d <;> first | rfl | exact absurd ⟨_, rfl⟩ hi
    simp only [e1, e2, Bool.not_false]
    exact fin_rt rfl
abbrev isSgD (d : D) : Bool := withinD d 0 1
theorem s_is_sign (k : Nat) (d : D) (M : Mem) (h : tyOk d = true) : C (k + 3) n_is_sign [d] M = .ok (.bl (isSgD d)) M := by
  unfold C
  rw [u_is_sign]
  have h := s_is_within k d 0 1 M h
  unfold C at h
  simp only [b_is_sign, ex, ev, Res.bind, Res.to, Out.seq, consD, List.getElem?_cons_zero, List.getElem?_cons_succ, CE.isNil, CE.isNon, Bool.false_eq_true, if_false, if_true, Bool.not_true, Bool.not_false, Iv.srcOf_tup, Iv.srcOf_ref, Iv.mkOf, Iv.mk, Iv.okPt_int, Iv.okPt_non, Iv.ptOf, Iv.itvf, Iv.seqOf, Iv.listOf, Iv.trkOf, Iv.itemsOf, h]
  exact fin_rt rfl
theorem all_map {α : Type} (f : α → Bool) (xs : List α) : (xs.map f).all id = xs.all f := by
  rw [List.all_map]
  rfl
def areSgD (d : D) : Bool := match sqD d with
  | some xs => xs.all isSgD
  | none => false
theorem isi_seq {d : D} {xs : List D} (h : sqD d = some xs) (M : Mem) : bfn .isi [d, .tup [.ty .list, .ty .tuple]] M = .ok (.bl true) M := by
  rcases sqD_cases h with rfl | rfl <;> rfl
theorem isi_no {d : D} (h : sqD d = none) (ht : tyOk d = true) (M : Mem) : bfn .isi [d, .tup [.ty .list, .ty .tuple]] M = .ok (.bl false) M := by
  cases d <;> first | (cases h; done) | (cases ht; done) | rfl
theorem s_are_signs (k : Nat) (d : D) (M : Mem) (h : okV d = true) : C (k + 4) n_are_signs [d] M = .ok (.bl (areSgD d)) M := by
  have ht := okV_ty h
  unfold C
  rw [u_are_signs]
  cases e : sqD d with
  | none =>
    simp only [b_are_signs, ex, ev, Res.bind, Res.to, Out.seq, consD, List.getElem?_cons_zero, List.getElem?_cons_succ, CE.isNil, CE.isNon, Bool.false_eq_true, if_false, if_true, Bool.not_true, Bool.not_false, Iv.srcOf_tup, Iv.srcOf_ref, Iv.mkOf, Iv.mk, Iv.okPt_int, Iv.okPt_non, Iv.ptOf, Iv.itvf, Iv.seqOf, Iv.listOf, Iv.trkOf, Iv.itemsOf, isi_no e ht]
    simp only [areSgD, e]
    exact fin_rt rfl
  | some xs =>
    have h0 := h
    unfold okV at h0
    rw [e] at h0
    simp only [Bool.and_eq_true, decide_eq_true_eq] at h0
    obtain ⟨hl, hx⟩ := h0
    have hh := lc_all (tg := fun x => asg (.nm 1) x (wipeR [some d, none] [1])) (ts := fun _ M => Res.ok (.bl true) M) (el := ev tab (callN tab pds (k + 3)) .v (.call n_is_sign (.cons (.var 1) .nil))) (M := M) (all := xs)
      (fun y => [some d, some y]) (fun _ => true) (fun y => .bl (isSgD y)) hl (by
      intro y hy
      refine ⟨rfl, rfl, fun _ => ?_⟩
      have h2 := s_is_sign k y M (List.all_eq_true.mp hx y hy)
      unfold C at h2
      simp only [ex, ev, Res.bind, Res.to, Out.seq, consD, List.getElem?_cons_zero, List.getElem?_cons_succ, CE.isNil, CE.isNon, Bool.false_eq_true, if_false, if_true, Bool.not_true, Bool.not_false, Iv.srcOf_tup, Iv.srcOf_ref, Iv.mkOf, Iv.mk, Iv.okPt_int, Iv.okPt_non, Iv.ptOf, Iv.itvf, Iv.seqOf, Iv.listOf, Iv.trkOf, Iv.itemsOf, h2])
    rw [filt_true] at hh
    simp only [ex, ev, Res.bind, Res.to, Out.seq, consD, List.getElem?_cons_zero, List.getElem?_cons_succ, CE.isNil, CE.isNon, Bool.false_eq_true, if_false, if_true, Bool.not_true, Bool.not_false, Iv.srcOf_tup, Iv.srcOf_ref, Iv.mkOf, Iv.mk, Iv.okPt_int, Iv.okPt_non, Iv.ptOf] at hh
    simp only [b_are_signs, ex, ev, Res.bind, Res.to, Out.seq, consD, List.getElem?_cons_zero, List.getElem?_cons_succ, CE.isNil, CE.isNon, Bool.false_eq_true, if_false, if_true, Bool.not_true, Bool.not_false, Iv.srcOf_tup, Iv.srcOf_ref, Iv.mkOf, Iv.mk, Iv.okPt_int, Iv.okPt_non, Iv.ptOf, isi_seq e, itvf_sq e, hh]
    simp only [ex, ev, Res.bind, Res.to, Out.seq, consD, List.getElem?_cons_zero, List.getElem?_cons_succ, CE.isNil, CE.isNon, Bool.false_eq_true, if_false, if_true, Bool.not_true, Bool.not_false, Iv.srcOf_tup, Iv.srcOf_ref, Iv.mkOf, Iv.mk, Iv.okPt_int, Iv.okPt_non, Iv.ptOf, Iv.itvf, Iv.seqOf, Iv.listOf, Iv.trkOf, Iv.itemsOf, bfn]
    rw [blsOf_map]
    simp only [all_map, areSgD, e]
    exact fin_rt rfl
theorem lim_pow {p : Nat} (h : p ≤ 8) : 2 ^ p ≤ lim := Nat.le_trans (Nat.pow_le_pow_right (by decide) h) (by decide)
def isTbD (d : D) : Bool := match sqD d with
  | some xs => xs.all isSgD && decide ((xs.length : Int) ∈ SIZES)
  | none => false
theorem len_seq {d : D} {xs : List D} (h : sqD d = some xs) (M : Mem) : bfn .len [d] M = .ok (.int xs.length) M := by
  rcases sqD_cases h with rfl | rfl <;> rfl
theorem memB_tup (M : Mem) (x : D) (xs : List D) : memB M x (.tup xs) = inB M x (.tup xs) := rfl
theorem s_is_table (k : Nat) (d : D) (M : Mem) (h : okV d = true) : C (k + 5) n_is_table [d] M = .ok (.bl (isTbD d)) M := by
  unfold C
  rw [u_is_table]
  have h2 := s_are_signs k d M h
  unfold C at h2
  simp only [b_is_table, ex, ev, Res.bind, Res.to, Out.seq, consD, List.getElem?_cons_zero, List.getElem?_cons_succ, CE.isNil, CE.isNon, Bool.false_eq_true, if_false, if_true, Bool.not_true, Bool.not_false, Iv.srcOf_tup, Iv.srcOf_ref, Iv.mkOf, Iv.mk, Iv.okPt_int, Iv.okPt_non, Iv.ptOf, Iv.itvf, Iv.seqOf, Iv.listOf, Iv.trkOf, Iv.itemsOf, h2]
  cases e : sqD d with
  | none =>
    simp only [areSgD, isTbD, e]
    exact fin_rt rfl
  | some xs =>
    simp only [areSgD, isTbD, e]
    cases hx : xs.all isSgD with
    | false =>
      simp only [Bool.false_and]
      exact fin_rt rfl
    | true =>
      have e3 : tab.cons[k_SIZES]? = some (("SIZES" : Str), D.tup (dI SIZES)) := rfl
      simp only [ex, ev, Res.bind, Res.to, Out.seq, consD, List.getElem?_cons_zero, List.getElem?_cons_succ, CE.isNil, CE.isNon, Bool.false_eq_true, if_false, if_true, Bool.not_true, Bool.not_false, Iv.srcOf_tup, Iv.srcOf_ref, Iv.mkOf, Iv.mk, Iv.okPt_int, Iv.okPt_non, Iv.ptOf, Iv.itvf, Iv.seqOf, Iv.listOf, Iv.trkOf, Iv.itemsOf, len_seq e, e3, cop, cmpB]
      rw [memB_tup, inB_dI M _ _ SIZES rfl]
      simp only [Bool.true_and]
      exact fin_rt rfl
/-- what a check gives -/
def chkR (b : Bool) (c : Nat) (fs : List D) (M : Mem) : Res := match b with
  | true => .ok .non M
  | false => .exn c fs M
theorem s_need_table (k : Nat) (d part : D) (M : Mem) (h : okV d = true) : C (k + 6) n_need_table [d, part] M = chkR (isTbD d) c_BadTable [part] M := by
  unfold C
  rw [u_need_table]
  have h := s_is_table k d M h
  unfold C at h
  simp only [b_need_table, ex, ev, Res.bind, Res.to, Out.seq, consD, List.getElem?_cons_zero, List.getElem?_cons_succ, CE.isNil, CE.isNon, Bool.false_eq_true, if_false, if_true, Bool.not_true, Bool.not_false, Iv.srcOf_tup, Iv.srcOf_ref, Iv.mkOf, Iv.mk, Iv.okPt_int, Iv.okPt_non, Iv.ptOf, Iv.itvf, Iv.seqOf, Iv.listOf, Iv.trkOf, Iv.itemsOf, h]
  cases isTbD d
  · rw [show (tab.clss[c_BadTable]? : Option (Str × List Str)) = some (("BadTable" : Str), [("part" : Str)]) from rfl]
    exact fin_xn rfl
  · exact fin_nx rfl
/-! ### tables -/
theorem sizes {p : Nat} (h : p ≤ 8) : (((2 : Nat) ^ p : Nat) : Int) ∈ SIZES := by
  have : p = 0 ∨ p = 1 ∨ p = 2 ∨ p = 3 ∨ p = 4 ∨ p = 5 ∨ p = 6 ∨ p = 7 ∨ p = 8 := by omega
  rcases this with z | z | z | z | z | z | z | z | z <;> subst z <;> decide
theorem sizes_p {n : Nat} (h : (n : Int) ∈ SIZES) : ∃ p, p ≤ 8 ∧ n = 2 ^ p := by
  simp only [SIZES, List.mem_cons, List.not_mem_nil, or_false] at h
  rcases h with z | z | z | z | z | z | z | z | z
  · exact ⟨0, by decide, by omega⟩
  · exact ⟨1, by decide, by omega⟩
  · exact ⟨2, by decide, by omega⟩
  · exact ⟨3, by decide, by omega⟩
  · exact ⟨4, by decide, by omega⟩
  · exact ⟨5, by decide, by omega⟩
  · exact ⟨6, by decide, by omega⟩
  · exact ⟨7, by decide, by omega⟩
  · exact ⟨8, by decide, by omega⟩
theorem sg_tbl {p : Nat} {f : List Int → Int} : Sg (tbl p f) ↔ ∀ r ∈ rows p, f r = 0 ∨ f r = 1 := by
  unfold tbl
  constructor
  · intro h r hr
    exact h _ (List.mem_map.mpr ⟨r, hr, rfl⟩)
  · intro h x hx
    obtain ⟨r, hr, rfl⟩ := List.mem_map.mp hx
    exact h r hr
/-- d is the table of p places that has the sign f r at the setting r -/
structure Tb (d : D) (p : Nat) (f : List Int → Int) : Prop where
  sq : sqD d = some (dI (tbl p f))
  sg : Sg (tbl p f)
  hp : p ≤ 8
theorem sg_all {t : List Int} (h : Sg t) : (dI t).all isSgD = true := by
  rw [List.all_eq_true]
  intro d hd
  obtain ⟨x, hx, rfl⟩ := List.mem_map.mp hd
  rcases h x hx with z | z <;> subst z <;> rfl
theorem ty_all (t : List Int) : (dI t).all tyOk = true := by
  rw [List.all_eq_true]
  intro d hd
  obtain ⟨x, hx, rfl⟩ := List.mem_map.mp hd
  rfl
theorem Tb.is {d : D} {p : Nat} {f : List Int → Int} (h : Tb d p f) : isTbD d = true := by
  unfold isTbD
  rw [h.sq]
  simp only [sg_all h.sg, Bool.true_and, decide_eq_true_eq, List.length_map, tbl_len]
  exact sizes h.hp
theorem Tb.ok {d : D} {p : Nat} {f : List Int → Int} (h : Tb d p f) : okV d = true := by
  unfold okV
  rw [h.sq]
  simp only [ty_all, Bool.and_true, decide_eq_true_eq, List.length_map, tbl_len]
  exact lim_pow h.hp
theorem Tb.len {d : D} {p : Nat} {f : List Int → Int} (h : Tb d p f) (M : Mem) : bfn .len [d] M = .ok (.int ((2 ^ p : Nat) : Int)) M := by
  rw [len_seq h.sq, List.length_map, tbl_len]
theorem Tb.tup {p : Nat} {f : List Int → Int} (hs : Sg (tbl p f)) (hp : p ≤ 8) : Tb (.tup (dI (tbl p f))) p f := ⟨rfl, hs, hp⟩
theorem Tb.lst {p : Nat} {f : List Int → Int} (hs : Sg (tbl p f)) (hp : p ≤ 8) : Tb (.lst (dI (tbl p f))) p f := ⟨rfl, hs, hp⟩
theorem Tb.congr {d : D} {p : Nat} {f g : List Int → Int} (h : Tb d p f) (e : ∀ r ∈ rows p, f r = g r) : Tb d p g := by
  have z : tbl p f = tbl p g := tbl_inj.mpr e
  exact ⟨by rw [h.sq, z], by rw [← z]; exact h.sg, h.hp⟩
theorem first_sizes {p : Nat} (h : p ≤ 8) : firstAt (.int ((2 : Nat) ^ p : Nat)) (dI SIZES) 0 = some p := by
  have : p = 0 ∨ p = 1 ∨ p = 2 ∨ p = 3 ∨ p = 4 ∨ p = 5 ∨ p = 6 ∨ p = 7 ∨ p = 8 := by omega
  rcases this with z | z | z | z | z | z | z | z | z <;> subst z <;> rfl
theorem s_places_in (k p : Nat) (d : D) (xs : List D) (M : Mem) (hd : sqD d = some xs) (hl : xs.length = 2 ^ p) (hp : p ≤ 8) : C (k + 1) n_places_in [d] M = .ok (.int p) M := by
  unfold C
  rw [u_places_in]
  have e : tab.cons[k_SIZES]? = some (("SIZES" : Str), D.tup (dI SIZES)) := rfl
  simp only [b_places_in, ex, ev, Res.bind, Res.to, Out.seq, consD, List.getElem?_cons_zero, List.getElem?_cons_succ, CE.isNil, CE.isNon, Bool.false_eq_true, if_false, if_true, Bool.not_true, Bool.not_false, Iv.srcOf_tup, Iv.srcOf_ref, Iv.mkOf, Iv.mk, Iv.okPt_int, Iv.okPt_non, Iv.ptOf, Iv.itvf, Iv.seqOf, Iv.listOf, Iv.trkOf, Iv.itemsOf, e, len_seq hd, cidxf, hl, flatD_int, flat_dI, and_self, first_sizes hp]
  exact fin_rt rfl
theorem t_places_in {k p : Nat} {f : List Int → Int} {d : D} (M : Mem) (T : Tb d p f) : C (k + 1) n_places_in [d] M = .ok (.int p) M := s_places_in k p d _ M T.sq (by rw [List.length_map, tbl_len]) T.hp
theorem enum_mem : ∀ {xs : List Int} {o : Nat} {d : D}, d ∈ enumD o (dI xs) → ∃ (i : Nat) (x : Int), d = .tup [.int (i : Nat), .int x] ∧ x ∈ xs ∧ o ≤ i ∧ i < o + xs.length
  | [], o, d, h => by cases h
  | x :: xs, o, d, h => by
    rcases List.mem_cons.mp (show d ∈ (D.tup [.int (o : Nat), .int x]) :: enumD (o + 1) (dI xs) from h) with z | z
    · exact ⟨o, x, z, List.mem_cons_self, Nat.le_refl _, by simp⟩
    · obtain ⟨i, y, e, hy, h1, h2⟩ := enum_mem z
      exact ⟨i, y, e, List.mem_cons_of_mem _ hy, by omega, by simp only [List.length_cons]; omega⟩
theorem row_bit (i n b : Nat) : decide ((i : Int) / 2 ^ n % 2 = (b : Int)) = decide (i / 2 ^ n % 2 = b) := by
  rw [decide_eq_decide]
  constructor
  · intro h
    exact_mod_cast h
  · intro h
    exact_mod_cast h
theorem zip_mem {α : Type} {a b : α → D} {xs : List α} {d : D} (h : d ∈ zipD (xs.map a) (xs.map b)) : ∃ x ∈ xs, d = .tup [a x, b x] := by
  rw [zipD_map] at h
  obtain ⟨x, h1, h2⟩ := List.mem_map.mp h
  exact ⟨x, h1, h2.symm⟩
/-- the tables' letters -/
theorem dI_tbl (p : Nat) (f : List Int → Int) : dI (tbl p f) = (rows p).map fun r => .int (f r) := by
  unfold dI tbl
  rw [List.map_map]
  rfl
theorem ins_len : ∀ (s : List Int) (j : Nat) (b : Int), (ins s j b).length = s.length + 1
  | s, 0, b => by rw [ins_zero]; rfl
  | [], j + 1, b => rfl
  | x :: s, j + 1, b => by simp [ins, ins_len s j b]
theorem ins_sub : ∀ (s : List Int) (j : Nat) (b : Int) (x : Int), x ∈ ins s j b → x = b ∨ x ∈ s
  | s, 0, b, x, h => by
    rw [ins_zero] at h
    exact (List.mem_cons.mp h)
  | [], j + 1, b, x, h => .inl (by simpa [ins] using h)
  | y :: s, j + 1, b, x, h => by
    rcases List.mem_cons.mp (show x ∈ y :: ins s j b from h) with z | z
    · exact .inr (by rw [z]; exact List.mem_cons_self)
    · exact (ins_sub s j b x z).imp id (List.mem_cons_of_mem _)
theorem ins_mem {p j : Nat} {s : List Int} {b : Int} (h : s ∈ rows p) (hb : b = 0 ∨ b = 1) : ins s j b ∈ rows (p + 1) := by
  obtain ⟨h1, h2⟩ := rows_mem.mp h
  refine rows_mem.mpr ⟨by rw [ins_len, h1], fun x hx => ?_⟩
  rcases ins_sub _ _ _ _ hx with z | z
  · rw [z]
    exact hb
  · exact h2 x z
def orI (a b : Int) : Int := if a = 0 ∧ b = 0 then 0 else 1
def andI (a b : Int) : Int := if a = 1 ∧ b = 1 then 1 else 0
def xorI (a b : Int) : Int := if a = b then 0 else 1
theorem orI_sg (a b : Int) : orI a b = 0 ∨ orI a b = 1 := by unfold orI; split <;> simp
theorem andI_sg (a b : Int) : andI a b = 0 ∨ andI a b = 1 := by unfold andI; split <;> simp
theorem xorI_sg (a b : Int) : xorI a b = 0 ∨ xorI a b = 1 := by unfold xorI; split <;> simp
theorem at_or {a b : Int} (ha : a = 0 ∨ a = 1) (hb : b = 0 ∨ b = 1) : atI (dI [0, 1, 1, 1]) (2 * a + b) = some (.int (orI a b)) := by
  rcases ha with z | z <;> rcases hb with y | y <;> subst z <;> subst y <;> rfl
theorem at_and {a b : Int} (ha : a = 0 ∨ a = 1) (hb : b = 0 ∨ b = 1) : atI (dI [0, 0, 0, 1]) (2 * a + b) = some (.int (andI a b)) := by
  rcases ha with z | z <;> rcases hb with y | y <;> subst z <;> subst y <;> rfl
theorem at_xor {a b : Int} (ha : a = 0 ∨ a = 1) (hb : b = 0 ∨ b = 1) : atI (dI [0, 1, 1, 0]) (2 * a + b) = some (.int (xorI a b)) := by
  rcases ha with z | z <;> rcases hb with y | y <;> subst z <;> subst y <;> rfl
theorem s_twos (k n : Nat) (M : Mem) (hn : n ≤ 64) : C (k + 1) n_law_twos [.int n] M = .ok (.int ((2 ^ n : Nat) : Int)) M := by
  unfold C
  rw [u_law_twos]
  simp only [b_law_twos, ex, ev, Res.bind, Res.to, Out.seq, consD, List.getElem?_cons_zero, List.getElem?_cons_succ, CE.isNil, CE.isNon, Bool.false_eq_true, if_false, if_true, Bool.not_true, Bool.not_false, Iv.srcOf_tup, Iv.srcOf_ref, Iv.mkOf, Iv.mk, Iv.okPt_int, Iv.okPt_non, Iv.ptOf, Iv.itvf, Iv.seqOf, Iv.listOf, Iv.trkOf, Iv.itemsOf, List.length_cons, List.length_nil, Nat.zero_add, Nat.reduceAdd, Nat.reduceLT, List.set_cons_succ, List.set_cons_zero]
  rw [if_pos ⟨by have : n ≤ lim := Nat.le_trans hn (by decide); omega, by omega⟩]
  simp only [ex, ev, Res.bind, Res.to, Out.seq, consD, List.getElem?_cons_zero, List.getElem?_cons_succ, CE.isNil, CE.isNon, Bool.false_eq_true, if_false, if_true, Bool.not_true, Bool.not_false, Iv.srcOf_tup, Iv.srcOf_ref, Iv.mkOf, Iv.mk, Iv.okPt_int, Iv.okPt_non, Iv.ptOf, Iv.itvf, Iv.seqOf, Iv.listOf, Iv.trkOf, Iv.itemsOf]
  obtain ⟨r', M', e, hM, d, hr⟩ := for_fix (tg := fun d r => asg (.nm 2) d r) (body := ex tab (callN tab pds k) l_law_twos_0) (all := rangeD (n : Int)) (I := fun j r M' => M' = M ∧ ∃ d, r = [some (.int n), some (.int ((2 ^ j : Nat) : Int)), d])
    (fun j d r M1 hj hI => by
      obtain ⟨rfl, d0, rfl⟩ := hI
      refine ⟨[some (.int n), some (.int ((2 ^ j : Nat) : Int)), some d], rfl, [some (.int n), some (.int ((2 ^ (j + 1) : Nat) : Int)), some d], M1, ?_, rfl, _, rfl⟩
      simp only [l_law_twos_0, ex, ev, Res.bind, Res.to, Out.seq, consD, List.getElem?_cons_zero, List.getElem?_cons_succ, CE.isNil, CE.isNon, Bool.false_eq_true, if_false, if_true, Bool.not_true, Bool.not_false, Iv.srcOf_tup, Iv.srcOf_ref, Iv.mkOf, Iv.mk, Iv.okPt_int, Iv.okPt_non, Iv.ptOf, Iv.itvf, Iv.seqOf, Iv.listOf, Iv.trkOf, Iv.itemsOf, bop]
      rw [if_pos (.inl ⟨by decide, by decide⟩)]
      simp only [ex, ev, Res.bind, Res.to, Out.seq, consD, List.getElem?_cons_zero, List.getElem?_cons_succ, CE.isNil, CE.isNon, Bool.false_eq_true, if_false, if_true, Bool.not_true, Bool.not_false, Iv.srcOf_tup, Iv.srcOf_ref, Iv.mkOf, Iv.mk, Iv.okPt_int, Iv.okPt_non, Iv.ptOf, Iv.itvf, Iv.seqOf, Iv.listOf, Iv.trkOf, Iv.itemsOf, List.length_cons, List.length_nil, Nat.zero_add, Nat.reduceAdd, Nat.reduceLT, List.set_cons_succ, List.set_cons_zero]
      rw [show (2 : Int) * ((2 ^ j : Nat) : Int) = ((2 ^ (j + 1) : Nat) : Int) by rw [Nat.pow_succ]; omega])
    (Src.fix (rangeD (n : Int))).fuel 0 [some (.int n), some (.int 1), none] M (Nat.zero_le _) (by show _ < (rangeD (n : Int)).length + 1 + 0; omega) ⟨rfl, none, rfl⟩
  rw [e]
  subst hM hr
  rw [rangeD_len]
  exact fin_rt rfl
theorem num_even {s : List Int} {x : Int} (hx : x = 0 ∨ x = 1) : ((num (s ++ [x]) : Nat) : Int) % 2 = x ∧ ((num (s ++ [x]) : Nat) : Int) / 2 = (num s : Nat) := by
  rw [num_append]
  rcases hx with z | z <;> subst z
  · have : (0 : Int).toNat = 0 := rfl
    rw [this]
    omega
  · have : (1 : Int).toNat = 1 := rfl
    rw [this]
    omega
theorem s_setting (k p : Nat) (r0 : List Int) (M : Mem) (hp : p ≤ 64) (h0 : r0 ∈ rows p) : C (k + 1) n_law_setting [.int p, .int (num r0)] M = .ok (.lst (dI r0)) M := by
  obtain ⟨hl, hs⟩ := rows_mem.mp h0
  unfold C
  rw [u_law_setting]
  simp only [b_law_setting, ex, ev, Res.bind, Res.to, Out.seq, consD, List.getElem?_cons_zero, List.getElem?_cons_succ, CE.isNil, CE.isNon, Bool.false_eq_true, if_false, if_true, Bool.not_true, Bool.not_false, Iv.srcOf_tup, Iv.srcOf_ref, Iv.mkOf, Iv.mk, Iv.okPt_int, Iv.okPt_non, Iv.ptOf, Iv.itvf, Iv.seqOf, Iv.listOf, Iv.trkOf, Iv.itemsOf, List.length_cons, List.length_nil, Nat.zero_add, Nat.reduceAdd, Nat.reduceLT, List.set_cons_succ, List.set_cons_zero]
  rw [if_pos ⟨by have : p ≤ lim := Nat.le_trans hp (by decide); omega, by omega⟩]
  simp only [ex, ev, Res.bind, Res.to, Out.seq, consD, List.getElem?_cons_zero, List.getElem?_cons_succ, CE.isNil, CE.isNon, Bool.false_eq_true, if_false, if_true, Bool.not_true, Bool.not_false, Iv.srcOf_tup, Iv.srcOf_ref, Iv.mkOf, Iv.mk, Iv.okPt_int, Iv.okPt_non, Iv.ptOf, Iv.itvf, Iv.seqOf, Iv.listOf, Iv.trkOf, Iv.itemsOf]
  obtain ⟨r', M', e, hM, d, hr⟩ := for_fix (tg := fun d r => asg (.nm 3) d r) (body := ex tab (callN tab pds k) l_law_setting_0) (all := rangeD (p : Int))
    (I := fun j r M' => M' = M ∧ ∃ d, r = [some (.int p), some (.int (num (r0.take (p - j)))), some (.lst (dI (r0.drop (p - j)))), d])
    (fun j d r M1 hj hI => by
      obtain ⟨rfl, d0, rfl⟩ := hI
      have hjp : j < p := by
        have z := (List.getElem?_eq_some_iff.mp hj).1
        rwa [rangeD_len] at z
      have hm : p - j - 1 < r0.length := by omega
      have et : r0.take (p - j) = r0.take (p - (j + 1)) ++ [r0[p - j - 1]] := by
        have z : r0.take ((p - j - 1) + 1) = r0.take (p - j - 1) ++ [r0[p - j - 1]] := by
          rw [List.take_add_one, List.getElem?_eq_getElem hm]
          rfl
        rw [show (p - j - 1) + 1 = p - j by omega] at z
        rw [z, show p - (j + 1) = p - j - 1 by omega]
      have ed : r0.drop (p - (j + 1)) = r0[p - j - 1] :: r0.drop (p - j) := by
        rw [show p - (j + 1) = p - j - 1 by omega]
        have z := List.drop_eq_getElem_cons hm
        rw [show p - j - 1 + 1 = p - j by omega] at z
        exact z
      obtain ⟨n1, n2⟩ := num_even (s := r0.take (p - (j + 1))) (hs _ (List.getElem_mem hm))
      rw [← et] at n1 n2
      refine ⟨[some (.int p), some (.int (num (r0.take (p - j)))), some (.lst (dI (r0.drop (p - j)))), some d], rfl, [some (.int p), some (.int (num (r0.take (p - (j + 1))))), some (.lst (dI (r0.drop (p - (j + 1))))), some d], M1, ?_, rfl, _, rfl⟩
      simp only [l_law_setting_0, ex, ev, Res.bind, Res.to, Out.seq, consD, List.getElem?_cons_zero, List.getElem?_cons_succ, CE.isNil, CE.isNon, Bool.false_eq_true, if_false, if_true, Bool.not_true, Bool.not_false, Iv.srcOf_tup, Iv.srcOf_ref, Iv.mkOf, Iv.mk, Iv.okPt_int, Iv.okPt_non, Iv.ptOf, Iv.itvf, Iv.seqOf, Iv.listOf, Iv.trkOf, Iv.itemsOf, bop, bfn]
      rw [if_pos (by decide)]
      simp only [ex, ev, Res.bind, Res.to, Out.seq, consD, List.getElem?_cons_zero, List.getElem?_cons_succ, CE.isNil, CE.isNon, Bool.false_eq_true, if_false, if_true, Bool.not_true, Bool.not_false, Iv.srcOf_tup, Iv.srcOf_ref, Iv.mkOf, Iv.mk, Iv.okPt_int, Iv.okPt_non, Iv.ptOf, Iv.itvf, Iv.seqOf, Iv.listOf, Iv.trkOf, Iv.itemsOf]
      rw [n1, if_pos (by simp only [List.length_cons, List.length_nil, List.length_map, List.length_drop]; show _ ≤ 1000000; omega)]
      simp only [ex, ev, Res.bind, Res.to, Out.seq, consD, List.getElem?_cons_zero, List.getElem?_cons_succ, CE.isNil, CE.isNon, Bool.false_eq_true, if_false, if_true, Bool.not_true, Bool.not_false, Iv.srcOf_tup, Iv.srcOf_ref, Iv.mkOf, Iv.mk, Iv.okPt_int, Iv.okPt_non, Iv.ptOf, Iv.itvf, Iv.seqOf, Iv.listOf, Iv.trkOf, Iv.itemsOf, List.length_cons, List.length_nil, Nat.zero_add, Nat.reduceAdd, Nat.reduceLT, List.set_cons_succ, List.set_cons_zero]
      rw [if_pos (by decide)]
      simp only [ex, ev, Res.bind, Res.to, Out.seq, consD, List.getElem?_cons_zero, List.getElem?_cons_succ, CE.isNil, CE.isNon, Bool.false_eq_true, if_false, if_true, Bool.not_true, Bool.not_false, Iv.srcOf_tup, Iv.srcOf_ref, Iv.mkOf, Iv.mk, Iv.okPt_int, Iv.okPt_non, Iv.ptOf, Iv.itvf, Iv.seqOf, Iv.listOf, Iv.trkOf, Iv.itemsOf, List.length_cons, List.length_nil, Nat.zero_add, Nat.reduceAdd, Nat.reduceLT, List.set_cons_succ, List.set_cons_zero]
      rw [n2, ed]
      rfl)
    (Src.fix (rangeD (p : Int))).fuel 0 [some (.int p), some (.int (num r0)), some (.lst []), none] M (Nat.zero_le _) (by show _ < (rangeD (p : Int)).length + 1 + 0; omega) ⟨rfl, none, by
      rw [Nat.sub_zero, ← hl, List.take_length, List.drop_length]
      rfl⟩
  rw [e]
  subst hM hr
  rw [rangeD_len, Nat.sub_self, List.drop_zero]
  exact fin_rt rfl
def wt (n : Nat) : Nat → List Int → List Int
  | _, [] => []
  | o, x :: xs => x * 2 ^ (n - 1 - o) :: wt n (o + 1) xs
theorem wt_sum (n : Nat) : ∀ (o : Nat) (xs : List Int), n = o + xs.length → (∀ x ∈ xs, x = 0 ∨ x = 1) → (wt n o xs).sum = ((num xs : Nat) : Int)
  | o, [], _, _ => rfl
  | o, x :: xs, h, hs => by
    simp only [List.length_cons] at h
    simp only [wt, num, List.sum_cons, wt_sum n (o + 1) xs (by omega) fun y hy => hs y (List.mem_cons_of_mem _ hy)]
    rw [show n - 1 - o = xs.length by omega]
    rcases hs x List.mem_cons_self with z | z <;> subst z
    · have : (0 : Int).toNat = 0 := rfl
      rw [this]
      simp
    · have : (1 : Int).toNat = 1 := rfl
      rw [this]
      push_cast
      omega
theorem enum_wt {n : Nat} {h : D → D} : ∀ (o : Nat) (xs : List Int), (∀ (i : Nat) (x : Int), h (.tup [.int (i : Nat), .int x]) = .int (x * 2 ^ (n - 1 - i))) → (enumD o (dI xs)).map h = dI (wt n o xs)
  | o, [], _ => rfl
  | o, x :: xs, hh => by
    have ih := enum_wt (n := n) (h := h) (o + 1) xs hh
    show ((D.tup [.int (o : Nat), .int x]) :: enumD (o + 1) (dI xs)).map h = _
    rw [List.map_cons, hh, ih]
    rfl
theorem s_number (k : Nat) (r : List Int) (M : Mem) (hr : ∀ x ∈ r, x = 0 ∨ x = 1) (hl : r.length ≤ 64) : C (k + 2) n_law_number [.lst (dI r)] M = .ok (.int (num r)) M := by
  unfold C
  rw [u_law_number]
  simp only [b_law_number, ex, ev, Res.bind, Res.to, Out.seq, consD, List.getElem?_cons_zero, List.getElem?_cons_succ, CE.isNil, CE.isNon, Bool.false_eq_true, if_false, if_true, Bool.not_true, Bool.not_false, Iv.srcOf_tup, Iv.srcOf_ref, Iv.mkOf, Iv.mk, Iv.okPt_int, Iv.okPt_non, Iv.ptOf, Iv.itvf, Iv.seqOf, Iv.listOf, Iv.trkOf, Iv.itemsOf]
  rw [lc_all (fun d => match d with
    | .tup [a, c] => [some (.lst (dI r)), some a, some c]
    | _ => []) (fun _ => true) (fun d => match d with
    | .tup [.int i, .int x] => .int (x * 2 ^ (r.length - 1 - i.toNat))
    | _ => d) ?_ ?_]
  · simp only [ex, ev, Res.bind, Res.to, Out.seq, consD, List.getElem?_cons_zero, List.getElem?_cons_succ, CE.isNil, CE.isNon, Bool.false_eq_true, if_false, if_true, Bool.not_true, Bool.not_false, Iv.srcOf_tup, Iv.srcOf_ref, Iv.mkOf, Iv.mk, Iv.okPt_int, Iv.okPt_non, Iv.ptOf, Iv.itvf, Iv.seqOf, Iv.listOf, Iv.trkOf, Iv.itemsOf, bfn, filt_true]
    rw [enum_wt (n := r.length) 0 r (fun i x => by simp only [Int.toNat_natCast])]
    rw [intsOf_ints]
    simp only [wt_sum r.length 0 r (by omega) hr]
    exact fin_rt rfl
  · rw [enum_length, List.length_map]
    exact Nat.le_trans hl (by decide)
  · intro d hd
    obtain ⟨i, x, rfl, hx, _, hi⟩ := enum_mem hd
    refine ⟨rfl, rfl, fun _ => ?_⟩
    have h := s_twos k (r.length - 1 - i) M (by omega)
    unfold C at h
    simp only [ex, ev, Res.bind, Res.to, Out.seq, consD, List.getElem?_cons_zero, List.getElem?_cons_succ, CE.isNil, CE.isNon, Bool.false_eq_true, if_false, if_true, Bool.not_true, Bool.not_false, Iv.srcOf_tup, Iv.srcOf_ref, Iv.mkOf, Iv.mk, Iv.okPt_int, Iv.okPt_non, Iv.ptOf, Iv.itvf, Iv.seqOf, Iv.listOf, Iv.trkOf, Iv.itemsOf, bfn, bop, List.length_map]
    rw [show ((r.length : Int) - 1 - (i : Int)) = ((r.length - 1 - i : Nat) : Int) by omega, h]
    simp only [ex, ev, Res.bind, Res.to, Out.seq, consD, List.getElem?_cons_zero, List.getElem?_cons_succ, CE.isNil, CE.isNon, Bool.false_eq_true, if_false, if_true, Bool.not_true, Bool.not_false, Iv.srcOf_tup, Iv.srcOf_ref, Iv.mkOf, Iv.mk, Iv.okPt_int, Iv.okPt_non, Iv.ptOf, Iv.itvf, Iv.seqOf, Iv.listOf, Iv.trkOf, Iv.itemsOf, bop]
    rw [if_pos (.inl (by rcases hr x hx with z | z <;> subst z <;> decide))]
    simp only [Int.toNat_natCast]
    push_cast
    rfl
theorem rows_num : ∀ {n i : Nat} {r : List Int}, (rows n)[i]? = some r → num r = i
  | 0, i, r, h => by
    cases i with
    | zero =>
      simp [rows] at h
      subst h
      rfl
    | succ i => simp [rows] at h
  | n + 1, i, r, h => by
    simp only [rows] at h
    by_cases hi : i < 2 ^ n
    · rw [List.getElem?_append_left (by simpa [rows_len] using hi), List.getElem?_map] at h
      cases e : (rows n)[i]? with
      | none => rw [e] at h; cases h
      | some s =>
        rw [e] at h
        cases h
        simp only [num, Int.toNat_zero, Nat.zero_mul, Nat.zero_add]
        exact rows_num e
    · rw [List.getElem?_append_right (by simpa [rows_len] using Nat.le_of_not_lt hi), List.getElem?_map, List.length_map, rows_len] at h
      cases e : (rows n)[i - 2 ^ n]? with
      | none => rw [e] at h; cases h
      | some s =>
        rw [e] at h
        cases h
        have hm : s ∈ rows n := List.mem_of_getElem? e
        have : (1 : Int).toNat = 1 := rfl
        simp only [num, (rows_mem.mp hm).1, this, rows_num e]
        omega
theorem range_rows (p : Nat) (h : D → D) (F : List Int → D) (hh : ∀ r ∈ rows p, h (.int (num r)) = F r) : (rangeD ((2 ^ p : Nat) : Int)).map h = (rows p).map F := by
  apply List.ext_getElem?
  intro i
  rw [List.getElem?_map, List.getElem?_map, range_get]
  by_cases hi : i < 2 ^ p
  · rw [if_pos (by rw [Int.toNat_natCast]; exact hi)]
    have hi2 : i < (rows p).length := by rw [rows_len]; exact hi
    have e := List.getElem?_eq_getElem hi2
    have n := rows_num e
    rw [e]
    simp only [Option.map_some]
    rw [← hh _ (List.getElem_mem hi2), n]
  · rw [if_neg (by rw [Int.toNat_natCast]; exact hi), List.getElem?_eq_none (by rw [rows_len]; omega)]
    rfl
def unI : List D → List Int
  | [] => []
  | .int i :: r => i :: unI r
  | _ :: r => unI r
theorem unI_dI : ∀ xs : List Int, unI (dI xs) = xs
  | [] => rfl
  | x :: xs => by
    show x :: unI (dI xs) = _
    rw [unI_dI xs]
end K03

/-! ## K03Q -/
namespace K03
open PySem PySem.Spec L2 Iv
abbrev pen (cells : List Int) (a g : Int) : Cell := .lst [.lst (dI cells), .int a, .int g]
def PenC (n : Nat) (c : Cell) : Prop := ∃ cells a g, c = pen cells a g ∧ 0 ≤ a ∧ a ≤ (n : Int) ∧ 0 ≤ g ∧ cells.length ≤ lim
theorem PenC.mono {n m : Nat} {c : Cell} (h : PenC n c) (hm : n ≤ m) : PenC m c := by
  obtain ⟨cells, a, g, e, h1, h2, h3, h4⟩ := h
  exact ⟨cells, a, g, e, h1, by omega, h3, h4⟩
section
variable {cells : List Int} {a g : Int} {rest : Mem}
theorem pen_ix0 : ixf (.ref 0) (.int 0) (pen cells a g :: rest) = .ok (.lst (dI cells)) (pen cells a g :: rest) := rfl
theorem pen_ix1 : ixf (.ref 0) (.int 1) (pen cells a g :: rest) = .ok (.int a) (pen cells a g :: rest) := rfl
theorem pen_ix2 : ixf (.ref 0) (.int 2) (pen cells a g :: rest) = .ok (.int g) (pen cells a g :: rest) := rfl
theorem pen_sub1 {v : Int} : subf (.ref 0) (.int 1) (.int v) (pen cells a g :: rest) = some (pen cells v g :: rest) := rfl
theorem pen_sub2 {v : Int} : subf (.ref 0) (.int 2) (.int v) (pen cells a g :: rest) = some (pen cells a v :: rest) := rfl
theorem eqB_nil (M : Mem) (xs : List Int) : eqB M (.lst (dI xs)) (.lst []) = some (decide (xs = [])) := eqB_lst M xs []
theorem big_pow : (10 : Int) ^ (18 : Int).toNat = 1000000000000000000 := by decide
/-- the last three rows: the mixed number -/
theorem draw_mix (cf : Nat → List D → Mem → Res) (m c : Int) (M : Mem) (r4 r5 r6 : Option D) (hm : 0 < m) (hm2 : m < 1073741824) (ha : 0 ≤ a) (ha2 : a ≤ 1048576) :
    ∃ v, 0 ≤ v ∧ v < m ∧ ex tab cf t_law_draw_0_6 [some (.ref 0), some (.int m), some (.int a), some (.int c), r4, r5, r6] M = .rt (.int v) M := by
  have c1 := Int.emod_nonneg c (b := 2147483549) (by decide)
  have c2 := Int.emod_lt_of_pos c (b := 2147483549) (by decide)
  simp only [t_law_draw_0_6, ex, ev, Res.bind, Res.to, Out.seq, consD, List.getElem?_cons_zero, List.getElem?_cons_succ, CE.isNil, CE.isNon, Bool.false_eq_true, if_false, if_true, Bool.not_true, Bool.not_false, Iv.srcOf_tup, Iv.srcOf_ref, Iv.mkOf, Iv.mk, Iv.okPt_int, Iv.okPt_non, Iv.ptOf, Iv.itvf, Iv.seqOf, Iv.listOf, Iv.trkOf, Iv.itemsOf, bfn, bop]
  rw [if_pos (by decide)]
  simp only [ex, ev, Res.bind, Res.to, Out.seq, consD, List.getElem?_cons_zero, List.getElem?_cons_succ, CE.isNil, CE.isNon, Bool.false_eq_true, if_false, if_true, Bool.not_true, Bool.not_false, Iv.srcOf_tup, Iv.srcOf_ref, Iv.mkOf, Iv.mk, Iv.okPt_int, Iv.okPt_non, Iv.ptOf, Iv.itvf, Iv.seqOf, Iv.listOf, Iv.trkOf, Iv.itemsOf, bfn, bop]
  rw [if_pos (.inl (by decide))]
  simp only [ex, ev, Res.bind, Res.to, Out.seq, consD, List.getElem?_cons_zero, List.getElem?_cons_succ, CE.isNil, CE.isNon, Bool.false_eq_true, if_false, if_true, Bool.not_true, Bool.not_false, Iv.srcOf_tup, Iv.srcOf_ref, Iv.mkOf, Iv.mk, Iv.okPt_int, Iv.okPt_non, Iv.ptOf, Iv.itvf, Iv.seqOf, Iv.listOf, Iv.trkOf, Iv.itemsOf, bfn, bop]
  rw [if_pos ⟨by decide, by decide, by omega⟩]
  simp only [ex, ev, Res.bind, Res.to, Out.seq, consD, List.getElem?_cons_zero, List.getElem?_cons_succ, CE.isNil, CE.isNon, Bool.false_eq_true, if_false, if_true, Bool.not_true, Bool.not_false, Iv.srcOf_tup, Iv.srcOf_ref, Iv.mkOf, Iv.mk, Iv.okPt_int, Iv.okPt_non, Iv.ptOf, Iv.itvf, Iv.seqOf, Iv.listOf, Iv.trkOf, Iv.itemsOf, bfn, bop]
  rw [if_pos (by decide)]
  generalize ((c % 2147483549 + 81401 * a + 4231) ^ (5 : Int).toNat) = q
  have q1 := Int.emod_nonneg q (b := 2147483629) (by decide)
  have q2 := Int.emod_lt_of_pos q (b := 2147483629) (by decide)
  simp only [ex, ev, Res.bind, Res.to, Out.seq, consD, List.getElem?_cons_zero, List.getElem?_cons_succ, CE.isNil, CE.isNon, Bool.false_eq_true, if_false, if_true, Bool.not_true, Bool.not_false, Iv.srcOf_tup, Iv.srcOf_ref, Iv.mkOf, Iv.mk, Iv.okPt_int, Iv.okPt_non, Iv.ptOf, Iv.itvf, Iv.seqOf, Iv.listOf, Iv.trkOf, Iv.itemsOf, List.length_cons, List.length_nil, Nat.zero_add, Nat.reduceAdd, Nat.reduceLT, List.set_cons_succ, List.set_cons_zero]
  simp only [t_law_draw_0_7, ex, ev, Res.bind, Res.to, Out.seq, consD, List.getElem?_cons_zero, List.getElem?_cons_succ, CE.isNil, CE.isNon, Bool.false_eq_true, if_false, if_true, Bool.not_true, Bool.not_false, Iv.srcOf_tup, Iv.srcOf_ref, Iv.mkOf, Iv.mk, Iv.okPt_int, Iv.okPt_non, Iv.ptOf, Iv.itvf, Iv.seqOf, Iv.listOf, Iv.trkOf, Iv.itemsOf, bfn, bop]
  rw [if_pos (.inl (by decide))]
  simp only [ex, ev, Res.bind, Res.to, Out.seq, consD, List.getElem?_cons_zero, List.getElem?_cons_succ, CE.isNil, CE.isNon, Bool.false_eq_true, if_false, if_true, Bool.not_true, Bool.not_false, Iv.srcOf_tup, Iv.srcOf_ref, Iv.mkOf, Iv.mk, Iv.okPt_int, Iv.okPt_non, Iv.ptOf, Iv.itvf, Iv.seqOf, Iv.listOf, Iv.trkOf, Iv.itemsOf, bfn, bop]
  rw [if_pos (.inl (by omega))]
  simp only [ex, ev, Res.bind, Res.to, Out.seq, consD, List.getElem?_cons_zero, List.getElem?_cons_succ, CE.isNil, CE.isNon, Bool.false_eq_true, if_false, if_true, Bool.not_true, Bool.not_false, Iv.srcOf_tup, Iv.srcOf_ref, Iv.mkOf, Iv.mk, Iv.okPt_int, Iv.okPt_non, Iv.ptOf, Iv.itvf, Iv.seqOf, Iv.listOf, Iv.trkOf, Iv.itemsOf, bfn, bop]
  rw [if_pos (.inl (by decide))]
  simp only [ex, ev, Res.bind, Res.to, Out.seq, consD, List.getElem?_cons_zero, List.getElem?_cons_succ, CE.isNil, CE.isNon, Bool.false_eq_true, if_false, if_true, Bool.not_true, Bool.not_false, Iv.srcOf_tup, Iv.srcOf_ref, Iv.mkOf, Iv.mk, Iv.okPt_int, Iv.okPt_non, Iv.ptOf, Iv.itvf, Iv.seqOf, Iv.listOf, Iv.trkOf, Iv.itemsOf, bfn, bop]
  rw [if_pos (.inr (by omega))]
  simp only [ex, ev, Res.bind, Res.to, Out.seq, consD, List.getElem?_cons_zero, List.getElem?_cons_succ, CE.isNil, CE.isNon, Bool.false_eq_true, if_false, if_true, Bool.not_true, Bool.not_false, Iv.srcOf_tup, Iv.srcOf_ref, Iv.mkOf, Iv.mk, Iv.okPt_int, Iv.okPt_non, Iv.ptOf, Iv.itvf, Iv.seqOf, Iv.listOf, Iv.trkOf, Iv.itemsOf, bfn, bop]
  have b1 : 0 ≤ q % 2147483629 * (2 * a + 2239) := Int.mul_nonneg q1 (by omega)
  have b2 : q % 2147483629 * (2 * a + 2239) ≤ 2147483629 * 2099391 := Int.mul_le_mul (by omega) (by omega) (by omega) (by omega)
  have b3 : 0 ≤ 58031 * a * a := Int.mul_nonneg (by omega) ha
  have b4 : 58031 * a * a ≤ 60849913856 * 1048576 := Int.mul_le_mul (by omega) ha2 ha (by omega)
  rw [if_pos ⟨by decide, by decide, by omega⟩]
  simp only [ex, ev, Res.bind, Res.to, Out.seq, consD, List.getElem?_cons_zero, List.getElem?_cons_succ, CE.isNil, CE.isNon, Bool.false_eq_true, if_false, if_true, Bool.not_true, Bool.not_false, Iv.srcOf_tup, Iv.srcOf_ref, Iv.mkOf, Iv.mk, Iv.okPt_int, Iv.okPt_non, Iv.ptOf, Iv.itvf, Iv.seqOf, Iv.listOf, Iv.trkOf, Iv.itemsOf, bfn, bop]
  rw [if_pos (by decide)]
  generalize ((q % 2147483629 * (2 * a + 2239) + 58031 * a * a + 4231) ^ (3 : Int).toNat) = q3
  simp only [ex, ev, Res.bind, Res.to, Out.seq, consD, List.getElem?_cons_zero, List.getElem?_cons_succ, CE.isNil, CE.isNon, Bool.false_eq_true, if_false, if_true, Bool.not_true, Bool.not_false, Iv.srcOf_tup, Iv.srcOf_ref, Iv.mkOf, Iv.mk, Iv.okPt_int, Iv.okPt_non, Iv.ptOf, Iv.itvf, Iv.seqOf, Iv.listOf, Iv.trkOf, Iv.itemsOf, List.length_cons, List.length_nil, Nat.zero_add, Nat.reduceAdd, Nat.reduceLT, List.set_cons_succ, List.set_cons_zero]
  simp only [t_law_draw_0_8, ex, ev, Res.bind, Res.to, Out.seq, consD, List.getElem?_cons_zero, List.getElem?_cons_succ, CE.isNil, CE.isNon, Bool.false_eq_true, if_false, if_true, Bool.not_true, Bool.not_false, Iv.srcOf_tup, Iv.srcOf_ref, Iv.mkOf, Iv.mk, Iv.okPt_int, Iv.okPt_non, Iv.ptOf, Iv.itvf, Iv.seqOf, Iv.listOf, Iv.trkOf, Iv.itemsOf, bfn, bop]
  rw [if_pos (by decide)]
  simp only [ex, ev, Res.bind, Res.to, Out.seq, consD, List.getElem?_cons_zero, List.getElem?_cons_succ, CE.isNil, CE.isNon, Bool.false_eq_true, if_false, if_true, Bool.not_true, Bool.not_false, Iv.srcOf_tup, Iv.srcOf_ref, Iv.mkOf, Iv.mk, Iv.okPt_int, Iv.okPt_non, Iv.ptOf, Iv.itvf, Iv.seqOf, Iv.listOf, Iv.trkOf, Iv.itemsOf, bfn, bop]
  rw [if_pos hm]
  exact ⟨_, Int.emod_nonneg _ (by omega), Int.emod_lt_of_pos _ hm, rfl⟩
theorem abs_val (c : Int) (M : Mem) : bfn .abs [.int c] M = .ok (.int (if c < 0 then -c else c)) M := rfl
theorem len_lst (xs : List D) (M : Mem) : bfn .len [.lst xs] M = .ok (.int xs.length) M := rfl
/-- a great cell, or the mixed number -/
theorem draw_tail (cf : Nat → List D → Mem → Res) (m c : Int) (r4 r5 r6 : Option D) (hm : 0 < m) (hm2 : m < 1073741824) (ha : 0 ≤ a) (ha2 : a ≤ 1048576) (hg : 0 ≤ g) :
    ∃ v g', 0 ≤ v ∧ v < m ∧ 0 ≤ g' ∧ ex tab cf t_law_draw_0_5 [some (.ref 0), some (.int m), some (.int a), some (.int c), r4, r5, r6] (pen cells (a + 1) g :: rest) = .rt (.int v) (pen cells (a + 1) g' :: rest) := by
  obtain ⟨v, v1, v2, v3⟩ := draw_mix cf m c (pen cells (a + 1) g :: rest) r4 r5 r6 hm hm2 ha ha2
  simp only [t_law_draw_0_5, ex, ev, Res.bind, Res.to, Out.seq, consD, List.getElem?_cons_zero, List.getElem?_cons_succ, CE.isNil, CE.isNon, Bool.false_eq_true, if_false, if_true, Bool.not_true, Bool.not_false, Iv.srcOf_tup, Iv.srcOf_ref, Iv.mkOf, Iv.mk, Iv.okPt_int, Iv.okPt_non, Iv.ptOf, Iv.itvf, Iv.seqOf, Iv.listOf, Iv.trkOf, Iv.itemsOf, pen_ix0, len_lst, cop, cmpB]
  by_cases h1 : a < ((dI cells).length : Int)
  · simp only [h1, decide_true, ex, ev, Res.bind, Res.to, Out.seq, consD, List.getElem?_cons_zero, List.getElem?_cons_succ, CE.isNil, CE.isNon, Bool.false_eq_true, if_false, if_true, Bool.not_true, Bool.not_false, Iv.srcOf_tup, Iv.srcOf_ref, Iv.mkOf, Iv.mk, Iv.okPt_int, Iv.okPt_non, Iv.ptOf, Iv.itvf, Iv.seqOf, Iv.listOf, Iv.trkOf, Iv.itemsOf, abs_val, bop, cop, cmpB]
    rw [if_pos ⟨by decide, by decide, by decide⟩]
    simp only [ex, ev, Res.bind, Res.to, Out.seq, consD, List.getElem?_cons_zero, List.getElem?_cons_succ, CE.isNil, CE.isNon, Bool.false_eq_true, if_false, if_true, Bool.not_true, Bool.not_false, Iv.srcOf_tup, Iv.srcOf_ref, Iv.mkOf, Iv.mk, Iv.okPt_int, Iv.okPt_non, Iv.ptOf, Iv.itvf, Iv.seqOf, Iv.listOf, Iv.trkOf, Iv.itemsOf, big_pow]
    by_cases h2 : (1000000000000000000 : Int) ≤ if c < 0 then -c else c
    · simp only [h2, decide_true]
      simp only [t_law_draw_5_0, ex, ev, Res.bind, Res.to, Out.seq, consD, List.getElem?_cons_zero, List.getElem?_cons_succ, CE.isNil, CE.isNon, Bool.false_eq_true, if_false, if_true, Bool.not_true, Bool.not_false, Iv.srcOf_tup, Iv.srcOf_ref, Iv.mkOf, Iv.mk, Iv.okPt_int, Iv.okPt_non, Iv.ptOf, Iv.itvf, Iv.seqOf, Iv.listOf, Iv.trkOf, Iv.itemsOf, abs_val, bop, cop, cmpB, bfn]
      rw [if_pos ⟨by decide, by decide, by decide⟩]
      simp only [ex, ev, Res.bind, Res.to, Out.seq, consD, List.getElem?_cons_zero, List.getElem?_cons_succ, CE.isNil, CE.isNon, Bool.false_eq_true, if_false, if_true, Bool.not_true, Bool.not_false, Iv.srcOf_tup, Iv.srcOf_ref, Iv.mkOf, Iv.mk, Iv.okPt_int, Iv.okPt_non, Iv.ptOf, Iv.itvf, Iv.seqOf, Iv.listOf, Iv.trkOf, Iv.itemsOf, big_pow, bop]
      rw [if_pos (.inl (by decide))]
      generalize hG : (2 * ((if c < 0 then -c else c) - 1000000000000000000) + if decide (c < 0) = true then (1 : Int) else 0) = G
      have hG0 : 0 ≤ G := by
        rw [← hG]
        split <;> split <;> omega
      simp only [ex, ev, Res.bind, Res.to, Out.seq, consD, List.getElem?_cons_zero, List.getElem?_cons_succ, CE.isNil, CE.isNon, Bool.false_eq_true, if_false, if_true, Bool.not_true, Bool.not_false, Iv.srcOf_tup, Iv.srcOf_ref, Iv.mkOf, Iv.mk, Iv.okPt_int, Iv.okPt_non, Iv.ptOf, Iv.itvf, Iv.seqOf, Iv.listOf, Iv.trkOf, Iv.itemsOf, hG, List.length_cons, List.length_nil, Nat.zero_add, Nat.reduceAdd, Nat.reduceLT, List.set_cons_succ, List.set_cons_zero]
      simp only [t_law_draw_5_1, ex, ev, Res.bind, Res.to, Out.seq, consD, List.getElem?_cons_zero, List.getElem?_cons_succ, CE.isNil, CE.isNon, Bool.false_eq_true, if_false, if_true, Bool.not_true, Bool.not_false, Iv.srcOf_tup, Iv.srcOf_ref, Iv.mkOf, Iv.mk, Iv.okPt_int, Iv.okPt_non, Iv.ptOf, Iv.itvf, Iv.seqOf, Iv.listOf, Iv.trkOf, Iv.itemsOf, bop, bfn]
      rw [if_pos ⟨hm, hm2⟩]
      simp only [ex, ev, Res.bind, Res.to, Out.seq, consD, List.getElem?_cons_zero, List.getElem?_cons_succ, CE.isNil, CE.isNon, Bool.false_eq_true, if_false, if_true, Bool.not_true, Bool.not_false, Iv.srcOf_tup, Iv.srcOf_ref, Iv.mkOf, Iv.mk, Iv.okPt_int, Iv.okPt_non, Iv.ptOf, Iv.itvf, Iv.seqOf, Iv.listOf, Iv.trkOf, Iv.itemsOf, pen_sub2]
      simp only [t_law_draw_5_2, ex, ev, Res.bind, Res.to, Out.seq, consD, List.getElem?_cons_zero, List.getElem?_cons_succ, CE.isNil, CE.isNon, Bool.false_eq_true, if_false, if_true, Bool.not_true, Bool.not_false, Iv.srcOf_tup, Iv.srcOf_ref, Iv.mkOf, Iv.mk, Iv.okPt_int, Iv.okPt_non, Iv.ptOf, Iv.itvf, Iv.seqOf, Iv.listOf, Iv.trkOf, Iv.itemsOf, bop, bfn]
      rw [if_pos hm]
      exact ⟨_, _, Int.emod_nonneg _ (by omega), Int.emod_lt_of_pos _ hm, Int.ediv_nonneg hG0 (by omega), rfl⟩
    · simp only [h2, decide_false]
      try simp only [ex, ev, Res.bind, Res.to, Out.seq, consD, List.getElem?_cons_zero, List.getElem?_cons_succ, CE.isNil, CE.isNon, Bool.false_eq_true, if_false, if_true, Bool.not_true, Bool.not_false, Iv.srcOf_tup, Iv.srcOf_ref, Iv.mkOf, Iv.mk, Iv.okPt_int, Iv.okPt_non, Iv.ptOf, Iv.itvf, Iv.seqOf, Iv.listOf, Iv.trkOf, Iv.itemsOf]
      exact ⟨v, g, v1, v2, hg, v3⟩
  · simp only [h1, decide_false]
    try simp only [ex, ev, Res.bind, Res.to, Out.seq, consD, List.getElem?_cons_zero, List.getElem?_cons_succ, CE.isNil, CE.isNon, Bool.false_eq_true, if_false, if_true, Bool.not_true, Bool.not_false, Iv.srcOf_tup, Iv.srcOf_ref, Iv.mkOf, Iv.mk, Iv.okPt_int, Iv.okPt_non, Iv.ptOf, Iv.itvf, Iv.seqOf, Iv.listOf, Iv.trkOf, Iv.itemsOf]
    exact ⟨v, g, v1, v2, hg, v3⟩
theorem s_draw (k n : Nat) (P : Cell) (rest : Mem) (m : Int) (hm : 0 < m) (hm2 : m < 1073741824) (hn : n ≤ 1048576) (hP : PenC n P) : ∃ v P', PenC (n + 1) P' ∧ 0 ≤ v ∧ v < m ∧ C (k + 1) n_law_draw [.ref 0, .int m] (P :: rest) = .ok (.int v) (P' :: rest) := by
  obtain ⟨cells, a, g, rfl, ha, han, hg, hl⟩ := hP
  unfold C
  rw [u_law_draw]
  simp only [b_law_draw, t_law_draw_0_0, ex, ev, Res.bind, Res.to, Out.seq, consD, List.getElem?_cons_zero, List.getElem?_cons_succ, CE.isNil, CE.isNon, Bool.false_eq_true, if_false, if_true, Bool.not_true, Bool.not_false, Iv.srcOf_tup, Iv.srcOf_ref, Iv.mkOf, Iv.mk, Iv.okPt_int, Iv.okPt_non, Iv.ptOf, Iv.itvf, Iv.seqOf, Iv.listOf, Iv.trkOf, Iv.itemsOf, pen_ix2, cop, cmpB]
  by_cases h0 : 0 < g
  · simp only [h0, decide_true]
    simp only [t_law_draw_1_0, ex, ev, Res.bind, Res.to, Out.seq, consD, List.getElem?_cons_zero, List.getElem?_cons_succ, CE.isNil, CE.isNon, Bool.false_eq_true, if_false, if_true, Bool.not_true, Bool.not_false, Iv.srcOf_tup, Iv.srcOf_ref, Iv.mkOf, Iv.mk, Iv.okPt_int, Iv.okPt_non, Iv.ptOf, Iv.itvf, Iv.seqOf, Iv.listOf, Iv.trkOf, Iv.itemsOf, pen_ix2, bop, bfn]
    rw [if_pos hm]
    simp only [ex, ev, Res.bind, Res.to, Out.seq, consD, List.getElem?_cons_zero, List.getElem?_cons_succ, CE.isNil, CE.isNon, Bool.false_eq_true, if_false, if_true, Bool.not_true, Bool.not_false, Iv.srcOf_tup, Iv.srcOf_ref, Iv.mkOf, Iv.mk, Iv.okPt_int, Iv.okPt_non, Iv.ptOf, Iv.itvf, Iv.seqOf, Iv.listOf, Iv.trkOf, Iv.itemsOf, List.length_cons, List.length_nil, Nat.zero_add, Nat.reduceAdd, Nat.reduceLT, List.set_cons_succ, List.set_cons_zero]
    simp only [t_law_draw_1_1, ex, ev, Res.bind, Res.to, Out.seq, consD, List.getElem?_cons_zero, List.getElem?_cons_succ, CE.isNil, CE.isNon, Bool.false_eq_true, if_false, if_true, Bool.not_true, Bool.not_false, Iv.srcOf_tup, Iv.srcOf_ref, Iv.mkOf, Iv.mk, Iv.okPt_int, Iv.okPt_non, Iv.ptOf, Iv.itvf, Iv.seqOf, Iv.listOf, Iv.trkOf, Iv.itemsOf, pen_ix2, bop, bfn]
    rw [if_pos ⟨hm, hm2⟩]
    simp only [ex, ev, Res.bind, Res.to, Out.seq, consD, List.getElem?_cons_zero, List.getElem?_cons_succ, CE.isNil, CE.isNon, Bool.false_eq_true, if_false, if_true, Bool.not_true, Bool.not_false, Iv.srcOf_tup, Iv.srcOf_ref, Iv.mkOf, Iv.mk, Iv.okPt_int, Iv.okPt_non, Iv.ptOf, Iv.itvf, Iv.seqOf, Iv.listOf, Iv.trkOf, Iv.itemsOf, pen_sub2]
    simp only [t_law_draw_1_2, ex, ev, Res.bind, Res.to, Out.seq, consD, List.getElem?_cons_zero, List.getElem?_cons_succ, CE.isNil, CE.isNon, Bool.false_eq_true, if_false, if_true, Bool.not_true, Bool.not_false, Iv.srcOf_tup, Iv.srcOf_ref, Iv.mkOf, Iv.mk, Iv.okPt_int, Iv.okPt_non, Iv.ptOf, Iv.itvf, Iv.seqOf, Iv.listOf, Iv.trkOf, Iv.itemsOf]
    exact ⟨_, _, ⟨cells, a, _, rfl, ha, by omega, Int.ediv_nonneg hg (by omega), hl⟩, Int.emod_nonneg _ (by omega), Int.emod_lt_of_pos _ hm, fin_rt rfl⟩
  · simp only [h0, decide_false]
    try simp only [ex, ev, Res.bind, Res.to, Out.seq, consD, List.getElem?_cons_zero, List.getElem?_cons_succ, CE.isNil, CE.isNon, Bool.false_eq_true, if_false, if_true, Bool.not_true, Bool.not_false, Iv.srcOf_tup, Iv.srcOf_ref, Iv.mkOf, Iv.mk, Iv.okPt_int, Iv.okPt_non, Iv.ptOf, Iv.itvf, Iv.seqOf, Iv.listOf, Iv.trkOf, Iv.itemsOf]
    simp only [t_law_draw_0_1, ex, ev, Res.bind, Res.to, Out.seq, consD, List.getElem?_cons_zero, List.getElem?_cons_succ, CE.isNil, CE.isNon, Bool.false_eq_true, if_false, if_true, Bool.not_true, Bool.not_false, Iv.srcOf_tup, Iv.srcOf_ref, Iv.mkOf, Iv.mk, Iv.okPt_int, Iv.okPt_non, Iv.ptOf, Iv.itvf, Iv.seqOf, Iv.listOf, Iv.trkOf, Iv.itemsOf, pen_ix1, List.length_cons, List.length_nil, Nat.zero_add, Nat.reduceAdd, Nat.reduceLT, List.set_cons_succ, List.set_cons_zero]
    simp only [t_law_draw_0_2, ex, ev, Res.bind, Res.to, Out.seq, consD, List.getElem?_cons_zero, List.getElem?_cons_succ, CE.isNil, CE.isNon, Bool.false_eq_true, if_false, if_true, Bool.not_true, Bool.not_false, Iv.srcOf_tup, Iv.srcOf_ref, Iv.mkOf, Iv.mk, Iv.okPt_int, Iv.okPt_non, Iv.ptOf, Iv.itvf, Iv.seqOf, Iv.listOf, Iv.trkOf, Iv.itemsOf, bop, pen_sub1]
    simp only [t_law_draw_0_3, ex, ev, Res.bind, Res.to, Out.seq, consD, List.getElem?_cons_zero, List.getElem?_cons_succ, CE.isNil, CE.isNon, Bool.false_eq_true, if_false, if_true, Bool.not_true, Bool.not_false, Iv.srcOf_tup, Iv.srcOf_ref, Iv.mkOf, Iv.mk, Iv.okPt_int, Iv.okPt_non, Iv.ptOf, Iv.itvf, Iv.seqOf, Iv.listOf, Iv.trkOf, Iv.itemsOf, bop]
    rw [if_pos (.inl (by decide))]
    simp only [ex, ev, Res.bind, Res.to, Out.seq, consD, List.getElem?_cons_zero, List.getElem?_cons_succ, CE.isNil, CE.isNon, Bool.false_eq_true, if_false, if_true, Bool.not_true, Bool.not_false, Iv.srcOf_tup, Iv.srcOf_ref, Iv.mkOf, Iv.mk, Iv.okPt_int, Iv.okPt_non, Iv.ptOf, Iv.itvf, Iv.seqOf, Iv.listOf, Iv.trkOf, Iv.itemsOf, bop, List.length_cons, List.length_nil, Nat.zero_add, Nat.reduceAdd, Nat.reduceLT, List.set_cons_succ, List.set_cons_zero]
    simp only [t_law_draw_0_4, ex, ev, Res.bind, Res.to, Out.seq, consD, List.getElem?_cons_zero, List.getElem?_cons_succ, CE.isNil, CE.isNon, Bool.false_eq_true, if_false, if_true, Bool.not_true, Bool.not_false, Iv.srcOf_tup, Iv.srcOf_ref, Iv.mkOf, Iv.mk, Iv.okPt_int, Iv.okPt_non, Iv.ptOf, Iv.itvf, Iv.seqOf, Iv.listOf, Iv.trkOf, Iv.itemsOf, pen_ix0, cop, cmpB, eqB_nil]
    have done : ∀ c r4 r5 r6, ∃ v P', PenC (n + 1) P' ∧ 0 ≤ v ∧ v < m ∧ Iv.fin false (pen cells a g :: rest).length (ex tab (callN tab pds k) t_law_draw_0_5 [some (.ref 0), some (.int m), some (.int a), some (.int c), r4, r5, r6] (pen cells (a + 1) g :: rest)) = .ok (.int v) (P' :: rest) := by
      intro c r4 r5 r6
      obtain ⟨v, g', v1, v2, v3, v4⟩ := draw_tail (cells := cells) (a := a) (g := g) (rest := rest) (callN tab pds k) m c r4 r5 r6 hm hm2 ha (by omega) hg
      rw [v4]
      exact ⟨v, _, ⟨cells, a + 1, g', rfl, by omega, by omega, v3, hl⟩, v1, v2, fin_rt rfl⟩
    by_cases hc : cells = []
    · simp only [hc, decide_true]
      simp only [ex, ev, Res.bind, Res.to, Out.seq, consD, List.getElem?_cons_zero, List.getElem?_cons_succ, CE.isNil, CE.isNon, Bool.false_eq_true, if_false, if_true, Bool.not_true, Bool.not_false, Iv.srcOf_tup, Iv.srcOf_ref, Iv.mkOf, Iv.mk, Iv.okPt_int, Iv.okPt_non, Iv.ptOf, Iv.itvf, Iv.seqOf, Iv.listOf, Iv.trkOf, Iv.itemsOf]
      subst hc
      exact done _ _ _ _
    · simp only [hc, decide_false]
      try simp only [ex, ev, Res.bind, Res.to, Out.seq, consD, List.getElem?_cons_zero, List.getElem?_cons_succ, CE.isNil, CE.isNon, Bool.false_eq_true, if_false, if_true, Bool.not_true, Bool.not_false, Iv.srcOf_tup, Iv.srcOf_ref, Iv.mkOf, Iv.mk, Iv.okPt_int, Iv.okPt_non, Iv.ptOf, Iv.itvf, Iv.seqOf, Iv.listOf, Iv.trkOf, Iv.itemsOf]
      have hlen : 0 < cells.length := List.length_pos_iff.mpr hc
      simp only [t_law_draw_3_0, ex, ev, Res.bind, Res.to, Out.seq, consD, List.getElem?_cons_zero, List.getElem?_cons_succ, CE.isNil, CE.isNon, Bool.false_eq_true, if_false, if_true, Bool.not_true, Bool.not_false, Iv.srcOf_tup, Iv.srcOf_ref, Iv.mkOf, Iv.mk, Iv.okPt_int, Iv.okPt_non, Iv.ptOf, Iv.itvf, Iv.seqOf, Iv.listOf, Iv.trkOf, Iv.itemsOf, pen_ix0, len_lst, bop, bfn, List.length_map]
      rw [if_pos (by omega)]
      simp only [ex, ev, Res.bind, Res.to, Out.seq, consD, List.getElem?_cons_zero, List.getElem?_cons_succ, CE.isNil, CE.isNon, Bool.false_eq_true, if_false, if_true, Bool.not_true, Bool.not_false, Iv.srcOf_tup, Iv.srcOf_ref, Iv.mkOf, Iv.mk, Iv.okPt_int, Iv.okPt_non, Iv.ptOf, Iv.itvf, Iv.seqOf, Iv.listOf, Iv.trkOf, Iv.itemsOf, ixf]
      have m1 := Int.emod_nonneg a (b := (cells.length : Int)) (by omega)
      have m2 := Int.emod_lt_of_pos a (b := (cells.length : Int)) (by omega)
      obtain ⟨q, hq⟩ : ∃ q : Nat, a % (cells.length : Int) = q := ⟨(a % (cells.length : Int)).toNat, by omega⟩
      rw [hq] at m2 ⊢
      have hq2 : q < cells.length := by omega
      rw [atI_nat' (by rw [List.length_map]; exact hq2), List.getElem?_map, List.getElem?_eq_getElem hq2]
      simp only [Option.map_some, ex, ev, Res.bind, Res.to, Out.seq, consD, List.getElem?_cons_zero, List.getElem?_cons_succ, CE.isNil, CE.isNon, Bool.false_eq_true, if_false, if_true, Bool.not_true, Bool.not_false, Iv.srcOf_tup, Iv.srcOf_ref, Iv.mkOf, Iv.mk, Iv.okPt_int, Iv.okPt_non, Iv.ptOf, Iv.itvf, Iv.seqOf, Iv.listOf, Iv.trkOf, Iv.itemsOf, List.length_cons, List.length_nil, Nat.zero_add, Nat.reduceAdd, Nat.reduceLT, List.set_cons_succ, List.set_cons_zero]
      exact done _ _ _ _
end
end K03

/-! ## K03R -/
namespace K03
open PySem PySem.Spec L2 Iv
theorem s_pick (k n : Nat) (P : Cell) (rest : Mem) (xs : List D) (hx : xs ≠ []) (hl : xs.length < 1000000) (hn : n ≤ 1048576) (hP : PenC n P) : ∃ x ∈ xs, ∃ P', PenC (n + 1) P' ∧ C (k + 2) n_law_pick [.ref 0, .lst xs] (P :: rest) = .ok x (P' :: rest) := by
  have h0 : 0 < xs.length := List.length_pos_iff.mpr hx
  obtain ⟨v, P', h1, h2, h3, h4⟩ := s_draw k n P rest xs.length (by omega) (by omega) hn hP
  obtain ⟨q, rfl⟩ : ∃ q : Nat, v = q := ⟨v.toNat, by omega⟩
  have hq : q < xs.length := by omega
  refine ⟨xs[q], List.getElem_mem hq, P', h1, ?_⟩
  unfold C at h4 ⊢
  rw [u_law_pick]
  simp only [b_law_pick, ex, ev, Res.bind, Res.to, Out.seq, consD, List.getElem?_cons_zero, List.getElem?_cons_succ, CE.isNil, CE.isNon, Bool.false_eq_true, if_false, if_true, Bool.not_true, Bool.not_false, Iv.srcOf_tup, Iv.srcOf_ref, Iv.mkOf, Iv.mk, Iv.okPt_int, Iv.okPt_non, Iv.ptOf, Iv.itvf, Iv.seqOf, Iv.listOf, Iv.trkOf, Iv.itemsOf, len_lst, h4, ixf]
  rw [atI_nat' hq, List.getElem?_eq_getElem hq]
  exact fin_rt rfl
theorem s_pickI (k n : Nat) (P : Cell) (rest : Mem) (xs : List Int) (hx : xs ≠ []) (hl : xs.length < 1000000) (hn : n ≤ 1048576) (hP : PenC n P) : ∃ x ∈ xs, ∃ P', PenC (n + 1) P' ∧ C (k + 2) n_law_pick [.ref 0, .lst (dI xs)] (P :: rest) = .ok (.int x) (P' :: rest) := by
  obtain ⟨d, hd, P', h1, h2⟩ := s_pick k n P rest (dI xs) (by simpa using hx) (by simpa using hl) hn hP
  obtain ⟨x, hx, rfl⟩ := List.mem_map.mp hd
  exact ⟨x, hx, P', h1, h2⟩
theorem lst_cut1 (xs : List D) (w : Nat) (h : w ≤ xs.length) : cutD xs none (some (w : Int)) = xs.take w := by
  unfold cutD
  simp only [HT.sIx_none, HT.sIx_nat, Nat.min_eq_left h, List.drop_zero, Nat.sub_zero]
theorem lst_cut2 (xs : List D) (w : Nat) (h : w ≤ xs.length) : cutD xs (some (w : Int)) none = xs.drop w := by
  unfold cutD
  simp only [HT.sIx_none, HT.sIx_nat, Nat.min_eq_left h]
  rw [← List.length_drop, List.take_length]
theorem cut_mem {q w : Nat} {r : List Int} (h : r ∈ rows (q + 1)) (hw : w < q + 1) : r.take w ++ r.drop (w + 1) ∈ rows q := by
  obtain ⟨h1, h2⟩ := rows_mem.mp h
  refine rows_mem.mpr ⟨by rw [List.length_append, List.length_take, List.length_drop]; omega, fun x hx => ?_⟩
  rcases List.mem_append.mp hx with z | z
  · exact h2 x (List.mem_of_mem_take z)
  · exact h2 x (List.mem_of_mem_drop z)
theorem s_rows (k p : Nat) (M : Mem) (hp : p ≤ 8) (r4 : List (Option D)) (a : D) (F : D → Rho) (tg : D → Option Rho) (el : Rho → Mem → Res) (htg : ∀ d, tg d = some (F d)) (hel : ∀ i : Nat, el (F (.int i)) M = C (k + 1) n_law_setting [.int p, .int i] M) :
    lcGo tg (fun _ M => .ok (.bl true) M) el (.fix (rangeD ((2 ^ p : Nat) : Int))) (Src.fix (rangeD ((2 ^ p : Nat) : Int))).fuel 0 M [] = .ok (.lst ((rows p).map fun r => .lst (dI r))) M := by
  rw [lc_all F (fun _ => true) (fun d => match d with
    | .int i => .lst (dI ((rows p).getD i.toNat []))
    | _ => d) ?_ ?_]
  · simp only [filt_true]
    rw [range_rows p _ (fun r => .lst (dI r)) fun r hr => by
      simp only [Int.toNat_natCast, List.getD_eq_getElem?_getD, rows_get hr, Option.getD_some]]
  · rw [rangeD_len]
    exact lim_pow hp
  · intro d hd
    have hd2 : ∃ i : Nat, i < 2 ^ p ∧ d = .int (i : Int) := by
      rw [rangeD_eq] at hd
      obtain ⟨x, hx, rfl⟩ := List.mem_map.mp hd
      obtain ⟨i, hi, rfl⟩ := List.mem_map.mp hx
      exact ⟨i, by simpa using hi, rfl⟩
    obtain ⟨i, hi, rfl⟩ := hd2
    refine ⟨htg _, rfl, fun _ => ?_⟩
    have hi2 : i < (rows p).length := by rw [rows_len]; exact hi
    have e := List.getElem?_eq_getElem hi2
    have n := rows_num e
    have h2 := s_setting k p (rows p)[i] M (by omega) (List.getElem_mem hi2)
    rw [n] at h2
    rw [hel, h2]
    simp only [Int.toNat_natCast, List.getD_eq_getElem?_getD, e, Option.getD_some]
/-- what a level of calls gives -/
structure Lv (cf : Nat → List D → Mem → Res) : Prop where
  draw : ∀ (n : Nat) (P : Cell) (rest : Mem) (m : Int), 0 < m → m < 1073741824 → n ≤ 1048576 → PenC n P → ∃ v P', PenC (n + 1) P' ∧ 0 ≤ v ∧ v < m ∧ cf n_law_draw [.ref 0, .int m] (P :: rest) = .ok (.int v) (P' :: rest)
  pick : ∀ (n : Nat) (P : Cell) (rest : Mem) (xs : List Int), xs ≠ [] → xs.length < 1000000 → n ≤ 1048576 → PenC n P → ∃ x ∈ xs, ∃ P', PenC (n + 1) P' ∧ cf n_law_pick [.ref 0, .lst (dI xs)] (P :: rest) = .ok (.int x) (P' :: rest)
  pickD : ∀ (n : Nat) (P : Cell) (rest : Mem) (xs : List D), xs ≠ [] → xs.length < 1000000 → n ≤ 1048576 → PenC n P → ∃ x ∈ xs, ∃ P', PenC (n + 1) P' ∧ cf n_law_pick [.ref 0, .lst xs] (P :: rest) = .ok x (P' :: rest)
  twos : ∀ (n : Nat) (M : Mem), n ≤ 64 → cf n_law_twos [.int n] M = .ok (.int ((2 ^ n : Nat) : Int)) M
  setting : ∀ (p : Nat) (r : List Int) (M : Mem), p ≤ 64 → r ∈ rows p → cf n_law_setting [.int p, .int (num r)] M = .ok (.lst (dI r)) M
  number : ∀ (r : List Int) (M : Mem), (∀ x ∈ r, x = 0 ∨ x = 1) → r.length ≤ 64 → cf n_law_number [.lst (dI r)] M = .ok (.int (num r)) M
theorem lv (k : Nat) : Lv (callN tab pds (k + 3)) :=
  ⟨fun n P rest m h1 h2 h3 h4 => s_draw (k + 2) n P rest m h1 h2 h3 h4, fun n P rest xs h1 h2 h3 h4 => s_pickI (k + 1) n P rest xs h1 h2 h3 h4, fun n P rest xs h1 h2 h3 h4 => s_pick (k + 1) n P rest xs h1 h2 h3 h4, fun n M h => s_twos (k + 2) n M h,
    fun p r M h1 h2 => s_setting (k + 2) p r M h1 h2, fun r M h1 h2 => s_number (k + 1) r M h1 h2⟩
theorem rows_lc {cf : Nat → List D → Mem → Res} (L : Lv cf) (p : Nat) (M : Mem) (hp : p ≤ 8) (F : D → Rho) (tg : D → Option Rho) (el : Rho → Mem → Res) (htg : ∀ d, tg d = some (F d)) (hel : ∀ i : Nat, el (F (.int i)) M = cf n_law_setting [.int p, .int i] M) :
    lcGo tg (fun _ M => .ok (.bl true) M) el (.fix (rangeD ((2 ^ p : Nat) : Int))) (Src.fix (rangeD ((2 ^ p : Nat) : Int))).fuel 0 M [] = .ok (.lst ((rows p).map fun r => .lst (dI r))) M := by
  rw [lc_all F (fun _ => true) (fun d => match d with
    | .int i => .lst (dI ((rows p).getD i.toNat []))
    | _ => d) ?_ ?_]
  · simp only [filt_true]
    rw [range_rows p _ (fun r => .lst (dI r)) fun r hr => by
      simp only [Int.toNat_natCast, List.getD_eq_getElem?_getD, rows_get hr, Option.getD_some]]
  · rw [rangeD_len]
    exact lim_pow hp
  · intro d hd
    have hd2 : ∃ i : Nat, i < 2 ^ p ∧ d = .int (i : Int) := by
      rw [rangeD_eq] at hd
      obtain ⟨x, hx, rfl⟩ := List.mem_map.mp hd
      obtain ⟨i, hi, rfl⟩ := List.mem_map.mp hx
      exact ⟨i, by simpa using hi, rfl⟩
    obtain ⟨i, hi, rfl⟩ := hd2
    refine ⟨htg _, rfl, fun _ => ?_⟩
    have hi2 : i < (rows p).length := by rw [rows_len]; exact hi
    have e := List.getElem?_eq_getElem hi2
    have n := rows_num e
    have h2 := L.setting p (rows p)[i] M (by omega) (List.getElem_mem hi2)
    rw [n] at h2
    rw [hel, h2]
    simp only [Int.toNat_natCast, List.getD_eq_getElem?_getD, e, Option.getD_some]
/-- a table drawn sign by sign -/
theorem table_flat {cf : Nat → List D → Mem → Res} (L : Lv cf) (p n : Nat) (P : Cell) (rest : Mem) (r2 r3 r4 r5 r6 r7 : Option D) (hp : p ≤ 8) (hn : n + 1 + 2 ^ p ≤ 1048576) (hP : PenC n P) :
    ∃ t P', PenC (n + 1 + 2 ^ p) P' ∧ Sg t ∧ t.length = 2 ^ p ∧ ex tab cf t_law_table_0_2 [some (.ref 0), some (.int p), r2, r3, r4, r5, r6, r7] (P :: rest) = .rt (.tup (dI t)) (P' :: rest) := by
  have hpp : 0 < 2 ^ p := Nat.two_pow_pos p
  obtain ⟨x, hx, P1, h1, h2⟩ := L.pick n P rest [2, 2, 3, 7] (by decide) (by decide) (by omega) hP
  simp only [t_law_table_0_2, ex, ev, Res.bind, Res.to, Out.seq, consD, List.getElem?_cons_zero, List.getElem?_cons_succ, CE.isNil, CE.isNon, Bool.false_eq_true, if_false, if_true, Bool.not_true, Bool.not_false, Iv.srcOf_tup, Iv.srcOf_ref, Iv.mkOf, Iv.mk, Iv.okPt_int, Iv.okPt_non, Iv.ptOf, Iv.itvf, Iv.seqOf, Iv.listOf, Iv.trkOf, Iv.itemsOf]
  rw [show ([D.int 2, D.int 2, D.int 3, D.int 7] : List D) = dI [2, 2, 3, 7] from rfl, h2]
  simp only [List.length_cons, List.length_nil, Nat.zero_add, Nat.reduceAdd, Nat.reduceLT, List.set_cons_succ, List.set_cons_zero, if_true]
  have hx1 : 0 < x ∧ x < 1073741824 := by
    simp only [List.mem_cons, List.not_mem_nil, or_false] at hx
    rcases hx with z | z | z | z <;> subst z <;> decide
  simp only [t_law_table_0_3, ex, ev, Res.bind, Res.to, Out.seq, consD, List.getElem?_cons_zero, List.getElem?_cons_succ, CE.isNil, CE.isNon, Bool.false_eq_true, if_false, if_true, Bool.not_true, Bool.not_false, Iv.srcOf_tup, Iv.srcOf_ref, Iv.mkOf, Iv.mk, Iv.okPt_int, Iv.okPt_non, Iv.ptOf, Iv.itvf, Iv.seqOf, Iv.listOf, Iv.trkOf, Iv.itemsOf, L.twos p _ (Nat.le_trans hp (by decide))]
  rw [if_pos ⟨Int.ofNat_le.mpr (lim_pow hp), Int.le_trans (by decide) (Int.natCast_nonneg _)⟩]
  simp only [ex, ev, Res.bind, Res.to, Out.seq, consD, List.getElem?_cons_zero, List.getElem?_cons_succ, CE.isNil, CE.isNon, Bool.false_eq_true, if_false, if_true, Bool.not_true, Bool.not_false, Iv.srcOf_tup, Iv.srcOf_ref, Iv.mkOf, Iv.mk, Iv.okPt_int, Iv.okPt_non, Iv.ptOf, Iv.itvf, Iv.seqOf, Iv.listOf, Iv.trkOf, Iv.itemsOf]
  obtain ⟨ys, M', e, ⟨P2, q1, q2⟩, q3, q4⟩ := lc_each (all := rangeD ((2 ^ p : Nat) : Int)) (tg := fun d => asg (.nm 7) d (wipeR [some (.ref 0), some (.int p), r2, some (.int x), r4, r5, r6, r7] [7]))
    (el := ev tab cf .v (.bc .int (.cons (.cmp .eq (.call n_law_draw (.cons (.var 0) (.cons (.var 3) .nil))) (.int 0)) .nil))) (I := fun j M => ∃ P', PenC (n + 1 + j) P' ∧ M = P' :: rest) (P := fun _ y => y = .int 0 ∨ y = .int 1) (by rw [rangeD_len]; exact lim_pow hp)
    (fun j d M hj hI => by
      obtain ⟨P', i1, rfl⟩ := hI
      have hjp : j < 2 ^ p := by
        have z := (List.getElem?_eq_some_iff.mp hj).1
        rwa [rangeD_len] at z
      obtain ⟨v, P'', i2, i3, i4, i5⟩ := L.draw (n + 1 + j) P' rest x hx1.1 hx1.2 (by omega) i1
      refine ⟨_, rfl, .int (if decide (v = 0) = true then 1 else 0), P'' :: rest, ?_, ⟨P'', i2, rfl⟩, ?_⟩
      · simp only [ex, ev, Res.bind, Res.to, Out.seq, consD, List.getElem?_cons_zero, List.getElem?_cons_succ, CE.isNil, CE.isNon, Bool.false_eq_true, if_false, if_true, Bool.not_true, Bool.not_false, Iv.srcOf_tup, Iv.srcOf_ref, Iv.mkOf, Iv.mk, Iv.okPt_int, Iv.okPt_non, Iv.ptOf, Iv.itvf, Iv.seqOf, Iv.listOf, Iv.trkOf, Iv.itemsOf, wipeR, List.set_cons_succ, List.set_cons_zero, i5, cop, cmpB, eqB_int, bfn]
      · split
        · exact .inr rfl
        · exact .inl rfl) (Src.fix (rangeD ((2 ^ p : Nat) : Int))).fuel 0 (P1 :: rest) [] (Nat.zero_le _) (by show _ < (rangeD ((2 ^ p : Nat) : Int)).length + 1 + 0; omega) (Nat.zero_le _) ⟨P1, h1, rfl⟩
  rw [rangeD_len] at q1 q4
  simp only [List.nil_append] at e
  obtain ⟨t, rfl, ht⟩ := all_ints (ys := ys) fun y hy => by
    obtain ⟨_, _, z⟩ := q3 y hy
    exact z
  refine ⟨t, P2, q1, ht, by simpa using q4, ?_⟩
  simp only [ex, ev, Res.bind, Res.to, Out.seq, consD, List.getElem?_cons_zero, List.getElem?_cons_succ, CE.isNil, CE.isNon, Bool.false_eq_true, if_false, if_true, Bool.not_true, Bool.not_false, Iv.srcOf_tup, Iv.srcOf_ref, Iv.mkOf, Iv.mk, Iv.okPt_int, Iv.okPt_non, Iv.ptOf, Iv.itvf, Iv.seqOf, Iv.listOf, Iv.trkOf, Iv.itemsOf] at e
  rw [e, q2]
  rfl
theorem table_part {cf : Nat → List D → Mem → Res} (L : Lv cf) (q w : Nat) (f : List Int → Int) (M : Mem) (r2 r3 r4 r7 : Option D) (hp : q + 1 ≤ 8) (hw : w < q + 1) :
    ex tab cf t_law_table_1_1 [some (.ref 0), some (.int ((q + 1 : Nat) : Int)), r2, r3, r4, some (.tup (dI (tbl q f))), some (.int (w : Int)), r7] M = .rt (.tup (dI (tbl (q + 1) fun r => f (r.take w ++ r.drop (w + 1))))) M := by
  simp only [t_law_table_1_1, ex, ev, Res.bind, Res.to, Out.seq, consD, List.getElem?_cons_zero, List.getElem?_cons_succ, CE.isNil, CE.isNon, Bool.false_eq_true, if_false, if_true, Bool.not_true, Bool.not_false, Iv.srcOf_tup, Iv.srcOf_ref, Iv.mkOf, Iv.mk, Iv.okPt_int, Iv.okPt_non, Iv.ptOf, Iv.itvf, Iv.seqOf, Iv.listOf, Iv.trkOf, Iv.itemsOf, L.twos (q + 1) _ (Nat.le_trans hp (by decide))]
  rw [if_pos ⟨Int.ofNat_le.mpr (lim_pow hp), Int.le_trans (by decide) (Int.natCast_nonneg _)⟩]
  simp only [ex, ev, Res.bind, Res.to, Out.seq, consD, List.getElem?_cons_zero, List.getElem?_cons_succ, CE.isNil, CE.isNon, Bool.false_eq_true, if_false, if_true, Bool.not_true, Bool.not_false, Iv.srcOf_tup, Iv.srcOf_ref, Iv.mkOf, Iv.mk, Iv.okPt_int, Iv.okPt_non, Iv.ptOf, Iv.itvf, Iv.seqOf, Iv.listOf, Iv.trkOf, Iv.itemsOf]
  rw [rows_lc L (q + 1) M hp (fun d => [some (.ref 0), some (.int ((q + 1 : Nat) : Int)), r2, r3, r4, some (.tup (dI (tbl q f))), some (.int (w : Int)), some d]) _ _ ?_ ?_]
  · simp only [ex, ev, Res.bind, Res.to, Out.seq, consD, List.getElem?_cons_zero, List.getElem?_cons_succ, CE.isNil, CE.isNon, Bool.false_eq_true, if_false, if_true, Bool.not_true, Bool.not_false, Iv.srcOf_tup, Iv.srcOf_ref, Iv.mkOf, Iv.mk, Iv.okPt_int, Iv.okPt_non, Iv.ptOf, Iv.itvf, Iv.seqOf, Iv.listOf, Iv.trkOf, Iv.itemsOf, List.length_cons, List.length_nil, Nat.zero_add, Nat.reduceAdd, Nat.reduceLT, List.set_cons_succ, List.set_cons_zero]
    simp only [t_law_table_1_2, ex, ev, Res.bind, Res.to, Out.seq, consD, List.getElem?_cons_zero, List.getElem?_cons_succ, CE.isNil, CE.isNon, Bool.false_eq_true, if_false, if_true, Bool.not_true, Bool.not_false, Iv.srcOf_tup, Iv.srcOf_ref, Iv.mkOf, Iv.mk, Iv.okPt_int, Iv.okPt_non, Iv.ptOf, Iv.itvf, Iv.seqOf, Iv.listOf, Iv.trkOf, Iv.itemsOf]
    rw [lc_all (fun d => [some (.ref 0), some (.int ((q + 1 : Nat) : Int)), r2, r3, some (.lst ((rows (q + 1)).map fun r => .lst (dI r))), some (.tup (dI (tbl q f))), some (.int (w : Int)), some d]) (fun _ => true) (fun d => match d with
      | .lst xs => .int (f ((unI xs).take w ++ (unI xs).drop (w + 1)))
      | _ => d) ?_ ?_]
    · simp only [ex, ev, Res.bind, Res.to, Out.seq, consD, List.getElem?_cons_zero, List.getElem?_cons_succ, CE.isNil, CE.isNon, Bool.false_eq_true, if_false, if_true, Bool.not_true, Bool.not_false, Iv.srcOf_tup, Iv.srcOf_ref, Iv.mkOf, Iv.mk, Iv.okPt_int, Iv.okPt_non, Iv.ptOf, Iv.itvf, Iv.seqOf, Iv.listOf, Iv.trkOf, Iv.itemsOf, filt_true, bfn, List.map_map]
      have e : (rows (q + 1)).map ((fun d : D => match d with
        | .lst xs => D.int (f ((unI xs).take w ++ (unI xs).drop (w + 1)))
        | _ => d) ∘ fun r => D.lst (dI r)) = dI (tbl (q + 1) fun r => f (r.take w ++ r.drop (w + 1))) := by
        rw [dI_tbl]
        apply List.map_congr_left
        intro r hr
        simp only [Function.comp, unI_dI]
      rw [e]
    · rw [List.length_map, rows_len]
      exact lim_pow hp
    · intro d hd
      obtain ⟨r, hr, rfl⟩ := List.mem_map.mp hd
      refine ⟨rfl, rfl, fun _ => ?_⟩
      have hl := (rows_mem.mp hr).1
      have hm := cut_mem hr hw
      simp only [ex, ev, Res.bind, Res.to, Out.seq, consD, List.getElem?_cons_zero, List.getElem?_cons_succ, CE.isNil, CE.isNon, Bool.false_eq_true, if_false, if_true, Bool.not_true, Bool.not_false, Iv.srcOf_tup, Iv.srcOf_ref, Iv.mkOf, Iv.mk, Iv.okPt_int, Iv.okPt_non, Iv.ptOf, Iv.itvf, Iv.seqOf, Iv.listOf, Iv.trkOf, Iv.itemsOf, unI_dI, slf, bop]
      rw [lst_cut1 _ w (by rw [List.length_map]; omega)]
      rw [show (w : Int) + 1 = ((w + 1 : Nat) : Int) from rfl]
      try simp only [ex, ev, Res.bind, Res.to, Out.seq, consD, List.getElem?_cons_zero, List.getElem?_cons_succ, CE.isNil, CE.isNon, Bool.false_eq_true, if_false, if_true, Bool.not_true, Bool.not_false, Iv.srcOf_tup, Iv.srcOf_ref, Iv.mkOf, Iv.mk, Iv.okPt_int, Iv.okPt_non, Iv.ptOf, Iv.itvf, Iv.seqOf, Iv.listOf, Iv.trkOf, Iv.itemsOf, slf, bop]
      rw [lst_cut2 _ (w + 1) (by rw [List.length_map]; omega)]
      try simp only [ex, ev, Res.bind, Res.to, Out.seq, consD, List.getElem?_cons_zero, List.getElem?_cons_succ, CE.isNil, CE.isNon, Bool.false_eq_true, if_false, if_true, Bool.not_true, Bool.not_false, Iv.srcOf_tup, Iv.srcOf_ref, Iv.mkOf, Iv.mk, Iv.okPt_int, Iv.okPt_non, Iv.ptOf, Iv.itvf, Iv.seqOf, Iv.listOf, Iv.trkOf, Iv.itemsOf, slf, bop]
      rw [if_pos (by rw [List.length_take, List.length_drop, List.length_map]; show _ ≤ 1000000; omega)]
      rw [show (dI r).take w ++ (dI r).drop (w + 1) = dI (r.take w ++ r.drop (w + 1)) by
        unfold dI
        rw [List.map_append, List.map_take, List.map_drop]]
      simp only [ex, ev, Res.bind, Res.to, Out.seq, consD, List.getElem?_cons_zero, List.getElem?_cons_succ, CE.isNil, CE.isNon, Bool.false_eq_true, if_false, if_true, Bool.not_true, Bool.not_false, Iv.srcOf_tup, Iv.srcOf_ref, Iv.mkOf, Iv.mk, Iv.okPt_int, Iv.okPt_non, Iv.ptOf, Iv.itvf, Iv.seqOf, Iv.listOf, Iv.trkOf, Iv.itemsOf, L.number _ M (rows_mem.mp hm).2 (by rw [(rows_mem.mp hm).1]; omega), ixf]
      rw [atI_nat' (by rw [List.length_map, tbl_len]; exact num_lt hm), List.getElem?_map, tbl_get hm]
      rfl
  · intro d
    rfl
  · intro i
    rfl
theorem table_body {cf : Nat → List D → Mem → Res} (L : Lv cf) (p n : Nat) (P : Cell) (rest : Mem) (hp : p ≤ 8) (hn : n + 300 * (p + 1) ≤ 1048576) (hP : PenC n P)
    (hrec : ∀ q, p = q + 1 → ∀ n' P', PenC n' P' → n' + 300 * (q + 1) ≤ 1048576 → ∃ t P'', PenC (n' + 300 * (q + 1)) P'' ∧ Sg t ∧ t.length = 2 ^ q ∧ cf n_law_table [.ref 0, .int q] (P' :: rest) = .ok (.tup (dI t)) (P'' :: rest)) :
    ∃ t P', PenC (n + 300 * (p + 1)) P' ∧ Sg t ∧ t.length = 2 ^ p ∧ ex tab cf b_law_table [some (.ref 0), some (.int p), none, none, none, none, none, none] (P :: rest) = .rt (.tup (dI t)) (P' :: rest) := by
  have h2p : 2 ^ p ≤ 256 := Nat.le_trans (Nat.pow_le_pow_right (by decide) hp) (by decide)
  obtain ⟨v, P1, h1, h2, h3, h4⟩ := L.draw n P rest 4 (by decide) (by decide) (by omega) hP
  have e0 : ∀ Z, ex tab cf t_law_table_0_1 [some (.ref 0), some (.int p), some (.int v), none, none, none, none, none] (P1 :: rest) = Z → ex tab cf b_law_table [some (.ref 0), some (.int p), none, none, none, none, none, none] (P :: rest) = Z := by
    intro Z hZ
    simp only [b_law_table, t_law_table_0_0, ex, ev, Res.bind, Res.to, Out.seq, consD, List.getElem?_cons_zero, List.getElem?_cons_succ, CE.isNil, CE.isNon, Bool.false_eq_true, if_false, if_true, Bool.not_true, Bool.not_false, Iv.srcOf_tup, Iv.srcOf_ref, Iv.mkOf, Iv.mk, Iv.okPt_int, Iv.okPt_non, Iv.ptOf, Iv.itvf, Iv.seqOf, Iv.listOf, Iv.trkOf, Iv.itemsOf, h4, List.length_cons, List.length_nil, Nat.zero_add, Nat.reduceAdd, Nat.reduceLT, List.set_cons_succ, List.set_cons_zero]
    exact hZ
  by_cases hv : v = 0 ∧ 0 < p
  · obtain ⟨hv, hpos⟩ := hv
    obtain ⟨q, rfl⟩ : ∃ q, p = q + 1 := ⟨p - 1, by omega⟩
    obtain ⟨t, P2, p1, p2, p3, p4⟩ := hrec q rfl (n + 1) P1 h1 (by omega)
    obtain ⟨w, P3, d1, d2, d3, d4⟩ := L.draw (n + 1 + 300 * (q + 1)) P2 rest ((q + 1 : Nat) : Int) (by omega) (by omega) (by omega) p1
    obtain ⟨w, rfl⟩ : ∃ x : Nat, w = x := ⟨w.toNat, by omega⟩
    obtain ⟨f, rfl⟩ := tbl_of p3
    have hw : w < q + 1 := by omega
    refine ⟨tbl (q + 1) fun r => f (r.take w ++ r.drop (w + 1)), P3, d1.mono (by omega), ?_, tbl_len _ _, e0 _ ?_⟩
    · refine sg_tbl.mpr fun r hr => ?_
      exact sg_tbl.mp p2 _ (cut_mem hr hw)
    · subst hv
      have hz := table_part L q w f (P3 :: rest) (some (.int 0)) none none none hp hw
      simp only [t_law_table_0_1, ex, ev, Res.bind, Res.to, Out.seq, consD, List.getElem?_cons_zero, List.getElem?_cons_succ, CE.isNil, CE.isNon, Bool.false_eq_true, if_false, if_true, Bool.not_true, Bool.not_false, Iv.srcOf_tup, Iv.srcOf_ref, Iv.mkOf, Iv.mk, Iv.okPt_int, Iv.okPt_non, Iv.ptOf, Iv.itvf, Iv.seqOf, Iv.listOf, Iv.trkOf, Iv.itemsOf, cop, cmpB, eqB_int, decide_true, show decide ((0 : Int) < ((q + 1 : Nat) : Int)) = true from decide_eq_true (by omega)]
      simp only [t_law_table_1_0, ex, ev, Res.bind, Res.to, Out.seq, consD, List.getElem?_cons_zero, List.getElem?_cons_succ, CE.isNil, CE.isNon, Bool.false_eq_true, if_false, if_true, Bool.not_true, Bool.not_false, Iv.srcOf_tup, Iv.srcOf_ref, Iv.mkOf, Iv.mk, Iv.okPt_int, Iv.okPt_non, Iv.ptOf, Iv.itvf, Iv.seqOf, Iv.listOf, Iv.trkOf, Iv.itemsOf, bop]
      rw [show ((q + 1 : Nat) : Int) - 1 = (q : Int) by omega, p4]
      simp only [ex, ev, Res.bind, Res.to, Out.seq, consD, List.getElem?_cons_zero, List.getElem?_cons_succ, CE.isNil, CE.isNon, Bool.false_eq_true, if_false, if_true, Bool.not_true, Bool.not_false, Iv.srcOf_tup, Iv.srcOf_ref, Iv.mkOf, Iv.mk, Iv.okPt_int, Iv.okPt_non, Iv.ptOf, Iv.itvf, Iv.seqOf, Iv.listOf, Iv.trkOf, Iv.itemsOf, d4]
      rw [show asg (.tp (.cons (.nm 5) (.cons (.nm 6) .nil))) (.tup [.tup (dI (tbl q f)), .int (w : Int)]) [some (D.ref 0), some (D.int ((q + 1 : Nat) : Int)), some (D.int 0), none, none, none, none, none] = some [some (D.ref 0), some (D.int ((q + 1 : Nat) : Int)), some (D.int 0), none, none, some (.tup (dI (tbl q f))), some (.int w), none] from rfl]
      simp only [hz]
  · obtain ⟨t, P2, q1, q2, q3, q4⟩ := table_flat L p (n + 1) P1 rest (some (.int v)) none none none none none hp (by omega) h1
    refine ⟨t, P2, q1.mono (by omega), q2, q3, e0 _ ?_⟩
    simp only [t_law_table_0_1, ex, ev, Res.bind, Res.to, Out.seq, consD, List.getElem?_cons_zero, List.getElem?_cons_succ, CE.isNil, CE.isNon, Bool.false_eq_true, if_false, if_true, Bool.not_true, Bool.not_false, Iv.srcOf_tup, Iv.srcOf_ref, Iv.mkOf, Iv.mk, Iv.okPt_int, Iv.okPt_non, Iv.ptOf, Iv.itvf, Iv.seqOf, Iv.listOf, Iv.trkOf, Iv.itemsOf, cop, cmpB, eqB_int]
    by_cases hv0 : v = 0
    · have hp0 : ¬ (0 : Int) < (p : Int) := fun z => hv ⟨hv0, by omega⟩
      subst hv0
      simp only [decide_true, hp0, decide_false]
      try simp only [ex, ev, Res.bind, Res.to, Out.seq, consD, List.getElem?_cons_zero, List.getElem?_cons_succ, CE.isNil, CE.isNon, Bool.false_eq_true, if_false, if_true, Bool.not_true, Bool.not_false, Iv.srcOf_tup, Iv.srcOf_ref, Iv.mkOf, Iv.mk, Iv.okPt_int, Iv.okPt_non, Iv.ptOf, Iv.itvf, Iv.seqOf, Iv.listOf, Iv.trkOf, Iv.itemsOf]
      exact q4
    · simp only [hv0, decide_false]
      try simp only [ex, ev, Res.bind, Res.to, Out.seq, consD, List.getElem?_cons_zero, List.getElem?_cons_succ, CE.isNil, CE.isNon, Bool.false_eq_true, if_false, if_true, Bool.not_true, Bool.not_false, Iv.srcOf_tup, Iv.srcOf_ref, Iv.mkOf, Iv.mk, Iv.okPt_int, Iv.okPt_non, Iv.ptOf, Iv.itvf, Iv.seqOf, Iv.listOf, Iv.trkOf, Iv.itemsOf]
      exact q4
theorem s_table (rest : Mem) : ∀ (p k n : Nat) (P : Cell), p ≤ 8 → n + 300 * (p + 1) ≤ 1048576 → PenC n P → ∃ t P', PenC (n + 300 * (p + 1)) P' ∧ Sg t ∧ t.length = 2 ^ p ∧ C (k + p + 4) n_law_table [.ref 0, .int p] (P :: rest) = .ok (.tup (dI t)) (P' :: rest) := by
  intro p
  induction p with
  | zero =>
    intro k n P hp hn hP
    obtain ⟨t, P', h1, h2, h3, h4⟩ := table_body (lv k) 0 n P rest hp hn hP (fun q hq => by cases hq)
    refine ⟨t, P', h1, h2, h3, ?_⟩
    unfold C
    rw [u_law_table, h4]
    exact fin_rt rfl
  | succ q ih =>
    intro k n P hp hn hP
    obtain ⟨t, P', h1, h2, h3, h4⟩ := table_body (lv (k + q + 1)) (q + 1) n P rest hp hn hP (fun q' hq n' P' hP' hn' => by
      cases hq
      exact ih k n' P' (by omega) hn' hP')
    refine ⟨t, P', h1, h2, h3, ?_⟩
    unfold C
    rw [show k + (q + 1) + 4 = (k + q + 4) + 1 by omega, u_law_table, h4]
    exact fin_rt rfl
end K03

/-! ## K03S -/
namespace K03
open PySem PySem.Spec L2 Iv
theorem ins_eq : ∀ (s : List Int) (j : Nat) (b : Int), j ≤ s.length → ins s j b = s.take j ++ b :: s.drop j
  | s, 0, b, _ => by rw [ins_zero]; rfl
  | [], j + 1, b, h => by simp at h
  | x :: s, j + 1, b, h => by
    simp only [ins, List.take_succ_cons, List.drop_succ_cons, List.cons_append]
    rw [ins_eq s j b (by simpa using h)]
/-- a place taken out -/
def cut (j : Nat) (r : List Int) : List Int := r.take j ++ r.drop (j + 1)
theorem cut_ins : ∀ (s : List Int) (j : Nat) (b : Int), j ≤ s.length → cut j (ins s j b) = s
  | s, 0, b, _ => by rw [ins_zero]; rfl
  | [], j + 1, b, h => by simp at h
  | x :: s, j + 1, b, h => by
    show (x :: ins s j b).take (j + 1) ++ (x :: ins s j b).drop (j + 1 + 1) = _
    simp only [List.take_succ_cons, List.drop_succ_cons, List.cons_append]
    have := cut_ins s j b (by simpa using h)
    unfold cut at this
    rw [this]
theorem ins_cut : ∀ (r : List Int) (j : Nat), j < r.length → ins (cut j r) j (r.getD j 0) = r
  | [], j, h => by simp at h
  | x :: r, 0, h => by
    show ins (r) 0 x = _
    rw [ins_zero]
  | x :: r, j + 1, h => by
    have ih := ins_cut r j (by simpa using h)
    have e : cut (j + 1) (x :: r) = x :: cut j r := rfl
    rw [e]
    show x :: ins (cut j r) j (r.getD j 0) = _
    rw [ih]
theorem row_ins {p j : Nat} {r : List Int} (h : r ∈ rows (p + 1)) (hj : j < p + 1) : ∃ b, (b = 0 ∨ b = 1) ∧ cut j r ∈ rows p ∧ r = ins (cut j r) j b := by
  obtain ⟨h1, h2⟩ := rows_mem.mp h
  refine ⟨r.getD j 0, ?_, cut_mem h hj, (ins_cut r j (by omega)).symm⟩
  rw [List.getD_eq_getElem?_getD, List.getElem?_eq_getElem (by omega), Option.getD_some]
  exact h2 _ (List.getElem_mem _)
theorem dI_app (a b : List Int) : dI a ++ dI b = dI (a ++ b) := by
  unfold dI
  rw [List.map_append]
/-- a loop over the rows' numbers -/
theorem for_rows {body : Rho → Mem → Out} {tg : D → Rho → Option Rho} {p : Nat} {I : Nat → Rho → Mem → Prop}
    (hh : ∀ (j : Nat) (s : List Int) (r : Rho) (M : Mem), (rows p)[j]? = some s → num s = j → I j r M → ∃ r1, tg (.int (j : Int)) r = some r1 ∧ ∃ r2 M2, body r1 M = .nx r2 M2 ∧ I (j + 1) r2 M2) {r : Rho} {M : Mem} (h0 : I 0 r M) :
    ∃ r' M', forGo tg body (.fix (rangeD ((2 ^ p : Nat) : Int))) (Src.fix (rangeD ((2 ^ p : Nat) : Int))).fuel 0 r M = .nx r' M' ∧ I (2 ^ p) r' M' := by
  obtain ⟨r', M', e, h⟩ := for_fix (tg := tg) (body := body) (all := rangeD ((2 ^ p : Nat) : Int)) (I := I) (fun j d r M hj hI => by
    have hlt : j < 2 ^ p := by
      have z := (List.getElem?_eq_some_iff.mp hj).1
      rwa [rangeD_len] at z
    rw [rangeD_get _ _ hlt] at hj
    cases hj
    have hl : j < (rows p).length := by rw [rows_len]; exact hlt
    exact hh j _ r M (List.getElem?_eq_getElem hl) (rows_num (List.getElem?_eq_getElem hl)) hI) (Src.fix (rangeD ((2 ^ p : Nat) : Int))).fuel 0 r M (Nat.zero_le _) (by show _ < (rangeD ((2 ^ p : Nat) : Int)).length + 1 + 0; omega) h0
  rw [rangeD_len] at h
  exact ⟨r', M', e, h⟩
theorem slf_take {xs : List D} {j : Nat} (M : Mem) (h : j ≤ xs.length) : slf (.lst xs) .non (.int (j : Int)) M = .ok (.lst (xs.take j)) M := by
  show Res.ok (.lst (cutD xs none (some (j : Int)))) M = _
  rw [lst_cut1 _ _ h]
theorem slf_drop {xs : List D} {j : Nat} (M : Mem) (h : j ≤ xs.length) : slf (.lst xs) (.int (j : Int)) .non M = .ok (.lst (xs.drop j)) M := by
  show Res.ok (.lst (cutD xs (some (j : Int)) none)) M = _
  rw [lst_cut2 _ _ h]
theorem ixf_sq {d : D} {xs : List D} {x : D} {n : Nat} (h : sqD d = some xs) (e : xs[n]? = some x) (M : Mem) : ixf d (.int (n : Int)) M = .ok x M := by
  simp only [ixf, sqD_seq h, atI_nat' (List.getElem?_eq_some_iff.mp e).1, e]
theorem Tb.get {d : D} {p : Nat} {f : List Int → Int} (T : Tb d p f) {r : List Int} (hr : r ∈ rows p) (M : Mem) : ixf d (.int (num r)) M = .ok (.int (f r)) M := by
  refine ixf_sq T.sq ?_ M
  rw [List.getElem?_map, tbl_get hr]
  rfl
theorem app_cell (M : Mem) (xs : List D) (x : D) (hl : xs.length < lim) (hg : gr x = true) : mfn .append (.ref M.length) [x] (M ++ [.lst xs]) = .ok .non (M ++ [.lst (xs ++ [x])]) := by
  have e : (M ++ [Cell.lst xs])[M.length]? = some (.lst xs) := by simp
  simp only [mfn, e]
  rw [if_pos ⟨hl, hg⟩]
  simp [setCell]
theorem cell_isList (M : Mem) (xs : List D) : (listOf (M ++ [Cell.lst xs]) (.ref M.length)).isSome = true := by
  have e : (M ++ [Cell.lst xs])[M.length]? = some (.lst xs) := by simp
  show (match (M ++ [Cell.lst xs])[M.length]? with
    | some (.lst xs) => some xs
    | _ => none).isSome = true
  rw [e]
  rfl
theorem tuple_cell (M : Mem) (xs : List D) : bfn .tuple [.ref M.length] (M ++ [Cell.lst xs]) = .ok (.tup xs) (M ++ [Cell.lst xs]) := by
  have e : (M ++ [Cell.lst xs])[M.length]? = some (.lst xs) := by simp
  simp only [bfn, Iv.listOf, e]
theorem grs_nil : grs [] = true := by simp [grs]
theorem gr_dI : ∀ xs : List Int, grs (dI xs) = true
  | [] => rfl
  | x :: xs => by
    show (gr (.int x) && grs (dI xs)) = true
    rw [gr_dI xs]
    rfl
theorem fin_cut {M : Mem} {d : D} {c : Cell} (h : gr d = true) (hr : ∀ i, d ≠ .ref i) : Iv.fin false M.length (.rt d (M ++ [c])) = .ok d M := by
  show back false M.length d (M ++ [c]) = _
  unfold back
  rw [if_neg (by simp)]
  cases d <;> first | exact absurd rfl (hr _) | skip
  all_goals
    simp only
    rw [if_pos h]
    simp
theorem s_pen (k : Nat) (ns : List Int) (hl : ns.length ≤ 63) : ∃ P, PenC 0 P ∧ C (k + 1) n_law_pen [.sld (dI ns)] [] = .ok (.ref 0) [P] := by
  have hcut : ∃ cs : List Int, cutD (dI ns) none (some 60) = dI cs ∧ cs.length ≤ 63 := by
    unfold cutD
    refine ⟨(ns.drop (HT.sIx (dI ns).length 0 none)).take (HT.sIx (dI ns).length (dI ns).length (some 60) - HT.sIx (dI ns).length 0 none), ?_, ?_⟩
    · unfold dI
      rw [← List.map_drop, ← List.map_take]
    · rw [List.length_take, List.length_drop]
      omega
  obtain ⟨cs, hc, hcl⟩ := hcut
  refine ⟨pen cs 0 0, ⟨cs, 0, 0, rfl, Int.le_refl _, Int.le_refl _, Int.le_refl _, Nat.le_trans hcl (by decide)⟩, ?_⟩
  unfold C
  rw [u_law_pen]
  simp only [b_law_pen, ex, ev, Res.bind, Res.to, Out.seq, consD, List.getElem?_cons_zero, List.getElem?_cons_succ, CE.isNil, CE.isNon, Bool.false_eq_true, if_false, if_true, Bool.not_true, Bool.not_false, Iv.srcOf_tup, Iv.srcOf_ref, Iv.mkOf, Iv.mk, Iv.okPt_int, Iv.okPt_non, Iv.ptOf, Iv.itvf, Iv.seqOf, Iv.listOf, Iv.trkOf, Iv.itemsOf, slf, hc]
  rw [lc_all (fun d => [some (.sld (dI ns)), some d]) (fun _ => true) (fun d => d) ?_ ?_]
  · have e : ((dI cs).filter fun _ => true).map (fun d => d) = dI cs := by
      rw [filt_true, List.map_id']
    rw [e]
    have g : grs [D.lst (dI cs), D.int 0, D.int 0] = true := by
      show (gr (.lst (dI cs)) && true) = true
      rw [show gr (.lst (dI cs)) = true from gr_dI cs]
      rfl
    simp only [ex, ev, Res.bind, Res.to, Out.seq, consD, List.getElem?_cons_zero, List.getElem?_cons_succ, CE.isNil, CE.isNon, Bool.false_eq_true, if_false, if_true, Bool.not_true, Bool.not_false, Iv.srcOf_tup, Iv.srcOf_ref, Iv.mkOf, Iv.mk, Iv.okPt_int, Iv.okPt_non, Iv.ptOf, Iv.itvf, Iv.seqOf, Iv.listOf, Iv.trkOf, Iv.itemsOf, g]
    rfl
  · rw [List.length_map]
    exact Nat.le_trans hcl (by decide)
  · intro d hd
    obtain ⟨x, hx, rfl⟩ := List.mem_map.mp hd
    exact ⟨rfl, rfl, fun _ => rfl⟩
end K03

/-! ## K03T -/
namespace K03
open PySem PySem.Spec L2 Iv
theorem s_number_in (k : Nat) (r : List Int) (d : D) (M : Mem) (e : sqD d = some (dI r)) (hr : ∀ x ∈ r, x = 0 ∨ x = 1) : C (k + 1) n_number_in [d] M = .ok (.int (num r)) M := by
  unfold C
  rw [u_number_in]
  obtain ⟨r', M', h, hM, x2, hr'⟩ := for_fix (tg := fun d r => asg (.nm 2) d r) (body := ex tab (callN tab pds k) l_number_in_0) (all := dI r) (I := fun j ρ M' => M' = M ∧ ∃ x2, ρ = [some d, some (.int (num (r.take j))), x2])
    (fun j y ρ M1 hj hI => by
      obtain ⟨rfl, x2, rfl⟩ := hI
      rw [List.getElem?_map] at hj
      obtain ⟨x, hx, rfl⟩ := Option.map_eq_some_iff.mp hj
      refine ⟨[some d, some (.int (num (r.take j))), some (.int x)], rfl, [some d, some (.int (num (r.take (j + 1)))), some (.int x)], M1, ?_, rfl, _, rfl⟩
      have hm : bop .mul (.int 2) (.int (num (r.take j))) M1 = .ok (.int (2 * (num (r.take j) : Int))) M1 := by
        simp only [bop]
        rw [if_pos (.inl ⟨by decide, by decide⟩)]
      simp only [l_number_in_0, ex, ev, Res.bind, Res.to, Out.seq, consD, List.getElem?_cons_zero, List.getElem?_cons_succ, CE.isNil, CE.isNon, Bool.false_eq_true, if_false, if_true, Bool.not_true, Bool.not_false, Iv.srcOf_tup, Iv.srcOf_ref, Iv.mkOf, Iv.mk, Iv.okPt_int, Iv.okPt_non, Iv.ptOf, hm, bop_addI, List.length_cons, List.length_nil, Nat.zero_add, Nat.reduceAdd, Nat.reduceLT, List.set_cons_succ, List.set_cons_zero]
      have et : num (r.take (j + 1)) = 2 * num (r.take j) + x.toNat := by
        rw [List.take_add_one, hx]
        exact num_append _ _
      have hx2 := hr x (List.mem_of_getElem? hx)
      rw [et]
      rcases hx2 with rfl | rfl
      · rw [show ((2 * num (r.take j) + (0 : Int).toNat : Nat) : Int) = 2 * (num (r.take j) : Int) + 0 by
          show ((2 * num (r.take j) + 0 : Nat) : Int) = _
          omega]
      · rw [show ((2 * num (r.take j) + (1 : Int).toNat : Nat) : Int) = 2 * (num (r.take j) : Int) + 1 by
          show ((2 * num (r.take j) + 1 : Nat) : Int) = _
          omega])
    (Src.fix (dI r)).fuel 0 [some d, some (.int 0), none] M (Nat.zero_le _) (by show _ < (dI r).length + 1 + 0; omega) ⟨rfl, none, rfl⟩
  subst hM hr'
  simp only [b_number_in, ex, ev, Res.bind, Res.to, Out.seq, consD, List.getElem?_cons_zero, List.getElem?_cons_succ, CE.isNil, CE.isNon, Bool.false_eq_true, if_false, if_true, Bool.not_true, Bool.not_false, Iv.srcOf_tup, Iv.srcOf_ref, Iv.mkOf, Iv.mk, Iv.okPt_int, Iv.okPt_non, Iv.ptOf, itvf_sq e, List.length_cons, List.length_nil, Nat.zero_add, Nat.reduceAdd, Nat.reduceLT, List.set_cons_succ, List.set_cons_zero]
  rw [h]
  rw [List.length_map, List.take_length]
  simp only [ex, ev, Res.bind, Res.to, Out.seq, consD, List.getElem?_cons_zero, List.getElem?_cons_succ, CE.isNil, CE.isNon, Bool.false_eq_true, if_false, if_true, Bool.not_true, Bool.not_false, Iv.srcOf_tup, Iv.srcOf_ref, Iv.mkOf, Iv.mk, Iv.okPt_int, Iv.okPt_non, Iv.ptOf]
  exact fin_rt rfl
theorem bit_at : ∀ (p : Nat) (r : List Int) (j : Nat) (h : j < r.length), r.length = p → (∀ x ∈ r, x = 0 ∨ x = 1) → ((num r : Nat) : Int) / 2 ^ (p - 1 - j) % 2 = r[j]
  | p, [], j, h, _, _ => by simp at h
  | p, x :: r, j, h, hp, hs => by
    subst hp
    have hlt : num r < 2 ^ r.length := num_lt (rows_mem.mpr ⟨rfl, fun y hy => hs y (List.mem_cons_of_mem _ hy)⟩)
    have hn : num (x :: r) = x.toNat * 2 ^ r.length + num r := rfl
    rw [hn]
    cases j with
    | zero =>
      rw [show (x :: r).length - 1 - 0 = r.length by simp]
      show ((x.toNat * 2 ^ r.length + num r : Nat) : Int) / 2 ^ r.length % 2 = x
      have e : (((x.toNat * 2 ^ r.length + num r) / 2 ^ r.length % 2 : Nat) : Int) = ((x.toNat * 2 ^ r.length + num r : Nat) : Int) / 2 ^ r.length % 2 := by push_cast; rfl
      rw [← e, Nat.mul_comm, Nat.mul_add_div (Nat.two_pow_pos _), Nat.div_eq_of_lt hlt]
      rcases hs x List.mem_cons_self with rfl | rfl <;> rfl
    | succ j =>
      have hj : j < r.length := by simpa using h
      have ih := bit_at r.length r j hj rfl fun y hy => hs y (List.mem_cons_of_mem _ hy)
      rw [show (x :: r).length - 1 - (j + 1) = r.length - 1 - j by simp; omega]
      show ((x.toNat * 2 ^ r.length + num r : Nat) : Int) / 2 ^ (r.length - 1 - j) % 2 = r[j]
      rw [← ih]
      obtain ⟨q, hq⟩ : ∃ q, r.length = (r.length - 1 - j) + (q + 1) := ⟨j, by omega⟩
      generalize hw : r.length - 1 - j = w at *
      have e2 : x.toNat * 2 ^ r.length + num r = 2 ^ w * (2 * (x.toNat * 2 ^ q)) + num r := by
        rw [hq, Nat.pow_add, Nat.pow_succ]
        congr 1
        rw [Nat.mul_comm, Nat.mul_assoc]
        congr 1
        rw [Nat.mul_comm (2 ^ q) 2, Nat.mul_assoc, Nat.mul_comm (2 ^ q) x.toNat]
      rw [e2]
      have e3 : (((2 ^ w * (2 * (x.toNat * 2 ^ q)) + num r) / 2 ^ w % 2 : Nat) : Int) = ((2 ^ w * (2 * (x.toNat * 2 ^ q)) + num r : Nat) : Int) / 2 ^ w % 2 := by push_cast; rfl
      have e4 : ((num r / 2 ^ w % 2 : Nat) : Int) = ((num r : Nat) : Int) / 2 ^ w % 2 := by push_cast; rfl
      rw [← e3, ← e4, Nat.mul_add_div (Nat.two_pow_pos _)]
      congr 1
      omega
theorem s_setting_in (k p : Nat) (r : List Int) (M : Mem) (hp : p ≤ 64) (h : r ∈ rows p) : C (k + 1) n_setting_in [.int p, .int (num r)] M = .ok (.tup (dI r)) M := by
  obtain ⟨hl, hs⟩ := rows_mem.mp h
  unfold C
  rw [u_setting_in]
  have hh := lc_all (tg := fun x => asg (.nm 2) x (wipeR [some (.int p), some (.int (num r)), none] [2])) (ts := fun _ M => Res.ok (.bl true) M) (el := ev tab (callN tab pds k) .v (.bin .band (.bin .shr (.var 1) (.bin .sub (.bin .sub (.var 0) (.int 1)) (.var 2))) (.int 1))) (M := M) (all := rangeD (p : Int))
    (fun y => [some (.int p), some (.int (num r)), some y]) (fun _ => true) (fun y => match y with
      | .int i => .int (r.getD i.toNat 0)
      | _ => y) (by rw [rangeD_len]; exact Nat.le_trans hp (by decide)) (by
    intro y hy
    rw [rangeD_eq] at hy
    obtain ⟨z, hz, rfl⟩ := List.mem_map.mp hy
    obtain ⟨i, hi, rfl⟩ := List.mem_map.mp hz
    have hi2 : i < p := by simpa using hi
    refine ⟨rfl, rfl, fun _ => ?_⟩
    have hb := bit_at p r i (by omega) hl hs
    simp only [ex, ev, Res.bind, Res.to, Out.seq, consD, List.getElem?_cons_zero, List.getElem?_cons_succ, CE.isNil, CE.isNon, Bool.false_eq_true, if_false, if_true, Bool.not_true, Bool.not_false, Iv.srcOf_tup, Iv.srcOf_ref, Iv.mkOf, Iv.mk, Iv.okPt_int, Iv.okPt_non, Iv.ptOf, bop_subI]
    rw [show ((p : Int) - 1 - (i : Int)) = ((p - 1 - i : Nat) : Int) by omega]
    simp only [bop]
    rw [if_pos (by omega)]
    simp only [ex, ev, Res.bind, Res.to, Out.seq, consD, List.getElem?_cons_zero, List.getElem?_cons_succ, CE.isNil, CE.isNon, Bool.false_eq_true, if_false, if_true, Bool.not_true, Bool.not_false, Iv.srcOf_tup, Iv.srcOf_ref, Iv.mkOf, Iv.mk, Iv.okPt_int, Iv.okPt_non, Iv.ptOf, Int.toNat_natCast, PyProof.Rows.bitAnd_m1, hb]
    rw [List.getD_eq_getElem?_getD, List.getElem?_eq_getElem (by omega), Option.getD_some])
  have er : (rangeD (p : Int)).map (fun y => match y with
      | .int i => D.int (r.getD i.toNat 0)
      | _ => y) = dI r := by
    rw [rangeD_eq]
    unfold dI
    rw [List.map_map, List.map_map]
    apply List.ext_getElem?
    intro i
    rw [List.getElem?_map, List.getElem?_map]
    by_cases hi : i < p
    · rw [List.getElem?_eq_getElem (by simpa using hi), List.getElem?_eq_getElem (by omega)]
      simp only [Option.map_some, List.getElem_range, Function.comp, Int.toNat_natCast, List.getD_eq_getElem?_getD]
      rw [List.getElem?_eq_getElem (by omega), Option.getD_some]
    · rw [List.getElem?_eq_none (by simpa using Nat.le_of_not_lt hi), List.getElem?_eq_none (by omega)]
      rfl
  rw [filt_true, er] at hh
  simp only [ex, ev, Res.bind, Res.to, Out.seq, consD, List.getElem?_cons_zero, List.getElem?_cons_succ, CE.isNil, CE.isNon, Bool.false_eq_true, if_false, if_true, Bool.not_true, Bool.not_false, Iv.srcOf_tup, Iv.srcOf_ref, Iv.mkOf, Iv.mk, Iv.okPt_int, Iv.okPt_non, Iv.ptOf] at hh
  simp only [b_setting_in, ex, ev, Res.bind, Res.to, Out.seq, consD, List.getElem?_cons_zero, List.getElem?_cons_succ, CE.isNil, CE.isNon, Bool.false_eq_true, if_false, if_true, Bool.not_true, Bool.not_false, Iv.srcOf_tup, Iv.srcOf_ref, Iv.mkOf, Iv.mk, Iv.okPt_int, Iv.okPt_non, Iv.ptOf]
  rw [if_pos ⟨by have : p ≤ lim := Nat.le_trans hp (by decide); omega, by omega⟩]
  simp only [ex, ev, Res.bind, Res.to, Out.seq, consD, List.getElem?_cons_zero, List.getElem?_cons_succ, CE.isNil, CE.isNon, Bool.false_eq_true, if_false, if_true, Bool.not_true, Bool.not_false, Iv.srcOf_tup, Iv.srcOf_ref, Iv.mkOf, Iv.mk, Iv.okPt_int, Iv.okPt_non, Iv.ptOf]
  rw [hh]
  simp only [ex, ev, Res.bind, Res.to, Out.seq, consD, List.getElem?_cons_zero, List.getElem?_cons_succ, CE.isNil, CE.isNon, Bool.false_eq_true, if_false, if_true, Bool.not_true, Bool.not_false, Iv.srcOf_tup, Iv.srcOf_ref, Iv.mkOf, Iv.mk, Iv.okPt_int, Iv.okPt_non, Iv.ptOf, show ∀ (xs : List D) (M : Mem), bfn .tuple [.lst xs] M = .ok (.tup xs) M from fun _ _ => rfl]
  exact fin_rt rfl
end K03

/-! ## K03V -/
namespace K03
open PySem PySem.Spec L2 Iv SX
/-! settings and texts of tables -/
def isStD (d : D) : Bool := areSgD d && match sqD d with
  | some xs => decide (xs.length ≤ 8)
  | none => false
theorem len_8 (n : Nat) (M : Mem) : cop .gt (.int (n : Int)) (.int 8) M = .ok (.bl (!decide (n ≤ 8))) M := by
  show Res.ok (.bl (decide ((8 : Int) < (n : Int)))) M = _
  congr 2
  by_cases h : n ≤ 8
  · rw [decide_eq_true h, decide_eq_false (by omega)]
    rfl
  · rw [decide_eq_false h, decide_eq_true (by omega)]
    rfl
theorem s_need_setting (k : Nat) (d : D) (M : Mem) (h : okV d = true) : C (k + 5) n_need_setting [d] M = chkR (isStD d) c_BadNumber [.str "setting"] M := by
  unfold C
  rw [u_need_setting]
  have h2 := s_are_signs k d M h
  unfold C at h2
  have ec : tab.cons[k_MOST_PLACES]? = some (("MOST_PLACES" : Str), D.int 8) := rfl
  have exl : tab.clss[c_BadNumber]? = some (("BadNumber" : Str), [("part" : Str)]) := rfl
  simp only [b_need_setting, ex, ev, Res.bind, Res.to, Out.seq, consD, List.getElem?_cons_zero, List.getElem?_cons_succ, CE.isNil, CE.isNon, Bool.false_eq_true, if_false, if_true, Bool.not_true, Bool.not_false, Iv.srcOf_tup, Iv.srcOf_ref, Iv.mkOf, Iv.mk, Iv.okPt_int, Iv.okPt_non, Iv.ptOf, Iv.itvf, Iv.seqOf, Iv.listOf, Iv.trkOf, Iv.itemsOf, h2]
  cases e : sqD d with
  | none =>
    simp only [areSgD, isStD, e, Bool.false_and, Bool.not_false]
    rw [exl]
    exact fin_xn rfl
  | some xs =>
    simp only [areSgD, isStD, e]
    cases hx : xs.all isSgD with
    | false =>
      simp only [Bool.false_and, Bool.not_false]
      rw [exl]
      exact fin_xn rfl
    | true =>
      simp only [Bool.true_and, Bool.not_true, len_seq e, ex, ev, Res.bind, Res.to, Out.seq, consD, List.getElem?_cons_zero, List.getElem?_cons_succ, CE.isNil, CE.isNon, Bool.false_eq_true, if_false, if_true, Bool.not_true, Bool.not_false, Iv.srcOf_tup, Iv.srcOf_ref, Iv.mkOf, Iv.mk, Iv.okPt_int, Iv.okPt_non, Iv.ptOf, Iv.itvf, Iv.seqOf, Iv.listOf, Iv.trkOf, Iv.itemsOf, ec, len_8]
      cases decide (xs.length ≤ 8) with
      | true =>
        simp only [Bool.not_true]
        exact fin_nx rfl
      | false =>
        simp only [Bool.not_false]
        rw [exl]
        exact fin_xn rfl
/-- d is a setting -/
structure St (d : D) (p : Nat) (r : List Int) : Prop where
  sq : sqD d = some (dI r)
  mem : r ∈ rows p
  hp : p ≤ 8
theorem St.len {d : D} {p : Nat} {r : List Int} (h : St d p r) (M : Mem) : bfn .len [d] M = .ok (.int (p : Int)) M := by
  rw [len_seq h.sq, List.length_map, (rows_mem.mp h.mem).1]
theorem sg_row {p : Nat} {r : List Int} (h : r ∈ rows p) : Sg r := (rows_mem.mp h).2
theorem St.ok {d : D} {p : Nat} {r : List Int} (h : St d p r) : okV d = true := by
  unfold okV
  rw [h.sq]
  simp only [ty_all, Bool.and_true, decide_eq_true_eq, List.length_map, (rows_mem.mp h.mem).1]
  exact Nat.le_trans h.hp (by decide)
theorem St.is {d : D} {p : Nat} {r : List Int} (h : St d p r) : isStD d = true := by
  unfold isStD areSgD
  simp only [h.sq, sg_all (sg_row h.mem), Bool.true_and, decide_eq_true_eq, List.length_map, (rows_mem.mp h.mem).1]
  exact h.hp
theorem s_places_of_no (k : Nat) (d : D) (M : Mem) (h : okV d = true) (hn : isTbD d = false) : C (k + 7) n_places_of [d] M = .exn c_BadTable [.str "table"] M := by
  unfold C
  rw [u_places_of]
  have h2 := s_need_table k d (.str "table") M h
  rw [hn] at h2
  unfold C at h2
  simp only [b_places_of, ex, ev, Res.bind, Res.to, Out.seq, consD, List.getElem?_cons_zero, List.getElem?_cons_succ, CE.isNil, CE.isNon, Bool.false_eq_true, if_false, if_true, Bool.not_true, Bool.not_false, Iv.srcOf_tup, Iv.srcOf_ref, Iv.mkOf, Iv.mk, Iv.okPt_int, Iv.okPt_non, Iv.ptOf, Iv.itvf, Iv.seqOf, Iv.listOf, Iv.trkOf, Iv.itemsOf, h2, chkR]
  exact fin_xn rfl
theorem s_places_of (k p : Nat) (f : List Int → Int) (d : D) (M : Mem) (T : Tb d p f) : C (k + 7) n_places_of [d] M = .ok (.int p) M := by
  unfold C
  rw [u_places_of]
  have h2 := s_need_table k d (.str "table") M T.ok
  have h3 := t_places_in (k := k + 5) M T
  rw [T.is] at h2
  unfold C at h2 h3
  simp only [b_places_of, ex, ev, Res.bind, Res.to, Out.seq, consD, List.getElem?_cons_zero, List.getElem?_cons_succ, CE.isNil, CE.isNon, Bool.false_eq_true, if_false, if_true, Bool.not_true, Bool.not_false, Iv.srcOf_tup, Iv.srcOf_ref, Iv.mkOf, Iv.mk, Iv.okPt_int, Iv.okPt_non, Iv.ptOf, Iv.itvf, Iv.seqOf, Iv.listOf, Iv.trkOf, Iv.itemsOf, h2, h3, chkR]
  exact fin_rt rfl
theorem s_row_of_no (k : Nat) (d : D) (M : Mem) (h : okV d = true) (hn : isStD d = false) : C (k + 6) n_row_of [d] M = .exn c_BadNumber [.str "setting"] M := by
  unfold C
  rw [u_row_of]
  have h2 := s_need_setting k d M h
  rw [hn] at h2
  unfold C at h2
  simp only [b_row_of, ex, ev, Res.bind, Res.to, Out.seq, consD, List.getElem?_cons_zero, List.getElem?_cons_succ, CE.isNil, CE.isNon, Bool.false_eq_true, if_false, if_true, Bool.not_true, Bool.not_false, Iv.srcOf_tup, Iv.srcOf_ref, Iv.mkOf, Iv.mk, Iv.okPt_int, Iv.okPt_non, Iv.ptOf, Iv.itvf, Iv.seqOf, Iv.listOf, Iv.trkOf, Iv.itemsOf, h2, chkR]
  exact fin_xn rfl
theorem s_row_of (k p : Nat) (r : List Int) (d : D) (M : Mem) (T : St d p r) : C (k + 6) n_row_of [d] M = .ok (.int (num r)) M := by
  unfold C
  rw [u_row_of]
  have h2 := s_need_setting k d M T.ok
  have h3 := s_number_in (k + 4) r d M T.sq (sg_row T.mem)
  rw [T.is] at h2
  unfold C at h2 h3
  simp only [b_row_of, ex, ev, Res.bind, Res.to, Out.seq, consD, List.getElem?_cons_zero, List.getElem?_cons_succ, CE.isNil, CE.isNon, Bool.false_eq_true, if_false, if_true, Bool.not_true, Bool.not_false, Iv.srcOf_tup, Iv.srcOf_ref, Iv.mkOf, Iv.mk, Iv.okPt_int, Iv.okPt_non, Iv.ptOf, Iv.itvf, Iv.seqOf, Iv.listOf, Iv.trkOf, Iv.itemsOf, h2, h3, chkR]
  exact fin_rt rfl
theorem shl_pow (p : Nat) (hp : p ≤ 64) (M : Mem) : bop .shl (.int 1) (.int (p : Int)) M = .ok (.int ((2 ^ p : Nat) : Int)) M := by
  simp only [bop]
  rw [if_pos ⟨by omega, by omega, by decide⟩, Int.toNat_natCast]
  congr 2
  push_cast
  omega
theorem s_setting_of_p (k : Nat) (d e : D) (M : Mem) (hd : tyOk d = true) (hn : withinD d 0 8 = false) : C (k + 3) n_setting_of [d, e] M = .exn c_BadNumber [.str "places"] M := by
  unfold C
  rw [u_setting_of]
  have h2 := s_is_within k d 0 8 M hd
  rw [hn] at h2
  unfold C at h2
  have ec : tab.cons[k_MOST_PLACES]? = some (("MOST_PLACES" : Str), D.int 8) := rfl
  have exl : tab.clss[c_BadNumber]? = some (("BadNumber" : Str), [("part" : Str)]) := rfl
  simp only [b_setting_of, ex, ev, Res.bind, Res.to, Out.seq, consD, List.getElem?_cons_zero, List.getElem?_cons_succ, CE.isNil, CE.isNon, Bool.false_eq_true, if_false, if_true, Bool.not_true, Bool.not_false, Iv.srcOf_tup, Iv.srcOf_ref, Iv.mkOf, Iv.mk, Iv.okPt_int, Iv.okPt_non, Iv.ptOf, Iv.itvf, Iv.seqOf, Iv.listOf, Iv.trkOf, Iv.itemsOf, ec, h2, Bool.not_false]
  rw [exl]
  exact fin_xn rfl
theorem within_p {p : Nat} (hp : p ≤ 8) : withinD (.int (p : Int)) 0 8 = true := by
  show (decide ((0 : Int) ≤ (p : Int)) && decide ((p : Int) ≤ 8)) = true
  rw [Bool.and_eq_true, decide_eq_true_eq, decide_eq_true_eq]
  omega
theorem s_setting_of_r (k p : Nat) (e : D) (M : Mem) (hp : p ≤ 8) (he : tyOk e = true) (hn : withinD e 0 (((2 ^ p : Nat) : Int) - 1) = false) : C (k + 3) n_setting_of [.int p, e] M = .exn c_BadNumber [.str "row"] M := by
  unfold C
  rw [u_setting_of]
  have h2 := s_is_within k (.int p) 0 8 M rfl
  have h3 := s_is_within k e 0 (((2 ^ p : Nat) : Int) - 1) M he
  rw [within_p hp] at h2
  rw [hn] at h3
  unfold C at h2 h3
  have ec : tab.cons[k_MOST_PLACES]? = some (("MOST_PLACES" : Str), D.int 8) := rfl
  have exl : tab.clss[c_BadNumber]? = some (("BadNumber" : Str), [("part" : Str)]) := rfl
  simp only [b_setting_of, ex, ev, Res.bind, Res.to, Out.seq, consD, List.getElem?_cons_zero, List.getElem?_cons_succ, CE.isNil, CE.isNon, Bool.false_eq_true, if_false, if_true, Bool.not_true, Bool.not_false, Iv.srcOf_tup, Iv.srcOf_ref, Iv.mkOf, Iv.mk, Iv.okPt_int, Iv.okPt_non, Iv.ptOf, Iv.itvf, Iv.seqOf, Iv.listOf, Iv.trkOf, Iv.itemsOf, ec, h2, Bool.not_true, shl_pow p (by omega), bop_subI, h3, Bool.not_false]
  rw [exl]
  exact fin_xn rfl
theorem s_setting_of (k p : Nat) (r : List Int) (M : Mem) (hp : p ≤ 8) (hr : r ∈ rows p) : C (k + 3) n_setting_of [.int p, .int (num r)] M = .ok (.tup (dI r)) M := by
  unfold C
  rw [u_setting_of]
  have h2 := s_is_within k (.int p) 0 8 M rfl
  have h3 := s_is_within k (.int (num r)) 0 (((2 ^ p : Nat) : Int) - 1) M rfl
  have h4 := s_setting_in (k + 1) p r M (by omega) hr
  rw [within_p hp] at h2
  have hl := num_lt hr
  rw [show withinD (.int (num r)) 0 (((2 ^ p : Nat) : Int) - 1) = true by
    show (decide ((0 : Int) ≤ (num r : Int)) && decide ((num r : Int) ≤ ((2 ^ p : Nat) : Int) - 1)) = true
    rw [Bool.and_eq_true, decide_eq_true_eq, decide_eq_true_eq]
    omega] at h3
  unfold C at h2 h3 h4
  have ec : tab.cons[k_MOST_PLACES]? = some (("MOST_PLACES" : Str), D.int 8) := rfl
  simp only [b_setting_of, ex, ev, Res.bind, Res.to, Out.seq, consD, List.getElem?_cons_zero, List.getElem?_cons_succ, CE.isNil, CE.isNon, Bool.false_eq_true, if_false, if_true, Bool.not_true, Bool.not_false, Iv.srcOf_tup, Iv.srcOf_ref, Iv.mkOf, Iv.mk, Iv.okPt_int, Iv.okPt_non, Iv.ptOf, Iv.itvf, Iv.seqOf, Iv.listOf, Iv.trkOf, Iv.itemsOf, ec, h2, Bool.not_true, shl_pow p (by omega), bop_subI, h3, h4]
  exact fin_rt rfl
theorem s_sign_at_1 (k : Nat) (d e : D) (M : Mem) (h : okV d = true) (hn : isTbD d = false) : C (k + 7) n_sign_at [d, e] M = .exn c_BadTable [.str "table"] M := by
  unfold C
  rw [u_sign_at]
  have h2 := s_need_table k d (.str "table") M h
  rw [hn] at h2
  unfold C at h2
  simp only [b_sign_at, ex, ev, Res.bind, Res.to, Out.seq, consD, List.getElem?_cons_zero, List.getElem?_cons_succ, CE.isNil, CE.isNon, Bool.false_eq_true, if_false, if_true, Bool.not_true, Bool.not_false, Iv.srcOf_tup, Iv.srcOf_ref, Iv.mkOf, Iv.mk, Iv.okPt_int, Iv.okPt_non, Iv.ptOf, Iv.itvf, Iv.seqOf, Iv.listOf, Iv.trkOf, Iv.itemsOf, h2, chkR]
  exact fin_xn rfl
theorem s_sign_at_2 (k p : Nat) (f : List Int → Int) (d e : D) (M : Mem) (T : Tb d p f) (he : okV e = true) (hn : isStD e = false) : C (k + 7) n_sign_at [d, e] M = .exn c_BadNumber [.str "setting"] M := by
  unfold C
  rw [u_sign_at]
  have h2 := s_need_table k d (.str "table") M T.ok
  have h3 := s_need_setting (k + 1) e M he
  rw [T.is] at h2
  rw [hn] at h3
  unfold C at h2 h3
  simp only [b_sign_at, ex, ev, Res.bind, Res.to, Out.seq, consD, List.getElem?_cons_zero, List.getElem?_cons_succ, CE.isNil, CE.isNon, Bool.false_eq_true, if_false, if_true, Bool.not_true, Bool.not_false, Iv.srcOf_tup, Iv.srcOf_ref, Iv.mkOf, Iv.mk, Iv.okPt_int, Iv.okPt_non, Iv.ptOf, Iv.itvf, Iv.seqOf, Iv.listOf, Iv.trkOf, Iv.itemsOf, h2, h3, chkR]
  exact fin_xn rfl
theorem cop_ne_pow (p q : Nat) (M : Mem) : cop .ne (.int ((2 ^ p : Nat) : Int)) (.int ((2 ^ q : Nat) : Int)) M = .ok (.bl (!decide (p = q))) M := by
  simp only [cop, cmpB, eqB_int]
  congr 3
  by_cases h : p = q
  · subst h
    simp
  · rw [decide_eq_false h, decide_eq_false_iff_not]
    intro z
    exact h (pow_inj (by exact_mod_cast z))
theorem s_sign_at_3 (k p q : Nat) (f : List Int → Int) (r : List Int) (d e : D) (M : Mem) (T : Tb d p f) (U : St e q r) (hn : p ≠ q) : C (k + 7) n_sign_at [d, e] M = .exn c_Misfit [.str "places"] M := by
  unfold C
  rw [u_sign_at]
  have h2 := s_need_table k d (.str "table") M T.ok
  have h3 := s_need_setting (k + 1) e M U.ok
  rw [T.is] at h2
  rw [U.is] at h3
  unfold C at h2 h3
  have exl : tab.clss[c_Misfit]? = some (("Misfit" : Str), [("part" : Str)]) := rfl
  simp only [b_sign_at, ex, ev, Res.bind, Res.to, Out.seq, consD, List.getElem?_cons_zero, List.getElem?_cons_succ, CE.isNil, CE.isNon, Bool.false_eq_true, if_false, if_true, Bool.not_true, Bool.not_false, Iv.srcOf_tup, Iv.srcOf_ref, Iv.mkOf, Iv.mk, Iv.okPt_int, Iv.okPt_non, Iv.ptOf, Iv.itvf, Iv.seqOf, Iv.listOf, Iv.trkOf, Iv.itemsOf, h2, h3, chkR, T.len, U.len, shl_pow q (by have := U.hp; omega), cop_ne_pow, decide_eq_false hn, Bool.not_false]
  rw [exl]
  exact fin_xn rfl
theorem s_sign_at (k p : Nat) (f : List Int → Int) (r : List Int) (d e : D) (M : Mem) (T : Tb d p f) (U : St e p r) : C (k + 7) n_sign_at [d, e] M = .ok (.int (f r)) M := by
  unfold C
  rw [u_sign_at]
  have h2 := s_need_table k d (.str "table") M T.ok
  have h3 := s_need_setting (k + 1) e M U.ok
  have h4 := s_number_in (k + 5) r e M U.sq (sg_row U.mem)
  rw [T.is] at h2
  rw [U.is] at h3
  unfold C at h2 h3 h4
  simp only [b_sign_at, ex, ev, Res.bind, Res.to, Out.seq, consD, List.getElem?_cons_zero, List.getElem?_cons_succ, CE.isNil, CE.isNon, Bool.false_eq_true, if_false, if_true, Bool.not_true, Bool.not_false, Iv.srcOf_tup, Iv.srcOf_ref, Iv.mkOf, Iv.mk, Iv.okPt_int, Iv.okPt_non, Iv.ptOf, h2, h3, h4, chkR, T.len, U.len, shl_pow p (by have := U.hp; omega), cop_ne_pow, decide_true, T.get U.mem]
  exact fin_rt rfl
/-! ### texts of tables -/
/-- the sign's code -/
def cS (x : Int) : Nat := if x = 0 then 48 else 49
/-- a table's text -/
abbrev tx (t : List Int) : List Nat := t.map cS
theorem sgt {x : Int} (h : x = 0 ∨ x = 1) (M : Mem) : bfn .str [.int x] M = .ok (.str (S [cS x])) M := by
  rcases h with rfl | rfl <;> rfl
theorem joinL_nil : ∀ (ps : List (List Nat)), TL.joinL [] ps = ps.flatten
  | [] => rfl
  | [p] => by simp [TL.joinL]
  | p :: q :: r => by
    show p ++ ([] ++ TL.joinL [] (q :: r)) = _
    rw [joinL_nil (q :: r)]
    simp
theorem strsOf_map {α : Type} (g : α → Str) : ∀ xs : List α, strsOf (xs.map fun x => D.str (g x)) = some (xs.map g)
  | [] => rfl
  | x :: xs => by
    show (match strsOf (xs.map fun x => D.str (g x)) with
      | some ys => some (g x :: ys)
      | none => none) = _
    rw [strsOf_map g xs]
    rfl
theorem flat_ones (xs : List Int) : (xs.map fun x => [cS x]).flatten = tx xs := by
  induction xs with
  | nil => rfl
  | cons x xs ih =>
    rw [List.map_cons, List.flatten_cons, ih]
    rfl
theorem join_sg (t : List Int) (hl : t.length ≤ lim) (M : Mem) : sfn .join (.str "") [.lst (t.map fun x => D.str (S [cS x]))] M = .ok (.str (S (tx t))) M := by
  have e0 : (("" : Str)) = S [] := rfl
  have e1 := strsOf_map (fun x => S [cS x]) t
  simp only [sfn, Iv.seqOf, Iv.listOf, e1]
  rw [if_pos]
  · have e2 : t.map (fun x => S [cS x]) = (t.map fun x => [cS x]).map S := by
      rw [List.map_map]
      rfl
    rw [e2, e0, join_S, joinL_nil, flat_ones]
  · have e3 : ((t.map fun x => S [cS x]).map (·.length)).sum = t.length := by
      rw [List.map_map]
      induction t with
      | nil => rfl
      | cons x t ih =>
        rw [List.map_cons, List.sum_cons, ih (by simp at hl; omega) (strsOf_map _ t)]
        show 1 + t.length = t.length + 1
        omega
    rw [e3, List.length_map]
    show t.length + t.length * 0 ≤ lim
    omega
/-- ''.join([str(sign) for sign in ..]) -/
theorem sg_lc {T : Tab} {cf : Nat → List D → Mem → Res} {own : List Nat} {i j : Nat} {r : Rho} {M : Mem} {t : List Int} {d : D} (hr : r[j]? = some (some d)) (hq : sqD d = some (dI t)) (hs : Sg t) (hl : t.length ≤ lim) (hw : i < (wipeR r own).length) :
    ev T cf .v (.lc false own (.nm i) (.itv (.var j)) .nil (.bc .str (.cons (.var i) .nil))) r M = .ok (.lst (t.map fun x => D.str (S [cS x]))) M := by
  refine ev_lc (xs := dI t) (ys := t.map fun x => D.str (S [cS x])) (M1 := M) ?_ ?_
  · simp only [ev, hr, Res.bind, itvf_sq hq]
  · refine lc_map D.int (fun x => D.str (S [cS x])) t hl fun x hx => ?_
    refine ⟨(wipeR r own).set i (some (.int x)), by simp only [asg]; rw [if_pos hw], ?_⟩
    refine (ev_bc1 (M1 := M) (ev_var (d := .int x) ?_)).trans (sgt (hs x hx) M)
    rw [List.getElem?_set_self hw]
theorem sm_join {T : Tab} {cf : Nat → List D → Mem → Res} {a : CE} {r : Rho} {M M1 : Mem} {d : D} (h : ev T cf .v a r M = .ok d M1) : ev T cf .v (.sm .join (.str "") (.cons a .nil)) r M = sfn .join (.str "") [d] M1 := by
  simp only [ev, Res.bind, h, consD]
theorem s_table_text_no (k : Nat) (d : D) (M : Mem) (h : okV d = true) (hn : isTbD d = false) : C (k + 7) n_table_text [d] M = .exn c_BadTable [.str "table"] M := by
  unfold C
  rw [u_table_text]
  have h2 := s_need_table k d (.str "table") M h
  rw [hn] at h2
  unfold C at h2
  simp only [b_table_text, ex, ev, Res.bind, Res.to, Out.seq, consD, List.getElem?_cons_zero, List.getElem?_cons_succ, CE.isNil, CE.isNon, Bool.false_eq_true, if_false, if_true, Bool.not_true, Bool.not_false, Iv.srcOf_tup, Iv.srcOf_ref, Iv.mkOf, Iv.mk, Iv.okPt_int, Iv.okPt_non, Iv.ptOf, Iv.itvf, Iv.seqOf, Iv.listOf, Iv.trkOf, Iv.itemsOf, h2, chkR]
  exact fin_xn rfl
theorem s_table_text (k p : Nat) (f : List Int → Int) (d : D) (M : Mem) (T : Tb d p f) : C (k + 7) n_table_text [d] M = .ok (.str (S (tx (tbl p f)))) M := by
  unfold C
  rw [u_table_text]
  have h2 := s_need_table k d (.str "table") M T.ok
  rw [T.is] at h2
  unfold C at h2
  have hl : (tbl p f).length ≤ lim := by
    rw [tbl_len]
    exact lim_pow T.hp
  have hj := (sm_join (T := tab) (cf := callN tab pds (k + 6)) (sg_lc (own := [1]) (i := 1) (j := 0) (r := [some d, none]) (M := M) rfl T.sq T.sg hl (show 1 < 2 by decide))).trans (join_sg _ hl M)
  simp only [b_table_text, ex]
  rw [show ev tab (callN tab pds (k + 6)) .v (.call n_need_table (.cons (.var 0) (.cons (.str "table") .nil))) [some d, none] M = .ok .non M by
    simp only [ex, ev, Res.bind, Res.to, Out.seq, consD, List.getElem?_cons_zero, List.getElem?_cons_succ, CE.isNil, CE.isNon, Bool.false_eq_true, if_false, if_true, Bool.not_true, Bool.not_false, Iv.srcOf_tup, Iv.srcOf_ref, Iv.mkOf, Iv.mk, Iv.okPt_int, Iv.okPt_non, Iv.ptOf, h2, chkR]]
  simp only [Res.to, Out.seq]
  rw [hj]
  exact fin_rt rfl
/-- is it a table's text -/
def okT (l : List Nat) : Bool := decide (((l.length : Nat) : Int) ∈ SIZES) && l.all fun c => decide (c = 48 ∨ c = 49)
def unC (c : Nat) : Int := if c = 48 then 0 else 1
theorem chars_S (l : List Nat) : charsD (S l) = l.map fun c => D.str (S [c]) := rfl
theorem sign_in (c : Nat) (M : Mem) : cop .mem (.str (S [c])) (.tup (SIGN_TEXTS.map D.str)) M = .ok (.bl (decide (c = 48 ∨ c = 49))) M := by
  have e : cop .mem (.str (S [c])) (.tup (SIGN_TEXTS.map D.str)) M = .ok (.bl ((S [48] == S [c]) || ((S [49] == S [c]) || false))) M := rfl
  rw [e]
  congr 2
  rw [S_beq_eq, S_beq_eq, Bool.or_false]
  by_cases h1 : c = 48
  · subst h1
    rfl
  · by_cases h2 : c = 49
    · subst h2
      rfl
    · simp [h1, h2, show ¬ (48 = c) from fun z => h1 z.symm, show ¬ (49 = c) from fun z => h2 z.symm]
theorem int_sign {c : Nat} (h : c = 48 ∨ c = 49) (M : Mem) : bfn .int [.str (S [c])] M = .ok (.int (unC c)) M := by
  have e0 : PySem.intText? (S [48]) = some 0 := by decide +kernel
  have e1 : PySem.intText? (S [49]) = some 1 := by decide +kernel
  rcases h with rfl | rfl
  · simp only [bfn, e0]
    rw [if_pos (by decide)]
    rfl
  · simp only [bfn, e1]
    rw [if_pos (by decide)]
    rfl
theorem walk_S {T : Tab} {cf : Nat → List D → Mem → Res} {j : Nat} {r : Rho} {M : Mem} {l : List Nat} (hr : r[j]? = some (some (.str (S l)))) (hl : l.length ≤ lim) : ev T cf .s (.itv (.var j)) r M = .ok (.tup (l.map fun c => D.str (S [c]))) M := by
  simp only [ev, hr, Res.bind, itvf]
  rw [if_pos (by rw [S_len]; exact hl), chars_S]
theorem s_table_in (k : Nat) (l : List Nat) (M : Mem) (hl : l.length ≤ lim) : C (k + 1) n_table_in [.str (S l)] M = .ok (if okT l = true then .tup (dI (l.map unC)) else .non) M := by
  unfold C
  rw [u_table_in]
  have ec : tab.cons[k_SIZES]? = some (("SIZES" : Str), D.tup (dI SIZES)) := rfl
  have e2 : tab.cons[k_SIGN_TEXTS]? = some (("SIGN_TEXTS" : Str), D.tup (SIGN_TEXTS.map D.str)) := rfl
  have hA : ev tab (callN tab pds k) .v (.lc false [1] (.nm 1) (.itv (.var 0)) .nil (.cmp .mem (.var 1) (.con k_SIGN_TEXTS))) [some (.str (S l)), none] M = .ok (.lst (l.map fun c => D.bl (decide (c = 48 ∨ c = 49)))) M := by
    refine ev_lc (xs := l.map fun c => D.str (S [c])) (ys := l.map fun c => D.bl (decide (c = 48 ∨ c = 49))) (M1 := M) (walk_S rfl hl) ?_
    refine lc_map (fun c => D.str (S [c])) (fun c => D.bl (decide (c = 48 ∨ c = 49))) l hl fun c hc => ⟨_, rfl, ?_⟩
    exact (ev_cmp (M1 := M) (M2 := M) (x := .str (S [c])) (y := .tup (SIGN_TEXTS.map D.str)) rfl rfl).trans (sign_in c M)
  have hB : okT l = true → ev tab (callN tab pds k) .v (.lc false [1] (.nm 1) (.itv (.var 0)) .nil (.bc .int (.cons (.var 1) .nil))) [some (.str (S l)), none] M = .ok (.lst (dI (l.map unC))) M := fun ho => by
    rw [show dI (l.map unC) = l.map fun c => D.int (unC c) by unfold dI; rw [List.map_map]; rfl]
    refine ev_lc (xs := l.map fun c => D.str (S [c])) (ys := l.map fun c => D.int (unC c)) (M1 := M) (walk_S rfl hl) ?_
    refine lc_map (fun c => D.str (S [c])) (fun c => D.int (unC c)) l hl fun c hc => ⟨_, rfl, ?_⟩
    unfold okT at ho
    rw [Bool.and_eq_true] at ho
    exact (ev_bc1 (M1 := M) (x := .str (S [c])) rfl).trans (int_sign (of_decide_eq_true (List.all_eq_true.mp ho.2 c hc)) M)
  have hlen : bfn .len [.str (S l)] M = .ok (.int (l.length : Int)) M := by
    simp only [bfn]
    rw [if_pos (by rw [S_len]; exact hl), S_len]
  have hmem : cop .nmem (.int (l.length : Int)) (.tup (dI SIZES)) M = .ok (.bl (!decide (((l.length : Nat) : Int) ∈ SIZES))) M := by
    simp only [cop, cmpB]
    rw [memB_tup, inB_dI M _ _ SIZES rfl]
  have hall : bfn .all [.lst (l.map fun c => D.bl (decide (c = 48 ∨ c = 49)))] M = .ok (.bl (l.all fun c => decide (c = 48 ∨ c = 49))) M := by
    simp only [bfn, Iv.listOf, blsOf_map, all_map]
  simp only [b_table_in, ex]
  rw [show ev tab (callN tab pds k) .v (.or (.cons (.cmp .nmem (.bc .len (.cons (.var 0) .nil)) (.con 1)) (.cons (.not (.bc .all (.cons (.lc false [1] (.nm 1) (.itv (.var 0)) .nil (.cmp .mem (.var 1) (.con 2))) .nil))) .nil))) [some (.str (S l)), none] M = .ok (.bl (!okT l)) M by
    unfold okT
    cases hs : decide (((l.length : Nat) : Int) ∈ SIZES) with
    | false =>
      refine ev_or2T ?_
      refine (ev_cmp (M1 := M) (M2 := M) (x := .int (l.length : Int)) (y := .tup (dI SIZES)) ?_ rfl).trans ?_
      · exact (ev_bc1 (M1 := M) (x := .str (S l)) rfl).trans hlen
      · rw [hmem, hs]
        rfl
    | true =>
      rw [Bool.true_and]
      refine ev_or2R ?_ (ev_not ?_)
      · refine (ev_cmp (M1 := M) (M2 := M) (x := .int (l.length : Int)) (y := .tup (dI SIZES)) ?_ rfl).trans ?_
        · exact (ev_bc1 (M1 := M) (x := .str (S l)) rfl).trans hlen
        · rw [hmem, hs]
          rfl
      · exact (ev_bc1 hA).trans hall]
  cases ho : okT l with
  | false =>
    simp only [Bool.not_false, Res.to, Out.seq, ev, Bool.false_eq_true, if_false]
    exact fin_rt rfl
  | true =>
    simp only [Bool.not_true, Res.to, Out.seq, if_true]
    rw [(ev_bc1 (hB ho) : ev tab (callN tab pds k) .v (.bc .tuple (.cons (.lc false [1] (.nm 1) (.itv (.var 0)) .nil (.bc .int (.cons (.var 1) .nil))) .nil)) [some (.str (S l)), none] M = _)]
    exact fin_rt rfl
theorem okT_tx {p : Nat} {f : List Int → Int} (hp : p ≤ 8) : okT (tx (tbl p f)) = true := by
  unfold okT
  rw [Bool.and_eq_true, decide_eq_true_eq, List.length_map, tbl_len, List.all_eq_true]
  refine ⟨sizes hp, fun c hc => ?_⟩
  obtain ⟨x, _, rfl⟩ := List.mem_map.mp hc
  unfold cS
  split <;> decide
theorem un_tx {t : List Int} (h : Sg t) : (tx t).map unC = t := by
  rw [List.map_map]
  conv => rhs; rw [← List.map_id t]
  refine List.map_congr_left fun x hx => ?_
  rcases h x hx with z | z <;> subst z <;> rfl
end K03

/-! ## K03W -/
namespace K03
open PySem PySem.Spec L2 Iv SX
/-! a text read -/
abbrev scF (is : List Str) (n : Nat) : List (Str × D) := [("items_left", .lst (is.map D.str)), ("spot", .int (n : Int))]
abbrev scn (is : List Str) (n : Nat) : Cell := .ins 0 (scF is n)
section
variable {cf : Nat → List D → Mem → Res} {r : Rho} {M : Mem} {is : List Str} {n : Nat} {o : CE}
theorem sc_meth {f : Str} {g : Nat} {p : ICls} (ho : ev tab cf .v o r (M ++ [scn is n]) = .ok (.ref M.length) (M ++ [scn is n])) (hp : tab.icls[0]? = some p) (hm : p.meths.lookup f = some g) (hf : (["items_left", "spot"] : List Str).contains f = false) (hg : g < tab.defs.length) :
    ev tab cf .v (.meth 0 f o .nil) r (M ++ [scn is n]) = cf g [.ref M.length] (M ++ [scn is n]) := ev_meth ho (ins_last M 0 _) hp hm hf hg rfl
theorem sc_items (ho : ev tab cf .v o r (M ++ [scn is n]) = .ok (.ref M.length) (M ++ [scn is n])) : ev tab cf .v (.fld "items_left" o) r (M ++ [scn is n]) = .ok (.lst (is.map D.str)) (M ++ [scn is n]) := ev_fld ho (ins_last M 0 _) rfl rfl rfl
theorem sc_spot (ho : ev tab cf .v o r (M ++ [scn is n]) = .ok (.ref M.length) (M ++ [scn is n])) : ev tab cf .v (.fld "spot" o) r (M ++ [scn is n]) = .ok (.int (n : Int)) (M ++ [scn is n]) := ev_fld ho (ins_last M 0 _) rfl rfl rfl
end
theorem ex_bt : tab.clss[c_BadText]? = some (("BadText" : Str), [("line" : Str), ("item" : Str)]) := rfl
theorem c_over (k : Nat) (M : Mem) (is : List Str) (n : Nat) : C (k + 1) n_Scan_is_over [.ref M.length] (M ++ [scn is n]) = .ok (.bl (decide (n = is.length))) (M ++ [scn is n]) := by
  unfold C
  rw [u_Scan_is_over]
  have h1 := sc_items (cf := callN tab pds k) (r := [some (.ref M.length)]) (M := M) (is := is) (n := n) (o := .var 0) rfl
  have h2 := sc_spot (cf := callN tab pds k) (r := [some (.ref M.length)]) (M := M) (is := is) (n := n) (o := .var 0) rfl
  have h3 := (ev_cmp (o := .eq) h2 (ev_bc1 (f := .len) h1)).trans (cop_eq_int _ _ _)
  simp only [b_Scan_is_over, ex]
  rw [List.length_map] at h3
  rw [h3]
  simp only [Res.to, Out.seq]
  rw [show decide ((n : Int) = (is.length : Int)) = decide (n = is.length) by
    by_cases h : n = is.length
    · rw [decide_eq_true h, decide_eq_true (by omega)]
    · rw [decide_eq_false h, decide_eq_false (by omega)]]
  exact fin_rt rfl
theorem c_seen (k : Nat) (M : Mem) (is : List Str) (n : Nat) : C (k + 2) n_Scan_seen [.ref M.length] (M ++ [scn is n]) = if h : n < is.length then .ok (.str is[n]) (M ++ [scn is n]) else if n = is.length then .ok .non (M ++ [scn is n]) else C (k + 2) n_Scan_seen [.ref M.length] (M ++ [scn is n]) := by
  split
  · rename_i h
    unfold C
    rw [u_Scan_seen]
    have h0 := c_over k M is n
    unfold C at h0
    have h1 := sc_items (cf := callN tab pds (k + 1)) (r := [some (.ref M.length)]) (M := M) (is := is) (n := n) (o := .var 0) rfl
    have h2 := sc_spot (cf := callN tab pds (k + 1)) (r := [some (.ref M.length)]) (M := M) (is := is) (n := n) (o := .var 0) rfl
    have h3 := (sc_meth (cf := callN tab pds (k + 1)) (r := [some (.ref M.length)]) (M := M) (is := is) (n := n) (o := .var 0) (f := "is_over") rfl rfl rfl rfl (by decide)).trans h0
    rw [decide_eq_false (by omega)] at h3
    have h4 := ev_ix h1 h2
    have h5 : ixf (.lst (is.map D.str)) (.int (n : Int)) (M ++ [scn is n]) = .ok (.str is[n]) (M ++ [scn is n]) := ixf_sq (d := .lst _) rfl (by rw [List.getElem?_map, List.getElem?_eq_getElem h]; rfl) _
    rw [h5] at h4
    simp only [b_Scan_seen, ex]
    rw [show ev tab (callN tab pds (k + 1)) .v (.ite (.meth 0 "is_over" (.var 0) .nil) .non (.ix (.fld "items_left" (.var 0)) (.fld "spot" (.var 0)))) [some (.ref M.length)] (M ++ [scn is n]) = .ok (.str is[n]) (M ++ [scn is n]) by
      rw [show ∀ (t a b : CE) (r : Rho) (M : Mem), ev tab (callN tab pds (k + 1)) .v (.ite t a b) r M = (ev tab (callN tab pds (k + 1)) .v t r M).bind fun x M1 => match x with
        | .bl true => ev tab (callN tab pds (k + 1)) .v a r M1
        | .bl false => ev tab (callN tab pds (k + 1)) .v b r M1
        | _ => .stuck from fun _ _ _ _ _ => rfl, h3]
      exact h4]
    exact fin_rt rfl
  · split
    · rename_i h
      unfold C
      rw [u_Scan_seen]
      have h0 := c_over k M is n
      unfold C at h0
      have h3 := (sc_meth (cf := callN tab pds (k + 1)) (r := [some (.ref M.length)]) (M := M) (is := is) (n := n) (o := .var 0) (f := "is_over") rfl rfl rfl rfl (by decide)).trans h0
      rw [decide_eq_true h] at h3
      simp only [b_Scan_seen, ex]
      rw [show ev tab (callN tab pds (k + 1)) .v (.ite (.meth 0 "is_over" (.var 0) .nil) .non (.ix (.fld "items_left" (.var 0)) (.fld "spot" (.var 0)))) [some (.ref M.length)] (M ++ [scn is n]) = .ok .non (M ++ [scn is n]) by
        rw [show ∀ (t a b : CE) (r : Rho) (M : Mem), ev tab (callN tab pds (k + 1)) .v (.ite t a b) r M = (ev tab (callN tab pds (k + 1)) .v t r M).bind fun x M1 => match x with
          | .bl true => ev tab (callN tab pds (k + 1)) .v a r M1
          | .bl false => ev tab (callN tab pds (k + 1)) .v b r M1
          | _ => .stuck from fun _ _ _ _ _ => rfl, h3]
        rfl]
      exact fin_rt rfl
    · rfl
theorem c_seen_at (k : Nat) (M : Mem) (is : List Str) (n : Nat) (h : n < is.length) : C (k + 2) n_Scan_seen [.ref M.length] (M ++ [scn is n]) = .ok (.str is[n]) (M ++ [scn is n]) := by
  rw [c_seen, dif_pos h]
theorem c_seen_end (k : Nat) (M : Mem) (is : List Str) : C (k + 2) n_Scan_seen [.ref M.length] (M ++ [scn is is.length]) = .ok .non (M ++ [scn is is.length]) := by
  rw [c_seen, dif_neg (Nat.lt_irrefl _), if_pos rfl]
theorem c_refuse (k : Nat) (M : Mem) (is : List Str) (n : Nat) : C (k + 1) n_Scan_refuse [.ref M.length] (M ++ [scn is n]) = .exn c_BadText [.int (n : Int), .int 0] (M ++ [scn is n]) := by
  unfold C
  rw [u_Scan_refuse]
  have h2 := sc_spot (cf := callN tab pds k) (r := [some (.ref M.length)]) (M := M) (is := is) (n := n) (o := .var 0) rfl
  simp only [b_Scan_refuse, ex]
  rw [ev_cons (M1 := M ++ [scn is n]) (x := .int 0) rfl (ev_cons h2 rfl)]
  exact fin_xn rfl
theorem c_take (k : Nat) (M : Mem) (is : List Str) (n : Nat) (h : n < is.length) : C (k + 3) n_Scan_take [.ref M.length] (M ++ [scn is n]) = .ok (.str is[n]) (M ++ [scn is (n + 1)]) := by
  unfold C
  rw [u_Scan_take]
  have h0 := c_seen_at k M is n h
  unfold C at h0
  have h3 := (sc_meth (cf := callN tab pds (k + 2)) (r := [some (.ref M.length), none]) (M := M) (is := is) (n := n) (o := .var 0) (f := "seen") rfl rfl rfl rfl (by decide)).trans h0
  have h2 := sc_spot (cf := callN tab pds (k + 2)) (r := [some (.ref M.length), some (.str is[n])]) (M := M) (is := is) (n := n) (o := .var 0) rfl
  have hv : ev tab (callN tab pds (k + 2)) .v (.bin .add (.fld "spot" (.var 0)) (.int 1)) [some (.ref M.length), some (.str is[n])] (M ++ [scn is n]) = .ok (.int ((n : Int) + 1)) (M ++ [scn is n]) := (ev_binE (o := .add) (y := .int 1) (M2 := M ++ [scn is n]) h2 rfl).trans rfl
  have h4 : ex tab (callN tab pds (k + 2)) (.fset (.var 0) "spot" (.bin .add (.fld "spot" (.var 0)) (.int 1))) [some (.ref M.length), some (.str is[n])] (M ++ [scn is n]) = .nx [some (.ref M.length), some (.str is[n])] (M ++ [scn is (n + 1)]) :=
    ex_fset (f := "spot") (o := .var 0) (fs := scF is n) hv rfl rfl rfl rfl (show 2 < 1000 by decide)
  simp only [b_Scan_take]
  rw [show ∀ (a b : CS) (r : Rho) (M : Mem), ex tab (callN tab pds (k + 2)) (.seq a b) r M = (ex tab (callN tab pds (k + 2)) a r M).seq fun r1 M1 => ex tab (callN tab pds (k + 2)) b r1 M1 from fun _ _ _ _ => rfl]
  rw [show ex tab (callN tab pds (k + 2)) (.set 1 (.meth 0 "seen" (.var 0) .nil)) [some (.ref M.length), none] (M ++ [scn is n]) = .nx [some (.ref M.length), some (.str is[n])] (M ++ [scn is n]) by
    rw [show ∀ (i : Nat) (e : CE) (r : Rho) (M : Mem), ex tab (callN tab pds (k + 2)) (.set i e) r M = (ev tab (callN tab pds (k + 2)) .v e r M).to r fun d M1 => if i < r.length then .nx (r.set i (some d)) M1 else .stuck from fun _ _ _ _ => rfl, h3]
    rfl]
  simp only [Out.seq]
  rw [show ∀ (a b : CS) (r : Rho) (M : Mem), ex tab (callN tab pds (k + 2)) (.seq a b) r M = (ex tab (callN tab pds (k + 2)) a r M).seq fun r1 M1 => ex tab (callN tab pds (k + 2)) b r1 M1 from fun _ _ _ _ => rfl]
  rw [show ex tab (callN tab pds (k + 2)) (.ite (.cmp .isn (.var 1) .non) (.seq (.drop (.meth 0 "refuse" (.var 0) .nil)) .skip) .skip) [some (.ref M.length), some (.str is[n])] (M ++ [scn is n]) = .nx [some (.ref M.length), some (.str is[n])] (M ++ [scn is n]) from rfl]
  simp only [Out.seq]
  rw [show ∀ (a b : CS) (r : Rho) (M : Mem), ex tab (callN tab pds (k + 2)) (.seq a b) r M = (ex tab (callN tab pds (k + 2)) a r M).seq fun r1 M1 => ex tab (callN tab pds (k + 2)) b r1 M1 from fun _ _ _ _ => rfl]
  rw [h4]
  exact fin_rt (by simp)
theorem c_finish (k : Nat) (M : Mem) (is : List Str) (n : Nat) : C (k + 2) n_Scan_finish [.ref M.length] (M ++ [scn is n]) = if n = is.length then .ok .non (M ++ [scn is n]) else .exn c_BadText [.int (n : Int), .int 0] (M ++ [scn is n]) := by
  unfold C
  rw [u_Scan_finish]
  have h0 := c_over k M is n
  have h1 := c_refuse k M is n
  unfold C at h0 h1
  have h3 := (sc_meth (cf := callN tab pds (k + 1)) (r := [some (.ref M.length)]) (M := M) (is := is) (n := n) (o := .var 0) (f := "is_over") rfl rfl rfl rfl (by decide)).trans h0
  have h4 := (sc_meth (cf := callN tab pds (k + 1)) (r := [some (.ref M.length)]) (M := M) (is := is) (n := n) (o := .var 0) (f := "refuse") rfl rfl rfl rfl (by decide)).trans h1
  have h5 := ev_not h3
  simp only [b_Scan_finish]
  by_cases h : n = is.length
  · rw [if_pos h]
    rw [decide_eq_true h] at h5
    rw [ex_seqN ((ex_iteF h5).trans (ex_skip _ _))]
    exact fin_nx rfl
  · rw [if_neg h]
    rw [decide_eq_false h] at h5
    rw [ex_seqX ((ex_iteT h5).trans (ex_seqX (ex_dropX h4)))]
    exact fin_xn rfl
/-- Scan(text) -/
theorem c_init (k : Nat) (M : Mem) (l : List Nat) (is : List Str) (hs : Txt.split (S l) (S [32]) = is) (hl : l.length + 2 ≤ lim) (hi : is.length ≤ lim) : C (k + 1) n_Scan___init__ [.ref M.length, .str (S l)] (M ++ [.ins 0 []]) = .ok .non (M ++ [scn is 0]) := by
  unfold C
  rw [u_Scan___init__]
  have h1 : ev tab (callN tab pds k) .v (.sm (.split false) (.var 1) (.cons (.str " ") .nil)) [some (.ref M.length), some (.str (S l))] (M ++ [.ins 0 []]) = .ok (.lst (is.map D.str)) (M ++ [.ins 0 []]) := by
    have e : (" " : Str) = S [32] := rfl
    simp only [ev, Res.bind, List.getElem?_cons_zero, List.getElem?_cons_succ, consD, sfn]
    rw [e, hs, if_pos ⟨rfl, by rw [S_len]; exact hl, hi⟩]
    simp only [Iv.mk]
  have g1 : ∀ xs : List Str, gr (D.lst (xs.map D.str)) = true := fun xs => by
    show grs (xs.map D.str) = true
    induction xs with
    | nil => rfl
    | cons x xs ih =>
      show (gr (D.str x) && grs (xs.map D.str)) = true
      rw [ih]
      rfl
  have h2 : ex tab (callN tab pds k) (.fset (.var 0) "items_left" (.sm (.split false) (.var 1) (.cons (.str " ") .nil))) [some (.ref M.length), some (.str (S l))] (M ++ [.ins 0 []]) = .nx [some (.ref M.length), some (.str (S l))] (M ++ [.ins 0 [("items_left", .lst (is.map D.str))]]) :=
    ex_fset (c := 0) (M0 := M) (fs := []) h1 rfl rfl rfl (g1 is) (by decide)
  have h3 : ex tab (callN tab pds k) (.fset (.var 0) "spot" (.int 0)) [some (.ref M.length), some (.str (S l))] (M ++ [.ins 0 [("items_left", .lst (is.map D.str))]]) = .nx [some (.ref M.length), some (.str (S l))] (M ++ [scn is 0]) :=
    ex_fset (c := 0) (M0 := M) (fs := [("items_left", .lst (is.map D.str))]) (d := .int 0) rfl rfl rfl rfl rfl (show 1 < 1000 by decide)
  simp only [b_Scan___init__]
  rw [show ∀ (a b : CS) (r : Rho) (M : Mem), ex tab (callN tab pds k) (.seq a b) r M = (ex tab (callN tab pds k) a r M).seq fun r1 M1 => ex tab (callN tab pds k) b r1 M1 from fun _ _ _ _ => rfl]
  rw [show ex tab (callN tab pds k) (.ite (.not (.bc .isi (.cons (.var 1) (.cons (.tyv .str) .nil)))) (.seq (.raise c_BadText (.cons (.int 0) (.cons (.int 0) .nil))) .skip) .skip) [some (.ref M.length), some (.str (S l))] (M ++ [.ins 0 []]) = .nx [some (.ref M.length), some (.str (S l))] (M ++ [.ins 0 []]) from rfl]
  simp only [Out.seq]
  rw [show ∀ (a b : CS) (r : Rho) (M : Mem), ex tab (callN tab pds k) (.seq a b) r M = (ex tab (callN tab pds k) a r M).seq fun r1 M1 => ex tab (callN tab pds k) b r1 M1 from fun _ _ _ _ => rfl, h2]
  simp only [Out.seq]
  rw [show ∀ (a b : CS) (r : Rho) (M : Mem), ex tab (callN tab pds k) (.seq a b) r M = (ex tab (callN tab pds k) a r M).seq fun r1 M1 => ex tab (callN tab pds k) b r1 M1 from fun _ _ _ _ => rfl, h3]
  exact fin_nx (by simp)
def notStr : D → Bool
  | .str _ => false
  | _ => true
theorem c_init_no (k : Nat) (M : Mem) (d : D) (h : tyOk d = true) (hn : notStr d = true) : C (k + 1) n_Scan___init__ [.ref M.length, d] (M ++ [.ins 0 []]) = .exn c_BadText [.int 0, .int 0] (M ++ [.ins 0 []]) := by
  unfold C
  rw [u_Scan___init__]
  have h1 : bfn .isi [d, .ty .str] (M ++ [.ins 0 []]) = .ok (.bl false) (M ++ [.ins 0 []]) := by
    cases d <;> first | (cases h; done) | (cases hn; done) | rfl
  simp only [b_Scan___init__, ex, ev, Res.bind, Res.to, Out.seq, consD, List.getElem?_cons_zero, List.getElem?_cons_succ, CE.isNil, CE.isNon, Bool.false_eq_true, if_false, if_true, Bool.not_true, Bool.not_false, Iv.srcOf_tup, Iv.srcOf_ref, Iv.mkOf, Iv.mk, Iv.okPt_int, Iv.okPt_non, Iv.ptOf, Iv.itvf, Iv.seqOf, Iv.listOf, Iv.trkOf, Iv.itemsOf, h1, Bool.not_false]
  rw [ex_bt]
  exact fin_xn rfl
theorem to_rd (k : Nat) (M : Mem) (l : List Nat) (is : List Str) (hs : Txt.split (S l) (S [32]) = is) (hl : l.length + 2 ≤ lim) (hi : is.length ≤ lim) : ev tab (callN tab pds (k + 1)) .v (.make true 0 (.cons (.var 0) .nil)) [some (.str (S l)), none, none] M = .ok (.ref M.length) (M ++ [scn is 0]) :=
  ev_make (ds := [.str (S l)]) (M1 := M) rfl rfl (by decide) (c_init k M l is hs hl hi)
/-- read_table of a text with one or two items -/
theorem rd_body (k : Nat) (M : Mem) (l l0 : List Nat) (rest : List Str) (hs : Txt.split (S l) (S [32]) = S l0 :: rest) (hl : l.length + 2 ≤ lim) (h0 : l0.length ≤ lim) (hi : rest.length < lim) :
    C (k + 5) n_read_table [.str (S l)] M = if okT l0 = true then (if rest = [] then .ok (.tup (dI (l0.map unC))) M else .exn c_BadText [.int 1, .int 0] M) else .exn c_BadText [.int 0, .int 0] M := by
  unfold C
  rw [u_read_table]
  have hA := to_rd (k + 3) M l (S l0 :: rest) hs hl (by simp; omega)
  have hB := c_seen_at (k + 2) M (S l0 :: rest) 0 (by simp)
  have hC := s_table_in (k + 3) l0 (M ++ [scn (S l0 :: rest) 0]) h0
  have hD := c_take (k + 1) M (S l0 :: rest) 0 (by simp)
  have hE := c_finish (k + 2) M (S l0 :: rest) 1
  have hF := c_refuse (k + 3) M (S l0 :: rest) 0
  unfold C at hB hC hD hE hF
  simp only [List.getElem_cons_zero] at hB hD
  have m1 := (sc_meth (cf := callN tab pds (k + 4)) (r := [some (.str (S l)), some (.ref M.length), none]) (M := M) (is := S l0 :: rest) (n := 0) (o := .var 1) (f := "seen") rfl rfl rfl rfl (by decide)).trans hB
  have m2 := (ev_call1 (g := n_table_in) m1).trans hC
  show Iv.fin false M.length (ex tab (callN tab pds (k + 4)) b_read_table [some (.str (S l)), none, none] M) = _
  rw [show ex tab (callN tab pds (k + 4)) b_read_table [some (.str (S l)), none, none] M = ex tab (callN tab pds (k + 4)) t_read_table_0_1 [some (.str (S l)), some (.ref M.length), none] (M ++ [scn (S l0 :: rest) 0]) from ex_seqN (ex_setE hA (show 1 < 3 by decide))]
  rw [show ex tab (callN tab pds (k + 4)) t_read_table_0_1 [some (.str (S l)), some (.ref M.length), none] (M ++ [scn (S l0 :: rest) 0]) = ex tab (callN tab pds (k + 4)) t_read_table_0_2 [some (.str (S l)), some (.ref M.length), some (if okT l0 = true then .tup (dI (l0.map unC)) else .non)] (M ++ [scn (S l0 :: rest) 0]) from ex_seqN (ex_setE m2 (show 2 < 3 by decide))]
  cases ho : okT l0 with
  | false =>
    have m3 := (sc_meth (cf := callN tab pds (k + 4)) (r := [some (.str (S l)), some (.ref M.length), some .non]) (M := M) (is := S l0 :: rest) (n := 0) (o := .var 1) (f := "refuse") rfl rfl rfl rfl (by decide)).trans hF
    simp only [Bool.false_eq_true, if_false]
    rw [show ex tab (callN tab pds (k + 4)) t_read_table_0_2 [some (.str (S l)), some (.ref M.length), some .non] (M ++ [scn (S l0 :: rest) 0]) = .xn c_BadText [.int 0, .int 0] [some (.str (S l)), some (.ref M.length), some .non] (M ++ [scn (S l0 :: rest) 0]) from ex_seqX ((ex_iteT rfl).trans (ex_seqX (ex_dropX m3)))]
    exact fin_xnL rfl
  | true =>
    simp only [if_true]
    have m3 := (sc_meth (cf := callN tab pds (k + 4)) (r := [some (.str (S l)), some (.ref M.length), some (.tup (dI (l0.map unC)))]) (M := M) (is := S l0 :: rest) (n := 0) (o := .var 1) (f := "take") rfl rfl rfl rfl (by decide)).trans hD
    have m4 := (sc_meth (cf := callN tab pds (k + 4)) (r := [some (.str (S l)), some (.ref M.length), some (.tup (dI (l0.map unC)))]) (M := M) (is := S l0 :: rest) (n := 0 + 1) (o := .var 1) (f := "finish") rfl rfl rfl rfl (by decide)).trans hE
    rw [show ex tab (callN tab pds (k + 4)) t_read_table_0_2 [some (.str (S l)), some (.ref M.length), some (.tup (dI (l0.map unC)))] (M ++ [scn (S l0 :: rest) 0]) = ex tab (callN tab pds (k + 4)) t_read_table_0_3 [some (.str (S l)), some (.ref M.length), some (.tup (dI (l0.map unC)))] (M ++ [scn (S l0 :: rest) 0]) from ex_seqN ((ex_iteF rfl).trans (ex_skip _ _))]
    rw [show ex tab (callN tab pds (k + 4)) t_read_table_0_3 [some (.str (S l)), some (.ref M.length), some (.tup (dI (l0.map unC)))] (M ++ [scn (S l0 :: rest) 0]) = ex tab (callN tab pds (k + 4)) t_read_table_0_4 [some (.str (S l)), some (.ref M.length), some (.tup (dI (l0.map unC)))] (M ++ [scn (S l0 :: rest) (0 + 1)]) from ex_seqN (ex_dropE m3)]
    cases rest with
    | nil =>
      rw [if_pos (show 1 = [S l0].length from rfl)] at m4
      rw [if_pos rfl]
      rw [show ex tab (callN tab pds (k + 4)) t_read_table_0_4 [some (.str (S l)), some (.ref M.length), some (.tup (dI (l0.map unC)))] (M ++ [scn [S l0] (0 + 1)]) = .rt (.tup (dI (l0.map unC))) (M ++ [scn [S l0] (0 + 1)]) from (ex_seqN (ex_dropE m4)).trans (ex_seqR (ex_retE rfl))]
      exact fin_rtL (gr_dI _) (fun i z => by cases z)
    | cons x xs =>
      rw [if_neg (show ¬ 1 = (S l0 :: x :: xs).length by simp)] at m4
      rw [if_neg (by simp)]
      rw [show ex tab (callN tab pds (k + 4)) t_read_table_0_4 [some (.str (S l)), some (.ref M.length), some (.tup (dI (l0.map unC)))] (M ++ [scn (S l0 :: x :: xs) (0 + 1)]) = .xn c_BadText [.int 1, .int 0] [some (.str (S l)), some (.ref M.length), some (.tup (dI (l0.map unC)))] (M ++ [scn (S l0 :: x :: xs) (0 + 1)]) from ex_seqX (ex_dropX m4)]
      exact fin_xnL rfl
theorem rd_not (k : Nat) (M : Mem) (d : D) (h : tyOk d = true) (hn : notStr d = true) : C (k + 5) n_read_table [d] M = .exn c_BadText [.int 0, .int 0] M := by
  unfold C
  rw [u_read_table]
  have hA := c_init_no (k + 3) M d h hn
  have hB := ev_make_xn (T := tab) (cf := callN tab pds (k + 4)) (m := true) (c := 0) (as := .cons (.var 0) .nil) (r := [some d, none, none]) (M := M) (M1 := M) (ds := [d]) rfl rfl (by decide) hA
  rw [show ex tab (callN tab pds (k + 4)) b_read_table [some d, none, none] M = .xn c_BadText [.int 0, .int 0] [some d, none, none] (M ++ [.ins 0 []]) from ex_seqX (by rw [ex_set, hB]; rfl)]
  exact fin_xnL rfl
/-- a text without spaces is one item -/
theorem split_one {l : List Nat} (h : 32 ∉ l) : Txt.split (S l) (S [32]) = [S l] := by
  rw [split_S (by simp) (by decide), TL.spl_last1 h]
  rfl
theorem split_two {l m : List Nat} (h : 32 ∉ l) (k : 32 ∉ m) : Txt.split (S (l ++ [32] ++ m)) (S [32]) = [S l, S m] := by
  rw [split_S (by simp) (by decide), show l ++ [32] ++ m = l ++ ([32] ++ m) by simp, TL.spl_part1 h, TL.spl_last1 k]
  rfl
theorem tx_free (t : List Int) : 32 ∉ tx t := fun h => by
  obtain ⟨x, _, e⟩ := List.mem_map.mp h
  unfold cS at e
  split at e <;> cases e
theorem s_read_table (k p : Nat) (f : List Int → Int) (M : Mem) (hp : p ≤ 8) (hs : Sg (tbl p f)) : C (k + 5) n_read_table [.str (S (tx (tbl p f)))] M = .ok (.tup (dI (tbl p f))) M := by
  have hl : (tx (tbl p f)).length + 2 ≤ lim := by
    rw [List.length_map, tbl_len]
    have : 2 ^ p ≤ 256 := Nat.le_trans (Nat.pow_le_pow_right (by decide) hp) (by decide)
    show _ ≤ 1000000
    omega
  rw [rd_body k M _ _ [] (split_one (tx_free _)) hl (by omega) (by decide), if_pos (okT_tx hp), if_pos rfl, un_tx hs]
theorem s_read_bad (k : Nat) (l : List Nat) (M : Mem) (h : 32 ∉ l) (hl : l.length + 2 ≤ lim) (ho : okT l = false) : C (k + 5) n_read_table [.str (S l)] M = .exn c_BadText [.int 0, .int 0] M := by
  rw [rd_body k M _ _ [] (split_one h) hl (by omega) (by decide), ho]
  rfl
theorem s_read_two (k p : Nat) (f : List Int → Int) (M : Mem) (hp : p ≤ 8) : C (k + 5) n_read_table [.str (S (tx (tbl p f) ++ [32] ++ tx (tbl p f)))] M = .exn c_BadText [.int 1, .int 0] M := by
  have h2 : 2 ^ p ≤ 256 := Nat.le_trans (Nat.pow_le_pow_right (by decide) hp) (by decide)
  rw [rd_body k M _ _ _ (split_two (tx_free _) (tx_free _)) ?_ ?_ (show 1 < 1000000 by decide), if_pos (okT_tx hp), if_neg (by simp)]
  · rw [List.length_append, List.length_append, List.length_map, tbl_len]
    show _ ≤ 1000000
    simp
    omega
  · rw [List.length_map, tbl_len]
    show _ ≤ 1000000
    omega
end K03

/-! ## K03X -/
namespace K03
open PySem PySem.Spec L2 Iv SX
/-- what a level of calls gives -/
structure Lw (cf : Nat → List D → Mem → Res) : Prop where
  lv : Lv cf
  table : ∀ (p n : Nat) (P : Cell) (rest : Mem), p ≤ 8 → n + 300 * (p + 1) ≤ 1048576 → PenC n P → ∃ t P', PenC (n + 300 * (p + 1)) P' ∧ Sg t ∧ t.length = 2 ^ p ∧ cf n_law_table [.ref 0, .int p] (P :: rest) = .ok (.tup (dI t)) (P' :: rest)
  istb : ∀ (d : D) (M : Mem), okV d = true → cf n_is_table [d] M = .ok (.bl (isTbD d)) M
  places : ∀ (p : Nat) (f : List Int → Int) (d : D) (M : Mem), Tb d p f → cf n_places_of [d] M = .ok (.int p) M
  row : ∀ (p : Nat) (r : List Int) (d : D) (M : Mem), St d p r → cf n_row_of [d] M = .ok (.int (num r)) M
  setof : ∀ (p : Nat) (r : List Int) (M : Mem), p ≤ 8 → r ∈ rows p → cf n_setting_of [.int p, .int (num r)] M = .ok (.tup (dI r)) M
  sign : ∀ (p : Nat) (f : List Int → Int) (r : List Int) (d e : D) (M : Mem), Tb d p f → St e p r → cf n_sign_at [d, e] M = .ok (.int (f r)) M
  text : ∀ (p : Nat) (f : List Int → Int) (d : D) (M : Mem), Tb d p f → cf n_table_text [d] M = .ok (.str (S (tx (tbl p f)))) M
  read : ∀ (p : Nat) (f : List Int → Int) (M : Mem), p ≤ 8 → Sg (tbl p f) → cf n_read_table [.str (S (tx (tbl p f)))] M = .ok (.tup (dI (tbl p f))) M
  bad : ∀ (l : List Nat) (M : Mem), 32 ∉ l → l.length + 2 ≤ lim → okT l = false → cf n_read_table [.str (S l)] M = .exn c_BadText [.int 0, .int 0] M
  two : ∀ (p : Nat) (f : List Int → Int) (M : Mem), p ≤ 8 → cf n_read_table [.str (S (tx (tbl p f) ++ [32] ++ tx (tbl p f)))] M = .exn c_BadText [.int 1, .int 0] M
theorem lw : Lw (callN tab pds 22) :=
  ⟨lv 19, (fun p n P rest h1 h2 h3 => by
    have z := s_table rest p (18 - p) n P h1 h2 h3
    rw [show 18 - p + p + 4 = 22 by omega] at z
    exact z), fun d M h => s_is_table 17 d M h, fun p f d M T => s_places_of 15 p f d M T, fun p r d M T => s_row_of 16 p r d M T, fun p r M h1 h2 => s_setting_of 19 p r M h1 h2, fun p f r d e M T U => s_sign_at 15 p f r d e M T U,
    fun p f d M T => s_table_text 15 p f d M T, fun p f M h1 h2 => s_read_table 17 p f M h1 h2, fun l M h1 h2 h3 => s_read_bad 17 l M h1 h2 h3, fun p f M h => s_read_two 17 p f M h⟩
/-! ### the bent table -/
abbrev oddS : List D := [.bl true, .int 2, .int (-1), .non, .str "1", .lst [.int 0], .int (1 - 10 ^ 30)]
theorem oddS_ok {d : D} (h : d ∈ oddS) : tyOk d = true ∧ isSgD d = false := by
  simp only [List.mem_cons, List.not_mem_nil, or_false] at h
  rcases h with rfl | rfl | rfl | rfl | rfl | rfl | rfl <;> exact ⟨by decide, by decide⟩
section
variable {cf : Nat → List D → Mem → Res}
abbrev bentE : CE := .lc false [11, 10] (.tp (.cons (.nm 11) (.cons (.nm 10) .nil))) (.ite2 (.var 2)) .nil (.ite (.cmp .eq (.var 11) (.var 4)) (.call n_law_pick (.cons (.var 0) (.cons (.lst false (.cons (.bl true) (.cons (.int 2) (.cons (.neg (.int 1)) (.cons .non (.cons (.str "1") (.cons (.lst false (.cons (.int 0) .nil)) (.cons (.bin .sub (.int 1) (.bin .pow (.int 10) (.int 30))) .nil)))))))) .nil))) (.var 10))
theorem pick_odd (W : Lw cf) (n : Nat) (P : Cell) (hP : PenC n P) (hn : n ≤ 1048576) (r : Rho) (h0 : r[0]? = some (some (.ref 0))) : ∃ y ∈ oddS, ∃ P', PenC (n + 1) P' ∧
    ev tab cf .v (.call n_law_pick (.cons (.var 0) (.cons (.lst false (.cons (.bl true) (.cons (.int 2) (.cons (.neg (.int 1)) (.cons .non (.cons (.str "1") (.cons (.lst false (.cons (.int 0) .nil)) (.cons (.bin .sub (.int 1) (.bin .pow (.int 10) (.int 30))) .nil)))))))) .nil))) r [P] = .ok y [P'] := by
  obtain ⟨y, hy, P', h1, h2⟩ := W.lv.pickD n P [] oddS (by simp) (by simp) hn hP
  refine ⟨y, hy, P', h1, ?_⟩
  refine (ev_callE (ev_cons (M1 := [P]) (x := .ref 0) (ev_var h0) (ev_cons (M1 := [P]) (x := .lst oddS) ?_ rfl))).trans h2
  simp only [ex, ev, Res.bind, Res.to, Out.seq, consD, List.getElem?_cons_zero, List.getElem?_cons_succ, CE.isNil, CE.isNon, Bool.false_eq_true, if_false, if_true, Bool.not_true, Bool.not_false, Iv.srcOf_tup, Iv.srcOf_ref, Iv.mkOf, Iv.mk, Iv.okPt_int, Iv.okPt_non, Iv.ptOf, bop]
  rw [if_pos (by decide)]
  simp only [ex, ev, Res.bind, Res.to, Out.seq, consD, List.getElem?_cons_zero, List.getElem?_cons_succ, CE.isNil, CE.isNon, Bool.false_eq_true, if_false, if_true, Bool.not_true, Bool.not_false, Iv.srcOf_tup, Iv.srcOf_ref, Iv.mkOf, Iv.mk, Iv.okPt_int, Iv.okPt_non, Iv.ptOf, bop]
  rfl
theorem bent_ok (W : Lw cf) (n v : Nat) (P : Cell) (hP : PenC n P) (t : List Int) (hs : Sg t) (hv : v < t.length) (hl : t.length ≤ 256) (hn : n + 256 ≤ 1048576) (x1 x3 x5 x6 x7 x8 x9 x10 x11 x12 : Option D) :
    ∃ ys P', PenC (n + t.length) P' ∧ ev tab cf .v bentE [some (.ref 0), x1, some (.tup (dI t)), x3, some (.int (v : Int)), x5, x6, x7, x8, x9, x10, x11, x12] [P] = .ok (.lst ys) [P'] ∧ ys.length = t.length ∧ (∀ y ∈ ys, tyOk y = true) ∧ ∃ y ∈ ys, isSgD y = false := by
  obtain ⟨ys, M', h1, ⟨P', rfl, h2, h3, h4⟩, h5⟩ := lc_rel (fun p : Int × Nat => D.tup [.int (p.2 : Nat), .int p.1]) (fun pre ys M => ∃ P', M = [P'] ∧ PenC (n + pre.length) P' ∧ (∀ y ∈ ys, tyOk y = true) ∧ (v < pre.length → ∃ y ∈ ys, isSgD y = false)) (t.zipIdx 0)
    (tg := fun d => asg (.tp (.cons (.nm 11) (.cons (.nm 10) .nil))) d (wipeR [some (.ref 0), x1, some (.tup (dI t)), x3, some (.int (v : Int)), x5, x6, x7, x8, x9, x10, x11, x12] [11, 10]))
    (el := ev tab cf .v (.ite (.cmp .eq (.var 11) (.var 4)) (.call n_law_pick (.cons (.var 0) (.cons (.lst false (.cons (.bl true) (.cons (.int 2) (.cons (.neg (.int 1)) (.cons .non (.cons (.str "1") (.cons (.lst false (.cons (.int 0) .nil)) (.cons (.bin .sub (.int 1) (.bin .pow (.int 10) (.int 30))) .nil)))))))) .nil))) (.var 10))) (M := [P])
    (by rw [List.length_zipIdx]; exact Nat.le_trans hl (by decide)) (fun pre x post ys M e hy hI => by
      obtain ⟨P', rfl, i1, i2, i3⟩ := hI
      have hx : (t.zipIdx 0)[pre.length]? = some x := by rw [e]; simp
      rw [List.getElem?_zipIdx] at hx
      obtain ⟨a, ha, rfl⟩ := Option.map_eq_some_iff.mp hx
      have hlt := (List.getElem?_eq_some_iff.mp ha).1
      refine ⟨[some (.ref 0), x1, some (.tup (dI t)), x3, some (.int (v : Int)), x5, x6, x7, x8, x9, some (.int a), some (.int ((0 + pre.length : Nat) : Int)), x12], rfl, ?_⟩
      have hc : ev tab cf .v (.cmp .eq (.var 11) (.var 4)) [some (.ref 0), x1, some (.tup (dI t)), x3, some (.int (v : Int)), x5, x6, x7, x8, x9, some (.int a), some (.int ((0 + pre.length : Nat) : Int)), x12] [P'] = .ok (.bl (decide (((0 + pre.length : Nat) : Int) = (v : Int)))) [P'] :=
        (ev_cmp (M1 := [P']) (M2 := [P']) (x := .int ((0 + pre.length : Nat) : Int)) (y := .int (v : Int)) rfl rfl).trans (cop_eq_int _ _ _)
      by_cases hv2 : pre.length = v
      · rw [decide_eq_true (by omega)] at hc
        obtain ⟨y, hy1, P2, hy2, hy3⟩ := pick_odd W (n + pre.length) P' i1 (by omega) [some (.ref 0), x1, some (.tup (dI t)), x3, some (.int (v : Int)), x5, x6, x7, x8, x9, some (.int a), some (.int ((0 + pre.length : Nat) : Int)), x12] rfl
        obtain ⟨o1, o2⟩ := oddS_ok hy1
        refine ⟨y, [P2], (ev_iteT hc).trans hy3, P2, rfl, by rw [List.length_append]; exact hy2, fun z hz => ?_, fun _ => ⟨y, by simp, o2⟩⟩
        rcases List.mem_append.mp hz with q | q
        · exact i2 z q
        · rw [List.mem_singleton.mp q]
          exact o1
      · rw [decide_eq_false (by omega)] at hc
        refine ⟨.int a, [P'], (ev_iteF hc).trans rfl, P', rfl, i1.mono (by simp), fun z hz => ?_, fun h => ?_⟩
        · rcases List.mem_append.mp hz with q | q
          · exact i2 z q
          · rw [List.mem_singleton.mp q]
            rfl
        · obtain ⟨y, q1, q2⟩ := i3 (by simp at h; omega)
          exact ⟨y, List.mem_append_left _ q1, q2⟩) ⟨P, rfl, hP, (fun y hy => by cases hy), fun h => by simp at h⟩
  rw [List.length_zipIdx] at h2 h4 h5
  refine ⟨ys, P', h2, ?_, h5, h3, h4 hv⟩
  refine ev_lc (xs := (t.zipIdx 0).map fun p : Int × Nat => D.tup [.int (p.2 : Nat), .int p.1]) (M1 := [P]) ?_ h1
  simp only [ex, ev, Res.bind, Res.to, Out.seq, consD, List.getElem?_cons_zero, List.getElem?_cons_succ, CE.isNil, CE.isNon, Bool.false_eq_true, if_false, if_true, Bool.not_true, Bool.not_false, Iv.srcOf_tup, Iv.srcOf_ref, Iv.mkOf, Iv.mk, Iv.okPt_int, Iv.okPt_non, Iv.ptOf, Iv.itvf, Iv.seqOf, Iv.listOf, Iv.trkOf, Iv.itemsOf, enumD_map]
/-! ### the texts that are none -/
theorem tx_no {t : List Int} {c : Nat} (h : c ≠ 48 ∧ c ≠ 49) : c ∉ tx t := fun hc => by
  obtain ⟨x, _, e⟩ := List.mem_map.mp hc
  unfold cS at e
  split at e <;> omega
theorem okT_has {l : List Nat} {c : Nat} (h : c ∈ l) (hc : c ≠ 48 ∧ c ≠ 49) : okT l = false := by
  unfold okT
  rw [Bool.and_eq_false_iff]
  refine .inr ?_
  rw [List.all_eq_false]
  exact ⟨c, h, by simp [hc.1, hc.2]⟩
theorem okT_len {l : List Nat} (h : ¬ ((l.length : Int) ∈ SIZES)) : okT l = false := by
  unfold okT
  rw [decide_eq_false h, Bool.false_and]
def badL (t : List Int) : List (List Nat) := [tx t ++ [50], tx t ++ List.replicate t.length 48 ++ [49], [50] ++ (tx t).drop 1, (tx t).take (t.length - 1) ++ [45], []]
theorem bad_ok {p : Nat} {t l : List Int} {m : List Nat} (ht : t.length = 2 ^ p) (hp : p ≤ 8) (h : m ∈ badL t) : 32 ∉ m ∧ m.length + 2 ≤ lim ∧ okT m = false := by
  have h32 : 32 ∉ tx t := tx_no ⟨by decide, by decide⟩
  have h256 : t.length ≤ 256 := by
    rw [ht]
    exact Nat.le_trans (Nat.pow_le_pow_right (by decide) hp) (by decide)
  have hlm : ∀ n : Nat, n ≤ 1000 → n ≤ lim := fun n h => Nat.le_trans h (by decide)
  simp only [badL, List.mem_cons, List.not_mem_nil, or_false] at h
  rcases h with rfl | rfl | rfl | rfl | rfl
  · refine ⟨fun z => ?_, hlm _ (by simp; omega), okT_has (c := 50) (by simp) ⟨by decide, by decide⟩⟩
    rcases List.mem_append.mp z with q | q
    · exact h32 q
    · simp at q
  · refine ⟨fun z => ?_, hlm _ (by simp; omega), okT_len ?_⟩
    · rcases List.mem_append.mp z with q | q
      · rcases List.mem_append.mp q with q | q
        · exact h32 q
        · have := (List.mem_replicate.mp q).2
          omega
      · simp at q
    · have e : (tx t ++ List.replicate t.length 48 ++ [49]).length = 2 * 2 ^ p + 1 := by
        rw [List.length_append, List.length_append, List.length_replicate, List.length_map, ht, List.length_singleton]
        omega
      rw [e]
      have : p = 0 ∨ p = 1 ∨ p = 2 ∨ p = 3 ∨ p = 4 ∨ p = 5 ∨ p = 6 ∨ p = 7 ∨ p = 8 := by omega
      rcases this with z | z | z | z | z | z | z | z | z <;> subst z <;> decide
  · refine ⟨fun z => ?_, hlm _ (by simp; omega), okT_has (c := 50) (by simp) ⟨by decide, by decide⟩⟩
    rcases List.mem_append.mp z with q | q
    · simp at q
    · exact h32 (List.mem_of_mem_drop q)
  · refine ⟨fun z => ?_, hlm _ (by simp; omega), okT_has (c := 45) (by simp) ⟨by decide, by decide⟩⟩
    rcases List.mem_append.mp z with q | q
    · exact h32 (List.mem_of_mem_take q)
    · simp at q
  · exact ⟨by simp, by decide, by decide⟩
abbrev Tx00 : D := .tup [.str "text", .int 0, .int 0]
abbrev Tx01 : D := .tup [.str "text", .int 0, .int 1]
theorem h_text0 (M : Mem) : heardR tab.hres (.exn c_BadText [.int 0, .int 0] M) = .ok Tx00 M := rfl
theorem h_text1 (M : Mem) : heardR tab.hres (.exn c_BadText [.int 1, .int 0] M) = .ok Tx01 M := rfl
theorem ne_text (M : Mem) : cop .ne Tx00 Tx00 M = .ok (.bl false) M := by
  have e : cmpB .ne Tx00 Tx00 M = some false := by
    show cmpB .ne Tx00 Tx00 [] = some false
    decide +kernel
  unfold cop
  rw [e]
theorem eq_text (M : Mem) : cop .eq Tx01 Tx01 M = .ok (.bl true) M := by
  have e : cmpB .eq Tx01 Tx01 M = some true := by
    show cmpB .eq Tx01 Tx01 [] = some true
    decide +kernel
  unfold cop
  rw [e]
theorem bad_loop (W : Lw cf) (p : Nat) (t : List Int) (ht : t.length = 2 ^ p) (hp : p ≤ 8) (x0 x1 x2 x3 x4 x5 x6 x7 x8 x9 x10 x11 x12 : Option D) (M : Mem) :
    ∃ y9, forGo (fun d r => asg (.nm 9) d r) (ex tab cf l_law_table_right_0) (.fix ((badL t).map fun l => D.str (S l))) (Src.fix ((badL t).map fun l => D.str (S l))).fuel 0 [x0, x1, x2, x3, x4, x5, x6, x7, x8, x9, x10, x11, x12] M = .nx [x0, x1, x2, x3, x4, x5, x6, x7, x8, y9, x10, x11, x12] M := by
  obtain ⟨r', M', h, ⟨y9, hr, hM⟩⟩ := for_all (fun l : List Nat => D.str (S l)) (fun pre r M' => ∃ y9, r = [x0, x1, x2, x3, x4, x5, x6, x7, x8, y9, x10, x11, x12] ∧ M' = M) (badL t) (tg := fun d r => asg (.nm 9) d r) (body := ex tab cf l_law_table_right_0)
    (r := [x0, x1, x2, x3, x4, x5, x6, x7, x8, x9, x10, x11, x12]) (M := M) (fun pre l post r M1 e hI => by
      obtain ⟨y9, rfl, rfl⟩ := hI
      obtain ⟨b1, b2, b3⟩ := bad_ok (l := []) ht hp (show l ∈ badL t by rw [e]; simp)
      refine ⟨[x0, x1, x2, x3, x4, x5, x6, x7, x8, some (.str (S l)), x10, x11, x12], rfl, [x0, x1, x2, x3, x4, x5, x6, x7, x8, some (.str (S l)), x10, x11, x12], M1, ?_, some (.str (S l)), rfl, rfl⟩
      have hb := W.bad l M1 b1 b2 b3
      simp only [l_law_table_right_0, t_law_table_right_9_0, ex, ev, Res.bind, Res.to, Out.seq, consD, List.getElem?_cons_zero, List.getElem?_cons_succ, CE.isNil, CE.isNon, Bool.false_eq_true, if_false, if_true, Bool.not_true, Bool.not_false, Iv.srcOf_tup, Iv.srcOf_ref, Iv.mkOf, Iv.mk, Iv.okPt_int, Iv.okPt_non, Iv.ptOf, hb, h_text0, ne_text]) ⟨x9, rfl, rfl⟩
  subst hr hM
  exact ⟨y9, h⟩
end
end K03

/-! ## K03Y -/
namespace K03
open PySem PySem.Spec L2 Iv SX
section
variable {cf : Nat → List D → Mem → Res}
theorem list_sq {d : D} {xs : List D} (h : sqD d = some xs) (M : Mem) : bfn (.list false) [d] M = .ok (.lst xs) M := by
  rcases sqD_cases h with rfl | rfl <;> rfl
theorem kw1 : tab.defs[n_is_table]? = some g15 ∧ g15.kws[0]? = some ((["value"] : List Str), [0]) ∧ tab.defs[n_places_of]? = some g16 ∧ g16.kws[0]? = some ((["table"] : List Str), [0]) ∧ tab.defs[n_row_of]? = some g17 ∧ g17.kws[0]? = some ((["setting"] : List Str), [0]) ∧
  tab.defs[n_setting_of]? = some g18 ∧ g18.kws[0]? = some ((["places", "row"] : List Str), [0, 1]) ∧ tab.defs[n_sign_at]? = some g19 ∧ g19.kws[0]? = some ((["table", "setting"] : List Str), [0, 1]) ∧ tab.defs[n_table_text]? = some g20 ∧ g20.kws[0]? = some ((["table"] : List Str), [0]) ∧
  tab.defs[n_read_table]? = some g21 ∧ g21.kws[0]? = some ((["text"] : List Str), [0]) := ⟨rfl, rfl, rfl, rfl, rfl, rfl, rfl, rfl, rfl, rfl, rfl, rfl, rfl, rfl⟩
theorem perm0 (x : D) : permL [0] [x] = [x] := rfl
theorem perm01 (x y : D) : permL [0, 1] [x, y] = [x, y] := rfl
theorem nis_bl (a b : Bool) (M : Mem) : cop .nisn (.bl a) (.bl b) M = .ok (.bl (!decide (a = b))) M := rfl
theorem tup_lst (xs : List D) (M : Mem) : bfn .tuple [.lst xs] M = .ok (.tup xs) M := rfl
/-- the values that are no tables -/
def odds (t : List Int) (ys : List D) : List D := [.lst ys, .lst (dI (t ++ [0, 1, 0, 1, 1])), .str (S (tx t)), .non, .int 5, .dk [.inl 0] [.int 1], .lst [], .lst (dI (t ++ (t ++ t)))]
theorem noT_len {xs : List D} (h : ¬ ((xs.length : Int) ∈ SIZES)) : isTbD (.lst xs) = false := by
  show (xs.all isSgD && decide ((xs.length : Int) ∈ SIZES)) = false
  rw [decide_eq_false h, Bool.and_false]
theorem odds_ok {p : Nat} {t : List Int} {ys : List D} (ht : t.length = 2 ^ p) (hp : p ≤ 8) (h1 : ys.length = t.length) (h2 : ∀ y ∈ ys, tyOk y = true) (h3 : ∃ y ∈ ys, isSgD y = false) {d : D} (h : d ∈ odds t ys) : okV d = true ∧ isTbD d = false := by
  have h256 : t.length ≤ 256 := by
    rw [ht]
    exact Nat.le_trans (Nat.pow_le_pow_right (by decide) hp) (by decide)
  have hlm : ∀ n : Nat, n ≤ 1000 → n ≤ lim := fun n h => Nat.le_trans h (by decide)
  have okl : ∀ xs : List D, xs.length ≤ 1000 → (∀ y ∈ xs, tyOk y = true) → okV (.lst xs) = true := fun xs h1 h2 => by
    show (decide (xs.length ≤ lim) && xs.all tyOk) = true
    rw [Bool.and_eq_true, decide_eq_true_eq, List.all_eq_true]
    exact ⟨hlm _ h1, h2⟩
  have okd : ∀ xs : List Int, xs.length ≤ 1000 → okV (.lst (dI xs)) = true := fun xs h1 => okl _ (by rw [List.length_map]; exact h1) fun y hy => by
    obtain ⟨x, _, rfl⟩ := List.mem_map.mp hy
    rfl
  have cases9 : p = 0 ∨ p = 1 ∨ p = 2 ∨ p = 3 ∨ p = 4 ∨ p = 5 ∨ p = 6 ∨ p = 7 ∨ p = 8 := by omega
  simp only [odds, List.mem_cons, List.not_mem_nil, or_false] at h
  rcases h with rfl | rfl | rfl | rfl | rfl | rfl | rfl | rfl
  · refine ⟨okl _ (by omega) h2, ?_⟩
    obtain ⟨y, hy, e⟩ := h3
    show (ys.all isSgD && _) = false
    rw [show ys.all isSgD = false from List.all_eq_false.mpr ⟨y, hy, by rw [e]; exact Bool.false_ne_true⟩, Bool.false_and]
  · refine ⟨okd _ (by simp; omega), noT_len ?_⟩
    rw [List.length_map, List.length_append, ht]
    rcases cases9 with z | z | z | z | z | z | z | z | z <;> subst z <;> decide
  · exact ⟨rfl, rfl⟩
  · exact ⟨rfl, rfl⟩
  · exact ⟨rfl, rfl⟩
  · exact ⟨rfl, rfl⟩
  · exact ⟨rfl, by decide⟩
  · refine ⟨okd _ (by simp; omega), noT_len ?_⟩
    rw [List.length_map, List.length_append, List.length_append, ht]
    rcases cases9 with z | z | z | z | z | z | z | z | z <;> subst z <;> decide
theorem odds_lc (W : Lw cf) {p : Nat} {t : List Int} {ys : List D} (ht : t.length = 2 ^ p) (hp : p ≤ 8) (h1 : ys.length = t.length) (h2 : ∀ y ∈ ys, tyOk y = true) (h3 : ∃ y ∈ ys, isSgD y = false) (x0 x1 x2 x3 x4 x5 x6 x7 x9 x10 x11 x12 : Option D) (M : Mem) :
    ev tab cf .v (.lc false [12] (.nm 12) (.itv (.var 8)) (.cmp .nisn (.call n_is_table (.cons (.var 12) .nil)) (.bl false)) (.var 12)) [x0, x1, x2, x3, x4, x5, x6, x7, some (.lst (odds t ys)), x9, x10, x11, x12] M = .ok (.lst []) M := by
  have z := lc_filt (fun d : D => d) (fun d => d) (fun d => !decide (isTbD d = false)) (odds t ys) (tg := fun d => asg (.nm 12) d (wipeR [x0, x1, x2, x3, x4, x5, x6, x7, some (.lst (odds t ys)), x9, x10, x11, x12] [12]))
    (ts := ev tab cf .v (.cmp .nisn (.call n_is_table (.cons (.var 12) .nil)) (.bl false))) (el := ev tab cf .v (.var 12)) (M := M) (show 8 ≤ lim by decide) (fun d hd => by
      obtain ⟨o1, o2⟩ := odds_ok ht hp h1 h2 h3 hd
      refine ⟨[x0, x1, x2, x3, x4, x5, x6, x7, some (.lst (odds t ys)), x9, x10, x11, some d], rfl, ?_, fun _ => rfl⟩
      exact (ev_cmp (M1 := M) (M2 := M) (x := .bl (isTbD d)) (y := .bl false) ((ev_call1 (ev_var (d := d) rfl)).trans (W.istb d M o1)) rfl).trans (nis_bl _ _ _))
  have e : ((odds t ys).filter fun d => !decide (isTbD d = false)) = [] := by
    rw [List.filter_eq_nil_iff]
    intro d hd
    rw [(odds_ok ht hp h1 h2 h3 hd).2]
    decide
  rw [e, List.map_id'] at z
  exact ev_lcf (M1 := M) rfl rfl z
theorem rpt_zero (n : Nat) : rptS "0" n = S (List.replicate n 48) := by
  refine TL.ext_tl ?_
  show (rptS "0" n).cps.toList = List.replicate n 48
  rw [rptS_list]
  induction n with
  | zero => rfl
  | succ n ih =>
    rw [List.replicate_succ, List.flatten_cons, ih]
    rfl
theorem addS (a b : List Nat) (M : Mem) (h : a.length + b.length ≤ lim) : bop .add (.str (S a)) (.str (S b)) M = .ok (.str (S (a ++ b))) M := by
  rw [bop_addS M (by rw [S_len, S_len]; exact h), S_cat]
theorem texts_ev (W : Lw cf) (p : Nat) (t : List Int) (ht : t.length = 2 ^ p) (hp : p ≤ 8) (x0 x2 x3 x4 x5 x7 x8 x9 x10 x11 x12 : Option D) (M : Mem) :
    ev tab cf .v (.tup (.cons (.bin .add (.var 6) (.str "2")) (.cons (.bin .add (.bin .add (.var 6) (.bin .mul (.str "0") (.call n_law_twos (.cons (.var 1) .nil)))) (.str "1")) (.cons (.bin .add (.str "2") (.sl (.var 6) (.int 1) .non)) (.cons (.bin .add (.sl (.var 6) .non (.neg (.int 1))) (.str "-")) (.cons (.str "") .nil))))))
      [x0, some (.int (p : Int)), x2, x3, x4, x5, some (.str (S (tx t))), x7, x8, x9, x10, x11, x12] M = .ok (.tup ((badL t).map fun l => D.str (S l))) M := by
  have h256 : t.length ≤ 256 := by
    rw [ht]
    exact Nat.le_trans (Nat.pow_le_pow_right (by decide) hp) (by decide)
  have hlm : ∀ n : Nat, n ≤ 1000 → n ≤ lim := fun n h => Nat.le_trans h (by decide)
  have ht2 : (tx t).length = t.length := List.length_map ..
  have hne : tx t ≠ [] := fun z => by
    have := congrArg List.length z
    rw [ht2, ht] at this
    have := Nat.two_pow_pos p
    simp_all
  have tw := W.lv.twos p M (by omega)
  rw [← ht] at tw
  have z0 : (("0" : Str)).length = 1 := rfl
  have m1 : bop .mul (.str "0") (.int (t.length : Int)) M = .ok (.str (S (List.replicate t.length 48))) M := by
    simp only [bop]
    rw [if_pos ⟨by omega, by have := hlm _ (show t.length ≤ 1000 by omega); exact Int.ofNat_le.mpr this, by rw [z0, Int.toNat_natCast]; exact hlm _ (by omega)⟩, Int.toNat_natCast, rpt_zero]
  have a1 := addS (tx t) [50] M (hlm _ (by rw [ht2]; show t.length + 1 ≤ 1000; omega))
  have a2 := addS (tx t) (List.replicate t.length 48) M (hlm _ (by rw [ht2, List.length_replicate]; omega))
  have a3 := addS (tx t ++ List.replicate t.length 48) [49] M (hlm _ (by simp; omega))
  have s1 : slf (.str (S (tx t))) (.int 1) .non M = .ok (.str (S ((tx t).drop 1))) M := by
    simp only [slf, Iv.ptOf]
    rw [if_pos (by rw [S_len, ht2]; exact hlm _ (by omega)), slice_from (by decide)]
    rfl
  have a4 := addS [50] ((tx t).drop 1) M (hlm _ (by simp; omega))
  have s2 : slf (.str (S (tx t))) .non (.int (-1)) M = .ok (.str (S ((tx t).take (t.length - 1)))) M := by
    simp only [slf, Iv.ptOf]
    rw [if_pos (by rw [S_len, ht2]; exact hlm _ (by omega)), slice_butlast hne, ht2]
  have a5 := addS ((tx t).take (t.length - 1)) [45] M (hlm _ (by simp; omega))
  have c2 : (("2" : Str)) = S [50] := rfl
  have c1 : (("1" : Str)) = S [49] := rfl
  have c5 : (("-" : Str)) = S [45] := rfl
  have c6 : (("" : Str)) = S [] := rfl
  rw [c2, c1, c5, c6]
  simp only [ex, ev, Res.bind, Res.to, Out.seq, consD, List.getElem?_cons_zero, List.getElem?_cons_succ, CE.isNil, CE.isNon, Bool.false_eq_true, if_false, if_true, Bool.not_true, Bool.not_false, Iv.srcOf_tup, Iv.srcOf_ref, Iv.mkOf, Iv.mk, Iv.okPt_int, Iv.okPt_non, Iv.ptOf, a1, tw, m1, a2, a3, s1, a4, s2, a5, badL, List.map_cons, List.map_nil]
/-- what is told of a table -/
theorem right_ok (W : Lw cf) (p n : Nat) (P : Cell) (hp : p ≤ 8) (hP : PenC n P) (hn : n + 3000 ≤ 1048576) : ∃ P', PenC (n + 3000) P' ∧ ex tab cf b_law_table_right [some (.ref 0), some (.int (p : Int)), none, none, none, none, none, none, none, none, none, none, none] [P] = .rt (.bl true) [P'] := by
  obtain ⟨t, P1, a1, a2, a3, a4⟩ := W.table p n P [] hp (by omega) hP
  have h256 : 2 ^ p ≤ 256 := Nat.le_trans (Nat.pow_le_pow_right (by decide) hp) (by decide)
  have hpos := Nat.two_pow_pos p
  obtain ⟨f, hf⟩ := tbl_of a3
  have a2' := a2
  rw [hf] at a2'
  have T : Tb (.tup (dI t)) p f := by rw [hf]; exact Tb.tup a2' hp
  have L : Tb (.lst (dI t)) p f := by rw [hf]; exact Tb.lst a2' hp
  obtain ⟨w, P2, b1, b2, b3, b4⟩ := W.lv.draw _ P1 [] ((2 ^ p : Nat) : Int) (by omega) (by omega) (by omega) a1
  obtain ⟨v, rfl⟩ : ∃ v : Nat, w = v := ⟨w.toNat, by omega⟩
  have hv : v < 2 ^ p := by omega
  have hvr : v < (rows p).length := by rw [rows_len]; exact hv
  obtain ⟨r, hr⟩ : ∃ r, (rows p)[v]? = some r := ⟨_, List.getElem?_eq_getElem hvr⟩
  have hrm : r ∈ rows p := List.mem_of_getElem? hr
  have hnum : num r = v := rows_num hr
  have tw : ∀ M, cf n_law_twos [.int p] M = .ok (.int ((2 ^ p : Nat) : Int)) M := fun M => W.lv.twos p M (by omega)
  have st : ∀ M, cf n_law_setting [.int p, .int (v : Int)] M = .ok (.lst (dI r)) M := fun M => by
    have z := W.lv.setting p r M (by omega) hrm
    rw [hnum] at z
    exact z
  have U : St (.lst (dI r)) p r := ⟨rfl, hrm, hp⟩
  have V : St (.tup (dI r)) p r := ⟨rfl, hrm, hp⟩
  have e1 : ∀ M, cf n_is_table [.tup (dI t)] M = .ok (.bl true) M := fun M => by rw [W.istb _ M T.ok, T.is]
  have e2 : ∀ M, cf n_is_table [.lst (dI t)] M = .ok (.bl true) M := fun M => by rw [W.istb _ M L.ok, L.is]
  have e3 : ∀ M, cf n_places_of [.lst (dI t)] M = .ok (.int p) M := fun M => W.places p f _ M L
  have e4 : ∀ M, cf n_row_of [.lst (dI r)] M = .ok (.int (v : Int)) M := fun M => by rw [W.row p r _ M U, hnum]
  have e5 : ∀ M, cf n_row_of [.tup (dI r)] M = .ok (.int (v : Int)) M := fun M => by rw [W.row p r _ M V, hnum]
  have e6 : ∀ M, cf n_setting_of [.int p, .int (v : Int)] M = .ok (.tup (dI r)) M := fun M => by
    have z := W.setof p r M hp hrm
    rw [hnum] at z
    exact z
  have e7 : ∀ M, cf n_sign_at [.lst (dI t), .lst (dI r)] M = .ok (.int (f r)) M := fun M => W.sign p f r _ _ M L U
  have e8 : ∀ M, cf n_table_text [.lst (dI t)] M = .ok (.str (S (tx t))) M := fun M => by rw [W.text p f _ M L, hf]
  have e9 : ∀ M, cf n_read_table [.str (S (tx t))] M = .ok (.tup (dI t)) M := fun M => by
    rw [hf]
    exact W.read p f M hp a2'
  have e10 : ∀ M, ixf (.tup (dI t)) (.int (v : Int)) M = .ok (.int (f r)) M := fun M => by
    have z := T.get hrm M
    rw [hnum] at z
    exact z
  have e11 : ∀ M, cf n_read_table [.str (S (tx t ++ [32] ++ tx t))] M = .exn c_BadText [.int 1, .int 0] M := fun M => by
    rw [hf]
    exact W.two p f M hp
  have hl : t.length ≤ lim := by rw [a3]; exact Nat.le_trans h256 (by decide)
  have rp : ∀ M, bfn .repr [.tup (dI t)] M = .ok (.str (PyData.shown (tuI t))) M := fun M => repr_tup M t a2 (by omega)
  have nei : ∀ (x : Int) (M : Mem), cop .ne (.int x) (.int x) M = .ok (.bl false) M := fun x M => by rw [cop_ne_int, decide_eq_true rfl]; rfl
  have nel : ∀ (xs : List Int) (M : Mem), cop .ne (.lst (dI xs)) (.lst (dI xs)) M = .ok (.bl false) M := fun x M => by rw [cop_ne_lst, decide_eq_true rfl]; rfl
  have net : ∀ (xs : List Int) (M : Mem), cop .ne (.tup (dI xs)) (.tup (dI xs)) M = .ok (.bl false) M := fun x M => cop_ne_same M x
  obtain ⟨k1, k2, k3, k4, k5, k6, k7, k8, k9, k10, k11, k12, k13, k14⟩ := kw1
  have ls1 : ∀ M, bfn (.list false) [.tup (dI t)] M = .ok (.lst (dI t)) M := fun M => rfl
  have a4' : cf n_law_table [.ref 0, .int (p : Int)] [P] = .ok (.tup (dI t)) [P1] := a4
  have b4' : cf n_law_draw [.ref 0, .int ((2 ^ p : Nat) : Int)] [P1] = .ok (.int (v : Int)) [P2] := b4
  obtain ⟨ys, P3, y1, y2, y3, y4, y5⟩ := bent_ok W _ v P2 b1 t a2 (by omega) (by omega) (by omega) (some (.int p)) (some (.lst (dI t))) (some (.lst (dI r))) (some (.str (S (tx t)))) none none none none none none
  have ij := fun (M : Mem) => (sm_join (T := tab) (cf := cf) (sg_lc (own := [10]) (i := 10) (j := 2) (r := [some (.ref 0), some (.int p), some (.tup (dI t)), some (.lst (dI t)), some (.int (v : Int)), some (.lst (dI r)), none, none, none, none, none, none, none]) (M := M) rfl rfl a2 hl (show 10 < 13 by decide))).trans (join_sg _ hl M)
  have hadd : ∀ M, bop .add (.lst (dI t)) (.lst (dI [0, 1, 0, 1, 1])) M = .ok (.lst (dI (t ++ [0, 1, 0, 1, 1]))) M := fun M => by
    rw [bop_addL M (by simp only [List.length_map, a3]; exact Nat.le_trans (show 2 ^ p + 5 ≤ 1000 by omega) (by decide)), dI_app]
  have hrep : ∀ M, rep false (.lst (dI t)) (.int 3) M = .ok (.lst (dI (t ++ (t ++ t)))) M := fun M => by
    show (if -(2 ^ 63) ≤ (3 : Int) ∧ (3 : Int) < 2 ^ 63 ∧ (dI t).length * (3 : Int).toNat ≤ lim then Iv.mk false (List.replicate (3 : Int).toNat (dI t)).flatten M else .stuck) = _
    rw [if_pos ⟨by decide, by decide, by rw [List.length_map, a3]; exact Nat.le_trans (show 2 ^ p * 3 ≤ 1000 by omega) (by decide)⟩]
    show Res.ok (.lst (dI t ++ (dI t ++ (dI t ++ [])))) M = _
    rw [List.append_nil, dI_app, dI_app]
  obtain ⟨y9, lp⟩ := bad_loop W p t a3 hp (some (.ref 0)) (some (.int p)) (some (.tup (dI t))) (some (.lst (dI t))) (some (.int (v : Int))) (some (.lst (dI r))) (some (.str (S (tx t)))) (some (.lst ys)) (some (.lst (odds t ys))) none none none none [P3]
  refine ⟨P3, y1.mono (by omega), ?_⟩
  have tx1 := texts_ev W p t a3 hp (some (.ref 0)) (some (.tup (dI t))) (some (.lst (dI t))) (some (.int (v : Int))) (some (.lst (dI r))) (some (.lst ys)) (some (.lst (odds t ys))) none none none none [P3]
  have g1 : ex tab cf b_law_table_right [some (.ref 0), some (.int (p : Int)), none, none, none, none, none, none, none, none, none, none, none] [P] = ex tab cf t_law_table_right_0_6 [some (.ref 0), some (.int p), some (.tup (dI t)), some (.lst (dI t)), some (.int (v : Int)), some (.lst (dI r)), none, none, none, none, none, none, none] [P2] := by
    simp only [b_law_table_right, t_law_table_right_0_0, ex, ev, Res.bind, Res.to, Out.seq, consD, List.getElem?_cons_zero, List.getElem?_cons_succ, CE.isNil, CE.isNon, Bool.false_eq_true, if_false, if_true, Bool.not_true, Bool.not_false, Iv.srcOf_tup, Iv.srcOf_ref, Iv.mkOf, Iv.mk, Iv.okPt_int, Iv.okPt_non, Iv.ptOf, a4', List.length_cons, List.length_nil, Nat.zero_add, Nat.reduceAdd, Nat.reduceLT, List.set_cons_succ, List.set_cons_zero]
    simp only [t_law_table_right_0_1, ex, ev, Res.bind, Res.to, Out.seq, consD, List.getElem?_cons_zero, List.getElem?_cons_succ, CE.isNil, CE.isNon, Bool.false_eq_true, if_false, if_true, Bool.not_true, Bool.not_false, Iv.srcOf_tup, Iv.srcOf_ref, Iv.mkOf, Iv.mk, Iv.okPt_int, Iv.okPt_non, Iv.ptOf, ls1, List.length_cons, List.length_nil, Nat.zero_add, Nat.reduceAdd, Nat.reduceLT, List.set_cons_succ, List.set_cons_zero]
    simp only [t_law_table_right_0_2, ex, ev, Res.bind, Res.to, Out.seq, consD, List.getElem?_cons_zero, List.getElem?_cons_succ, CE.isNil, CE.isNon, Bool.false_eq_true, if_false, if_true, Bool.not_true, Bool.not_false, Iv.srcOf_tup, Iv.srcOf_ref, Iv.mkOf, Iv.mk, Iv.okPt_int, Iv.okPt_non, Iv.ptOf, e1, e2, e3, k1, k2, k3, k4, perm0, nis_bl, decide_true, Bool.not_true, nei, ls1, nel]
    simp only [t_law_table_right_0_3, ex, ev, Res.bind, Res.to, Out.seq, consD, List.getElem?_cons_zero, List.getElem?_cons_succ, CE.isNil, CE.isNon, Bool.false_eq_true, if_false, if_true, Bool.not_true, Bool.not_false, Iv.srcOf_tup, Iv.srcOf_ref, Iv.mkOf, Iv.mk, Iv.okPt_int, Iv.okPt_non, Iv.ptOf, tw, b4', List.length_cons, List.length_nil, Nat.zero_add, Nat.reduceAdd, Nat.reduceLT, List.set_cons_succ, List.set_cons_zero]
    simp only [t_law_table_right_0_4, ex, ev, Res.bind, Res.to, Out.seq, consD, List.getElem?_cons_zero, List.getElem?_cons_succ, CE.isNil, CE.isNon, Bool.false_eq_true, if_false, if_true, Bool.not_true, Bool.not_false, Iv.srcOf_tup, Iv.srcOf_ref, Iv.mkOf, Iv.mk, Iv.okPt_int, Iv.okPt_non, Iv.ptOf, st, List.length_cons, List.length_nil, Nat.zero_add, Nat.reduceAdd, Nat.reduceLT, List.set_cons_succ, List.set_cons_zero]
    simp only [t_law_table_right_0_5, ex, ev, Res.bind, Res.to, Out.seq, consD, List.getElem?_cons_zero, List.getElem?_cons_succ, CE.isNil, CE.isNon, Bool.false_eq_true, if_false, if_true, Bool.not_true, Bool.not_false, Iv.srcOf_tup, Iv.srcOf_ref, Iv.mkOf, Iv.mk, Iv.okPt_int, Iv.okPt_non, Iv.ptOf, e4, e5, e6, k5, k6, k7, k8, perm0, perm01, tup_lst, nei, net]
  rw [g1]
  have g2 : ex tab cf t_law_table_right_0_6 [some (.ref 0), some (.int p), some (.tup (dI t)), some (.lst (dI t)), some (.int (v : Int)), some (.lst (dI r)), none, none, none, none, none, none, none] [P2] = ex tab cf t_law_table_right_0_8 [some (.ref 0), some (.int p), some (.tup (dI t)), some (.lst (dI t)), some (.int (v : Int)), some (.lst (dI r)), some (.str (S (tx t))), none, none, none, none, none, none] [P2] := by
    refine (ex_seqN (ex_setE (ij [P2]) (show 6 < 13 by decide))).trans ?_
    simp only [t_law_table_right_0_7, ex, ev, Res.bind, Res.to, Out.seq, consD, List.getElem?_cons_zero, List.getElem?_cons_succ, CE.isNil, CE.isNon, Bool.false_eq_true, if_false, if_true, Bool.not_true, Bool.not_false, Iv.srcOf_tup, Iv.srcOf_ref, Iv.mkOf, Iv.mk, Iv.okPt_int, Iv.okPt_non, Iv.ptOf, e7, e8, e9, e10, k9, k10, k11, k12, k13, k14, perm0, perm01, nei, rp, cop_ne_str, List.length_cons, List.length_nil, Nat.zero_add, Nat.reduceAdd, Nat.reduceLT, List.set_cons_succ, List.set_cons_zero]
  rw [g2]
  have g3 : ex tab cf t_law_table_right_0_8 [some (.ref 0), some (.int p), some (.tup (dI t)), some (.lst (dI t)), some (.int (v : Int)), some (.lst (dI r)), some (.str (S (tx t))), none, none, none, none, none, none] [P2] = ex tab cf t_law_table_right_0_9 [some (.ref 0), some (.int p), some (.tup (dI t)), some (.lst (dI t)), some (.int (v : Int)), some (.lst (dI r)), some (.str (S (tx t))), some (.lst ys), none, none, none, none, none] [P3] :=
    ex_seqN (ex_setE y2 (show 7 < 13 by decide))
  rw [g3]
  have g4 : ex tab cf t_law_table_right_0_9 [some (.ref 0), some (.int p), some (.tup (dI t)), some (.lst (dI t)), some (.int (v : Int)), some (.lst (dI r)), some (.str (S (tx t))), some (.lst ys), none, none, none, none, none] [P3] = ex tab cf t_law_table_right_0_10 [some (.ref 0), some (.int p), some (.tup (dI t)), some (.lst (dI t)), some (.int (v : Int)), some (.lst (dI r)), some (.str (S (tx t))), some (.lst ys), some (.lst (odds t ys)), none, none, none, none] [P3] := by
    have hadd' := hadd [P3]
    simp only [List.map_cons, List.map_nil] at hadd'
    simp only [t_law_table_right_0_9, ex, ev, Res.bind, Res.to, Out.seq, consD, List.getElem?_cons_zero, List.getElem?_cons_succ, CE.isNil, CE.isNon, Bool.false_eq_true, if_false, if_true, Bool.not_true, Bool.not_false, Iv.srcOf_tup, Iv.srcOf_ref, Iv.mkOf, Iv.mk, Iv.okPt_int, Iv.okPt_non, Iv.ptOf, ls1, hadd', hrep, List.length_cons, List.length_nil, Nat.zero_add, Nat.reduceAdd, Nat.reduceLT, List.set_cons_succ, List.set_cons_zero]
    rfl
  rw [g4]
  have ne0 : cop .ne (.lst []) (.lst []) [P3] = .ok (.bl false) [P3] := nel [] [P3]
  have g5 : ex tab cf t_law_table_right_0_10 [some (.ref 0), some (.int p), some (.tup (dI t)), some (.lst (dI t)), some (.int (v : Int)), some (.lst (dI r)), some (.str (S (tx t))), some (.lst ys), some (.lst (odds t ys)), none, none, none, none] [P3] = ex tab cf t_law_table_right_0_11 [some (.ref 0), some (.int p), some (.tup (dI t)), some (.lst (dI t)), some (.int (v : Int)), some (.lst (dI r)), some (.str (S (tx t))), some (.lst ys), some (.lst (odds t ys)), none, none, none, none] [P3] :=
    ex_seqN ((ex_iteF ((ev_cmp (odds_lc W a3 hp y3 y4 y5 _ _ _ _ _ _ _ _ _ _ _ _ [P3]) (show ev tab cf .v (.lst false .nil) _ [P3] = .ok (.lst []) [P3] from rfl)).trans ne0)).trans (ex_skip _ _))
  rw [g5]
  have g6 : ex tab cf t_law_table_right_0_11 [some (.ref 0), some (.int p), some (.tup (dI t)), some (.lst (dI t)), some (.int (v : Int)), some (.lst (dI r)), some (.str (S (tx t))), some (.lst ys), some (.lst (odds t ys)), none, none, none, none] [P3] = ex tab cf t_law_table_right_0_12 [some (.ref 0), some (.int p), some (.tup (dI t)), some (.lst (dI t)), some (.int (v : Int)), some (.lst (dI r)), some (.str (S (tx t))), some (.lst ys), some (.lst (odds t ys)), y9, none, none, none] [P3] := by
    simp only [t_law_table_right_0_11, ex]
    rw [show ∀ (a : CE) (r : Rho) (M : Mem), ev tab cf .s (.itv a) r M = (ev tab cf .v a r M).bind fun x M1 => itvf x M1 from fun _ _ _ => rfl, tx1]
    simp only [Res.bind, itvf, Iv.seqOf, Res.to, Iv.srcOf_tup]
    rw [lp]
    rfl
  rw [g6]
  have s1 : bop .add (.str (S (tx t))) (.str (S [32])) [P3] = .ok (.str (S (tx t ++ [32]))) [P3] := addS _ _ _ (by rw [List.length_map, a3]; exact Nat.le_trans (show 2 ^ p + 1 ≤ 1000 by omega) (by decide))
  have s2 : bop .add (.str (S (tx t ++ [32]))) (.str (S (tx t))) [P3] = .ok (.str (S (tx t ++ [32] ++ tx t))) [P3] := addS _ _ _ (by simp only [List.length_append, List.length_map, a3, List.length_singleton]; exact Nat.le_trans (show 2 ^ p + 1 + 2 ^ p ≤ 1000 by omega) (by decide))
  have c1 : ((" " : Str)) = S [32] := rfl
  simp only [t_law_table_right_0_12, ex, ev, Res.bind, Res.to, Out.seq, consD, List.getElem?_cons_zero, List.getElem?_cons_succ, CE.isNil, CE.isNon, Bool.false_eq_true, if_false, if_true, Bool.not_true, Bool.not_false, Iv.srcOf_tup, Iv.srcOf_ref, Iv.mkOf, Iv.mk, Iv.okPt_int, Iv.okPt_non, Iv.ptOf, c1, s1, s2, e11, h_text1, eq_text]
theorem s_right (n p : Nat) (P : Cell) (hp : p ≤ 8) (hP : PenC n P) (hn : n + 3000 ≤ 1048576) : ∃ P', PenC (n + 3000) P' ∧ C 23 n_law_table_right [.ref 0, .int p] [P] = .ok (.bl true) [P'] := by
  obtain ⟨P', h1, h2⟩ := right_ok lw p n P hp hP hn
  refine ⟨P', h1, ?_⟩
  unfold C
  rw [u_law_table_right, h2]
  exact fin_rt rfl
end
end K03

/-! ## K03Z -/
namespace K03
open PySem PySem.Spec L2 Iv SX
structure Le (cf : Nat → List D → Mem → Res) : Prop where
  pick : ∀ (n : Nat) (P : Cell) (rest : Mem) (xs : List D), xs ≠ [] → xs.length < 1000000 → n ≤ 1048576 → PenC n P → ∃ x ∈ xs, ∃ P', PenC (n + 1) P' ∧ cf n_law_pick [.ref 0, .lst xs] (P :: rest) = .ok x (P' :: rest)
  right : ∀ (n p : Nat) (P : Cell), p ≤ 8 → PenC n P → n + 3000 ≤ 1048576 → ∃ P', PenC (n + 3000) P' ∧ cf n_law_table_right [.ref 0, .int p] [P] = .ok (.bl true) [P']
  places : ∀ (d : D) (M : Mem), okV d = true → isTbD d = false → cf n_places_of [d] M = .exn c_BadTable [.str "table"] M
  sign1 : ∀ (d e : D) (M : Mem), okV d = true → isTbD d = false → cf n_sign_at [d, e] M = .exn c_BadTable [.str "table"] M
  sign2 : ∀ (p : Nat) (f : List Int → Int) (d e : D) (M : Mem), Tb d p f → okV e = true → isStD e = false → cf n_sign_at [d, e] M = .exn c_BadNumber [.str "setting"] M
  sign3 : ∀ (p q : Nat) (f : List Int → Int) (r : List Int) (d e : D) (M : Mem), Tb d p f → St e q r → p ≠ q → cf n_sign_at [d, e] M = .exn c_Misfit [.str "places"] M
  text : ∀ (d : D) (M : Mem), okV d = true → isTbD d = false → cf n_table_text [d] M = .exn c_BadTable [.str "table"] M
  row : ∀ (d : D) (M : Mem), okV d = true → isStD d = false → cf n_row_of [d] M = .exn c_BadNumber [.str "setting"] M
  row0 : ∀ (M : Mem), cf n_row_of [.lst []] M = .ok (.int 0) M
  setp : ∀ (d e : D) (M : Mem), tyOk d = true → withinD d 0 8 = false → cf n_setting_of [d, e] M = .exn c_BadNumber [.str "places"] M
  setr : ∀ (p : Nat) (e : D) (M : Mem), p ≤ 8 → tyOk e = true → withinD e 0 (((2 ^ p : Nat) : Int) - 1) = false → cf n_setting_of [.int p, e] M = .exn c_BadNumber [.str "row"] M
  set0 : ∀ (M : Mem), cf n_setting_of [.int 0, .int 0] M = .ok (.tup []) M
  read : ∀ (d : D) (M : Mem), tyOk d = true → notStr d = true → cf n_read_table [d] M = .exn c_BadText [.int 0, .int 0] M
theorem le23 : Le (callN tab pds 23) :=
  ⟨fun n P rest xs h1 h2 h3 h4 => s_pick 21 n P rest xs h1 h2 h3 h4, fun n p P h1 h2 h3 => s_right n p P h1 h2 h3, fun d M h1 h2 => s_places_of_no 16 d M h1 h2, fun d e M h1 h2 => s_sign_at_1 16 d e M h1 h2, fun p f d e M T h1 h2 => s_sign_at_2 16 p f d e M T h1 h2, fun p q f r d e M T U h => s_sign_at_3 16 p q f r d e M T U h,
    fun d M h1 h2 => s_table_text_no 16 d M h1 h2, fun d M h1 h2 => s_row_of_no 17 d M h1 h2, fun M => s_row_of 17 0 [] _ M ⟨rfl, by simp [rows], by decide⟩, fun d e M h1 h2 => s_setting_of_p 20 d e M h1 h2, fun p e M h1 h2 h3 => s_setting_of_r 20 p e M h1 h2 h3, fun M => s_setting_of 20 0 [] M (by decide) (by simp [rows]), fun d M h1 h2 => rd_not 18 M d h1 h2⟩
abbrev Tt : D := .tup [.str "table", .str "table"]
abbrev Ns : D := .tup [.str "number", .str "setting"]
abbrev Mp : D := .tup [.str "misfit", .str "places"]
abbrev Np : D := .tup [.str "number", .str "places"]
abbrev Nr : D := .tup [.str "number", .str "row"]
theorem h_tt (M : Mem) : heardR tab.hres (.exn c_BadTable [.str "table"] M) = .ok Tt M := rfl
theorem h_ns (M : Mem) : heardR tab.hres (.exn c_BadNumber [.str "setting"] M) = .ok Ns M := rfl
theorem h_mp (M : Mem) : heardR tab.hres (.exn c_Misfit [.str "places"] M) = .ok Mp M := rfl
theorem h_np (M : Mem) : heardR tab.hres (.exn c_BadNumber [.str "places"] M) = .ok Np M := rfl
theorem h_nr (M : Mem) : heardR tab.hres (.exn c_BadNumber [.str "row"] M) = .ok Nr M := rfl
theorem app1 (P : Cell) (xs : List D) (x : D) (hl : xs.length < lim) (hg : gr x = true) : mfn .append (.ref 1) [x] [P, .lst xs] = .ok .non [P, .lst (xs ++ [x])] := by
  show (if xs.length < lim ∧ gr x = true then Res.ok .non (setCell [P, .lst xs] 1 (xs ++ [x])) else .stuck) = _
  rw [if_pos ⟨hl, hg⟩]
  rfl
theorem isl1 (P : Cell) (xs : List D) : (Iv.listOf [P, .lst xs] (.ref 1)).isSome = true := rfl
theorem cmp_cell (P : Cell) (xs ys : List D) : cmpB .eq (.ref 1) (.lst xs) [P, .lst ys] = cmpB .eq (.lst ys) (.lst xs) [] := rfl
abbrev all9 : List D := [Tt, Tt, Ns, Mp, Tt, Ns, Np, Nr, Tx00]
theorem end_eq (P : Cell) : cop .eq (.ref 1) (.lst all9) [P, .lst all9] = .ok (.bl true) [P, .lst all9] := by
  have e : cmpB .eq (.lst all9) (.lst all9) [] = some true := by decide +kernel
  unfold cop
  rw [cmp_cell, e]
theorem odd_ok {d : D} (h : d ∈ [D.non, .int 5, .str "01", .lst [.int 0, .int 1, .int 1], .lst [], .lst [.int 0, .bl true], .lst [.int 2], .lst [.lst [.int 0, .int 1]], .dk [.inl 0] [.int 1]]) : okV d = true ∧ isTbD d = false := by
  simp only [List.mem_cons, List.not_mem_nil, or_false] at h
  rcases h with rfl | rfl | rfl | rfl | rfl | rfl | rfl | rfl | rfl <;> exact ⟨by decide, by decide⟩
abbrev nine0 : List D := List.replicate 9 (.int 0)
theorem strange_ok {d : D} (h : d ∈ [D.non, .int 5, .str "01", .lst [.int 2], .lst [.bl true], .lst nine0, .lst [.str "1"], .dk [.inl 0] [.int 1]]) : okV d = true ∧ isStD d = false := by
  simp only [List.mem_cons, List.not_mem_nil, or_false] at h
  rcases h with rfl | rfl | rfl | rfl | rfl | rfl | rfl | rfl <;> exact ⟨by decide, by decide⟩
section
variable {cf : Nat → List D → Mem → Res}
theorem lap_ok (W : Le cf) (n : Nat) (P : Cell) (hP : PenC n P) (hn : n + 3001 ≤ 1048576) (x0 x2 x3 x4 x5 x6 : Option D) :
    ∃ P', PenC (n + 3001) P' ∧ ex tab cf l_law_0 [x0, some (.ref 0), x2, x3, x4, x5, x6] [P] = .nx [x0, some (.ref 0), x2, x3, x4, x5, x6] [P'] := by
  obtain ⟨d, hd, P1, a1, a2⟩ := W.pick n P [] (dI [2, 3, 1, 0, 4, 5, 8, 6]) (by simp) (by simp) (by omega) hP
  obtain ⟨p, hp, rfl⟩ : ∃ p : Nat, p ≤ 8 ∧ d = .int (p : Int) := by
    simp only [List.map_cons, List.map_nil, List.mem_cons, List.not_mem_nil, or_false] at hd
    rcases hd with z | z | z | z | z | z | z | z
    · exact ⟨2, by decide, z⟩
    · exact ⟨3, by decide, z⟩
    · exact ⟨1, by decide, z⟩
    · exact ⟨0, by decide, z⟩
    · exact ⟨4, by decide, z⟩
    · exact ⟨5, by decide, z⟩
    · exact ⟨8, by decide, z⟩
    · exact ⟨6, by decide, z⟩
  obtain ⟨P2, b1, b2⟩ := W.right (n + 1) p P1 hp a1 (by omega)
  refine ⟨P2, b1.mono (by omega), ?_⟩
  simp only [l_law_0, t_law_1_0, ex, ev, Res.bind, Res.to, Out.seq, consD, List.getElem?_cons_zero, List.getElem?_cons_succ, CE.isNil, CE.isNon, Bool.false_eq_true, if_false, if_true, Bool.not_true, Bool.not_false, Iv.srcOf_tup, Iv.srcOf_ref, Iv.mkOf, Iv.mk, Iv.okPt_int, Iv.okPt_non, Iv.ptOf]
  rw [show ([D.int 2, D.int 3, D.int 1, D.int 0, D.int 4, D.int 5, D.int 8, D.int 6] : List D) = dI [2, 3, 1, 0, 4, 5, 8, 6] from rfl, a2]
  simp only [ex, ev, Res.bind, Res.to, Out.seq, consD, List.getElem?_cons_zero, List.getElem?_cons_succ, CE.isNil, CE.isNon, Bool.false_eq_true, if_false, if_true, Bool.not_true, Bool.not_false, Iv.srcOf_tup, Iv.srcOf_ref, Iv.mkOf, Iv.mk, Iv.okPt_int, Iv.okPt_non, Iv.ptOf, b2]
theorem t01 : Tb (.lst [.int 0, .int 1]) 1 (fun s => s.getD 0 0) := ⟨rfl, by decide, by decide⟩
theorem zeros (p : Nat) (hp : p ≤ 8) : St (.lst (dI (List.replicate p 0))) p (List.replicate p 0) := ⟨rfl, rows_mem.mpr ⟨List.length_replicate, fun x hx => .inl (List.mem_replicate.mp hx).2⟩, hp⟩
theorem rep0 (p : Nat) (hp : p ≤ 9) (M : Mem) : rep false (.lst [.int 0]) (.int (p : Int)) M = .ok (.lst (dI (List.replicate p 0))) M := by
  simp only [Iv.rep, Iv.trkOf, Int.toNat_natCast, List.length_cons, List.length_nil]
  rw [if_pos ⟨by omega, by omega, Nat.le_trans (show (0 + 1) * p ≤ 9 by omega) (by decide)⟩]
  show Res.ok (.lst (List.replicate p [D.int 0]).flatten) M = _
  congr 2
  unfold dI
  rw [List.map_replicate]
  clear hp
  induction p with
  | zero => rfl
  | succ p ih => rw [List.replicate_succ, List.flatten_cons, ih, List.replicate_succ]; rfl
theorem law_end (W : Le cf) (n : Nat) (P : Cell) (hP : PenC n P) (hn : n + 10 ≤ 1048576) (x0 x2 x3 x4 x5 x6 : Option D) :
    ∃ M, ex tab cf t_law_0_2 [x0, some (.ref 0), x2, x3, x4, x5, x6] [P] = .rt (.bl true) M ∧ M.length = 2 := by
  obtain ⟨odd, ho, P1, a1, a2⟩ := W.pick n P [] [D.non, .int 5, .str "01", .lst [.int 0, .int 1, .int 1], .lst [], .lst [.int 0, .bl true], .lst [.int 2], .lst [.lst [.int 0, .int 1]], .dk [.inl 0] [.int 1]] (by simp) (by simp) (by omega) hP
  obtain ⟨str, hs, P2, b1, b2⟩ := W.pick _ P1 [] [D.non, .int 5, .str "01", .lst [.int 2], .lst [.bl true], .lst nine0, .lst [.str "1"], .dk [.inl 0] [.int 1]] (by simp) (by simp) (by omega) a1
  obtain ⟨o1, o2⟩ := odd_ok ho
  obtain ⟨s1, s2⟩ := strange_ok hs
  obtain ⟨c, hc, P3, c1, c2⟩ := W.pick _ P2 [.lst [Tt, Tt, Ns]] (dI [0, 2, 8]) (by simp) (by simp) (by omega) b1
  obtain ⟨q, hq, hq1, rfl⟩ : ∃ q : Nat, q ≤ 8 ∧ 1 ≠ q ∧ c = .int (q : Int) := by
    simp only [List.map_cons, List.map_nil, List.mem_cons, List.not_mem_nil, or_false] at hc
    rcases hc with z | z | z
    · exact ⟨0, by decide, by decide, z⟩
    · exact ⟨2, by decide, by decide, z⟩
    · exact ⟨8, by decide, by decide, z⟩
  obtain ⟨d, hd, P4, d1, d2⟩ := W.pick _ P3 [.lst [Tt, Tt, Ns, Mp, Tt, Ns]] [D.int (-1), .int 9, .non, .bl true, .str "2"] (by simp) (by simp) (by omega) c1
  obtain ⟨e, he, P5, e1, e2⟩ := W.pick _ P4 [.lst [Tt, Tt, Ns, Mp, Tt, Ns, Np]] [D.int (-1), .int 8, .non, .bl true, .str "2", .int (10 ^ 30)] (by simp) (by simp) (by omega) d1
  obtain ⟨g, hg, P6, g1, g2⟩ := W.pick _ P5 [.lst [Tt, Tt, Ns, Mp, Tt, Ns, Np, Nr]] [D.non, .int 5, .lst [.int 0, .int 1], .tup [.int 0, .int 1], .bl true] (by simp) (by simp) (by omega) e1
  have d3 : tyOk d = true ∧ withinD d 0 8 = false := by
    simp only [List.mem_cons, List.not_mem_nil, or_false] at hd
    rcases hd with rfl | rfl | rfl | rfl | rfl <;> exact ⟨by decide, by decide⟩
  have e3 : tyOk e = true ∧ withinD e 0 (((2 ^ 3 : Nat) : Int) - 1) = false := by
    simp only [List.mem_cons, List.not_mem_nil, or_false] at he
    rcases he with rfl | rfl | rfl | rfl | rfl | rfl <;> exact ⟨by decide, by decide⟩
  have g3 : tyOk g = true ∧ notStr g = true := by
    simp only [List.mem_cons, List.not_mem_nil, or_false] at hg
    rcases hg with rfl | rfl | rfl | rfl | rfl <;> exact ⟨by decide, by decide⟩
  have l : ∀ k : Nat, k < 10 → k < lim := fun k h => Nat.lt_of_lt_of_le h (by decide)
  have f1 := fun M => W.places odd M o1 o2
  have f2 := fun M => W.sign1 odd str M o1 o2
  have f3 := fun M => W.sign2 1 _ _ str M t01 s1 s2
  have f4 := fun M => W.sign3 1 q _ _ _ _ M t01 (zeros q hq) hq1
  have f5 := fun M => W.text odd M o1 o2
  have f6 := fun M => W.row str M s1 s2
  have f7 := fun M => W.setp d .non M d3.1 d3.2
  have f8 : ∀ M, cf n_setting_of [.int 3, e] M = .exn c_BadNumber [.str "row"] M := fun M => W.setr 3 e M (by decide) e3.1 e3.2
  have f9 := fun M => W.read g M g3.1 g3.2
  have r9 : ∀ M, rep false (.lst [.int 0]) (.int 9) M = .ok (.lst nine0) M := fun M => rep0 9 (by decide) M
  have rq := fun M => rep0 q (by omega) M
  have pw : ∀ M, bop .pow (.int 10) (.int 30) M = .ok (.int (10 ^ 30)) M := fun M => by
    simp only [bop]
    rw [if_pos (by decide)]
    rfl
  have m1 : Iv.mk true [Tt] [P2] = .ok (.ref 1) [P2, .lst [Tt]] := rfl
  have ad : ∀ M, bop .add (.lst [Tt, Tt, Ns, Mp, Tt, Ns]) (.lst [Np, Nr, Tx00]) M = .ok (.lst all9) M := fun M => bop_addL M (show 9 ≤ lim by decide)
  refine ⟨[P6, .lst all9], ?_, rfl⟩
  simp only [t_law_0_2, ex, ev, Res.bind, Res.to, Out.seq, consD, List.getElem?_cons_zero, List.getElem?_cons_succ, CE.isNil, CE.isNon, Bool.false_eq_true, if_false, if_true, Bool.not_true, Bool.not_false, Iv.srcOf_tup, Iv.srcOf_ref, Iv.mkOf, Iv.mk, Iv.okPt_int, Iv.okPt_non, Iv.ptOf, a2, List.length_cons, List.length_nil, Nat.zero_add, Nat.reduceAdd, Nat.reduceLT, List.set_cons_succ, List.set_cons_zero]
  simp only [t_law_0_3, ex, ev, Res.bind, Res.to, Out.seq, consD, List.getElem?_cons_zero, List.getElem?_cons_succ, CE.isNil, CE.isNon, Bool.false_eq_true, if_false, if_true, Bool.not_true, Bool.not_false, Iv.srcOf_tup, Iv.srcOf_ref, Iv.mkOf, Iv.mk, Iv.okPt_int, Iv.okPt_non, Iv.ptOf, r9, b2, List.length_cons, List.length_nil, Nat.zero_add, Nat.reduceAdd, Nat.reduceLT, List.set_cons_succ, List.set_cons_zero]
  simp only [t_law_0_4, ex, ev, Res.bind, Res.to, Out.seq, consD, List.getElem?_cons_zero, List.getElem?_cons_succ, f1, h_tt, m1, List.length_cons, List.length_nil, Nat.zero_add, Nat.reduceAdd, Nat.reduceLT, List.set_cons_succ, List.set_cons_zero]
  simp only [if_true]
  simp only [t_law_0_5, ex, ev, Res.bind, Res.to, Out.seq, consD, List.getElem?_cons_zero, List.getElem?_cons_succ, CE.isNil, CE.isNon, Bool.false_eq_true, if_false, if_true, Bool.not_true, Bool.not_false, Iv.srcOf_tup, Iv.srcOf_ref, Iv.mkOf, Iv.mk, Iv.okPt_int, Iv.okPt_non, Iv.ptOf, isl1, f2, h_tt]
  rw [app1 _ _ _ (l _ (by simp only [List.length_cons, List.length_nil]; decide)) rfl]
  simp only [ex, ev, Res.bind, Res.to, Out.seq, consD, List.getElem?_cons_zero, List.getElem?_cons_succ, CE.isNil, CE.isNon, Bool.false_eq_true, if_false, if_true, Bool.not_true, Bool.not_false, Iv.srcOf_tup, Iv.srcOf_ref, Iv.mkOf, Iv.mk, Iv.okPt_int, Iv.okPt_non, Iv.ptOf, List.cons_append, List.nil_append]
  simp only [t_law_0_6, ex, ev, Res.bind, Res.to, Out.seq, consD, List.getElem?_cons_zero, List.getElem?_cons_succ, CE.isNil, CE.isNon, Bool.false_eq_true, if_false, if_true, Bool.not_true, Bool.not_false, Iv.srcOf_tup, Iv.srcOf_ref, Iv.mkOf, Iv.mk, Iv.okPt_int, Iv.okPt_non, Iv.ptOf, isl1, f3, h_ns]
  rw [app1 _ _ _ (l _ (by simp only [List.length_cons, List.length_nil]; decide)) rfl]
  simp only [ex, ev, Res.bind, Res.to, Out.seq, consD, List.getElem?_cons_zero, List.getElem?_cons_succ, CE.isNil, CE.isNon, Bool.false_eq_true, if_false, if_true, Bool.not_true, Bool.not_false, Iv.srcOf_tup, Iv.srcOf_ref, Iv.mkOf, Iv.mk, Iv.okPt_int, Iv.okPt_non, Iv.ptOf, List.cons_append, List.nil_append]
  have c2' : cf n_law_pick [.ref 0, .lst [.int 0, .int 2, .int 8]] [P2, .lst [Tt, Tt, Ns]] = .ok (.int (q : Int)) [P3, .lst [Tt, Tt, Ns]] := c2
  simp only [t_law_0_7, ex, ev, Res.bind, Res.to, Out.seq, consD, List.getElem?_cons_zero, List.getElem?_cons_succ, CE.isNil, CE.isNon, Bool.false_eq_true, if_false, if_true, Bool.not_true, Bool.not_false, Iv.srcOf_tup, Iv.srcOf_ref, Iv.mkOf, Iv.mk, Iv.okPt_int, Iv.okPt_non, Iv.ptOf, isl1, c2', rq, f4, h_mp]
  rw [app1 _ _ _ (l _ (by simp only [List.length_cons, List.length_nil]; decide)) rfl]
  simp only [ex, ev, Res.bind, Res.to, Out.seq, consD, List.getElem?_cons_zero, List.getElem?_cons_succ, CE.isNil, CE.isNon, Bool.false_eq_true, if_false, if_true, Bool.not_true, Bool.not_false, Iv.srcOf_tup, Iv.srcOf_ref, Iv.mkOf, Iv.mk, Iv.okPt_int, Iv.okPt_non, Iv.ptOf, List.cons_append, List.nil_append]
  simp only [t_law_0_8, ex, ev, Res.bind, Res.to, Out.seq, consD, List.getElem?_cons_zero, List.getElem?_cons_succ, CE.isNil, CE.isNon, Bool.false_eq_true, if_false, if_true, Bool.not_true, Bool.not_false, Iv.srcOf_tup, Iv.srcOf_ref, Iv.mkOf, Iv.mk, Iv.okPt_int, Iv.okPt_non, Iv.ptOf, isl1, f5, h_tt]
  rw [app1 _ _ _ (l _ (by simp only [List.length_cons, List.length_nil]; decide)) rfl]
  simp only [ex, ev, Res.bind, Res.to, Out.seq, consD, List.getElem?_cons_zero, List.getElem?_cons_succ, CE.isNil, CE.isNon, Bool.false_eq_true, if_false, if_true, Bool.not_true, Bool.not_false, Iv.srcOf_tup, Iv.srcOf_ref, Iv.mkOf, Iv.mk, Iv.okPt_int, Iv.okPt_non, Iv.ptOf, List.cons_append, List.nil_append]
  simp only [t_law_0_9, ex, ev, Res.bind, Res.to, Out.seq, consD, List.getElem?_cons_zero, List.getElem?_cons_succ, CE.isNil, CE.isNon, Bool.false_eq_true, if_false, if_true, Bool.not_true, Bool.not_false, Iv.srcOf_tup, Iv.srcOf_ref, Iv.mkOf, Iv.mk, Iv.okPt_int, Iv.okPt_non, Iv.ptOf, isl1, f6, h_ns]
  rw [app1 _ _ _ (l _ (by simp only [List.length_cons, List.length_nil]; decide)) rfl]
  simp only [ex, ev, Res.bind, Res.to, Out.seq, consD, List.getElem?_cons_zero, List.getElem?_cons_succ, CE.isNil, CE.isNon, Bool.false_eq_true, if_false, if_true, Bool.not_true, Bool.not_false, Iv.srcOf_tup, Iv.srcOf_ref, Iv.mkOf, Iv.mk, Iv.okPt_int, Iv.okPt_non, Iv.ptOf, List.cons_append, List.nil_append]
  simp only [t_law_0_10, ex, ev, Res.bind, Res.to, Out.seq, consD, List.getElem?_cons_zero, List.getElem?_cons_succ, CE.isNil, CE.isNon, Bool.false_eq_true, if_false, if_true, Bool.not_true, Bool.not_false, Iv.srcOf_tup, Iv.srcOf_ref, Iv.mkOf, Iv.mk, Iv.okPt_int, Iv.okPt_non, Iv.ptOf, isl1, d2, f7, h_np]
  rw [app1 _ _ _ (l _ (by simp only [List.length_cons, List.length_nil]; decide)) rfl]
  simp only [ex, ev, Res.bind, Res.to, Out.seq, consD, List.getElem?_cons_zero, List.getElem?_cons_succ, CE.isNil, CE.isNon, Bool.false_eq_true, if_false, if_true, Bool.not_true, Bool.not_false, Iv.srcOf_tup, Iv.srcOf_ref, Iv.mkOf, Iv.mk, Iv.okPt_int, Iv.okPt_non, Iv.ptOf, List.cons_append, List.nil_append]
  simp only [t_law_0_11, ex, ev, Res.bind, Res.to, Out.seq, consD, List.getElem?_cons_zero, List.getElem?_cons_succ, CE.isNil, CE.isNon, Bool.false_eq_true, if_false, if_true, Bool.not_true, Bool.not_false, Iv.srcOf_tup, Iv.srcOf_ref, Iv.mkOf, Iv.mk, Iv.okPt_int, Iv.okPt_non, Iv.ptOf, isl1, pw, e2, f8, h_nr]
  rw [app1 _ _ _ (l _ (by simp only [List.length_cons, List.length_nil]; decide)) rfl]
  simp only [ex, ev, Res.bind, Res.to, Out.seq, consD, List.getElem?_cons_zero, List.getElem?_cons_succ, CE.isNil, CE.isNon, Bool.false_eq_true, if_false, if_true, Bool.not_true, Bool.not_false, Iv.srcOf_tup, Iv.srcOf_ref, Iv.mkOf, Iv.mk, Iv.okPt_int, Iv.okPt_non, Iv.ptOf, List.cons_append, List.nil_append]
  simp only [t_law_0_12, ex, ev, Res.bind, Res.to, Out.seq, consD, List.getElem?_cons_zero, List.getElem?_cons_succ, CE.isNil, CE.isNon, Bool.false_eq_true, if_false, if_true, Bool.not_true, Bool.not_false, Iv.srcOf_tup, Iv.srcOf_ref, Iv.mkOf, Iv.mk, Iv.okPt_int, Iv.okPt_non, Iv.ptOf, isl1, g2, f9, h_text0]
  rw [app1 _ _ _ (l _ (by simp only [List.length_cons, List.length_nil]; decide)) rfl]
  simp only [ex, ev, Res.bind, Res.to, Out.seq, consD, List.getElem?_cons_zero, List.getElem?_cons_succ, CE.isNil, CE.isNon, Bool.false_eq_true, if_false, if_true, Bool.not_true, Bool.not_false, Iv.srcOf_tup, Iv.srcOf_ref, Iv.mkOf, Iv.mk, Iv.okPt_int, Iv.okPt_non, Iv.ptOf, List.cons_append, List.nil_append]
  simp only [t_law_0_13, ex, ev, Res.bind, Res.to, Out.seq, consD, List.getElem?_cons_zero, List.getElem?_cons_succ, CE.isNil, CE.isNon, Bool.false_eq_true, if_false, if_true, Bool.not_true, Bool.not_false, Iv.srcOf_tup, Iv.srcOf_ref, Iv.mkOf, Iv.mk, Iv.okPt_int, Iv.okPt_non, Iv.ptOf, List.length_cons, List.length_nil, Nat.zero_add, Nat.reduceAdd, Nat.reduceLT, List.set_cons_succ, List.set_cons_zero]
  have q1 := fun M => W.set0 M
  have q2 := fun M => W.row0 M
  have q3 : ∀ M, cop .eq (.tup []) (.tup []) M = .ok (.bl true) M := fun M => cop_eq_tup M [] []
  have q4 : ∀ M, cop .eq (.int 0) (.int 0) M = .ok (.bl true) M := fun M => cop_eq_int M 0 0
  simp only [t_law_0_14, ex, ev, Res.bind, Res.to, Out.seq, consD, List.getElem?_cons_zero, List.getElem?_cons_succ, CE.isNil, CE.isNon, Bool.false_eq_true, if_false, if_true, Bool.not_true, Bool.not_false, Iv.srcOf_tup, Iv.srcOf_ref, Iv.mkOf, Iv.mk, Iv.okPt_int, Iv.okPt_non, Iv.ptOf, ad, end_eq, q1, q2, q3, q4]
theorem law_body (W : Le cf) (d0 : D) (P : Cell) (hP : PenC 0 P) : ∃ M, ex tab cf t_law_0_1 [some d0, some (.ref 0), none, none, none, none, none] [P] = .rt (.bl true) M ∧ M.length = 2 := by
  obtain ⟨r', M', e, P', x2, hr, hM, hPn⟩ := for_fix (tg := fun d r => asg (.nm 2) d r) (body := ex tab cf l_law_0) (all := rangeD 4)
    (I := fun j r M => ∃ P' x2, r = [some d0, some (.ref 0), x2, none, none, none, none] ∧ M = [P'] ∧ PenC (3001 * j) P')
    (fun j d r M hj hI => by
      obtain ⟨P', x2, rfl, rfl, hPn⟩ := hI
      have hj3 : j < 4 := (List.getElem?_eq_some_iff.mp hj).1
      obtain ⟨P'', a1, a2⟩ := lap_ok W (3001 * j) P' hPn (by omega) (some d0) (some d) none none none none
      exact ⟨_, rfl, _, _, a2, P'', some d, rfl, rfl, a1⟩)
    (Src.fix (rangeD 4)).fuel 0 [some d0, some (.ref 0), none, none, none, none, none] [P] (Nat.zero_le _) (by show _ < (rangeD 4).length + 1 + 0; omega) ⟨P, none, rfl, rfl, hP⟩
  rw [show (rangeD 4).length = 4 from rfl] at hPn
  subst hr hM
  obtain ⟨M, h1, h2⟩ := law_end W _ P' hPn (by decide) (some d0) x2 none none none none
  refine ⟨M, ?_, h2⟩
  simp only [t_law_0_1, ex, ev, Res.bind, Res.to, Out.seq, consD, List.getElem?_cons_zero, List.getElem?_cons_succ, CE.isNil, CE.isNon, Bool.false_eq_true, if_false, if_true, Bool.not_true, Bool.not_false, Iv.srcOf_tup, Iv.srcOf_ref, Iv.mkOf, Iv.mk, Iv.okPt_int, Iv.okPt_non, Iv.ptOf]
  rw [if_pos ⟨by decide, by decide⟩]
  simp only [ex, ev, Res.bind, Res.to, Out.seq, consD, List.getElem?_cons_zero, List.getElem?_cons_succ, CE.isNil, CE.isNon, Bool.false_eq_true, if_false, if_true, Bool.not_true, Bool.not_false, Iv.srcOf_tup, Iv.srcOf_ref, Iv.mkOf, Iv.mk, Iv.okPt_int, Iv.okPt_non, Iv.ptOf]
  rw [e]
  simp only [ex, ev, Res.bind, Res.to, Out.seq, consD, List.getElem?_cons_zero, List.getElem?_cons_succ, CE.isNil, CE.isNon, Bool.false_eq_true, if_false, if_true, Bool.not_true, Bool.not_false, Iv.srcOf_tup, Iv.srcOf_ref, Iv.mkOf, Iv.mk, Iv.okPt_int, Iv.okPt_non, Iv.ptOf]
  exact h1
end
theorem law_true (ns : List Int) (h : ns.length ≤ 63) (hb : ∀ z ∈ ns, Builtin.Int.intBits z ≤ 1048576) : ∃ M, callN tab pds 24 n_law [.sld (ns.map D.int)] [] = .ok (.bl true) M := by
  obtain ⟨P, h1, h2⟩ := s_pen 22 ns h
  obtain ⟨M, h3, h4⟩ := law_body le23 (.sld (dI ns)) P h1
  refine ⟨[], ?_⟩
  have e : callN tab pds 24 n_law [.sld (dI ns)] [] = Iv.fin false 0 (ex tab (callN tab pds 23) b_law [some (.sld (dI ns)), none, none, none, none, none, none] []) := u_law 23 (.sld (dI ns)) []
  have h2' : callN tab pds 23 n_law_pen [.sld (dI ns)] [] = .ok (.ref 0) [P] := h2
  have h3' : ex tab (callN tab pds 23) t_law_0_1 [some (.sld (dI ns)), some (.ref 0), none, none, none, none, none] [P] = .rt (.bl true) M := h3
  generalize callN tab pds 23 = cf at e h2' h3'
  rw [e]
  have e2 : ex tab cf b_law [some (.sld (dI ns)), none, none, none, none, none, none] [] = .rt (.bl true) M := by
    simp only [b_law, t_law_0_0, ex, ev, Res.bind, Res.to, Out.seq, consD, List.getElem?_cons_zero, List.getElem?_cons_succ, CE.isNil, CE.isNon, Bool.false_eq_true, if_false, if_true, Bool.not_true, Bool.not_false, Iv.srcOf_tup, Iv.srcOf_ref, Iv.mkOf, Iv.mk, Iv.okPt_int, Iv.okPt_non, Iv.ptOf, h2', List.length_cons, List.length_nil, Nat.zero_add, Nat.reduceAdd, Nat.reduceLT, List.set_cons_succ, List.set_cons_zero]
    exact h3'
  rw [e2]
  show back false 0 (.bl true) M = _
  unfold back
  rw [if_neg (by rintro (z | z); · cases z
                 · omega)]
  rfl
end K03

/-! ## K03B -/
namespace K03
open PySem PySem.Spec PyProof.Rows L2 Iv
def sta (K : PySem.W.Frag) (f0 f1 f2 f3 f4 f5 f6 f7 f8 f9 f10 f11 f12 f13 f14 f15 f16 f17 f18 f19 f20 f21 f22 f23 f24 f25 f26 f27 f28 f29 f30 f31 C0 C1 C2 C3 E0 P30 P31 : Addr) : Sta := ⟨K, fun i => [f0, f1, f2, f3, f4, f5, f6, f7, f8, f9, f10, f11, f12, f13, f14, f15, f16, f17, f18, f19, f20, f21, f22, f23, f24, f25, f26, f27, f28, f29, f30, f31][i]?, fun i => [C0, C1, C2, C3][i]?, fun i => [E0][i]?, flT, [(P30, lamQ "_law_table_right"), (P31, lamQ "law")], true⟩
theorem modOk {K : PySem.W.Frag} {h : Heap} {mg : Str → Option Value} {f0 f1 f2 f3 f4 f5 f6 f7 f8 f9 f10 f11 f12 f13 f14 f15 f16 f17 f18 f19 f20 f21 f22 f23 f24 f25 f26 f27 f28 f29 f30 f31 C0 C1 C2 C3 E0 P30 P31 : Addr} (X : K.In h) (G : h.Ns mainGlobals mg) (dis : ∀ y ∈ (sta K f0 f1 f2 f3 f4 f5 f6 f7 f8 f9 f10 f11 f12 f13 f14 f15 f16 f17 f18 f19 f20 f21 f22 f23 f24 f25 f26 f27 f28 f29 f30 f31 C0 C1 C2 C3 E0 P30 P31).tb, ∀ z ∈ (sta K f0 f1 f2 f3 f4 f5 f6 f7 f8 f9 f10 f11 f12 f13 f14 f15 f16 f17 f18 f19 f20 f21 f22 f23 f24 f25 f26 f27 f28 f29 f30 f31 C0 C1 C2 C3 E0 P30 P31).tb, y.1 = z.1 → y.2 = z.2)
    {oc0 : Value} {od0 : Option Addr} {kV0 dc0 pm0 : Value} {an0 : Option Addr} {cd0 : Value} {ct0 : Value} {sl0 : Array (Option Value)}
    (a0 : PySem.W.nsIn K mainGlobals "is_integer" = some (some (.ref f0)))
    (l0 : K.lookup f0 = some ⟨oc0, od0, .func (PySem.W.fnOf "is_integer" "is_integer" (C8.fnArgs (top 8)) (C8.fnBody (top 8)) (C8.fnScope (top 8)) .none kV0 dc0 pm0 an0 cd0 ct0), sl0⟩) (c0 : PySem.W.codeIn K cd0 "is_integer" = true) (e0 : PySem.W.keepIn K (.ref f0) = true)
    {oc1 : Value} {od1 : Option Addr} {kV1 dc1 pm1 : Value} {an1 : Option Addr} {cd1 : Value} {ct1 : Value} {sl1 : Array (Option Value)}
    (a1 : PySem.W.nsIn K mainGlobals "is_within" = some (some (.ref f1)))
    (l1 : K.lookup f1 = some ⟨oc1, od1, .func (PySem.W.fnOf "is_within" "is_within" (C8.fnArgs (top 9)) (C8.fnBody (top 9)) (C8.fnScope (top 9)) .none kV1 dc1 pm1 an1 cd1 ct1), sl1⟩) (c1 : PySem.W.codeIn K cd1 "is_within" = true) (e1 : PySem.W.keepIn K (.ref f1) = true)
    {oc2 : Value} {od2 : Option Addr} {kV2 dc2 pm2 : Value} {an2 : Option Addr} {cd2 : Value} {ct2 : Value} {sl2 : Array (Option Value)}
    (a2 : PySem.W.nsIn K mainGlobals "is_sign" = some (some (.ref f2)))
    (l2 : K.lookup f2 = some ⟨oc2, od2, .func (PySem.W.fnOf "is_sign" "is_sign" (C8.fnArgs (top 10)) (C8.fnBody (top 10)) (C8.fnScope (top 10)) .none kV2 dc2 pm2 an2 cd2 ct2), sl2⟩) (c2 : PySem.W.codeIn K cd2 "is_sign" = true) (e2 : PySem.W.keepIn K (.ref f2) = true)
    {oc3 : Value} {od3 : Option Addr} {kV3 dc3 pm3 : Value} {an3 : Option Addr} {cd3 : Value} {ct3 : Value} {sl3 : Array (Option Value)}
    (a3 : PySem.W.nsIn K mainGlobals "are_signs" = some (some (.ref f3)))
    (l3 : K.lookup f3 = some ⟨oc3, od3, .func (PySem.W.fnOf "are_signs" "are_signs" (C8.fnArgs (top 11)) (C8.fnBody (top 11)) (C8.fnScope (top 11)) .none kV3 dc3 pm3 an3 cd3 ct3), sl3⟩) (c3 : PySem.W.codeIn K cd3 "are_signs" = true) (e3 : PySem.W.keepIn K (.ref f3) = true)
    {oc4 : Value} {od4 : Option Addr} {kV4 dc4 pm4 : Value} {an4 : Option Addr} {cd4 : Value} {ct4 : Value} {sl4 : Array (Option Value)}
    (l4 : K.lookup f4 = some ⟨oc4, od4, .func (PySem.W.fnOf "__init__" "Scan.__init__" (C8.fnArgs ((C8.clsBody (top 13)).getD 0 (.Pass ⟨0, 0, 0, 0⟩))) (C8.fnBody ((C8.clsBody (top 13)).getD 0 (.Pass ⟨0, 0, 0, 0⟩))) (C8.fnScope ((C8.clsBody (top 13)).getD 0 (.Pass ⟨0, 0, 0, 0⟩))) .none kV4 dc4 pm4 an4 cd4 ct4), sl4⟩) (c4 : PySem.W.codeIn K cd4 "Scan.__init__" = true) (e4 : PySem.W.keepIn K (.ref f4) = true)
    {oc5 : Value} {od5 : Option Addr} {kV5 dc5 pm5 : Value} {an5 : Option Addr} {cd5 : Value} {ct5 : Value} {sl5 : Array (Option Value)}
    (l5 : K.lookup f5 = some ⟨oc5, od5, .func (PySem.W.fnOf "is_over" "Scan.is_over" (C8.fnArgs ((C8.clsBody (top 13)).getD 1 (.Pass ⟨0, 0, 0, 0⟩))) (C8.fnBody ((C8.clsBody (top 13)).getD 1 (.Pass ⟨0, 0, 0, 0⟩))) (C8.fnScope ((C8.clsBody (top 13)).getD 1 (.Pass ⟨0, 0, 0, 0⟩))) .none kV5 dc5 pm5 an5 cd5 ct5), sl5⟩) (c5 : PySem.W.codeIn K cd5 "Scan.is_over" = true) (e5 : PySem.W.keepIn K (.ref f5) = true)
    {oc6 : Value} {od6 : Option Addr} {kV6 dc6 pm6 : Value} {an6 : Option Addr} {cd6 : Value} {ct6 : Value} {sl6 : Array (Option Value)}
    (l6 : K.lookup f6 = some ⟨oc6, od6, .func (PySem.W.fnOf "seen" "Scan.seen" (C8.fnArgs ((C8.clsBody (top 13)).getD 2 (.Pass ⟨0, 0, 0, 0⟩))) (C8.fnBody ((C8.clsBody (top 13)).getD 2 (.Pass ⟨0, 0, 0, 0⟩))) (C8.fnScope ((C8.clsBody (top 13)).getD 2 (.Pass ⟨0, 0, 0, 0⟩))) .none kV6 dc6 pm6 an6 cd6 ct6), sl6⟩) (c6 : PySem.W.codeIn K cd6 "Scan.seen" = true) (e6 : PySem.W.keepIn K (.ref f6) = true)
    {oc7 : Value} {od7 : Option Addr} {kV7 dc7 pm7 : Value} {an7 : Option Addr} {cd7 : Value} {ct7 : Value} {sl7 : Array (Option Value)}
    (l7 : K.lookup f7 = some ⟨oc7, od7, .func (PySem.W.fnOf "refuse" "Scan.refuse" (C8.fnArgs ((C8.clsBody (top 13)).getD 3 (.Pass ⟨0, 0, 0, 0⟩))) (C8.fnBody ((C8.clsBody (top 13)).getD 3 (.Pass ⟨0, 0, 0, 0⟩))) (C8.fnScope ((C8.clsBody (top 13)).getD 3 (.Pass ⟨0, 0, 0, 0⟩))) .none kV7 dc7 pm7 an7 cd7 ct7), sl7⟩) (c7 : PySem.W.codeIn K cd7 "Scan.refuse" = true) (e7 : PySem.W.keepIn K (.ref f7) = true)
    {oc8 : Value} {od8 : Option Addr} {kV8 dc8 pm8 : Value} {an8 : Option Addr} {cd8 : Value} {ct8 : Value} {sl8 : Array (Option Value)}
    (l8 : K.lookup f8 = some ⟨oc8, od8, .func (PySem.W.fnOf "take" "Scan.take" (C8.fnArgs ((C8.clsBody (top 13)).getD 5 (.Pass ⟨0, 0, 0, 0⟩))) (C8.fnBody ((C8.clsBody (top 13)).getD 5 (.Pass ⟨0, 0, 0, 0⟩))) (C8.fnScope ((C8.clsBody (top 13)).getD 5 (.Pass ⟨0, 0, 0, 0⟩))) .none kV8 dc8 pm8 an8 cd8 ct8), sl8⟩) (c8 : PySem.W.codeIn K cd8 "Scan.take" = true) (e8 : PySem.W.keepIn K (.ref f8) = true)
    {oc9 : Value} {od9 : Option Addr} {kV9 dc9 pm9 : Value} {an9 : Option Addr} {cd9 : Value} {ct9 : Value} {sl9 : Array (Option Value)}
    (l9 : K.lookup f9 = some ⟨oc9, od9, .func (PySem.W.fnOf "finish" "Scan.finish" (C8.fnArgs ((C8.clsBody (top 13)).getD 7 (.Pass ⟨0, 0, 0, 0⟩))) (C8.fnBody ((C8.clsBody (top 13)).getD 7 (.Pass ⟨0, 0, 0, 0⟩))) (C8.fnScope ((C8.clsBody (top 13)).getD 7 (.Pass ⟨0, 0, 0, 0⟩))) .none kV9 dc9 pm9 an9 cd9 ct9), sl9⟩) (c9 : PySem.W.codeIn K cd9 "Scan.finish" = true) (e9 : PySem.W.keepIn K (.ref f9) = true)
    {oc10 : Value} {od10 : Option Addr} {kV10 dc10 pm10 : Value} {an10 : Option Addr} {cd10 : Value} {ct10 : Value} {sl10 : Array (Option Value)}
    (a10 : PySem.W.nsIn K mainGlobals "need_table" = some (some (.ref f10)))
    (l10 : K.lookup f10 = some ⟨oc10, od10, .func (PySem.W.fnOf "need_table" "need_table" (C8.fnArgs (top 18)) (C8.fnBody (top 18)) (C8.fnScope (top 18)) .none kV10 dc10 pm10 an10 cd10 ct10), sl10⟩) (c10 : PySem.W.codeIn K cd10 "need_table" = true) (e10 : PySem.W.keepIn K (.ref f10) = true)
    {oc11 : Value} {od11 : Option Addr} {kV11 dc11 pm11 : Value} {an11 : Option Addr} {cd11 : Value} {ct11 : Value} {sl11 : Array (Option Value)}
    (a11 : PySem.W.nsIn K mainGlobals "need_setting" = some (some (.ref f11)))
    (l11 : K.lookup f11 = some ⟨oc11, od11, .func (PySem.W.fnOf "need_setting" "need_setting" (C8.fnArgs (top 19)) (C8.fnBody (top 19)) (C8.fnScope (top 19)) .none kV11 dc11 pm11 an11 cd11 ct11), sl11⟩) (c11 : PySem.W.codeIn K cd11 "need_setting" = true) (e11 : PySem.W.keepIn K (.ref f11) = true)
    {oc12 : Value} {od12 : Option Addr} {kV12 dc12 pm12 : Value} {an12 : Option Addr} {cd12 : Value} {ct12 : Value} {sl12 : Array (Option Value)}
    (a12 : PySem.W.nsIn K mainGlobals "places_in" = some (some (.ref f12)))
    (l12 : K.lookup f12 = some ⟨oc12, od12, .func (PySem.W.fnOf "places_in" "places_in" (C8.fnArgs (top 20)) (C8.fnBody (top 20)) (C8.fnScope (top 20)) .none kV12 dc12 pm12 an12 cd12 ct12), sl12⟩) (c12 : PySem.W.codeIn K cd12 "places_in" = true) (e12 : PySem.W.keepIn K (.ref f12) = true)
    {oc13 : Value} {od13 : Option Addr} {kV13 dc13 pm13 : Value} {an13 : Option Addr} {cd13 : Value} {ct13 : Value} {sl13 : Array (Option Value)}
    (a13 : PySem.W.nsIn K mainGlobals "number_in" = some (some (.ref f13)))
    (l13 : K.lookup f13 = some ⟨oc13, od13, .func (PySem.W.fnOf "number_in" "number_in" (C8.fnArgs (top 21)) (C8.fnBody (top 21)) (C8.fnScope (top 21)) .none kV13 dc13 pm13 an13 cd13 ct13), sl13⟩) (c13 : PySem.W.codeIn K cd13 "number_in" = true) (e13 : PySem.W.keepIn K (.ref f13) = true)
    {oc14 : Value} {od14 : Option Addr} {kV14 dc14 pm14 : Value} {an14 : Option Addr} {cd14 : Value} {ct14 : Value} {sl14 : Array (Option Value)}
    (a14 : PySem.W.nsIn K mainGlobals "setting_in" = some (some (.ref f14)))
    (l14 : K.lookup f14 = some ⟨oc14, od14, .func (PySem.W.fnOf "setting_in" "setting_in" (C8.fnArgs (top 22)) (C8.fnBody (top 22)) (C8.fnScope (top 22)) .none kV14 dc14 pm14 an14 cd14 ct14), sl14⟩) (c14 : PySem.W.codeIn K cd14 "setting_in" = true) (e14 : PySem.W.keepIn K (.ref f14) = true)
    {oc15 : Value} {od15 : Option Addr} {kV15 dc15 pm15 : Value} {an15 : Option Addr} {cd15 : Value} {ct15 : Value} {sl15 : Array (Option Value)}
    (a15 : PySem.W.nsIn K mainGlobals "is_table" = some (some (.ref f15)))
    (l15 : K.lookup f15 = some ⟨oc15, od15, .func (PySem.W.fnOf "is_table" "is_table" (C8.fnArgs (top 23)) (C8.fnBody (top 23)) (C8.fnScope (top 23)) .none kV15 dc15 pm15 an15 cd15 ct15), sl15⟩) (c15 : PySem.W.codeIn K cd15 "is_table" = true) (e15 : PySem.W.keepIn K (.ref f15) = true)
    {oc16 : Value} {od16 : Option Addr} {kV16 dc16 pm16 : Value} {an16 : Option Addr} {cd16 : Value} {ct16 : Value} {sl16 : Array (Option Value)}
    (a16 : PySem.W.nsIn K mainGlobals "places_of" = some (some (.ref f16)))
    (l16 : K.lookup f16 = some ⟨oc16, od16, .func (PySem.W.fnOf "places_of" "places_of" (C8.fnArgs (top 24)) (C8.fnBody (top 24)) (C8.fnScope (top 24)) .none kV16 dc16 pm16 an16 cd16 ct16), sl16⟩) (c16 : PySem.W.codeIn K cd16 "places_of" = true) (e16 : PySem.W.keepIn K (.ref f16) = true)
    {oc17 : Value} {od17 : Option Addr} {kV17 dc17 pm17 : Value} {an17 : Option Addr} {cd17 : Value} {ct17 : Value} {sl17 : Array (Option Value)}
    (a17 : PySem.W.nsIn K mainGlobals "row_of" = some (some (.ref f17)))
    (l17 : K.lookup f17 = some ⟨oc17, od17, .func (PySem.W.fnOf "row_of" "row_of" (C8.fnArgs (top 25)) (C8.fnBody (top 25)) (C8.fnScope (top 25)) .none kV17 dc17 pm17 an17 cd17 ct17), sl17⟩) (c17 : PySem.W.codeIn K cd17 "row_of" = true) (e17 : PySem.W.keepIn K (.ref f17) = true)
    {oc18 : Value} {od18 : Option Addr} {kV18 dc18 pm18 : Value} {an18 : Option Addr} {cd18 : Value} {ct18 : Value} {sl18 : Array (Option Value)}
    (a18 : PySem.W.nsIn K mainGlobals "setting_of" = some (some (.ref f18)))
    (l18 : K.lookup f18 = some ⟨oc18, od18, .func (PySem.W.fnOf "setting_of" "setting_of" (C8.fnArgs (top 26)) (C8.fnBody (top 26)) (C8.fnScope (top 26)) .none kV18 dc18 pm18 an18 cd18 ct18), sl18⟩) (c18 : PySem.W.codeIn K cd18 "setting_of" = true) (e18 : PySem.W.keepIn K (.ref f18) = true)
    {oc19 : Value} {od19 : Option Addr} {kV19 dc19 pm19 : Value} {an19 : Option Addr} {cd19 : Value} {ct19 : Value} {sl19 : Array (Option Value)}
    (a19 : PySem.W.nsIn K mainGlobals "sign_at" = some (some (.ref f19)))
    (l19 : K.lookup f19 = some ⟨oc19, od19, .func (PySem.W.fnOf "sign_at" "sign_at" (C8.fnArgs (top 27)) (C8.fnBody (top 27)) (C8.fnScope (top 27)) .none kV19 dc19 pm19 an19 cd19 ct19), sl19⟩) (c19 : PySem.W.codeIn K cd19 "sign_at" = true) (e19 : PySem.W.keepIn K (.ref f19) = true)
    {oc20 : Value} {od20 : Option Addr} {kV20 dc20 pm20 : Value} {an20 : Option Addr} {cd20 : Value} {ct20 : Value} {sl20 : Array (Option Value)}
    (a20 : PySem.W.nsIn K mainGlobals "table_text" = some (some (.ref f20)))
    (l20 : K.lookup f20 = some ⟨oc20, od20, .func (PySem.W.fnOf "table_text" "table_text" (C8.fnArgs (top 28)) (C8.fnBody (top 28)) (C8.fnScope (top 28)) .none kV20 dc20 pm20 an20 cd20 ct20), sl20⟩) (c20 : PySem.W.codeIn K cd20 "table_text" = true) (e20 : PySem.W.keepIn K (.ref f20) = true)
    {oc21 : Value} {od21 : Option Addr} {kV21 dc21 pm21 : Value} {an21 : Option Addr} {cd21 : Value} {ct21 : Value} {sl21 : Array (Option Value)}
    (a21 : PySem.W.nsIn K mainGlobals "read_table" = some (some (.ref f21)))
    (l21 : K.lookup f21 = some ⟨oc21, od21, .func (PySem.W.fnOf "read_table" "read_table" (C8.fnArgs (top 29)) (C8.fnBody (top 29)) (C8.fnScope (top 29)) .none kV21 dc21 pm21 an21 cd21 ct21), sl21⟩) (c21 : PySem.W.codeIn K cd21 "read_table" = true) (e21 : PySem.W.keepIn K (.ref f21) = true)
    {oc22 : Value} {od22 : Option Addr} {kV22 dc22 pm22 : Value} {an22 : Option Addr} {cd22 : Value} {ct22 : Value} {sl22 : Array (Option Value)}
    (a22 : PySem.W.nsIn K mainGlobals "table_in" = some (some (.ref f22)))
    (l22 : K.lookup f22 = some ⟨oc22, od22, .func (PySem.W.fnOf "table_in" "table_in" (C8.fnArgs (top 30)) (C8.fnBody (top 30)) (C8.fnScope (top 30)) .none kV22 dc22 pm22 an22 cd22 ct22), sl22⟩) (c22 : PySem.W.codeIn K cd22 "table_in" = true) (e22 : PySem.W.keepIn K (.ref f22) = true)
    {oc23 : Value} {od23 : Option Addr} {kV23 dc23 pm23 : Value} {an23 : Option Addr} {cd23 : Value} {ct23 : Value} {sl23 : Array (Option Value)}
    (a23 : PySem.W.nsIn K mainGlobals "_law_pen" = some (some (.ref f23)))
    (l23 : K.lookup f23 = some ⟨oc23, od23, .func (PySem.W.fnOf "_law_pen" "_law_pen" (C8.fnArgs (top 32)) (C8.fnBody (top 32)) (C8.fnScope (top 32)) .none kV23 dc23 pm23 an23 cd23 ct23), sl23⟩) (c23 : PySem.W.codeIn K cd23 "_law_pen" = true) (e23 : PySem.W.keepIn K (.ref f23) = true)
    {oc24 : Value} {od24 : Option Addr} {kV24 dc24 pm24 : Value} {an24 : Option Addr} {cd24 : Value} {ct24 : Value} {sl24 : Array (Option Value)}
    (a24 : PySem.W.nsIn K mainGlobals "_law_draw" = some (some (.ref f24)))
    (l24 : K.lookup f24 = some ⟨oc24, od24, .func (PySem.W.fnOf "_law_draw" "_law_draw" (C8.fnArgs (top 33)) (C8.fnBody (top 33)) (C8.fnScope (top 33)) .none kV24 dc24 pm24 an24 cd24 ct24), sl24⟩) (c24 : PySem.W.codeIn K cd24 "_law_draw" = true) (e24 : PySem.W.keepIn K (.ref f24) = true)
    {oc25 : Value} {od25 : Option Addr} {kV25 dc25 pm25 : Value} {an25 : Option Addr} {cd25 : Value} {ct25 : Value} {sl25 : Array (Option Value)}
    (a25 : PySem.W.nsIn K mainGlobals "_law_pick" = some (some (.ref f25)))
    (l25 : K.lookup f25 = some ⟨oc25, od25, .func (PySem.W.fnOf "_law_pick" "_law_pick" (C8.fnArgs (top 34)) (C8.fnBody (top 34)) (C8.fnScope (top 34)) .none kV25 dc25 pm25 an25 cd25 ct25), sl25⟩) (c25 : PySem.W.codeIn K cd25 "_law_pick" = true) (e25 : PySem.W.keepIn K (.ref f25) = true)
    {oc26 : Value} {od26 : Option Addr} {kV26 dc26 pm26 : Value} {an26 : Option Addr} {cd26 : Value} {ct26 : Value} {sl26 : Array (Option Value)}
    (a26 : PySem.W.nsIn K mainGlobals "_law_twos" = some (some (.ref f26)))
    (l26 : K.lookup f26 = some ⟨oc26, od26, .func (PySem.W.fnOf "_law_twos" "_law_twos" (C8.fnArgs (top 35)) (C8.fnBody (top 35)) (C8.fnScope (top 35)) .none kV26 dc26 pm26 an26 cd26 ct26), sl26⟩) (c26 : PySem.W.codeIn K cd26 "_law_twos" = true) (e26 : PySem.W.keepIn K (.ref f26) = true)
    {oc27 : Value} {od27 : Option Addr} {kV27 dc27 pm27 : Value} {an27 : Option Addr} {cd27 : Value} {ct27 : Value} {sl27 : Array (Option Value)}
    (a27 : PySem.W.nsIn K mainGlobals "_law_table" = some (some (.ref f27)))
    (l27 : K.lookup f27 = some ⟨oc27, od27, .func (PySem.W.fnOf "_law_table" "_law_table" (C8.fnArgs (top 36)) (C8.fnBody (top 36)) (C8.fnScope (top 36)) .none kV27 dc27 pm27 an27 cd27 ct27), sl27⟩) (c27 : PySem.W.codeIn K cd27 "_law_table" = true) (e27 : PySem.W.keepIn K (.ref f27) = true)
    {oc28 : Value} {od28 : Option Addr} {kV28 dc28 pm28 : Value} {an28 : Option Addr} {cd28 : Value} {ct28 : Value} {sl28 : Array (Option Value)}
    (a28 : PySem.W.nsIn K mainGlobals "_law_setting" = some (some (.ref f28)))
    (l28 : K.lookup f28 = some ⟨oc28, od28, .func (PySem.W.fnOf "_law_setting" "_law_setting" (C8.fnArgs (top 37)) (C8.fnBody (top 37)) (C8.fnScope (top 37)) .none kV28 dc28 pm28 an28 cd28 ct28), sl28⟩) (c28 : PySem.W.codeIn K cd28 "_law_setting" = true) (e28 : PySem.W.keepIn K (.ref f28) = true)
    {oc29 : Value} {od29 : Option Addr} {kV29 dc29 pm29 : Value} {an29 : Option Addr} {cd29 : Value} {ct29 : Value} {sl29 : Array (Option Value)}
    (a29 : PySem.W.nsIn K mainGlobals "_law_number" = some (some (.ref f29)))
    (l29 : K.lookup f29 = some ⟨oc29, od29, .func (PySem.W.fnOf "_law_number" "_law_number" (C8.fnArgs (top 38)) (C8.fnBody (top 38)) (C8.fnScope (top 38)) .none kV29 dc29 pm29 an29 cd29 ct29), sl29⟩) (c29 : PySem.W.codeIn K cd29 "_law_number" = true) (e29 : PySem.W.keepIn K (.ref f29) = true)
    {oc30 : Value} {od30 : Option Addr} {kV30 dc30 pm30 : Value} {an30 : Option Addr} {cd30 : Addr} {ct30 : Value} {sl30 : Array (Option Value)}
    (a30 : PySem.W.nsIn K mainGlobals "_law_table_right" = some (some (.ref f30)))
    (l30 : K.lookup f30 = some ⟨oc30, od30, .func (PySem.W.fnOf "_law_table_right" "_law_table_right" (C8.fnArgs (top 41)) (C8.fnBody (top 41)) (C8.fnScope (top 41)) .none kV30 dc30 pm30 an30 (.ref cd30) ct30), sl30⟩) (c30 : PySem.W.codeIn K (.ref cd30) "_law_table_right" = true) (e30 : PySem.W.keepIn K (.ref f30) = true)
    {oc31 : Value} {od31 : Option Addr} {kV31 dc31 pm31 : Value} {an31 : Option Addr} {cd31 : Addr} {ct31 : Value} {sl31 : Array (Option Value)}
    (a31 : PySem.W.nsIn K mainGlobals "law" = some (some (.ref f31)))
    (l31 : K.lookup f31 = some ⟨oc31, od31, .func (PySem.W.fnOf "law" "law" (C8.fnArgs (top 42)) (C8.fnBody (top 42)) (C8.fnScope (top 42)) .none kV31 dc31 pm31 an31 (.ref cd31) ct31), sl31⟩) (c31 : PySem.W.codeIn K (.ref cd31) "law" = true) (e31 : PySem.W.keepIn K (.ref f31) = true)
    {ut0 : Tok} (x0 : PySem.W.nsIn K mainGlobals "MOST_PLACES" = some (some (.int k0 ut0)))
    {u1 : Addr} {ar1 : Array Value} {um1 : Nat} {us1 : Array (Option Value)} (x1 : PySem.W.nsIn K mainGlobals "SIZES" = some (some (.ref u1))) (y1 : K.lookup u1 = some ⟨.type "tuple", none, .seq ar1 um1, us1⟩) (w1 : intArr ar1.toList = some k1)
    {u2 : Addr} {ar2 : Array Value} {um2 : Nat} {us2 : Array (Option Value)} (x2 : PySem.W.nsIn K mainGlobals "SIGN_TEXTS" = some (some (.ref u2))) (y2 : K.lookup u2 = some ⟨.type "tuple", none, .seq ar2 um2, us2⟩) (w2 : strArr ar2.toList = some k2)
    {I0 N0 : Addr} {nm0 qn0 : Str} {bs0 bm0 : List Value} {sn0 : List Str} {sub0 : List Value} {ab0 : Bool} {col0 : Option Bool} {dd0 : Option Addr} {k00 k10 k20 k30 k50 : Option Value} {ocI0 : Value} {odI0 : Option Addr} {kVI0 dcI0 pmI0 : Value} {anI0 : Option Addr} {cdI0 ctI0 : Value} {slI0 : Array (Option Value)}
    (ca0 : PySem.W.nsIn K mainGlobals "BadText" = some (some (.ref C0))) (cb0 : K.lookup C0 = some (excClassObj nm0 qn0 C0 N0 bs0 bm0 true sn0 sub0 ab0 col0 dd0 k00 k10 k20 k30 k50 "ValueError.__new__")) (wc0 : PySem.HandSPX.refsVE bm0 = true)
    (cd0x : PySem.W.findIn K (.ref C0) "__setattr__" = some (some (.builtin "object.__setattr__"))) (ce0 : PySem.W.subIn K (.ref C0) (.type "BaseException") = some true) (cf0 : PySem.W.typeIn K (.ref C0) = some (.type "type")) (cg0 : PySem.W.keepIn K (.ref C0) = true)
    (ch0 : PySem.W.findIn K (.ref C0) "__init__" = some (some (.ref I0))) (ci0 : PySem.W.typeIn K (.ref I0) = some (.type "function")) (cj0 : PySem.W.findIn K (.ref C0) "line" = some none) (cj0y : PySem.W.findIn K (.ref C0) "item" = some none)
    (ck0x : K.lookup I0 = some ⟨ocI0, odI0, .func (PySem.W.fnOf "__init__" "BadText.__init__" (C8.fnArgs ((C8.clsBody (top 6)).getD 0 (.Pass ⟨0, 0, 0, 0⟩))) (C8.fnBody ((C8.clsBody (top 6)).getD 0 (.Pass ⟨0, 0, 0, 0⟩))) (C8.fnScope ((C8.clsBody (top 6)).getD 0 (.Pass ⟨0, 0, 0, 0⟩))) .none kVI0 dcI0 pmI0 anI0 cdI0 ctI0), slI0⟩) (cl0 : PySem.W.codeIn K cdI0 "BadText.__init__" = true)
    {I1 N1 : Addr} {nm1 qn1 : Str} {bs1 bm1 : List Value} {sn1 : List Str} {sub1 : List Value} {ab1 : Bool} {col1 : Option Bool} {dd1 : Option Addr} {k01 k11 k21 k31 k51 : Option Value} {ocI1 : Value} {odI1 : Option Addr} {kVI1 dcI1 pmI1 : Value} {anI1 : Option Addr} {cdI1 ctI1 : Value} {slI1 : Array (Option Value)}
    (ca1 : PySem.W.nsIn K mainGlobals "BadTable" = some (some (.ref C1))) (cb1 : K.lookup C1 = some (excClassObj nm1 qn1 C1 N1 bs1 bm1 true sn1 sub1 ab1 col1 dd1 k01 k11 k21 k31 k51 "ValueError.__new__")) (wc1 : PySem.HandSPX.refsVE bm1 = true)
    (cd1x : PySem.W.findIn K (.ref C1) "__setattr__" = some (some (.builtin "object.__setattr__"))) (ce1 : PySem.W.subIn K (.ref C1) (.type "BaseException") = some true) (cf1 : PySem.W.typeIn K (.ref C1) = some (.type "type")) (cg1 : PySem.W.keepIn K (.ref C1) = true)
    (ch1 : PySem.W.findIn K (.ref C1) "__init__" = some (some (.ref I1))) (ci1 : PySem.W.typeIn K (.ref I1) = some (.type "function")) (cj1 : PySem.W.findIn K (.ref C1) "part" = some none)
    (ck1x : K.lookup I1 = some ⟨ocI1, odI1, .func (PySem.W.fnOf "__init__" "BadTable.__init__" (C8.fnArgs ((C8.clsBody (top 3)).getD 0 (.Pass ⟨0, 0, 0, 0⟩))) (C8.fnBody ((C8.clsBody (top 3)).getD 0 (.Pass ⟨0, 0, 0, 0⟩))) (C8.fnScope ((C8.clsBody (top 3)).getD 0 (.Pass ⟨0, 0, 0, 0⟩))) .none kVI1 dcI1 pmI1 anI1 cdI1 ctI1), slI1⟩) (cl1 : PySem.W.codeIn K cdI1 "BadTable.__init__" = true)
    {I2 N2 : Addr} {nm2 qn2 : Str} {bs2 bm2 : List Value} {sn2 : List Str} {sub2 : List Value} {ab2 : Bool} {col2 : Option Bool} {dd2 : Option Addr} {k02 k12 k22 k32 k52 : Option Value} {ocI2 : Value} {odI2 : Option Addr} {kVI2 dcI2 pmI2 : Value} {anI2 : Option Addr} {cdI2 ctI2 : Value} {slI2 : Array (Option Value)}
    (ca2 : PySem.W.nsIn K mainGlobals "BadNumber" = some (some (.ref C2))) (cb2 : K.lookup C2 = some (excClassObj nm2 qn2 C2 N2 bs2 bm2 true sn2 sub2 ab2 col2 dd2 k02 k12 k22 k32 k52 "ValueError.__new__")) (wc2 : PySem.HandSPX.refsVE bm2 = true)
    (cd2x : PySem.W.findIn K (.ref C2) "__setattr__" = some (some (.builtin "object.__setattr__"))) (ce2 : PySem.W.subIn K (.ref C2) (.type "BaseException") = some true) (cf2 : PySem.W.typeIn K (.ref C2) = some (.type "type")) (cg2 : PySem.W.keepIn K (.ref C2) = true)
    (ch2 : PySem.W.findIn K (.ref C2) "__init__" = some (some (.ref I2))) (ci2 : PySem.W.typeIn K (.ref I2) = some (.type "function")) (cj2 : PySem.W.findIn K (.ref C2) "part" = some none)
    (ck2x : K.lookup I2 = some ⟨ocI2, odI2, .func (PySem.W.fnOf "__init__" "BadNumber.__init__" (C8.fnArgs ((C8.clsBody (top 4)).getD 0 (.Pass ⟨0, 0, 0, 0⟩))) (C8.fnBody ((C8.clsBody (top 4)).getD 0 (.Pass ⟨0, 0, 0, 0⟩))) (C8.fnScope ((C8.clsBody (top 4)).getD 0 (.Pass ⟨0, 0, 0, 0⟩))) .none kVI2 dcI2 pmI2 anI2 cdI2 ctI2), slI2⟩) (cl2 : PySem.W.codeIn K cdI2 "BadNumber.__init__" = true)
    {I3 N3 : Addr} {nm3 qn3 : Str} {bs3 bm3 : List Value} {sn3 : List Str} {sub3 : List Value} {ab3 : Bool} {col3 : Option Bool} {dd3 : Option Addr} {k03 k13 k23 k33 k53 : Option Value} {ocI3 : Value} {odI3 : Option Addr} {kVI3 dcI3 pmI3 : Value} {anI3 : Option Addr} {cdI3 ctI3 : Value} {slI3 : Array (Option Value)}
    (ca3 : PySem.W.nsIn K mainGlobals "Misfit" = some (some (.ref C3))) (cb3 : K.lookup C3 = some (excClassObj nm3 qn3 C3 N3 bs3 bm3 true sn3 sub3 ab3 col3 dd3 k03 k13 k23 k33 k53 "ValueError.__new__")) (wc3 : PySem.HandSPX.refsVE bm3 = true)
    (cd3x : PySem.W.findIn K (.ref C3) "__setattr__" = some (some (.builtin "object.__setattr__"))) (ce3 : PySem.W.subIn K (.ref C3) (.type "BaseException") = some true) (cf3 : PySem.W.typeIn K (.ref C3) = some (.type "type")) (cg3 : PySem.W.keepIn K (.ref C3) = true)
    (ch3 : PySem.W.findIn K (.ref C3) "__init__" = some (some (.ref I3))) (ci3 : PySem.W.typeIn K (.ref I3) = some (.type "function")) (cj3 : PySem.W.findIn K (.ref C3) "part" = some none)
    (ck3x : K.lookup I3 = some ⟨ocI3, odI3, .func (PySem.W.fnOf "__init__" "Misfit.__init__" (C8.fnArgs ((C8.clsBody (top 5)).getD 0 (.Pass ⟨0, 0, 0, 0⟩))) (C8.fnBody ((C8.clsBody (top 5)).getD 0 (.Pass ⟨0, 0, 0, 0⟩))) (C8.fnScope ((C8.clsBody (top 5)).getD 0 (.Pass ⟨0, 0, 0, 0⟩))) .none kVI3 dcI3 pmI3 anI3 cdI3 ctI3), slI3⟩) (cl3 : PySem.W.codeIn K cdI3 "Misfit.__init__" = true)
    (ia0 : PySem.W.nsIn K mainGlobals "Scan" = some (some (.ref E0))) (ib0 : PySem.W.plainGet K E0 Str.empty = true) (ic0 : PySem.W.hasDictIn K E0 = true) (id0 : PySem.W.plainOver K E0 = true) (ie0 : PySem.W.findIn K (.ref E0) "__setattr__" = some (some (.builtin "object.__setattr__"))) (if0 : PySem.W.keepIn K (.ref E0) = true)
    (ig0 : PySem.W.findIn K (.ref E0) "__class__" = some (some (.builtin "object.__class__"))) (ih0 : PySem.W.specialIn K (.builtin "object.__class__") "__get__" = some (some (.builtin "getset_descriptor.__get__"))) (ij0 : PySem.W.takesIn K (.builtin "object.__class__") = some true) (ik0 : PySem.W.mroIn K E0 (.type "object") = some true)
    (il0 : PySem.W.makesIn K E0 = true) (im0 : PySem.W.findIn K (.ref E0) "__init__" = some (some (.ref f4))) (in0 : PySem.W.isFn K (.ref f4) = true)
    (im0_finish : PySem.W.findIn K (.ref E0) "finish" = some (some (.ref f9))) (in0_finish : PySem.W.isFn K (.ref f9) = true)
    (im0_is_over : PySem.W.findIn K (.ref E0) "is_over" = some (some (.ref f5))) (in0_is_over : PySem.W.isFn K (.ref f5) = true)
    (im0_refuse : PySem.W.findIn K (.ref E0) "refuse" = some (some (.ref f7))) (in0_refuse : PySem.W.isFn K (.ref f7) = true)
    (im0_seen : PySem.W.findIn K (.ref E0) "seen" = some (some (.ref f6))) (in0_seen : PySem.W.isFn K (.ref f6) = true)
    (im0_take : PySem.W.findIn K (.ref E0) "take" = some (some (.ref f8))) (in0_take : PySem.W.isFn K (.ref f8) = true)
    (io0_items_left : PySem.W.findIn K (.ref E0) "items_left" = some none)
    (io0_spot : PySem.W.findIn K (.ref E0) "spot" = some none)
    (ip0_0 : PySem.W.kitOne K (.ref E0) (.ref E0) = some true)
    (iq0_0 : PySem.W.kitOne K (.type "int") (.ref E0) = some false)
    (iq0_1 : PySem.W.kitOne K (.type "bool") (.ref E0) = some false)
    (iq0_2 : PySem.W.kitOne K (.type "str") (.ref E0) = some false)
    (iq0_3 : PySem.W.kitOne K (.type "list") (.ref E0) = some false)
    (iq0_4 : PySem.W.kitOne K (.type "tuple") (.ref E0) = some false)
    (iq0_5 : PySem.W.kitOne K (.type "dict") (.ref E0) = some false)
    (iq0_6 : PySem.W.kitOne K (.type "NoneType") (.ref E0) = some false)
    {gH CB : Addr} {ocH : Value} {odH : Option Addr} {kVH dcH pmH : Value} {anH : Option Addr} {cdH ctH : Value} {slH : Array (Option Value)}
    (aH : PySem.W.nsIn K mainGlobals "_law_heard" = some (some (.ref gH))) (lH : K.lookup gH = some ⟨ocH, odH, .func (PySem.W.fnOf "_law_heard" "_law_heard" (C8.fnArgs (top 40)) (C8.fnBody (top 40)) (C8.fnScope (top 40)) .none kVH dcH pmH anH cdH ctH), slH⟩) (cH : PySem.W.codeIn K cdH "_law_heard" = true) (eH : PySem.W.keepIn K (.ref gH) = true) (bH : PySem.W.nsIn K mainGlobals "HoleError" = some (some (.ref CB)))
    {X0 : Addr} (xa0 : PySem.W.nsIn K mainGlobals "BadTable" = some (some (.ref X0)))
    {X1 : Addr} (xa1 : PySem.W.nsIn K mainGlobals "BadNumber" = some (some (.ref X1)))
    {X2 : Addr} (xa2 : PySem.W.nsIn K mainGlobals "Misfit" = some (some (.ref X2)))
    {X3 : Addr} (xa3 : PySem.W.nsIn K mainGlobals "BadText" = some (some (.ref X3)))
    (ea0 : (PySem.W.clsIn K C0).isSome = true) (eb0 : PySem.W.findIn K (.ref C0) "__getattribute__" = some (some (.builtin "BaseException.__getattribute__"))) (ec0 : PySem.W.findIn K (.ref C0) "__getattr__" = some none) (ed0 : PySem.W.hasDictIn K C0 = true) (ee0 : PySem.W.findIn K (.ref C0) "__class__" = some (some (.builtin "object.__class__")))
    (ef0 : PySem.W.specialIn K (.builtin "object.__class__") "__get__" = some (some (.builtin "getset_descriptor.__get__"))) (eg0 : PySem.W.takesIn K (.builtin "object.__class__") = some true) (eh0 : PySem.W.mroIn K C0 (.type "object") = some true) (ei0 : PySem.W.exmOne K (.ref C0) (.ref CB) = some true)
    (k0_0 : PySem.W.kitOne K (.ref C0) (.ref X0) = some false)
    (k0_1 : PySem.W.kitOne K (.ref C0) (.ref X1) = some false)
    (k0_2 : PySem.W.kitOne K (.ref C0) (.ref X2) = some false)
    (k0_3 : PySem.W.kitOne K (.ref C0) (.ref X3) = some true)
    (h0_item : PySem.W.findIn K (.ref C0) "item" = some none)
    (h0_line : PySem.W.findIn K (.ref C0) "line" = some none)
    (h0_part : PySem.W.findIn K (.ref C0) "part" = some none)
    (ea1 : (PySem.W.clsIn K C1).isSome = true) (eb1 : PySem.W.findIn K (.ref C1) "__getattribute__" = some (some (.builtin "BaseException.__getattribute__"))) (ec1 : PySem.W.findIn K (.ref C1) "__getattr__" = some none) (ed1 : PySem.W.hasDictIn K C1 = true) (ee1 : PySem.W.findIn K (.ref C1) "__class__" = some (some (.builtin "object.__class__")))
    (ef1 : PySem.W.specialIn K (.builtin "object.__class__") "__get__" = some (some (.builtin "getset_descriptor.__get__"))) (eg1 : PySem.W.takesIn K (.builtin "object.__class__") = some true) (eh1 : PySem.W.mroIn K C1 (.type "object") = some true) (ei1 : PySem.W.exmOne K (.ref C1) (.ref CB) = some true)
    (k1_0 : PySem.W.kitOne K (.ref C1) (.ref X0) = some true)
    (k1_1 : PySem.W.kitOne K (.ref C1) (.ref X1) = some false)
    (k1_2 : PySem.W.kitOne K (.ref C1) (.ref X2) = some false)
    (k1_3 : PySem.W.kitOne K (.ref C1) (.ref X3) = some false)
    (h1_item : PySem.W.findIn K (.ref C1) "item" = some none)
    (h1_line : PySem.W.findIn K (.ref C1) "line" = some none)
    (h1_part : PySem.W.findIn K (.ref C1) "part" = some none)
    (ea2 : (PySem.W.clsIn K C2).isSome = true) (eb2 : PySem.W.findIn K (.ref C2) "__getattribute__" = some (some (.builtin "BaseException.__getattribute__"))) (ec2 : PySem.W.findIn K (.ref C2) "__getattr__" = some none) (ed2 : PySem.W.hasDictIn K C2 = true) (ee2 : PySem.W.findIn K (.ref C2) "__class__" = some (some (.builtin "object.__class__")))
    (ef2 : PySem.W.specialIn K (.builtin "object.__class__") "__get__" = some (some (.builtin "getset_descriptor.__get__"))) (eg2 : PySem.W.takesIn K (.builtin "object.__class__") = some true) (eh2 : PySem.W.mroIn K C2 (.type "object") = some true) (ei2 : PySem.W.exmOne K (.ref C2) (.ref CB) = some true)
    (k2_0 : PySem.W.kitOne K (.ref C2) (.ref X0) = some false)
    (k2_1 : PySem.W.kitOne K (.ref C2) (.ref X1) = some true)
    (k2_2 : PySem.W.kitOne K (.ref C2) (.ref X2) = some false)
    (k2_3 : PySem.W.kitOne K (.ref C2) (.ref X3) = some false)
    (h2_item : PySem.W.findIn K (.ref C2) "item" = some none)
    (h2_line : PySem.W.findIn K (.ref C2) "line" = some none)
    (h2_part : PySem.W.findIn K (.ref C2) "part" = some none)
    (ea3 : (PySem.W.clsIn K C3).isSome = true) (eb3 : PySem.W.findIn K (.ref C3) "__getattribute__" = some (some (.builtin "BaseException.__getattribute__"))) (ec3 : PySem.W.findIn K (.ref C3) "__getattr__" = some none) (ed3 : PySem.W.hasDictIn K C3 = true) (ee3 : PySem.W.findIn K (.ref C3) "__class__" = some (some (.builtin "object.__class__")))
    (ef3 : PySem.W.specialIn K (.builtin "object.__class__") "__get__" = some (some (.builtin "getset_descriptor.__get__"))) (eg3 : PySem.W.takesIn K (.builtin "object.__class__") = some true) (eh3 : PySem.W.mroIn K C3 (.type "object") = some true) (ei3 : PySem.W.exmOne K (.ref C3) (.ref CB) = some true)
    (k3_0 : PySem.W.kitOne K (.ref C3) (.ref X0) = some false)
    (k3_1 : PySem.W.kitOne K (.ref C3) (.ref X1) = some false)
    (k3_2 : PySem.W.kitOne K (.ref C3) (.ref X2) = some true)
    (k3_3 : PySem.W.kitOne K (.ref C3) (.ref X3) = some false)
    (h3_item : PySem.W.findIn K (.ref C3) "item" = some none)
    (h3_line : PySem.W.findIn K (.ref C3) "line" = some none)
    (h3_part : PySem.W.findIn K (.ref C3) "part" = some none)
    (z0 : PySem.W.nsIn K mainGlobals "len" = some none)
    (z1 : PySem.W.nsIn K mainGlobals "tuple" = some none)
    (z2 : PySem.W.nsIn K mainGlobals "list" = some none)
    (z3 : PySem.W.nsIn K mainGlobals "int" = some none)
    (z4 : PySem.W.nsIn K mainGlobals "bool" = some none)
    (z5 : PySem.W.nsIn K mainGlobals "str" = some none)
    (z6 : PySem.W.nsIn K mainGlobals "dict" = some none)
    (z7 : PySem.W.nsIn K mainGlobals "abs" = some none)
    (z8 : PySem.W.nsIn K mainGlobals "sum" = some none)
    (z9 : PySem.W.nsIn K mainGlobals "all" = some none)
    (z10 : PySem.W.nsIn K mainGlobals "any" = some none)
    (z11 : PySem.W.nsIn K mainGlobals "isinstance" = some none)
    (z12 : PySem.W.nsIn K mainGlobals "range" = some none)
    (z13 : PySem.W.nsIn K mainGlobals "zip" = some none)
    (z14 : PySem.W.nsIn K mainGlobals "enumerate" = some none)
    (z15 : PySem.W.nsIn K mainGlobals "repr" = some none)
    (z16 : PySem.W.nsIn K mainGlobals "max" = some none)
    (z17 : PySem.W.nsIn K mainGlobals "min" = some none)
    (z18 : PySem.W.nsIn K mainGlobals "sorted" = some none)
    (z19 : PySem.W.nsIn K mainGlobals "set" = some none)
    (z20 : PySem.W.nsIn K mainGlobals "super" = some none)
    : ModOk tab (sta K f0 f1 f2 f3 f4 f5 f6 f7 f8 f9 f10 f11 f12 f13 f14 f15 f16 f17 f18 f19 f20 f21 f22 f23 f24 f25 f26 f27 f28 f29 f30 f31 C0 C1 C2 C3 E0 P30 P31) [(cd30, P30), (cd31, P31)] pds mg := by
  refine ⟨rfl, rfl, ?noh, fun i d p hd hp => ?_, fun j p hp => ?_, fun x hx => ?_, fun P w base c p hp => ?_, fun c p hp => ?_⟩
  case noh =>
    refine .inr ⟨gH, CB, chainT, "HoleError", top 40, _, _, _, _, _, _, _, _, _, PySem.W.mg_of X G aH, eH, lH, cH, (fun us hl => match us, hl with | [_], _ => rfl), C8.fnScope_by (by decide +kernel), by decide +kernel, by decide +kernel, by decide +kernel, by decide +kernel, by decide +kernel, by decide +kernel, PySem.W.mg_of X G bH, by decide +kernel, hres_of (bs := bsT) fun c b C hb hC => ?_⟩
    match c, hb, hC with
    | 0, rfl, rfl => exact ⟨⟨ea0, eb0, ec0, ce0, ed0, ee0, ef0, eg0, eh0⟩, ei0, ⟨⟨X0, PySem.W.mg_of X G xa0, k0_0⟩, (fun f hf => by simp only [List.mem_cons, List.not_mem_nil, or_false] at hf; subst hf; exact h0_part), ⟨⟨X1, PySem.W.mg_of X G xa1, k0_1⟩, (fun f hf => by simp only [List.mem_cons, List.not_mem_nil, or_false] at hf; subst hf; exact h0_part), ⟨⟨X2, PySem.W.mg_of X G xa2, k0_2⟩, (fun f hf => by simp only [List.mem_cons, List.not_mem_nil, or_false] at hf; subst hf; exact h0_part), ⟨⟨X3, PySem.W.mg_of X G xa3, k0_3⟩, (fun f hf => by simp only [List.mem_cons, List.not_mem_nil, or_false] at hf; rcases hf with rfl | rfl <;> assumption), trivial⟩⟩⟩⟩⟩
    | 1, rfl, rfl => exact ⟨⟨ea1, eb1, ec1, ce1, ed1, ee1, ef1, eg1, eh1⟩, ei1, ⟨⟨X0, PySem.W.mg_of X G xa0, k1_0⟩, (fun f hf => by simp only [List.mem_cons, List.not_mem_nil, or_false] at hf; subst hf; exact h1_part), ⟨⟨X1, PySem.W.mg_of X G xa1, k1_1⟩, (fun f hf => by simp only [List.mem_cons, List.not_mem_nil, or_false] at hf; subst hf; exact h1_part), ⟨⟨X2, PySem.W.mg_of X G xa2, k1_2⟩, (fun f hf => by simp only [List.mem_cons, List.not_mem_nil, or_false] at hf; subst hf; exact h1_part), ⟨⟨X3, PySem.W.mg_of X G xa3, k1_3⟩, (fun f hf => by simp only [List.mem_cons, List.not_mem_nil, or_false] at hf; rcases hf with rfl | rfl <;> assumption), trivial⟩⟩⟩⟩⟩
    | 2, rfl, rfl => exact ⟨⟨ea2, eb2, ec2, ce2, ed2, ee2, ef2, eg2, eh2⟩, ei2, ⟨⟨X0, PySem.W.mg_of X G xa0, k2_0⟩, (fun f hf => by simp only [List.mem_cons, List.not_mem_nil, or_false] at hf; subst hf; exact h2_part), ⟨⟨X1, PySem.W.mg_of X G xa1, k2_1⟩, (fun f hf => by simp only [List.mem_cons, List.not_mem_nil, or_false] at hf; subst hf; exact h2_part), ⟨⟨X2, PySem.W.mg_of X G xa2, k2_2⟩, (fun f hf => by simp only [List.mem_cons, List.not_mem_nil, or_false] at hf; subst hf; exact h2_part), ⟨⟨X3, PySem.W.mg_of X G xa3, k2_3⟩, (fun f hf => by simp only [List.mem_cons, List.not_mem_nil, or_false] at hf; rcases hf with rfl | rfl <;> assumption), trivial⟩⟩⟩⟩⟩
    | 3, rfl, rfl => exact ⟨⟨ea3, eb3, ec3, ce3, ed3, ee3, ef3, eg3, eh3⟩, ei3, ⟨⟨X0, PySem.W.mg_of X G xa0, k3_0⟩, (fun f hf => by simp only [List.mem_cons, List.not_mem_nil, or_false] at hf; subst hf; exact h3_part), ⟨⟨X1, PySem.W.mg_of X G xa1, k3_1⟩, (fun f hf => by simp only [List.mem_cons, List.not_mem_nil, or_false] at hf; subst hf; exact h3_part), ⟨⟨X2, PySem.W.mg_of X G xa2, k3_2⟩, (fun f hf => by simp only [List.mem_cons, List.not_mem_nil, or_false] at hf; subst hf; exact h3_part), ⟨⟨X3, PySem.W.mg_of X G xa3, k3_3⟩, (fun f hf => by simp only [List.mem_cons, List.not_mem_nil, or_false] at hf; rcases hf with rfl | rfl <;> assumption), trivial⟩⟩⟩⟩⟩
    | _ + 4, hb, _ => cases hb
  · match i, hd, hp with
    | 0, rfl, rfl => exact defOk_mk (S := sta K f0 f1 f2 f3 f4 f5 f6 f7 f8 f9 f10 f11 f12 f13 f14 f15 f16 f17 f18 f19 f20 f21 f22 f23 f24 f25 f26 f27 f28 f29 f30 f31 C0 C1 C2 C3 E0 P30 P31) (cs := [(cd30, P30), (cd31, P31)]) (d := g0) (st := (top 8)) X G (fun _ => a0) l0 c0 e0 rfl sc0 ck0 (fun _ _ _ _ _ _ us hl => match us, hl with | [_], _ => rfl) (fun _ _ _ _ _ _ p hp ws hl => by (simp only [g0, List.not_mem_nil] at hp)) (.inl (by decide +kernel))
    | 1, rfl, rfl => exact defOk_mk (S := sta K f0 f1 f2 f3 f4 f5 f6 f7 f8 f9 f10 f11 f12 f13 f14 f15 f16 f17 f18 f19 f20 f21 f22 f23 f24 f25 f26 f27 f28 f29 f30 f31 C0 C1 C2 C3 E0 P30 P31) (cs := [(cd30, P30), (cd31, P31)]) (d := g1) (st := (top 9)) X G (fun _ => a1) l1 c1 e1 rfl sc1 ck1 (fun _ _ _ _ _ _ us hl => match us, hl with | [_, _, _], _ => rfl) (fun _ _ _ _ _ _ p hp ws hl => by (simp only [g1, List.not_mem_nil] at hp)) (.inl (by decide +kernel))
    | 2, rfl, rfl => exact defOk_mk (S := sta K f0 f1 f2 f3 f4 f5 f6 f7 f8 f9 f10 f11 f12 f13 f14 f15 f16 f17 f18 f19 f20 f21 f22 f23 f24 f25 f26 f27 f28 f29 f30 f31 C0 C1 C2 C3 E0 P30 P31) (cs := [(cd30, P30), (cd31, P31)]) (d := g2) (st := (top 10)) X G (fun _ => a2) l2 c2 e2 rfl sc2 ck2 (fun _ _ _ _ _ _ us hl => match us, hl with | [_], _ => rfl) (fun _ _ _ _ _ _ p hp ws hl => by (simp only [g2, List.not_mem_nil] at hp)) (.inl (by decide +kernel))
    | 3, rfl, rfl => exact defOk_mk (S := sta K f0 f1 f2 f3 f4 f5 f6 f7 f8 f9 f10 f11 f12 f13 f14 f15 f16 f17 f18 f19 f20 f21 f22 f23 f24 f25 f26 f27 f28 f29 f30 f31 C0 C1 C2 C3 E0 P30 P31) (cs := [(cd30, P30), (cd31, P31)]) (d := g3) (st := (top 11)) X G (fun _ => a3) l3 c3 e3 rfl sc3 ck3 (fun _ _ _ _ _ _ us hl => match us, hl with | [_], _ => rfl) (fun _ _ _ _ _ _ p hp ws hl => by (simp only [g3, List.not_mem_nil] at hp)) (.inl (by decide +kernel))
    | 4, rfl, rfl => exact defOk_mk (S := sta K f0 f1 f2 f3 f4 f5 f6 f7 f8 f9 f10 f11 f12 f13 f14 f15 f16 f17 f18 f19 f20 f21 f22 f23 f24 f25 f26 f27 f28 f29 f30 f31 C0 C1 C2 C3 E0 P30 P31) (cs := [(cd30, P30), (cd31, P31)]) (d := g4) (st := ((C8.clsBody (top 13)).getD 0 (.Pass ⟨0, 0, 0, 0⟩))) X G (fun z => by cases z) l4 c4 e4 rfl sc4 ck4 (fun _ _ _ _ _ _ us hl => match us, hl with | [_, _], _ => rfl) (fun _ _ _ _ _ _ p hp ws hl => by (simp only [g4, List.not_mem_nil] at hp)) (.inl (by decide +kernel))
    | 5, rfl, rfl => exact defOk_mk (S := sta K f0 f1 f2 f3 f4 f5 f6 f7 f8 f9 f10 f11 f12 f13 f14 f15 f16 f17 f18 f19 f20 f21 f22 f23 f24 f25 f26 f27 f28 f29 f30 f31 C0 C1 C2 C3 E0 P30 P31) (cs := [(cd30, P30), (cd31, P31)]) (d := g5) (st := ((C8.clsBody (top 13)).getD 1 (.Pass ⟨0, 0, 0, 0⟩))) X G (fun z => by cases z) l5 c5 e5 rfl sc5 ck5 (fun _ _ _ _ _ _ us hl => match us, hl with | [_], _ => rfl) (fun _ _ _ _ _ _ p hp ws hl => by (simp only [g5, List.not_mem_nil] at hp)) (.inl (by decide +kernel))
    | 6, rfl, rfl => exact defOk_mk (S := sta K f0 f1 f2 f3 f4 f5 f6 f7 f8 f9 f10 f11 f12 f13 f14 f15 f16 f17 f18 f19 f20 f21 f22 f23 f24 f25 f26 f27 f28 f29 f30 f31 C0 C1 C2 C3 E0 P30 P31) (cs := [(cd30, P30), (cd31, P31)]) (d := g6) (st := ((C8.clsBody (top 13)).getD 2 (.Pass ⟨0, 0, 0, 0⟩))) X G (fun z => by cases z) l6 c6 e6 rfl sc6 ck6 (fun _ _ _ _ _ _ us hl => match us, hl with | [_], _ => rfl) (fun _ _ _ _ _ _ p hp ws hl => by (simp only [g6, List.not_mem_nil] at hp)) (.inl (by decide +kernel))
    | 7, rfl, rfl => exact defOk_mk (S := sta K f0 f1 f2 f3 f4 f5 f6 f7 f8 f9 f10 f11 f12 f13 f14 f15 f16 f17 f18 f19 f20 f21 f22 f23 f24 f25 f26 f27 f28 f29 f30 f31 C0 C1 C2 C3 E0 P30 P31) (cs := [(cd30, P30), (cd31, P31)]) (d := g7) (st := ((C8.clsBody (top 13)).getD 3 (.Pass ⟨0, 0, 0, 0⟩))) X G (fun z => by cases z) l7 c7 e7 rfl sc7 ck7 (fun _ _ _ _ _ _ us hl => match us, hl with | [_], _ => rfl) (fun _ _ _ _ _ _ p hp ws hl => by (simp only [g7, List.not_mem_nil] at hp)) (.inl (by decide +kernel))
    | 8, rfl, rfl => exact defOk_mk (S := sta K f0 f1 f2 f3 f4 f5 f6 f7 f8 f9 f10 f11 f12 f13 f14 f15 f16 f17 f18 f19 f20 f21 f22 f23 f24 f25 f26 f27 f28 f29 f30 f31 C0 C1 C2 C3 E0 P30 P31) (cs := [(cd30, P30), (cd31, P31)]) (d := g8) (st := ((C8.clsBody (top 13)).getD 5 (.Pass ⟨0, 0, 0, 0⟩))) X G (fun z => by cases z) l8 c8 e8 rfl sc8 ck8 (fun _ _ _ _ _ _ us hl => match us, hl with | [_], _ => rfl) (fun _ _ _ _ _ _ p hp ws hl => by (simp only [g8, List.not_mem_nil] at hp)) (.inl (by decide +kernel))
    | 9, rfl, rfl => exact defOk_mk (S := sta K f0 f1 f2 f3 f4 f5 f6 f7 f8 f9 f10 f11 f12 f13 f14 f15 f16 f17 f18 f19 f20 f21 f22 f23 f24 f25 f26 f27 f28 f29 f30 f31 C0 C1 C2 C3 E0 P30 P31) (cs := [(cd30, P30), (cd31, P31)]) (d := g9) (st := ((C8.clsBody (top 13)).getD 7 (.Pass ⟨0, 0, 0, 0⟩))) X G (fun z => by cases z) l9 c9 e9 rfl sc9 ck9 (fun _ _ _ _ _ _ us hl => match us, hl with | [_], _ => rfl) (fun _ _ _ _ _ _ p hp ws hl => by (simp only [g9, List.not_mem_nil] at hp)) (.inl (by decide +kernel))
    | 10, rfl, rfl => exact defOk_mk (S := sta K f0 f1 f2 f3 f4 f5 f6 f7 f8 f9 f10 f11 f12 f13 f14 f15 f16 f17 f18 f19 f20 f21 f22 f23 f24 f25 f26 f27 f28 f29 f30 f31 C0 C1 C2 C3 E0 P30 P31) (cs := [(cd30, P30), (cd31, P31)]) (d := g10) (st := (top 18)) X G (fun _ => a10) l10 c10 e10 rfl sc10 ck10 (fun _ _ _ _ _ _ us hl => match us, hl with | [_, _], _ => rfl) (fun _ _ _ _ _ _ p hp ws hl => by (simp only [g10, List.not_mem_nil] at hp)) (.inl (by decide +kernel))
    | 11, rfl, rfl => exact defOk_mk (S := sta K f0 f1 f2 f3 f4 f5 f6 f7 f8 f9 f10 f11 f12 f13 f14 f15 f16 f17 f18 f19 f20 f21 f22 f23 f24 f25 f26 f27 f28 f29 f30 f31 C0 C1 C2 C3 E0 P30 P31) (cs := [(cd30, P30), (cd31, P31)]) (d := g11) (st := (top 19)) X G (fun _ => a11) l11 c11 e11 rfl sc11 ck11 (fun _ _ _ _ _ _ us hl => match us, hl with | [_], _ => rfl) (fun _ _ _ _ _ _ p hp ws hl => by (simp only [g11, List.not_mem_nil] at hp)) (.inl (by decide +kernel))
    | 12, rfl, rfl => exact defOk_mk (S := sta K f0 f1 f2 f3 f4 f5 f6 f7 f8 f9 f10 f11 f12 f13 f14 f15 f16 f17 f18 f19 f20 f21 f22 f23 f24 f25 f26 f27 f28 f29 f30 f31 C0 C1 C2 C3 E0 P30 P31) (cs := [(cd30, P30), (cd31, P31)]) (d := g12) (st := (top 20)) X G (fun _ => a12) l12 c12 e12 rfl sc12 ck12 (fun _ _ _ _ _ _ us hl => match us, hl with | [_], _ => rfl) (fun _ _ _ _ _ _ p hp ws hl => by (simp only [g12, List.not_mem_nil] at hp)) (.inl (by decide +kernel))
    | 13, rfl, rfl => exact defOk_mk (S := sta K f0 f1 f2 f3 f4 f5 f6 f7 f8 f9 f10 f11 f12 f13 f14 f15 f16 f17 f18 f19 f20 f21 f22 f23 f24 f25 f26 f27 f28 f29 f30 f31 C0 C1 C2 C3 E0 P30 P31) (cs := [(cd30, P30), (cd31, P31)]) (d := g13) (st := (top 21)) X G (fun _ => a13) l13 c13 e13 rfl sc13 ck13 (fun _ _ _ _ _ _ us hl => match us, hl with | [_], _ => rfl) (fun _ _ _ _ _ _ p hp ws hl => by (simp only [g13, List.not_mem_nil] at hp)) (.inl (by decide +kernel))
    | 14, rfl, rfl => exact defOk_mk (S := sta K f0 f1 f2 f3 f4 f5 f6 f7 f8 f9 f10 f11 f12 f13 f14 f15 f16 f17 f18 f19 f20 f21 f22 f23 f24 f25 f26 f27 f28 f29 f30 f31 C0 C1 C2 C3 E0 P30 P31) (cs := [(cd30, P30), (cd31, P31)]) (d := g14) (st := (top 22)) X G (fun _ => a14) l14 c14 e14 rfl sc14 ck14 (fun _ _ _ _ _ _ us hl => match us, hl with | [_, _], _ => rfl) (fun _ _ _ _ _ _ p hp ws hl => by (simp only [g14, List.not_mem_nil] at hp)) (.inl (by decide +kernel))
    | 15, rfl, rfl => exact defOk_mk (S := sta K f0 f1 f2 f3 f4 f5 f6 f7 f8 f9 f10 f11 f12 f13 f14 f15 f16 f17 f18 f19 f20 f21 f22 f23 f24 f25 f26 f27 f28 f29 f30 f31 C0 C1 C2 C3 E0 P30 P31) (cs := [(cd30, P30), (cd31, P31)]) (d := g15) (st := (top 23)) X G (fun _ => a15) l15 c15 e15 rfl sc15 ck15 (fun _ _ _ _ _ _ us hl => match us, hl with | [_], _ => rfl) (fun _ _ _ _ _ _ p hp ws hl => by (simp only [g15, List.mem_cons, List.not_mem_nil, or_false] at hp; rcases hp with rfl <;> (match ws, hl with | [_], _ => exact ⟨rfl, rfl⟩))) (.inl (by decide +kernel))
    | 16, rfl, rfl => exact defOk_mk (S := sta K f0 f1 f2 f3 f4 f5 f6 f7 f8 f9 f10 f11 f12 f13 f14 f15 f16 f17 f18 f19 f20 f21 f22 f23 f24 f25 f26 f27 f28 f29 f30 f31 C0 C1 C2 C3 E0 P30 P31) (cs := [(cd30, P30), (cd31, P31)]) (d := g16) (st := (top 24)) X G (fun _ => a16) l16 c16 e16 rfl sc16 ck16 (fun _ _ _ _ _ _ us hl => match us, hl with | [_], _ => rfl) (fun _ _ _ _ _ _ p hp ws hl => by (simp only [g16, List.mem_cons, List.not_mem_nil, or_false] at hp; rcases hp with rfl <;> (match ws, hl with | [_], _ => exact ⟨rfl, rfl⟩))) (.inl (by decide +kernel))
    | 17, rfl, rfl => exact defOk_mk (S := sta K f0 f1 f2 f3 f4 f5 f6 f7 f8 f9 f10 f11 f12 f13 f14 f15 f16 f17 f18 f19 f20 f21 f22 f23 f24 f25 f26 f27 f28 f29 f30 f31 C0 C1 C2 C3 E0 P30 P31) (cs := [(cd30, P30), (cd31, P31)]) (d := g17) (st := (top 25)) X G (fun _ => a17) l17 c17 e17 rfl sc17 ck17 (fun _ _ _ _ _ _ us hl => match us, hl with | [_], _ => rfl) (fun _ _ _ _ _ _ p hp ws hl => by (simp only [g17, List.mem_cons, List.not_mem_nil, or_false] at hp; rcases hp with rfl <;> (match ws, hl with | [_], _ => exact ⟨rfl, rfl⟩))) (.inl (by decide +kernel))
    | 18, rfl, rfl => exact defOk_mk (S := sta K f0 f1 f2 f3 f4 f5 f6 f7 f8 f9 f10 f11 f12 f13 f14 f15 f16 f17 f18 f19 f20 f21 f22 f23 f24 f25 f26 f27 f28 f29 f30 f31 C0 C1 C2 C3 E0 P30 P31) (cs := [(cd30, P30), (cd31, P31)]) (d := g18) (st := (top 26)) X G (fun _ => a18) l18 c18 e18 rfl sc18 ck18 (fun _ _ _ _ _ _ us hl => match us, hl with | [_, _], _ => rfl) (fun _ _ _ _ _ _ p hp ws hl => by (simp only [g18, List.mem_cons, List.not_mem_nil, or_false] at hp; rcases hp with rfl <;> (match ws, hl with | [_, _], _ => exact ⟨rfl, rfl⟩))) (.inl (by decide +kernel))
    | 19, rfl, rfl => exact defOk_mk (S := sta K f0 f1 f2 f3 f4 f5 f6 f7 f8 f9 f10 f11 f12 f13 f14 f15 f16 f17 f18 f19 f20 f21 f22 f23 f24 f25 f26 f27 f28 f29 f30 f31 C0 C1 C2 C3 E0 P30 P31) (cs := [(cd30, P30), (cd31, P31)]) (d := g19) (st := (top 27)) X G (fun _ => a19) l19 c19 e19 rfl sc19 ck19 (fun _ _ _ _ _ _ us hl => match us, hl with | [_, _], _ => rfl) (fun _ _ _ _ _ _ p hp ws hl => by (simp only [g19, List.mem_cons, List.not_mem_nil, or_false] at hp; rcases hp with rfl <;> (match ws, hl with | [_, _], _ => exact ⟨rfl, rfl⟩))) (.inl (by decide +kernel))
    | 20, rfl, rfl => exact defOk_mk (S := sta K f0 f1 f2 f3 f4 f5 f6 f7 f8 f9 f10 f11 f12 f13 f14 f15 f16 f17 f18 f19 f20 f21 f22 f23 f24 f25 f26 f27 f28 f29 f30 f31 C0 C1 C2 C3 E0 P30 P31) (cs := [(cd30, P30), (cd31, P31)]) (d := g20) (st := (top 28)) X G (fun _ => a20) l20 c20 e20 rfl sc20 ck20 (fun _ _ _ _ _ _ us hl => match us, hl with | [_], _ => rfl) (fun _ _ _ _ _ _ p hp ws hl => by (simp only [g20, List.mem_cons, List.not_mem_nil, or_false] at hp; rcases hp with rfl <;> (match ws, hl with | [_], _ => exact ⟨rfl, rfl⟩))) (.inl (by decide +kernel))
    | 21, rfl, rfl => exact defOk_mk (S := sta K f0 f1 f2 f3 f4 f5 f6 f7 f8 f9 f10 f11 f12 f13 f14 f15 f16 f17 f18 f19 f20 f21 f22 f23 f24 f25 f26 f27 f28 f29 f30 f31 C0 C1 C2 C3 E0 P30 P31) (cs := [(cd30, P30), (cd31, P31)]) (d := g21) (st := (top 29)) X G (fun _ => a21) l21 c21 e21 rfl sc21 ck21 (fun _ _ _ _ _ _ us hl => match us, hl with | [_], _ => rfl) (fun _ _ _ _ _ _ p hp ws hl => by (simp only [g21, List.mem_cons, List.not_mem_nil, or_false] at hp; rcases hp with rfl <;> (match ws, hl with | [_], _ => exact ⟨rfl, rfl⟩))) (.inl (by decide +kernel))
    | 22, rfl, rfl => exact defOk_mk (S := sta K f0 f1 f2 f3 f4 f5 f6 f7 f8 f9 f10 f11 f12 f13 f14 f15 f16 f17 f18 f19 f20 f21 f22 f23 f24 f25 f26 f27 f28 f29 f30 f31 C0 C1 C2 C3 E0 P30 P31) (cs := [(cd30, P30), (cd31, P31)]) (d := g22) (st := (top 30)) X G (fun _ => a22) l22 c22 e22 rfl sc22 ck22 (fun _ _ _ _ _ _ us hl => match us, hl with | [_], _ => rfl) (fun _ _ _ _ _ _ p hp ws hl => by (simp only [g22, List.not_mem_nil] at hp)) (.inl (by decide +kernel))
    | 23, rfl, rfl => exact defOk_mk (S := sta K f0 f1 f2 f3 f4 f5 f6 f7 f8 f9 f10 f11 f12 f13 f14 f15 f16 f17 f18 f19 f20 f21 f22 f23 f24 f25 f26 f27 f28 f29 f30 f31 C0 C1 C2 C3 E0 P30 P31) (cs := [(cd30, P30), (cd31, P31)]) (d := g23) (st := (top 32)) X G (fun _ => a23) l23 c23 e23 rfl sc23 ck23 (fun _ _ _ _ _ _ us hl => match us, hl with | [_], _ => rfl) (fun _ _ _ _ _ _ p hp ws hl => by (simp only [g23, List.not_mem_nil] at hp)) (.inl (by decide +kernel))
    | 24, rfl, rfl => exact defOk_mk (S := sta K f0 f1 f2 f3 f4 f5 f6 f7 f8 f9 f10 f11 f12 f13 f14 f15 f16 f17 f18 f19 f20 f21 f22 f23 f24 f25 f26 f27 f28 f29 f30 f31 C0 C1 C2 C3 E0 P30 P31) (cs := [(cd30, P30), (cd31, P31)]) (d := g24) (st := (top 33)) X G (fun _ => a24) l24 c24 e24 rfl sc24 ck24 (fun _ _ _ _ _ _ us hl => match us, hl with | [_, _], _ => rfl) (fun _ _ _ _ _ _ p hp ws hl => by (simp only [g24, List.not_mem_nil] at hp)) (.inl (by decide +kernel))
    | 25, rfl, rfl => exact defOk_mk (S := sta K f0 f1 f2 f3 f4 f5 f6 f7 f8 f9 f10 f11 f12 f13 f14 f15 f16 f17 f18 f19 f20 f21 f22 f23 f24 f25 f26 f27 f28 f29 f30 f31 C0 C1 C2 C3 E0 P30 P31) (cs := [(cd30, P30), (cd31, P31)]) (d := g25) (st := (top 34)) X G (fun _ => a25) l25 c25 e25 rfl sc25 ck25 (fun _ _ _ _ _ _ us hl => match us, hl with | [_, _], _ => rfl) (fun _ _ _ _ _ _ p hp ws hl => by (simp only [g25, List.not_mem_nil] at hp)) (.inl (by decide +kernel))
    | 26, rfl, rfl => exact defOk_mk (S := sta K f0 f1 f2 f3 f4 f5 f6 f7 f8 f9 f10 f11 f12 f13 f14 f15 f16 f17 f18 f19 f20 f21 f22 f23 f24 f25 f26 f27 f28 f29 f30 f31 C0 C1 C2 C3 E0 P30 P31) (cs := [(cd30, P30), (cd31, P31)]) (d := g26) (st := (top 35)) X G (fun _ => a26) l26 c26 e26 rfl sc26 ck26 (fun _ _ _ _ _ _ us hl => match us, hl with | [_], _ => rfl) (fun _ _ _ _ _ _ p hp ws hl => by (simp only [g26, List.not_mem_nil] at hp)) (.inl (by decide +kernel))
    | 27, rfl, rfl => exact defOk_mk (S := sta K f0 f1 f2 f3 f4 f5 f6 f7 f8 f9 f10 f11 f12 f13 f14 f15 f16 f17 f18 f19 f20 f21 f22 f23 f24 f25 f26 f27 f28 f29 f30 f31 C0 C1 C2 C3 E0 P30 P31) (cs := [(cd30, P30), (cd31, P31)]) (d := g27) (st := (top 36)) X G (fun _ => a27) l27 c27 e27 rfl sc27 ck27 (fun _ _ _ _ _ _ us hl => match us, hl with | [_, _], _ => rfl) (fun _ _ _ _ _ _ p hp ws hl => by (simp only [g27, List.not_mem_nil] at hp)) (.inl (by decide +kernel))
    | 28, rfl, rfl => exact defOk_mk (S := sta K f0 f1 f2 f3 f4 f5 f6 f7 f8 f9 f10 f11 f12 f13 f14 f15 f16 f17 f18 f19 f20 f21 f22 f23 f24 f25 f26 f27 f28 f29 f30 f31 C0 C1 C2 C3 E0 P30 P31) (cs := [(cd30, P30), (cd31, P31)]) (d := g28) (st := (top 37)) X G (fun _ => a28) l28 c28 e28 rfl sc28 ck28 (fun _ _ _ _ _ _ us hl => match us, hl with | [_, _], _ => rfl) (fun _ _ _ _ _ _ p hp ws hl => by (simp only [g28, List.not_mem_nil] at hp)) (.inl (by decide +kernel))
    | 29, rfl, rfl => exact defOk_mk (S := sta K f0 f1 f2 f3 f4 f5 f6 f7 f8 f9 f10 f11 f12 f13 f14 f15 f16 f17 f18 f19 f20 f21 f22 f23 f24 f25 f26 f27 f28 f29 f30 f31 C0 C1 C2 C3 E0 P30 P31) (cs := [(cd30, P30), (cd31, P31)]) (d := g29) (st := (top 38)) X G (fun _ => a29) l29 c29 e29 rfl sc29 ck29 (fun _ _ _ _ _ _ us hl => match us, hl with | [_], _ => rfl) (fun _ _ _ _ _ _ p hp ws hl => by (simp only [g29, List.not_mem_nil] at hp)) (.inl (by decide +kernel))
    | 30, rfl, rfl => exact defOk_mk (S := sta K f0 f1 f2 f3 f4 f5 f6 f7 f8 f9 f10 f11 f12 f13 f14 f15 f16 f17 f18 f19 f20 f21 f22 f23 f24 f25 f26 f27 f28 f29 f30 f31 C0 C1 C2 C3 E0 P30 P31) (cs := [(cd30, P30), (cd31, P31)]) (d := g30) (st := (top 41)) X G (fun _ => a30) l30 c30 e30 rfl sc30 ck30 (fun _ _ _ _ _ _ us hl => match us, hl with | [_, _], _ => rfl) (fun _ _ _ _ _ _ p hp ws hl => by (simp only [g30, List.not_mem_nil] at hp)) (.inr ⟨cd30, P30, rfl, by simp, by simp [sta, g30], fun y hy e => dis y hy (P30, lamQ "_law_table_right") (by simp [sta]) e⟩)
    | 31, rfl, rfl => exact defOk_mk (S := sta K f0 f1 f2 f3 f4 f5 f6 f7 f8 f9 f10 f11 f12 f13 f14 f15 f16 f17 f18 f19 f20 f21 f22 f23 f24 f25 f26 f27 f28 f29 f30 f31 C0 C1 C2 C3 E0 P30 P31) (cs := [(cd30, P30), (cd31, P31)]) (d := g31) (st := (top 42)) X G (fun _ => a31) l31 c31 e31 rfl sc31 ck31 (fun _ _ _ _ _ _ us hl => match us, hl with | [_], _ => rfl) (fun _ _ _ _ _ _ p hp ws hl => by (simp only [g31, List.not_mem_nil] at hp)) (.inr ⟨cd31, P31, rfl, by simp, by simp [sta, g31], fun y hy e => dis y hy (P31, lamQ "law") (by simp [sta]) e⟩)
    | _ + 32, hd, _ => cases hd
  · match j, hp with
    | 0, rfl => exact con_int (S := sta K f0 f1 f2 f3 f4 f5 f6 f7 f8 f9 f10 f11 f12 f13 f14 f15 f16 f17 f18 f19 f20 f21 f22 f23 f24 f25 f26 f27 f28 f29 f30 f31 C0 C1 C2 C3 E0 P30 P31) X G x0
    | 1, rfl => exact con_ints (S := sta K f0 f1 f2 f3 f4 f5 f6 f7 f8 f9 f10 f11 f12 f13 f14 f15 f16 f17 f18 f19 f20 f21 f22 f23 f24 f25 f26 f27 f28 f29 f30 f31 C0 C1 C2 C3 E0 P30 P31) X G x1 y1 w1 (by decide)
    | 2, rfl => exact con_strs (S := sta K f0 f1 f2 f3 f4 f5 f6 f7 f8 f9 f10 f11 f12 f13 f14 f15 f16 f17 f18 f19 f20 f21 f22 f23 f24 f25 f26 f27 f28 f29 f30 f31 C0 C1 C2 C3 E0 P30 P31) X G x2 y2 w2 (by decide)
    | _ + 3, hp => cases hp
  · have no := fun {y : Str} (z : PySem.W.nsIn K mainGlobals y = some none) => PySem.W.mg_none_of X G z
    simp only [bltNames, List.mem_cons, List.not_mem_nil, or_false] at hx
    rcases hx with rfl | rfl | rfl | rfl | rfl | rfl | rfl | rfl | rfl | rfl | rfl | rfl | rfl | rfl | rfl | rfl | rfl | rfl | rfl | rfl | rfl
    · exact no z0
    · exact no z1
    · exact no z2
    · exact no z3
    · exact no z4
    · exact no z5
    · exact no z6
    · exact no z7
    · exact no z8
    · exact no z9
    · exact no z10
    · exact no z11
    · exact no z12
    · exact no z13
    · exact no z14
    · exact no z15
    · exact no z16
    · exact no z17
    · exact no z18
    · exact no z19
    · exact no z20
  · match c, hp with
    | 0, rfl => exact clsAt2 (S := sta K f0 f1 f2 f3 f4 f5 f6 f7 f8 f9 f10 f11 f12 f13 f14 f15 f16 f17 f18 f19 f20 f21 f22 f23 f24 f25 f26 f27 f28 f29 f30 f31 C0 C1 C2 C3 E0 P30 P31) (st := ((C8.clsBody (top 6)).getD 0 (.Pass ⟨0, 0, 0, 0⟩))) X G rfl rfl rfl ca0 (oexC_mk cb0 wc0 cd0x ce0 cf0 cg0) ch0 ci0 cj0 cj0y ck0x cl0 (by decide +kernel) (by decide +kernel) (by decide +kernel) fun us hl => match us, hl with | [_, _, _], _ => rfl
    | 1, rfl => exact clsAt1 (S := sta K f0 f1 f2 f3 f4 f5 f6 f7 f8 f9 f10 f11 f12 f13 f14 f15 f16 f17 f18 f19 f20 f21 f22 f23 f24 f25 f26 f27 f28 f29 f30 f31 C0 C1 C2 C3 E0 P30 P31) (st := ((C8.clsBody (top 3)).getD 0 (.Pass ⟨0, 0, 0, 0⟩))) X G rfl rfl rfl ca1 (oexC_mk cb1 wc1 cd1x ce1 cf1 cg1) ch1 ci1 cj1 ck1x cl1 (by decide +kernel) (by decide +kernel) (by decide +kernel) fun us hl => match us, hl with | [_, _], _ => rfl
    | 2, rfl => exact clsAt1 (S := sta K f0 f1 f2 f3 f4 f5 f6 f7 f8 f9 f10 f11 f12 f13 f14 f15 f16 f17 f18 f19 f20 f21 f22 f23 f24 f25 f26 f27 f28 f29 f30 f31 C0 C1 C2 C3 E0 P30 P31) (st := ((C8.clsBody (top 4)).getD 0 (.Pass ⟨0, 0, 0, 0⟩))) X G rfl rfl rfl ca2 (oexC_mk cb2 wc2 cd2x ce2 cf2 cg2) ch2 ci2 cj2 ck2x cl2 (by decide +kernel) (by decide +kernel) (by decide +kernel) fun us hl => match us, hl with | [_, _], _ => rfl
    | 3, rfl => exact clsAt1 (S := sta K f0 f1 f2 f3 f4 f5 f6 f7 f8 f9 f10 f11 f12 f13 f14 f15 f16 f17 f18 f19 f20 f21 f22 f23 f24 f25 f26 f27 f28 f29 f30 f31 C0 C1 C2 C3 E0 P30 P31) (st := ((C8.clsBody (top 5)).getD 0 (.Pass ⟨0, 0, 0, 0⟩))) X G rfl rfl rfl ca3 (oexC_mk cb3 wc3 cd3x ce3 cf3 cg3) ch3 ci3 cj3 ck3x cl3 (by decide +kernel) (by decide +kernel) (by decide +kernel) fun us hl => match us, hl with | [_, _], _ => rfl
    | _ + 4, hp => cases hp
  · match c, hp with
    | 0, rfl => exact icls_mk (S := sta K f0 f1 f2 f3 f4 f5 f6 f7 f8 f9 f10 f11 f12 f13 f14 f15 f16 f17 f18 f19 f20 f21 f22 f23 f24 f25 f26 f27 f28 f29 f30 f31 C0 C1 C2 C3 E0 P30 P31) X G rfl ia0 ib0 ic0 id0 ie0 if0 ig0 ih0 ij0 ik0 rfl il0 im0 in0 (meths_cons rfl im0_finish in0_finish e9 (meths_cons rfl im0_is_over in0_is_over e5 (meths_cons rfl im0_refuse in0_refuse e7 (meths_cons rfl im0_seen in0_seen e6 (meths_cons rfl im0_take in0_take e8 meths_nil))))) (flds_cons io0_items_left (flds_cons io0_spot flds_nil)) (fun c2 C2 h1 h2 => match c2, h1, h2 with | 0, _, rfl => ip0_0 | _ + 1, h1, _ => absurd h1 (by show ¬ (_ + 1 < 1); omega)) iq0_0 iq0_1 iq0_2 iq0_3 iq0_4 iq0_5 iq0_6
    | _ + 1, hp => cases hp
theorem fin {l : PySem.W.OpenLaw} {q : Program} {w : World} {K : PySem.W.Frag} {h : Heap} {mg : Str → Option Value} {f0 f1 f2 f3 f4 f5 f6 f7 f8 f9 f10 f11 f12 f13 f14 f15 f16 f17 f18 f19 f20 f21 f22 f23 f24 f25 f26 f27 f28 f29 f30 f31 C0 C1 C2 C3 E0 P30 P31 fa : Addr} (X : K.In h) (G : h.Ns mainGlobals mg) (hm : mg "law" = some (.ref fa)) (own : OwnTabs q K mg h)
    {oc0 : Value} {od0 : Option Addr} {kV0 dc0 pm0 : Value} {an0 : Option Addr} {cd0 : Value} {ct0 : Value} {sl0 : Array (Option Value)}
    (a0 : PySem.W.nsIn K mainGlobals "is_integer" = some (some (.ref f0)))
    (l0 : K.lookup f0 = some ⟨oc0, od0, .func (PySem.W.fnOf "is_integer" "is_integer" (C8.fnArgs (top 8)) (C8.fnBody (top 8)) (C8.fnScope (top 8)) .none kV0 dc0 pm0 an0 cd0 ct0), sl0⟩) (c0 : PySem.W.codeIn K cd0 "is_integer" = true) (e0 : PySem.W.keepIn K (.ref f0) = true)
    {oc1 : Value} {od1 : Option Addr} {kV1 dc1 pm1 : Value} {an1 : Option Addr} {cd1 : Value} {ct1 : Value} {sl1 : Array (Option Value)}
    (a1 : PySem.W.nsIn K mainGlobals "is_within" = some (some (.ref f1)))
    (l1 : K.lookup f1 = some ⟨oc1, od1, .func (PySem.W.fnOf "is_within" "is_within" (C8.fnArgs (top 9)) (C8.fnBody (top 9)) (C8.fnScope (top 9)) .none kV1 dc1 pm1 an1 cd1 ct1), sl1⟩) (c1 : PySem.W.codeIn K cd1 "is_within" = true) (e1 : PySem.W.keepIn K (.ref f1) = true)
    {oc2 : Value} {od2 : Option Addr} {kV2 dc2 pm2 : Value} {an2 : Option Addr} {cd2 : Value} {ct2 : Value} {sl2 : Array (Option Value)}
    (a2 : PySem.W.nsIn K mainGlobals "is_sign" = some (some (.ref f2)))
    (l2 : K.lookup f2 = some ⟨oc2, od2, .func (PySem.W.fnOf "is_sign" "is_sign" (C8.fnArgs (top 10)) (C8.fnBody (top 10)) (C8.fnScope (top 10)) .none kV2 dc2 pm2 an2 cd2 ct2), sl2⟩) (c2 : PySem.W.codeIn K cd2 "is_sign" = true) (e2 : PySem.W.keepIn K (.ref f2) = true)
    {oc3 : Value} {od3 : Option Addr} {kV3 dc3 pm3 : Value} {an3 : Option Addr} {cd3 : Value} {ct3 : Value} {sl3 : Array (Option Value)}
    (a3 : PySem.W.nsIn K mainGlobals "are_signs" = some (some (.ref f3)))
    (l3 : K.lookup f3 = some ⟨oc3, od3, .func (PySem.W.fnOf "are_signs" "are_signs" (C8.fnArgs (top 11)) (C8.fnBody (top 11)) (C8.fnScope (top 11)) .none kV3 dc3 pm3 an3 cd3 ct3), sl3⟩) (c3 : PySem.W.codeIn K cd3 "are_signs" = true) (e3 : PySem.W.keepIn K (.ref f3) = true)
    {oc4 : Value} {od4 : Option Addr} {kV4 dc4 pm4 : Value} {an4 : Option Addr} {cd4 : Value} {ct4 : Value} {sl4 : Array (Option Value)}
    (l4 : K.lookup f4 = some ⟨oc4, od4, .func (PySem.W.fnOf "__init__" "Scan.__init__" (C8.fnArgs ((C8.clsBody (top 13)).getD 0 (.Pass ⟨0, 0, 0, 0⟩))) (C8.fnBody ((C8.clsBody (top 13)).getD 0 (.Pass ⟨0, 0, 0, 0⟩))) (C8.fnScope ((C8.clsBody (top 13)).getD 0 (.Pass ⟨0, 0, 0, 0⟩))) .none kV4 dc4 pm4 an4 cd4 ct4), sl4⟩) (c4 : PySem.W.codeIn K cd4 "Scan.__init__" = true) (e4 : PySem.W.keepIn K (.ref f4) = true)
    {oc5 : Value} {od5 : Option Addr} {kV5 dc5 pm5 : Value} {an5 : Option Addr} {cd5 : Value} {ct5 : Value} {sl5 : Array (Option Value)}
    (l5 : K.lookup f5 = some ⟨oc5, od5, .func (PySem.W.fnOf "is_over" "Scan.is_over" (C8.fnArgs ((C8.clsBody (top 13)).getD 1 (.Pass ⟨0, 0, 0, 0⟩))) (C8.fnBody ((C8.clsBody (top 13)).getD 1 (.Pass ⟨0, 0, 0, 0⟩))) (C8.fnScope ((C8.clsBody (top 13)).getD 1 (.Pass ⟨0, 0, 0, 0⟩))) .none kV5 dc5 pm5 an5 cd5 ct5), sl5⟩) (c5 : PySem.W.codeIn K cd5 "Scan.is_over" = true) (e5 : PySem.W.keepIn K (.ref f5) = true)
    {oc6 : Value} {od6 : Option Addr} {kV6 dc6 pm6 : Value} {an6 : Option Addr} {cd6 : Value} {ct6 : Value} {sl6 : Array (Option Value)}
    (l6 : K.lookup f6 = some ⟨oc6, od6, .func (PySem.W.fnOf "seen" "Scan.seen" (C8.fnArgs ((C8.clsBody (top 13)).getD 2 (.Pass ⟨0, 0, 0, 0⟩))) (C8.fnBody ((C8.clsBody (top 13)).getD 2 (.Pass ⟨0, 0, 0, 0⟩))) (C8.fnScope ((C8.clsBody (top 13)).getD 2 (.Pass ⟨0, 0, 0, 0⟩))) .none kV6 dc6 pm6 an6 cd6 ct6), sl6⟩) (c6 : PySem.W.codeIn K cd6 "Scan.seen" = true) (e6 : PySem.W.keepIn K (.ref f6) = true)
    {oc7 : Value} {od7 : Option Addr} {kV7 dc7 pm7 : Value} {an7 : Option Addr} {cd7 : Value} {ct7 : Value} {sl7 : Array (Option Value)}
    (l7 : K.lookup f7 = some ⟨oc7, od7, .func (PySem.W.fnOf "refuse" "Scan.refuse" (C8.fnArgs ((C8.clsBody (top 13)).getD 3 (.Pass ⟨0, 0, 0, 0⟩))) (C8.fnBody ((C8.clsBody (top 13)).getD 3 (.Pass ⟨0, 0, 0, 0⟩))) (C8.fnScope ((C8.clsBody (top 13)).getD 3 (.Pass ⟨0, 0, 0, 0⟩))) .none kV7 dc7 pm7 an7 cd7 ct7), sl7⟩) (c7 : PySem.W.codeIn K cd7 "Scan.refuse" = true) (e7 : PySem.W.keepIn K (.ref f7) = true)
    {oc8 : Value} {od8 : Option Addr} {kV8 dc8 pm8 : Value} {an8 : Option Addr} {cd8 : Value} {ct8 : Value} {sl8 : Array (Option Value)}
    (l8 : K.lookup f8 = some ⟨oc8, od8, .func (PySem.W.fnOf "take" "Scan.take" (C8.fnArgs ((C8.clsBody (top 13)).getD 5 (.Pass ⟨0, 0, 0, 0⟩))) (C8.fnBody ((C8.clsBody (top 13)).getD 5 (.Pass ⟨0, 0, 0, 0⟩))) (C8.fnScope ((C8.clsBody (top 13)).getD 5 (.Pass ⟨0, 0, 0, 0⟩))) .none kV8 dc8 pm8 an8 cd8 ct8), sl8⟩) (c8 : PySem.W.codeIn K cd8 "Scan.take" = true) (e8 : PySem.W.keepIn K (.ref f8) = true)
    {oc9 : Value} {od9 : Option Addr} {kV9 dc9 pm9 : Value} {an9 : Option Addr} {cd9 : Value} {ct9 : Value} {sl9 : Array (Option Value)}
    (l9 : K.lookup f9 = some ⟨oc9, od9, .func (PySem.W.fnOf "finish" "Scan.finish" (C8.fnArgs ((C8.clsBody (top 13)).getD 7 (.Pass ⟨0, 0, 0, 0⟩))) (C8.fnBody ((C8.clsBody (top 13)).getD 7 (.Pass ⟨0, 0, 0, 0⟩))) (C8.fnScope ((C8.clsBody (top 13)).getD 7 (.Pass ⟨0, 0, 0, 0⟩))) .none kV9 dc9 pm9 an9 cd9 ct9), sl9⟩) (c9 : PySem.W.codeIn K cd9 "Scan.finish" = true) (e9 : PySem.W.keepIn K (.ref f9) = true)
    {oc10 : Value} {od10 : Option Addr} {kV10 dc10 pm10 : Value} {an10 : Option Addr} {cd10 : Value} {ct10 : Value} {sl10 : Array (Option Value)}
    (a10 : PySem.W.nsIn K mainGlobals "need_table" = some (some (.ref f10)))
    (l10 : K.lookup f10 = some ⟨oc10, od10, .func (PySem.W.fnOf "need_table" "need_table" (C8.fnArgs (top 18)) (C8.fnBody (top 18)) (C8.fnScope (top 18)) .none kV10 dc10 pm10 an10 cd10 ct10), sl10⟩) (c10 : PySem.W.codeIn K cd10 "need_table" = true) (e10 : PySem.W.keepIn K (.ref f10) = true)
    {oc11 : Value} {od11 : Option Addr} {kV11 dc11 pm11 : Value} {an11 : Option Addr} {cd11 : Value} {ct11 : Value} {sl11 : Array (Option Value)}
    (a11 : PySem.W.nsIn K mainGlobals "need_setting" = some (some (.ref f11)))
    (l11 : K.lookup f11 = some ⟨oc11, od11, .func (PySem.W.fnOf "need_setting" "need_setting" (C8.fnArgs (top 19)) (C8.fnBody (top 19)) (C8.fnScope (top 19)) .none kV11 dc11 pm11 an11 cd11 ct11), sl11⟩) (c11 : PySem.W.codeIn K cd11 "need_setting" = true) (e11 : PySem.W.keepIn K (.ref f11) = true)
    {oc12 : Value} {od12 : Option Addr} {kV12 dc12 pm12 : Value} {an12 : Option Addr} {cd12 : Value} {ct12 : Value} {sl12 : Array (Option Value)}
    (a12 : PySem.W.nsIn K mainGlobals "places_in" = some (some (.ref f12)))
    (l12 : K.lookup f12 = some ⟨oc12, od12, .func (PySem.W.fnOf "places_in" "places_in" (C8.fnArgs (top 20)) (C8.fnBody (top 20)) (C8.fnScope (top 20)) .none kV12 dc12 pm12 an12 cd12 ct12), sl12⟩) (c12 : PySem.W.codeIn K cd12 "places_in" = true) (e12 : PySem.W.keepIn K (.ref f12) = true)
    {oc13 : Value} {od13 : Option Addr} {kV13 dc13 pm13 : Value} {an13 : Option Addr} {cd13 : Value} {ct13 : Value} {sl13 : Array (Option Value)}
    (a13 : PySem.W.nsIn K mainGlobals "number_in" = some (some (.ref f13)))
    (l13 : K.lookup f13 = some ⟨oc13, od13, .func (PySem.W.fnOf "number_in" "number_in" (C8.fnArgs (top 21)) (C8.fnBody (top 21)) (C8.fnScope (top 21)) .none kV13 dc13 pm13 an13 cd13 ct13), sl13⟩) (c13 : PySem.W.codeIn K cd13 "number_in" = true) (e13 : PySem.W.keepIn K (.ref f13) = true)
    {oc14 : Value} {od14 : Option Addr} {kV14 dc14 pm14 : Value} {an14 : Option Addr} {cd14 : Value} {ct14 : Value} {sl14 : Array (Option Value)}
    (a14 : PySem.W.nsIn K mainGlobals "setting_in" = some (some (.ref f14)))
    (l14 : K.lookup f14 = some ⟨oc14, od14, .func (PySem.W.fnOf "setting_in" "setting_in" (C8.fnArgs (top 22)) (C8.fnBody (top 22)) (C8.fnScope (top 22)) .none kV14 dc14 pm14 an14 cd14 ct14), sl14⟩) (c14 : PySem.W.codeIn K cd14 "setting_in" = true) (e14 : PySem.W.keepIn K (.ref f14) = true)
    {oc15 : Value} {od15 : Option Addr} {kV15 dc15 pm15 : Value} {an15 : Option Addr} {cd15 : Value} {ct15 : Value} {sl15 : Array (Option Value)}
    (a15 : PySem.W.nsIn K mainGlobals "is_table" = some (some (.ref f15)))
    (l15 : K.lookup f15 = some ⟨oc15, od15, .func (PySem.W.fnOf "is_table" "is_table" (C8.fnArgs (top 23)) (C8.fnBody (top 23)) (C8.fnScope (top 23)) .none kV15 dc15 pm15 an15 cd15 ct15), sl15⟩) (c15 : PySem.W.codeIn K cd15 "is_table" = true) (e15 : PySem.W.keepIn K (.ref f15) = true)
    {oc16 : Value} {od16 : Option Addr} {kV16 dc16 pm16 : Value} {an16 : Option Addr} {cd16 : Value} {ct16 : Value} {sl16 : Array (Option Value)}
    (a16 : PySem.W.nsIn K mainGlobals "places_of" = some (some (.ref f16)))
    (l16 : K.lookup f16 = some ⟨oc16, od16, .func (PySem.W.fnOf "places_of" "places_of" (C8.fnArgs (top 24)) (C8.fnBody (top 24)) (C8.fnScope (top 24)) .none kV16 dc16 pm16 an16 cd16 ct16), sl16⟩) (c16 : PySem.W.codeIn K cd16 "places_of" = true) (e16 : PySem.W.keepIn K (.ref f16) = true)
    {oc17 : Value} {od17 : Option Addr} {kV17 dc17 pm17 : Value} {an17 : Option Addr} {cd17 : Value} {ct17 : Value} {sl17 : Array (Option Value)}
    (a17 : PySem.W.nsIn K mainGlobals "row_of" = some (some (.ref f17)))
    (l17 : K.lookup f17 = some ⟨oc17, od17, .func (PySem.W.fnOf "row_of" "row_of" (C8.fnArgs (top 25)) (C8.fnBody (top 25)) (C8.fnScope (top 25)) .none kV17 dc17 pm17 an17 cd17 ct17), sl17⟩) (c17 : PySem.W.codeIn K cd17 "row_of" = true) (e17 : PySem.W.keepIn K (.ref f17) = true)
    {oc18 : Value} {od18 : Option Addr} {kV18 dc18 pm18 : Value} {an18 : Option Addr} {cd18 : Value} {ct18 : Value} {sl18 : Array (Option Value)}
    (a18 : PySem.W.nsIn K mainGlobals "setting_of" = some (some (.ref f18)))
    (l18 : K.lookup f18 = some ⟨oc18, od18, .func (PySem.W.fnOf "setting_of" "setting_of" (C8.fnArgs (top 26)) (C8.fnBody (top 26)) (C8.fnScope (top 26)) .none kV18 dc18 pm18 an18 cd18 ct18), sl18⟩) (c18 : PySem.W.codeIn K cd18 "setting_of" = true) (e18 : PySem.W.keepIn K (.ref f18) = true)
    {oc19 : Value} {od19 : Option Addr} {kV19 dc19 pm19 : Value} {an19 : Option Addr} {cd19 : Value} {ct19 : Value} {sl19 : Array (Option Value)}
    (a19 : PySem.W.nsIn K mainGlobals "sign_at" = some (some (.ref f19)))
    (l19 : K.lookup f19 = some ⟨oc19, od19, .func (PySem.W.fnOf "sign_at" "sign_at" (C8.fnArgs (top 27)) (C8.fnBody (top 27)) (C8.fnScope (top 27)) .none kV19 dc19 pm19 an19 cd19 ct19), sl19⟩) (c19 : PySem.W.codeIn K cd19 "sign_at" = true) (e19 : PySem.W.keepIn K (.ref f19) = true)
    {oc20 : Value} {od20 : Option Addr} {kV20 dc20 pm20 : Value} {an20 : Option Addr} {cd20 : Value} {ct20 : Value} {sl20 : Array (Option Value)}
    (a20 : PySem.W.nsIn K mainGlobals "table_text" = some (some (.ref f20)))
    (l20 : K.lookup f20 = some ⟨oc20, od20, .func (PySem.W.fnOf "table_text" "table_text" (C8.fnArgs (top 28)) (C8.fnBody (top 28)) (C8.fnScope (top 28)) .none kV20 dc20 pm20 an20 cd20 ct20), sl20⟩) (c20 : PySem.W.codeIn K cd20 "table_text" = true) (e20 : PySem.W.keepIn K (.ref f20) = true)
    {oc21 : Value} {od21 : Option Addr} {kV21 dc21 pm21 : Value} {an21 : Option Addr} {cd21 : Value} {ct21 : Value} {sl21 : Array (Option Value)}
    (a21 : PySem.W.nsIn K mainGlobals "read_table" = some (some (.ref f21)))
    (l21 : K.lookup f21 = some ⟨oc21, od21, .func (PySem.W.fnOf "read_table" "read_table" (C8.fnArgs (top 29)) (C8.fnBody (top 29)) (C8.fnScope (top 29)) .none kV21 dc21 pm21 an21 cd21 ct21), sl21⟩) (c21 : PySem.W.codeIn K cd21 "read_table" = true) (e21 : PySem.W.keepIn K (.ref f21) = true)
    {oc22 : Value} {od22 : Option Addr} {kV22 dc22 pm22 : Value} {an22 : Option Addr} {cd22 : Value} {ct22 : Value} {sl22 : Array (Option Value)}
    (a22 : PySem.W.nsIn K mainGlobals "table_in" = some (some (.ref f22)))
    (l22 : K.lookup f22 = some ⟨oc22, od22, .func (PySem.W.fnOf "table_in" "table_in" (C8.fnArgs (top 30)) (C8.fnBody (top 30)) (C8.fnScope (top 30)) .none kV22 dc22 pm22 an22 cd22 ct22), sl22⟩) (c22 : PySem.W.codeIn K cd22 "table_in" = true) (e22 : PySem.W.keepIn K (.ref f22) = true)
    {oc23 : Value} {od23 : Option Addr} {kV23 dc23 pm23 : Value} {an23 : Option Addr} {cd23 : Value} {ct23 : Value} {sl23 : Array (Option Value)}
    (a23 : PySem.W.nsIn K mainGlobals "_law_pen" = some (some (.ref f23)))
    (l23 : K.lookup f23 = some ⟨oc23, od23, .func (PySem.W.fnOf "_law_pen" "_law_pen" (C8.fnArgs (top 32)) (C8.fnBody (top 32)) (C8.fnScope (top 32)) .none kV23 dc23 pm23 an23 cd23 ct23), sl23⟩) (c23 : PySem.W.codeIn K cd23 "_law_pen" = true) (e23 : PySem.W.keepIn K (.ref f23) = true)
    {oc24 : Value} {od24 : Option Addr} {kV24 dc24 pm24 : Value} {an24 : Option Addr} {cd24 : Value} {ct24 : Value} {sl24 : Array (Option Value)}
    (a24 : PySem.W.nsIn K mainGlobals "_law_draw" = some (some (.ref f24)))
    (l24 : K.lookup f24 = some ⟨oc24, od24, .func (PySem.W.fnOf "_law_draw" "_law_draw" (C8.fnArgs (top 33)) (C8.fnBody (top 33)) (C8.fnScope (top 33)) .none kV24 dc24 pm24 an24 cd24 ct24), sl24⟩) (c24 : PySem.W.codeIn K cd24 "_law_draw" = true) (e24 : PySem.W.keepIn K (.ref f24) = true)
    {oc25 : Value} {od25 : Option Addr} {kV25 dc25 pm25 : Value} {an25 : Option Addr} {cd25 : Value} {ct25 : Value} {sl25 : Array (Option Value)}
    (a25 : PySem.W.nsIn K mainGlobals "_law_pick" = some (some (.ref f25)))
    (l25 : K.lookup f25 = some ⟨oc25, od25, .func (PySem.W.fnOf "_law_pick" "_law_pick" (C8.fnArgs (top 34)) (C8.fnBody (top 34)) (C8.fnScope (top 34)) .none kV25 dc25 pm25 an25 cd25 ct25), sl25⟩) (c25 : PySem.W.codeIn K cd25 "_law_pick" = true) (e25 : PySem.W.keepIn K (.ref f25) = true)
    {oc26 : Value} {od26 : Option Addr} {kV26 dc26 pm26 : Value} {an26 : Option Addr} {cd26 : Value} {ct26 : Value} {sl26 : Array (Option Value)}
    (a26 : PySem.W.nsIn K mainGlobals "_law_twos" = some (some (.ref f26)))
    (l26 : K.lookup f26 = some ⟨oc26, od26, .func (PySem.W.fnOf "_law_twos" "_law_twos" (C8.fnArgs (top 35)) (C8.fnBody (top 35)) (C8.fnScope (top 35)) .none kV26 dc26 pm26 an26 cd26 ct26), sl26⟩) (c26 : PySem.W.codeIn K cd26 "_law_twos" = true) (e26 : PySem.W.keepIn K (.ref f26) = true)
    {oc27 : Value} {od27 : Option Addr} {kV27 dc27 pm27 : Value} {an27 : Option Addr} {cd27 : Value} {ct27 : Value} {sl27 : Array (Option Value)}
    (a27 : PySem.W.nsIn K mainGlobals "_law_table" = some (some (.ref f27)))
    (l27 : K.lookup f27 = some ⟨oc27, od27, .func (PySem.W.fnOf "_law_table" "_law_table" (C8.fnArgs (top 36)) (C8.fnBody (top 36)) (C8.fnScope (top 36)) .none kV27 dc27 pm27 an27 cd27 ct27), sl27⟩) (c27 : PySem.W.codeIn K cd27 "_law_table" = true) (e27 : PySem.W.keepIn K (.ref f27) = true)
    {oc28 : Value} {od28 : Option Addr} {kV28 dc28 pm28 : Value} {an28 : Option Addr} {cd28 : Value} {ct28 : Value} {sl28 : Array (Option Value)}
    (a28 : PySem.W.nsIn K mainGlobals "_law_setting" = some (some (.ref f28)))
    (l28 : K.lookup f28 = some ⟨oc28, od28, .func (PySem.W.fnOf "_law_setting" "_law_setting" (C8.fnArgs (top 37)) (C8.fnBody (top 37)) (C8.fnScope (top 37)) .none kV28 dc28 pm28 an28 cd28 ct28), sl28⟩) (c28 : PySem.W.codeIn K cd28 "_law_setting" = true) (e28 : PySem.W.keepIn K (.ref f28) = true)
    {oc29 : Value} {od29 : Option Addr} {kV29 dc29 pm29 : Value} {an29 : Option Addr} {cd29 : Value} {ct29 : Value} {sl29 : Array (Option Value)}
    (a29 : PySem.W.nsIn K mainGlobals "_law_number" = some (some (.ref f29)))
    (l29 : K.lookup f29 = some ⟨oc29, od29, .func (PySem.W.fnOf "_law_number" "_law_number" (C8.fnArgs (top 38)) (C8.fnBody (top 38)) (C8.fnScope (top 38)) .none kV29 dc29 pm29 an29 cd29 ct29), sl29⟩) (c29 : PySem.W.codeIn K cd29 "_law_number" = true) (e29 : PySem.W.keepIn K (.ref f29) = true)
    {oc30 : Value} {od30 : Option Addr} {kV30 dc30 pm30 : Value} {an30 : Option Addr} {cd30 : Addr} {ct30 : Value} {sl30 : Array (Option Value)}
    (a30 : PySem.W.nsIn K mainGlobals "_law_table_right" = some (some (.ref f30)))
    (l30 : K.lookup f30 = some ⟨oc30, od30, .func (PySem.W.fnOf "_law_table_right" "_law_table_right" (C8.fnArgs (top 41)) (C8.fnBody (top 41)) (C8.fnScope (top 41)) .none kV30 dc30 pm30 an30 (.ref cd30) ct30), sl30⟩) (c30 : PySem.W.codeIn K (.ref cd30) "_law_table_right" = true) (e30 : PySem.W.keepIn K (.ref f30) = true)
    {oc31 : Value} {od31 : Option Addr} {kV31 dc31 pm31 : Value} {an31 : Option Addr} {cd31 : Addr} {ct31 : Value} {sl31 : Array (Option Value)}
    (a31 : PySem.W.nsIn K mainGlobals "law" = some (some (.ref f31)))
    (l31 : K.lookup f31 = some ⟨oc31, od31, .func (PySem.W.fnOf "law" "law" (C8.fnArgs (top 42)) (C8.fnBody (top 42)) (C8.fnScope (top 42)) .none kV31 dc31 pm31 an31 (.ref cd31) ct31), sl31⟩) (c31 : PySem.W.codeIn K (.ref cd31) "law" = true) (e31 : PySem.W.keepIn K (.ref f31) = true)
    {ut0 : Tok} (x0 : PySem.W.nsIn K mainGlobals "MOST_PLACES" = some (some (.int k0 ut0)))
    {u1 : Addr} {ar1 : Array Value} {um1 : Nat} {us1 : Array (Option Value)} (x1 : PySem.W.nsIn K mainGlobals "SIZES" = some (some (.ref u1))) (y1 : K.lookup u1 = some ⟨.type "tuple", none, .seq ar1 um1, us1⟩) (w1 : intArr ar1.toList = some k1)
    {u2 : Addr} {ar2 : Array Value} {um2 : Nat} {us2 : Array (Option Value)} (x2 : PySem.W.nsIn K mainGlobals "SIGN_TEXTS" = some (some (.ref u2))) (y2 : K.lookup u2 = some ⟨.type "tuple", none, .seq ar2 um2, us2⟩) (w2 : strArr ar2.toList = some k2)
    {I0 N0 : Addr} {nm0 qn0 : Str} {bs0 bm0 : List Value} {sn0 : List Str} {sub0 : List Value} {ab0 : Bool} {col0 : Option Bool} {dd0 : Option Addr} {k00 k10 k20 k30 k50 : Option Value} {ocI0 : Value} {odI0 : Option Addr} {kVI0 dcI0 pmI0 : Value} {anI0 : Option Addr} {cdI0 ctI0 : Value} {slI0 : Array (Option Value)}
    (ca0 : PySem.W.nsIn K mainGlobals "BadText" = some (some (.ref C0))) (cb0 : K.lookup C0 = some (excClassObj nm0 qn0 C0 N0 bs0 bm0 true sn0 sub0 ab0 col0 dd0 k00 k10 k20 k30 k50 "ValueError.__new__")) (wc0 : PySem.HandSPX.refsVE bm0 = true)
    (cd0x : PySem.W.findIn K (.ref C0) "__setattr__" = some (some (.builtin "object.__setattr__"))) (ce0 : PySem.W.subIn K (.ref C0) (.type "BaseException") = some true) (cf0 : PySem.W.typeIn K (.ref C0) = some (.type "type")) (cg0 : PySem.W.keepIn K (.ref C0) = true)
    (ch0 : PySem.W.findIn K (.ref C0) "__init__" = some (some (.ref I0))) (ci0 : PySem.W.typeIn K (.ref I0) = some (.type "function")) (cj0 : PySem.W.findIn K (.ref C0) "line" = some none) (cj0y : PySem.W.findIn K (.ref C0) "item" = some none)
    (ck0x : K.lookup I0 = some ⟨ocI0, odI0, .func (PySem.W.fnOf "__init__" "BadText.__init__" (C8.fnArgs ((C8.clsBody (top 6)).getD 0 (.Pass ⟨0, 0, 0, 0⟩))) (C8.fnBody ((C8.clsBody (top 6)).getD 0 (.Pass ⟨0, 0, 0, 0⟩))) (C8.fnScope ((C8.clsBody (top 6)).getD 0 (.Pass ⟨0, 0, 0, 0⟩))) .none kVI0 dcI0 pmI0 anI0 cdI0 ctI0), slI0⟩) (cl0 : PySem.W.codeIn K cdI0 "BadText.__init__" = true)
    {I1 N1 : Addr} {nm1 qn1 : Str} {bs1 bm1 : List Value} {sn1 : List Str} {sub1 : List Value} {ab1 : Bool} {col1 : Option Bool} {dd1 : Option Addr} {k01 k11 k21 k31 k51 : Option Value} {ocI1 : Value} {odI1 : Option Addr} {kVI1 dcI1 pmI1 : Value} {anI1 : Option Addr} {cdI1 ctI1 : Value} {slI1 : Array (Option Value)}
    (ca1 : PySem.W.nsIn K mainGlobals "BadTable" = some (some (.ref C1))) (cb1 : K.lookup C1 = some (excClassObj nm1 qn1 C1 N1 bs1 bm1 true sn1 sub1 ab1 col1 dd1 k01 k11 k21 k31 k51 "ValueError.__new__")) (wc1 : PySem.HandSPX.refsVE bm1 = true)
    (cd1x : PySem.W.findIn K (.ref C1) "__setattr__" = some (some (.builtin "object.__setattr__"))) (ce1 : PySem.W.subIn K (.ref C1) (.type "BaseException") = some true) (cf1 : PySem.W.typeIn K (.ref C1) = some (.type "type")) (cg1 : PySem.W.keepIn K (.ref C1) = true)
    (ch1 : PySem.W.findIn K (.ref C1) "__init__" = some (some (.ref I1))) (ci1 : PySem.W.typeIn K (.ref I1) = some (.type "function")) (cj1 : PySem.W.findIn K (.ref C1) "part" = some none)
    (ck1x : K.lookup I1 = some ⟨ocI1, odI1, .func (PySem.W.fnOf "__init__" "BadTable.__init__" (C8.fnArgs ((C8.clsBody (top 3)).getD 0 (.Pass ⟨0, 0, 0, 0⟩))) (C8.fnBody ((C8.clsBody (top 3)).getD 0 (.Pass ⟨0, 0, 0, 0⟩))) (C8.fnScope ((C8.clsBody (top 3)).getD 0 (.Pass ⟨0, 0, 0, 0⟩))) .none kVI1 dcI1 pmI1 anI1 cdI1 ctI1), slI1⟩) (cl1 : PySem.W.codeIn K cdI1 "BadTable.__init__" = true)
    {I2 N2 : Addr} {nm2 qn2 : Str} {bs2 bm2 : List Value} {sn2 : List Str} {sub2 : List Value} {ab2 : Bool} {col2 : Option Bool} {dd2 : Option Addr} {k02 k12 k22 k32 k52 : Option Value} {ocI2 : Value} {odI2 : Option Addr} {kVI2 dcI2 pmI2 : Value} {anI2 : Option Addr} {cdI2 ctI2 : Value} {slI2 : Array (Option Value)}
    (ca2 : PySem.W.nsIn K mainGlobals "BadNumber" = some (some (.ref C2))) (cb2 : K.lookup C2 = some (excClassObj nm2 qn2 C2 N2 bs2 bm2 true sn2 sub2 ab2 col2 dd2 k02 k12 k22 k32 k52 "ValueError.__new__")) (wc2 : PySem.HandSPX.refsVE bm2 = true)
    (cd2x : PySem.W.findIn K (.ref C2) "__setattr__" = some (some (.builtin "object.__setattr__"))) (ce2 : PySem.W.subIn K (.ref C2) (.type "BaseException") = some true) (cf2 : PySem.W.typeIn K (.ref C2) = some (.type "type")) (cg2 : PySem.W.keepIn K (.ref C2) = true)
    (ch2 : PySem.W.findIn K (.ref C2) "__init__" = some (some (.ref I2))) (ci2 : PySem.W.typeIn K (.ref I2) = some (.type "function")) (cj2 : PySem.W.findIn K (.ref C2) "part" = some none)
    (ck2x : K.lookup I2 = some ⟨ocI2, odI2, .func (PySem.W.fnOf "__init__" "BadNumber.__init__" (C8.fnArgs ((C8.clsBody (top 4)).getD 0 (.Pass ⟨0, 0, 0, 0⟩))) (C8.fnBody ((C8.clsBody (top 4)).getD 0 (.Pass ⟨0, 0, 0, 0⟩))) (C8.fnScope ((C8.clsBody (top 4)).getD 0 (.Pass ⟨0, 0, 0, 0⟩))) .none kVI2 dcI2 pmI2 anI2 cdI2 ctI2), slI2⟩) (cl2 : PySem.W.codeIn K cdI2 "BadNumber.__init__" = true)
    {I3 N3 : Addr} {nm3 qn3 : Str} {bs3 bm3 : List Value} {sn3 : List Str} {sub3 : List Value} {ab3 : Bool} {col3 : Option Bool} {dd3 : Option Addr} {k03 k13 k23 k33 k53 : Option Value} {ocI3 : Value} {odI3 : Option Addr} {kVI3 dcI3 pmI3 : Value} {anI3 : Option Addr} {cdI3 ctI3 : Value} {slI3 : Array (Option Value)}
    (ca3 : PySem.W.nsIn K mainGlobals "Misfit" = some (some (.ref C3))) (cb3 : K.lookup C3 = some (excClassObj nm3 qn3 C3 N3 bs3 bm3 true sn3 sub3 ab3 col3 dd3 k03 k13 k23 k33 k53 "ValueError.__new__")) (wc3 : PySem.HandSPX.refsVE bm3 = true)
    (cd3x : PySem.W.findIn K (.ref C3) "__setattr__" = some (some (.builtin "object.__setattr__"))) (ce3 : PySem.W.subIn K (.ref C3) (.type "BaseException") = some true) (cf3 : PySem.W.typeIn K (.ref C3) = some (.type "type")) (cg3 : PySem.W.keepIn K (.ref C3) = true)
    (ch3 : PySem.W.findIn K (.ref C3) "__init__" = some (some (.ref I3))) (ci3 : PySem.W.typeIn K (.ref I3) = some (.type "function")) (cj3 : PySem.W.findIn K (.ref C3) "part" = some none)
    (ck3x : K.lookup I3 = some ⟨ocI3, odI3, .func (PySem.W.fnOf "__init__" "Misfit.__init__" (C8.fnArgs ((C8.clsBody (top 5)).getD 0 (.Pass ⟨0, 0, 0, 0⟩))) (C8.fnBody ((C8.clsBody (top 5)).getD 0 (.Pass ⟨0, 0, 0, 0⟩))) (C8.fnScope ((C8.clsBody (top 5)).getD 0 (.Pass ⟨0, 0, 0, 0⟩))) .none kVI3 dcI3 pmI3 anI3 cdI3 ctI3), slI3⟩) (cl3 : PySem.W.codeIn K cdI3 "Misfit.__init__" = true)
    (ia0 : PySem.W.nsIn K mainGlobals "Scan" = some (some (.ref E0))) (ib0 : PySem.W.plainGet K E0 Str.empty = true) (ic0 : PySem.W.hasDictIn K E0 = true) (id0 : PySem.W.plainOver K E0 = true) (ie0 : PySem.W.findIn K (.ref E0) "__setattr__" = some (some (.builtin "object.__setattr__"))) (if0 : PySem.W.keepIn K (.ref E0) = true)
    (ig0 : PySem.W.findIn K (.ref E0) "__class__" = some (some (.builtin "object.__class__"))) (ih0 : PySem.W.specialIn K (.builtin "object.__class__") "__get__" = some (some (.builtin "getset_descriptor.__get__"))) (ij0 : PySem.W.takesIn K (.builtin "object.__class__") = some true) (ik0 : PySem.W.mroIn K E0 (.type "object") = some true)
    (il0 : PySem.W.makesIn K E0 = true) (im0 : PySem.W.findIn K (.ref E0) "__init__" = some (some (.ref f4))) (in0 : PySem.W.isFn K (.ref f4) = true)
    (im0_finish : PySem.W.findIn K (.ref E0) "finish" = some (some (.ref f9))) (in0_finish : PySem.W.isFn K (.ref f9) = true)
    (im0_is_over : PySem.W.findIn K (.ref E0) "is_over" = some (some (.ref f5))) (in0_is_over : PySem.W.isFn K (.ref f5) = true)
    (im0_refuse : PySem.W.findIn K (.ref E0) "refuse" = some (some (.ref f7))) (in0_refuse : PySem.W.isFn K (.ref f7) = true)
    (im0_seen : PySem.W.findIn K (.ref E0) "seen" = some (some (.ref f6))) (in0_seen : PySem.W.isFn K (.ref f6) = true)
    (im0_take : PySem.W.findIn K (.ref E0) "take" = some (some (.ref f8))) (in0_take : PySem.W.isFn K (.ref f8) = true)
    (io0_items_left : PySem.W.findIn K (.ref E0) "items_left" = some none)
    (io0_spot : PySem.W.findIn K (.ref E0) "spot" = some none)
    (ip0_0 : PySem.W.kitOne K (.ref E0) (.ref E0) = some true)
    (iq0_0 : PySem.W.kitOne K (.type "int") (.ref E0) = some false)
    (iq0_1 : PySem.W.kitOne K (.type "bool") (.ref E0) = some false)
    (iq0_2 : PySem.W.kitOne K (.type "str") (.ref E0) = some false)
    (iq0_3 : PySem.W.kitOne K (.type "list") (.ref E0) = some false)
    (iq0_4 : PySem.W.kitOne K (.type "tuple") (.ref E0) = some false)
    (iq0_5 : PySem.W.kitOne K (.type "dict") (.ref E0) = some false)
    (iq0_6 : PySem.W.kitOne K (.type "NoneType") (.ref E0) = some false)
    {gH CB : Addr} {ocH : Value} {odH : Option Addr} {kVH dcH pmH : Value} {anH : Option Addr} {cdH ctH : Value} {slH : Array (Option Value)}
    (aH : PySem.W.nsIn K mainGlobals "_law_heard" = some (some (.ref gH))) (lH : K.lookup gH = some ⟨ocH, odH, .func (PySem.W.fnOf "_law_heard" "_law_heard" (C8.fnArgs (top 40)) (C8.fnBody (top 40)) (C8.fnScope (top 40)) .none kVH dcH pmH anH cdH ctH), slH⟩) (cH : PySem.W.codeIn K cdH "_law_heard" = true) (eH : PySem.W.keepIn K (.ref gH) = true) (bH : PySem.W.nsIn K mainGlobals "HoleError" = some (some (.ref CB)))
    {X0 : Addr} (xa0 : PySem.W.nsIn K mainGlobals "BadTable" = some (some (.ref X0)))
    {X1 : Addr} (xa1 : PySem.W.nsIn K mainGlobals "BadNumber" = some (some (.ref X1)))
    {X2 : Addr} (xa2 : PySem.W.nsIn K mainGlobals "Misfit" = some (some (.ref X2)))
    {X3 : Addr} (xa3 : PySem.W.nsIn K mainGlobals "BadText" = some (some (.ref X3)))
    (ea0 : (PySem.W.clsIn K C0).isSome = true) (eb0 : PySem.W.findIn K (.ref C0) "__getattribute__" = some (some (.builtin "BaseException.__getattribute__"))) (ec0 : PySem.W.findIn K (.ref C0) "__getattr__" = some none) (ed0 : PySem.W.hasDictIn K C0 = true) (ee0 : PySem.W.findIn K (.ref C0) "__class__" = some (some (.builtin "object.__class__")))
    (ef0 : PySem.W.specialIn K (.builtin "object.__class__") "__get__" = some (some (.builtin "getset_descriptor.__get__"))) (eg0 : PySem.W.takesIn K (.builtin "object.__class__") = some true) (eh0 : PySem.W.mroIn K C0 (.type "object") = some true) (ei0 : PySem.W.exmOne K (.ref C0) (.ref CB) = some true)
    (k0_0 : PySem.W.kitOne K (.ref C0) (.ref X0) = some false)
    (k0_1 : PySem.W.kitOne K (.ref C0) (.ref X1) = some false)
    (k0_2 : PySem.W.kitOne K (.ref C0) (.ref X2) = some false)
    (k0_3 : PySem.W.kitOne K (.ref C0) (.ref X3) = some true)
    (h0_item : PySem.W.findIn K (.ref C0) "item" = some none)
    (h0_line : PySem.W.findIn K (.ref C0) "line" = some none)
    (h0_part : PySem.W.findIn K (.ref C0) "part" = some none)
    (ea1 : (PySem.W.clsIn K C1).isSome = true) (eb1 : PySem.W.findIn K (.ref C1) "__getattribute__" = some (some (.builtin "BaseException.__getattribute__"))) (ec1 : PySem.W.findIn K (.ref C1) "__getattr__" = some none) (ed1 : PySem.W.hasDictIn K C1 = true) (ee1 : PySem.W.findIn K (.ref C1) "__class__" = some (some (.builtin "object.__class__")))
    (ef1 : PySem.W.specialIn K (.builtin "object.__class__") "__get__" = some (some (.builtin "getset_descriptor.__get__"))) (eg1 : PySem.W.takesIn K (.builtin "object.__class__") = some true) (eh1 : PySem.W.mroIn K C1 (.type "object") = some true) (ei1 : PySem.W.exmOne K (.ref C1) (.ref CB) = some true)
    (k1_0 : PySem.W.kitOne K (.ref C1) (.ref X0) = some true)
    (k1_1 : PySem.W.kitOne K (.ref C1) (.ref X1) = some false)
    (k1_2 : PySem.W.kitOne K (.ref C1) (.ref X2) = some false)
    (k1_3 : PySem.W.kitOne K (.ref C1) (.ref X3) = some false)
    (h1_item : PySem.W.findIn K (.ref C1) "item" = some none)
    (h1_line : PySem.W.findIn K (.ref C1) "line" = some none)
    (h1_part : PySem.W.findIn K (.ref C1) "part" = some none)
    (ea2 : (PySem.W.clsIn K C2).isSome = true) (eb2 : PySem.W.findIn K (.ref C2) "__getattribute__" = some (some (.builtin "BaseException.__getattribute__"))) (ec2 : PySem.W.findIn K (.ref C2) "__getattr__" = some none) (ed2 : PySem.W.hasDictIn K C2 = true) (ee2 : PySem.W.findIn K (.ref C2) "__class__" = some (some (.builtin "object.__class__")))
    (ef2 : PySem.W.specialIn K (.builtin "object.__class__") "__get__" = some (some (.builtin "getset_descriptor.__get__"))) (eg2 : PySem.W.takesIn K (.builtin "object.__class__") = some true) (eh2 : PySem.W.mroIn K C2 (.type "object") = some true) (ei2 : PySem.W.exmOne K (.ref C2) (.ref CB) = some true)
    (k2_0 : PySem.W.kitOne K (.ref C2) (.ref X0) = some false)
    (k2_1 : PySem.W.kitOne K (.ref C2) (.ref X1) = some true)
    (k2_2 : PySem.W.kitOne K (.ref C2) (.ref X2) = some false)
    (k2_3 : PySem.W.kitOne K (.ref C2) (.ref X3) = some false)
    (h2_item : PySem.W.findIn K (.ref C2) "item" = some none)
    (h2_line : PySem.W.findIn K (.ref C2) "line" = some none)
    (h2_part : PySem.W.findIn K (.ref C2) "part" = some none)
    (ea3 : (PySem.W.clsIn K C3).isSome = true) (eb3 : PySem.W.findIn K (.ref C3) "__getattribute__" = some (some (.builtin "BaseException.__getattribute__"))) (ec3 : PySem.W.findIn K (.ref C3) "__getattr__" = some none) (ed3 : PySem.W.hasDictIn K C3 = true) (ee3 : PySem.W.findIn K (.ref C3) "__class__" = some (some (.builtin "object.__class__")))
    (ef3 : PySem.W.specialIn K (.builtin "object.__class__") "__get__" = some (some (.builtin "getset_descriptor.__get__"))) (eg3 : PySem.W.takesIn K (.builtin "object.__class__") = some true) (eh3 : PySem.W.mroIn K C3 (.type "object") = some true) (ei3 : PySem.W.exmOne K (.ref C3) (.ref CB) = some true)
    (k3_0 : PySem.W.kitOne K (.ref C3) (.ref X0) = some false)
    (k3_1 : PySem.W.kitOne K (.ref C3) (.ref X1) = some false)
    (k3_2 : PySem.W.kitOne K (.ref C3) (.ref X2) = some true)
    (k3_3 : PySem.W.kitOne K (.ref C3) (.ref X3) = some false)
    (h3_item : PySem.W.findIn K (.ref C3) "item" = some none)
    (h3_line : PySem.W.findIn K (.ref C3) "line" = some none)
    (h3_part : PySem.W.findIn K (.ref C3) "part" = some none)
    (z0 : PySem.W.nsIn K mainGlobals "len" = some none)
    (z1 : PySem.W.nsIn K mainGlobals "tuple" = some none)
    (z2 : PySem.W.nsIn K mainGlobals "list" = some none)
    (z3 : PySem.W.nsIn K mainGlobals "int" = some none)
    (z4 : PySem.W.nsIn K mainGlobals "bool" = some none)
    (z5 : PySem.W.nsIn K mainGlobals "str" = some none)
    (z6 : PySem.W.nsIn K mainGlobals "dict" = some none)
    (z7 : PySem.W.nsIn K mainGlobals "abs" = some none)
    (z8 : PySem.W.nsIn K mainGlobals "sum" = some none)
    (z9 : PySem.W.nsIn K mainGlobals "all" = some none)
    (z10 : PySem.W.nsIn K mainGlobals "any" = some none)
    (z11 : PySem.W.nsIn K mainGlobals "isinstance" = some none)
    (z12 : PySem.W.nsIn K mainGlobals "range" = some none)
    (z13 : PySem.W.nsIn K mainGlobals "zip" = some none)
    (z14 : PySem.W.nsIn K mainGlobals "enumerate" = some none)
    (z15 : PySem.W.nsIn K mainGlobals "repr" = some none)
    (z16 : PySem.W.nsIn K mainGlobals "max" = some none)
    (z17 : PySem.W.nsIn K mainGlobals "min" = some none)
    (z18 : PySem.W.nsIn K mainGlobals "sorted" = some none)
    (z19 : PySem.W.nsIn K mainGlobals "set" = some none)
    (z20 : PySem.W.nsIn K mainGlobals "super" = some none)
    {ex30 : Value} {dx30 : Option Addr} {vx30 : Array Value} {sx30 : Array (Option Value)} (oa30 : K.lookup cd30 = some ⟨ex30, dx30, .fields vx30, sx30⟩) (ob30 : vx30[11]? = some (.ref P30)) (og30 : K.lookup P30 = none) (oh30 : PySem.W.codeHdIn K cd30 P30 = true) (oi30 : ((recsOf q).any fun e => e.name == ("_law_table_right" : Str)) = true)
    {ex31 : Value} {dx31 : Option Addr} {vx31 : Array Value} {sx31 : Array (Option Value)} (oa31 : K.lookup cd31 = some ⟨ex31, dx31, .fields vx31, sx31⟩) (ob31 : vx31[11]? = some (.ref P31)) (og31 : K.lookup P31 = none) (oh31 : PySem.W.codeHdIn K cd31 P31 = true) (oi31 : ((recsOf q).any fun e => e.name == ("law" : Str)) = true)
    (od : [P30, P31].Nodup)
    : LawG l w K (roomN 24) 63 "script" mg fa h := by
  have e := hm.symm.trans (PySem.W.mg_of X G a31)
  cases e
  have dis : ∀ y ∈ (sta K f0 f1 f2 f3 f4 f5 f6 f7 f8 f9 f10 f11 f12 f13 f14 f15 f16 f17 f18 f19 f20 f21 f22 f23 f24 f25 f26 f27 f28 f29 f30 f31 C0 C1 C2 C3 E0 P30 P31).tb, ∀ z ∈ (sta K f0 f1 f2 f3 f4 f5 f6 f7 f8 f9 f10 f11 f12 f13 f14 f15 f16 f17 f18 f19 f20 f21 f22 f23 f24 f25 f26 f27 f28 f29 f30 f31 C0 C1 C2 C3 E0 P30 P31).tb, y.1 = z.1 → y.2 = z.2 := by
    exact dis_of (show [P30, P31].Nodup from od)
  have m := modOk X G dis a0 l0 c0 e0 a1 l1 c1 e1 a2 l2 c2 e2 a3 l3 c3 e3 l4 c4 e4 l5 c5 e5 l6 c6 e6 l7 c7 e7 l8 c8 e8 l9 c9 e9 a10 l10 c10 e10 a11 l11 c11 e11 a12 l12 c12 e12 a13 l13 c13 e13 a14 l14 c14 e14 a15 l15 c15 e15 a16 l16 c16 e16 a17 l17 c17 e17 a18 l18 c18 e18 a19 l19 c19 e19 a20 l20 c20 e20 a21 l21 c21 e21 a22 l22 c22 e22 a23 l23 c23 e23 a24 l24 c24 e24 a25 l25 c25 e25 a26 l26 c26 e26 a27 l27 c27 e27 a28 l28 c28 e28 a29 l29 c29 e29 a30 l30 c30 e30 a31 l31 c31 e31 x0 x1 y1 w1 x2 y2 w2 ca0 cb0 wc0 cd0x ce0 cf0 cg0 ch0 ci0 cj0 cj0y ck0x cl0 ca1 cb1 wc1 cd1x ce1 cf1 cg1 ch1 ci1 cj1 ck1x cl1 ca2 cb2 wc2 cd2x ce2 cf2 cg2 ch2 ci2 cj2 ck2x cl2 ca3 cb3 wc3 cd3x ce3 cf3 cg3 ch3 ci3 cj3 ck3x cl3 ia0 ib0 ic0 id0 ie0 if0 ig0 ih0 ij0 ik0 il0 im0 in0 im0_finish in0_finish im0_is_over in0_is_over im0_refuse in0_refuse im0_seen in0_seen im0_take in0_take io0_items_left io0_spot ip0_0 iq0_0 iq0_1 iq0_2 iq0_3 iq0_4 iq0_5 iq0_6 aH lH cH eH bH xa0 xa1 xa2 xa3 ea0 eb0 ec0 ed0 ee0 ef0 eg0 eh0 ei0 k0_0 k0_1 k0_2 k0_3 h0_item h0_line h0_part ea1 eb1 ec1 ed1 ee1 ef1 eg1 eh1 ei1 k1_0 k1_1 k1_2 k1_3 h1_item h1_line h1_part ea2 eb2 ec2 ed2 ee2 ef2 eg2 eh2 ei2 k2_0 k2_1 k2_2 k2_3 h2_item h2_line h2_part ea3 eb3 ec3 ed3 ee3 ef3 eg3 eh3 ei3 k3_0 k3_1 k3_2 k3_3 h3_item h3_line h3_part z0 z1 z2 z3 z4 z5 z6 z7 z8 z9 z10 z11 z12 z13 z14 z15 z16 z17 z18 z19 z20
  refine fn_law (i := 31) (d := g31) m X (fun p hp => ?_) ?_ rfl rfl rfl rfl hm law_true
  · simp only [List.mem_cons, List.not_mem_nil, or_false] at hp
    rcases hp with rfl | rfl
    · exact ⟨own "_law_table_right" f30 oi30 (PySem.W.mg_of X G a30) _ _ _ _ _ _ _ _ l30 rfl rfl oa30 ob30, og30, oh30⟩
    · exact ⟨own "law" f31 oi31 (PySem.W.mg_of X G a31) _ _ _ _ _ _ _ _ l31 rfl rfl oa31 ob31, og31, oh31⟩
  · simp [sta]
end K03

/-! ## K03E -/
open PySem PySem.W PyProof.Rows
set_option maxRecDepth 100000 in
set_option maxHeartbeats 0 in
theorem PySem.Challenge.cw_holegates_k03_tables_and_settings_by_num_holds : PySem.Challenge.rw_holegates_k03_tables_and_settings_by_num.Holds := by
  w_on; o_law; k_head; (case hw => w_witness2)
  k_fill
  refine Iv.walkG (l := PySem.Challenge.rw_holegates_k03_tables_and_settings_by_num) (k := Iv.roomN 24) (x := "script") ⟨rfl, by decide, by decide⟩ rfl rfl (fun w h Y => by first | exact PySem.W.km_in_of Y | exact PySem.W.kIn_of Y) ?F
  case F =>
    intro w mg fa h KX G hmg own
    refine' K03.fin KX G hmg own ?a0 ?l0 ?c0 ?e0 ?a1 ?l1 ?c1 ?e1 ?a2 ?l2 ?c2 ?e2 ?a3 ?l3 ?c3 ?e3 ?l4 ?c4 ?e4 ?l5 ?c5 ?e5 ?l6 ?c6 ?e6 ?l7 ?c7 ?e7 ?l8 ?c8 ?e8 ?l9 ?c9 ?e9 ?a10 ?l10 ?c10 ?e10 ?a11 ?l11 ?c11 ?e11 ?a12 ?l12 ?c12 ?e12 ?a13 ?l13 ?c13 ?e13 ?a14 ?l14 ?c14 ?e14 ?a15 ?l15 ?c15 ?e15 ?a16 ?l16 ?c16 ?e16 ?a17 ?l17 ?c17 ?e17 ?a18 ?l18 ?c18 ?e18 ?a19 ?l19 ?c19 ?e19 ?a20 ?l20 ?c20 ?e20 ?a21 ?l21 ?c21 ?e21 ?a22 ?l22 ?c22 ?e22 ?a23 ?l23 ?c23 ?e23 ?a24 ?l24 ?c24 ?e24 ?a25 ?l25 ?c25 ?e25 ?a26 ?l26 ?c26 ?e26 ?a27 ?l27 ?c27 ?e27 ?a28 ?l28 ?c28 ?e28 ?a29 ?l29 ?c29 ?e29 ?a30 ?l30 ?c30 ?e30 ?a31 ?l31 ?c31 ?e31 ?x0 ?x1 ?y1 ?w1 ?x2 ?y2 ?w2 ?ca0 ?cb0 ?wc0 ?cd0x ?ce0 ?cf0 ?cg0 ?ch0 ?ci0 ?cj0 ?cj0y ?ck0x ?cl0 ?ca1 ?cb1 ?wc1 ?cd1x ?ce1 ?cf1 ?cg1 ?ch1 ?ci1 ?cj1 ?ck1x ?cl1 ?ca2 ?cb2 ?wc2 ?cd2x ?ce2 ?cf2 ?cg2 ?ch2 ?ci2 ?cj2 ?ck2x ?cl2 ?ca3 ?cb3 ?wc3 ?cd3x ?ce3 ?cf3 ?cg3 ?ch3 ?ci3 ?cj3 ?ck3x ?cl3 ?ia0 ?ib0 ?ic0 ?id0 ?ie0 ?if0 ?ig0 ?ih0 ?ij0 ?ik0 ?il0 ?im0 ?in0 ?im0_finish ?in0_finish ?im0_is_over ?in0_is_over ?im0_refuse ?in0_refuse ?im0_seen ?in0_seen ?im0_take ?in0_take ?io0_items_left ?io0_spot ?ip0_0 ?iq0_0 ?iq0_1 ?iq0_2 ?iq0_3 ?iq0_4 ?iq0_5 ?iq0_6 ?aH ?lH ?cH ?eH ?bH ?xa0 ?xa1 ?xa2 ?xa3 ?ea0 ?eb0 ?ec0 ?ed0 ?ee0 ?ef0 ?eg0 ?eh0 ?ei0 ?k0_0 ?k0_1 ?k0_2 ?k0_3 ?h0_item ?h0_line ?h0_part ?ea1 ?eb1 ?ec1 ?ed1 ?ee1 ?ef1 ?eg1 ?eh1 ?ei1 ?k1_0 ?k1_1 ?k1_2 ?k1_3 ?h1_item ?h1_line ?h1_part ?ea2 ?eb2 ?ec2 ?ed2 ?ee2 ?ef2 ?eg2 ?eh2 ?ei2 ?k2_0 ?k2_1 ?k2_2 ?k2_3 ?h2_item ?h2_line ?h2_part ?ea3 ?eb3 ?ec3 ?ed3 ?ee3 ?ef3 ?eg3 ?eh3 ?ei3 ?k3_0 ?k3_1 ?k3_2 ?k3_3 ?h3_item ?h3_line ?h3_part ?z0 ?z1 ?z2 ?z3 ?z4 ?z5 ?z6 ?z7 ?z8 ?z9 ?z10 ?z11 ?z12 ?z13 ?z14 ?z15 ?z16 ?z17 ?z18 ?z19 ?z20 ?oa30 ?ob30 ?og30 ?oh30 ?oi30 ?oa31 ?ob31 ?og31 ?oh31 ?oi31 ?od
    (case ia0 => k_is)
    (case im0 => k_is)
    (case im0_finish => k_is)
    (case im0_is_over => k_is)
    (case im0_refuse => k_is)
    (case im0_seen => k_is)
    (case im0_take => k_is)
    (case a0 => k_is)
    (case l0 => k_is)
    (case c0 => k_is)
    (case e0 => k_is)
    (case a1 => k_is)
    (case l1 => k_is)
    (case c1 => k_is)
    (case e1 => k_is)
    (case a2 => k_is)
    (case l2 => k_is)
    (case c2 => k_is)
    (case e2 => k_is)
    (case a3 => k_is)
    (case l3 => k_is)
    (case c3 => k_is)
    (case e3 => k_is)
    (case l4 => k_is)
    (case c4 => k_is)
    (case e4 => k_is)
    (case l5 => k_is)
    (case c5 => k_is)
    (case e5 => k_is)
    (case l6 => k_is)
    (case c6 => k_is)
    (case e6 => k_is)
    (case l7 => k_is)
    (case c7 => k_is)
    (case e7 => k_is)
    (case l8 => k_is)
    (case c8 => k_is)
    (case e8 => k_is)
    (case l9 => k_is)
    (case c9 => k_is)
    (case e9 => k_is)
    (case a10 => k_is)
    (case l10 => k_is)
    (case c10 => k_is)
    (case e10 => k_is)
    (case a11 => k_is)
    (case l11 => k_is)
    (case c11 => k_is)
    (case e11 => k_is)
    (case a12 => k_is)
    (case l12 => k_is)
    (case c12 => k_is)
    (case e12 => k_is)
    (case a13 => k_is)
    (case l13 => k_is)
    (case c13 => k_is)
    (case e13 => k_is)
    (case a14 => k_is)
    (case l14 => k_is)
    (case c14 => k_is)
    (case e14 => k_is)
    (case a15 => k_is)
    (case l15 => k_is)
    (case c15 => k_is)
    (case e15 => k_is)
    (case a16 => k_is)
    (case l16 => k_is)
    (case c16 => k_is)
    (case e16 => k_is)
    (case a17 => k_is)
    (case l17 => k_is)
    (case c17 => k_is)
    (case e17 => k_is)
    (case a18 => k_is)
    (case l18 => k_is)
    (case c18 => k_is)
    (case e18 => k_is)
    (case a19 => k_is)
    (case l19 => k_is)
    (case c19 => k_is)
    (case e19 => k_is)
    (case a20 => k_is)
    (case l20 => k_is)
    (case c20 => k_is)
    (case e20 => k_is)
    (case a21 => k_is)
    (case l21 => k_is)
    (case c21 => k_is)
    (case e21 => k_is)
    (case a22 => k_is)
    (case l22 => k_is)
    (case c22 => k_is)
    (case e22 => k_is)
    (case a23 => k_is)
    (case l23 => k_is)
    (case c23 => k_is)
    (case e23 => k_is)
    (case a24 => k_is)
    (case l24 => k_is)
    (case c24 => k_is)
    (case e24 => k_is)
    (case a25 => k_is)
    (case l25 => k_is)
    (case c25 => k_is)
    (case e25 => k_is)
    (case a26 => k_is)
    (case l26 => k_is)
    (case c26 => k_is)
    (case e26 => k_is)
    (case a27 => k_is)
    (case l27 => k_is)
    (case c27 => k_is)
    (case e27 => k_is)
    (case a28 => k_is)
    (case l28 => k_is)
    (case c28 => k_is)
    (case e28 => k_is)
    (case a29 => k_is)
    (case l29 => k_is)
    (case c29 => k_is)
    (case e29 => k_is)
    (case a30 => k_is)
    (case l30 => k_is)
    (case c30 => k_is)
    (case e30 => k_is)
    (case a31 => k_is)
    (case l31 => k_is)
    (case c31 => k_is)
    (case e31 => k_is)
    (case x0 => k_is)
    (case x1 => k_is)
    (case y1 => k_is)
    (case w1 => rfl)
    (case x2 => k_is)
    (case y2 => k_is)
    (case w2 => rfl)
    (case ca0 => k_is)
    (case cb0 => k_is)
    (case wc0 => rfl)
    (case cd0x => k_is)
    (case ce0 => k_is)
    (case cf0 => k_is)
    (case cg0 => k_is)
    (case ch0 => k_is)
    (case ci0 => k_is)
    (case cj0 => k_is)
    (case cj0y => k_is)
    (case ck0x => k_is)
    (case cl0 => k_is)
    (case ca1 => k_is)
    (case cb1 => k_is)
    (case wc1 => rfl)
    (case cd1x => k_is)
    (case ce1 => k_is)
    (case cf1 => k_is)
    (case cg1 => k_is)
    (case ch1 => k_is)
    (case ci1 => k_is)
    (case cj1 => k_is)
    (case ck1x => k_is)
    (case cl1 => k_is)
    (case ca2 => k_is)
    (case cb2 => k_is)
    (case wc2 => rfl)
    (case cd2x => k_is)
    (case ce2 => k_is)
    (case cf2 => k_is)
    (case cg2 => k_is)
    (case ch2 => k_is)
    (case ci2 => k_is)
    (case cj2 => k_is)
    (case ck2x => k_is)
    (case cl2 => k_is)
    (case ca3 => k_is)
    (case cb3 => k_is)
    (case wc3 => rfl)
    (case cd3x => k_is)
    (case ce3 => k_is)
    (case cf3 => k_is)
    (case cg3 => k_is)
    (case ch3 => k_is)
    (case ci3 => k_is)
    (case cj3 => k_is)
    (case ck3x => k_is)
    (case cl3 => k_is)
    (case ib0 => k_is)
    (case ic0 => k_is)
    (case id0 => k_is)
    (case ie0 => k_is)
    (case if0 => k_is)
    (case ig0 => k_is)
    (case ih0 => k_is)
    (case ij0 => k_is)
    (case ik0 => k_is)
    (case il0 => k_is)
    (case in0 => k_is)
    (case in0_finish => k_is)
    (case in0_is_over => k_is)
    (case in0_refuse => k_is)
    (case in0_seen => k_is)
    (case in0_take => k_is)
    (case io0_items_left => k_is)
    (case io0_spot => k_is)
    (case ip0_0 => kit_is)
    (case iq0_0 => kit_is)
    (case iq0_1 => kit_is)
    (case iq0_2 => kit_is)
    (case iq0_3 => kit_is)
    (case iq0_4 => kit_is)
    (case iq0_5 => kit_is)
    (case iq0_6 => kit_is)
    (case aH => k_is)
    (case lH => k_is)
    (case cH => k_is)
    (case eH => k_is)
    (case bH => k_is)
    (case xa0 => k_is)
    (case xa1 => k_is)
    (case xa2 => k_is)
    (case xa3 => k_is)
    (case ea0 => kernel_rfl)
    (case eb0 => k_is)
    (case ec0 => k_is)
    (case ed0 => k_is)
    (case ee0 => k_is)
    (case ef0 => k_is)
    (case eg0 => k_is)
    (case eh0 => k_is)
    (case ei0 => kts_exm)
    (case k0_0 => kit_is)
    (case k0_1 => kit_is)
    (case k0_2 => kit_is)
    (case k0_3 => kit_is)
    (case h0_item => k_is)
    (case h0_line => k_is)
    (case h0_part => k_is)
    (case ea1 => kernel_rfl)
    (case eb1 => k_is)
    (case ec1 => k_is)
    (case ed1 => k_is)
    (case ee1 => k_is)
    (case ef1 => k_is)
    (case eg1 => k_is)
    (case eh1 => k_is)
    (case ei1 => kts_exm)
    (case k1_0 => kit_is)
    (case k1_1 => kit_is)
    (case k1_2 => kit_is)
    (case k1_3 => kit_is)
    (case h1_item => k_is)
    (case h1_line => k_is)
    (case h1_part => k_is)
    (case ea2 => kernel_rfl)
    (case eb2 => k_is)
    (case ec2 => k_is)
    (case ed2 => k_is)
    (case ee2 => k_is)
    (case ef2 => k_is)
    (case eg2 => k_is)
    (case eh2 => k_is)
    (case ei2 => kts_exm)
    (case k2_0 => kit_is)
    (case k2_1 => kit_is)
    (case k2_2 => kit_is)
    (case k2_3 => kit_is)
    (case h2_item => k_is)
    (case h2_line => k_is)
    (case h2_part => k_is)
    (case ea3 => kernel_rfl)
    (case eb3 => k_is)
    (case ec3 => k_is)
    (case ed3 => k_is)
    (case ee3 => k_is)
    (case ef3 => k_is)
    (case eg3 => k_is)
    (case eh3 => k_is)
    (case ei3 => kts_exm)
    (case k3_0 => kit_is)
    (case k3_1 => kit_is)
    (case k3_2 => kit_is)
    (case k3_3 => kit_is)
    (case h3_item => k_is)
    (case h3_line => k_is)
    (case h3_part => k_is)
    (case z0 => k_is)
    (case z1 => k_is)
    (case z2 => k_is)
    (case z3 => k_is)
    (case z4 => k_is)
    (case z5 => k_is)
    (case z6 => k_is)
    (case z7 => k_is)
    (case z8 => k_is)
    (case z9 => k_is)
    (case z10 => k_is)
    (case z11 => k_is)
    (case z12 => k_is)
    (case z13 => k_is)
    (case z14 => k_is)
    (case z15 => k_is)
    (case z16 => k_is)
    (case z17 => k_is)
    (case z18 => k_is)
    (case z19 => k_is)
    (case z20 => k_is)
    (case oa30 => k_is)
    (case ob30 => rfl)
    (case og30 => kernel_rfl)
    (case oh30 => kernel_rfl)
    (case oi30 => decide +kernel)
    (case oa31 => k_is)
    (case ob31 => rfl)
    (case og31 => kernel_rfl)
    (case oh31 => kernel_rfl)
    (case oi31 => decide +kernel)
    (case od => decide +kernel)

