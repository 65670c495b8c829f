import PyProof.Rows.All
import Wide.All
import OpenK.AllK
import Wide.FinOn
import HandS.ForMost
import HandS.IsInst
import HandS.TupAny
import HandS.Deep
import HandS.Walk
import HandS.Evl
import HandS.SortInts
import HandS.Style
import HandS.Conv
import HandS.DictComp
import HandS.Text
import HandS.TupMul
import KE.DataCmp
import KE.KDictKeyed
import KE.KDictDisplayH
import KE.SortData
import KE.KDictPairs
import HandS.SortOrd
import KE.KSortTup
import KE.LtData
import KE.KDictSum
import PyProof.EqKinds
import PyProof.NeKinds
import PyProof.FactsAll.dict
import HandS.SetKeys
import HandS.SetBool
import PyProof.StrLawsIn
import PyProof.Rows.RegFStrParts
import PySem.Challenge.RW_orthorooms_k23_whole_hexagons
set_option Elab.async false
set_option linter.all false
set_option maxRecDepth 100000
set_option maxHeartbeats 4000000
/-! DL1: a small core language with slots in the place of names, and its weakest preconditions over plain data. -/
namespace DL
open PySem PySem.Spec PyProof.Rows L2
abbrev D := PyData
/-- the built-in classes that isinstance asks for -/
inductive BT where
  | bint | bbool | bstr | btuple | blist | bdict
  deriving DecidableEq
/-- built-ins of one argument -/
inductive BF where
  | len | int | tuple | list | sum | all | any | sorted | dict | str
  deriving DecidableEq
inductive CT where
  | nm (i : Nat)
  | tp (is : List Nat)
mutual
inductive CE where
  | var (i : Nat)
  | non | bl (b : Bool) | int (i : Int) | str (s : Str)
  | glb (k : Nat)
  | bin (op : Operator) (a b : CE)
  | cmp (op : CmpOp) (a b : CE)
  | chn (op op' : CmpOp) (a b c : CE)
  | neg (a : CE)
  | not (a : CE)
  | and (a b : CE)
  | or (a b : CE)
  | ite (c a b : CE)
  | tup (as : CEs)
  | lst (as : CEs)
  | ix (a i : CE)
  | sl (a : CE) (lo hi : CP)
  | call (k : Nat) (as : CEs)
  | b1 (f : BF) (a : CE)
  | rgl1 (t : Bool) (a : CE)
  | rgl2 (t : Bool) (a b : CE)
  | isi (a : CE) (ts : List BT)
  | comp (elt : CE) (tg : CT) (it : CI) (ifs : CEs) (own : List Nat)
  | dcomp (k v : CE) (tg : CT) (it : CI) (ifs : CEs) (own : List Nat)
  | dget (a k x : CE)
  | dnil
  | rev (a : CE)
  | join (a b : CE)
  | idx (a b : CE)
  | dset (k a : CE)
  | rng (a : CE)
  | cmpN (g : CGs)
inductive CEs where
  | nil
  | cons (a : CE) (r : CEs)
inductive CP where
  | no
  | some (a : CE)
/-- the fors of a comprehension, each with the slots that it and those behind it store -/
inductive CGs where
  | fin (e : CE)
  | cons (tg : CT) (it : CI) (ifs : CEs) (vs : List Nat) (r : CGs)
inductive CI where
  | val (a : CE)
  | rng1 (a : CE)
  | rng2 (a b : CE)
  | zip (a b : CE)
end
mutual
inductive CS where
  | pass | brk | cnt
  | asg (i : Nat) (e : CE)
  | par (i j : Nat) (a b : CE)
  | par3 (i j l : Nat) (a b c : CE)
  | parc (i j : Nat) (a b : CE)
  | unp (is : List Nat) (e : CE)
  | unp2 (i j l : Nat) (e : CE)
  | aug (i : Nat) (op : Operator) (e : CE)
  | ret (e : CE)
  | ite (c : CE) (a b : CSs)
  | for_ (tg : CT) (it : CI) (body : CSs)
  | whl (c : CE) (body : CSs)
  | app (i : Nat) (e : CE)
  | put (i : Nat) (k e : CE)
  | popl (i j : Nat)
  | ext (i : Nat) (e : CE)
inductive CSs where
  | nil
  | cons (s : CS) (r : CSs)
end

/-! ### results, slots -/
inductive R where
  | v (d : D)
  | nw (ds : List D)
  | bw (ds : List D)
  /-- a dict keyed by tuples that this def made -/
  | nd (kvs : List (D × D))
  | bd (kvs : List (D × D))
@[simp] def R.d : R → D
  | .v d => d
  | .nw ds => .list ds
  | .bw ds => .list ds
  | .nd kvs => .dict ((.none, .bool true) :: kvs)
  | .bd kvs => .dict ((.none, .bool true) :: kvs)
@[simp] def R.esc : R → Option D
  | .v d => some d
  | .nw ds => some (.list ds)
  | .bw _ => none
  | .nd _ => none
  | .bd _ => none
@[simp] def R.rt : R → R
  | .v d => .v d
  | .nw ds => .nw ds
  | .bw ds => .nw ds
  | .nd kvs => .nd kvs
  | .bd kvs => .nd kvs
inductive Sl where
  | no
  | val (d : D)
  | own (ds : List D)
  | dic (kvs : List (D × D))
abbrev En := List Sl
abbrev SpD := List D → (R → Prop) → Prop
/-- a def's promise asked for: simp looks at the promise alone -/
inductive Ph (Q : R → Prop) : Type where
  | mk
def callS (sp : SpD) (ds : List D) (Q : R → Prop) (_ : Ph Q) : Prop := sp ds Q
structure Gm where
  Φ : Nat → Option SpD
  Γ : Nat → Option D

/-! ### operations on data -/
/-- the handle that stands for the law's pool -/
def isPl : List (D × D) → Bool
  | [(.none, .none)] => true
  | _ => false
/-- .. or for a dict keyed by tuples -/
def isMk : List (D × D) → Bool
  | (.none, .bool true) :: _ => true
  | _ => false
/-- .. or for a range from 0 on -/
def isRg : List (D × D) → Bool
  | [(.none, .int _)] => true
  | _ => false
def isPool (kvs : List (D × D)) : Bool := isPl kvs || isMk kvs || isRg kvs
def rngD (lo : Int) (n : Nat) : List D := (List.range n).map fun (i : Nat) => PyData.int (lo + (i : Int))
/-! ### keys that are tuples -/
mutual
def nkey : D → Option NestedKey
  | .none => some .none
  | .bool b => some (.num (if b = true then 1 else 0))
  | .int i => some (.num i)
  | .str s => some (.text s)
  | .tuple ds => (nkeys ds).map .tup
  | _ => none
def nkeys : List D → Option (List NestedKey)
  | [] => some []
  | d :: ds => (nkey d).bind fun k => (nkeys ds).map (k :: ·)
end
/-- a tuple that may be a key -/
def keyOk : D → Bool
  | .tuple ds => (match nkey (.tuple ds) with | some k => decide (k.depth ≤ 8) | none => false)
  | _ => false
def eqT (a b : D) : Bool := decide (nkey a = nkey b)
def getT (kvs : List (D × D)) (k : D) : Option D := (kvs.find? fun kv => eqT kv.1 k).map (·.2)
def putT (kvs : List (D × D)) (k v : D) : List (D × D) := if (kvs.any fun kv => eqT kv.1 k) = true then kvs.map (fun kv => if eqT kv.1 k = true then (kv.1, v) else kv) else kvs ++ [(k, v)]
@[simp] def isK : D → Bool
  | .int _ => true
  | .str _ => true
  | _ => false
def eqK : D → D → Bool
  | .int a, .int b => decide (a = b)
  | .str a, .str b => decide (a = b)
  | _, _ => false
def getKV (kvs : List (D × D)) (k : D) : Option D := (kvs.find? fun kv => eqK kv.1 k).map (·.2)
def putKV (kvs : List (D × D)) (k v : D) : List (D × D) := if (kvs.any fun kv => eqK kv.1 k) = true then kvs.map (fun kv => if eqK kv.1 k = true then (kv.1, v) else kv) else kvs ++ [(k, v)]
def mergeKV (kvs more : List (D × D)) : List (D × D) := more.foldl (fun acc kv => putKV acc kv.1 kv.2) kvs
def pairsD : List D → Option (List (D × D))
  | [] => some []
  | .tuple [k, v] :: r => if isK k = true then (pairsD r).map ((k, v) :: ·) else none
  | _ => none
@[simp] def flatD : D → Bool
  | .none => true
  | .bool _ => true
  | .int _ => true
  | .str _ => true
  | _ => false
@[simp] def toV : D → V
  | .none => .non
  | .bool b => .bl b
  | .int i => .int i
  | .str s => .str s
  | _ => .non
@[simp] def itemsD : D → Option (List D)
  | .list ds => some ds
  | .tuple ds => some ds
  | .str s => some (s.cps.toList.map fun c => .str ⟨#[c]⟩)
  | .dict [(.none, .int n)] => some (rngD 0 n.toNat)
  | _ => none
@[simp] def R.bor : R → Bool
  | .bw _ => true
  | _ => false
@[simp] def dBin (op : Operator) (x y : D) (Q : R → Prop) : Prop :=
  match op, x, y with
  | .Add, .int i, .int j => Q (.v (.int (i + j)))
  | .Sub, .int i, .int j => Q (.v (.int (i - j)))
  | .Mult, .int i, .int j => CMul i j ∧ Q (.v (.int (i * j)))
  | .Mod, .int i, .int j => j ≠ 0 ∧ Q (.v (.int (i.fmod j)))
  | .FloorDiv, .int i, .int j => CDivN i j ∧ Q (.v (.int (i.fdiv j)))
  | .Add, .str a, .str b => a.length + b.length ≤ sizeLine ∧ Q (.v (.str (a ++ b)))
  | .Add, .list a, .list b => a.length + b.length ≤ sizeLine ∧ Q (.nw (a ++ b))
  | .Add, .tuple a, .tuple b => a.length + b.length ≤ sizeLine ∧ Q (.v (.tuple (a ++ b)))
  | .Mult, .tuple a, .int k => (a ≠ [] ∧ 2 ≤ k ∧ k ≤ 1000 ∧ a.length ≤ 1000) ∧ Q (.v (.tuple (List.replicate k.toNat a).flatten))
  | .Mult, .list a, .int k => -(2 ^ 63) ≤ k ∧ k < 2 ^ 63 ∧ a.length * k.toNat ≤ sizeLine ∧ Q (.nw (List.replicate k.toNat a).flatten)
  | _, _, _ => False
/-- == -/
@[simp] def dEq (x y : D) (Q : Bool → Prop) : Prop :=
  match x, y with
  | .int i, .int j => Q (decide (i = j))
  | .str a, .str b => Q (decide (a = b))
  | .bool a, .bool b => Q (decide (a = b))
  | .dict [], .tuple ys => SeqAt.shaped (.tuple ys) = true ∧ Q false
  | x, y => SeqAt.shaped x = true ∧ SeqAt.shaped y = true ∧ Q (PyData.eqv x y)
@[simp] def dIn (x y : D) (Q : Bool → Prop) : Prop :=
  match y with
  | .tuple ds => flatD x = true ∧ ds.all flatD = true ∧ Q (inV (toV x) (ds.map toV))
  | .list ds => (flatD x = true ∧ ds.all flatD = true ∧ Q (inV (toV x) (ds.map toV))) ∨ (SeqAt.shaped x = true ∧ SeqAt.shaped (.list ds) = true ∧ Q (ds.any fun z => PyData.eqv z x))
  | .str s => (match x with | .str a => Q (!(Builtin.Str.occurrences s a 0 s.length 1).isEmpty) | _ => False)
  | .dict kvs => (match x with
    | .int i => isPool kvs = false ∧ Q (getKV kvs (.int i)).isSome
    | .str i => isPool kvs = false ∧ Q (getKV kvs (.str i)).isSome
    | .tuple ks => (match kvs with
      | (.none, .bool true) :: r => keyOk (.tuple ks) = true ∧ Q (getT r (.tuple ks)).isSome
      | _ => False)
    | _ => False)
  | _ => False
@[simp] def isN : D → Bool
  | .none => true
  | _ => false
/-- order of tuples that are alike -/
def dOrd (x y : D) (Q : Bool → Prop) : Prop := PySem.W.alike x y = true ∧ SeqAt.shaped x = true ∧ SeqAt.shaped y = true ∧ Q (PySem.W.dataLt x y)
@[simp] def dCmp (op : CmpOp) (x y : D) (Q : Bool → Prop) : Prop :=
  match op with
  | .Eq => dEq x y Q
  | .NotEq => dEq x y fun b => Q (!b)
  | .Lt => (match x, y with | .int i, .int j => Q (decide (i < j)) | .str a, .str b => Q (decide (a.cps.toList < b.cps.toList)) | .tuple a, .tuple b => dOrd (.tuple a) (.tuple b) Q | _, _ => False)
  | .LtE => (match x, y with | .int i, .int j => Q (decide (i ≤ j)) | .str a, .str b => Q (!decide (b.cps.toList < a.cps.toList)) | .tuple a, .tuple b => dOrd (.tuple b) (.tuple a) fun t => Q (!t) | _, _ => False)
  | .Gt => (match x, y with | .int i, .int j => Q (decide (j < i)) | .str a, .str b => Q (decide (b.cps.toList < a.cps.toList)) | .tuple a, .tuple b => dOrd (.tuple b) (.tuple a) Q | _, _ => False)
  | .GtE => (match x, y with | .int i, .int j => Q (decide (j ≤ i)) | .str a, .str b => Q (!decide (a.cps.toList < b.cps.toList)) | .tuple a, .tuple b => dOrd (.tuple a) (.tuple b) fun t => Q (!t) | _, _ => False)
  | .In => dIn x y Q
  | .NotIn => dIn x y fun b => Q (!b)
  | .Is => (match y with | .none => Q (isN x) | _ => False)
  | .IsNot => (match y with | .none => Q (!isN x) | _ => False)
@[simp] def dTru (x : D) (Q : Bool → Prop) : Prop :=
  match x with
  | .none => Q false
  | .bool b => Q b
  | .int i => Q (i != 0)
  | .str s => s.length ≤ sizeLine ∧ Q ((s.length : Int) != 0)
  | .list ds => Q (!ds.isEmpty)
  | .tuple ds => Q (!ds.isEmpty)
  | _ => False
@[simp] def dIx (x i : D) (Q : R → Prop) : Prop :=
  match i with
  | .str k => (match x with
    | .dict kvs => isPool kvs = false ∧ (match getKV kvs (.str k) with | some d => Q (.v d) | none => False)
    | _ => False)
  | .int k => (match x with
    | .dict kvs => isPool kvs = false ∧ (match getKV kvs (.int k) with | some d => Q (.v d) | none => False)
    | .list ds => (match atI ds k with | some d => Q (.v d) | none => False)
    | .tuple ds => (match atI ds k with | some d => Q (.v d) | none => False)
    | .str s => s.length ≤ sizeLine ∧ (match atI s.cps.toList k with | some c => Q (.v (.str ⟨#[c]⟩)) | none => False)
    | _ => False)
  | .tuple ks => (match x with
    | .dict ((.none, .bool true) :: r) => keyOk (.tuple ks) = true ∧ (match getT r (.tuple ks) with | some d => Q (.v d) | none => False)
    | _ => False)
  | _ => False
/-- the items of xs[lo:hi] -/
def cutD (xs : List D) (lo hi : Option Int) : List D := (xs.drop (HT.sIx xs.length 0 lo)).take (HT.sIx xs.length xs.length hi - HT.sIx xs.length 0 lo)
@[simp] def dSl (x : D) (lo hi : Option Int) (Q : R → Prop) : Prop :=
  match x with
  | .list ds => Q (.nw (cutD ds lo hi))
  | .tuple ds => Q (.v (.tuple (cutD ds lo hi)))
  | _ => False
@[simp] def intsD : List D → Option (List Int)
  | [] => some []
  | .int i :: r => (intsD r).map (i :: ·)
  | _ => none
@[simp] def boolsD : List D → Option (List Bool)
  | [] => some []
  | .bool i :: r => (boolsD r).map (i :: ·)
  | _ => none
@[simp] def tupsD : List D → Option (List (List Int))
  | [] => some []
  | .tuple ds :: r => (match intsD ds, tupsD r with | some t, some ts => some (t :: ts) | _, _ => none)
  | _ => none
/-! ints, texts, tuples of such -/
mutual
def plnD : D → Bool
  | .int _ => true
  | .str z => PyData.strOk z
  | .tuple ds => plnDs ds
  | _ => false
def plnDs : List D → Bool
  | [] => true
  | d :: ds => plnD d && plnDs ds
end
/-! what can be compared: the first places that differ decide -/
mutual
def cmpb : D → D → Bool
  | .int _, .int _ => true
  | .str _, .str _ => true
  | .tuple xs, .tuple ys => cmpbs xs ys
  | _, _ => false
def cmpbs : List D → List D → Bool
  | [], _ => true
  | _ :: _, [] => true
  | x :: xs, y :: ys => if PyData.eqv x y = true then cmpbs xs ys else cmpb x y
end
/-- all can be compared, and begin with a text or are texts -/
def SrtOk (ds : List D) : Prop := (∀ d ∈ ds, ∀ e ∈ ds, cmpb d e = true) ∧ ((∀ d ∈ ds, ∃ z r, d = .tuple (.str z :: r)) ∨ ∀ d ∈ ds, ∃ z, d = .str z) ∧ ∀ d ∈ ds, plnD d = true ∧ d.depth ≤ 60
@[simp] def dSort (ds : List D) (Q : R → Prop) : Prop :=
  match intsD ds with
  | some ns => ∀ ms : List Int, ms.Perm ns → ms.Pairwise (· ≤ ·) → Q (.nw (ms.map .int))
  | none => (match tupsD ds with
    | some ts => ∀ us : List (List Int), us.Perm ts → us.Pairwise (fun x y => HT.lexLt y x = false) → Q (.nw (us.map fun t => .tuple (t.map .int)))
    | none => SrtOk ds ∧ Q (.nw (ds.mergeSort (PySem.W.dataLe false id))))
@[simp] def dB1 (f : BF) (x : D) (Q : R → Prop) : Prop :=
  match f, x with
  | .len, .list ds => Q (.v (.int ds.length))
  | .len, .tuple ds => Q (.v (.int ds.length))
  | .len, .str s => s.length ≤ sizeLine ∧ Q (.v (.int s.length))
  | .int, .int i => Q (.v (.int i))
  | .int, .bool b => Q (.v (.int (if b then 1 else 0)))
  | .tuple, .list ds => Q (.v (.tuple ds))
  | .tuple, .tuple ds => Q (.v (.tuple ds))
  | .list, .list ds => Q (.nw ds)
  | .list, .tuple ds => Q (.nw ds)
  | .list, .str s => s.length ≤ sizeLine ∧ Q (.nw (s.cps.toList.map fun c => .str ⟨#[c]⟩))
  | .sum, .list ds => (match intsD ds with | some ns => Q (.v (.int ns.sum)) | none => False)
  | .all, .list ds => (match boolsD ds with | some bs => Q (.v (.bool (bs.all id))) | none => False)
  | .any, .list ds => (match boolsD ds with | some bs => Q (.v (.bool (bs.any id))) | none => False)
  | .sorted, .list ds => dSort ds Q
  | .sorted, .dict ((.none, .bool true) :: kvs) => dSort (kvs.map (·.1)) Q
  | .list, .dict ((.none, .bool true) :: kvs) => Q (.nw (kvs.map (·.1)))
  | .str, .int i => i.natAbs.log2 < 1920 ∧ Q (.v (.str (toString i)))
  | .dict, .list ds => (match pairsD ds with | some kvs => Q (.v (.dict (mergeKV [] kvs))) | none => False)
  | .dict, .tuple ds => (match pairsD ds with | some kvs => Q (.v (.dict (mergeKV [] kvs))) | none => False)
  | _, _ => False
inductive KD where
  | none | bool | int | str | list | tuple | dict
@[simp] def kd : D → KD
  | .none => .none
  | .bool _ => .bool
  | .int _ => .int
  | .str _ => .str
  | .list _ => .list
  | .tuple _ => .tuple
  | .dict _ => .dict
@[simp] def isKT : KD → BT → Bool
  | .bool, .bbool => true
  | .bool, .bint => true
  | .int, .bint => true
  | .str, .bstr => true
  | .tuple, .btuple => true
  | .list, .blist => true
  | .dict, .bdict => true
  | _, _ => false
@[simp] def isT (d : D) (t : BT) : Bool := isKT (kd d) t
/-- isinstance is asked of all but handles -/
@[simp] def noDic : D → Bool
  | .dict kvs => !isPool kvs
  | _ => true
@[simp] def setAll : List Nat → List D → En → Option En
  | [], [], e => some e
  | i :: is, d :: ds, e => setAll is ds (e.set i (.val d))
  | _, _, _ => none
@[simp] def tgD (tg : CT) (d : D) (env : En) (Q : En → Prop) : Prop :=
  match tg with
  | .nm i => Q (env.set i (.val d))
  | .tp is => (match d with
    | .tuple ds => (match setAll is ds env with | some e => Q e | none => False)
    | _ => False)
@[simp] def wipeD (env : En) : List Nat → En
  | [] => env
  | v :: vs => (wipeD env vs).set v .no
@[simp] def rglR (t : Bool) (ds : List D) : R := if t = true then .v (.tuple ds) else .nw ds
@[simp] def strsD : List D → Option (List Str)
  | [] => some []
  | .str s :: r => (strsD r).map (s :: ·)
  | _ => none
/-- the comprehension's turns -/
def foldC (tst : En → (Bool → Prop) → Prop) (el : En → (R → Prop) → Prop) (tg : CT) (env : En) : List D → List D → (List D → Prop) → Prop
  | [], acc, Q => Q acc
  | d :: ds, acc, Q => tgD tg d env fun env1 => tst env1 fun b =>
      if b = true then el env1 fun r => (match r.esc with | some y => acc.length < sizeLine ∧ foldC tst el tg env ds (acc ++ [y]) Q | none => False)
      else foldC tst el tg env ds acc Q
inductive PhC (tst : En → (Bool → Prop) → Prop) (el : En → (R → Prop) → Prop) (Q : List D → Prop) : Type where
  | mk
/-- a comprehension from the start: simp leaves it -/
def runC (tst : En → (Bool → Prop) → Prop) (el : En → (R → Prop) → Prop) (tg : CT) (env : En) (items : List D) (Q : List D → Prop) (_ : PhC tst el Q) : Prop := foldC tst el tg env items [] Q
/-- a dict comprehension's turns -/
def foldDC (tst : En → (Bool → Prop) → Prop) (ek el : En → (R → Prop) → Prop) (tg : CT) (env : En) : List D → List (D × D) → (List (D × D) → Prop) → Prop
  | [], acc, Q => Q acc
  | d :: ds, acc, Q => tgD tg d env fun env1 => tst env1 fun b =>
      if b = true then ek env1 fun k => el env1 fun r => (match r.esc with | some y => isK k.d = true ∧ acc.length < sizeLine ∧ foldDC tst ek el tg env ds (putKV acc k.d y) Q | none => False)
      else foldDC tst ek el tg env ds acc Q
inductive PhD (tst : En → (Bool → Prop) → Prop) (ek el : En → (R → Prop) → Prop) (Q : List (D × D) → Prop) : Type where
  | mk
def runDC (tst : En → (Bool → Prop) → Prop) (ek el : En → (R → Prop) → Prop) (tg : CT) (env : En) (items : List D) (Q : List (D × D) → Prop) (_ : PhD tst ek el Q) : Prop := foldDC tst ek el tg env items [] Q
/-- the turns of a clause of a comprehension with several -/
def walkL {α : Type} (f : D → α → (α → Prop) → Prop) : List D → α → (α → Prop) → Prop
  | [], acc, Q => Q acc
  | d :: ds, acc, Q => f d acc fun acc' => walkL f ds acc' Q
inductive PhL {α : Type} (f : D → α → (α → Prop) → Prop) (Q : α → Prop) : Type where
  | mk
/-- .. from the start: simp leaves it -/
def runL {α : Type} (f : D → α → (α → Prop) → Prop) (items : List D) (acc : α) (Q : α → Prop) (_ : PhL f Q) : Prop := walkL f items acc Q
/-- a turn of a dict comprehension keyed by tuples -/
def turnT (tst : En → (Bool → Prop) → Prop) (ek el : En → (R → Prop) → Prop) (tg : CT) (env : En) : D → List (D × D) → (List (D × D) → Prop) → Prop := fun d acc Q => tgD tg d env fun env1 => tst env1 fun b =>
  if b = true then ek env1 fun k => el env1 fun r => (match r.esc with | some y => keyOk k.d = true ∧ acc.length < sizeLine ∧ Q (putT acc k.d y) | none => False) else Q acc
@[simp] def escs : List R → Option (List D)
  | [] => some []
  | r :: rs => (match r.esc with
    | some d => (match escs rs with | some ds => some (d :: ds) | none => none)
    | none => none)
def optI : D → Option Int
  | .int i => some i
  | _ => none

mutual
@[simp] def wpE (G : Gm) : CE → En → (R → Prop) → Prop
  | .var i, env, Q => (match env[i]? with
    | some (.val d) => Q (.v d)
    | some (.own ds) => Q (.bw ds)
    | some (.dic kvs) => Q (.bd kvs)
    | _ => False)
  | .non, _, Q => Q (.v .none)
  | .bl b, _, Q => Q (.v (.bool b))
  | .int i, _, Q => Q (.v (.int i))
  | .str s, _, Q => Q (.v (.str s))
  | .glb k, _, Q => (match G.Γ k with | some d => Q (.v d) | none => False)
  | .bin op a b, env, Q => wpE G a env fun x => wpE G b env fun y => dBin op x.d y.d Q
  | .cmp op a b, env, Q => wpE G a env fun x => wpE G b env fun y => dCmp op x.d y.d fun t => Q (.v (.bool t))
  | .chn op op' a b c, env, Q => wpE G a env fun x => wpE G b env fun y => dCmp op x.d y.d fun t =>
      if t = true then wpE G c env fun z => dCmp op' y.d z.d fun u => Q (.v (.bool u)) else Q (.v (.bool false))
  | .neg a, env, Q => wpE G a env fun x => (match x.d with | .int i => Q (.v (.int (-i))) | _ => False)
  | .not a, env, Q => wpE G a env fun x => (match x.d with | .bool b => Q (.v (.bool (!b))) | _ => False)
  | .and a b, env, Q => wpE G a env fun x => (match x.d with | .bool t => if t = true then wpE G b env Q else Q (.v (.bool false)) | _ => False)
  | .or a b, env, Q => wpE G a env fun x => (match x.d with | .bool t => if t = true then Q (.v (.bool true)) else wpE G b env Q | _ => False)
  | .ite c a b, env, Q => wpT G c env fun t => if t = true then wpE G a env Q else wpE G b env Q
  | .tup as, env, Q => wpEs G as env fun rs => (match escs rs with | some ds => ds.length ≤ sizeLine ∧ Q (.v (.tuple ds)) | none => False)
  | .lst as, env, Q => wpEs G as env fun rs => (match escs rs with | some ds => ds.length ≤ sizeLine ∧ Q (.nw ds) | none => False)
  | .ix a i, env, Q => wpE G a env fun x => wpE G i env fun y => dIx x.d y.d Q
  | .sl a lo hi, env, Q => wpE G a env fun x => wpP G lo env fun l => wpP G hi env fun h => dSl x.d l h Q
  | .call k as, env, Q => wpEs G as env fun rs => (match escs rs, G.Φ k with | some ds, some sp => callS sp ds Q .mk | _, _ => False)
  | .b1 f a, env, Q => wpE G a env fun x => dB1 f x.d Q
  | .rgl1 t a, env, Q => wpE G a env fun x => (match x.d with | .int j => (-(2 ^ 62) ≤ j ∧ j ≤ 16777216) ∧ Q (rglR t (rngD 0 j.toNat)) | _ => False)
  | .rgl2 t a b, env, Q => wpE G a env fun x => wpE G b env fun y => (match x.d, y.d with
    | .int i, .int j => (0 ≤ i ∧ i ≤ 16777216 ∧ 0 ≤ j ∧ j ≤ 16777216) ∧ Q (rglR t (rngD i (j - i).toNat))
    | _, _ => False)
  | .isi a ts, env, Q => wpE G a env fun x => noDic x.d = true ∧ Q (.v (.bool (ts.any (isT x.d))))
  | .comp elt tg it ifs own, env, Q => wpI G it env fun _ items => runC (wpTs G ifs) (wpE G elt) tg (wipeD env own) items (fun acc => Q (.nw acc)) .mk
  | .dcomp k elt tg it ifs own, env, Q => (wpI G it env fun _ items => runDC (wpTs G ifs) (wpE G k) (wpE G elt) tg (wipeD env own) items (fun acc => Q (.v (.dict acc))) .mk) ∨
      (wpI G it env fun b items => b = false ∧ runL (turnT (wpTs G ifs) (wpE G k) (wpE G elt) tg (wipeD env own)) items [] (fun acc => Q (.nd acc)) .mk)
  | .dnil, _, Q => Q (.v (.dict [])) ∨ Q (.nd [])
  | .dset k a, env, Q => wpE G k env fun y => wpE G a env fun x => (match x.esc with
    | some d => keyOk y.d = true ∧ Q (.nd [(y.d, d)])
    | none => False)
  | .idx a b, env, Q => wpE G a env fun x => (match x.d with
    | .list ds => wpE G b env fun y => SeqAt.shaped (.list ds) = true ∧ SeqAt.shaped y.d = true ∧ ∃ j : Nat, (∃ z, ds[j]? = some z ∧ PyData.eqv z y.d = true) ∧ (∀ i z, i < j → ds[i]? = some z → PyData.eqv z y.d = false) ∧ Q (.v (.int j))
    | _ => False)
  | .join a b, env, Q => wpE G a env fun x => (match x.d with
    | .str z => wpE G b env fun y => (match y.d with
      | .list ds => (match strsD ds with | some ys => (ys.map (·.length)).sum + ys.length * z.length ≤ 16777216 ∧ Q (.v (.str (Txt.join z ys))) | none => False)
      | _ => False)
    | _ => False)
  | .rng a, env, Q => wpE G a env fun x => (match x.d with | .int j => (0 ≤ j ∧ j ≤ 16777216) ∧ Q (.v (.dict [(.none, .int j)])) | _ => False)
  | .cmpN g, env, Q => wpG G g env [] fun acc => Q (.nw acc)
  | .rev a, env, Q => wpE G a env fun x => (match x.d with
    | .list ds => Q (.nw ds.reverse)
    | .tuple ds => Q (.v (.tuple ds.reverse))
    | _ => False)
  | .dget a k x, env, Q => wpE G a env fun r => (match r.d with
    | .dict kvs => isPool kvs = false ∧ wpE G k env fun y => wpE G x env fun z => (match z.esc with
      | some zd => isK y.d = true ∧ Q (.v ((getKV kvs y.d).getD zd))
      | none => False)
    | _ => False)
/-- the clauses of a comprehension; those behind the first walk no list of the def's own -/
@[simp] def wpG (G : Gm) : CGs → En → List D → (List D → Prop) → Prop
  | .fin e, env, acc, Q => wpE G e env fun r => (match r.esc with | some y => acc.length < sizeLine ∧ Q (acc ++ [y]) | none => False)
  | .cons tg it ifs vs r, env, acc, Q => wpI G it env fun b items => b = false ∧ runL (fun d acc Q => tgD tg d (wipeD env vs) fun env1 => wpTs G ifs env1 fun t => if t = true then wpG G r env1 acc Q else Q acc) items acc Q .mk
@[simp] def wpEs (G : Gm) : CEs → En → (List R → Prop) → Prop
  | .nil, _, Q => Q []
  | .cons a r, env, Q => wpE G a env fun x => wpEs G r env fun xs => Q (x :: xs)
@[simp] def wpP (G : Gm) : CP → En → (Option Int → Prop) → Prop
  | .no, _, Q => Q none
  | .some a, env, Q => wpE G a env fun x => (match x.d with | .int i => Q (some i) | _ => False)
/-- what is walked -/
@[simp] def wpI (G : Gm) : CI → En → (Bool → List D → Prop) → Prop
  | .val a, env, Q => wpE G a env fun x => (match itemsD x.d with | some ds => Q x.bor ds | none => False)
  | .rng1 a, env, Q => wpE G a env fun x => (match x.d with | .int j => -(2 ^ 62) ≤ j ∧ j < 2 ^ 62 ∧ Q false (rngD 0 j.toNat) | _ => False)
  | .rng2 a b, env, Q => wpE G a env fun x => wpE G b env fun y => (match x.d, y.d with
    | .int i, .int j => (-(2 ^ 62) ≤ i ∧ i < 2 ^ 62 ∧ -(2 ^ 62) ≤ j ∧ j < 2 ^ 62) ∧ Q false (rngD i (j - i).toNat)
    | _, _ => False)
  | .zip _ _, _, _ => False
/-- as a test -/
@[simp] def wpT (G : Gm) : CE → En → (Bool → Prop) → Prop
  | .not a, env, Q => wpT G a env fun b => Q (!b)
  | .and a b, env, Q => wpT G a env fun t => if t = true then wpT G b env Q else Q false
  | .or a b, env, Q => wpT G a env fun t => if t = true then Q true else wpT G b env Q
  | .cmp op a b, env, Q => wpE G a env fun x => wpE G b env fun y => dCmp op x.d y.d Q
  | .chn op op' a b c, env, Q => wpE G a env fun x => wpE G b env fun y => dCmp op x.d y.d fun t =>
      if t = true then wpE G c env fun z => dCmp op' y.d z.d Q else Q false
  | .ite _ _ _, _, _ => False
  | .var i, env, Q => (match env[i]? with
    | some (.val d) => dTru d Q
    | some (.own ds) => dTru (.list ds) Q
    | _ => False)
  | .ix a i, env, Q => wpE G a env fun x => wpE G i env fun y => dIx x.d y.d fun r => dTru r.d Q
  | .call k as, env, Q => wpEs G as env fun rs => (match escs rs, G.Φ k with | some ds, some sp => callS sp ds (fun r => dTru r.d Q) .mk | _, _ => False)
  | .b1 f a, env, Q => wpE G a env fun x => dB1 f x.d fun r => dTru r.d Q
  | .isi a ts, env, Q => wpE G a env fun x => noDic x.d = true ∧ Q (ts.any (isT x.d))
  | _, _, _ => False
@[simp] def wpTs (G : Gm) : CEs → En → (Bool → Prop) → Prop
  | .nil, _, Q => Q true
  | .cons a .nil, env, Q => wpT G a env Q
  | .cons _ (.cons _ _), _, _ => False
end

/-! ### what escapes: own lists that a statement gives away are frozen ahead of it -/
mutual
@[simp] def esc : CE → List Nat
  | .var i => [i]
  | .ite c a b => nes c ++ esc a ++ esc b
  | e => nes e
/-- .. inside of an expression whose own value is only looked at -/
@[simp] def nes : CE → List Nat
  | .bin _ a b => nes a ++ nes b
  | .cmp _ a b => nes a ++ nes b
  | .chn _ _ a b c => nes a ++ nes b ++ nes c
  | .neg a => nes a
  | .not a => nes a
  | .and a b => nes a ++ nes b
  | .or a b => nes a ++ nes b
  | .ite c a b => nes c ++ nes a ++ nes b
  | .tup as => escL as
  | .lst as => escL as
  | .ix a i => nes a ++ nes i
  | .sl a lo hi => nes a ++ nesP lo ++ nesP hi
  | .call _ as => escL as
  | .b1 _ a => nes a
  | .rgl1 _ a => nes a
  | .rgl2 _ a b => nes a ++ nes b
  | .isi a _ => nes a
  | .comp elt _ it ifs own => (esc elt).filter (fun i => !own.contains i) ++ nesI it ++ nesL ifs
  | .dcomp k elt _ it ifs own => (nes k ++ esc elt).filter (fun i => !own.contains i) ++ nesI it ++ nesL ifs
  | .dget a k x => nes a ++ nes k ++ esc x
  | .rev a => nes a
  | .join a b => nes a ++ nes b
  | .idx a b => nes a ++ nes b
  | .dset k a => nes k ++ esc a
  | .rng a => nes a
  | .cmpN g => nesG g
  | _ => []
@[simp] def nesG : CGs → List Nat
  | .fin e => esc e
  | .cons _ it ifs vs r => nesI it ++ (nesL ifs ++ nesG r).filter (fun i => !vs.contains i)
@[simp] def escL : CEs → List Nat
  | .nil => []
  | .cons a r => esc a ++ escL r
@[simp] def nesL : CEs → List Nat
  | .nil => []
  | .cons a r => nes a ++ nesL r
@[simp] def nesP : CP → List Nat
  | .no => []
  | .some a => nes a
@[simp] def nesI : CI → List Nat
  | .val a => nes a
  | .rng1 a => nes a
  | .rng2 a b => nes a ++ nes b
  | .zip a b => nes a ++ nes b
end
@[simp] def escI : CI → List Nat
  | .val a => esc a
  | .rng1 a => nes a
  | .rng2 a b => nes a ++ nes b
  | .zip a b => esc a ++ esc b
@[simp] def frz1 (env : En) (i : Nat) : En :=
  match env[i]? with
  | some (.own ds) => env.set i (.val (.list ds))
  | _ => env
@[simp] def frz (env : En) (is : List Nat) : En := is.foldl frz1 env
/-- what a statement's own expressions give away -/
@[simp] def escS : CS → List Nat
  | .asg _ e => esc e
  | .par _ _ a b => esc a ++ esc b
  | .par3 _ _ _ a b c => esc a ++ esc b ++ esc c
  | .parc _ _ a b => esc a ++ esc b
  | .unp _ e => esc e
  | .unp2 _ _ _ e => esc e
  | .aug _ _ e => nes e
  | .ret e => nes e
  | .ite c _ _ => nes c
  | .for_ _ it _ => escI it
  | .app _ e => esc e
  | .put _ k e => esc e ++ nes k
  | .ext _ e => nes e
  | _ => []
structure DE where
  nx : En → Prop
  rt : R → Prop
  bk : En → Prop := fun _ => False
  ct : En → Prop := fun _ => False
def foldF (body : DE → En → Prop) (tg : CT) (D0 : DE) : List D → En → Prop
  | [], env => D0.nx env
  | d :: ds, env => tgD tg d env fun env1 => body { D0 with nx := foldF body tg D0 ds, ct := foldF body tg D0 ds, bk := D0.nx } env1
inductive PhF (body : DE → En → Prop) (D0 : DE) : Type where
  | mk
/-- a for from the start: simp leaves it -/
def runF (body : DE → En → Prop) (tg : CT) (D0 : DE) (items : List D) (env : En) (_ : PhF body D0) : Prop := foldF body tg D0 items env
@[simp] def augD (op : Operator) (a : Int) (y : D) (Q : Int → Prop) : Prop :=
  match op, y with
  | .Add, .int b => Q (a + b)
  | .Sub, .int b => Q (a - b)
  | _, _ => False
@[simp] def asgD (i : Nat) (r : R) (env : En) (Q : En → Prop) : Prop :=
  match r with
  | .v d => Q (env.set i (.val d))
  | .nw ds => Q (env.set i (.own ds))
  | .bw _ => False
  | .nd kvs => Q (env.set i (.dic kvs))
  | .bd _ => False
@[simp] def retD (r : R) (Q : R → Prop) : Prop :=
  match r with
  | .v d => Q (.v d)
  | .nw ds => Q (.nw ds)
  | .bw ds => Q (.nw ds)
  | _ => False
mutual
@[simp] def wpS (G : Gm) : CS → DE → En → Prop
  | .pass, K, env => K.nx env
  | .brk, K, env => K.bk env
  | .cnt, K, env => K.ct env
  | .asg i e, K, env => wpE G e env fun r => asgD i r env K.nx
  | .par i j a b, K, env => wpE G a env fun x => wpE G b env fun y => asgD i x env fun e => asgD j y e K.nx
  | .parc i j a b, K, env => wpE G a env fun x => wpE G b env fun y => asgD i x env fun e => asgD j y e K.nx
  | .par3 i j l a b c, K, env => wpE G a env fun x => wpE G b env fun y => wpE G c env fun z => asgD i x env fun e => asgD j y e fun e' => asgD l z e' K.nx
  | .unp is e, K, env => wpE G e env fun r => tgD (.tp is) r.d env K.nx
  | .unp2 i j l e, K, env => wpE G e env fun r => (match r.d with | .tuple [.tuple [a, b], c] => K.nx (((env.set i (.val a)).set j (.val b)).set l (.val c)) | _ => False)
  | .aug i op e, K, env => (match env[i]? with
    | some (.val (.int a)) => wpE G e env fun r => augD op a r.d fun z => K.nx (env.set i (.val (.int z)))
    | _ => False)
  | .ret e, K, env => wpE G e env fun r => retD r K.rt
  | .ite c a b, K, env => wpT G c env fun t => if t = true then wpSs G a K env else wpSs G b K env
  | .for_ tg it body, K, env => wpI G it env fun b items => b = false ∧ runF (wpSs G body) tg K items env .mk
  | .whl c body, K, env => ∃ W : Nat → En → Prop, (∃ m, W m env) ∧ ∀ m env', W m env' → wpT G c env' fun t =>
      if t = true then wpSs G body { K with nx := fun e => ∃ m', m' < m ∧ W m' e, ct := fun e => ∃ m', m' < m ∧ W m' e, bk := K.nx } env' else K.nx env'
  | .app i e, K, env => (match env[i]? with
    | some (.own ds) => wpE G e env fun r => (match r.esc with
      | some d => ds.length < sizeLine ∧ K.nx (env.set i (.own (ds ++ [d])))
      | none => False)
    | _ => False)
  | .put i k e, K, env => (match env[i]? with
    | some (.dic kvs) => wpE G e env fun r => (match r.esc with
      | some d => wpE G k env fun y => keyOk y.d = true ∧ kvs.length < sizeLine ∧ K.nx (env.set i (.dic (putT kvs y.d d)))
      | none => False)
    | _ => False)
  | .popl i j, K, env => (match env[i]? with
    | some (.own ds) => (match ds.getLast? with | some d => K.nx ((env.set i (.own ds.dropLast)).set j (.val d)) | none => False)
    | _ => False)
  | .ext i e, K, env => (match env[i]? with
    | some (.own ds) => wpE G e env fun r => (match r.d with
      | .tuple es => ds.length + es.length ≤ sizeLine ∧ K.nx (env.set i (.own (ds ++ es)))
      | .list es => ds.length + es.length ≤ sizeLine ∧ K.nx (env.set i (.own (ds ++ es)))
      | _ => False)
    | _ => False)
@[simp] def wpSs (G : Gm) : CSs → DE → En → Prop
  | .nil, K, env => K.nx env
  | .cons s r, K, env => wpS G s { K with nx := wpSs G r K } (frz env (escS s))
end
/-- a def's body with its arguments -/
@[simp] def wpF (G : Gm) (n : Nat) (body : CSs) (ds : List D) (Q : R → Prop) : Prop :=
  wpSs G body { nx := fun _ => Q (.v .none), rt := Q } (ds.map Sl.val ++ List.replicate (n - ds.length) .no)
end DL

/-! DL2: how data lie in the abstract heap; the state's relation. -/
namespace DL
open PySem PySem.Spec PyProof.Rows L2
/-- the heap without the addresses of O -/
def hid (H : Hp) (O : Addr → Bool) : Hp := fun b => if O b = true then none else H b
theorem hid_some {H : Hp} {O : Addr → Bool} {a : Addr} {o : HO} (h : hid H O a = some o) : H a = some o ∧ O a = false := by
  unfold hid at h
  by_cases e : O a = true
  · rw [if_pos e] at h; cases h
  · rw [if_neg e] at h; exact ⟨h, by simpa using e⟩
theorem hid_of {H : Hp} {O : Addr → Bool} {a : Addr} {o : HO} (h : H a = some o) (e : O a = false) : hid H O a = some o := by
  unfold hid; rw [if_neg (by simp [e])]; exact h
/-- the handle that stands for the law's pool -/
def poolD : D := .dict [(.none, .none)]
/-- a tuple that has no dict of its own -/
def PlT (K : PySem.W.Frag) (H : Hp) (a : Addr) : Prop := (∃ o u, H a = some (.frz o u) ∧ o.dict = none) ∨ ∃ o, K.lookup a = some o ∧ o.dict = none
def SqP (K : PySem.W.Frag) (H : Hp) (a : Addr) (vs : List V) : Prop := SqT K H a vs ∧ PlT K H a
def kD : Key → D
  | .inl i => .int i
  | .inr s => .str s
mutual
def Rep (K : PySem.W.Frag) (p : Addr) (H : Hp) : D → V → Prop
  | .none, v => v = .non
  | .bool b, v => v = .bl b
  | .int i, v => v = .int i
  | .str s, v => v = .str s
  | .list ds, v => ∃ a vs, v = .ref a ∧ H a = some (.lst vs) ∧ RepL K p H ds vs
  | .tuple ds, v => ∃ a vs, v = .ref a ∧ SqP K H a vs ∧ RepL K p H ds vs
  | .dict kvs, v => (isPl kvs = true ∧ v = .ref p) ∨ (∃ a ks, v = .ref a ∧ H a = some (.dK ks) ∧ RepKV K p H kvs ks) ∨ ∃ (a : Addr) (n : Int), kvs = [(.none, .int n)] ∧ v = .ref a ∧ H a = some (.rng 0 n) ∧ 0 ≤ n ∧ n ≤ 16777216
def RepL (K : PySem.W.Frag) (p : Addr) (H : Hp) : List D → List V → Prop
  | [], vs => vs = []
  | d :: ds, vs => ∃ x xs, vs = x :: xs ∧ Rep K p H d x ∧ RepL K p H ds xs
def RepKV (K : PySem.W.Frag) (p : Addr) (H : Hp) : List (D × D) → List (Key × V) → Prop
  | [], ks => ks = []
  | kv :: kvs, ks => ∃ k x xs, ks = (k, x) :: xs ∧ RepP K p H kv k x ∧ RepKV K p H kvs xs
def RepP (K : PySem.W.Frag) (p : Addr) (H : Hp) : D × D → Key → V → Prop
  | (k, d), kk, x => kD kk = k ∧ Rep K p H d x
end
section
variable {K : PySem.W.Frag} {p : Addr} {H H' : Hp}
theorem SqT.same {a : Addr} {vs : List V} (s : Same H H') (h : SqT K H a vs) : SqT K H' a vs := by
  rcases h with (h | ⟨o, h⟩) | h
  · exact .inl (.inl (s _ _ h))
  · exact .inl (.inr ⟨o, s _ _ h⟩)
  · exact .inr h
theorem PlT.same {a : Addr} (s : Same H H') (h : PlT K H a) : PlT K H' a := by
  rcases h with ⟨o, u, h, d⟩ | h
  · exact .inl ⟨o, u, s _ _ h, d⟩
  · exact .inr h
theorem SqP.same {a : Addr} {vs : List V} (s : Same H H') (h : SqP K H a vs) : SqP K H' a vs := ⟨SqT.same s h.1, h.2.same s⟩
theorem SqP.new {a : Addr} {vs : List V} {o : Obj} (h : H a = some (.frz o (.tup vs))) (d : o.dict = none) : SqP K H a vs := ⟨.inl (.inr ⟨o, h⟩), .inl ⟨o, _, h, d⟩⟩
mutual
theorem Rep.mono (s : Same H H') : ∀ {d : D} {v : V}, Rep K p H d v → Rep K p H' d v
  | .none, _, h => h
  | .bool _, _, h => h
  | .int _, _, h => h
  | .str _, _, h => h
  | .list ds, _, h => by
    obtain ⟨a, vs, e, h1, h2⟩ := h
    exact ⟨a, vs, e, s _ _ h1, RepL.mono s h2⟩
  | .tuple ds, _, h => by
    obtain ⟨a, vs, e, h1, h2⟩ := h
    exact ⟨a, vs, e, SqP.same s h1, RepL.mono s h2⟩
  | .dict kvs, _, h => by
    rcases h with h | ⟨a, ks, e, h1, h2⟩ | ⟨a, n, e, h1, h2, h3⟩
    · exact .inl h
    · exact .inr (.inl ⟨a, ks, e, s _ _ h1, RepKV.mono s h2⟩)
    · exact .inr (.inr ⟨a, n, e, h1, s _ _ h2, h3⟩)
theorem RepL.mono (s : Same H H') : ∀ {ds : List D} {vs : List V}, RepL K p H ds vs → RepL K p H' ds vs
  | [], _, h => h
  | d :: ds, _, h => by
    obtain ⟨x, xs, e, h1, h2⟩ := h
    exact ⟨x, xs, e, Rep.mono s h1, RepL.mono s h2⟩
theorem RepKV.mono (s : Same H H') : ∀ {kvs : List (D × D)} {ks : List (Key × V)}, RepKV K p H kvs ks → RepKV K p H' kvs ks
  | [], _, h => h
  | kv :: kvs, _, h => by
    obtain ⟨k, x, xs, e, h1, h2⟩ := h
    exact ⟨k, x, xs, e, RepP.mono s h1, RepKV.mono s h2⟩
theorem RepP.mono (s : Same H H') : ∀ {kv : D × D} {k : Key} {x : V}, RepP K p H kv k x → RepP K p H' kv k x
  | (k, d), _, _, h => ⟨h.1, Rep.mono s h.2⟩
end
theorem RepL.length : ∀ {ds : List D} {vs : List V}, RepL K p H ds vs → vs.length = ds.length
  | [], _, h => by rw [show _ = [] from h]; rfl
  | d :: ds, _, h => by
    obtain ⟨x, xs, e, _, h2⟩ := h
    rw [e, List.length_cons, List.length_cons, RepL.length h2]
theorem RepL.get : ∀ {ds : List D} {vs : List V} {i : Nat} {d : D}, RepL K p H ds vs → ds[i]? = some d → ∃ v, vs[i]? = some v ∧ Rep K p H d v
  | [], _, _, _, _, h => by simp at h
  | d :: ds, _, 0, _, h, e => by
    obtain ⟨x, xs, rfl, h1, h2⟩ := h
    have e' : d = _ := Option.some.inj e
    subst e'
    exact ⟨x, rfl, h1⟩
  | d :: ds, _, i + 1, _, h, e => by
    obtain ⟨x, xs, rfl, h1, h2⟩ := h
    obtain ⟨v, q1, q2⟩ := RepL.get (i := i) h2 (by simpa using e)
    exact ⟨v, by simpa using q1, q2⟩
theorem RepL.get' : ∀ {ds : List D} {vs : List V} {i : Nat} {v : V}, RepL K p H ds vs → vs[i]? = some v → ∃ d, ds[i]? = some d ∧ Rep K p H d v
  | [], _, _, _, h, e => by
    rw [show _ = [] from h] at e
    simp at e
  | d :: ds, _, 0, _, h, e => by
    obtain ⟨x, xs, rfl, h1, h2⟩ := h
    have e' : x = _ := Option.some.inj e
    subst e'
    exact ⟨d, rfl, h1⟩
  | d :: ds, _, i + 1, _, h, e => by
    obtain ⟨x, xs, rfl, h1, h2⟩ := h
    obtain ⟨v, q1, q2⟩ := RepL.get' (i := i) h2 (by simpa using e)
    exact ⟨v, by simpa using q1, q2⟩
theorem RepL.append : ∀ {ds es : List D} {vs ws : List V}, RepL K p H ds vs → RepL K p H es ws → RepL K p H (ds ++ es) (vs ++ ws)
  | [], _, _, _, h, g => by
    rw [show _ = [] from h]
    exact g
  | d :: ds, _, _, _, h, g => by
    obtain ⟨x, xs, rfl, h1, h2⟩ := h
    exact ⟨x, _, rfl, h1, RepL.append h2 g⟩
theorem RepL.take : ∀ {ds : List D} {vs : List V} (n : Nat), RepL K p H ds vs → RepL K p H (ds.take n) (vs.take n)
  | _, _, 0, _ => by rw [List.take_zero, List.take_zero]; exact rfl
  | [], _, n + 1, h => by
    rw [show _ = [] from h]
    exact rfl
  | d :: ds, _, n + 1, h => by
    obtain ⟨x, xs, rfl, h1, h2⟩ := h
    exact ⟨x, _, rfl, h1, RepL.take n h2⟩
theorem RepL.drop : ∀ {ds : List D} {vs : List V} (n : Nat), RepL K p H ds vs → RepL K p H (ds.drop n) (vs.drop n)
  | _, _, 0, h => h
  | [], _, n + 1, h => by
    rw [show _ = [] from h]
    exact rfl
  | d :: ds, _, n + 1, h => by
    obtain ⟨x, xs, rfl, h1, h2⟩ := h
    exact RepL.drop n h2
theorem RepL.one {d : D} {v : V} (h : Rep K p H d v) : RepL K p H [d] [v] := ⟨v, [], rfl, h, rfl⟩
theorem Rep.flat {d : D} {v : V} (h : Rep K p H d v) (f : flatD d = true) : v = toV d ∧ flatV v = true := by
  cases d with
  | none => rw [show v = .non from h]; exact ⟨rfl, rfl⟩
  | bool b => rw [show v = .bl b from h]; exact ⟨rfl, rfl⟩
  | int b => rw [show v = .int b from h]; exact ⟨rfl, rfl⟩
  | str b => rw [show v = .str b from h]; exact ⟨rfl, rfl⟩
  | list b => cases f
  | tuple b => cases f
  | dict b => cases f
theorem RepL.flat : ∀ {ds : List D} {vs : List V}, RepL K p H ds vs → ds.all flatD = true → vs = ds.map toV ∧ vs.all flatV = true
  | [], _, h, _ => by
    rw [show _ = [] from h]
    exact ⟨rfl, rfl⟩
  | d :: ds, _, h, f => by
    obtain ⟨x, xs, rfl, h1, h2⟩ := h
    rw [List.all_cons, Bool.and_eq_true] at f
    obtain ⟨q1, q2⟩ := Rep.flat h1 f.1
    obtain ⟨q3, q4⟩ := RepL.flat h2 f.2
    refine ⟨by rw [q1, q3]; rfl, ?_⟩
    rw [List.all_cons, q2, q4]
    rfl
mutual
theorem Rep.dp : ∀ {d : D} {v : V}, Rep K p H d v → PyData.canLay0 d = true → Dp K H v d
  | .none, _, h, _ => by rw [show _ = _ from h]; exact .non
  | .bool _, _, h, _ => by rw [show _ = _ from h]; exact .bl _
  | .int _, _, h, _ => by rw [show _ = _ from h]; exact .int _
  | .str _, _, h, _ => by rw [show _ = _ from h]; exact .str _
  | .list ds, _, h, c => by
    obtain ⟨a, vs, e, h1, h2⟩ := h
    rw [e]
    exact .lst (SqL.of h1) (RepL.dp h2 (by simpa [PyData.canLay0] using c))
  | .tuple ds, _, h, c => by
    obtain ⟨a, vs, e, h1, h2⟩ := h
    rw [e]
    exact .tup h1.1 (RepL.dp h2 (by simpa [PyData.canLay0] using c))
  | .dict kvs, _, h, c => by simp [PyData.canLay0] at c
theorem RepL.dp : ∀ {ds : List D} {vs : List V}, RepL K p H ds vs → PyData.canLayAll0 ds = true → DpAll K H vs ds
  | [], _, h, _ => by rw [show _ = [] from h]; exact .nil
  | d :: ds, _, h, c => by
    obtain ⟨x, xs, rfl, h1, h2⟩ := h
    have c' : PyData.canLay0 d = true ∧ PyData.canLayAll0 ds = true := by simpa [PyData.canLayAll0] using c
    exact .cons (Rep.dp h1 c'.1) (RepL.dp h2 c'.2)
end
theorem RepL.ints : ∀ {ds : List D} {vs : List V} {ns : List Int}, RepL K p H ds vs → intsD ds = some ns → vs = ns.map V.int
  | [], _, _, h, e => by
    rw [show _ = [] from h]
    rw [← Option.some.inj (show some [] = some _ from e)]
    rfl
  | d :: ds, _, ns, h, e => by
    obtain ⟨x, xs, rfl, h1, h2⟩ := h
    cases d with
    | int i =>
      unfold intsD at e
      rw [Option.map_eq_some_iff] at e
      obtain ⟨ms, e1, e2⟩ := e
      subst e2
      rw [List.map_cons, RepL.ints h2 e1, show x = .int i from h1]
    | _ => cases e
theorem RepL.bools : ∀ {ds : List D} {vs : List V} {ns : List Bool}, RepL K p H ds vs → boolsD ds = some ns → vs = ns.map V.bl
  | [], _, _, h, e => by
    rw [show _ = [] from h]
    rw [← Option.some.inj (show some [] = some _ from e)]
    rfl
  | d :: ds, _, ns, h, e => by
    obtain ⟨x, xs, rfl, h1, h2⟩ := h
    cases d with
    | bool i =>
      unfold boolsD at e
      rw [Option.map_eq_some_iff] at e
      obtain ⟨ms, e1, e2⟩ := e
      subst e2
      rw [List.map_cons, RepL.bools h2 e1, show x = .bl i from h1]
    | _ => cases e
end

/-! ### dicts keyed by tuples -/
def entW (w : World) (x : NestedKey × Addr × Value) : DictEntry := ⟨x.1.hash w, .ref x.2.1, x.2.2⟩
def DtObj (w : World) (xs : List (NestedKey × Addr × Value)) (o : Obj) : Prop := o.ExactDict ∧ (∃ es ep, o.data = .dict es ep ∧ es.toList = xs.map (entW w)) ∧ (xs.map (·.1)).Nodup
def DtIs (w : World) (a : Addr) (xs : List (NestedKey × Addr × Value)) (h : Heap) : Prop := (a == sysModules) = false ∧ xs.length ≤ sizeLine ∧ ∃ o, h.get? a = some o ∧ DtObj w xs o
/-- a dict keyed by tuples, as a tracked thing -/
def dtO (w : World) (a : Addr) (xs : List (NestedKey × Addr × Value)) : HO := .ext (DtIs w a xs)
theorem dtO_ok {P : Program} {w w' : World} {H : Hp} {h : Heap} {a : Addr} {xs : List (NestedKey × Addr × Value)} (x : DtIs w a xs h) : ObjOk P w' H h a (dtO w a xs) := by
  refine ⟨x, ?_, fun h1 h2 y k => ?_⟩
  · obtain ⟨_, _, o, e, _⟩ := x
    exact ⟨o, e⟩
  · obtain ⟨y1, y2, o, e, y3⟩ := y
    exact ⟨y1, y2, o, k o e, y3⟩
/-- its entries, in order -/
def RepX (K : PySem.W.Frag) (p : Addr) (H : Hp) : List (D × D) → List (NestedKey × Addr × Value) → Prop
  | [], xs => xs = []
  | kv :: kvs, xs => ∃ k b u ys z, xs = (k, b, u) :: ys ∧ nkey kv.1 = some k ∧ keyOk kv.1 = true ∧ Rep K p H kv.1 (.ref b) ∧ RelV z u ∧ Rep K p H kv.2 z ∧ RepX K p H kvs ys
section
variable {K : PySem.W.Frag} {p : Addr} {H H' : Hp}
theorem RepX.mono (s : Same H H') : ∀ {kvs : List (D × D)} {xs : List (NestedKey × Addr × Value)}, RepX K p H kvs xs → RepX K p H' kvs xs
  | [], _, h => h
  | kv :: kvs, _, h => by
    obtain ⟨k, b, u, ys, z, e, h1, h2, h3, h4, h5, h6⟩ := h
    exact ⟨k, b, u, ys, z, e, h1, h2, h3.mono s, h4, h5.mono s, h6.mono s⟩
theorem RepX.length : ∀ {kvs : List (D × D)} {xs : List (NestedKey × Addr × Value)}, RepX K p H kvs xs → xs.length = kvs.length
  | [], _, h => by rw [show _ = [] from h]; rfl
  | kv :: kvs, _, h => by
    obtain ⟨k, b, u, ys, z, e, _, _, _, _, _, h6⟩ := h
    rw [e, List.length_cons, List.length_cons, RepX.length h6]
/-- the keys alone -/
theorem RepX.keys : ∀ {kvs : List (D × D)} {xs : List (NestedKey × Addr × Value)}, RepX K p H kvs xs → RepL K p H (kvs.map (·.1)) (xs.map fun x => V.ref x.2.1)
  | [], _, h => by rw [show _ = [] from h]; exact rfl
  | kv :: kvs, _, h => by
    obtain ⟨k, b, u, ys, z, rfl, _, _, h3, _, _, h6⟩ := h
    exact ⟨_, _, rfl, h3, RepX.keys h6⟩
end

/-! ### the law's pool; the state -/
def PoolOk (p a0 : Addr) (H : Hp) : Prop :=
  ∃ k m c s : Int, H p = some (.lst [.ref a0, .int k, .int m, .int c, .int s]) ∧ (∃ ns : List Int, ns.length ≤ 63 ∧ H a0 = some (.lst (ns.map V.int))) ∧ 0 ≤ k ∧ 0 ≤ c ∧ 0 ≤ s ∧ s < 1000003
def SameP (p : Addr) (H H' : Hp) : Prop := ∀ b o, b ≠ p → H b = some o → H' b = some o
theorem SameP.refl {p : Addr} (H : Hp) : SameP p H H := fun _ _ _ h => h
theorem SameP.trans {p : Addr} {H H1 H2 : Hp} (a : SameP p H H1) (b : SameP p H1 H2) : SameP p H H2 := fun x o n h => b x o n (a x o n h)
theorem SameP.free {p : Addr} {H H' : Hp} (e : SameP p H H') {l : Addr} (n : l ≠ p) (h : H' l = none) : H l = none := by
  cases q : H l with
  | none => rfl
  | some o => rw [e l o n q] at h; cases h
theorem SameP.new {p a : Addr} {H : Hp} {o : HO} (h : H a = none) : SameP p H (upd H a o) := fun b u _ e => by
  rw [upd_ne (ne_of_none e h)]
  exact e
theorem PoolOk.ne {p a0 a : Addr} {H : Hp} (h : PoolOk p a0 H) (e : H a = none) : a ≠ p := fun z => by
  obtain ⟨_, _, _, _, q, _⟩ := h
  rw [z, q] at e
  cases e
theorem PoolOk.new {p a0 a : Addr} {H : Hp} {o : HO} (h : PoolOk p a0 H) (e : H a = none) : PoolOk p a0 (upd H a o) := by
  obtain ⟨k, m, c, s, q, ⟨ns, l, q0⟩, r⟩ := h
  exact ⟨k, m, c, s, by rw [upd_ne (ne_of_none q e)]; exact q, ⟨ns, l, by rw [upd_ne (ne_of_none q0 e)]; exact q0⟩, r⟩
/-- hidden from the data: the set widened by one -/
def addO (O : Addr → Bool) (a : Addr) : Addr → Bool := fun b => O b || decide (b = a)
def remO (O : Addr → Bool) (a : Addr) : Addr → Bool := fun b => O b && !decide (b = a)
theorem hid_same {p : Addr} {O : Addr → Bool} {H H' : Hp} (hp : O p = true) (s : SameP p H H') : Same (hid H O) (hid H' O) := fun b o h => by
  obtain ⟨h1, h2⟩ := hid_some h
  exact hid_of (s b o (fun z => by rw [z, hp] at h2; cases h2) h1) h2
theorem hid_sub {O O' : Addr → Bool} {H : Hp} (h : ∀ a, O' a = true → O a = true) : Same (hid H O) (hid H O') := fun b o e => by
  obtain ⟨h1, h2⟩ := hid_some e
  refine hid_of h1 ?_
  cases q : O' b with
  | false => rfl
  | true => rw [h b q] at h2; cases h2
theorem hid_add {O : Addr → Bool} {H : Hp} {a : Addr} (h : H a = none) : hid H (addO O a) = hid H O := by
  funext b
  unfold hid addO
  by_cases e : b = a
  · subst e
    rw [h]
    split <;> split <;> rfl
  · simp [e]
theorem hid_upd {O : Addr → Bool} {H : Hp} {a : Addr} {o : HO} (h : O a = true) : hid (upd H a o) O = hid H O := by
  funext b
  unfold hid
  by_cases e : b = a
  · subst e
    rw [if_pos h, if_pos h]
  · rw [upd_ne e]
structure Pm where
  K : PySem.W.Frag
  p : Addr
  a0 : Addr
  H0 : Hp
  O0 : Addr → Bool
  G : Gm
  trk0 : ∀ a, O0 a = true → ∃ o, H0 a = some o
  w : World
/-- a slot that owns what stands at its address -/
def isOwn : Sl → Bool
  | .own _ => true
  | .dic _ => true
  | _ => false
def SlotR (P : Pm) (O : Addr → Bool) (σ : L2.St) (H : Hp) (i : Nat) : Sl → Prop
  | .no => True
  | .val d => ∃ v, σ[i]? = some (some v) ∧ Rep P.K P.p (hid H O) d v
  | .own ds => ∃ a vs, σ[i]? = some (some (.ref a)) ∧ H a = some (.lst vs) ∧ P.H0 a = none ∧ O a = true ∧ a ≠ P.p ∧ RepL P.K P.p (hid H O) ds vs
  | .dic kvs => ∃ a xs, σ[i]? = some (some (.ref a)) ∧ H a = some (dtO P.w a xs) ∧ P.H0 a = none ∧ O a = true ∧ a ≠ P.p ∧ RepX P.K P.p (hid H O) kvs xs
structure SR (P : Pm) (Gh : List (D × V)) (O : Addr → Bool) (σ : L2.St) (H : Hp) (env : En) : Prop where
  same : SameP P.p P.H0 H
  pool : PoolOk P.p P.a0 H
  pool0 : PoolOk P.p P.a0 P.H0
  op : O P.p = true
  trk : ∀ a, O a = true → ∃ o, H a = some o
  sub : ∀ a, P.O0 a = true → O a = true
  len : σ.length = env.length
  sl : ∀ (i : Nat) (s : Sl), env[i]? = some s → SlotR P O σ H i s
  inj : ∀ (i j : Nat) (a : Addr) (u u' : Sl), env[i]? = some u → env[j]? = some u' → isOwn u = true → isOwn u' = true → σ[i]? = some (some (V.ref a)) → σ[j]? = some (some (V.ref a)) → i = j
  gh : ∀ g ∈ Gh, Rep P.K P.p (hid H O) g.1 g.2
/-- a result by the heaps ahead and behind -/
def RR (P : Pm) (O : Addr → Bool) (H H' : Hp) : R → V → Prop
  | .v d, v => Rep P.K P.p (hid H' O) d v
  | .nw ds, v => ∃ a vs, v = .ref a ∧ H a = none ∧ H' a = some (.lst vs) ∧ RepL P.K P.p (hid H' (addO O a)) ds vs
  | .bw ds, v => ∃ a vs, v = .ref a ∧ P.H0 a = none ∧ O a = true ∧ a ≠ P.p ∧ H' a = some (.lst vs) ∧ RepL P.K P.p (hid H' O) ds vs
  | .nd kvs, v => ∃ a xs, v = .ref a ∧ H a = none ∧ H' a = some (dtO P.w a xs) ∧ RepX P.K P.p (hid H' (addO O a)) kvs xs
  | .bd kvs, v => ∃ a xs, v = .ref a ∧ P.H0 a = none ∧ O a = true ∧ a ≠ P.p ∧ H' a = some (dtO P.w a xs) ∧ RepX P.K P.p (hid H' O) kvs xs
section
variable {P : Pm} {Gh : List (D × V)} {O : Addr → Bool} {σ : L2.St} {H H' H1 H2 : Hp} {env : En}
theorem Rep.up (hp : O P.p = true) (s : SameP P.p H H') {d : D} {v : V} (h : Rep P.K P.p (hid H O) d v) : Rep P.K P.p (hid H' O) d v := Rep.mono (hid_same hp s) h
theorem RepL.up (hp : O P.p = true) (s : SameP P.p H H') {d : List D} {v : List V} (h : RepL P.K P.p (hid H O) d v) : RepL P.K P.p (hid H' O) d v := RepL.mono (hid_same hp s) h
theorem RepX.up (hp : O P.p = true) (s : SameP P.p H H') {d : List (D × D)} {v : List (NestedKey × Addr × Value)} (h : RepX P.K P.p (hid H O) d v) : RepX P.K P.p (hid H' O) d v := RepX.mono (hid_same hp s) h
theorem SR.mono (S : SR P Gh O σ H env) (s : SameP P.p H H') (q : PoolOk P.p P.a0 H') : SR P Gh O σ H' env where
  same := S.same.trans s
  pool := q
  pool0 := S.pool0
  op := S.op
  trk := fun a h => by
    by_cases e : a = P.p
    · obtain ⟨_, _, _, _, z, _⟩ := q
      exact ⟨_, by rw [e]; exact z⟩
    · obtain ⟨o, h1⟩ := S.trk a h
      exact ⟨o, s a o e h1⟩
  sub := S.sub
  len := S.len
  sl := fun i x e => by
    have h := S.sl i x e
    cases x with
    | no => exact trivial
    | val d =>
      obtain ⟨v, h1, h2⟩ := h
      exact ⟨v, h1, h2.up S.op s⟩
    | own ds =>
      obtain ⟨a, vs, h1, h2, h3, h4, h5, h6⟩ := h
      exact ⟨a, vs, h1, s a _ h5 h2, h3, h4, h5, h6.up S.op s⟩
    | dic kvs =>
      obtain ⟨a, vs, h1, h2, h3, h4, h5, h6⟩ := h
      exact ⟨a, vs, h1, s a _ h5 h2, h3, h4, h5, h6.up S.op s⟩
  inj := S.inj
  gh := fun g hg => (S.gh g hg).up S.op s
/-- a new list may be hidden -/
theorem SR.hide {a : Addr} (S : SR P Gh O σ H env) (ha : H a = none) (s : SameP P.p H H') (q : PoolOk P.p P.a0 H') (ht : ∃ o, H' a = some o) : SR P Gh (addO O a) σ H' env := by
  have e : hid H (addO O a) = hid H O := hid_add ha
  have hp : (addO O a) P.p = true := by unfold addO; rw [S.op]; rfl
  have S1 := S.mono s q
  refine ⟨S1.same, S1.pool, S1.pool0, hp, fun b hb => ?_, fun b hb => ?_, S.len, fun i x ex => ?_, S.inj, fun g hg => ?_⟩
  · by_cases z : b = a
    · rw [z]; exact ht
    · refine S1.trk b ?_
      unfold addO at hb
      simpa [z] using hb
  · unfold addO
    rw [S.sub b hb]
    rfl
  · have h := S.sl i x ex
    cases x with
    | no => exact trivial
    | val d =>
      obtain ⟨v, h1, h2⟩ := h
      rw [← e] at h2
      exact ⟨v, h1, h2.up hp s⟩
    | own ds =>
      obtain ⟨b, vs, h1, h2, h3, h4, h5, h6⟩ := h
      rw [← e] at h6
      exact ⟨b, vs, h1, s b _ h5 h2, h3, by unfold addO; rw [h4]; rfl, h5, h6.up hp s⟩
    | dic kvs =>
      obtain ⟨b, vs, h1, h2, h3, h4, h5, h6⟩ := h
      rw [← e] at h6
      exact ⟨b, vs, h1, s b _ h5 h2, h3, by unfold addO; rw [h4]; rfl, h5, h6.up hp s⟩
  · have h2 := S.gh g hg
    rw [← e] at h2
    exact h2.up hp s
theorem RR.mono {r : R} {v : V} (hp : O P.p = true) (np : ∀ a, H a = none → a ≠ P.p) (h : RR P O H H1 r v) (s : SameP P.p H1 H2) : RR P O H H2 r v := by
  cases r with
  | v d => exact Rep.up hp s h
  | nw ds =>
    obtain ⟨a, vs, e, h1, h2, h3⟩ := h
    exact ⟨a, vs, e, h1, s a _ (np a h1) h2, h3.up (by unfold addO; rw [hp]; rfl) s⟩
  | bw ds =>
    obtain ⟨a, vs, e, h1, h2, h3, h4, h5⟩ := h
    exact ⟨a, vs, e, h1, h2, h3, s a _ h3 h4, h5.up hp s⟩
  | nd kvs =>
    obtain ⟨a, vs, e, h1, h2, h3⟩ := h
    exact ⟨a, vs, e, h1, s a _ (np a h1) h2, h3.up (by unfold addO; rw [hp]; rfl) s⟩
  | bd kvs =>
    obtain ⟨a, vs, e, h1, h2, h3, h4, h5⟩ := h
    exact ⟨a, vs, e, h1, h2, h3, s a _ h3 h4, h5.up hp s⟩
/-- relative to an earlier heap -/
theorem RR.from {r : R} {v : V} (np : ∀ a, H1 a = none → a ≠ P.p) (s : SameP P.p H H1) (h : RR P O H1 H2 r v) : RR P O H H2 r v := by
  cases r with
  | v d => exact h
  | nw ds =>
    obtain ⟨a, vs, e, h1, h2, h3⟩ := h
    exact ⟨a, vs, e, s.free (np a h1) h1, h2, h3⟩
  | bw ds => exact h
  | nd kvs =>
    obtain ⟨a, vs, e, h1, h2, h3⟩ := h
    exact ⟨a, vs, e, s.free (np a h1) h1, h2, h3⟩
  | bd kvs => exact h
theorem addO_sub {a : Addr} : ∀ b, O b = true → addO O a b = true := fun b h => by unfold addO; rw [h]; rfl
/-- a result as a datum, if it isn't borrowed -/
theorem RR.esc {r : R} {v : V} {d : D} (tr : ∀ a, O a = true → ∃ o, H a = some o) (h : RR P O H H1 r v) (e : r.esc = some d) : Rep P.K P.p (hid H1 O) d v := by
  cases r with
  | v d' =>
    have e' : d' = d := Option.some.inj e
    subst e'
    exact h
  | nw ds =>
    have e' : PyData.list ds = d := Option.some.inj e
    subst e'
    obtain ⟨a, vs, ev, h1, h2, h3⟩ := h
    refine ⟨a, vs, ev, hid_of h2 ?_, RepL.mono (hid_sub addO_sub) h3⟩
    cases q : O a with
    | false => rfl
    | true =>
      obtain ⟨o, z⟩ := tr a q
      rw [h1] at z
      cases z
  | bw ds => cases e
  | nd ds => cases e
  | bd ds => cases e
/-- a result that is a list, to be read -/
def RdL (P : Pm) (O : Addr → Bool) (H : Hp) (ds : List D) (v : V) : Prop := ∃ a vs, v = .ref a ∧ a ≠ P.p ∧ H a = some (.lst vs) ∧ RepL P.K P.p (hid H O) ds vs
/-- .. that is a dict keyed by tuples -/
def RdX (P : Pm) (O : Addr → Bool) (H : Hp) (kvs : List (D × D)) (v : V) : Prop := ∃ a xs, v = .ref a ∧ a ≠ P.p ∧ H a = some (dtO P.w a xs) ∧ RepX P.K P.p (hid H O) kvs xs
/-- .. to be looked at: lists need not be data that may be given away -/
def Lk (P : Pm) (O : Addr → Bool) (H : Hp) (d : D) (v : V) : Prop :=
  match d with
  | .list ds => RdL P O H ds v
  | .dict ((.none, .bool true) :: kvs) => RdX P O H kvs v
  | d => Rep P.K P.p (hid H O) d v
theorem Rep.noMk {K : PySem.W.Frag} {p : Addr} {H : Hp} {kvs : List (D × D)} {v : V} (h : Rep K p H (.dict ((.none, .bool true) :: kvs)) v) : False := by
  rcases h with ⟨e, _⟩ | ⟨a, ks, e, h1, k, x, xs, e2, h2, h3⟩ | ⟨a, n, e, _⟩
  · cases e
  · have q := h2.1
    cases k <;> cases q
  · cases e
theorem Lk.ofDict {kvs : List (D × D)} {v : V} (h : Rep P.K P.p (hid H O) (.dict kvs) v) : Lk P O H (.dict kvs) v := by
  unfold Lk
  split
  · rename_i e
    cases e
  · rename_i e
    cases e
    exact h.noMk.elim
  · exact h
theorem Lk.dictOr {kvs : List (D × D)} {v : V} (h : Lk P O H (.dict kvs) v) : Rep P.K P.p (hid H O) (.dict kvs) v ∨ ∃ r, kvs = (.none, .bool true) :: r ∧ RdX P O H r v := by
  unfold Lk at h
  split at h
  · rename_i e
    cases e
  · rename_i e
    cases e
    exact .inr ⟨_, rfl, h⟩
  · exact .inl h
theorem Lk.mk {kvs : List (D × D)} {v : V} (h : RdX P O H kvs v) : Lk P O H (.dict ((.none, .bool true) :: kvs)) v := h
theorem Rep.lk {d : D} {v : V} (hp : O P.p = true) (h : Rep P.K P.p (hid H O) d v) : Lk P O H d v := by
  cases d with
  | list ds =>
    obtain ⟨a, vs, e, h1, h2⟩ := h
    obtain ⟨h3, h4⟩ := hid_some h1
    exact ⟨a, vs, e, fun z => (by rw [z, hp] at h4; cases h4), h3, h2⟩
  | dict kvs => exact Lk.ofDict h
  | _ => exact h
theorem RR.lk {r : R} {v : V} (hp : O P.p = true) (np : ∀ a, H a = none → a ≠ P.p) (h : RR P O H H1 r v) : Lk P O H1 r.d v := by
  cases r with
  | v d => exact Rep.lk hp h
  | nw ds =>
    obtain ⟨a, vs, e, h1, h2, h3⟩ := h
    exact ⟨a, vs, e, np a h1, h2, RepL.mono (hid_sub addO_sub) h3⟩
  | bw ds =>
    obtain ⟨a, vs, e, h1, h2, h3, h4, h5⟩ := h
    exact ⟨a, vs, e, h3, h4, h5⟩
  | nd kvs =>
    obtain ⟨a, vs, e, h1, h2, h3⟩ := h
    exact ⟨a, vs, e, np a h1, h2, RepX.mono (hid_sub addO_sub) h3⟩
  | bd kvs =>
    obtain ⟨a, vs, e, h1, h2, h3, h4, h5⟩ := h
    exact ⟨a, vs, e, h3, h4, h5⟩
theorem Lk.up {d : D} {v : V} (hp : O P.p = true) (s : SameP P.p H H') (h : Lk P O H d v) : Lk P O H' d v := by
  cases d with
  | list ds =>
    obtain ⟨a, vs, e, n, h1, h2⟩ := h
    exact ⟨a, vs, e, n, s a _ n h1, h2.up hp s⟩
  | dict kvs =>
    rcases h.dictOr with h | ⟨r, rfl, a, vs, e, n, h1, h2⟩
    · exact Lk.ofDict (Rep.up hp s h)
    · exact ⟨a, vs, e, n, s a _ n h1, h2.up hp s⟩
  | _ => exact Rep.up hp s h
theorem Lk.list {ds : List D} {v : V} (h : Lk P O H (.list ds) v) : RdL P O H ds v := h
/-- what can be compared: as the library's data -/
theorem Lk.dp {d : D} {v : V} (h : Lk P O H d v) (c : PyData.canLay0 d = true) : Dp P.K H v d := by
  have dm : ∀ {e : D} {u : V}, Rep P.K P.p (hid H O) e u → PyData.canLay0 e = true → Dp P.K H u e := fun {e u} r z => Rep.dp (Rep.mono (fun b o q => (hid_some q).1) r) z
  cases d with
  | list ds =>
    obtain ⟨a, vs, e, n, h1, h2⟩ := h
    rw [e]
    exact .lst (SqL.of h1) (RepL.dp (RepL.mono (fun b o q => (hid_some q).1) h2) (by simpa [PyData.canLay0] using c))
  | dict kvs => simp [PyData.canLay0] at c
  | _ => exact dm h c
/-- a tuple to be read -/
theorem Lk.tup {ds : List D} {v : V} (h : Lk P O H (.tuple ds) v) : ∃ a vs, v = .ref a ∧ SqT P.K H a vs ∧ SqP P.K (hid H O) a vs ∧ RepL P.K P.p (hid H O) ds vs := by
  obtain ⟨a, vs, e, h1, h2⟩ := h
  exact ⟨a, vs, e, SqT.same (fun b o q => (hid_some q).1) h1.1, h1, h2⟩
end
end DL

/-! DLT: tuples made as known objects; dict(..) of pairs. -/
namespace DL
open PySem PySem.Spec PyProof.Rows L2
/-- a new tuple at q, its object known -/
def NewT (H : Hp) (vs : List V) (Q : VK) : Prop := ∀ (q : Addr) (o : Obj), H q = none → o.dict = none → Q (.ref q) (upd H q (.frz o (.tup vs)))
section
variable {X : Cx} {pins : List (Addr × Obj)} {s : Shared} {σ : L2.St} {H : Hp} {Q : VK} {xs : List V} {its : List Value}
theorem newT_ok {h' : Heap} {tk : Nat} (I : Inv X pins σ H { s with heap := h', toks := tk }) (hz : xs.length ≤ sizeLine) (r : Vals xs its) (q : NewT H xs Q) : EP X pins σ Q (.ref h'.objs.size) { s with heap := h'.push { cls := .type "tuple", data := .seq its.toArray }, toks := tk } := by
  have I2 : Inv X pins σ (upd H h'.objs.size (.frz { cls := .type "tuple", data := .seq its.toArray } (.tup xs))) { s with heap := h'.push { cls := .type "tuple", data := .seq its.toArray }, toks := tk } :=
    I.laid (t' := tk) (fun b o e => Heap.get?_push_of_some _ e) (Nat.le_refl _) ⟨Heap.get?_push_size _ rfl, hz, its, r, IsTup.new _ _⟩
  exact ⟨.ref h'.objs.size, _, I2, rfl, q _ _ (I.hok.fresh (Nat.le_refl _)) rfl⟩
end
section
variable {X : Cx} {pos : Pos}
def tTupF (t : TA) : TE := fun σ H Q => t σ H fun xs H1 => xs.length ≤ sizeLine ∧ NewT H1 xs Q
theorem pe_tupF {es : List Expr} {t : TA} {x1} (h : PA X es t) : PE X (.Tuple es x1 pos) (tTupF t) := by
  refine ⟨fun pins s σ H Q I hq => ?_⟩
  exact wpAny_Tuple_spliced (thn (h.run pos pins s σ H _ I hq) fun us s1 ⟨xs, H1, I1, r, z, q⟩ => ⟨by rw [← r.length]; exact z, newT_ok (tk := s1.toks) I1 z r q⟩)
def rCatF (K : PySem.W.Frag) : R2 := fun x y H Q => ∃ a b xs ys, x = .ref a ∧ y = .ref b ∧ SqT K H a xs ∧ SqT K H b ys ∧ xs.length + ys.length ≤ sizeLine ∧
  (xs = [] → Q (.ref b) H) ∧ (xs ≠ [] → ys = [] → Q (.ref a) H) ∧ (xs ≠ [] → ys ≠ [] → NewT H (xs ++ ys) Q)
theorem op_catF : OpR X (binaryOp .Add) (rCatF X.K) := by
  intro pins s σ H x y v u Q I rx ry h
  obtain ⟨a, b, xs, ys, rfl, rfl, ha, hb, hz, q0, q1, q2⟩ := h
  by_cases hx : xs = []
  · exact op_catA pins s σ H _ _ v u Q I rx ry ⟨a, b, xs, ys, rfl, rfl, ha, hb, hz, q0, q1, fun n => absurd hx n⟩
  · by_cases hy : ys = []
    · exact op_catA pins s σ H _ _ v u Q I rx ry ⟨a, b, xs, ys, rfl, rfl, ha, hb, hz, q0, q1, fun _ n => absurd hy n⟩
    · cases rx
      cases ry
      obtain ⟨its, r1, p1, _⟩ := I.tuple ha
      obtain ⟨its2, r2, p2, _⟩ := I.tuple hb
      refine HT.cat_tup p1 p2 (fun z => hx (r1.nil_iff.mp z)) (fun z => absurd (r2.nil_iff.mp z) hy) (fun z => ?_) (by rw [← r1.length, ← r2.length]; exact hz)
      exact newT_ok (tk := s.toks) (h' := s.heap) I (by rw [List.length_append]; exact hz) (r1.append r2) (q2 hx hy)
/-- tuple * int, the new object known -/
def rRepF (K : PySem.W.Frag) : R2 := fun x y H Q => ∃ a m xs, (x = .ref a ∧ y = .int m) ∧ SqT K H a xs ∧ (xs ≠ [] ∧ 2 ≤ m ∧ m ≤ 1000 ∧ xs.length ≤ 1000) ∧ NewT H (List.replicate m.toNat xs).flatten Q
theorem op_repF : OpR X (binaryOp .Mult) (rRepF X.K) := by
  intro pins s σ H x y v u Q I rx ry h
  obtain ⟨a, m, xs, ⟨rfl, rfl⟩, hT, ⟨ne, m1, m2, z⟩, q⟩ := h
  cases rx
  obtain ⟨tk, rfl⟩ := ry
  obtain ⟨us, r, ⟨⟨c, e, dt, sl⟩, ho, hc, n, hd⟩, _⟩ := I.tuple hT
  simp only at hc hd
  subst hc hd
  have ul : us.toArray.size = xs.length := by rw [List.size_toArray, r.length]
  have ue : us.toArray.isEmpty = false := by
    cases us with
    | nil => exact absurd (List.eq_nil_of_length_eq_zero (by rw [r.length]; rfl)) ne
    | cons _ _ => rfl
  have prod : m.toNat * xs.length ≤ 1000 * 1000 := Nat.mul_le_mul (by omega) z
  have fl : (List.replicate m.toNat xs).flatten.length ≤ sizeLine := by
    rw [PyProof.Rows.lm_len_rep_flat, sizeLine_eq]
    omega
  have pm : ((us.toArray.size : Nat) : Int) * m ≤ 1000 * m := by
    rw [ul]
    exact Int.mul_le_mul_of_nonneg_right (by omega) (by omega)
  have many : Builtin.Tuple.tupleTooMany (((us.toArray.size : Nat) : Int) * m) = false := by
    unfold Builtin.Tuple.tupleTooMany
    exact decide_eq_false (by rw [sizeLine_eq]; omega)
  have size : (List.foldl (fun p q => p ++ q) #[] (List.replicate m.toNat us.toArray)).size ≤ sizeLine := by
    rw [size_rep, List.size_toArray, PyProof.Rows.lm_len_rep_flat, ← r.length, ← PyProof.Rows.lm_len_rep_flat]
    exact fl
  have w := newT_ok (its := (List.replicate m.toNat us).flatten) (h' := s.heap) (tk := s.toks) I fl (r.rep m.toNat) q
  have step := tuple_mulW a us.toArray n e sl m tk (by rw [decide_eq_false (by omega), decide_eq_false (by omega)]; rfl)
    (by rw [ue, Bool.false_or]; exact beq_eq_false_iff_ne.mpr (by omega)) (by rw [ue, Bool.or_false]; exact decide_eq_false (by omega)) (by omega) many size
  rw [size_rep] at step
  exact wpAny_binaryOp_repeat_ref (U := "int") (T := "tuple") (by decide) ⟨_, ho, rfl⟩ (fun s' => typeIs_int s' m tk) noFill_tuple_mul F.fills_int_mul F.slot_int_rmul repeat_tuple
    F.slot_int_index.lookup (call_meets F.slot_int_rmul (typeIs_int s m tk) F.entry_int_rmul (F.args_int_rmul_2 _ _) (int_rmul_tuple m tk a us.toArray n e sl) ⟨ho, rfl, ⟨_, ho, rfl⟩,
    call_meets F.slot_tuple_mul ⟨_, ho, rfl⟩ F.entry_tuple_mul (F.args_tuple_mul_2 _ _) step ⟨ho, w⟩⟩)
def rSlF (K : PySem.W.Frag) : V → Option Int → Option Int → Hp → VK → Prop := fun x lo hi H Q => ∃ a xs, x = .ref a ∧ SqT K H a xs ∧
  (HT.sIx xs.length 0 lo = 0 ∧ HT.sIx xs.length xs.length hi = xs.length → Q (.ref a) H) ∧ (¬ (HT.sIx xs.length 0 lo = 0 ∧ HT.sIx xs.length xs.length hi = xs.length) → NewT H (cutV xs lo hi) Q)
theorem sl_tupF : SlR X (rSlF X.K) := by
  intro pins s σ H x v vl vu lo hi sl Q I rx hs pl pu h
  obtain ⟨a, xs, rfl, hx, q1, q2⟩ := h
  by_cases hw : HT.sIx xs.length 0 lo = 0 ∧ HT.sIx xs.length xs.length hi = xs.length
  · exact sl_tupA pins s σ H _ v vl vu lo hi sl Q I rx hs pl pu ⟨a, xs, rfl, hx, q1, fun n => absurd hw n⟩
  · cases rx
    obtain ⟨its, r, ht, hz⟩ := I.tuple hx
    have hlen : its.toArray.size = xs.length := by rw [List.size_toArray]; exact r.length.symm
    refine ⟨"tuple", _, PyProof.Rows.slot_tuple_getitem.lookup, ht.typeIs, ?_⟩
    refine HT.getItem_tuple_cut ht hs pl pu (by rw [hlen]; exact hw) ?_ (by rw [hlen]; exact hz)
    rw [hlen]
    exact newT_ok (tk := s.toks) (h' := s.heap) I (Nat.le_trans (cutV_length xs lo hi) hz) ((r.drop (HT.sIx xs.length 0 lo)).take (HT.sIx xs.length xs.length hi - HT.sIx xs.length 0 lo)) (q2 hw)
theorem call_tupleF : CallR X (.type "tuple") (fun xs H Q => ∃ p ys, xs = [.ref p] ∧ SqL X.K H p ys ∧ NewT H ys Q) := by
  intro pins s σ H xs us Q I r h
  obtain ⟨p, ys, rfl, hq, q⟩ := h
  obtain ⟨u, rfl, rx⟩ := vals1 r
  cases rx
  obtain ⟨its, r', pl, hz⟩ := I.list hq
  have hlen := r'.length
  refine call_tuple_list pl.isList (fun h' kp => ?_) (by simp only [List.size_toArray] <;> omega)
  have I1 : Inv X pins σ H { s with heap := h' } := I.kept (t' := s.toks) kp
  exact newT_ok (tk := s.toks) I1 hz r' q
def tTupRgF (te : L2.St → Hp → (Int → Int → Hp → Prop) → Prop) : TE := fun σ H Q => te σ H fun a b H1 => RgOk a b ∧ NewT H1 (rgV a b) Q
theorem pe_tupRgF {e : Expr} {te : L2.St → Hp → (Int → Int → Hp → Prop) → Prop} {p : Pos} (hc : X.calm = true) (hg : Gl X "tuple") (hm : X.mg "tuple" = none) (he : PRg X e te) (na : starEach [e] X.env = (false, eval e X.env) :: starEach [] X.env) : PE X (.Call (.Name "tuple" p) [e] [] pos) (tTupRgF te) := by
  refine ⟨fun pins s σ H Q I h => ?_⟩
  refine Call_ (ld_blt I hg hm boot_tuple (PyProof.Rows.callWith_type1 (args_cons (thn (he pins s σ H _ I h) fun x s1 ⟨r, a, b, t, u, v, H1, ex, hr, I1, ok, q⟩ => args_nil ?_) na) na))
  subst ex
  obtain ⟨b1, b2, b3, b4, b5⟩ := ok
  refine call_tuple_range (n := (b - a).toNat) (I1.ok.hd hc) hr (small_one b1 b2 b3 b4) (rangeSize_nat a b) b5 fun h' tk acc hk hi => ?_
  have I2 : Inv X pins σ H1 { s1 with heap := h', toks := tk } := I1.kept hk
  have z : (rgV a b).length ≤ sizeLine := by rw [rgV_length, sizeLine_eq]; omega
  have e := newT_ok (tk := tk) I2 z (vals_rg hi) q
  rwa [Array.toArray_toList] at e
/-! ### dict(..) of a list or a tuple of pairs -/
theorem call_dictT (hcalm : X.calm = true) : CallR X (.type "dict") (fun xs H Q => ∃ (a : Addr) (ps : List Addr) (kvs : List (Key × V)), xs = [.ref a] ∧ SqP X.K H a (ps.map V.ref) ∧ Paired (fun p kv => SqT X.K H p [kV kv.1, kv.2]) ps kvs ∧
    ∀ p, H p = none → Q (.ref p) (upd H p (.dK (mergeK [] kvs)))) := by
  intro pins s σ H xs us Q I r q
  obtain ⟨a, ps, kvs, ex, hq, hp, q⟩ := q
  subst ex
  obtain ⟨u, eu, rx⟩ := vals1 r
  subst eu
  cases rx
  obtain ⟨its, rv, pl, hz⟩ := I.tuple hq.1
  have ei := refs_at rv
  subst ei
  rw [List.length_map] at hz
  obtain ⟨prs, rel, hl, hpr⟩ := pairs_of I hp
  obtain ⟨o, ho, hcl, n, hdat⟩ := pl
  have hd : o.dict = none := by
    rcases hq.2 with ⟨o', u, h1, h2⟩ | ⟨o', h1, h2⟩
    · have e : s.heap.get? a = some o' := (I.hok a _ h1).1
      rw [ho] at e
      cases e
      exact h2
    · have e := I.kIn a o' h1
      rw [ho] at e
      cases e
      exact h2
  -- the pairs as they lie
  have pv : ∃ pvs : List (Value × Value), pvs.length = prs.length ∧ ∀ (j : Nat) (k v : Value), pvs[j]? = some (k, v) → ∃ (b : Addr) (q : Key × Value), prs[j]? = some q ∧ v = q.2 ∧ ps[j]? = some b ∧ IsTup s.heap b #[k, v] ∧ keyIs q.1 k = true := by
    have go : ∀ (l : List (Key × Value)) (as : List Addr), (∀ (j : Nat) (q : Key × Value), l[j]? = some q → ∃ (b : Addr) (u : Value), as[j]? = some b ∧ IsTup s.heap b #[u, q.2] ∧ keyIs q.1 u = true) → ∃ pvs : List (Value × Value), pvs.length = l.length ∧ ∀ (j : Nat) (k v : Value), pvs[j]? = some (k, v) → ∃ (b : Addr) (q : Key × Value), l[j]? = some q ∧ v = q.2 ∧ as[j]? = some b ∧ IsTup s.heap b #[k, v] ∧ keyIs q.1 k = true := fun l => by
      induction l with
      | nil => exact fun as _ => ⟨[], rfl, fun j k v e => by simp at e⟩
      | cons q l ih =>
        intro as hh
        obtain ⟨b, u, e1, e2, e3⟩ := hh 0 q rfl
        obtain ⟨pvs, l1, l2⟩ := ih as.tail fun j q' e => by
          obtain ⟨b', u', f1, f2⟩ := hh (j + 1) q' (by simpa using e)
          refine ⟨b', u', ?_, f2⟩
          cases as with
          | nil => simp at f1
          | cons x y => simpa using f1
        refine ⟨(u, q.2) :: pvs, by rw [List.length_cons, List.length_cons, l1], fun j k v e => ?_⟩
        cases j with
        | zero =>
          have e' : (u, q.2) = (k, v) := Option.some.inj e
          cases e'
          exact ⟨b, q, rfl, rfl, e1, e2, e3⟩
        | succ j =>
          obtain ⟨b', q', f1, f2, f3, f4⟩ := l2 j k v (by simpa using e)
          refine ⟨b', q', by simpa using f1, f2, ?_, f4⟩
          cases as with
          | nil => simp at f3
          | cons x y => simpa using f3
    exact go prs ps hpr
  obtain ⟨pvs, pl1, pl2⟩ := pv
  have hm : (s.heap.objs.size == sysModules) = false := beq_eq_false_iff_ne.mpr (Nat.ne_of_gt I.big)
  refine PySem.call_dict_pairs (knd := mixKind X.prog X.w) (kvs := prs) (PySem.PairArg.tuple a (ps.map Value.ref).toArray (fun j => ps.getD j 0) pvs) (I.ok.hd hcalm) ⟨⟨o, n, ho, hcl, hd, hdat⟩, by simp [pl1, hl], fun j k v e => ?_⟩ ⟨pl1.symm, fun i key v e => ?_⟩ (by rw [pl1, hl]; exact hz) fun h' tk hd' k => ?_
  · obtain ⟨b, q', f1, f2, f3, f4, _⟩ := pl2 j k v e
    refine ⟨by simp [f3], ?_⟩
    have eb : ps.getD j 0 = b := by rw [List.getD_eq_getElem?_getD, f3]; rfl
    show PairAt s.heap (ps.getD j 0) k v
    rw [eb]
    exact .inl f4
  · obtain ⟨b, q', f1, f2, f3, f4, f5⟩ := pl2 i key v e
    refine ⟨q'.1, by rw [f1, f2], ?_⟩
    exact f5
  · have hlen : (mergeK [] kvs).length ≤ sizeLine := by
      refine Nat.le_trans (length_mergeK kvs []) ?_
      rw [List.length_nil, Nat.zero_add, rel.length, hl]
      exact hz
    exact ⟨.ref s.heap.objs.size, upd H s.heap.objs.size (.dK (mergeK [] kvs)), I.laid (t' := tk) (fun b o e => k b o (fun z => nomatch z) e) (Nat.le_refl _) (show ObjOk X.prog X.w _ _ _ (.dK (mergeK [] kvs)) from ⟨hlen, hm, merged [] prs, KV.merge rel .nil, hd'⟩), rfl, q _ (I.hok.fresh (Nat.le_refl _))⟩
end
/-! ### t[::-1] -/
section
variable {prog : Program} {w : World} {A : Around} {E : Value → Shared → Prop} {s : Shared}
theorem fm_map {α β : Type} {f : α → Option β} {g : α → β} : ∀ (l : List α) (_ : Unit), (∀ m ∈ l, f m = some (g m)) → l.filterMap f = l.map g
  | [], _, _ => rfl
  | x :: l, u, h => by rw [List.filterMap_cons, h x List.mem_cons_self, List.map_cons, fm_map l u fun m hm => h m (List.mem_cons_of_mem _ hm)]
theorem pick_rev (xs : Array Value) : ((List.range xs.size).filterMap fun (m : Nat) => xs[(((xs.size : Int) - 1) + (m : Int) * (-1)).toNat]?).toArray = xs.toList.reverse.toArray := by
  congr 1
  refine List.ext_getElem? fun i => ?_
  have e : ((List.range xs.size).filterMap fun (m : Nat) => xs[(((xs.size : Int) - 1) + (m : Int) * (-1)).toNat]?) = (List.range xs.size).map fun m => xs.getD (xs.size - 1 - m) .none := by
    refine fm_map _ () fun m hm => ?_
    have hm := List.mem_range.mp hm
    have q : (((xs.size : Int) - 1) + (m : Int) * (-1)).toNat = xs.size - 1 - m := by omega
    rw [q]
    have l : xs.size - 1 - m < xs.size := by omega
    simp [l]
  rw [e]
  by_cases h : i < xs.size
  · rw [List.getElem?_map, List.getElem?_range h, List.getElem?_reverse (by simpa using h)]
    have l : xs.size - 1 - i < xs.size := by omega
    simp [l]
  · rw [List.getElem?_eq_none (by simp; omega), List.getElem?_eq_none (by simp; omega)]
theorem sliceApplied_rev {sl : Addr} {vl vu vs : Value} {n : Nat} {Q : Int × Int × Nat → Shared → Prop} (hs : s.heap.IsSliceOf sl vl vu vs) (pl : IsPart vl none) (pu : IsPart vu none) (ps : IsPart vs (some (-1)))
    (h : Q (((n : Int) - 1), -1, n) s) : wpAny (model prog w) A (Builtin.Slice.sliceApplied (.ref sl) (pure (n : Int))) Q E s := by
  obtain ⟨os, hos, hcs, hds⟩ := id hs
  unfold Builtin.Slice.sliceApplied Builtin.Slice.sliceFields
  refine wpAny_bind (wpAny_bind (wpAny_field hos hds (x := vl) rfl (wpAny_bind (wpAny_field hos hds (x := vu) rfl (wpAny_bind (wpAny_field hos hds (x := vs) rfl (wpAny_pure ?_)))))))
  refine wpAny_bind (HT.slicePart_ ps ?_)
  show wpAny _ _ (if ((-1 : Int) == 0) = true then _ else _) _ _ s
  rw [if_neg (by decide)]
  refine wpAny_bind (HT.slicePart_ pl (wpAny_bind (HT.slicePart_ pu (wpAny_bind (wpAny_pure ?_)))))
  have e : Builtin.Slice.sliceAdjust none none (-1) (n : Int) = ((n : Int) - 1, -1) := by
    unfold Builtin.Slice.sliceAdjust
    simp
  have e2 : Builtin.Slice.slicePlaces ((n : Int) - 1) (-1) (-1) = n := by
    unfold Builtin.Slice.slicePlaces
    by_cases q : n = 0
    · subst q; rfl
    · have q1 : ¬ ((-1 : Int) > 0) := by decide
      simp only [q1, if_false]
      split
      · rw [show (- -1 : Int) = 1 by decide, Int.ediv_one]
        omega
      · omega
  show wpAny _ _ (match Builtin.Slice.sliceAdjust none none (-1) (n : Int) with | (lo, hi) => pure (lo, (-1 : Int), Builtin.Slice.slicePlaces lo hi (-1))) _ _ s
  rw [e]
  show wpAny _ _ (pure (((n : Int) - 1), (-1 : Int), Builtin.Slice.slicePlaces ((n : Int) - 1) (-1) (-1))) _ _ s
  rw [e2]
  exact wpAny_pure h
theorem getItem_tuple_rev {t sl : Addr} {items : Array Value} {vl vu vs : Value} {Q : Value → Shared → Prop} (ht : IsTup s.heap t items) (hs : s.heap.IsSliceOf sl vl vu vs) (pl : IsPart vl none) (pu : IsPart vu none) (ps : IsPart vs (some (-1)))
    (h : Q (.ref s.heap.objs.size) { s with heap := s.heap.push { cls := .type "tuple", data := .seq items.toList.reverse.toArray } }) (hsz : items.size ≤ sizeLine) : wpAny (model prog w) A (getItem (.ref t) (.ref sl)) Q E s := by
  have htake : sizeOk (.seq items.toList.reverse.toArray) := by
    show items.toList.reverse.toArray.size ≤ sizeLine
    rw [List.size_toArray, List.length_reverse, Array.length_toList]
    exact hsz
  obtain ⟨os, hos, hcs, hds⟩ := id hs
  have hTs : s.TypeIs (.ref sl) "slice" := ⟨os, hos, hcs⟩
  unfold getItem
  try with_reducible refine wpAny_holding ?_
  first | refine wpAny_bind (wpAny_pure ?_) | skip
  refine wpAny_bind (wpAny_sequenceKey ht.typeIs (by decide) ?_)
  refine wpAny_bind (wpAny_callSpecial?_slot (name := Str.ofString "__getitem__") ht.typeIs PyProof.Rows.slot_tuple_getitem
    (wpAny_call_entry PyProof.Rows.slot_tuple_getitem ht.typeIs entry_tuple_getitem ?_ (args_tuple_getitem _ _)))
  show wpAny _ _ (Builtin.Tuple.tupleItemsOf (.ref t) >>= _) _ _ s
  refine wpAny_bind (tupleItemsOf_ ht ?_)
  refine wpAny_bind (wpAny_typeOf hTs ?_)
  rw [if_pos (by decide)]
  refine wpAny_bind (sliceApplied_rev hs pl pu ps ?_)
  have hno : ¬ ((((items.size : Int) - 1) == 0 && (-1 : Int) == 1 && items.size == items.size) = true) := by
    intro q
    rw [Bool.and_eq_true, Bool.and_eq_true] at q
    exact absurd q.1.2 (by decide)
  show wpAny _ _ (if (((items.size : Int) - 1) == 0 && (-1 : Int) == 1 && items.size == items.size) = true then _ else _) _ _ s
  rw [if_neg hno, pick_rev]
  first
    | exact wpAny_bind (m := Builtin.Tuple.tupleExact _) (wpAny_newObj_type (wpAny_pure ⟨_, rfl, wpAny_pure h⟩) htake)
    | exact wpAny_bind (m := Builtin.Tuple.tupleExact _) (wpAny_newObj_type (wpAny_bind (wpAny_pure (wpAny_pure ⟨_, rfl, wpAny_pure h⟩))) htake)
    | exact wpAny_bind (wpAny_bind (m := Builtin.Tuple.tupleExact _) (wpAny_newObj_type (wpAny_pure (wpAny_pure ⟨_, rfl, wpAny_pure h⟩)) htake))
    | exact wpAny_bind (wpAny_bind (m := Builtin.Tuple.tupleExact _) (wpAny_newObj_type (wpAny_pure ⟨_, rfl, wpAny_pure h⟩) htake))
end
section
variable {X : Cx}
def tRevA (K : PySem.W.Frag) (te : TE) : TE := fun σ H Q => te σ H fun x H1 => (∃ a xs, x = .ref a ∧ SqL K H1 a xs ∧ ∀ p, H1 p = none → Q (.ref p) (upd H1 p (.lst xs.reverse))) ∨ (∃ a xs, x = .ref a ∧ SqT K H1 a xs ∧ NewT H1 xs.reverse Q)
theorem pe_revA {e : Expr} {te : TE} {k : Nat} {p1 p2 p3 pos : Pos} (he : PE X e te) : PE X (.Subscript e (.Slice none none (some (.UnaryOp .USub (.Constant (.int 1) k p1) p2)) p3) pos) (tRevA X.K te) := by
  refine ⟨fun pins s σ H Q I h => ?_⟩
  refine Subscript_ (thn (he.run pins s σ H _ I h) fun v s1 ⟨x, H1, I1, r1, q1⟩ => ?_)
  have hst : PO X (some (.UnaryOp .USub (.Constant (.int 1) k p1) p2)) (tPart (tUn (rU fun i => .int (-i)) (tC (.int 1)))) := po_some (pe_un un_neg pe_int)
  refine wpAny_Slice (thn (po_none.run pins s1 σ H1 (fun o H2 => o = none ∧ H2 = H1) I1 ⟨rfl, rfl⟩) fun vl s2 ⟨l, H2, I2, pl, el, e2⟩ => ?_)
  subst el e2
  refine thn (po_none.run pins s2 σ H2 (fun o H3 => o = none ∧ H3 = H2) I2 ⟨rfl, rfl⟩) fun vu s3 ⟨u, H3, I3, pu, eu, e3⟩ => ?_
  subst eu e3
  refine thn (hst.run pins s3 σ H3 (fun o H4 => o = some (-1) ∧ H4 = H3) I3 ⟨1, rfl, -1, rfl, rfl, rfl⟩) fun vs s4 ⟨o, H4, I4, ps, eo, e4⟩ => ?_
  subst eo e4
  have I5 : Inv X pins σ H4 { s4 with heap := s4.heap.push { cls := .type "slice", data := .fields #[vl, vu, vs] } } := I4.kept (t' := s4.toks) fun b ob q => Heap.get?_push_of_some _ q
  rcases q1 with ⟨a, xs, ex, hx, q⟩ | ⟨a, xs, ex, hx, q⟩
  · subst ex
    cases r1
    obtain ⟨its, r, ht, hz⟩ := I5.list hx
    have hlen := r.length
    show wpAny (model X.prog X.w) X.A (subscriptTail e (.Slice none none (some (.UnaryOp .USub (.Constant (.int 1) k p1) p2)) p3) (.ref a) (.ref s4.heap.objs.size)) (EP X pins σ Q) X.xe { s4 with heap := s4.heap.push { cls := .type "slice", data := .fields #[vl, vu, vs] } }
    refine tail_any (ops := [.ref a, .ref s4.heap.objs.size]) ht.isList.typeIs (PySem.slot_list_getitem.lookup) ?_ (by with_unfolding_all rfl)
    refine wpAny_getItem_list_slice ht.isList (Heap.IsSliceOf.new _ vl vu vs) pl pu ps (by decide) ?_ (by rw [List.size_toArray]; omega)
    rw [PySem.W.krv_pick]
    refine ⟨.ref _, _, I5.laid (t' := s4.toks) (o := .lst xs.reverse) (fun b ob q => Heap.get?_push_of_some _ q) (Nat.le_refl _) ?_, rfl, q _ (I5.hok.fresh (Nat.le_refl _))⟩
    exact ⟨by rw [List.length_reverse]; exact hz, _, 0, r.reverse, Heap.get?_push_size _ rfl⟩
  · subst ex
    cases r1
    obtain ⟨its, r, ht, hz⟩ := I5.tuple hx
    have hlen := r.length
    show wpAny (model X.prog X.w) X.A (subscriptTail e (.Slice none none (some (.UnaryOp .USub (.Constant (.int 1) k p1) p2)) p3) (.ref a) (.ref s4.heap.objs.size)) (EP X pins σ Q) X.xe { s4 with heap := s4.heap.push { cls := .type "slice", data := .fields #[vl, vu, vs] } }
    refine tail_any (ops := [.ref a, .ref s4.heap.objs.size]) ht.typeIs PyProof.Rows.slot_tuple_getitem.lookup ?_ (by with_unfolding_all rfl)
    refine getItem_tuple_rev ht (Heap.IsSliceOf.new _ vl vu vs) pl pu ps ?_ (by rw [List.size_toArray]; omega)
    exact newT_ok (tk := s4.toks) I5 (by rw [List.length_reverse]; exact hz) r.reverse q
end
end DL

/-! SRT: sorting lists of tuples of ints, of any lengths, empty ones too. -/
namespace DL
open PySem PySem.Spec PyProof.Rows L2
section
variable {prog : Program} {w : World} {A : Around} {E : Value → Shared → Prop} {s : Shared}
/-- a tuple of ints -/
def IsTI (h : Heap) (v : Value) (ns : List Int) : Prop := ∃ a o xs n, v = .ref a ∧ h.get? a = some o ∧ o.cls = .type "tuple" ∧ o.data = .seq xs n ∧ IntsAre xs.toList ns
theorem IsTI.keeps {h h' : Heap} {v : Value} {ns : List Int} (x : IsTI h v ns) (k : ∀ b o, h.get? b = some o → o.cls = .type "tuple" → h'.get? b = some o) : IsTI h' v ns := by
  obtain ⟨a, o, xs, n, rfl, ho, hc, hd, hi⟩ := x
  exact ⟨a, o, xs, n, rfl, k a o ho hc, hc, hd, hi⟩
/-- the first of a tuple, read off the heap -/
def fstO (h : Heap) : Value → Option Value
  | .ref a => (match h.get? a with
    | some o => (match o.data with
      | .seq xs _ => xs[0]?
      | _ => none)
    | none => none)
  | _ => none
theorem fstO_of {h : Heap} {a : Addr} {o : Obj} {xs : Array Value} {n : Nat} (ho : h.get? a = some o) (hd : o.data = .seq xs n) : fstO h (.ref a) = xs[0]? := by
  unfold fstO
  simp only [ho, hd]
theorem firsts_ti : ∀ (vs : List Value) {Q : List (Option Value) → Shared → Prop}, (∀ v ∈ vs, ∃ ns, IsTI s.heap v ns) → Q (vs.map (fstO s.heap)) s → wpAny (model prog w) A (vs.mapM firstOfTuple') Q E s
  | [], _, _, h => by rw [List.mapM_nil]; exact wpAny_pure h
  | v :: vs, Q, t, h => by
    obtain ⟨ns, a, o, xs, n, rfl, ho, hc, hd, hi⟩ := t v List.mem_cons_self
    rw [List.mapM_cons]
    refine wpAny_bind ?_
    rw [PySem.W.kas_first_eq]
    refine wpAny_bind (PySem.W.Looks.here (show PySem.W.Looks (model prog w) s.heap (typeOf (.ref a)) o.cls from (PySem.W.Looks.ld ho).andThen .now) ?_)
    rw [hc, if_neg (by first | decide | simp)]
    refine wpAny_bind (listItems_at ho hd (wpAny_pure ?_))
    rw [List.map_cons, fstO_of ho hd] at h
    exact wpAny_bind (firsts_ti vs (Q := fun bs s' => wpAny (model prog w) A (pure (xs[0]? :: bs)) Q E s') (fun v hv => t v (List.mem_cons_of_mem _ hv)) (wpAny_pure h))
theorem looks_ti {v : Value} {ns : List Int} (x : IsTI s.heap v ns) : PySem.W.Looks (model prog w) s.heap (typeOf v) (.type "tuple") := by
  obtain ⟨a, o, xs, n, rfl, ho, hc, hd, hi⟩ := x
  have q : PySem.W.Looks (model prog w) s.heap (typeOf (.ref a)) o.cls := (PySem.W.Looks.ld ho).andThen .now
  rw [hc] at q
  exact q
/-- which way of comparing the model takes -/
theorem kind_ti {vs : List Value} (h2 : 2 ≤ vs.length) (t : ∀ v ∈ vs, ∃ ns, IsTI s.heap v ns) : ∃ κ, (κ = tuples' true ∨ κ = oneType' ∨ κ = general') ∧ ∀ (Q : SortKind → Shared → Prop) (E : Value → Shared → Prop), Q κ s → wpAny (model prog w) A (keyKind' vs.toArray) Q E s := by
  by_cases hall : (vs.map (fstO s.heap)).all (·.isSome) = true
  · -- none is empty
    have go : ∀ us : List Value, (∀ v ∈ us, ∃ ns, IsTI s.heap v ns) → (us.map (fstO s.heap)).all (·.isSome) = true → ∃ fs : List Value, PySem.W.KatTups s.heap us fs ∧ fs.length = us.length ∧ ∀ f ∈ fs, ∃ i k, f = Value.int i k := fun us => by
      induction us with
      | nil => exact fun _ _ => ⟨[], trivial, rfl, fun f hf => nomatch hf⟩
      | cons v us ih =>
        intro t h
        rw [List.map_cons, List.all_cons, Bool.and_eq_true] at h
        obtain ⟨fs, f1, f2, f3⟩ := ih (fun u hu => t u (List.mem_cons_of_mem _ hu)) h.2
        obtain ⟨ns, a, o, xs, n, rfl, ho, hc, hd, hi⟩ := t v List.mem_cons_self
        have h1 := h.1
        rw [fstO_of ho hd, Option.isSome_iff_exists] at h1
        obtain ⟨f, hf⟩ := h1
        refine ⟨f :: fs, .cons ho hc hd hf f1, by rw [List.length_cons, List.length_cons, f2], fun g hg => ?_⟩
        rcases List.mem_cons.mp hg with rfl | hg
        · exact SrtO.ints_mem hi g (by
            have := Array.mem_of_getElem? hf
            exact Array.mem_toList_iff.mpr this)
        · exact f3 g hg
    obtain ⟨fs, f1, f2, f3⟩ := go vs t hall
    refine ⟨tuples' true, .inl rfl, fun Q E hq => ?_⟩
    refine PySem.W.kat_kind (T := .type "int") f1 (by omega) (fun f hm => ?_) (by rfl) ?_
    · obtain ⟨x, k, rfl⟩ := f3 f hm
      exact PySem.W.Looks.now
    · have e : (Value.type "int" != Value.type "tuple") = true := by first | decide +kernel | rfl | decide
      rw [e]
      exact hq
  · have hall2 : ((vs.map (fstO s.heap)).toArray.all fun x => x.isSome) = false := by
      rw [List.all_toArray]
      simpa using hall
    cases hf : (((vs.map (fstO s.heap)).toArray)[0]?.bind id).isSome with
    | true =>
      refine ⟨general', .inr (.inr rfl), fun Q E hq => ?_⟩
      rw [PyProof.Rows.kat_kind_eq, List.mapM_toArray, map_eq_pure_bind]
      refine wpAny_bind (wpAny_bind (firsts_ti vs t (wpAny_pure ?_)))
      rw [if_neg (by rw [hall2]; decide), if_pos hf]
      exact wpAny_pure hq
    | false =>
      refine ⟨oneType', .inr (.inl rfl), fun Q E hq => ?_⟩
      rw [PyProof.Rows.kat_kind_eq, List.mapM_toArray, map_eq_pure_bind]
      refine wpAny_bind (wpAny_bind (firsts_ti vs t (wpAny_pure ?_)))
      rw [if_neg (by rw [hall2]; decide), if_neg (by rw [hf]; decide)]
      rw [oneTypeOnly'_eq, List.mapM_toArray, map_eq_pure_bind]
      refine wpAny_bind (wpAny_bind (wpAny_bind (PySem.W.kas_mapM (r := Value.type "tuple") _ (fun v hv Q' hq => ?_) (wpAny_pure ?_))))
      · obtain ⟨ns, x⟩ := t v hv
        exact (looks_ti x).here hq
      · obtain ⟨v0, v1, r, rfl⟩ : ∃ v0 v1 r, vs = v0 :: v1 :: r := by
          match vs, h2 with
          | v0 :: v1 :: r, _ => exact ⟨v0, v1, r, rfl⟩
        have a1 : ((List.map (fun _ => Value.type "tuple") (v0 :: v1 :: r)).toArray.all fun x => x == Value.type "tuple") = true := by
          simp only [List.all_toArray, List.all_map, List.all_eq_true]
          intro _ _
          rfl
        have h0 : (List.map (fun _ => Value.type "tuple") (v0 :: v1 :: r)).toArray[0]? = some (Value.type "tuple") := by simp
        rw [h0]
        simp only [a1, if_true]
        refine wpAny_pure ?_
        simp only [Option.isSome_some, if_true]
        exact wpAny_pure hq
/-! ### comparing -/
def kI (h : Heap) : Value → List Int
  | .ref a => (match h.get? a with
    | some o => (match o.data with
      | .seq xs _ => xs.toList.map SrtO.iv
      | _ => [])
    | none => [])
  | _ => []
theorem kI_of {h : Heap} {v : Value} {ns : List Int} (x : IsTI h v ns) : kI h v = ns := by
  obtain ⟨a, o, xs, n, rfl, ho, hc, hd, hi⟩ := x
  unfold kI
  simp only [ho, hd]
  exact SrtO.iv_ints hi
def ltT (h : Heap) (v u : Value) : Bool := HT.lexLt (kI h v) (kI h u)
theorem lex_irr : ∀ a : List Int, HT.lexLt a a = false
  | [] => rfl
  | x :: a => by rw [HT.lexLt_cons, if_pos rfl, lex_irr a]
theorem lex_asym : ∀ a b : List Int, HT.lexLt a b = true → HT.lexLt b a = false
  | [], [], h => by cases h
  | [], _ :: _, _ => rfl
  | _ :: _, [], h => by cases h
  | x :: a, y :: b, h => by
    rw [HT.lexLt_cons] at h ⊢
    by_cases e : x = y
    · rw [if_pos e] at h
      rw [if_pos e.symm]
      exact lex_asym a b h
    · rw [if_neg e, decide_eq_true_eq] at h
      rw [if_neg (fun z => e z.symm)]
      exact decide_eq_false (by omega)
theorem lex_tr : ∀ a b c : List Int, HT.lexLt b a = false → HT.lexLt c b = false → HT.lexLt c a = false
  | [], b, c, h1, h2 => by cases c <;> rfl
  | x :: a, [], c, h1, h2 => by cases h1
  | x :: a, y :: b, [], h1, h2 => by cases h2
  | x :: a, y :: b, z :: c, h1, h2 => by
    rw [HT.lexLt_cons] at h1 h2 ⊢
    by_cases e1 : y = x
    · rw [if_pos e1] at h1
      by_cases e2 : z = y
      · rw [if_pos e2] at h2
        rw [if_pos (e2.trans e1)]
        exact lex_tr a b c h1 h2
      · rw [if_neg e2, decide_eq_false_iff_not] at h2
        rw [if_neg (fun q => e2 (q.trans e1.symm))]
        exact decide_eq_false (by omega)
    · rw [if_neg e1, decide_eq_false_iff_not] at h1
      by_cases e2 : z = y
      · rw [if_neg (fun q => e1 (e2.symm.trans q))]
        exact decide_eq_false (by omega)
      · rw [if_neg e2, decide_eq_false_iff_not] at h2
        rw [if_neg (by omega)]
        exact decide_eq_false (by omega)
theorem swo_T (h : Heap) : SrtO.Swo (ltT h) := ⟨fun x y => lex_asym _ _, fun x y z => lex_tr _ _ _⟩
def lexZ (fin : Bool) : List Int → List Int → Bool
  | [], _ => fin
  | _ :: _, [] => fin
  | x :: xs, y :: ys => if x = y then lexZ fin xs ys else decide (x < y)
theorem lexZ_lt : ∀ a b : List Int, lexZ (decide (a.length < b.length)) a b = HT.lexLt a b
  | [], [] => rfl
  | [], _ :: _ => by rw [lexZ]; exact decide_eq_true (by rw [List.length_cons]; exact Nat.succ_pos _)
  | _ :: _, [] => rfl
  | x :: a, y :: b => by
    have ih := lexZ_lt a b
    have e : decide ((x :: a).length < (y :: b).length) = decide (a.length < b.length) := by
      rw [List.length_cons, List.length_cons, decide_eq_decide]
      omega
    rw [e, HT.lexLt_cons, lexZ, ih]
theorem katlex {Q : Bool → Shared → Prop} {fin : Bool} : ∀ {xs ys : List Value} {ns ms : List Int} (i : Nat), IntsAre xs ns → IntsAre ys ms → Q (lexZ fin ns ms) s → PySem.W.KatLex prog w A true fin Q (xs.zip ys) i s
  | [], ys, ns, ms, i, hx, hy, q => by
    cases hx
    cases hy <;> exact PySem.W.kat_nil q
  | x :: xs, [], ns, ms, i, hx, hy, q => by
    cases hy
    cases hx
    exact PySem.W.kat_nil q
  | x :: xs, y :: ys, ns, ms, i, hx, hy, q => by
    cases hx with
    | cons n t hx =>
      cases hy with
      | cons m u hy =>
        rw [List.zip_cons_cons]
        refine PySem.W.kat_cons (SeqAt.EqAt.int_int n t m u prog w _ _ ?_)
        rw [lexZ] at q
        refine PySem.W.kat_go (fun e1 => ?_) (fun e1 => ?_)
        · have ex : n = m := by simpa using e1
          rw [if_pos ex] at q
          exact PySem.W.kat_yes (katlex (i + 1) hx hy q)
        · have ex : ¬ n = m := by simpa using e1
          rw [if_neg ex] at q
          exact PySem.W.kat_no (TS.oneLt_ints _ q)
theorem cmp_ti {vs : List Value} {κ : SortKind} (hκ : κ = tuples' true ∨ κ = oneType' ∨ κ = general') (t : ∀ v ∈ vs, ∃ ns, IsTI s.heap v ns) (hu : A.units < cLine) : SrtO.Cmp prog w A s κ (fun p => p.1 ∈ vs) (SrtO.lt2 (ltT s.heap)) := by
  intro p q hm hm'
  obtain ⟨ns, x⟩ := t p.1 hm
  obtain ⟨ms, y⟩ := t q.1 hm'
  show wpAny (model prog w) A (keyLt' κ p.1 q.1) (fun r s' => s' = s ∧ r = ltT s.heap p.1 q.1) (fun _ _ => False) s
  have e : ltT s.heap p.1 q.1 = HT.lexLt ns ms := by
    unfold ltT
    rw [kI_of x, kI_of y]
  rw [e]
  obtain ⟨a, o, xs, n, e1, ho, hc, hd, hi⟩ := x
  obtain ⟨b, o2, ys, m, e2, ho2, hc2, hd2, hi2⟩ := y
  rw [e1, e2]
  have ix : xs.size = ns.length := by rw [← Array.length_toList, hi.length]
  have iy : ys.size = ms.length := by rw [← Array.length_toList, hi2.length]
  rcases hκ with rfl | rfl | rfl
  · refine PySem.W.kat_lt ho hd ho2 hd2 (katlex 0 hi hi2 ⟨rfl, ?_⟩)
    rw [ix, iy]
    exact lexZ_lt ns ms
  · rw [keyLt'_oneType, oneLt'_eq]
    simp only [if_true]
    refine wpAny_bind (wpAny_cRoomFor hu ?_)
    obtain ⟨cls, dd, data, sl⟩ := o
    obtain ⟨cls2, dd2, data2, sl2⟩ := o2
    simp only at hc hd hc2 hd2
    subst hc hd hc2 hd2
    refine wpAny_bind (wpAny_callSpecialIfBound?_slot (T := "tuple") ⟨_, ho, rfl⟩ PySem.F.slot_tuple_lt (call_meets PySem.F.slot_tuple_lt ⟨_, ho, rfl⟩ PySem.F.entry_tuple_lt (PySem.F.args_tuple_lt_2 _ _) (HT.tuple_lt_ints a b xs ys n m dd dd2 sl sl2 ns ms hi hi2) ⟨ho, ho2, ?_⟩))
    exact wpAny_truthy_bool ⟨rfl, rfl⟩
  · show wpAny (model prog w) A (oneLt' false (.ref a) (.ref b)) _ _ s
    exact PySem.W.kat_one _ _ (HT.lt_tupInts ⟨o, ho, hc, n, hd⟩ ⟨o2, ho2, hc2, m, hd2⟩ hi hi2 hu ⟨rfl, rfl⟩)
theorem sortable_ti {a : Addr} {vs : List Value} (h2 : 2 ≤ vs.length) (t : ∀ v ∈ vs, ∃ ns, IsTI s.heap v ns) (ha : ∀ o, s.heap.get? a = some o → o.cls ≠ .type "tuple") (hu : A.units < cLine) : SrtO.SortableO prog w A s a vs (ltT s.heap) := by
  intro h' keep
  have kp : ∀ b o, s.heap.get? b = some o → o.cls = .type "tuple" → h'.get? b = some o := fun b o e c => keep b o (fun z => by subst z; exact ha o e c) e
  have t' : ∀ v ∈ vs, ∃ ns, IsTI h' v ns := fun v hv => by
    obtain ⟨ns, x⟩ := t v hv
    exact ⟨ns, x.keeps kp⟩
  have ek : ∀ v ∈ vs, kI h' v = kI s.heap v := fun v hv => by
    obtain ⟨ns, x⟩ := t v hv
    rw [kI_of x, kI_of (x.keeps kp)]
  obtain ⟨κ, k1, k2⟩ := kind_ti (prog := prog) (w := w) (A := A) (s := { s with heap := h' }) h2 t'
  refine ⟨κ, k2, fun p q hm hm' => ?_⟩
  have c := cmp_ti (prog := prog) (w := w) (s := { s with heap := h' }) k1 t' hu p q hm hm'
  have e : SrtO.lt2 (ltT h') p q = SrtO.lt2 (ltT s.heap) p q := by
    show HT.lexLt (kI h' p.1) (kI h' q.1) = HT.lexLt (kI s.heap p.1) (kI s.heap q.1)
    rw [ek _ hm, ek _ hm']
  rw [← e]
  exact c
/-- sorted(l) -/
theorem sorted_ti {l : Addr} {vs : List Value} {Q : Value → Shared → Prop} (hl : s.heap.IsList l vs.toArray) (hz : vs.length ≤ sizeLine) (t : ∀ v ∈ vs, ∃ ns, IsTI s.heap v ns) (hu : A.in1.in1.units < cLine)
    (h : ∀ out : List Value, SrtO.Srtd (ltT s.heap) out → SrtO.Stb (ltT s.heap) out vs → Q (.ref (s.heap.objs.size + 1)) { s with heap := sortedAll s.heap vs out.toArray }) : wpAny (model prog w) A (call (.builtin "sorted") [.ref l]) Q E s := by
  refine SrtO.sorted_ord (swo_T s.heap) hl hz (fun h2 h₁ a ha kk => ?_) h
  have kp : ∀ b o, s.heap.get? b = some o → o.cls = .type "tuple" → h₁.get? b = some o := fun b o e _ => (kk b o e).2
  have t' : ∀ v ∈ vs, ∃ ns, IsTI h₁ v ns := fun v hv => by
    obtain ⟨ns, x⟩ := t v hv
    exact ⟨ns, x.keeps kp⟩
  have ek : ∀ v ∈ vs, kI h₁ v = kI s.heap v := fun v hv => by
    obtain ⟨ns, x⟩ := t v hv
    rw [kI_of x, kI_of (x.keeps kp)]
  have q := sortable_ti (prog := prog) (w := w) (s := { s with heap := h₁ }) (a := a) h2 t' (fun o e => by
    have e' : some o = some (seqObj "list" vs.toArray 0) := e.symm.trans ha
    cases e'
    intro c
    exact absurd (Value.type.inj c) (by decide)) hu
  intro h' keep
  obtain ⟨κ, k1, k2⟩ := q h' keep
  refine ⟨κ, k1, fun p r hm hm' => ?_⟩
  have c := k2 p r hm hm'
  have e : SrtO.lt2 (ltT h₁) p r = SrtO.lt2 (ltT s.heap) p r := by
    show HT.lexLt (kI h₁ p.1) (kI h₁ r.1) = HT.lexLt (kI s.heap p.1) (kI s.heap r.1)
    rw [ek _ hm, ek _ hm']
  rw [← e]
  exact c
end
/-- lists of tuples of ints, by values -/
def TupsAre (K : PySem.W.Frag) (H : Hp) : List V → List (List Int) → Prop
  | [], [] => True
  | v :: vs, t :: ts => (∃ a, v = .ref a ∧ SqT K H a (t.map V.int)) ∧ TupsAre K H vs ts
  | _, _ => False
def vOf : Value → V
  | .ref a => .ref a
  | _ => .non
def rSortT (K : PySem.W.Frag) : List V → Hp → VK → Prop := fun xs H Q => ∃ (a : Addr) (vs : List V) (ts : List (List Int)), xs = [.ref a] ∧ SqL K H a vs ∧ TupsAre K H vs ts ∧
  ∀ us : List (V × List Int), (us.map (·.2)).Perm ts → (us.map (·.2)).Pairwise (fun x y => HT.lexLt y x = false) → (∀ u ∈ us, u ∈ vs.zip ts) → ∀ p, H p = none → Q (.ref p) (upd H p (.lst (us.map (·.1))))
section
variable {X : Cx} {pins : List (Addr × Obj)} {s : Shared} {σ : L2.St} {H : Hp}
theorem tups_read (I : Inv X pins σ H s) : ∀ {vs : List V} {ts : List (List Int)} {its : List Value}, TupsAre X.K H vs ts → Vals vs its → its.map vOf = vs ∧ its.map (kI s.heap) = ts ∧ ∀ v ∈ its, IsTI s.heap v (kI s.heap v)
  | [], [], its, _, r => by
    cases r
    exact ⟨rfl, rfl, fun v hv => nomatch hv⟩
  | v :: vs, t :: ts, its, ⟨⟨a, e, ht⟩, q⟩, r => by
    subst e
    cases r with
    | @cons _ u _ us r1 r2 =>
      obtain rfl : u = Value.ref a := r1
      obtain ⟨h1, h2, h3⟩ := tups_read I q r2
      obtain ⟨xs, rx, ⟨o, ho, hc, n, hd⟩, _⟩ := I.tuple ht
      have x : IsTI s.heap (.ref a) t := ⟨a, o, xs.toArray, n, rfl, ho, hc, hd, by simpa using intsAre_of rx⟩
      have k := kI_of x
      refine ⟨by rw [List.map_cons, h1]; rfl, by rw [List.map_cons, h2, k], fun v hv => ?_⟩
      rcases List.mem_cons.mp hv with rfl | hv
      · rw [k]
        exact x
      · exact h3 v hv
  | [], _ :: _, _, q, _ => by cases q
  | _ :: _, [], _, q, _ => by cases q
theorem vals_of_ti {h : Heap} : ∀ {out : List Value}, (∀ v ∈ out, ∃ ns, IsTI h v ns) → Vals (out.map vOf) out
  | [], _ => .nil
  | v :: out, t => by
    obtain ⟨ns, a, o, xs, n, rfl, _⟩ := t v List.mem_cons_self
    exact .cons rfl (vals_of_ti fun u hu => t u (List.mem_cons_of_mem _ hu))
theorem zip_mem {α β γ : Type} {f : γ → α} {g : γ → β} : ∀ {l : List γ} {x : γ}, x ∈ l → (f x, g x) ∈ (l.map f).zip (l.map g)
  | y :: l, x, h => by
    rw [List.map_cons, List.map_cons, List.zip_cons_cons]
    rcases List.mem_cons.mp h with rfl | h
    · exact List.mem_cons_self
    · exact List.mem_cons_of_mem _ (zip_mem h)
theorem cr_sortedT (hu : X.A.units + 64 < cLine) : CallR X (.builtin "sorted") (rSortT X.K) := by
  intro pins s σ H xs us Q I r h
  obtain ⟨a, vs, ts, rfl, hs, ht, q⟩ := h
  obtain ⟨its, rv, hl, hz⟩ := I.list hs
  rw [Vals.ref1 r]
  obtain ⟨h1, h2, h3⟩ := tups_read I ht rv
  have t : ∀ v ∈ its, ∃ ns, IsTI s.heap v ns := fun v hv => ⟨_, h3 v hv⟩
  refine sorted_ti hl.isList (by rw [← rv.length]; exact hz) t (by show X.A.in1.in1.units < cLine; exact Nat.lt_of_le_of_lt (show X.A.in1.in1.units ≤ X.A.units + 2 by simp [Around.in1, Around.units]) (by omega)) fun out o1 o2 => ?_
  have pm : out.Perm its := o2.perm
  obtain ⟨ep, he'⟩ := PyProof.Rows.sortedAll_at s.heap its out.toArray
  have to : ∀ v ∈ out, ∃ ns, IsTI s.heap v ns := fun v hv => t v (pm.mem_iff.mp hv)
  have hlen : (out.map vOf).length ≤ sizeLine := by
    rw [List.length_map, pm.length_eq, ← rv.length]
    exact hz
  have key := q (out.map fun v => (vOf v, kI s.heap v)) (by
      rw [List.map_map, ← h2]
      exact pm.map _) (by
      rw [List.map_map, List.pairwise_map]
      exact o1) (fun u hu => by
      obtain ⟨v, hv, rfl⟩ := List.mem_map.mp hu
      rw [← h1, ← h2]
      exact zip_mem (pm.mem_iff.mp hv)) (s.heap.objs.size + 1) (I.hok.fresh (Nat.le_succ _))
  rw [List.map_map] at key
  exact ⟨.ref _, upd H (s.heap.objs.size + 1) (.lst (out.map vOf)), I.laid (t' := s.toks) (fun _ _ => PyProof.Rows.sortedAll_old) (Nat.le_succ _) ⟨hlen, out, ep, vals_of_ti to, he'⟩, rfl, key⟩
end
end DL

/-! SFM: sorting of texts, and of tuples that begin with a text, where the first places that differ can be compared. -/
namespace DL
open PySem PySem.Spec PyProof.Rows L2
open PySem.SeqAt (EqAt RcLt firstLt pairEq)
/-! ### data of ints, texts, tuples -/
mutual
theorem pln_lay : ∀ {d : D}, plnD d = true → PyData.canLay0 d = true
  | .int _, _ => by simp [PyData.canLay0]
  | .str _, h => by
    rw [plnD] at h
    rw [PyData.canLay0]
    exact h
  | .tuple ds, h => by
    rw [plnD] at h
    rw [PyData.canLay0]
    exact plns_lay h
  | .none, h => by cases h
  | .bool _, h => by cases h
  | .list _, h => by cases h
  | .dict _, h => by cases h
theorem plns_lay : ∀ {ds : List D}, plnDs ds = true → PyData.canLayAll0 ds = true
  | [], _ => by simp [PyData.canLayAll0]
  | d :: ds, h => by
    rw [plnDs, Bool.and_eq_true] at h
    rw [PyData.canLayAll0, pln_lay h.1, plns_lay h.2]
    rfl
end
mutual
/-- what is equal is the same -/
theorem eqv_pln : ∀ {x y : D}, plnD x = true → plnD y = true → PyData.eqv x y = true → x = y
  | .int a, y, _, hy, e => by
    cases y with
    | int b => rw [show a = b by simpa [PyData.eqv] using e]
    | str _ => simp [PyData.eqv] at e
    | tuple _ => simp [PyData.eqv] at e
    | _ => cases hy
  | .str a, y, _, hy, e => by
    cases y with
    | str b => rw [show a = b by simpa [PyData.eqv] using e]
    | int _ => simp [PyData.eqv] at e
    | tuple _ => simp [PyData.eqv] at e
    | _ => cases hy
  | .tuple xs, y, hx, hy, e => by
    cases y with
    | tuple ys =>
      rw [plnD] at hx hy
      rw [PyData.eqv] at e
      rw [eqvs_pln hx hy e]
    | int _ => simp [PyData.eqv] at e
    | str _ => simp [PyData.eqv] at e
    | _ => cases hy
  | .none, _, h, _, _ => by cases h
  | .bool _, _, h, _, _ => by cases h
  | .list _, _, h, _, _ => by cases h
  | .dict _, _, h, _, _ => by cases h
theorem eqvs_pln : ∀ {xs ys : List D}, plnDs xs = true → plnDs ys = true → PyData.eqvAll xs ys = true → xs = ys
  | [], [], _, _, _ => rfl
  | [], _ :: _, _, _, e => by simp [PyData.eqvAll] at e
  | _ :: _, [], _, _, e => by simp [PyData.eqvAll] at e
  | x :: xs, y :: ys, hx, hy, e => by
    rw [plnDs, Bool.and_eq_true] at hx hy
    rw [PyData.eqvAll, Bool.and_eq_true] at e
    rw [eqv_pln hx.1 hy.1 e.1, eqvs_pln hx.2 hy.2 e.2]
end
mutual
theorem eqv_self : ∀ {x : D}, plnD x = true → PyData.eqv x x = true
  | .int _, _ => by simp [PyData.eqv]
  | .str _, _ => by simp [PyData.eqv]
  | .tuple xs, h => by
    rw [plnD] at h
    rw [PyData.eqv]
    exact eqvs_self h
  | .none, h => by cases h
  | .bool _, h => by cases h
  | .list _, h => by cases h
  | .dict _, h => by cases h
theorem eqvs_self : ∀ {xs : List D}, plnDs xs = true → PyData.eqvAll xs xs = true
  | [], _ => by simp [PyData.eqvAll]
  | x :: xs, h => by
    rw [plnDs, Bool.and_eq_true] at h
    rw [PyData.eqvAll, eqv_self h.1, eqvs_self h.2]
    rfl
end
theorem eqv_iff {x y : D} (hx : plnD x = true) (hy : plnD y = true) : PyData.eqv x y = true ↔ x = y :=
  ⟨eqv_pln hx hy, fun e => e ▸ eqv_self hx⟩
mutual
/-- a value reads as one datum -/
theorem reads_one {h : Heap} : ∀ {d d' : D} {v : Value} {as as' : List Addr}, plnD d = true → plnD d' = true → Reads h v d as → Reads h v d' as' → d = d'
  | .int _, d', v, as, as', _, q, r, r' => by
    cases r
    cases r'
    rfl
  | .str _, d', v, as, as', _, q, r, r' => by
    cases r
    cases r'
    rfl
  | .tuple xs, d', v, as, as', p, q, r, r' => by
    cases r with
    | tuple h1 h2 h3 h4 =>
      cases r' with
      | tuple k1 k2 k3 k4 =>
        rw [plnD] at p q
        rw [h1] at k1
        cases k1
        rw [h3] at k3
        cases k3
        rw [readss_one p q h4 k4]
      | list _ _ _ _ => cases q
      | dict _ _ _ _ _ => cases q
  | .none, _, _, _, _, p, _, _, _ => by cases p
  | .bool _, _, _, _, _, p, _, _, _ => by cases p
  | .list _, _, _, _, _, p, _, _, _ => by cases p
  | .dict _, _, _, _, _, p, _, _, _ => by cases p
theorem readss_one {h : Heap} : ∀ {ds ds' : List D} {vs : List Value} {as as' : List Addr}, plnDs ds = true → plnDs ds' = true → ReadsAll h vs ds as → ReadsAll h vs ds' as' → ds = ds'
  | [], ds', _, _, _, _, _, r, r' => by
    cases r
    cases r'
    rfl
  | d :: ds, ds', _, _, _, p, q, r, r' => by
    cases r with
    | cons h1 h2 =>
      cases r' with
      | cons k1 k2 =>
        rw [plnDs, Bool.and_eq_true] at p q
        rw [reads_one p.1 q.1 h1 k1, readss_one p.2 q.2 h2 k2]
end
/-! ### what can be compared -/
abbrev Tk := Int ⊕ List Nat
abbrev lexT (a b : List Tk) : Bool := PyProof.Rows.lexLt itemOrd a b
theorem lexT_ne {p q : Tk} (h : p ≠ q) (l m : List Tk) : lexT (p :: l) (q :: m) = lexT [p] [q] := PySem.W.lex_atom h l m
theorem lexT_pre (p a b : List Tk) : lexT (p ++ a) (p ++ b) = lexT a b := PySem.W.lex_pre p a b
theorem lexT_one (p : Tk) (a b : List Tk) : lexT (p :: a) (p :: b) = lexT a b := lexT_pre [p] a b
open PySem.W (keyToks keyToksAll dataLt)
mutual
theorem toks_ne : ∀ {x y : D}, plnD x = true → plnD y = true → cmpb x y = true → PyData.eqv x y = false → ∀ l m : List Tk, lexT (keyToks x ++ l) (keyToks y ++ m) = lexT (keyToks x) (keyToks y)
  | .int a, y, _, _, c, e, l, m => by
    cases y with
    | int b =>
      have n : a ≠ b := fun z => by subst z; simp [PyData.eqv] at e
      simp only [keyToks, List.cons_append, List.nil_append]
      exact lexT_ne (fun z => n (Sum.inl.inj z)) l m
    | _ => simp [cmpb] at c
  | .str a, y, _, _, c, e, l, m => by
    cases y with
    | str b =>
      have n : a ≠ b := fun z => by subst z; simp [PyData.eqv] at e
      simp only [keyToks, List.cons_append, List.nil_append]
      exact lexT_ne (fun z => n (PySem.W.str_of_cps (Sum.inr.inj z))) l m
    | _ => simp [cmpb] at c
  | .tuple xs, y, hx, hy, c, e, l, m => by
    cases y with
    | tuple ys =>
      rw [plnD] at hx hy
      rw [cmpb] at c
      rw [PyData.eqv] at e
      simp only [keyToks]
      exact tokss_ne hx hy c e l m
    | _ => simp [cmpb] at c
  | .none, _, h, _, _, _, _, _ => by cases h
  | .bool _, _, h, _, _, _, _, _ => by cases h
  | .list _, _, h, _, _, _, _, _ => by cases h
  | .dict _, _, h, _, _, _, _, _ => by cases h
theorem tokss_ne : ∀ {xs ys : List D}, plnDs xs = true → plnDs ys = true → cmpbs xs ys = true → PyData.eqvAll xs ys = false → ∀ l m : List Tk, lexT (keyToksAll xs ++ l) (keyToksAll ys ++ m) = lexT (keyToksAll xs) (keyToksAll ys)
  | [], [], _, _, _, e, _, _ => by simp [PyData.eqvAll] at e
  | [], y :: ys, _, _, _, _, l, m => by
    simp only [keyToksAll, List.cons_append, List.nil_append]
    rw [lexT_ne (by simp)]
    exact (lexT_ne (by simp) [] _).symm
  | x :: xs, [], _, _, _, _, l, m => by
    simp only [keyToksAll, List.cons_append, List.nil_append]
    rw [lexT_ne (by simp)]
    exact (lexT_ne (by simp) _ []).symm
  | x :: xs, y :: ys, hx, hy, c, e, l, m => by
    rw [plnDs, Bool.and_eq_true] at hx hy
    rw [PyData.eqvAll] at e
    simp only [keyToksAll, List.cons_append, List.append_assoc]
    rw [lexT_one, lexT_one]
    rw [cmpbs] at c
    cases q : PyData.eqv x y with
    | true =>
      rw [q, Bool.true_and] at e
      rw [if_pos q] at c
      have z := eqv_pln hx.1 hy.1 q
      subst z
      rw [lexT_pre, lexT_pre]
      exact tokss_ne hx.2 hy.2 c e l m
    | false =>
      rw [if_neg (by rw [q]; decide)] at c
      rw [toks_ne hx.1 hy.1 c q, toks_ne hx.1 hy.1 c q]
end
theorem ltAll_eq {x : D} (xs ys : List D) : lexT (keyToksAll (x :: xs)) (keyToksAll (x :: ys)) = lexT (keyToksAll xs) (keyToksAll ys) := by
  simp only [keyToksAll]
  rw [lexT_one, lexT_pre]
theorem ltAll_ne {x y : D} {xs ys : List D} (hx : plnD x = true) (hy : plnD y = true) (c : cmpb x y = true) (e : PyData.eqv x y = false) : lexT (keyToksAll (x :: xs)) (keyToksAll (y :: ys)) = dataLt x y := by
  simp only [keyToksAll]
  rw [lexT_one, toks_ne hx hy c e]
  rfl
/-! ### < of tuples -/
section
variable {A : Around} {s : Shared}
open MeetsSeq MeetsSeq2 MeetsSeq3 SeqRoads2
/-- what < of two tuples asks of the places; that of a place only where all ahead are equal -/
def LtAsk (A : Around) (s : Shared) (xs ys : Array Value) (e r : Nat → Bool) : Prop :=
  (∀ j (h1 : j < xs.size) (h2 : j < ys.size), EqAt A s xs[j] ys[j] (e j)) ∧
  ∀ j (h1 : j < xs.size) (h2 : j < ys.size), (∀ i, i < j → e i = true) → e j = false → RcLt A s xs[j] ys[j] (r j)
def ltRes (xs ys : Array Value) (e r : Nat → Bool) (i : Nat) : Bool := firstLt e r (decide (xs.size < ys.size)) ((List.range (min xs.size ys.size)).drop i)
theorem ltRes_at {xs ys : Array Value} {e r : Nat → Bool} {i : Nat} (h : i < min xs.size ys.size) : ltRes xs ys e r i = if e i = true then ltRes xs ys e r (i + 1) else r i := by
  unfold ltRes
  rw [show (List.range (min xs.size ys.size)).drop i = i :: (List.range (min xs.size ys.size)).drop (i + 1) by simp [List.drop_eq_getElem_cons, h]]
  rfl
theorem ltRes_end {xs ys : Array Value} {e r : Nat → Bool} {i : Nat} (h : min xs.size ys.size ≤ i) : ltRes xs ys e r i = decide (xs.size < ys.size) := by
  unfold ltRes
  rw [List.drop_of_length_le (by simpa using h)]
  rfl
theorem tuple_ltP (l b : Addr) (xs ys : Array Value) (n n2 : Nat) (d d2 : Option Addr) (sl sl2 : Array (Option Value)) (e r : Nat → Bool) :
    Meets (Builtin.«tuple.__lt__» ⟨[.ref l, .ref b], []⟩)
      (fun A R s => s.heap.get? l = some ⟨.type "tuple", d, .seq xs n, sl⟩ ∧ s.heap.get? b = some ⟨.type "tuple", d2, .seq ys n2, sl2⟩ ∧ LtAsk A.in1 s xs ys e r ∧ R (.ok (.ret (.bool (ltRes xs ys e r 0)))) s) :=
  .of_wp fun prog w A R s h => by
    obtain ⟨hp, g, d', tk, os⟩ := s
    obtain ⟨hl, hb, ⟨ask1, ask2⟩, h⟩ := h
    have f2 := AutoSeq1.sub_tuple_tuple
    have zl : (xs.toList.zip ys.toList).length = min xs.size ys.size := by simp
    wp_walk using AutoSeq1.wpAny_loadPart' hl, AutoSeq1.wpAny_loadPart' hb, wpAny_forIn_list _ (fun left c s' => c.1 = none ∧ s' = ⟨hp, g, d', tk, os⟩ ∧ ∃ i, left = (xs.toList.zip ys.toList).drop i ∧ (∀ j, j < i → e j = true) ∧ R (.ok (.ret (.bool (ltRes xs ys e r i)))) ⟨hp, g, d', tk, os⟩) _
    case turn =>
      rintro ⟨u, v⟩ left c s' ⟨c1, rfl, i, hz, he, hR⟩
      have il : i < (xs.toList.zip ys.toList).length := by
        apply Decidable.byContradiction
        intro nl
        rw [List.drop_of_length_le (by omega)] at hz
        cases hz
      have im : i < min xs.size ys.size := by omega
      have h1 : i < xs.size := by omega
      have h2 : i < ys.size := by omega
      rw [List.drop_eq_getElem_cons il] at hz
      obtain ⟨huv, hleft⟩ := List.cons.inj hz
      have eu : u = xs[i] := by simpa using congrArg Prod.fst huv
      have ev : v = ys[i] := by simpa using congrArg Prod.snd huv
      subst eu ev
      rw [ltRes_at im] at hR
      refine wpAny_bind (ask1 i h1 h2 prog w _ _ ?_)
      cases q : e i with
      | true =>
        rw [if_pos q] at hR
        wp_walk
        refine ⟨rfl, rfl, i + 1, hleft, fun j hj => ?_, hR⟩
        by_cases z : j = i
        · rw [z]; exact q
        · exact he j (by omega)
      | false =>
        rw [if_neg (by rw [q]; decide)] at hR
        have go := ask2 i h1 h2 he q prog w
        wp_walk using go _ _
        exact ⟨_, rfl, hR⟩
    case fin =>
      rintro ⟨c1, c2⟩ s' ⟨c3, rfl, i, hz, _, hR⟩
      simp only at c3
      subst c3
      have ge : min xs.size ys.size ≤ i := by
        apply Decidable.byContradiction
        intro nl
        rw [List.drop_eq_getElem_cons (show i < (xs.toList.zip ys.toList).length by omega)] at hz
        cases hz
      rw [ltRes_end ge] at hR
      wp_walk
      exact ⟨_, rfl, by simpa [Builtin.Tuple.tupleCompareSizes] using hR⟩
    case h =>
      exact ⟨rfl, rfl, 0, rfl, fun j hj => absurd hj (Nat.not_lt_zero j), by simpa using h⟩
theorem rcLt_tup {l b : Addr} {xs ys : Array Value} {e r : Nat → Bool} (hl : s.heap.IsTuple l xs) (hb : s.heap.IsTuple b ys) (hu : A.units < cLine) (h : LtAsk A.in1 s xs ys e r) : RcLt A s (.ref l) (.ref b) (ltRes xs ys e r 0) := fun prog w E Q q => by
  obtain ⟨⟨c1, d1, t1, s1⟩, ho, hc, n, hd⟩ := hl
  obtain ⟨⟨c2, d2, t2, s2⟩, ho2, hc2, n2, hd2⟩ := hb
  simp only at hc hd hc2 hd2
  subst hc hd hc2 hd2
  refine richCompare_meets_room (op := .Lt) ⟨_, ho, rfl⟩ ⟨_, ho2, rfl⟩ PySem.F.slot_tuple_lt PySem.F.entry_tuple_lt (PySem.F.args_tuple_lt_2 _ _) (tuple_ltP l b xs ys n n2 d1 d2 s1 s2 e r) ⟨ho, ho2, h, ?_⟩ hu
  exact ⟨(fun x => nomatch x), q⟩
/-! ### < of data that can be compared -/
theorem firstLt_pln : ∀ {xs ys : List D}, plnDs xs = true → plnDs ys = true → cmpbs xs ys = true →
    firstLt (pairEq xs ys) (fun j => dataLt (xs.getD j .none) (ys.getD j .none)) (decide (xs.length < ys.length)) (List.range (min xs.length ys.length)) = lexT (keyToksAll xs) (keyToksAll ys)
  | [], [], _, _, _ => by
    simp only [keyToksAll]
    rfl
  | [], y :: ys, _, _, _ => by
    simp only [keyToksAll]
    rw [lexT_ne (by simp)]
    rfl
  | x :: xs, [], _, _, _ => by
    simp only [keyToksAll]
    rw [lexT_ne (by simp)]
    rfl
  | x :: xs, y :: ys, hx, hy, c => by
    rw [plnDs, Bool.and_eq_true] at hx hy
    rw [cmpbs] at c
    rw [List.length_cons, List.length_cons, Nat.add_min_add_right, List.range_succ_eq_map]
    have ed : decide (xs.length + 1 < ys.length + 1) = decide (xs.length < ys.length) := decide_eq_decide.mpr (by omega)
    rw [ed]
    cases q : PyData.eqv x y with
    | true =>
      rw [if_pos q] at c
      rw [PySem.SeqAt.firstLt_yes (show pairEq (x :: xs) (y :: ys) 0 = true from q), PySem.W.firstLt_map]
      have z := eqv_pln hx.1 hy.1 q
      subst z
      rw [ltAll_eq, ← firstLt_pln hx.2 hy.2 c]
      rfl
    | false =>
      rw [if_neg (by rw [q]; decide)] at c
      rw [PySem.SeqAt.firstLt_no (show pairEq (x :: xs) (y :: ys) 0 = false from q), ltAll_ne hx.1 hy.1 c q]
      rfl
mutual
theorem rcLt_pln : ∀ {da db : D} {A : Around} {s : Shared} {a b : Value} {as bs : List Addr}, plnD da = true → plnD db = true → Reads s.heap a da as → Reads s.heap b db bs → cmpb da db = true → A.units + min da.depth db.depth < cLine → RcLt A s a b (dataLt da db)
  | .int x, db, A, s, a, b, as, bs, _, _, ra, rb, c, _ => by
    cases db with
    | int y =>
      cases ra
      cases rb
      intro prog w E Q q
      rw [PySem.W.dataLt_int] at q
      exact PySem.P.lt_int q
    | _ => simp [cmpb] at c
  | .str x, db, A, s, a, b, as, bs, _, _, ra, rb, c, _ => by
    cases db with
    | str y =>
      cases ra
      cases rb
      intro prog w E Q q
      rw [PySem.W.dataLt_str] at q
      exact PySem.P.lt_str q
    | _ => simp [cmpb] at c
  | .tuple xs, db, A, s, a, b, as, bs, hx, hy, ra, rb, c, hu => by
    cases db with
    | tuple ys =>
      rw [cmpb] at c
      rw [plnD] at hx hy
      rw [PyData.depth, PyData.depth] at hu
      cases ra with
      | @tuple l o vs n _ as₁ h1 h2 h3 h4 =>
        cases rb with
        | @tuple l' o' vs' n' _ bs₁ k1 k2 k3 k4 =>
          have n1 : vs.size = xs.length := by simpa using PySem.SeqAt.ReadsAll.length _ _ _ h4
          have n2 : vs'.size = ys.length := by simpa using PySem.SeqAt.ReadsAll.length _ _ _ k4
          have key : ltRes vs vs' (pairEq xs ys) (fun j => dataLt (xs.getD j .none) (ys.getD j .none)) 0 = dataLt (.tuple xs) (.tuple ys) := by
            rw [PySem.W.dataLt_tuple]
            refine Eq.trans ?_ (firstLt_pln hx hy c)
            unfold ltRes
            rw [List.drop_zero, n1, n2]
          rw [← key]
          refine rcLt_tup ⟨_, h1, h2, _, h3⟩ ⟨_, k1, k2, _, k3⟩ (PySem.SeqAt.room_here hu) ⟨fun j j1 j2 => ?_, fun j j1 j2 je jn => ?_⟩
          · have := PySem.SeqAt.eqAt_readsAll xs ys A.in1 s vs.toList vs'.toList _ _ h4 k4 (plns_lay hx) (plns_lay hy) (PySem.SeqAt.room_in hu) j (by simpa using j1) (by simpa using j2)
            simpa using this
          · have := rcLts_pln (A := A.in1) hx hy h4 k4 c (PySem.SeqAt.room_in hu) j (by simpa using j1) (by simpa using j2) je jn
            simpa using this
    | _ => simp [cmpb] at c
  | .none, _, _, _, _, _, _, _, h, _, _, _, _, _ => by cases h
  | .bool _, _, _, _, _, _, _, _, h, _, _, _, _, _ => by cases h
  | .list _, _, _, _, _, _, _, _, h, _, _, _, _, _ => by cases h
  | .dict _, _, _, _, _, _, _, _, h, _, _, _, _, _ => by cases h
theorem rcLts_pln : ∀ {xs ys : List D} {A : Around} {s : Shared} {vs ws : List Value} {as bs : List Addr}, plnDs xs = true → plnDs ys = true → ReadsAll s.heap vs xs as → ReadsAll s.heap ws ys bs → cmpbs xs ys = true → A.units + min (PyData.depthAll xs) (PyData.depthAll ys) < cLine →
    ∀ j (h1 : j < vs.length) (h2 : j < ws.length), (∀ i, i < j → pairEq xs ys i = true) → pairEq xs ys j = false → RcLt A s vs[j] ws[j] (dataLt (xs.getD j .none) (ys.getD j .none))
  | [], _, _, _, _, _, _, _, _, _, ra, _, _, _, j, h1, _, _, _ => by
    cases ra
    exact absurd h1 (Nat.not_lt_zero _)
  | _ :: _, [], _, _, _, _, _, _, _, _, _, rb, _, _, j, _, h2, _, _ => by
    cases rb
    exact absurd h2 (Nat.not_lt_zero _)
  | x :: xs, y :: ys, A, s, _, _, _, _, hx, hy, ra, rb, c, hu, j, h1, h2, je, jn => by
    rw [plnDs, Bool.and_eq_true] at hx hy
    rw [cmpbs] at c
    rw [PyData.depthAll, PyData.depthAll] at hu
    cases ra with
    | cons r rs =>
      cases rb with
      | cons r' rs' =>
        cases j with
        | zero =>
          have q : PyData.eqv x y = false := jn
          rw [if_neg (by rw [q]; decide)] at c
          exact rcLt_pln hx.1 hy.1 r r' c (PySem.SeqAt.room_head hu)
        | succ j =>
          have q : PyData.eqv x y = true := je 0 (Nat.succ_pos j)
          rw [if_pos q] at c
          exact rcLts_pln hx.2 hy.2 rs rs' c (PySem.SeqAt.room_tail hu) j (Nat.lt_of_succ_lt_succ h1) (Nat.lt_of_succ_lt_succ h2) (fun i hi => je (i + 1) (Nat.succ_lt_succ hi)) jn
end
end
/-! ### sorting -/
section
variable {prog : Program} {w : World} {A : Around} {E : Value → Shared → Prop} {s : Shared}
open PySem.W (EachIs SortsAt dataKind KatLex)
theorem oneLt_pln {f : Bool} {da db : D} {a b : Value} {as bs : List Addr} {Q : Bool → Shared → Prop} (hf : f = true → ∃ z, da = .str z) (hx : plnD da = true) (hy : plnD db = true) (ra : Reads s.heap a da as) (rb : Reads s.heap b db bs) (c : cmpb da db = true)
    (hu : A.units + min da.depth db.depth < cLine) (q : Q (dataLt da db) s) : wpAny (model prog w) A (oneLt' f a b) Q E s := by
  cases f with
  | true =>
    obtain ⟨z, rfl⟩ := hf rfl
    cases db with
    | str y =>
      cases ra
      cases rb
      rw [PySem.W.dataLt_str] at q
      exact oneLt_str q
    | _ => simp [cmpb] at c
  | false =>
    rw [oneLt'_eq]
    simp only [Bool.false_eq_true, if_false]
    exact wpAny_bind (rcLt_pln hx hy ra rb c hu prog w E _ (wpAny_truthy_bool q))
theorem katLex_pln {b fin : Bool} {Q : Bool → Shared → Prop} : ∀ {xs ys : List D} (i : Nat) {vs ws : List Value} {as bs : List Addr}, plnDs xs = true → plnDs ys = true → ReadsAll s.heap vs xs as → ReadsAll s.heap ws ys bs → cmpbs xs ys = true →
    A.units + min (PyData.depthAll xs) (PyData.depthAll ys) < cLine → (i = 0 → ∀ x r, xs = x :: r → ∃ z, x = .str z) → fin = decide (xs.length < ys.length) → Q (lexT (keyToksAll xs) (keyToksAll ys)) s → KatLex prog w A b fin Q (vs.zip ws) i s
  | [], [], i, _, _, _, _, _, _, ra, rb, _, _, _, hf, q => by
    cases ra
    cases rb
    subst hf
    exact PySem.W.kat_nil q
  | [], y :: ys, i, _, _, _, _, _, _, ra, rb, _, _, _, hf, q => by
    cases ra
    subst hf
    simp only [keyToksAll] at q
    rw [lexT_ne (by simp)] at q
    rw [List.zip_nil_left]
    exact PySem.W.kat_nil q
  | x :: xs, [], i, _, _, _, _, _, _, ra, rb, _, _, _, hf, q => by
    cases rb
    subst hf
    simp only [keyToksAll] at q
    rw [lexT_ne (by simp)] at q
    rw [List.zip_nil_right]
    exact PySem.W.kat_nil q
  | x :: xs, y :: ys, i, _, _, _, _, hx, hy, ra, rb, c, hu, h0, hf, q => by
    rw [plnDs, Bool.and_eq_true] at hx hy
    rw [cmpbs] at c
    rw [PyData.depthAll, PyData.depthAll] at hu
    have hf' : fin = decide (xs.length < ys.length) := by
      rw [hf]
      simp only [List.length_cons, Nat.add_lt_add_iff_right]
    cases ra with
    | cons r rs =>
      cases rb with
      | cons r' rs' =>
        rw [List.zip_cons_cons]
        refine PySem.W.kat_cons (PySem.SeqAt.eqAt_reads x y A s _ _ _ _ r r' (pln_lay hx.1) (pln_lay hy.1) (PySem.SeqAt.room_head hu) prog w _ _ ?_)
        cases e : PyData.eqv x y with
        | true =>
          rw [if_pos e] at c
          have z := eqv_pln hx.1 hy.1 e
          subst z
          rw [ltAll_eq] at q
          exact PySem.W.kat_yes (katLex_pln (i + 1) hx.2 hy.2 rs rs' c (PySem.SeqAt.room_tail hu) (fun z => absurd z (Nat.succ_ne_zero i)) hf' q)
        | false =>
          rw [if_neg (by rw [e]; decide)] at c
          rw [ltAll_ne hx.1 hy.1 c e] at q
          refine PySem.W.kat_no (oneLt_pln (fun hb => ?_) hx.1 hy.1 r r' c (PySem.SeqAt.room_head hu) q)
          rw [Bool.and_eq_true] at hb
          exact h0 (by simpa using hb.2) x xs rfl
theorem dataKind_pln {h : Heap} {ds : List D} (hp : ∀ d ∈ ds, plnD d = true) {v : Value} {d : D} {as : List Addr} (hd : d ∈ ds) (r : Reads h v d as) : (dataKind h ds).keyOf v = some (keyToks d) := by
  have q : ∃ d, d ∈ ds ∧ ∃ as, Reads h v d as := ⟨d, hd, as, r⟩
  obtain ⟨h1, as', h2⟩ := q.choose_spec
  have e : q.choose = d := reads_one (hp _ h1) (hp _ hd) h2 r
  show (open Classical in if q : ∃ d, d ∈ ds ∧ ∃ as, Reads h v d as then some (keyToks q.choose) else none) = some (keyToks d)
  rw [dif_pos q, e]
theorem each_in {α β : Type} {R : α → β → Prop} : ∀ {as : List α} {bs : List β}, EachIs R as bs → ∀ a ∈ as, ∃ b ∈ bs, R a b
  | _, _, .nil, a, h => nomatch h
  | _, _, .cons h t, a, m => by
    rcases List.mem_cons.mp m with rfl | m
    · exact ⟨_, List.mem_cons_self, h⟩
    · obtain ⟨b, m1, m2⟩ := each_in t a m
      exact ⟨b, List.mem_cons_of_mem _ m1, m2⟩
theorem sortsAt_pln {vs : List Value} {ds : List D} (e : EachIs (fun v d => ∃ as, Reads s.heap v d as) vs ds) (hk : SrtOk ds) (hu : A.units + 60 < cLine) : SortsAt prog w A s (dataKind s.heap ds) vs := by
  obtain ⟨h1, h2, h3⟩ := hk
  have hp : ∀ d ∈ ds, plnD d = true := fun d hd => (h3 d hd).1
  have room : ∀ {d d' : D}, d ∈ ds → A.units + min d.depth d'.depth < cLine := fun {d d'} hd => by
    have q1 := (h3 d hd).2
    have q2 : min d.depth d'.depth ≤ d.depth := Nat.min_le_left _ _
    omega
  refine ⟨fun v hv => ?_, ?_⟩
  · obtain ⟨d, hd, as, r⟩ := each_in e v hv
    exact ⟨_, dataKind_pln hp hd r⟩
  · rcases h2 with h2 | h2
    · refine ⟨tuples' true, ?_, fun l2 E Q q => ?_⟩
      · intro E x y a b Q ha hb q
        obtain ⟨d, as, hd, ra, rfl⟩ := PySem.W.dataKind_inv ha
        obtain ⟨d', as', hd', rb, rfl⟩ := PySem.W.dataKind_inv hb
        have rm := room (d' := d') hd
        have c := h1 d hd d' hd'
        have p1 := hp d hd
        have p2 := hp d' hd'
        obtain ⟨z1, r1, rfl⟩ := h2 d hd
        obtain ⟨z2, r2, rfl⟩ := h2 d' hd'
        have q' : Q (dataLt (.tuple (.str z1 :: r1)) (.tuple (.str z2 :: r2))) s := q
        rw [PySem.W.dataLt_tuple] at q'
        rw [cmpb] at c
        rw [plnD] at p1 p2
        rw [PyData.depth, PyData.depth] at rm
        cases ra with
        | @tuple l o xs n _ _ k1 k2 k3 k4 =>
          cases rb with
          | @tuple l' o' xs' n' _ _ j1 j2 j3 j4 =>
            have n1 : xs.size = (PyData.str z1 :: r1).length := by simpa using PySem.SeqAt.ReadsAll.length _ _ _ k4
            have n2 : xs'.size = (PyData.str z2 :: r2).length := by simpa using PySem.SeqAt.ReadsAll.length _ _ _ j4
            exact PySem.W.kat_lt k1 k3 j1 j3 (katLex_pln 0 p1 p2 k4 j4 c (by have := PySem.SeqAt.room_in rm; omega) (fun _ x r ex => ⟨z1, (List.cons.inj ex).1.symm⟩) (by rw [n1, n2]) q')
      · obtain ⟨fs, t1, t2, t3⟩ := PySem.W.each_katTups e fun d hd => by
          obtain ⟨z, r, rfl⟩ := h2 d hd
          exact ⟨_, _, rfl⟩
        refine PySem.W.kat_kind (T := .type "str") t1 (by omega) (fun f hf => ?_) (beq_self_eq_true _) ?_
        · obtain ⟨x, r, as, m1, m2⟩ := t3 f hf
          obtain ⟨z, r', ez⟩ := h2 _ m1
          injection ez with ez
          obtain ⟨rfl, _⟩ := List.cons.inj ez
          exact PySem.W.looks_reads m2
        · have ne : (Value.type "str" != Value.type "tuple") = true := by first | decide +kernel | rfl | decide
          rw [ne]
          exact q
    · refine ⟨oneType', ?_, fun l2 E Q q => ?_⟩
      · intro E x y a b Q ha hb q
        obtain ⟨d, as, hd, ra, rfl⟩ := PySem.W.dataKind_inv ha
        obtain ⟨d', as', hd', rb, rfl⟩ := PySem.W.dataKind_inv hb
        rw [keyLt'_oneType]
        exact oneLt_pln (fun _ => h2 d hd) (hp d hd) (hp d' hd') ra rb (h1 d hd d' hd') (room hd) q
      · refine PySem.W.kas_kind (T := .type "str") l2 (fun v hv => ?_) (by first | decide +kernel | rfl | decide) (beq_self_eq_true _) q
        obtain ⟨d, hd, as, r⟩ := each_in e v hv
        obtain ⟨z, rfl⟩ := h2 d hd
        exact PySem.W.looks_reads r
theorem sortVals_pln {h' : Heap} {R : Value → D → Prop} {vs : List Value} {bs : List D} (e : EachIs R vs bs) (er : EachIs (fun v b => ∃ as, Reads h' v b as) vs bs) (hp : ∀ d ∈ bs, plnD d = true) :
    EachIs R (PySem.W.sortVals (dataKind h' bs) false vs vs) (bs.mergeSort (PySem.W.dataLe false id)) :=
  PySem.W.sortVals_each (κ := dataKind h' bs) (fun b => keyToks b) e ((PySem.W.each_mem er).mono fun _ _ q => by
    obtain ⟨⟨as, r⟩, hd⟩ := q
    exact dataKind_pln hp hd r)
end
end DL

/-! SDT: dicts keyed by tuples by values; sorted of data, of a dict's keys; list(d). -/
namespace DL
open PySem PySem.Spec PyProof.Rows L2
section
variable {prog : Program} {w : World} {A : Around} {E : Value → Shared → Prop} {s : Shared}
/-- sorted(u), where the items of u are collected as vs -/
theorem sorted_src {u : Value} {vs : List Value} {Q : Value → Shared → Prop} (hz : vs.length ≤ sizeLine)
    (C : ∀ (R : List Value → Shared → Prop), (∀ (h' : Heap) (tk : Nat), (∀ b o, s.heap.get? b = some o → h'.get? b = some o) → s.heap.objs.size ≤ h'.objs.size → R vs { s with heap := h', toks := tk }) → wpAny (model prog w) A.in1 (collect u) R E s)
    (h : ∀ (h' : Heap) (tk : Nat), (∀ b o, s.heap.get? b = some o → h'.get? b = some o) → s.heap.objs.size ≤ h'.objs.size →
      wpAny (model prog w) A.in1.in1 (Builtin.«list.sort» ⟨[.ref h'.objs.size], []⟩) (fun fin s' => fin = .done (.ret .none) ∧ Q (.ref h'.objs.size) s') E { s with heap := h'.push (seqObj "list" vs.toArray 0), toks := tk }) :
    wpAny (model prog w) A (call (.builtin "sorted") [u]) Q E s := by
  refine Calls.call_function_entry kind_sorted plain_sorted entry_sorted (args_sorted1 _) ?_
  unfold Builtin.«sorted»
  refine wpAny_bind (m := checkCount "sorted" 1 1 _) (wpAny_pure ?_)
  refine wpAny_bind (C _ fun h' tk kp sz => ?_)
  refine wpAny_bind (wpAny_newList ?_ hz)
  have hoL : (h'.push (seqObj "list" vs.toArray 0)).get? h'.objs.size = some (seqObj "list" vs.toArray 0) := Heap.get?_push_size _ rfl
  refine wpAny_bind (wpAny_holding (wpAny_call_entry slot_list_sort ⟨_, hoL, rfl⟩ entry_list_sort (wpAny_mono (h h' tk kp sz) (fun fin s' x => ?_) fun _ _ e => e) (args_list_sort _)))
  obtain ⟨x1, x2⟩ := x
  subst x1
  exact ⟨_, rfl, wpAny_pure ⟨_, rfl, x2⟩⟩
theorem collect_list' {l : Addr} {vs : List Value} (hl : s.heap.IsList l vs.toArray) (hz : vs.length ≤ sizeLine) (R : List Value → Shared → Prop)
    (f : ∀ (h' : Heap) (tk : Nat), (∀ b o, s.heap.get? b = some o → h'.get? b = some o) → s.heap.objs.size ≤ h'.objs.size → R vs { s with heap := h', toks := tk }) : wpAny (model prog w) A (collect (.ref l)) R E s := by
  refine collect_list hl ?_ hz
  refine f _ s.toks (fun b o q => ?_) (by rw [Heap.size_update, size_push']; exact Nat.le_succ _)
  have hlt : b < s.heap.objs.size := Heap.lt_size q
  rw [Heap.get?_update_ne _ _ _ _ (Nat.ne_of_lt hlt)]
  exact Heap.get?_push_of_some _ q
theorem sort_data_at {a : Addr} {vs : List Value} {bs : List D} {n : Nat} {R : Value → D → Prop} {P : PySem.Fin → Shared → Prop} (ho : s.heap.get? a = some (seqObj "list" vs.toArray n)) (e : PySem.W.EachIs R vs bs) (er : PySem.W.EachIs (fun v b => ∃ as, Reads (PySem.W.sortingHeap s.heap a vs) v b as) vs bs) (hd : SrtOk bs) (hL : bs.length ≤ sizeLine)
    (hu : A.units + 60 < cLine) (h : ∀ out, out.length = bs.length → PySem.W.EachIs R out (bs.mergeSort (PySem.W.dataLe false id)) → P (.done (.ret .none)) { s with heap := sortedHeap s.heap a vs (List.toArray out) }) :
    wpAny (model prog w) A (Builtin.«list.sort» ⟨[.ref a], []⟩) P E s := by
  have hp : ∀ d ∈ bs, plnD d = true := fun d h => (hd.2.2 d h).1
  refine PySem.W.list_sort_vals (κ := PySem.W.dataKind (PySem.W.sortingHeap s.heap a vs) bs) ho (sortsAt_pln (s := { s with heap := PySem.W.sortingHeap s.heap a vs }) er hd hu) (by rw [e.length]; exact hL) ?_
  exact h _ (by rw [PySem.W.sortVals_length false rfl]; exact e.length) (sortVals_pln e er hp)
/-- the keys of a dict are collected -/
theorem collect_dict {d : Addr} {o : Obj} {es : Array DictEntry} {ep : Nat} {R : List Value → Shared → Prop} (lo : (d == sysModules) = false) (hx : o.ExactDict) (hd : o.data = .dict es ep) (ho : s.heap.get? d = some o) (hh : A.handled = none) (hn : es.size ≤ sizeLine)
    (f : ∀ (h' : Heap) (tk : Nat) (acc : Array Value), (∀ b o, s.heap.get? b = some o → h'.get? b = some o) → s.heap.objs.size ≤ h'.objs.size → PySem.ItemsOf (fun i v => ∃ en : DictEntry, es[i]? = some en ∧ v = en.key) acc es.size → R acc.toList { s with heap := h', toks := tk }) :
    wpAny (model prog w) A (collect (.ref d)) R E s := by
  have K := kdl_raw (prog := prog) (w := w) lo hx hd
  have hlt : d < s.heap.objs.size := Heap.lt_size ho
  have hS : (s.heap.push { cls := .type "list", data := .seq ([] : List Value).toArray }).get? s.heap.objs.size = some { cls := .type "list", data := .seq #[] } := Heap.get?_push_size _ rfl
  have ho' : (s.heap.push { cls := .type "list", data := .seq ([] : List Value).toArray }).get? d = some o := Heap.get?_push_of_some _ ho
  unfold collect
  refine wpAny_bind (wpAny_runValue (codeAny_builtin entry_proto_collect' ?_))
  rw [Around.under_plainId PySem.F.plain_proto_collect _]
  show wpAny _ A.in1 (newList [] >>= fun l => again (.builtin "list.__iadd__" ⟨[l, .ref d], []⟩)) _ _ s
  refine wpAny_bind (wpAny_newObj_type ?_)
  refine wpAny_pure ⟨plainId_quiet PySem.F.plain_list_iadd _, codeAny_builtin entry_list_iadd' ?_⟩
  rw [Around.under_plainId PySem.F.plain_list_iadd _]
  refine wpAny_mono (PySem.W.kdl_extend (A := A) (s := { s with heap := s.heap.push { cls := .type "list", data := .seq ([] : List Value).toArray } }) (R := fun q s' => ∃ (h' : Heap) (tk : Nat) (acc : Array Value) (c : Nat), (q = .ok (.ret (.ref s.heap.objs.size)) ∧ s' = { s with heap := h', toks := tk } ∧
      h'.get? s.heap.objs.size = some { cls := .type "list", dict := none, data := .seq acc c, slots := #[] }) ∧ R acc.toList s') K hh ho' s.heap.objs.size (Nat.ne_of_gt hlt) (Nat.ne_of_gt hlt) (.ref s.heap.objs.size) 0 hS
    (fun h' tk acc c kp e it => ⟨h', tk, acc, c, ⟨rfl, rfl, e⟩, f h' tk acc (fun b ob q => kp b ob (Nat.ne_of_lt (Heap.lt_size q)) (Heap.get?_push_of_some _ q)) (Nat.le_of_lt (Heap.lt_size e)) it⟩) hn) (fun fin s' x => ?_) fun e s' x => ?_
  · cases fin with
    | done g =>
      obtain ⟨h', tk, acc, c, ⟨e, rfl, hS'⟩, q⟩ := x
      cases e
      show wpAny _ A (load s.heap.objs.size >>= _) _ _ _
      exact wpAny_bind (wpAny_load hS' (wpAny_pure q))
    | again c₁ =>
      refine ⟨x.1, codeAny_mono x.2 fun q s₂ y => ?_⟩
      obtain ⟨h', tk, acc, c, ⟨rfl, rfl, hS'⟩, q⟩ := y
      show wpAny _ A (load s.heap.objs.size >>= _) _ _ _
      exact wpAny_bind (wpAny_load hS' (wpAny_pure q))
  · obtain ⟨_, _, _, _, ⟨e', _⟩, _⟩ := x
    cases e'
end
/-! ### what is collected -/
def SrcL (K : PySem.W.Frag) (w : World) (H : Hp) (x : V) (vs : List V) : Prop := ∃ a, x = .ref a ∧ (SqL K H a vs ∨ ∃ xs, H a = some (dtO w a xs) ∧ vs = xs.map fun x => V.ref x.2.1)
theorem vals_refs' : ∀ bs : List (NestedKey × Addr × Value), Vals (bs.map fun x => V.ref x.2.1) (bs.map fun x => Value.ref x.2.1)
  | [] => .nil
  | _ :: r => .cons rfl (vals_refs' r)
section
variable {X : Cx} {pins : List (Addr × Obj)} {s : Shared} {σ : L2.St} {H : Hp}
theorem dt_is {a : Addr} {xs : List (NestedKey × Addr × Value)} (I : Inv X pins σ H s) (h : H a = some (dtO X.w a xs)) : DtIs X.w a xs s.heap := by
  obtain ⟨h1, _⟩ := (show ObjOk X.prog X.w H s.heap a (dtO X.w a xs) from I.hok a _ h)
  exact h1
theorem acc_keys {w : World} {xs : List (NestedKey × Addr × Value)} {es : Array DictEntry} {acc : Array Value} (he : es.toList = xs.map (entW w)) (it : PySem.ItemsOf (fun i v => ∃ en : DictEntry, es[i]? = some en ∧ v = en.key) acc es.size) : acc.toList = xs.map fun x => Value.ref x.2.1 := by
  have l1 : es.size = xs.length := by rw [← Array.length_toList, he, List.length_map]
  have hl : acc.toList.length = xs.length := by rw [Array.length_toList, it.1]; exact l1
  apply List.ext_getElem?
  intro j
  rw [List.getElem?_map]
  cases hj : acc.toList[j]? with
  | none =>
    have h1 := List.getElem?_eq_none_iff.mp hj
    rw [List.getElem?_eq_none (by omega)]
    rfl
  | some v =>
    obtain ⟨en, hen, hv⟩ := it.2 j v (by rw [← Array.getElem?_toList]; exact hj)
    rw [← Array.getElem?_toList, he, List.getElem?_map] at hen
    cases hb : xs[j]? with
    | none => rw [hb] at hen; cases hen
    | some b =>
      rw [hb] at hen
      have e2 : entW w b = en := Option.some.inj hen
      rw [hv, ← e2]
      rfl
theorem src_collect {x : V} {u : Value} {vs : List V} (hc : X.calm = true) (I : Inv X pins σ H s) (h : SrcL X.K X.w H x vs) (rx : RelV x u) : ∃ its, Vals vs its ∧ its.length ≤ sizeLine ∧ ∀ (R : List Value → Shared → Prop) (E : Value → Shared → Prop),
    (∀ (h' : Heap) (tk : Nat), (∀ b o, s.heap.get? b = some o → h'.get? b = some o) → s.heap.objs.size ≤ h'.objs.size → R its { s with heap := h', toks := tk }) → wpAny (model X.prog X.w) X.A.in1 (collect u) R E s := by
  obtain ⟨a, rfl, h⟩ := h
  cases rx
  rcases h with h | ⟨xs, h, rfl⟩
  · obtain ⟨its, rv, hl, hz⟩ := I.list h
    have hz' : its.length ≤ sizeLine := by rw [← rv.length]; exact hz
    exact ⟨its, rv, hz', fun R E f => collect_list' hl.isList hz' R f⟩
  · obtain ⟨lo, hz, o, ho, hx, ⟨es, ep, hd, he⟩, _⟩ := dt_is I h
    refine ⟨_, vals_refs' xs, by rw [List.length_map]; exact hz, fun R E f => ?_⟩
    have l1 : es.size = xs.length := by rw [← Array.length_toList, he, List.length_map]
    refine collect_dict lo hx hd ho (show X.A.in1.handled = none from I.ok.hd hc) (by omega) fun h' tk acc kp sz it => ?_
    rw [acc_keys he it]
    exact f h' tk kp sz
theorem each_rep {K : PySem.W.Frag} {p : Addr} {Hh : Hp} : ∀ {ds : List D} {vs : List V} {its : List Value}, RepL K p Hh ds vs → Vals vs its → PySem.W.EachIs (fun u d => ∃ x, RelV x u ∧ Rep K p Hh d x) its ds
  | [], _, _, h, r => by
    rw [show _ = [] from h] at r
    cases r
    exact .nil
  | d :: ds, _, _, h, r => by
    obtain ⟨x, xs, rfl, h1, h2⟩ := h
    cases r with
    | cons r1 r2 => exact .cons ⟨x, r1, h1⟩ (each_rep h2 r2)
theorem rep_each {K : PySem.W.Frag} {p : Addr} {Hh : Hp} : ∀ {ds : List D} {its : List Value}, PySem.W.EachIs (fun u d => ∃ x, RelV x u ∧ Rep K p Hh d x) its ds → ∃ vs, RepL K p Hh ds vs ∧ Vals vs its
  | [], _, h => by
    cases h
    exact ⟨[], rfl, .nil⟩
  | d :: ds, _, h => by
    cases h with
    | cons h1 h2 =>
      obtain ⟨x, r, q⟩ := h1
      obtain ⟨vs, q1, q2⟩ := rep_each h2
      exact ⟨x :: vs, ⟨x, vs, rfl, q, q1⟩, .cons r q2⟩
theorem reads_each {h' : Heap} (kp : ∀ b o, s.heap.get? b = some o → h'.get? b = some o) : ∀ {ds : List D} {its : List Value} {as : List Addr}, ReadsAll s.heap its ds as → PySem.W.EachIs (fun v b => ∃ as, Reads h' v b as) its ds
  | _, _, _, .nil => .nil
  | _, _, _, .cons h1 h2 => .cons ⟨_, PyProof.Rows.Reads.keeps kp h1⟩ (reads_each kp h2)
/-- sorted(x) of data -/
def rSortD (K : PySem.W.Frag) (w : World) : List V → Hp → VK → Prop := fun xs H Q => ∃ (x : V) (vs : List V) (ds : List D) (p0 : Addr) (Hh : Hp), xs = [x] ∧ SrcL K w H x vs ∧ RepL K p0 Hh ds vs ∧ DpAll K H vs ds ∧ SrtOk ds ∧
  ∀ us, RepL K p0 Hh (ds.mergeSort (PySem.W.dataLe false id)) us → ∀ p, H p = none → Q (.ref p) (upd H p (.lst us))
theorem sort_end {h' : Heap} {tk : Nat} {its out : List Value} {us : List V} {Q : VK} (I : Inv X pins σ H s) (kp : ∀ b o, s.heap.get? b = some o → h'.get? b = some o) (hsz : s.heap.objs.size ≤ h'.objs.size) (hz : out.length ≤ sizeLine) (r : Vals us out) (q : ∀ p, H p = none → Q (.ref p) (upd H p (.lst us))) :
    EP X pins σ Q (.ref h'.objs.size) { s with heap := sortedHeap (h'.push (seqObj "list" its.toArray 0)) h'.objs.size its out.toArray, toks := tk } := by
  obtain ⟨ep, he⟩ := sortedHeap_at (h := h'.push (seqObj "list" its.toArray 0)) (a := h'.objs.size) (vs := its) (n := 0) (out := out.toArray) (Heap.get?_push_size _ rfl)
  refine ⟨.ref h'.objs.size, upd H h'.objs.size (.lst us), I.laid (t' := tk) (fun b o hb => ?_) hsz ⟨by rw [r.length]; exact hz, out, ep, r, he⟩, rfl, q _ (I.hok.fresh hsz)⟩
  have hlt := Heap.lt_size (kp b o hb)
  rw [sortedHeap_old (Nat.ne_of_lt hlt) (by rw [size_push']; exact Nat.lt_succ_of_lt hlt)]
  exact Heap.get?_push_of_some _ (kp b o hb)
theorem cr_sortedD (hc : X.calm = true) (hu : X.A.units + 65 < cLine) : CallR X (.builtin "sorted") (rSortD X.K X.w) := by
  intro pins s σ H xs us Q I r h
  obtain ⟨x, vs, ds, p0, Hh, rfl, hs, hr, hp, hd, q⟩ := h
  obtain ⟨u, rfl, ru⟩ := r.one
  obtain ⟨its, rv, hz, C⟩ := src_collect hc I hs ru
  obtain ⟨as, ra⟩ := Dp.readsAll I ds vs its hp rv
  have hl : its.length = ds.length := by rw [← rv.length, hr.length]
  refine sorted_src hz (fun R f => C R _ f) fun h' tk kp sz => ?_
  refine sort_data_at (a := h'.objs.size) (n := 0) (Heap.get?_push_size _ rfl) (each_rep hr rv) (reads_each (fun b o e => ?_) ra) hd (by omega) (by show X.A.in1.in1.units + 60 < cLine; exact Nat.lt_of_le_of_lt (show X.A.in1.in1.units + 60 ≤ X.A.units + 62 by simp [Around.in1, Around.units]) (by omega)) fun out o1 o2 => ⟨rfl, ?_⟩
  · exact PySem.W.sortingHeap_old (Nat.ne_of_lt (Heap.lt_size (kp b o e))) (Heap.get?_push_of_some _ (kp b o e))
  · obtain ⟨us, q1, q2⟩ := rep_each o2
    exact sort_end (s := s) I kp sz (by omega) q2 (q us q1)
/-- sorted(x) of tuples of ints -/
def rSortTs (K : PySem.W.Frag) (w : World) : List V → Hp → VK → Prop := fun xs H Q => ∃ (x : V) (vs : List V) (ts : List (List Int)), xs = [x] ∧ SrcL K w H x vs ∧ TupsAre K H vs ts ∧
  ∀ us : List (V × List Int), (us.map (·.2)).Perm ts → (us.map (·.2)).Pairwise (fun x y => HT.lexLt y x = false) → (∀ u ∈ us, u ∈ vs.zip ts) → ∀ p, H p = none → Q (.ref p) (upd H p (.lst (us.map (·.1))))
theorem cr_sortedTs (hc : X.calm = true) (hu : X.A.units + 65 < cLine) : CallR X (.builtin "sorted") (rSortTs X.K X.w) := by
  intro pins s σ H xs us Q I r h
  obtain ⟨x, vs, ts, rfl, hs, ht, q⟩ := h
  obtain ⟨u, rfl, ru⟩ := r.one
  obtain ⟨its, rv, hz, C⟩ := src_collect hc I hs ru
  obtain ⟨h1, h2, h3⟩ := tups_read I ht rv
  have t : ∀ v ∈ its, ∃ ns, IsTI s.heap v ns := fun v hv => ⟨_, h3 v hv⟩
  refine sorted_src hz (fun R f => C R _ f) fun h' tk kp sz => ?_
  have kp2 : ∀ b o, s.heap.get? b = some o → (h'.push (seqObj "list" its.toArray 0)).get? b = some o := fun b o e => Heap.get?_push_of_some _ (kp b o e)
  have t' : ∀ v ∈ its, ∃ ns, IsTI (h'.push (seqObj "list" its.toArray 0)) v ns := fun v hv => by
    obtain ⟨ns, x⟩ := t v hv
    exact ⟨ns, x.keeps fun b o e _ => kp2 b o e⟩
  have ek : ∀ v ∈ its, kI (h'.push (seqObj "list" its.toArray 0)) v = kI s.heap v := fun v hv => by
    obtain ⟨ns, x⟩ := t v hv
    rw [kI_of x, kI_of (x.keeps fun b o e _ => kp2 b o e)]
  have hoL : (h'.push (seqObj "list" its.toArray 0)).get? h'.objs.size = some (seqObj "list" its.toArray 0) := Heap.get?_push_size _ rfl
  refine SrtO.list_sort_ord (swo_T s.heap) hoL hz (fun h2 => ?_) fun out o1 o2 => ⟨rfl, ?_⟩
  · have qq := sortable_ti (prog := X.prog) (w := X.w) (A := X.A.in1.in1) (s := { s with heap := h'.push (seqObj "list" its.toArray 0), toks := tk }) (a := h'.objs.size) h2 t' (fun o e => by
      have e' : some o = some (seqObj "list" its.toArray 0) := e.symm.trans hoL
      cases e'
      intro c
      exact absurd (Value.type.inj c) (by decide)) (Nat.lt_of_le_of_lt (show X.A.in1.in1.units ≤ X.A.units + 2 by simp [Around.in1, Around.units]) (by omega))
    intro h4 keep
    obtain ⟨κ, k1, k2⟩ := qq h4 keep
    refine ⟨κ, k1, fun p r hm hm' => ?_⟩
    have c := k2 p r hm hm'
    have e : SrtO.lt2 (ltT (h'.push (seqObj "list" its.toArray 0))) p r = SrtO.lt2 (ltT s.heap) p r := by
      show HT.lexLt (kI _ p.1) (kI _ r.1) = HT.lexLt (kI s.heap p.1) (kI s.heap r.1)
      rw [ek _ hm, ek _ hm']
    rw [← e]
    exact c
  · have pm : out.Perm its := o2.perm
    have to : ∀ v ∈ out, ∃ ns, IsTI s.heap v ns := fun v hv => t v (pm.mem_iff.mp hv)
    have key := q (out.map fun v => (vOf v, kI s.heap v)) (by
        rw [List.map_map, ← h2]
        exact pm.map _) (by
        rw [List.map_map, List.pairwise_map]
        exact o1) (fun u hu => by
        obtain ⟨v, hv, rfl⟩ := List.mem_map.mp hu
        rw [← h1, ← h2]
        exact zip_mem (pm.mem_iff.mp hv))
    rw [List.map_map] at key
    exact sort_end (s := s) I kp sz (by rw [pm.length_eq]; exact hz) (vals_of_ti to) key
/-- list(d) -/
def rListDt (w : World) : List V → Hp → VK → Prop := fun vs H Q => ∃ a xs, vs = [V.ref a] ∧ H a = some (dtO w a xs) ∧ ∀ p, H p = none → Q (.ref p) (upd H p (.lst (xs.map fun x => V.ref x.2.1)))
theorem call_listDt (hc : X.calm = true) : CallR X (.type "list") (rListDt X.w) := by
  intro pins s σ H vs us Q I r h
  obtain ⟨a, xs, rfl, h, q⟩ := h
  obtain ⟨u, rfl, rx⟩ := r.one
  cases rx
  obtain ⟨lo, hz, o, ho, hx, ⟨es, ep, hd, he⟩, _⟩ := dt_is I h
  have l1 : es.size = xs.length := by rw [← Array.length_toList, he, List.length_map]
  refine PySem.W.kdl_call (kdl_raw lo hx hd) (I.ok.hd hc) ho (by omega) fun h' tk acc c kp e it => ?_
  have ea := acc_keys he it
  refine ⟨.ref s.heap.objs.size, _, I.laid (t' := tk) (o := .lst (xs.map fun x => V.ref x.2.1)) kp (Nat.le_refl _) ?_, rfl, q _ (I.hok.fresh (Nat.le_refl _))⟩
  exact ⟨by rw [List.length_map]; exact hz, acc.toList, c, by rw [ea]; exact vals_refs' xs, by rw [Array.toArray_toList]; exact e⟩
/-! ### keys -/
mutual
theorem rep_key {P : Pm} {Hh : Hp} (sm : Same Hh H) (hK : X.K = P.K) (I : Inv X pins σ H s) : ∀ {d : D} {k : NestedKey} {v : V} {u : Value}, nkey d = some k → Rep P.K P.p Hh d v → RelV v u → NestedIs s.heap k u
  | .none, k, v, u, e, h, r => by
    cases e
    rw [show v = .non from h] at r
    cases r
    exact .none
  | .bool b, k, v, u, e, h, r => by
    cases e
    rw [show v = .bl b from h] at r
    cases r
    exact .bool rfl
  | .int i, k, v, u, e, h, r => by
    cases e
    rw [show v = .int i from h] at r
    obtain ⟨t, rfl⟩ := r
    exact .int i t
  | .str z, k, v, u, e, h, r => by
    cases e
    rw [show v = .str z from h] at r
    obtain ⟨t, rfl⟩ := r
    exact .text z t
  | .tuple ds, k, v, u, e, h, r => by
    simp only [nkey, Option.map_eq_some_iff] at e
    obtain ⟨ks, e1, rfl⟩ := e
    obtain ⟨a, vs, rfl, h1, h2⟩ := h
    cases r
    obtain ⟨its, rv, ⟨o, ho, hcl, n, hd⟩, _⟩ := I.tuple (by rw [hK]; exact SqT.same sm h1.1)
    exact .tup ho hcl hd (by simpa using rep_keys sm hK I e1 h2 rv)
  | .list ds, k, v, u, e, h, r => by simp [nkey] at e
  | .dict ds, k, v, u, e, h, r => by simp [nkey] at e
theorem rep_keys {P : Pm} {Hh : Hp} (sm : Same Hh H) (hK : X.K = P.K) (I : Inv X pins σ H s) : ∀ {ds : List D} {ks : List NestedKey} {vs : List V} {us : List Value}, nkeys ds = some ks → RepL P.K P.p Hh ds vs → Vals vs us → NestedAll s.heap ks us
  | [], ks, vs, us, e, h, r => by
    cases e
    rw [show vs = [] from h] at r
    cases r
    exact .nil
  | d :: ds, ks, vs, us, e, h, r => by
    simp only [nkeys, Option.bind_eq_some_iff, Option.map_eq_some_iff] at e
    obtain ⟨k, e1, ks', e2, rfl⟩ := e
    obtain ⟨x, xs, rfl, h1, h2⟩ := h
    cases r with
    | cons r1 r2 => exact .cons (rep_key sm hK I e1 h1 r1) (rep_keys sm hK I e2 h2 r2)
end
theorem keyOk_some {d : D} (h : keyOk d = true) : ∃ k, nkey d = some k ∧ k.depth ≤ 8 := by
  unfold keyOk at h
  split at h
  · split at h
    · rename_i k e
      exact ⟨k, e, by simpa using h⟩
    · cases h
  · cases h
theorem keyOk_tup {d : D} (h : keyOk d = true) : ∃ ds, d = .tuple ds := by
  unfold keyOk at h
  split at h
  · exact ⟨_, rfl⟩
  · cases h
section
variable {K : PySem.W.Frag} {p : Addr} {Hh : Hp}
theorem RepX.get {d : D} {k : NestedKey} (hk : nkey d = some k) : ∀ {kvs : List (D × D)} {xs : List (NestedKey × Addr × Value)}, RepX K p Hh kvs xs →
    (atKey xs k = none ∧ getT kvs d = none) ∨ ∃ b u x e, atKey xs k = some (b, u) ∧ getT kvs d = some e ∧ RelV x u ∧ Rep K p Hh e x
  | [], xs, h => by
    rw [show xs = [] from h]
    exact .inl ⟨rfl, rfl⟩
  | kv :: kvs, xs, h => by
    obtain ⟨k', b, u, ys, z, rfl, h1, h2, h3, h4, h5, h6⟩ := h
    by_cases e : k' = k
    · subst e
      refine .inr ⟨b, u, z, kv.2, by simp [atKey], ?_, h4, h5⟩
      simp [getT, List.find?_cons, eqT, h1, hk]
    · have e1 : atKey ((k', b, u) :: ys) k = atKey ys k := by simp [atKey, e]
      have e2 : getT (kv :: kvs) d = getT kvs d := by simp [getT, List.find?_cons, eqT, h1, hk, e]
      rw [e1, e2]
      exact RepX.get hk h6
theorem repX_repl {d e : D} {k : NestedKey} {b : Addr} {u : Value} {x : V} (hk : nkey d = some k) (ru : RelV x u) (rx : Rep K p Hh e x) : ∀ {kvs : List (D × D)} {xs : List (NestedKey × Addr × Value)}, RepX K p Hh kvs xs →
    RepX K p Hh (kvs.map fun kv => if eqT kv.1 d = true then (kv.1, e) else kv) (xs.map (putAt k u))
  | [], xs, h => by
    rw [show xs = [] from h]
    exact rfl
  | kv :: kvs, xs, h => by
    obtain ⟨k', b', u', ys, z, rfl, h1, h2, h3, h4, h5, h6⟩ := h
    have ih := repX_repl (b := b) hk ru rx h6
    by_cases q : k' = k
    · subst q
      have e1 : eqT kv.1 d = true := by simp [eqT, h1, hk]
      rw [List.map_cons, List.map_cons, if_pos e1]
      exact ⟨k', b', u, _, x, by simp [putAt], h1, h2, h3, ru, rx, ih⟩
    · have e1 : ¬ eqT kv.1 d = true := by simp [eqT, h1, hk, q]
      rw [List.map_cons, List.map_cons, if_neg e1]
      exact ⟨k', b', u', _, z, by simp [putAt, q], h1, h2, h3, h4, h5, ih⟩
theorem RepX.snoc {d e : D} {k : NestedKey} {b : Addr} {u : Value} {x : V} (hk : nkey d = some k) (ok : keyOk d = true) (rb : Rep K p Hh d (.ref b)) (ru : RelV x u) (rx : Rep K p Hh e x) : ∀ {kvs : List (D × D)} {xs : List (NestedKey × Addr × Value)}, RepX K p Hh kvs xs →
    RepX K p Hh (kvs ++ [(d, e)]) (xs ++ [(k, b, u)])
  | [], xs, h => by
    rw [show xs = [] from h]
    exact ⟨k, b, u, [], x, rfl, hk, ok, rb, ru, rx, rfl⟩
  | kv :: kvs, xs, h => by
    obtain ⟨k', b', u', ys, z, rfl, h1, h2, h3, h4, h5, h6⟩ := h
    exact ⟨k', b', u', _, z, rfl, h1, h2, h3, h4, h5, RepX.snoc hk ok rb ru rx h6⟩
theorem RepX.any {d : D} {k : NestedKey} (hk : nkey d = some k) {kvs : List (D × D)} {xs : List (NestedKey × Addr × Value)} (h : RepX K p Hh kvs xs) : (kvs.any fun kv => eqT kv.1 d) = (atKey xs k).isSome := by
  have e : (kvs.any fun kv => eqT kv.1 d) = (getT kvs d).isSome := by
    unfold getT
    rw [Option.isSome_map, Bool.eq_iff_iff, List.any_eq_true, List.find?_isSome]
  rw [e]
  rcases h.get hk with ⟨e1, e2⟩ | ⟨b, u, x, e', e1, e2, _⟩
  · rw [e1, e2]; rfl
  · rw [e1, e2]; rfl
theorem RepX.put {d e : D} {k : NestedKey} {b : Addr} {u : Value} {x : V} (hk : nkey d = some k) (ok : keyOk d = true) (rb : Rep K p Hh d (.ref b)) (ru : RelV x u) (rx : Rep K p Hh e x) {kvs : List (D × D)} {xs : List (NestedKey × Addr × Value)} (h : RepX K p Hh kvs xs) :
    RepX K p Hh (putT kvs d e) (storedH xs k b u) := by
  unfold putT storedH
  rw [h.any hk]
  by_cases q : (atKey xs k).isSome = true
  · rw [if_pos q, if_pos q]
    exact repX_repl (b := b) hk ru rx h
  · rw [if_neg q, if_neg q]
    exact RepX.snoc hk ok rb ru rx h
end
theorem repX_is {P : Pm} {Hh : Hp} (sm : Same Hh H) (hK : X.K = P.K) (I : Inv X pins σ H s) : ∀ {kvs : List (D × D)} {xs : List (NestedKey × Addr × Value)}, RepX P.K P.p Hh kvs xs → ∀ x ∈ xs, (nestedKind X.prog X.w).is s.heap x.1 x.2.1
  | [], xs, h, x, hx => by
    rw [show xs = [] from h] at hx
    cases hx
  | kv :: kvs, xs, h, x, hx => by
    obtain ⟨k', b', u', ys, z, rfl, h1, h2, h3, h4, h5, h6⟩ := h
    rcases List.mem_cons.mp hx with rfl | hx
    · obtain ⟨k, e1, e2⟩ := keyOk_some h2
      rw [h1] at e1
      cases e1
      exact ⟨rep_key sm hK I h1 h3 rfl, e2⟩
    · exact repX_is sm hK I h6 x hx
theorem dt_of_H {P : Pm} {Hh : Hp} (sm : Same Hh H) (hK : X.K = P.K) (I : Inv X pins σ H s) {a : Addr} {kvs : List (D × D)} {xs : List (NestedKey × Addr × Value)} (h : H a = some (dtO X.w a xs)) (r : RepX P.K P.p Hh kvs xs) : s.heap.DictOfH (nestedKind X.prog X.w) a xs := by
  obtain ⟨lo, hz, o, ho, hx, ⟨es, ep, hd, he⟩, hn⟩ := dt_is I h
  exact ⟨o, es, ep, ho, hx, hd, he, repX_is sm hK I r, hn⟩
section
variable {P : Pm} {Hh : Hp} {a : Addr} {kvs : List (D × D)} {xs : List (NestedKey × Addr × Value)} {d : D} {v : V} {u : Value} {E : Value → Shared → Prop}
theorem dt_key (sm : Same Hh H) (hK : X.K = P.K) (I : Inv X pins σ H s) (ok : keyOk d = true) (rd : Rep P.K P.p Hh d v) (rv : RelV v u) : ∃ k b, nkey d = some k ∧ v = .ref b ∧ u = .ref b ∧ (nestedKind X.prog X.w).is s.heap k b := by
  obtain ⟨k, e1, e2⟩ := keyOk_some ok
  obtain ⟨ds, rfl⟩ := keyOk_tup ok
  obtain ⟨b, vs, rfl, h1, h2⟩ := id rd
  obtain rfl : u = Value.ref b := rv
  exact ⟨k, b, e1, rfl, rfl, rep_key sm hK I e1 rd rfl, e2⟩
theorem dt_in {Q : Value → Shared → Prop} (hu : X.A.units + 65 < cLine) (sm : Same Hh H) (hK : X.K = P.K) (I : Inv X pins σ H s) (h : H a = some (dtO X.w a xs)) (r : RepX P.K P.p Hh kvs xs) (ok : keyOk d = true) (rd : Rep P.K P.p Hh d v) (rv : RelV v u)
    (q : ∀ s', Inv X pins σ H s' → Q (.bool (getT kvs d).isSome) s') : wpAny (model X.prog X.w) X.A (compareOp .In u (.ref a)) Q E s := by
  obtain ⟨k, b, e1, rfl, rfl, hk⟩ := dt_key sm hK I ok rd rv
  have lo := (dt_is I h).1
  refine wpAny_in_heap (knd := nestedKind X.prog X.w) (show X.A.in1.units + 8 < cLine from Nat.lt_of_le_of_lt (show X.A.in1.units + 8 ≤ X.A.units + 9 by simp [Around.in1, Around.units]) (by omega)) hk lo (dt_of_H sm hK I h r) ?_
  rcases r.get e1 with ⟨g1, g2⟩ | ⟨b', u', x', e', g1, g2, _⟩
  · rw [g1]; rw [g2] at q; exact q _ (I.tok _)
  · rw [g1]; rw [g2] at q; exact q _ (I.tok _)
theorem dt_notIn {Q : Value → Shared → Prop} (hu : X.A.units + 65 < cLine) (sm : Same Hh H) (hK : X.K = P.K) (I : Inv X pins σ H s) (h : H a = some (dtO X.w a xs)) (r : RepX P.K P.p Hh kvs xs) (ok : keyOk d = true) (rd : Rep P.K P.p Hh d v) (rv : RelV v u)
    (q : ∀ s', Inv X pins σ H s' → Q (.bool (!(getT kvs d).isSome)) s') : wpAny (model X.prog X.w) X.A (compareOp .NotIn u (.ref a)) Q E s := by
  obtain ⟨k, b, e1, rfl, rfl, hk⟩ := dt_key sm hK I ok rd rv
  have lo := (dt_is I h).1
  refine wpAny_notIn_heap (knd := nestedKind X.prog X.w) (show X.A.in1.units + 8 < cLine from Nat.lt_of_le_of_lt (show X.A.in1.units + 8 ≤ X.A.units + 9 by simp [Around.in1, Around.units]) (by omega)) hk lo (dt_of_H sm hK I h r) ?_
  rcases r.get e1 with ⟨g1, g2⟩ | ⟨b', u', x', e', g1, g2, _⟩
  · rw [g1]; rw [g2] at q; exact q _ (I.tok _)
  · rw [g1]; rw [g2] at q; exact q _ (I.tok _)
theorem dt_get {e : D} {Q : Value → Shared → Prop} (hu : X.A.units + 65 < cLine) (sm : Same Hh H) (hK : X.K = P.K) (I : Inv X pins σ H s) (h : H a = some (dtO X.w a xs)) (r : RepX P.K P.p Hh kvs xs) (ok : keyOk d = true) (rd : Rep P.K P.p Hh d v) (rv : RelV v u)
    (g : getT kvs d = some e) (q : ∀ x u' s', RelV x u' → Rep P.K P.p Hh e x → Inv X pins σ H s' → Q u' s') : wpAny (model X.prog X.w) X.A (getItem (.ref a) u) Q E s := by
  obtain ⟨k, b, e1, rfl, rfl, hk⟩ := dt_key sm hK I ok rd rv
  rcases r.get e1 with ⟨g1, g2⟩ | ⟨b', u', x', e', g1, g2, g3, g4⟩
  · rw [g] at g2; cases g2
  · rw [g] at g2
    cases g2
    exact wpAny_getItem_heap (knd := nestedKind X.prog X.w) (show X.A.in1.units + 8 < cLine from Nat.lt_of_le_of_lt (show X.A.in1.units + 8 ≤ X.A.units + 9 by simp [Around.in1, Around.units]) (by omega)) hk (dt_of_H sm hK I h r) g1 (q x' u' _ g3 g4 (I.tok _))
theorem dt_set {e : D} {x : V} {ue : Value} {Q : Unit → Shared → Prop} (hu : X.A.units + 65 < cLine) (sm : Same Hh H) (hK : X.K = P.K) (I : Inv X pins σ H s) (h : H a = some (dtO X.w a xs)) (r : RepX P.K P.p Hh kvs xs) (hl : kvs.length < sizeLine) (ok : keyOk d = true) (rd : Rep P.K P.p Hh d v) (rv : RelV v u)
    (re : Rep P.K P.p Hh e x) (rx : RelV x ue) (q : ∀ ys s', RepX P.K P.p Hh (putT kvs d e) ys → Inv X pins σ (upd H a (dtO X.w a ys)) s' → Q () s') : wpAny (model X.prog X.w) X.A (setItem (.ref a) u ue) Q E s := by
  obtain ⟨k, b, e1, rfl, rfl, hk⟩ := dt_key sm hK I ok rd rv
  obtain ⟨lo, hz, _⟩ := dt_is I h
  have rp : RepX P.K P.p Hh (putT kvs d e) (storedH xs k b ue) := r.put e1 ok rd rx re
  refine wpAny_setItem_heap (hsz := hz) (knd := nestedKind X.prog X.w) (show X.A.in1.units + 8 < cLine from Nat.lt_of_le_of_lt (show X.A.in1.units + 8 ≤ X.A.units + 9 by simp [Around.in1, Around.units]) (by omega)) hk (dt_of_H sm hK I h r) fun h' dd hs => q _ _ rp ?_
  obtain ⟨o, es, ep, ho, hx, hd, he, _, hn⟩ := dd
  refine d_write I (by rw [h]; exact True.intro) hs ⟨o, ho⟩ (dtO_ok ⟨lo, ?_, o, ho, hx, ⟨es, ep, hd, he⟩, hn⟩)
  rw [rp.length]
  unfold putT
  split
  · rw [List.length_map]; omega
  · rw [List.length_append, List.length_singleton]; omega
end
/-- l.extend(x), x a list or a tuple -/
def rExtS (K : PySem.W.Frag) : V → List V → Hp → VK → Prop := fun x vs H Q => ∃ l b xs zs, x = .ref l ∧ vs = [.ref b] ∧ H l = some (.lst xs) ∧ (SqL K H b zs ∨ SqT K H b zs) ∧ xs.length + zs.length ≤ sizeLine ∧ Q .non (upd H l (.lst (xs ++ zs)))
theorem mt_extendS : MtR X "list.extend" (rExtS X.K) := by
  intro pins s σ H x vs v us Q I rx rv h
  obtain ⟨l, b, xs, zs, rfl, rfl, hH, hB, hz, q⟩ := h
  cases rx
  obtain ⟨u, rfl, ru⟩ := rv.one
  cases ru
  obtain ⟨z, its, n, r, hl, e⟩ := I.lstM hH
  have src : ∃ (T : String) (o : Obj) (its2 : List Value) (n2 : Nat), (T = "list" ∨ T = "tuple") ∧ s.heap.get? b = some o ∧ o.cls = .type T ∧ o.data = .seq its2.toArray n2 ∧ Vals zs its2 := by
    rcases hB with hB | hB
    · obtain ⟨its2, r2, ⟨o, n2, ho, hc, hd, hdt⟩, _⟩ := I.list hB
      exact ⟨"list", o, its2, n2, .inl rfl, ho, hc, hdt, r2⟩
    · obtain ⟨its2, r2, ⟨o, ho, hc, n2, hdt⟩, _⟩ := I.tuple hB
      exact ⟨"tuple", o, its2, n2, .inr rfl, ho, hc, hdt, r2⟩
  obtain ⟨T, o, its2, n2, hT, ho, hc, hd, r2⟩ := src
  have hl2 := r2.length
  have hlong : (!its.toArray.isEmpty && Builtin.List.listTooLong (its.toArray.size + its2.toArray.size)) = false := by
    rw [notLongL (by rw [List.size_toArray, List.size_toArray]; omega), Bool.and_false]
  refine wpAny_call_entry PySem.F.slot_list_extend ⟨_, e, rfl⟩ PySem.F.entry_list_extend ?_ (PySem.F.args_list_extend_2 _ _)
  show wpAny _ _ (Builtin.List.listExtendWith (.ref l) (.ref b) .none) _ _ s
  unfold Builtin.List.listExtendWith
  refine wpAny_bind (wpAny_typeOf ⟨o, ho, hc⟩ ?_)
  have h1 : (Builtin.List.listSameRef (.ref l) (.ref b) || Value.type T == Value.type "list" || Value.type T == Value.type "tuple") = true := by
    rcases hT with rfl | rfl <;> simp
  simp only [h1, if_true]
  refine wpAny_bind ?_
  unfold Builtin.List.listItems
  refine wpAny_bind (wpAny_seqItems ho hd (wpAny_pure ?_))
  refine wpAny_bind ?_
  refine wpAny_bind (wpAny_seqItems e rfl (wpAny_pure ?_))
  rw [hlong]
  show wpAny _ _ (updateSeq l (· ++ its2.toArray) >>= fun _ => ret .none) _ _ s
  refine wpAny_bind (wpAny_updateSeq (hz := by rw [List.size_toArray]; omega) (_hz' := by rw [Array.size_append, List.size_toArray, List.size_toArray]; omega) e rfl ?_)
  refine wpAny_pure ⟨_, rfl, ?_⟩
  refine ⟨.non, _, I.lset (t' := s.toks) (its' := its ++ its2) hH e (by simp) (r.append r2) ?_, rfl, q⟩
  rw [List.length_append]
  omega
end
end DL

/-! DEQ: a dict compared with a tuple. -/
namespace PySem.SeqAt
open AutoSeq1 (wpAny_loadPart')
open MeetsSeq
theorem dict_eq_declines_tuple (l b : Addr) (dt : Data) (items2 : Array Value) (n2 : Nat) (dd dd2 : Option Addr) (sl sl2 : Array (Option Value)) :
    Meets (Builtin.«dict.__eq__» ⟨[.ref l, .ref b], []⟩) (fun _ R s => s.heap.get? l = some { cls := .type "dict", dict := dd, data := dt, slots := sl } ∧ s.heap.get? b = some { cls := .type "tuple", dict := dd2, data := .seq items2 n2, slots := sl2 } ∧ R (.ok (.ret .notImplemented)) s) :=
  .of_wp fun prog w A R s h => by obtain ⟨hp, g, d, tk, os⟩ := s; obtain ⟨hl, hb, h⟩ := h; have f1 := F.sub_tuple_dict; wp_walk using wpAny_loadPart' hl, wpAny_loadPart' hb; exact ⟨_, rfl, h⟩
theorem tuple_eq_declines_dict (l b : Addr) (dt : Data) (items : Array Value) (n : Nat) (dd dd2 : Option Addr) (sl sl2 : Array (Option Value)) :
    Meets (Builtin.«tuple.__eq__» ⟨[.ref l, .ref b], []⟩) (fun _ R s => s.heap.get? l = some { cls := .type "tuple", dict := dd, data := .seq items n, slots := sl } ∧ s.heap.get? b = some { cls := .type "dict", dict := dd2, data := dt, slots := sl2 } ∧ R (.ok (.ret .notImplemented)) s) :=
  .of_wp fun prog w A R s h => by obtain ⟨hp, g, d, tk, os⟩ := s; obtain ⟨hl, hb, h⟩ := h; have f1 := F.sub_dict_tuple; wp_walk using wpAny_loadPart' hl, wpAny_loadPart' hb; exact ⟨_, rfl, h⟩

theorem dict_ne_declines_tuple (l b : Addr) (dt : Data) (items2 : Array Value) (n2 : Nat) (dd dd2 : Option Addr) (sl sl2 : Array (Option Value)) :
    Meets (Builtin.«dict.__ne__» ⟨[.ref l, .ref b], []⟩) (fun _ R s => s.heap.get? l = some { cls := .type "dict", dict := dd, data := dt, slots := sl } ∧ s.heap.get? b = some { cls := .type "tuple", dict := dd2, data := .seq items2 n2, slots := sl2 } ∧ R (.ok (.ret .notImplemented)) s) :=
  .of_wp fun prog w A R s h => by obtain ⟨hp, g, d, tk, os⟩ := s; obtain ⟨hl, hb, h⟩ := h; have f1 := F.sub_tuple_dict; wp_walk using wpAny_loadPart' hl, wpAny_loadPart' hb; exact ⟨_, rfl, h⟩
theorem tuple_ne_declines_dict (l b : Addr) (dt : Data) (items : Array Value) (n : Nat) (dd dd2 : Option Addr) (sl sl2 : Array (Option Value)) :
    Meets (Builtin.«tuple.__ne__» ⟨[.ref l, .ref b], []⟩) (fun _ R s => s.heap.get? l = some { cls := .type "tuple", dict := dd, data := .seq items n, slots := sl } ∧ s.heap.get? b = some { cls := .type "dict", dict := dd2, data := dt, slots := sl2 } ∧ R (.ok (.ret .notImplemented)) s) :=
  .of_wp fun prog w A R s h => by obtain ⟨hp, g, d, tk, os⟩ := s; obtain ⟨hl, hb, h⟩ := h; have f1 := F.sub_dict_tuple; wp_walk using wpAny_loadPart' hl, wpAny_loadPart' hb; exact ⟨_, rfl, h⟩
section
variable {A : Around} {s : Shared}
theorem RcAt.dict_tuple {l b : Addr} {o : Obj} {items2 : Array Value} (ho : s.heap.get? l = some o) (hc : o.cls = .type "dict") (hb : s.heap.IsTuple b items2) (hu : A.units < cLine) : RcAt A s (.ref l) (.ref b) false := fun prog w E Q h => by
  obtain ⟨cls, dd, data, sl⟩ := o
  obtain ⟨⟨cls2, dd2, data2, sl2⟩, ho2, hc2, n2, hd2⟩ := id hb
  simp only at hc hc2 hd2
  subst hc hc2 hd2
  have hne : l ≠ b := fun e => by
    subst e
    rw [ho] at ho2
    exact absurd (Obj.mk.inj (Option.some.inj ho2)).1 (by simp)
  exact (rc_eq_decline_or (k := false) ⟨_, ho, rfl⟩ ⟨_, ho2, rfl⟩ (by decide) F.sub_tuple_dict F.slot_dict_eq F.slot_tuple_eq_refl
    (fun _ hq => call_meets F.slot_dict_eq ⟨_, ho, rfl⟩ F.entry_dict_eq (F.args_dict_eq_2 _ _) (dict_eq_declines_tuple l b data items2 n2 dd dd2 sl sl2) ⟨ho, ho2, hq⟩)
    (fun _ hq => call_meets F.slot_tuple_eq_refl ⟨_, ho2, rfl⟩ F.entry_tuple_eq (F.args_tuple_eq_2 _ _) (tuple_eq_declines_dict b l data items2 n2 dd2 dd sl2 sl) ⟨ho2, ho, hq⟩)
    (fun _ hq => wpAny_isSame_ref_other hne ho ho2 (by simp) hq) (.inr hu) h)
theorem RcNeAt.dict_tuple {l b : Addr} {o : Obj} {items2 : Array Value} (ho : s.heap.get? l = some o) (hc : o.cls = .type "dict") (hb : s.heap.IsTuple b items2) (hu : A.units < cLine) : RcNeAt A s (.ref l) (.ref b) true := fun prog w E Q h => by
  obtain ⟨cls, dd, data, sl⟩ := o
  obtain ⟨⟨cls2, dd2, data2, sl2⟩, ho2, hc2, n2, hd2⟩ := id hb
  simp only at hc hc2 hd2
  subst hc hc2 hd2
  have hne : l ≠ b := fun e => by
    subst e
    rw [ho] at ho2
    exact absurd (Obj.mk.inj (Option.some.inj ho2)).1 (by simp)
  exact (rc_ne_decline_or (k := false) ⟨_, ho, rfl⟩ ⟨_, ho2, rfl⟩ (by decide) F.sub_tuple_dict F.slot_dict_ne F.slot_tuple_ne_refl
    (fun _ hq => call_meets F.slot_dict_ne ⟨_, ho, rfl⟩ F.entry_dict_ne (F.args_dict_ne_2 _ _) (dict_ne_declines_tuple l b data items2 n2 dd dd2 sl sl2) ⟨ho, ho2, hq⟩)
    (fun _ hq => call_meets F.slot_tuple_ne_refl ⟨_, ho2, rfl⟩ F.entry_tuple_ne (F.args_tuple_ne_2 _ _) (tuple_ne_declines_dict b l data items2 n2 dd2 dd sl2 sl) ⟨ho2, ho, hq⟩)
    (fun _ hq => wpAny_isSame_ref_other hne ho ho2 (by simp) hq) (.inr hu) h)
end
end PySem.SeqAt
namespace DL
open PySem PySem.Spec PyProof.Rows L2
section
variable {X : Cx} {P : Pm} {O : Addr → Bool} {H : Hp} {pins : List (Addr × Obj)} {σ : L2.St} {s : Shared}
/-- what is laid for an empty dict *)-/
theorem Lk.nilDict {v : V} (h : Lk P O H (.dict []) v) : ∃ a, v = .ref a ∧ H a = some (.dK []) := by
  rcases h.dictOr with h | ⟨r, e, _⟩
  · rcases h with ⟨e, _⟩ | ⟨a, ks, e, h1, h2⟩ | ⟨a, k, e, _⟩
    · cases e
    · have e2 : ks = [] := h2
      subst e2
      exact ⟨a, e, (hid_some h1).1⟩
    · cases e
  · cases e
theorem Dp.tup {K : PySem.W.Frag} {v : V} {ds : List D} (I : Inv X pins σ H s) (h : Dp X.K H v (.tuple ds)) {u : Value} (r : RelV v u) : ∃ b items, u = .ref b ∧ s.heap.IsTuple b items := by
  cases h with
  | tup hs ha =>
    cases r
    obtain ⟨its, rv, ht, _⟩ := I.tuple hs
    exact ⟨_, _, rfl, ht⟩
end
end DL

/-! DL3: the operations on values, told by data. -/
namespace DL
open PySem PySem.Spec PyProof.Rows L2
/-- what every state has -/
structure OC (P : Pm) (O : Addr → Bool) (H : Hp) : Prop where
  op : O P.p = true
  pool : PoolOk P.p P.a0 H
  trk : ∀ a, O a = true → ∃ o, H a = some o
theorem SR.oc {P : Pm} {Gh : List (D × V)} {O : Addr → Bool} {σ : L2.St} {H : Hp} {env : En} (S : SR P Gh O σ H env) : OC P O H := ⟨S.op, S.pool, S.trk⟩
section
variable {P : Pm} {O : Addr → Bool} {H : Hp}
theorem OC.np (c : OC P O H) : ∀ a, H a = none → a ≠ P.p := fun _ h => c.pool.ne h
theorem OC.out (c : OC P O H) {a : Addr} (h : H a = none) : O a = false := by
  cases q : O a with
  | false => rfl
  | true =>
    obtain ⟨o, z⟩ := c.trk a q
    rw [h] at z
    cases z
theorem RR.new (c : OC P O H) {a : Addr} {ds : List D} {vs : List V} (h : H a = none) (r : RepL P.K P.p (hid H O) ds vs) : RR P O H (upd H a (.lst vs)) (.nw ds) (.ref a) := by
  refine ⟨a, vs, rfl, h, upd_same, ?_⟩
  have q : addO O a a = true := by unfold addO; simp
  rw [hid_upd q, hid_add h]
  exact r
theorem RR.newT (c : OC P O H) {a : Addr} {ds : List D} {vs : List V} {o : Obj} (h : H a = none) (d : o.dict = none) (r : RepL P.K P.p (hid H O) ds vs) : RR P O H (upd H a (.frz o (.tup vs))) (.v (.tuple ds)) (.ref a) := by
  refine ⟨a, vs, rfl, SqP.new (hid_of upd_same (c.out h)) d, RepL.mono (hid_same c.op (SameP.new h)) r⟩
end
/-! ### dicts -/
section
variable {K : PySem.W.Frag} {p : Addr} {H : Hp}
theorem kD_inj {a b : Key} (h : kD a = kD b) : a = b := by
  cases a <;> cases b <;> first | (cases h; rfl) | cases h
theorem eqK_kD (a b : Key) : eqK (kD a) (kD b) = decide (a = b) := by
  cases a with
  | inl i =>
    cases b with
    | inl j =>
      show decide (i = j) = _
      by_cases e : i = j
      · subst e; simp
      · rw [decide_eq_false e, decide_eq_false (fun z => e (Sum.inl.inj z))]
    | inr t => rw [decide_eq_false (fun z => by cases z)]; rfl
  | inr i =>
    cases b with
    | inl j => rw [decide_eq_false (fun z => by cases z)]; rfl
    | inr j =>
      show decide (i = j) = _
      by_cases e : i = j
      · subst e; simp
      · rw [decide_eq_false e, decide_eq_false (fun z => e (Sum.inr.inj z))]
theorem RepKV.length : ∀ {kvs : List (D × D)} {ks : List (Key × V)}, RepKV K p H kvs ks → ks.length = kvs.length
  | [], _, h => by rw [show _ = [] from h]; rfl
  | kv :: kvs, _, h => by
    obtain ⟨k, x, xs, e, _, h2⟩ := h
    rw [e, List.length_cons, List.length_cons, RepKV.length h2]
theorem RepKV.get (kk : Key) : ∀ {kvs : List (D × D)} {ks : List (Key × V)}, RepKV K p H kvs ks → (getKV kvs (kD kk) = none ∧ valV ks kk = none) ∨ ∃ d x, getKV kvs (kD kk) = some d ∧ valV ks kk = some x ∧ Rep K p H d x
  | [], _, h => by
    rw [show _ = [] from h]
    exact .inl ⟨rfl, rfl⟩
  | (k, d) :: kvs, _, h => by
    obtain ⟨k', x, xs, rfl, ⟨h1, h3⟩, h2⟩ := h
    subst h1
    by_cases e : k' = kk
    · subst e
      refine .inr ⟨d, x, ?_, valV_pos rfl, h3⟩
      unfold getKV
      rw [List.find?_cons_of_pos (by rw [eqK_kD]; simp)]
      rfl
    · have e1 : getKV ((kD k', d) :: kvs) (kD kk) = getKV kvs (kD kk) := by
        unfold getKV
        rw [List.find?_cons_of_neg (by rw [eqK_kD]; simpa using e)]
      rw [e1, valV_neg (p := (k', x)) (r := xs) e]
      exact RepKV.get kk h2
theorem RepKV.any (kk : Key) : ∀ {kvs : List (D × D)} {ks : List (Key × V)}, RepKV K p H kvs ks → (kvs.any fun kv => eqK kv.1 (kD kk)) = ks.any fun kv => decide (kv.1 = kk)
  | [], _, h => by
    rw [show _ = [] from h]
    rfl
  | (k, d) :: kvs, _, h => by
    obtain ⟨k', x, xs, rfl, ⟨h1, h3⟩, h2⟩ := h
    subst h1
    rw [List.any_cons, List.any_cons, RepKV.any kk h2, eqK_kD]
theorem RepKV.repl (kk : Key) {y : D} {z : V} (hy : Rep K p H y z) : ∀ {kvs : List (D × D)} {ks : List (Key × V)}, RepKV K p H kvs ks → RepKV K p H (kvs.map fun kv => if eqK kv.1 (kD kk) = true then (kv.1, y) else kv) (ks.map fun kv => if kv.1 = kk then (kv.1, z) else kv)
  | [], _, h => by
    rw [show _ = [] from h]
    exact rfl
  | (k, d) :: kvs, _, h => by
    obtain ⟨k', x, xs, rfl, ⟨h1, h3⟩, h2⟩ := h
    subst h1
    rw [List.map_cons, List.map_cons]
    simp only [eqK_kD, decide_eq_true_eq]
    have ih := RepKV.repl kk hy h2
    by_cases e : k' = kk
    · rw [if_pos e, if_pos e]
      exact ⟨k', z, _, rfl, ⟨rfl, hy⟩, ih⟩
    · rw [if_neg e, if_neg e]
      exact ⟨k', x, _, rfl, ⟨rfl, h3⟩, ih⟩
theorem RepKV.snoc (kk : Key) {y : D} {z : V} (hy : Rep K p H y z) : ∀ {kvs : List (D × D)} {ks : List (Key × V)}, RepKV K p H kvs ks → RepKV K p H (kvs ++ [(kD kk, y)]) (ks ++ [(kk, z)])
  | [], _, h => by
    rw [show _ = [] from h]
    exact ⟨kk, z, [], rfl, ⟨rfl, hy⟩, rfl⟩
  | kv :: kvs, _, h => by
    obtain ⟨k', x, xs, rfl, h1, h2⟩ := h
    exact ⟨k', x, _, rfl, h1, RepKV.snoc kk hy h2⟩
theorem RepKV.put (kk : Key) {y : D} {z : V} (hy : Rep K p H y z) {kvs : List (D × D)} {ks : List (Key × V)} (h : RepKV K p H kvs ks) : RepKV K p H (putKV kvs (kD kk) y) (putK ks kk z) := by
  unfold putKV putK
  rw [h.any kk]
  split
  · exact h.repl kk hy
  · exact h.snoc kk hy
theorem RepKV.merge : ∀ {more : List (D × D)} {ms : List (Key × V)} {kvs : List (D × D)} {ks : List (Key × V)}, RepKV K p H more ms → RepKV K p H kvs ks → RepKV K p H (mergeKV kvs more) (mergeK ks ms)
  | [], _, _, _, h, g => by
    rw [show _ = [] from h]
    exact g
  | (k, d) :: more, _, _, _, h, g => by
    obtain ⟨k', x, xs, rfl, ⟨h1, h3⟩, h2⟩ := h
    subst h1
    have z := RepKV.merge (more := more) (ms := xs) h2 (g.put k' h3)
    exact z
theorem key_of_rep {d : D} {v : V} (hk : isK d = true) (h : Rep K p H d v) : ∃ kk : Key, d = kD kk ∧ v = kV kk := by
  cases d with
  | int i => exact ⟨.inl i, rfl, h⟩
  | str i => exact ⟨.inr i, rfl, h⟩
  | _ => cases hk
end
/-- a dict to be read -/
theorem Lk.dict {P : Pm} {O : Addr → Bool} {H : Hp} {kvs : List (D × D)} {v : V} (h : Lk P O H (.dict kvs) v) (n : isPool kvs = false) : ∃ a ks, v = .ref a ∧ H a = some (.dK ks) ∧ RepKV P.K P.p (hid H O) kvs ks := by
  unfold isPool at n
  rw [Bool.or_eq_false_iff, Bool.or_eq_false_iff] at n
  rcases h.dictOr with h | ⟨r, rfl, _⟩
  · rcases h with ⟨e, _⟩ | ⟨a, ks, e, h1, h2⟩ | ⟨a, k, rfl, _⟩
    · rw [n.1.1] at e; cases e
    · exact ⟨a, ks, e, (hid_some h1).1, h2⟩
    · exact absurd n.2 (by simp [isRg])
  · exact absurd n.1.2 (by simp [isMk])
theorem Lk.rep {P : Pm} {O : Addr → Bool} {H : Hp} {d : D} {v : V} (h : Lk P O H d v) (hk : keyOk d = true) : Rep P.K P.p (hid H O) d v := by
  obtain ⟨ds, rfl⟩ := keyOk_tup hk
  exact h
theorem hid_in {O : Addr → Bool} {H : Hp} : Same (hid H O) H := fun b o q => (hid_some q).1
theorem Lk.key {P : Pm} {O : Addr → Bool} {H : Hp} {d : D} {v : V} (h : Lk P O H d v) (hk : isK d = true) : ∃ kk : Key, d = kD kk ∧ v = kV kk := by
  cases d with
  | int i => exact ⟨.inl i, rfl, h⟩
  | str i => exact ⟨.inr i, rfl, h⟩
  | _ => cases hk
/-- the end of an operation: a result that answers Qr gives Q -/
def Fin (P : Pm) (O : Addr → Bool) (H : Hp) (Qr : R → Prop) (Q : VK) : Prop := ∀ r v H', SameP P.p H H' → PoolOk P.p P.a0 H' → RR P O H H' r v → Qr r → Q v H'
section
variable {P : Pm} {O : Addr → Bool} {H : Hp} {Qr : R → Prop} {Q : VK}
theorem Fin.val (c : OC P O H) (f : Fin P O H Qr Q) {d : D} {v : V} (r : Rep P.K P.p (hid H O) d v) (q : Qr (.v d)) : Q v H := f (.v d) v H (SameP.refl H) c.pool r q
theorem Fin.new (c : OC P O H) (f : Fin P O H Qr Q) {ds : List D} {vs : List V} {a : Addr} (h : H a = none) (r : RepL P.K P.p (hid H O) ds vs) (q : Qr (.nw ds)) : Q (.ref a) (upd H a (.lst vs)) :=
  f _ _ _ (SameP.new h) (c.pool.new h) (RR.new c h r) q
theorem Fin.tup (c : OC P O H) (f : Fin P O H Qr Q) {ds : List D} {vs : List V} (r : RepL P.K P.p (hid H O) ds vs) (q : Qr (.v (.tuple ds))) : NewT H vs Q := fun a o h d =>
  f _ _ _ (SameP.new h) (c.pool.new h) (RR.newT c h d r) q
end
theorem Fin.i {P : Pm} {O : Addr → Bool} {H : Hp} {Qr : R → Prop} {Q : VK} (c : OC P O H) (f : Fin P O H Qr Q) {i : Int} (q : Qr (.v (.int i))) : Q (.int i) H := f.val c (d := .int i) rfl q
theorem Fin.b {P : Pm} {O : Addr → Bool} {H : Hp} {Qr : R → Prop} {Q : VK} (c : OC P O H) (f : Fin P O H Qr Q) {i : Bool} (q : Qr (.v (.bool i))) : Q (.bl i) H := f.val c (d := .bool i) rfl q
theorem Fin.s {P : Pm} {O : Addr → Bool} {H : Hp} {Qr : R → Prop} {Q : VK} (c : OC P O H) (f : Fin P O H Qr Q) {i : Str} (q : Qr (.v (.str i))) : Q (.str i) H := f.val c (d := .str i) rfl q
theorem RepL.rep {K : PySem.W.Frag} {p : Addr} {H : Hp} {ds : List D} {vs : List V} (h : RepL K p H ds vs) : ∀ n : Nat, RepL K p H (List.replicate n ds).flatten (List.replicate n vs).flatten
  | 0 => rfl
  | n + 1 => by
    rw [List.replicate_succ, List.replicate_succ, List.flatten_cons, List.flatten_cons]
    exact h.append (RepL.rep h n)
/-- two-place operations -/
def rBinD (P : Pm) (op : Operator) : R2 := fun vx vy H Q => ∃ O x y Qr, OC P O H ∧ Lk P O H x vx ∧ Lk P O H y vy ∧ dBin op x y Qr ∧ Fin P O H Qr Q
section
variable {X : Cx} {P : Pm}
theorem op_binD (op : Operator) (hK : X.K = P.K) : OpR X (binaryOp op) (rBinD P op) := by
  intro pins s σ H vx vy v u Q I rx ry h
  obtain ⟨O, x, y, Qr, c, lx, ly, w, f⟩ := h
  unfold dBin at w
  split at w
  · exact op_add pins s σ H vx vy v u Q I rx ry ⟨_, _, lx, ly, f.i c w⟩
  · exact op_sub pins s σ H vx vy v u Q I rx ry ⟨_, _, lx, ly, f.i c w⟩
  · exact op_mul pins s σ H vx vy v u Q I rx ry ⟨_, _, lx, ly, w.1, f.i c w.2⟩
  · exact op_modN pins s σ H vx vy v u Q I rx ry ⟨_, _, lx, ly, w.1, f.i c w.2⟩
  · exact op_fdivN pins s σ H vx vy v u Q I rx ry ⟨_, _, lx, ly, w.1, f.i c w.2⟩
  · exact op_add_str pins s σ H vx vy v u Q I rx ry ⟨_, _, lx, ly, w.1, f.s c w.2⟩
  · obtain ⟨a, vs, rfl, n, h1, h2⟩ := lx
    obtain ⟨b, ws, rfl, m, h3, h4⟩ := ly
    exact op_cat pins s σ H _ _ v u Q I rx ry ⟨a, b, vs, ws, rfl, rfl, h1, h3, by rw [h2.length, h4.length]; exact w.1, fun p hp => f.new c hp (h2.append h4) w.2⟩
  · rename_i ta tb
    obtain ⟨a, vs, rfl, h1, g1, h2⟩ := lx.tup
    obtain ⟨b, ws, rfl, h3, g3, h4⟩ := ly.tup
    refine op_catF pins s σ H _ _ v u Q I rx ry ⟨a, b, vs, ws, rfl, rfl, by rw [hK]; exact h1, by rw [hK]; exact h3, by rw [h2.length, h4.length]; exact w.1, fun e => ?_, fun _ e => ?_, fun _ _ => f.tup c (h2.append h4) w.2⟩
    · have e' : ta = [] := by
        have q := h2.length
        rw [e] at q
        exact List.length_eq_zero_iff.mp q.symm
      have w2 := w.2
      rw [e'] at w2
      exact f.val c (d := .tuple tb) ⟨b, ws, rfl, g3, h4⟩ w2
    · have e' : tb = [] := by
        have q := h4.length
        rw [e] at q
        exact List.length_eq_zero_iff.mp q.symm
      have w2 := w.2
      rw [e', List.append_nil] at w2
      exact f.val c (d := .tuple ta) ⟨a, vs, rfl, g1, h2⟩ w2
  · obtain ⟨a, vs, rfl, h1, _, h2⟩ := lx.tup
    rename_i ta k
    refine op_repF pins s σ H _ _ v u Q I rx ry ⟨a, _, vs, ⟨rfl, ly⟩, by rw [hK]; exact h1, ⟨fun e => w.1.1 ?_, w.1.2.1, w.1.2.2.1, by rw [h2.length]; exact w.1.2.2.2⟩, f.tup c (h2.rep _) w.2⟩
    have q := h2.length
    rw [e] at q
    exact List.length_eq_zero_iff.mp q.symm
  · obtain ⟨a, vs, rfl, n, h1, h2⟩ := lx
    exact op_rep pins s σ H _ _ v u Q I rx ry ⟨a, _, vs, rfl, ly, h1, w.1, w.2.1, by rw [h2.length]; exact w.2.2.1, fun p hp => f.new c hp (h2.rep _) w.2.2.2⟩
  · exact False.elim w
end
/-- the end of a comparison -/
def FinB (P : Pm) (H : Hp) (Qr : Bool → Prop) (Q : VK) : Prop := ∀ b, Qr b → Q (.bl b) H
def rCmpD (P : Pm) (op : CmpOp) : R2 := fun vx vy H Q => ∃ O x y Qr, OC P O H ∧ Lk P O H x vx ∧ Lk P O H y vy ∧ dCmp op x y Qr ∧ FinB P H Qr Q
section
variable {X : Cx} {P : Pm} {O : Addr → Bool} {pins : List (Addr × Obj)} {s : Shared} {σ : L2.St} {H : Hp} {vx vy : V} {v u : Value} {Q : VK} {Qr : Bool → Prop} {x y : D}
theorem dec_i {i j : Int} : decide (V.int i = V.int j) = decide (i = j) := by rw [dec_int, Bool.beq_eq_decide_eq]
theorem dec_b {i j : Bool} : decide (V.bl i = V.bl j) = decide (i = j) := by rw [dec_bl, Bool.beq_eq_decide_eq]
theorem dec_s {i j : Str} : decide (V.str i = V.str j) = decide (i = j) := by
  by_cases h : i = j
  · subst h; simp
  · rw [decide_eq_false h, decide_eq_false (fun e => h (V.str.inj e))]
/-- == of any two data -/
theorem op_eqDD (hu : X.A.units + 64 < cLine) (hK : X.K = P.K) (I : Inv X pins σ H s) (rx : RelV vx v) (ry : RelV vy u) (lx : Lk P O H x vx) (ly : Lk P O H y vy) (w : dEq x y Qr) (f : FinB P H Qr Q) :
    wpAny (model X.prog X.w) X.A (compareOp .Eq v u) (EP X pins σ Q) X.xe s := by
  unfold dEq at w
  split at w
  · rw [show vx = _ from lx] at rx
    rw [show vy = _ from ly] at ry
    exact op_eq pins s σ H _ _ v u Q I rx ry ⟨rfl, f _ (by rw [dec_i]; exact w)⟩
  · rw [show vx = _ from lx] at rx
    rw [show vy = _ from ly] at ry
    exact op_eq pins s σ H _ _ v u Q I rx ry ⟨rfl, f _ (by rw [dec_s]; exact w)⟩
  · rw [show vx = _ from lx] at rx
    rw [show vy = _ from ly] at ry
    exact op_eq pins s σ H _ _ v u Q I rx ry ⟨rfl, f _ (by rw [dec_b]; exact w)⟩
  · obtain ⟨s2, w⟩ := w
    obtain ⟨a, rfl, h1⟩ := lx.nilDict
    obtain rfl : v = Value.ref a := rx
    obtain ⟨z, hd, vs, rel, dd⟩ := dk_rd I.hok (.inl h1)
    obtain ⟨o, es, ep, g1, g2, g3, _, g5, _⟩ := dd
    obtain ⟨b, items, rfl, ht⟩ := Dp.tup (K := X.K) I (by rw [hK]; exact ly.dp (SeqAt.canLay_of_shaped s2)) ry
    exact SeqAt.RcAt.dict_tuple g1 g2.1 ht (by omega) _ _ _ _ ⟨.bl _, H, I, rfl, f _ w⟩
  · obtain ⟨s1, s2, w⟩ := w
    exact op_eqD hu pins s σ H _ _ v u Q I rx ry ⟨_, _, by rw [hK]; exact lx.dp (SeqAt.canLay_of_shaped s1), by rw [hK]; exact ly.dp (SeqAt.canLay_of_shaped s2), s1, s2, f _ w⟩
theorem op_neDD (hu : X.A.units + 64 < cLine) (hK : X.K = P.K) (I : Inv X pins σ H s) (rx : RelV vx v) (ry : RelV vy u) (lx : Lk P O H x vx) (ly : Lk P O H y vy) (w : dEq x y fun b => Qr (!b)) (f : FinB P H Qr Q) :
    wpAny (model X.prog X.w) X.A (compareOp .NotEq v u) (EP X pins σ Q) X.xe s := by
  unfold dEq at w
  split at w
  · rw [show vx = _ from lx] at rx
    rw [show vy = _ from ly] at ry
    exact op_ne pins s σ H _ _ v u Q I rx ry ⟨rfl, f _ (by rw [dec_i]; exact w)⟩
  · rw [show vx = _ from lx] at rx
    rw [show vy = _ from ly] at ry
    exact op_ne pins s σ H _ _ v u Q I rx ry ⟨rfl, f _ (by rw [dec_s]; exact w)⟩
  · rw [show vx = _ from lx] at rx
    rw [show vy = _ from ly] at ry
    exact op_ne pins s σ H _ _ v u Q I rx ry ⟨rfl, f _ (by rw [dec_b]; exact w)⟩
  · obtain ⟨s2, w⟩ := w
    obtain ⟨a, rfl, h1⟩ := lx.nilDict
    obtain rfl : v = Value.ref a := rx
    obtain ⟨z, hd, vs, rel, dd⟩ := dk_rd I.hok (.inl h1)
    obtain ⟨o, es, ep, g1, g2, g3, _, g5, _⟩ := dd
    obtain ⟨b, items, rfl, ht⟩ := Dp.tup (K := X.K) I (by rw [hK]; exact ly.dp (SeqAt.canLay_of_shaped s2)) ry
    exact SeqAt.RcNeAt.dict_tuple g1 g2.1 ht (by omega) _ _ _ _ ⟨.bl _, H, I, rfl, f _ w⟩
  · obtain ⟨s1, s2, w⟩ := w
    exact op_neD hu pins s σ H _ _ v u Q I rx ry ⟨_, _, by rw [hK]; exact lx.dp (SeqAt.canLay_of_shaped s1), by rw [hK]; exact ly.dp (SeqAt.canLay_of_shaped s2), s1, s2, f _ w⟩
theorem Lk.flat {d : D} {z : V} (h : Lk P O H d z) (f : flatD d = true) : z = toV d ∧ flatV z = true := by
  cases d with
  | list ds => cases f
  | tuple ds => cases f
  | dict ds => cases f
  | none => exact Rep.flat (K := P.K) (p := P.p) (H := hid H O) (show Rep P.K P.p (hid H O) .none z from h) f
  | bool b => exact Rep.flat (K := P.K) (p := P.p) (H := hid H O) (show Rep P.K P.p (hid H O) (.bool b) z from h) f
  | int b => exact Rep.flat (K := P.K) (p := P.p) (H := hid H O) (show Rep P.K P.p (hid H O) (.int b) z from h) f
  | str b => exact Rep.flat (K := P.K) (p := P.p) (H := hid H O) (show Rep P.K P.p (hid H O) (.str b) z from h) f
theorem op_inDD (hu : X.A.units + 65 < cLine) (hK : X.K = P.K) (hw : X.w = P.w) (I : Inv X pins σ H s) (rx : RelV vx v) (ry : RelV vy u) (lx : Lk P O H x vx) (ly : Lk P O H y vy) (w : dIn x y Qr) (f : FinB P H Qr Q) :
    wpAny (model X.prog X.w) X.A (compareOp .In v u) (EP X pins σ Q) X.xe s := by
  unfold dIn at w
  split at w
  · obtain ⟨w1, w2, w3⟩ := w
    obtain ⟨a, vs, rfl, h1, _, h2⟩ := ly.tup
    obtain ⟨e1, f1⟩ := lx.flat w1
    obtain ⟨e2, f2⟩ := h2.flat w2
    refine op_in_seq pins s σ H _ _ v u Q I rx ry ⟨a, vs, rfl, .inr (by rw [hK]; exact h1), f1, f2, f _ ?_⟩
    rw [if_neg (by decide), e1, e2]
    exact w3
  · obtain ⟨a, vs, e, n, h1, h2⟩ := id ly
    rcases w with ⟨w1, w2, w3⟩ | ⟨w1, w2, w3⟩
    · subst e
      obtain ⟨e1, f1⟩ := lx.flat w1
      obtain ⟨e2, f2⟩ := h2.flat w2
      refine op_in_seq pins s σ H _ _ v u Q I rx ry ⟨a, vs, rfl, .inl (SqL.of h1), f1, f2, f _ ?_⟩
      rw [if_neg (by decide), e1, e2]
      exact w3
    · exact op_inD hu pins s σ H _ _ v u Q I rx ry ⟨_, _, by rw [hK]; exact lx.dp (SeqAt.canLay_of_shaped w1), by rw [hK]; exact ly.dp (SeqAt.canLay_of_shaped w2), w1, w2, f _ w3⟩
  · split at w
    · exact op_in_str pins s σ H _ _ v u Q I rx ry ⟨_, _, lx, ly, f _ w⟩
    · exact False.elim w
  · have viaK : ∀ kk : Key, Lk P O H (kD kk) vx → ∀ kvs, Lk P O H (.dict kvs) vy → isPool kvs = false → Qr (getKV kvs (kD kk)).isSome → wpAny (model X.prog X.w) X.A (compareOp .In v u) (EP X pins σ Q) X.xe s := fun kk lx kvs ly w1 w3 => by
      obtain ⟨a, ks, rfl, h1, h2⟩ := ly.dict w1
      have ev : vx = kV kk := by
        cases kk with
        | inl i => exact lx
        | inr i => exact lx
      subst ev
      obtain rfl : u = Value.ref a := ry
      refine d_in (by omega) I (DGet.k h1) rx fun s1 I1 => ⟨.bl _, H, I1, rfl, f _ ?_⟩
      rcases h2.get kk with ⟨e1, e2⟩ | ⟨d, z, e1, e2, _⟩
      · rw [e1] at w3; rw [e2]; exact w3
      · rw [e1] at w3; rw [e2]; exact w3
    split at w
    · exact viaK (.inl _) lx _ ly w.1 w.2
    · exact viaK (.inr _) lx _ ly w.1 w.2
    · split at w
      · obtain ⟨a, xs, rfl, n, h1, h2⟩ := ly
        obtain rfl : u = Value.ref a := ry
        exact dt_in hu hid_in hK I (by rw [hw]; exact h1) h2 w.1 (lx.rep w.1) rx fun s1 I1 => ⟨.bl _, H, I1, rfl, f _ w.2⟩
      · exact False.elim w
    · exact False.elim w
  · exact False.elim w
theorem op_niDD (hu : X.A.units + 65 < cLine) (hK : X.K = P.K) (hw : X.w = P.w) (I : Inv X pins σ H s) (rx : RelV vx v) (ry : RelV vy u) (lx : Lk P O H x vx) (ly : Lk P O H y vy) (w : dIn x y fun b => Qr (!b)) (f : FinB P H Qr Q) :
    wpAny (model X.prog X.w) X.A (compareOp .NotIn v u) (EP X pins σ Q) X.xe s := by
  unfold dIn at w
  split at w
  · obtain ⟨w1, w2, w3⟩ := w
    obtain ⟨a, vs, rfl, h1, _, h2⟩ := ly.tup
    obtain ⟨e1, f1⟩ := lx.flat w1
    obtain ⟨e2, f2⟩ := h2.flat w2
    refine op_notIn_seq pins s σ H _ _ v u Q I rx ry ⟨a, vs, rfl, .inr (by rw [hK]; exact h1), f1, f2, f _ ?_⟩
    rw [if_pos rfl, e1, e2]
    exact w3
  · obtain ⟨a, vs, e, n, h1, h2⟩ := id ly
    rcases w with ⟨w1, w2, w3⟩ | ⟨w1, w2, w3⟩
    · subst e
      obtain ⟨e1, f1⟩ := lx.flat w1
      obtain ⟨e2, f2⟩ := h2.flat w2
      refine op_notIn_seq pins s σ H _ _ v u Q I rx ry ⟨a, vs, rfl, .inl (SqL.of h1), f1, f2, f _ ?_⟩
      rw [if_pos rfl, e1, e2]
      exact w3
    · exact op_notInD hu pins s σ H _ _ v u Q I rx ry ⟨_, _, by rw [hK]; exact lx.dp (SeqAt.canLay_of_shaped w1), by rw [hK]; exact ly.dp (SeqAt.canLay_of_shaped w2), w1, w2, f _ w3⟩
  · split at w
    · exact op_notIn_str pins s σ H _ _ v u Q I rx ry ⟨_, _, lx, ly, f _ w⟩
    · exact False.elim w
  · have viaK : ∀ kk : Key, Lk P O H (kD kk) vx → ∀ kvs, Lk P O H (.dict kvs) vy → isPool kvs = false → Qr (!(getKV kvs (kD kk)).isSome) → wpAny (model X.prog X.w) X.A (compareOp .NotIn v u) (EP X pins σ Q) X.xe s := fun kk lx kvs ly w1 w3 => by
      obtain ⟨a, ks, rfl, h1, h2⟩ := ly.dict w1
      have ev : vx = kV kk := by
        cases kk with
        | inl i => exact lx
        | inr i => exact lx
      subst ev
      obtain rfl : u = Value.ref a := ry
      refine d_notIn (by omega) I (DGet.k h1) rx fun s1 I1 => ⟨.bl _, H, I1, rfl, f _ ?_⟩
      rcases h2.get kk with ⟨e1, e2⟩ | ⟨d, z, e1, e2, _⟩
      · rw [e1] at w3; rw [e2]; exact w3
      · rw [e1] at w3; rw [e2]; exact w3
    split at w
    · exact viaK (.inl _) lx _ ly w.1 w.2
    · exact viaK (.inr _) lx _ ly w.1 w.2
    · split at w
      · obtain ⟨a, xs, rfl, n, h1, h2⟩ := ly
        obtain rfl : u = Value.ref a := ry
        exact dt_notIn hu hid_in hK I (by rw [hw]; exact h1) h2 w.1 (lx.rep w.1) rx fun s1 I1 => ⟨.bl _, H, I1, rfl, f _ w.2⟩
      · exact False.elim w
    · exact False.elim w
  · exact False.elim w
theorem isN_of {z : V} (h : Lk P O H x z) : decide (z = V.non) = isN x := by
  cases x with
  | none => rw [show z = .non from h]; rfl
  | bool b => rw [show z = .bl b from h]; rfl
  | int b => rw [show z = .int b from h]; rfl
  | str b => rw [show z = .str b from h]; rfl
  | list b =>
    obtain ⟨a, vs, e, _⟩ := h
    rw [e]
    rfl
  | tuple b =>
    obtain ⟨a, vs, e, _⟩ := h
    rw [e]
    rfl
  | dict b =>
    have q : ∃ a, z = V.ref a := by
      rcases h.dictOr with (⟨_, e⟩ | ⟨a, _, e, _⟩ | ⟨a, _, _, e, _⟩) | ⟨_, _, a, _, e, _⟩
      · exact ⟨_, e⟩
      · exact ⟨a, e⟩
      · exact ⟨a, e⟩
      · exact ⟨a, e⟩
    obtain ⟨a, e⟩ := q
    rw [e]
    rfl
theorem shaped_depth {d : D} (h : SeqAt.shaped d = true) : d.depth ≤ 64 := by
  unfold SeqAt.shaped at h
  rw [Bool.and_eq_true, decide_eq_true_eq] at h
  exact h.2
/-- order of tuples -/
theorem op_ordD {op : CmpOp} {a b : List D} (hu : X.A.units + 65 < cLine) (hK : X.K = P.K) (I : Inv X pins σ H s) (rx : RelV vx v) (ry : RelV vy u) (lx : Lk P O H (.tuple a) vx) (ly : Lk P O H (.tuple b) vy) (w : dCmp op (.tuple a) (.tuple b) Qr) (f : FinB P H Qr Q)
    (ho : op = .Lt ∨ op = .LtE ∨ op = .Gt ∨ op = .GtE) : wpAny (model X.prog X.w) X.A (compareOp op v u) (EP X pins σ Q) X.xe s := by
  have rd : ∀ {c : List D} {z : V} {y : Value}, SeqAt.shaped (.tuple c) = true → Lk P O H (.tuple c) z → RelV z y → ∃ as, Reads s.heap y (.tuple c) as := fun h1 h2 h3 => Dp.reads I _ _ _ (by rw [hK]; exact h2.dp (SeqAt.canLay_of_shaped h1)) h3
  have fin : ∀ t, Qr t → EP X pins σ Q (.bool t) s := fun t q => ⟨.bl t, H, I, rfl, f _ q⟩
  rcases ho with rfl | rfl | rfl | rfl
  all_goals
    obtain ⟨w1, w2, w3, w4⟩ := w
    have := shaped_depth w2
    have := shaped_depth w3
  · obtain ⟨as, r1⟩ := rd w2 lx rx
    obtain ⟨bs, r2⟩ := rd w3 ly ry
    exact PySem.W.lt_data r1 r2 w1 (fun e => nomatch e) (by omega) (fin _ w4)
  · obtain ⟨as, r1⟩ := rd w3 lx rx
    obtain ⟨bs, r2⟩ := rd w2 ly ry
    exact PySem.W.le_data r1 r2 (by rw [PySem.W.alike_comm]; exact w1) (fun e => nomatch e) (by omega) (fin _ w4)
  · obtain ⟨as, r1⟩ := rd w3 lx rx
    obtain ⟨bs, r2⟩ := rd w2 ly ry
    exact PySem.W.gt_data r1 r2 (by rw [PySem.W.alike_comm]; exact w1) (fun e => nomatch e) (by omega) (fin _ w4)
  · obtain ⟨as, r1⟩ := rd w2 lx rx
    obtain ⟨bs, r2⟩ := rd w3 ly ry
    exact PySem.W.ge_data r1 r2 w1 (fun e => nomatch e) (by omega) (fin _ w4)
theorem op_cmpD (op : CmpOp) (hu : X.A.units + 65 < cLine) (hK : X.K = P.K) (hw : X.w = P.w) : OpR X (compareOp op) (rCmpD P op) := by
  intro pins s σ H vx vy v u Q I rx ry h
  obtain ⟨O, x, y, Qr, c, lx, ly, w, f⟩ := h
  cases op with
  | Eq => exact op_eqDD (by omega) hK I rx ry lx ly w f
  | NotEq => exact op_neDD (by omega) hK I rx ry lx ly w f
  | In => exact op_inDD hu hK hw I rx ry lx ly w f
  | NotIn => exact op_niDD hu hK hw I rx ry lx ly w f
  | Lt =>
    unfold dCmp at w
    simp only at w
    split at w
    · exact op_lt pins s σ H _ _ v u Q I rx ry ⟨_, _, lx, ly, f _ w⟩
    · exact op_lt_str pins s σ H _ _ v u Q I rx ry ⟨_, _, lx, ly, f _ w⟩
    · exact op_ordD (op := .Lt) hu hK I rx ry lx ly w f (by simp)
    · exact False.elim w
  | LtE =>
    unfold dCmp at w
    simp only at w
    split at w
    · exact op_le pins s σ H _ _ v u Q I rx ry ⟨_, _, lx, ly, f _ w⟩
    · rw [show vx = _ from lx] at rx
      rw [show vy = _ from ly] at ry
      obtain ⟨t, rfl⟩ := rx
      obtain ⟨t', rfl⟩ := ry
      exact PySem.P.le_str ⟨.bl _, H, I, rfl, f _ w⟩
    · exact op_ordD (op := .LtE) hu hK I rx ry lx ly w f (by simp)
    · exact False.elim w
  | Gt =>
    unfold dCmp at w
    simp only at w
    split at w
    · exact op_gt pins s σ H _ _ v u Q I rx ry ⟨_, _, lx, ly, f _ w⟩
    · exact op_gt_str pins s σ H _ _ v u Q I rx ry ⟨_, _, lx, ly, f _ w⟩
    · exact op_ordD (op := .Gt) hu hK I rx ry lx ly w f (by simp)
    · exact False.elim w
  | GtE =>
    unfold dCmp at w
    simp only at w
    split at w
    · exact op_ge pins s σ H _ _ v u Q I rx ry ⟨_, _, lx, ly, f _ w⟩
    · rw [show vx = _ from lx] at rx
      rw [show vy = _ from ly] at ry
      obtain ⟨t, rfl⟩ := rx
      obtain ⟨t', rfl⟩ := ry
      exact PySem.P.ge_str ⟨.bl _, H, I, rfl, f _ w⟩
    · exact op_ordD (op := .GtE) hu hK I rx ry lx ly w f (by simp)
    · exact False.elim w
  | Is =>
    unfold dCmp at w
    simp only at w
    split at w
    · refine op_isN pins s σ H _ _ v u Q I rx ry ⟨ly, f _ ?_⟩
      rw [isN_of lx]
      exact w
    · exact False.elim w
  | IsNot =>
    unfold dCmp at w
    simp only at w
    split at w
    · refine op_notN pins s σ H _ _ v u Q I rx ry ⟨ly, f _ ?_⟩
      rw [isN_of lx]
      exact w
    · exact False.elim w
end
/-- a value's truth -/
theorem Lk.tru {P : Pm} {O : Addr → Bool} {H : Hp} {x : D} {z : V} {Q : Bool → Prop} (h : Lk P O H x z) (w : dTru x Q) : ∃ k, TruV P.K z H k ∧ Q k := by
  cases x with
  | none => rw [show z = .non from h]; exact ⟨_, rfl, w⟩
  | bool b => rw [show z = .bl b from h]; exact ⟨_, rfl, w⟩
  | int b => rw [show z = .int b from h]; exact ⟨_, rfl, w⟩
  | str b => rw [show z = .str b from h]; exact ⟨_, ⟨w.1, rfl⟩, w.2⟩
  | list ds =>
    obtain ⟨a, vs, e, n, h1, h2⟩ := h
    rw [e]
    refine ⟨_, .inl ⟨vs, SqL.of h1, rfl⟩, ?_⟩
    have q := h2.length
    have e2 : vs.isEmpty = ds.isEmpty := by
      cases vs <;> cases ds <;> first | rfl | cases q
    rw [e2]
    exact w
  | tuple ds =>
    obtain ⟨a, vs, e, h1, _, h2⟩ := Lk.tup h
    rw [e]
    refine ⟨_, .inr (.inl ⟨vs, h1, rfl⟩), ?_⟩
    have q := h2.length
    have e2 : vs.isEmpty = ds.isEmpty := by
      cases vs <;> cases ds <;> first | rfl | cases q
    rw [e2]
    exact w
  | dict b => exact False.elim w
/-! ### places, slices -/
theorem atI_some {α : Type} {xs : List α} {k : Int} {d : α} (h : atI xs k = some d) : ∃ j, ixN xs.length k = some j ∧ xs[j]? = some d := by
  unfold atI at h
  rw [Option.bind_eq_some_iff] at h
  exact h
theorem RepL.at {K : PySem.W.Frag} {p : Addr} {H : Hp} {ds : List D} {vs : List V} {k : Int} {d : D} (r : RepL K p H ds vs) (h : atI ds k = some d) : ∃ v, atI vs k = some v ∧ Rep K p H d v := by
  obtain ⟨j, h1, h2⟩ := atI_some h
  obtain ⟨v, h3, h4⟩ := r.get h2
  refine ⟨v, ?_, h4⟩
  unfold atI
  rw [r.length, h1]
  exact h3
def rIxD (P : Pm) : R2 := fun vx vy H Q => ∃ O x y Qr, OC P O H ∧ Lk P O H x vx ∧ Lk P O H y vy ∧ dIx x y Qr ∧ Fin P O H Qr Q
theorem ix_dict {X : Cx} {P : Pm} (hu : X.A.units + 65 < cLine) {value slice : Expr} {pins : List (Addr × Obj)} {s : Shared} {σ : L2.St} {O : Addr → Bool} {H : Hp} {vy : V} {u : Value} {Q : VK} {Qr : R → Prop} {a : Addr} {ks : List (Key × V)} {kvs : List (D × D)} {kk : Key} {d : D} (I : Inv X pins σ H s) (ry : RelV (kV kk) u)
    (hs : subscripted slice false (.ref a) u = operate [.ref a, u] (getItem (.ref a) u)) (h1 : H a = some (.dK ks)) (h2 : RepKV P.K P.p (hid H O) kvs ks) (c : OC P O H) (e : getKV kvs (kD kk) = some d) (f : Fin P O H Qr Q) (w : Qr (.v d)) :
    wpAny (model X.prog X.w) X.A (subscriptTail value slice (.ref a) u) (EP X pins σ Q) X.xe s := by
  rcases h2.get kk with ⟨e1, _⟩ | ⟨d', z, e1, e2, r⟩
  · rw [e] at e1; cases e1
  · rw [e] at e1
    cases e1
    have g : DGet H a (kV kk) (some z) := by rw [← e2]; exact DGet.k h1
    have hT := dict_typeIs I g
    unfold subscriptTail
    refine wpAny_bind ?_
    rw [getitemInPython_of_ne hT.not_modules]
    refine wpAny_bind (wpAny_specialOf hT PySem.F.slot_dict_getitem.lookup ?_)
    have fin : wpAny (model X.prog X.w) X.A (subscripted slice false (.ref a) u) (fun r s₃ => wpAny (model X.prog X.w) X.A (letTemporaryGo value (.ref a) r >>= fun _ => pure r) (EP X pins σ Q) X.xe s₃) X.xe s := by
      rw [hs]
      refine wpAny_operating (wpAny_mono (d_getItem (E := X.xe) (Q := EP X pins σ Q) (by omega) I g ry fun w' s' I' rw' => ⟨z, H, I', rw', f.val c r w⟩) (fun r s₃ h₃ => wpAny_bind (wpAny_letTemporaryGo (wpAny_pure h₃))) fun _ _ x => x)
    first
      | exact wpAny_pure (wpAny_bind fin)
      | exact wpAny_bind (wpAny_pure (wpAny_bind fin))
      | exact wpAny_bind fin
theorem ix_dt {X : Cx} {P : Pm} (hu : X.A.units + 65 < cLine) (hK : X.K = P.K) (hw : X.w = P.w) {value slice : Expr} {pins : List (Addr × Obj)} {s : Shared} {σ : L2.St} {O : Addr → Bool} {H : Hp} {vy : V} {u : Value} {Q : VK} {Qr : R → Prop} {a : Addr} {xs : List (NestedKey × Addr × Value)} {kvs : List (D × D)} {y d : D} (I : Inv X pins σ H s) (ry : RelV vy u)
    (hs : subscripted slice false (.ref a) u = operate [.ref a, u] (getItem (.ref a) u)) (h1 : H a = some (dtO P.w a xs)) (h2 : RepX P.K P.p (hid H O) kvs xs) (c : OC P O H) (ok : keyOk y = true) (rd : Rep P.K P.p (hid H O) y vy) (e : getT kvs y = some d) (f : Fin P O H Qr Q) (w : Qr (.v d)) :
    wpAny (model X.prog X.w) X.A (subscriptTail value slice (.ref a) u) (EP X pins σ Q) X.xe s := by
  have h1' : H a = some (dtO X.w a xs) := by rw [hw]; exact h1
  have hT : s.TypeIs (.ref a) "dict" := by
    obtain ⟨_, _, o, ho, hx, _⟩ := dt_is I h1'
    exact ⟨o, ho, hx.1⟩
  unfold subscriptTail
  refine wpAny_bind ?_
  rw [getitemInPython_of_ne hT.not_modules]
  refine wpAny_bind (wpAny_specialOf hT PySem.F.slot_dict_getitem.lookup ?_)
  have fin : wpAny (model X.prog X.w) X.A (subscripted slice false (.ref a) u) (fun r s₃ => wpAny (model X.prog X.w) X.A (letTemporaryGo value (.ref a) r >>= fun _ => pure r) (EP X pins σ Q) X.xe s₃) X.xe s := by
    rw [hs]
    refine wpAny_operating (wpAny_mono (dt_get (E := X.xe) (Q := EP X pins σ Q) hu hid_in hK I h1' h2 ok rd ry e fun x u' s' rx rr I' => ⟨x, H, I', rx, f.val c rr w⟩) (fun r s₃ h₃ => wpAny_bind (wpAny_letTemporaryGo (wpAny_pure h₃))) fun _ _ x => x)
  first
    | exact wpAny_pure (wpAny_bind fin)
    | exact wpAny_bind (wpAny_pure (wpAny_bind fin))
    | exact wpAny_bind fin
theorem ix_D {X : Cx} {P : Pm} (hu : X.A.units + 65 < cLine) (hK : X.K = P.K) (hw : X.w = P.w) : IxR X (rIxD P) := by
  intro value slice pins s σ H vx vy v u Q I rx ry h hs
  obtain ⟨O, x, y, Qr, c, lx, ly, w, f⟩ := h
  unfold dIx at w
  split at w
  · split at w
    · obtain ⟨w1, w2⟩ := w
      split at w2
      · rename_i k _ kvs _ d e
        obtain ⟨a, ks, rfl, h1, h2⟩ := lx.dict w1
        have ly' : vy = .str _ := ly
        subst ly'
        obtain rfl : v = Value.ref a := rx
        exact ix_dict (kk := .inr k) (vy := .str k) hu I ry hs h1 h2 c e f w2
      · exact False.elim w2
    · exact False.elim w
  · split at w
    · obtain ⟨w1, w2⟩ := w
      split at w2
      · rename_i k _ kvs _ d e
        obtain ⟨a, ks, rfl, h1, h2⟩ := lx.dict w1
        have ly' : vy = .int _ := ly
        subst ly'
        obtain rfl : v = Value.ref a := rx
        exact ix_dict (kk := .inl k) (vy := .int k) hu I ry hs h1 h2 c e f w2
      · exact False.elim w2
    · split at w
      · rename_i k ds d e
        obtain ⟨a, vs, rfl, n, h1, h2⟩ := lx
        obtain ⟨z, g1, g2⟩ := h2.at e
        exact ix_list value slice pins s σ H _ _ v u Q I rx ry ⟨a, vs, _, z, rfl, ly, SqL.of h1, g1, f.val c g2 w⟩ hs
      · exact False.elim w
    · split at w
      · rename_i k ds d e
        obtain ⟨a, vs, rfl, h1, _, h2⟩ := lx.tup
        obtain ⟨z, g1, g2⟩ := h2.at e
        exact ix_tup value slice pins s σ H _ _ v u Q I rx ry ⟨a, vs, _, z, rfl, ly, by rw [hK]; exact h1, g1, f.val c g2 w⟩ hs
      · exact False.elim w
    · obtain ⟨w0, w⟩ := w
      split at w
      · rename_i e
        exact ix_str value slice pins s σ H _ _ v u Q I rx ry ⟨_, _, _, lx, ly, w0, e, f.s c w⟩ hs
      · exact False.elim w
    · exact False.elim w
  · split at w
    · obtain ⟨w1, w2⟩ := w
      split at w2
      · rename_i e
        obtain ⟨a, xs, rfl, n, h1, h2⟩ := lx
        obtain rfl : v = Value.ref a := rx
        exact ix_dt hu hK hw I ry hs h1 h2 c w1 (ly.rep w1) e f w2
      · exact False.elim w2
    · exact False.elim w
  · exact False.elim w
theorem cut_rep {K : PySem.W.Frag} {p : Addr} {H : Hp} {ds : List D} {vs : List V} {lo hi : Option Int} (r : RepL K p H ds vs) : RepL K p H (cutD ds lo hi) (cutV vs lo hi) := by
  unfold cutD cutV
  rw [r.length]
  exact (r.drop _).take _
def rSlD (P : Pm) : V → Option Int → Option Int → Hp → VK → Prop := fun vx lo hi H Q => ∃ O x Qr, OC P O H ∧ Lk P O H x vx ∧ dSl x lo hi Qr ∧ Fin P O H Qr Q
theorem sl_D {X : Cx} {P : Pm} (hK : X.K = P.K) : SlR X (rSlD P) := by
  intro pins s σ H vx v vl vu lo hi sl Q I rx hs pl pu h
  obtain ⟨O, x, Qr, c, lx, w, f⟩ := h
  unfold dSl at w
  split at w
  · obtain ⟨a, vs, rfl, n, h1, h2⟩ := lx
    exact sl_list pins s σ H _ v vl vu lo hi sl Q I rx hs pl pu ⟨a, vs, rfl, SqL.of h1, fun p hp => f.new c hp (cut_rep h2) w⟩
  · rename_i ds
    obtain ⟨a, vs, rfl, h1, g1, h2⟩ := lx.tup
    refine sl_tupF pins s σ H _ v vl vu lo hi sl Q I rx hs pl pu ⟨a, vs, rfl, by rw [hK]; exact h1, fun e => ?_, fun _ => f.tup c (cut_rep h2) w⟩
    have e' : cutD ds lo hi = ds := by
      rw [h2.length] at e
      unfold cutD
      rw [e.1, e.2, List.drop_zero, Nat.sub_zero]
      exact List.take_length
    rw [e'] at w
    exact f.val c (d := .tuple ds) ⟨a, vs, rfl, g1, h2⟩ w
  · exact False.elim w
theorem signs_vals (x : Str) {acc : Array Value} (h : ItemsOf (SignAt x) acc x.cps.size) : Vals (x.cps.toList.map fun c => V.str ⟨#[c]⟩) acc.toList := by
  have e : acc.toList.length = x.cps.size := by rw [Array.length_toList]; exact h.1
  have e2 : (x.cps.toList.map fun c => V.str ⟨#[c]⟩) = (List.range acc.toList.length).map fun i => V.str ⟨#[x.cps.getD i 0]⟩ := by
    rw [e]
    refine List.ext_getElem? fun i => ?_
    by_cases l : i < x.cps.size
    · rw [List.getElem?_map, List.getElem?_map, List.getElem?_range l]
      simp [l]
    · rw [List.getElem?_eq_none (by simp; omega), List.getElem?_eq_none (by simp; omega)]
  rw [e2]
  refine vals_of_get acc.toList _ fun j u hj => ?_
  obtain ⟨c, t, hc, rfl⟩ := h.2 j u (by rw [← hj, Array.getElem?_toList])
  refine ⟨t, ?_⟩
  have : x.cps.getD j 0 = c := by
    rw [Array.getD_eq_getD_getElem?, hc]
    rfl
  rw [this]
theorem call_listS {X : Cx} (hc : X.calm = true) : CallR X (.type "list") (fun xs H Q => ∃ x : Str, xs = [.str x] ∧ x.length ≤ sizeLine ∧ ∀ l, H l = none → Q (.ref l) (upd H l (.lst (x.cps.toList.map fun c => V.str ⟨#[c]⟩)))) := by
  intro pins s σ H xs us Q I r h
  obtain ⟨x, rfl, hz, q⟩ := h
  obtain ⟨u, rfl, t, rfl⟩ := vals1 r
  refine call_list_str (I.ok.hd hc) x t (fun h' tk acc c' k e it => ?_) hz
  refine ⟨.ref s.heap.objs.size, upd H s.heap.objs.size (.lst (x.cps.toList.map fun c => V.str ⟨#[c]⟩)), I.laid (t' := tk) k (Nat.le_refl _) (show ObjOk X.prog X.w _ _ _ (.lst _) from ⟨?_, acc.toList, c', signs_vals x it, ?_⟩), rfl, q _ (I.hok.fresh (Nat.le_refl _))⟩
  · rw [List.length_map, Array.length_toList]
    exact hz
  · rw [Array.toArray_toList]
    exact e
theorem RepL.signs {K : PySem.W.Frag} {p : Addr} {H : Hp} : ∀ l : List Nat, RepL K p H (l.map fun c => .str ⟨#[c]⟩) (l.map fun c => V.str ⟨#[c]⟩)
  | [] => rfl
  | c :: l => ⟨_, _, rfl, rfl, RepL.signs l⟩
theorem RepL.int {K : PySem.W.Frag} {p : Addr} {H : Hp} : ∀ ms : List Int, RepL K p H (ms.map .int) (ms.map V.int)
  | [] => rfl
  | m :: ms => ⟨_, _, rfl, rfl, RepL.int ms⟩
theorem pairedImp {α β : Type} {R S : α → β → Prop} (f : ∀ {a b}, R a b → S a b) : ∀ {as : List α} {bs : List β}, Paired R as bs → Paired S as bs
  | _, _, .nil => .nil
  | _, _, .cons h t => .cons (f h) (pairedImp f t)
theorem RepL.strs {K : PySem.W.Frag} {p : Addr} {H : Hp} : ∀ {ds : List D} {vs : List V} {ys : List Str}, RepL K p H ds vs → strsD ds = some ys → vs = ys.map V.str
  | [], vs, ys, h, e => by
    rw [show vs = [] from h]
    cases e
    rfl
  | d :: ds, vs, ys, h, e => by
    obtain ⟨x, xs, rfl, h1, h2⟩ := h
    cases d with
    | str s =>
      unfold strsD at e
      rw [Option.map_eq_some_iff] at e
      obtain ⟨zs, e1, rfl⟩ := e
      rw [List.map_cons, RepL.strs h2 e1, show x = .str s from h1]
    | _ => cases e
theorem RepL.pairs {K : PySem.W.Frag} {p : Addr} {H : Hp} : ∀ {ds : List D} {vs : List V} {kvs : List (D × D)}, RepL K p H ds vs → pairsD ds = some kvs → ∃ (ps : List Addr) (ks : List (Key × V)), vs = ps.map V.ref ∧ Paired (fun (p : Addr) (kv : Key × V) => SqT K H p [kV kv.1, kv.2]) ps ks ∧ RepKV K p H kvs ks
  | [], vs, kvs, h, e => by
    rw [show vs = [] from h]
    cases e
    exact ⟨[], [], rfl, .nil, rfl⟩
  | d :: ds, vs, kvs, h, e => by
    unfold pairsD at e
    split at e
    · rename_i e0
      cases e0
    · rename_i k v r e0
      cases e0
      split at e
      · rename_i hk
        rw [Option.map_eq_some_iff] at e
        obtain ⟨kvs', e1, rfl⟩ := e
        obtain ⟨x, xs, rfl, ⟨a, ws, rfl, h1, y, ys, rfl, hy, z, zs, rfl, hz, rfl⟩, h2⟩ := h
        obtain ⟨ps, ks, rfl, g1, g2⟩ := RepL.pairs h2 e1
        obtain ⟨kk, rfl, rfl⟩ := key_of_rep hk hy
        exact ⟨a :: ps, (kk, z) :: ks, rfl, .cons h1.1 g1, kk, z, ks, rfl, ⟨rfl, hz⟩, g2⟩
      · cases e
    · cases e
theorem RepL.reverse {K : PySem.W.Frag} {p : Addr} {H : Hp} : ∀ {ds : List D} {vs : List V}, RepL K p H ds vs → RepL K p H ds.reverse vs.reverse
  | [], vs, h => by
    rw [show vs = [] from h]
    exact rfl
  | d :: ds, vs, h => by
    obtain ⟨x, xs, rfl, h1, h2⟩ := h
    rw [List.reverse_cons, List.reverse_cons]
    exact h2.reverse.append (RepL.one h1)
theorem RR.newD {P : Pm} {O : Addr → Bool} {H : Hp} (c : OC P O H) {a : Addr} {kvs : List (D × D)} {ks : List (Key × V)} (h : H a = none) (r : RepKV P.K P.p (hid H O) kvs ks) : RR P O H (upd H a (.dK ks)) (.v (.dict kvs)) (.ref a) :=
  .inr (.inl ⟨a, ks, rfl, hid_of upd_same (c.out h), RepKV.mono (hid_same c.op (SameP.new h)) r⟩)
/-! ### built-ins of one argument -/
def BF.id : BF → Value
  | .len => .builtin "len"
  | .int => .type "int"
  | .tuple => .type "tuple"
  | .list => .type "list"
  | .sum => .builtin "sum"
  | .all => .builtin "all"
  | .any => .builtin "any"
  | .sorted => .builtin "sorted"
  | .dict => .type "dict"
  | .str => .type "str"
theorem canAll {ds : List D} (h : ∀ d ∈ ds, PyData.canLay0 d = true) : PyData.canLayAll0 ds = true := by
  induction ds with
  | nil => rfl
  | cons d ds ih =>
    rw [PyData.canLayAll0, h d List.mem_cons_self, ih fun e he => h e (List.mem_cons_of_mem _ he)]
    rfl
theorem tups_are {K : PySem.W.Frag} {p : Addr} {H Hh : Hp} (sm : Same Hh H) : ∀ {ds : List D} {vs : List V} {ts : List (List Int)}, RepL K p Hh ds vs → tupsD ds = some ts → TupsAre K H vs ts ∧ ∀ u ∈ vs.zip ts, Rep K p Hh (.tuple (u.2.map .int)) u.1
  | [], vs, ts, h, e => by
    rw [show vs = [] from h]
    cases e
    exact ⟨trivial, fun u hu => (by cases hu)⟩
  | d :: ds, vs, ts, h, e => by
    obtain ⟨x, xs, rfl, h1, h2⟩ := h
    unfold tupsD at e
    split at e
    · rename_i q; cases q
    · rename_i es r q
      cases q
      split at e
      · rename_i t ts' e1 e2
        cases e
        obtain ⟨q1, q2⟩ := tups_are sm h2 e2
        obtain ⟨a, vs', rfl, g1, g2⟩ := id h1
        have ee := g2.ints e1
        subst ee
        have ed : es = t.map .int := by
          clear g1 g2 h1 h2 q1 q2 e2
          induction es generalizing t with
          | nil => cases e1; rfl
          | cons z es ih =>
            cases z with
            | int i =>
              simp only [intsD, Option.map_eq_some_iff] at e1
              obtain ⟨m, e3, rfl⟩ := e1
              rw [ih m e3]
              rfl
            | _ => cases e1
        refine ⟨⟨⟨a, rfl, SqT.same sm g1.1⟩, q1⟩, fun u hu => ?_⟩
        rw [List.zip_cons_cons] at hu
        rcases List.mem_cons.mp hu with rfl | hu
        · rw [← ed]
          exact h1
        · exact q2 u hu
      · cases e
    · cases e
theorem repL_of {K : PySem.W.Frag} {p : Addr} {Hh : Hp} : ∀ {us : List (V × List Int)}, (∀ u ∈ us, Rep K p Hh (.tuple (u.2.map .int)) u.1) → RepL K p Hh ((us.map (·.2)).map fun t => .tuple (t.map .int)) (us.map (·.1))
  | [], _ => rfl
  | u :: us, h => ⟨_, _, rfl, h u List.mem_cons_self, repL_of fun v hv => h v (List.mem_cons_of_mem _ hv)⟩
/-- sorted of what can be collected -/
theorem sort_D {X : Cx} {P : Pm} {O : Addr → Bool} {H : Hp} {pins : List (Addr × Obj)} {s : Shared} {σ : L2.St} {vx : V} {us : List Value} {vs : List V} {ds : List D} {Qr : R → Prop} {Q : VK} (hc : X.calm = true) (hu : X.A.units + 65 < cLine) (hK : X.K = P.K) (I : Inv X pins σ H s) (r : Vals [vx] us)
    (src : SrcL P.K X.w H vx vs) (hr : RepL P.K P.p (hid H O) ds vs) (hi : ∀ ns, intsD ds = some ns → (∃ a, vx = .ref a ∧ SqL P.K H a vs) ∨ ds = []) (c : OC P O H) (w : dSort ds Qr) (f : Fin P O H Qr Q) :
    wpAny (model X.prog X.w) X.A (call (.builtin "sorted") us) (EP X pins σ Q) X.xe s := by
  unfold dSort at w
  split at w
  · rename_i ns e
    rcases hi ns e with ⟨a, rfl, h1⟩ | rfl
    · rw [hr.ints e] at h1
      exact cr_sortedI pins s σ H _ us Q I r ⟨a, _, rfl, by rw [hK]; exact h1, fun ms p hp hs hq => f.new c hq (ds := ms.map .int) (RepL.int ms) (w ms hp hs)⟩
    · rw [show vs = [] from hr] at src
      cases e
      refine cr_sortedTs hc hu pins s σ H _ us Q I r ⟨vx, [], [], rfl, by rw [hK]; exact src, trivial, fun us' p1 _ _ p hp => ?_⟩
      have e1 : us' = [] := List.map_eq_nil_iff.mp p1.eq_nil
      subst e1
      exact f.new c hp (ds := []) rfl (w [] (.refl _) .nil)
  · split at w
    · rename_i ts e
      obtain ⟨q1, q2⟩ := tups_are hid_in hr e
      refine cr_sortedTs hc hu pins s σ H _ us Q I r ⟨vx, vs, ts, rfl, by rw [hK]; exact src, by rw [hK]; exact q1, fun us' p1 p2 p3 p hp => ?_⟩
      exact f.new c hp (repL_of fun u hu => q2 u (p3 u hu)) (w _ p1 p2)
    · obtain ⟨w1, w2⟩ := w
      have can : PyData.canLayAll0 ds = true := canAll fun d hd => pln_lay (w1.2.2 d hd).1
      exact cr_sortedD hc hu pins s σ H _ us Q I r ⟨vx, vs, ds, P.p, hid H O, rfl, by rw [hK]; exact src, by rw [hK]; exact hr, by rw [hK]; exact RepL.dp (RepL.mono hid_in hr) can, w1, fun us' q p hp => f.new c hp (by rw [← hK]; exact q) w2⟩
def rB1 (P : Pm) (f : BF) : List V → Hp → VK → Prop := fun vs H Q => ∃ O x vx Qr, vs = [vx] ∧ OC P O H ∧ Lk P O H x vx ∧ dB1 f x Qr ∧ Fin P O H Qr Q
theorem call_b1 {X : Cx} {P : Pm} (b : BF) (hc : X.calm = true) (hu : X.A.units + 65 < cLine) (hK : X.K = P.K) (hw : X.w = P.w) : CallR X b.id (rB1 P b) := by
  intro pins s σ H xs us Q I r h
  obtain ⟨O, x, vx, Qr, rfl, c, lx, w, f⟩ := h
  unfold dB1 at w
  split at w
  · obtain ⟨a, vs, rfl, n, h1, h2⟩ := lx
    refine call_len_seq pins s σ H _ us Q I r ⟨a, vs, rfl, .inl (SqL.of h1), ?_⟩
    rw [h2.length]
    exact f.i c w
  · obtain ⟨a, vs, rfl, h1, _, h2⟩ := lx.tup
    refine call_len_seq pins s σ H _ us Q I r ⟨a, vs, rfl, .inr (by rw [hK]; exact h1), ?_⟩
    rw [h2.length]
    exact f.i c w
  · exact call_len_str pins s σ H _ us Q I r ⟨_, by rw [show vx = _ from lx], w.1, f.i c w.2⟩
  · exact call_int1 pins s σ H _ us Q I r (.inl ⟨_, by rw [show vx = _ from lx], f.i c w⟩)
  · exact call_int1 pins s σ H _ us Q I r (.inr ⟨_, by rw [show vx = _ from lx], f.i c w⟩)
  · obtain ⟨a, vs, rfl, n, h1, h2⟩ := lx
    exact call_tupleF pins s σ H _ us Q I r ⟨a, vs, rfl, SqL.of h1, f.tup c h2 w⟩
  · rename_i ds
    obtain ⟨a, vs, rfl, h1, g1, h2⟩ := lx.tup
    exact call_tuple_of pins s σ H _ us Q I r ⟨a, vs, rfl, .inr ⟨by rw [hK]; exact h1, f.val c (d := .tuple ds) ⟨a, vs, rfl, g1, h2⟩ w⟩⟩
  · obtain ⟨a, vs, rfl, n, h1, h2⟩ := lx
    exact call_list_of pins s σ H _ us Q I r ⟨a, vs, rfl, .inl (SqL.of h1), fun l hl => f.new c hl h2 w⟩
  · obtain ⟨a, vs, rfl, h1, _, h2⟩ := lx.tup
    exact call_list_of pins s σ H _ us Q I r ⟨a, vs, rfl, .inr (by rw [hK]; exact h1), fun l hl => f.new c hl h2 w⟩
  · exact call_listS hc pins s σ H _ us Q I r ⟨_, by rw [show vx = _ from lx], w.1, fun l hl => f.new c hl (RepL.signs _) w.2⟩
  · split at w
    · rename_i e
      obtain ⟨a, vs, rfl, n, h1, h2⟩ := lx
      rw [h2.ints e] at h1
      exact cr_sum hc pins s σ H _ us Q I r ⟨a, _, rfl, SqL.of h1, f.i c w⟩
    · exact False.elim w
  · split at w
    · rename_i e
      obtain ⟨a, vs, rfl, n, h1, h2⟩ := lx
      rw [h2.bools e] at h1
      exact cr_all hc pins s σ H _ us Q I r ⟨a, _, rfl, SqL.of h1, f.b c w⟩
    · exact False.elim w
  · split at w
    · rename_i e
      obtain ⟨a, vs, rfl, n, h1, h2⟩ := lx
      rw [h2.bools e] at h1
      exact cr_any hc pins s σ H _ us Q I r ⟨a, _, rfl, SqL.of h1, f.b c w⟩
    · exact False.elim w
  · obtain ⟨a, vs, rfl, n, h1, h2⟩ := lx
    exact sort_D hc hu hK I r ⟨a, rfl, .inl (SqL.of h1)⟩ h2 (fun ns _ => .inl ⟨a, rfl, SqL.of h1⟩) c w f
  · obtain ⟨a, xs', rfl, n, h1, h2⟩ := lx
    refine sort_D hc hu hK I r ⟨a, rfl, .inr ⟨xs', by rw [hw]; exact h1, rfl⟩⟩ h2.keys (fun ns e => .inr ?_) c w f
    rename_i kvs
    cases kvs with
    | nil => rfl
    | cons kv kvs =>
      obtain ⟨k', b', u', ys, z, _, _, g2, _⟩ := h2
      obtain ⟨es, g⟩ := keyOk_tup g2
      rw [List.map_cons, g] at e
      cases e
  · obtain ⟨a, xs', rfl, n, h1, h2⟩ := lx
    exact call_listDt hc pins s σ H _ us Q I r ⟨a, xs', rfl, by rw [hw]; exact h1, fun p hp => f.new c hp h2.keys w⟩
  · exact call_str_int pins s σ H _ us Q I r ⟨_, by rw [show vx = _ from lx], w.1, f.s c w.2⟩
  · split at w
    · rename_i e
      obtain ⟨a, vs, rfl, n, h1, h2⟩ := lx
      obtain ⟨ps, ks, rfl, hp, hk⟩ := h2.pairs e
      have hp' : Paired (fun (p : Addr) (kv : Key × V) => SqT X.K H p [kV kv.1, kv.2]) ps ks := by rw [hK]; exact pairedImp (fun h => SqT.same (fun b o q => (hid_some q).1) h) hp
      exact call_dictP hc pins s σ H _ us Q I r ⟨a, ps, ks, rfl, SqL.of h1, hp', fun q hq => f (.v (.dict _)) _ _ (SameP.new hq) (c.pool.new hq) (RR.newD c hq (RepKV.merge hk (kvs := []) (ks := []) rfl)) w⟩
    · exact False.elim w
  · split at w
    · rename_i e
      obtain ⟨a, vs, rfl, h1, g1, h2⟩ := lx.tup
      obtain ⟨ps, ks, rfl, hp, hk⟩ := h2.pairs e
      have hp' : Paired (fun (p : Addr) (kv : Key × V) => SqT X.K H p [kV kv.1, kv.2]) ps ks := by rw [hK]; exact pairedImp (fun h => SqT.same (fun b o q => (hid_some q).1) h) hp
      exact call_dictT hc pins s σ H _ us Q I r ⟨a, ps, ks, rfl, by rw [hK]; exact SqP.same (fun b o q => (hid_some q).1) g1, hp', fun q hq => f (.v (.dict _)) _ _ (SameP.new hq) (c.pool.new hq) (RR.newD c hq (RepKV.merge hk (kvs := []) (ks := []) rfl)) w⟩
    · exact False.elim w
  · exact False.elim w
/-! ### isinstance -/
def BT.nm : BT → String
  | .bint => "int"
  | .bbool => "bool"
  | .bstr => "str"
  | .btuple => "tuple"
  | .blist => "list"
  | .bdict => "dict"
def KD.nm : KD → String
  | .none => "NoneType"
  | .bool => "bool"
  | .int => "int"
  | .str => "str"
  | .tuple => "tuple"
  | .list => "list"
  | .dict => "dict"
def tyD (d : D) : String := (kd d).nm
theorem kit_KT (k : KD) (t : BT) : kitB k.nm t.nm = some (isKT k t) := by
  cases k <;> cases t <;> decide +kernel
theorem kit_isT (d : D) (t : BT) : kitB (tyD d) t.nm = some (isT d t) := kit_KT (kd d) t
theorem Lk.ty {P : Pm} {O : Addr → Bool} {H : Hp} {x : D} {z : V} (h : Lk P O H x z) (w : noDic x = true) : TyX P.K H z (.type (tyD x)) := by
  cases x with
  | none => rw [show z = .non from h]; exact .base .non
  | bool b => rw [show z = .bl b from h]; exact .base (.bl b)
  | int b => rw [show z = .int b from h]; exact .base (.int b)
  | str b => rw [show z = .str b from h]; exact .base (.str b)
  | list ds =>
    obtain ⟨a, vs, e, n, h1, h2⟩ := h
    rw [e]
    exact .base (.lst h1)
  | tuple ds =>
    obtain ⟨a, vs, e, h1, _, h2⟩ := Lk.tup h
    rw [e]
    rcases h1 with (h1 | ⟨o, h1⟩) | ⟨o, its, n, k1, k2, _⟩
    · exact .base (.tup h1)
    · exact .fTuple h1
    · exact .kTuple k1 k2
  | dict b =>
    have n : isPool b = false := by simpa using w
    obtain ⟨a, ks, e, h1, _⟩ := Lk.dict h n
    rw [e]
    exact .base (.dK h1)
def rIsD (P : Pm) (ts : List BT) : List V → Hp → VK → Prop := fun vs H Q => ∃ O x vx Qr, vs = [vx, .ty ((ts.headD .bint).nm)] ∧ OC P O H ∧ Lk P O H x vx ∧ noDic x = true ∧ Qr (.v (.bool (isT x (ts.headD .bint)))) ∧ Fin P O H Qr Q
theorem call_is1 {X : Cx} {P : Pm} (t : BT) (hK : X.K = P.K) : CallR X (.builtin "isinstance") (rIsD P [t]) := by
  intro pins s σ H xs us Q I r h
  obtain ⟨O, x, vx, Qr, rfl, c, lx, n, w, f⟩ := h
  exact call_isi pins s σ H _ us Q I r ⟨vx, .ty t.nm, _, _, isT x t, rfl, .ty _, by rw [hK]; exact lx.ty n, kit_ty (kit_isT x t), f.b c w⟩
end DL

/-! DLR: repr of data, where no repr is under way. -/
namespace DL
open PySem PySem.Spec PyProof.Rows L2
/-- what may be shown -/
def RprOk (d : D) : Prop := (PyData.canLay0 d = true ∧ PyData.showable d = true ∧ (PyData.shown d).length ≤ sizeLine ∧ PyData.depth d ≤ 64) ∨ d = .dict []
def spRepr : SpD := fun ds Q => ∃ d, ds = [d] ∧ RprOk d ∧ Q (.v (.str (PyData.shown d)))
def rRepr (P : Pm) : List V → Hp → VK → Prop := fun vs H Q => ∃ O d vx Qr, vs = [vx] ∧ OC P O H ∧ Lk P O H d vx ∧ RprOk d ∧ Qr (.v (.str (PyData.shown d))) ∧ Fin P O H Qr Q
theorem cr_repr {X : Cx} {P : Pm} (hK : X.K = P.K) (hg : X.A.guards = some []) (hu : X.A.units + 100 < cLine) : CallR X (.builtin "repr") (rRepr P) := by
  intro pins s σ H xs us Q I r h
  obtain ⟨O, d, vx, Qr, rfl, c, lx, ok, w, f⟩ := h
  obtain ⟨u, rfl, ru⟩ := vals1 r
  have fin : ∀ (h' : Heap) (t : Tok) (tk : Nat), (∀ b o, s.heap.get? b = some o → h'.get? b = some o) → EP X pins σ Q (.str (PyData.shown d) t) { s with heap := h', toks := tk } := fun h' t tk k =>
    ⟨.str _, H, I.kept (t' := tk) k, ⟨t, rfl⟩, f.s c w⟩
  have reads : ∀ as, PyData.showable d = true → (PyData.shown d).length ≤ sizeLine → PyData.depth d ≤ 64 → Reads s.heap u d as → (PyData.hasDict d = true → sysModules ∉ as) → (∃ a, u = .ref a) → wpAny (model X.prog X.w) X.A (call (.builtin "repr") [u]) (EP X pins σ Q) X.xe s := fun as c2 c3 c4 rd hs hr => by
    obtain ⟨a, rfl⟩ := hr
    exact repr_of_reads' rd c2 hs hg (by omega) (fun _ _ e => e) (fun h' u tk k => fin h' u tk k) c3
  rcases ok with ⟨c1, c2, c3, c4⟩ | rfl
  · obtain ⟨as, rd⟩ := Dp.reads I d vx u (by rw [hK]; exact lx.dp c1) ru
    cases d with
    | none =>
      cases rd
      exact PySem.P.repr_of_none (fin _ _ _ fun _ _ e => e)
    | bool b =>
      cases rd
      exact PySem.P.repr_of_bool (fin _ _ _ fun _ _ e => e)
    | int i =>
      cases rd
      exact PySem.P.repr_of_int (by simpa [PyData.showable] using c2) (fin _ _ _ fun _ _ e => e)
    | str x =>
      cases rd
      exact PySem.P.repr_of_str (fin _ _ _ fun _ _ e => e) (by simpa only [PyData.shown] using c3)
    | dict kvs => cases c1
    | list ds => exact reads as c2 c3 c4 rd (fun z => by rw [PyData.hasDict_of_canLay _ c1] at z; cases z) (by cases rd; exact ⟨_, rfl⟩)
    | tuple ds => exact reads as c2 c3 c4 rd (fun z => by rw [PyData.hasDict_of_canLay _ c1] at z; cases z) (by cases rd; exact ⟨_, rfl⟩)
  · obtain ⟨a, ks, rfl, h1, h2⟩ := lx.dict rfl
    have e : ks = [] := h2
    subst e
    obtain rfl : u = Value.ref a := ru
    obtain ⟨z, hd, vs, rel, dd⟩ := dk_rd I.hok (.inl h1)
    cases rel
    obtain ⟨o, es, ep, g1, g2, g3, _, g5, _⟩ := dd
    have e2 : es.toList = [] := by
      generalize es.toList = l at g5
      cases g5
      rfl
    have ns : a ≠ sysModules := beq_eq_false_iff_ne.mp hd
    have rd : Reads s.heap (.ref a) (.dict []) (a :: [] ++ []) := .dict g1 g2.1 g3 (by rw [e2]; exact .nil) (by rw [e2]; exact .nil)
    refine reads _ (by decide +kernel) (by decide +kernel) (by decide +kernel) rd (fun _ m => ?_) ⟨a, rfl⟩
    exact ns (List.mem_singleton.mp m).symm
end DL

/-! DL4: expressions of the core, told by their weakest preconditions. -/
namespace DL
open PySem PySem.Spec PyProof.Rows L2
theorem peImp {X : Cx} {e : Expr} {t t' : TE} (h : PE X e t) (f : ∀ σ H Q, t' σ H Q → t σ H Q) : PE X e t' := ⟨fun pins s σ H Q I q => h.run pins s σ H Q I (f σ H Q q)⟩
theorem ptImp {X : Cx} {e : Expr} {t t' : TT} (h : PT X e t) (f : ∀ σ H Q, t' σ H Q → t σ H Q) : PT X e t' := ⟨fun pins s σ H Q I q => h.run pins s σ H Q I (f σ H Q q)⟩
theorem paImp {X : Cx} {e : List Expr} {t t' : TA} (h : PA X e t) (f : ∀ σ H Q, t' σ H Q → t σ H Q) : PA X e t' := ⟨fun pos pins s σ H Q I q => h.run pos pins s σ H Q I (f σ H Q q)⟩
theorem poImp {X : Cx} {e : Option Expr} {t t' : TO} (h : PO X e t) (f : ∀ σ H Q, t' σ H Q → t σ H Q) : PO X e t' := ⟨fun pins s σ H Q I q => h.run pins s σ H Q I (f σ H Q q)⟩
/-! ### the readings -/
def tD (P : Pm) (c : CE) : TE := fun σ H Q => ∃ Gh O env Qd, SR P Gh O σ H env ∧ wpE P.G c env Qd ∧ Fin P O H Qd Q
def FinT (P : Pm) (H : Hp) (Qd : Bool → Prop) (Q : Bool → Hp → Prop) : Prop := ∀ b H', SameP P.p H H' → PoolOk P.p P.a0 H' → Qd b → Q b H'
def tT (P : Pm) (c : CE) : TT := fun σ H Q => ∃ Gh O env Qd, SR P Gh O σ H env ∧ wpT P.G c env Qd ∧ FinT P H Qd Q
def RRs (P : Pm) (O : Addr → Bool) (H H' : Hp) : List R → List V → Prop
  | [], vs => vs = []
  | r :: rs, vs => ∃ x xs, vs = x :: xs ∧ RR P O H H' r x ∧ RRs P O H H' rs xs
def FinA (P : Pm) (O : Addr → Bool) (H : Hp) (Qd : List R → Prop) (Q : List V → Hp → Prop) : Prop := ∀ rs vs H', SameP P.p H H' → PoolOk P.p P.a0 H' → RRs P O H H' rs vs → Qd rs → Q vs H'
def tAs (P : Pm) (cs : CEs) : TA := fun σ H Q => ∃ Gh O env Qd, SR P Gh O σ H env ∧ wpEs P.G cs env Qd ∧ FinA P O H Qd Q
def FinO (P : Pm) (H : Hp) (Qd : Option Int → Prop) (Q : Option Int → Hp → Prop) : Prop := ∀ o H', SameP P.p H H' → PoolOk P.p P.a0 H' → Qd o → Q o H'
def tPt (P : Pm) (c : CP) : TO := fun σ H Q => ∃ Gh O env Qd, SR P Gh O σ H env ∧ wpP P.G c env Qd ∧ FinO P H Qd Q
section
variable {P : Pm} {O : Addr → Bool} {H H1 H2 : Hp} {Gh : List (D × V)} {σ : L2.St} {env : En}
theorem RRs.mono (hp : O P.p = true) (np : ∀ a, H a = none → a ≠ P.p) (s : SameP P.p H1 H2) : ∀ {rs : List R} {vs : List V}, RRs P O H H1 rs vs → RRs P O H H2 rs vs
  | [], _, h => h
  | r :: rs, _, h => by
    obtain ⟨x, xs, e, h1, h2⟩ := h
    exact ⟨x, xs, e, h1.mono hp np s, RRs.mono hp np s h2⟩
theorem RRs.from (np : ∀ a, H1 a = none → a ≠ P.p) (s : SameP P.p H H1) : ∀ {rs : List R} {vs : List V}, RRs P O H1 H2 rs vs → RRs P O H H2 rs vs
  | [], _, h => h
  | r :: rs, _, h => by
    obtain ⟨x, xs, e, h1, h2⟩ := h
    exact ⟨x, xs, e, h1.from np s, RRs.from np s h2⟩
theorem RRs.esc (tr : ∀ a, O a = true → ∃ o, H a = some o) : ∀ {rs : List R} {vs : List V} {ds : List D}, RRs P O H H1 rs vs → escs rs = some ds → RepL P.K P.p (hid H1 O) ds vs
  | [], _, _, h, e => by
    have e' : [] = _ := Option.some.inj e
    subst e'
    exact h
  | r :: rs, _, ds, h, e => by
    obtain ⟨x, xs, ev, h1, h2⟩ := h
    unfold escs at e
    split at e
    · rename_i d he
      split at e
      · rename_i es hes
        have e' := Option.some.inj e
        subst e'
        exact ⟨x, xs, ev, h1.esc tr he, RRs.esc tr h2 hes⟩
      · cases e
    · cases e
theorem SR.np (S : SR P Gh O σ H env) : ∀ a, H a = none → a ≠ P.p := fun _ h => S.pool.ne h
end
section
variable {X : Cx} {P : Pm} {a b c : Expr} {ca cb cc : CE} {pos : Pos}
/-! ### names, constants -/
theorem pd_var {i : Nat} {x : Str} (hN : X.N[i]? = some x) (hv : Vis X.env.scope x) (hd : (x == ("__debug__" : Str)) = false) (hcd : (x == ("__classdict__" : Str)) = false) : PE X (.Name x pos) (tD P (.var i)) := by
  refine peImp (pe_var hN hv hd hcd) fun σ H Q h => ?_
  obtain ⟨Gh, O, env, Qd, S, w, f⟩ := h
  simp only [wpE] at w
  split at w
  · rename_i d e
    obtain ⟨v, h1, h2⟩ := S.sl i _ e
    exact ⟨v, h1, f (.v d) v H (SameP.refl H) S.pool h2 w⟩
  · rename_i ds e
    obtain ⟨q, vs, h1, h2, h3, h4, h5, h6⟩ := S.sl i _ e
    exact ⟨_, h1, f (.bw ds) _ H (SameP.refl H) S.pool ⟨q, vs, rfl, h3, h4, h5, h2, h6⟩ w⟩
  · rename_i kvs e
    obtain ⟨q, xs, h1, h2, h3, h4, h5, h6⟩ := S.sl i _ e
    exact ⟨_, h1, f (.bd kvs) _ H (SameP.refl H) S.pool ⟨q, xs, rfl, h3, h4, h5, h2, h6⟩ w⟩
  · exact False.elim w
theorem pd_cst {e : Expr} {cc : CE} {v : V} {d : D} (h : PE X e (tC v)) (hw : ∀ G env Q, wpE G cc env Q = Q (.v d)) (hr : ∀ K p H, Rep K p H d v) : PE X e (tD P cc) := by
  refine peImp h fun σ H Q h => ?_
  obtain ⟨Gh, O, env, Qd, S, w, f⟩ := h
  rw [hw] at w
  exact f (.v d) v H (SameP.refl H) S.pool (hr _ _ _) w
theorem pd_glb {k : Nat} {x : Str} {v : V} {u : Value} {d : D} (hg : Gl X x) (hm : X.mg x = some u) (r : RelV v u) (hk : P.G.Γ k = some d) (hr : ∀ H, Rep P.K P.p H d v) (hd : (x == ("__debug__" : Str)) = false) : PE X (.Name x pos) (tD P (.glb k)) := by
  refine peImp (pe_glob hg hm r hd) fun σ H Q h => ?_
  obtain ⟨Gh, O, env, Qd, S, w, f⟩ := h
  simp only [wpE, hk] at w
  exact f (.v d) v H (SameP.refl H) S.pool (hr _) w
/-! ### operators -/
theorem pd_bin {op : Operator} (hK : X.K = P.K) (ha : PE X a (tD P ca)) (hb : PE X b (tD P cb)) : PE X (.BinOp a op b pos) (tD P (.bin op ca cb)) := by
  refine peImp (pe_op (op_binD op hK) ha hb) fun σ H Q h => ?_
  obtain ⟨Gh, O, env, Qd, S, w, f⟩ := h
  refine ⟨Gh, O, env, _, S, w, fun x vx H1 s1 p1 r1 w1 => ⟨Gh, O, env, _, S.mono s1 p1, w1, fun y vy H2 s2 p2 r2 w2 => ?_⟩⟩
  have S2 := (S.mono s1 p1).mono s2 p2
  exact ⟨O, _, _, Qd, S2.oc, (r1.lk S.op S.np).up S.op s2, r2.lk S.op (S.mono s1 p1).np, w2, fun r v H' s p q => f r v H' ((s1.trans s2).trans s) p (q.from S2.np (s1.trans s2))⟩
theorem pd_cmp {op : CmpOp} (hu : X.A.units + 65 < cLine) (hK : X.K = P.K) (hw : X.w = P.w) (ha : PE X a (tD P ca)) (hb : PE X b (tD P cb)) (hm : behindInMarks op b = false) : PE X (.Compare a [op] [b] pos) (tD P (.cmp op ca cb)) := by
  refine peImp (pe_cmpR (op_cmpD op hu hK hw) ha hb hm) fun σ H Q h => ?_
  obtain ⟨Gh, O, env, Qd, S, w, f⟩ := h
  refine ⟨Gh, O, env, _, S, w, fun x vx H1 s1 p1 r1 w1 => ⟨Gh, O, env, _, S.mono s1 p1, w1, fun y vy H2 s2 p2 r2 w2 => ?_⟩⟩
  have S2 := (S.mono s1 p1).mono s2 p2
  exact ⟨O, _, _, _, S2.oc, (r1.lk S.op S.np).up S.op s2, r2.lk S.op (S.mono s1 p1).np, w2, fun t q => f (.v (.bool t)) _ H2 (s1.trans s2) p2 rfl q⟩
theorem pd_cmpT {op : CmpOp} (hu : X.A.units + 65 < cLine) (hK : X.K = P.K) (hw : X.w = P.w) (ha : PE X a (tD P ca)) (hb : PE X b (tD P cb)) (hm : behindInMarks op b = false) : PT X (.Compare a [op] [b] pos) (tT P (.cmp op ca cb)) := by
  refine ptImp (pt_cmpR (op_cmpD op hu hK hw) ha hb hm) fun σ H Q h => ?_
  obtain ⟨Gh, O, env, Qd, S, w, f⟩ := h
  refine ⟨Gh, O, env, _, S, w, fun x vx H1 s1 p1 r1 w1 => ⟨Gh, O, env, _, S.mono s1 p1, w1, fun y vy H2 s2 p2 r2 w2 => ?_⟩⟩
  have S2 := (S.mono s1 p1).mono s2 p2
  exact ⟨O, _, _, _, S2.oc, (r1.lk S.op S.np).up S.op s2, r2.lk S.op (S.mono s1 p1).np, w2, fun t q => ⟨t, rfl, f t H2 (s1.trans s2) p2 q⟩⟩
theorem pd_chn {op op' : CmpOp} (hu : X.A.units + 65 < cLine) (hK : X.K = P.K) (hw : X.w = P.w) (ha : PE X a (tD P ca)) (hb : PE X b (tD P cb)) (hc : PE X c (tD P cc)) (hm : lastMarks [op, op'] [b, c] = false) :
    PE X (.Compare a [op, op'] [b, c] pos) (tD P (.chn op op' ca cb cc)) := by
  refine peImp (pe_chain (op_cmpD op hu hK hw) (op_cmpD op' hu hK hw) ha hb hc hm) fun σ H Q h => ?_
  obtain ⟨Gh, O, env, Qd, S, w, f⟩ := h
  refine ⟨Gh, O, env, _, S, w, fun x vx H1 s1 p1 r1 w1 => ⟨Gh, O, env, _, S.mono s1 p1, w1, fun y vy H2 s2 p2 r2 w2 => ?_⟩⟩
  have S2 := (S.mono s1 p1).mono s2 p2
  refine ⟨O, _, _, _, S2.oc, (r1.lk S.op S.np).up S.op s2, r2.lk S.op (S.mono s1 p1).np, w2, fun t q => ⟨t, rfl, ?_⟩⟩
  cases t with
  | true =>
    exact ⟨Gh, O, env, _, S2, q, fun z vz H3 s3 p3 r3 w3 => ⟨O, _, _, _, (S2.mono s3 p3).oc, (r2.lk S.op (S.mono s1 p1).np).up S.op s3, r3.lk S.op S2.np, w3, fun t q => f (.v (.bool t)) _ H3 ((s1.trans s2).trans s3) p3 rfl q⟩⟩
  | false => exact f (.v (.bool false)) _ H2 (s1.trans s2) p2 rfl q
theorem pd_chnT {op op' : CmpOp} (hu : X.A.units + 65 < cLine) (hK : X.K = P.K) (hw : X.w = P.w) (ha : PE X a (tD P ca)) (hb : PE X b (tD P cb)) (hc : PE X c (tD P cc)) (hm : lastMarks [op, op'] [b, c] = false) :
    PT X (.Compare a [op, op'] [b, c] pos) (tT P (.chn op op' ca cb cc)) := by
  refine ptImp (pt_chain (op_cmpD op hu hK hw) (op_cmpD op' hu hK hw) ha hb hc hm) fun σ H Q h => ?_
  obtain ⟨Gh, O, env, Qd, S, w, f⟩ := h
  refine ⟨Gh, O, env, _, S, w, fun x vx H1 s1 p1 r1 w1 => ⟨Gh, O, env, _, S.mono s1 p1, w1, fun y vy H2 s2 p2 r2 w2 => ?_⟩⟩
  have S2 := (S.mono s1 p1).mono s2 p2
  refine ⟨O, _, _, _, S2.oc, (r1.lk S.op S.np).up S.op s2, r2.lk S.op (S.mono s1 p1).np, w2, fun t q => ⟨t, rfl, ?_⟩⟩
  cases t with
  | true =>
    exact ⟨Gh, O, env, _, S2, q, fun z vz H3 s3 p3 r3 w3 => ⟨O, _, _, _, (S2.mono s3 p3).oc, (r2.lk S.op (S.mono s1 p1).np).up S.op s3, r3.lk S.op S2.np, w3, fun t q => ⟨t, rfl, f t H3 ((s1.trans s2).trans s3) p3 q⟩⟩⟩
  | false => exact ⟨false, rfl, f false H2 (s1.trans s2) p2 q⟩
theorem lk_int {O : Addr → Bool} {H : Hp} {d : D} {v : V} {i : Int} (h : Lk P O H d v) (e : d = .int i) : v = .int i := by
  subst e
  exact h
theorem lk_bool {O : Addr → Bool} {H : Hp} {d : D} {v : V} {i : Bool} (h : Lk P O H d v) (e : d = .bool i) : v = .bl i := by
  subst e
  exact h
theorem pd_neg (ha : PE X a (tD P ca)) : PE X (.UnaryOp .USub a pos) (tD P (.neg ca)) := by
  refine peImp (pe_un un_neg ha) fun σ H Q h => ?_
  obtain ⟨Gh, O, env, Qd, S, w, f⟩ := h
  refine ⟨Gh, O, env, _, S, w, fun x vx H1 s1 p1 r1 w1 => ?_⟩
  split at w1
  · rename_i i e
    exact ⟨i, lk_int (r1.lk S.op S.np) e, f (.v (.int (-i))) _ H1 s1 p1 rfl w1⟩
  · exact False.elim w1
theorem pd_not (ha : PE X a (tD P ca)) : PE X (.UnaryOp .Not a pos) (tD P (.not ca)) := by
  refine peImp (pe_not ha) fun σ H Q h => ?_
  obtain ⟨Gh, O, env, Qd, S, w, f⟩ := h
  refine ⟨Gh, O, env, _, S, w, fun x vx H1 s1 p1 r1 w1 => ?_⟩
  split at w1
  · rename_i i e
    exact ⟨i, lk_bool (r1.lk S.op S.np) e, f (.v (.bool (!i))) _ H1 s1 p1 rfl w1⟩
  · exact False.elim w1
theorem pd_notT (ha : PT X a (tT P ca)) : PT X (.UnaryOp .Not a pos) (tT P (.not ca)) := by
  refine ptImp (pt_not ha) fun σ H Q h => ?_
  obtain ⟨Gh, O, env, Qd, S, w, f⟩ := h
  exact ⟨Gh, O, env, _, S, w, fun b H1 s1 p1 w1 => f (!b) H1 s1 p1 w1⟩
theorem pd_and {rest : List Expr} (ha : PE X a (tD P ca)) (hb : PE X (.BoolOp .And (b :: rest) pos) (tD P cb)) : PE X (.BoolOp .And (a :: b :: rest) pos) (tD P (.and ca cb)) := by
  refine peImp (pe_and ha hb) fun σ H Q h => ?_
  obtain ⟨Gh, O, env, Qd, S, w, f⟩ := h
  refine ⟨Gh, O, env, _, S, w, fun x vx H1 s1 p1 r1 w1 => ?_⟩
  split at w1
  · rename_i t e
    refine ⟨t, lk_bool (r1.lk S.op S.np) e, ?_⟩
    cases t with
    | true => exact ⟨Gh, O, env, _, S.mono s1 p1, w1, fun y vy H2 s2 p2 r2 w2 => f y vy H2 (s1.trans s2) p2 (r2.from (S.mono s1 p1).np s1) w2⟩
    | false => exact f (.v (.bool false)) _ H1 s1 p1 rfl w1
  · exact False.elim w1
theorem pd_or {rest : List Expr} (ha : PE X a (tD P ca)) (hb : PE X (.BoolOp .Or (b :: rest) pos) (tD P cb)) : PE X (.BoolOp .Or (a :: b :: rest) pos) (tD P (.or ca cb)) := by
  refine peImp (pe_or ha hb) fun σ H Q h => ?_
  obtain ⟨Gh, O, env, Qd, S, w, f⟩ := h
  refine ⟨Gh, O, env, _, S, w, fun x vx H1 s1 p1 r1 w1 => ?_⟩
  split at w1
  · rename_i t e
    refine ⟨t, lk_bool (r1.lk S.op S.np) e, ?_⟩
    cases t with
    | false => exact ⟨Gh, O, env, _, S.mono s1 p1, w1, fun y vy H2 s2 p2 r2 w2 => f y vy H2 (s1.trans s2) p2 (r2.from (S.mono s1 p1).np s1) w2⟩
    | true => exact f (.v (.bool true)) _ H1 s1 p1 rfl w1
  · exact False.elim w1
theorem pd_andT {rest : List Expr} (ha : PT X a (tT P ca)) (hb : PW X (.BoolOp .And (b :: rest) pos) (tT P cb)) : PW X (.BoolOp .And (a :: b :: rest) pos) (tT P (.and ca cb)) := by
  refine ⟨fun wh pins s σ H Q I h => (pw_and ha hb).run wh pins s σ H Q I ?_⟩
  obtain ⟨Gh, O, env, Qd, S, w, f⟩ := h
  refine ⟨Gh, O, env, _, S, w, fun t H1 s1 p1 w1 => ?_⟩
  cases t with
  | true => exact ⟨Gh, O, env, _, S.mono s1 p1, w1, fun y H2 s2 p2 w2 => f y H2 (s1.trans s2) p2 w2⟩
  | false => exact f false H1 s1 p1 w1
theorem pd_orT {rest : List Expr} (ha : PT X a (tT P ca)) (hb : PW X (.BoolOp .Or (b :: rest) pos) (tT P cb)) : PW X (.BoolOp .Or (a :: b :: rest) pos) (tT P (.or ca cb)) := by
  refine ⟨fun wh pins s σ H Q I h => (pw_or ha hb).run wh pins s σ H Q I ?_⟩
  obtain ⟨Gh, O, env, Qd, S, w, f⟩ := h
  refine ⟨Gh, O, env, _, S, w, fun t H1 s1 p1 w1 => ?_⟩
  cases t with
  | false => exact ⟨Gh, O, env, _, S.mono s1 p1, w1, fun y H2 s2 p2 w2 => f y H2 (s1.trans s2) p2 w2⟩
  | true => exact f true H1 s1 p1 w1
theorem pd_ite (hc : PT X c (tT P cc)) (ha : PE X a (tD P ca)) (hb : PE X b (tD P cb)) : PE X (.IfExp c a b pos) (tD P (.ite cc ca cb)) := by
  refine peImp (pe_ifExp hc ha hb) fun σ H Q h => ?_
  obtain ⟨Gh, O, env, Qd, S, w, f⟩ := h
  refine ⟨Gh, O, env, _, S, w, fun t H1 s1 p1 w1 => ?_⟩
  have g : Fin P O H1 Qd Q := fun y vy H2 s2 p2 r2 w2 => f y vy H2 (s1.trans s2) p2 (r2.from (S.mono s1 p1).np s1) w2
  cases t with
  | true => exact ⟨Gh, O, env, _, S.mono s1 p1, w1, g⟩
  | false => exact ⟨Gh, O, env, _, S.mono s1 p1, w1, g⟩
/-! ### lists of expressions, displays -/
theorem pd_nil : PA X [] (tAs P .nil) := by
  refine paImp pa_nil fun σ H Q h => ?_
  obtain ⟨Gh, O, env, Qd, S, w, f⟩ := h
  exact f [] [] H (SameP.refl H) S.pool rfl w
theorem pd_cons {es : List Expr} {cs : CEs} (ha : PE X a (tD P ca)) (hr : PA X es (tAs P cs)) (hs : starEach (a :: es) X.env = (false, eval a X.env) :: starEach es X.env) : PA X (a :: es) (tAs P (.cons ca cs)) := by
  refine paImp (pa_cons ha hr hs) fun σ H Q h => ?_
  obtain ⟨Gh, O, env, Qd, S, w, f⟩ := h
  refine ⟨Gh, O, env, _, S, w, fun x vx H1 s1 p1 r1 w1 => ⟨Gh, O, env, _, S.mono s1 p1, w1, fun rs vs H2 s2 p2 r2 w2 => ?_⟩⟩
  exact f (x :: rs) (vx :: vs) H2 (s1.trans s2) p2 ⟨vx, vs, rfl, r1.mono S.op S.np s2, r2.from (S.mono s1 p1).np s1⟩ w2
theorem pd_tup {es : List Expr} {cs : CEs} {x1} (h : PA X es (tAs P cs)) : PE X (.Tuple es x1 pos) (tD P (.tup cs)) := by
  refine peImp (pe_tupF h) fun σ H Q h => ?_
  obtain ⟨Gh, O, env, Qd, S, w, f⟩ := h
  refine ⟨Gh, O, env, _, S, w, fun rs vs H1 s1 p1 r1 w1 => ?_⟩
  split at w1
  · rename_i ds e
    have r := r1.esc S.trk e
    have S1 := S.mono s1 p1
    exact ⟨by rw [r.length]; exact w1.1, fun q o hq d => f _ _ _ (s1.trans (SameP.new hq)) (p1.new hq) ((RR.newT S1.oc hq d r).from S1.np s1) w1.2⟩
  · exact False.elim w1
theorem pd_lst {es : List Expr} {cs : CEs} (h : PA X es (tAs P cs)) : PE X (.List es pos) (tD P (.lst cs)) := by
  refine peImp (pe_lst h) fun σ H Q h => ?_
  obtain ⟨Gh, O, env, Qd, S, w, f⟩ := h
  refine ⟨Gh, O, env, _, S, w, fun rs vs H1 s1 p1 r1 w1 => ?_⟩
  split at w1
  · rename_i ds e
    have r := r1.esc S.trk e
    have S1 := S.mono s1 p1
    refine ⟨by rw [r.length]; exact w1.1, fun q hq => ?_⟩
    exact f _ _ _ (s1.trans (SameP.new hq)) (p1.new hq) ((RR.new S1.oc hq r).from S1.np s1) w1.2
  · exact False.elim w1
/-! ### places, slices -/
theorem pd_ix (hu : X.A.units + 65 < cLine) (hK : X.K = P.K) (hw : X.w = P.w) (ha : PE X a (tD P ca)) (hb : PE X b (tD P cb)) (hs : PlainIx b) : PE X (.Subscript a b pos) (tD P (.ix ca cb)) := by
  refine peImp (pe_ix (ix_D hu hK hw) ha hb hs) fun σ H Q h => ?_
  obtain ⟨Gh, O, env, Qd, S, w, f⟩ := h
  refine ⟨Gh, O, env, _, S, w, fun x vx H1 s1 p1 r1 w1 => ⟨Gh, O, env, _, S.mono s1 p1, w1, fun y vy H2 s2 p2 r2 w2 => ?_⟩⟩
  have S2 := (S.mono s1 p1).mono s2 p2
  exact ⟨O, _, _, Qd, S2.oc, (r1.lk S.op S.np).up S.op s2, r2.lk S.op (S.mono s1 p1).np, w2, fun r v H' s p q => f r v H' ((s1.trans s2).trans s) p (q.from S2.np (s1.trans s2))⟩
theorem pd_no : PO X none (tPt P .no) := by
  refine poImp po_none fun σ H Q h => ?_
  obtain ⟨Gh, O, env, Qd, S, w, f⟩ := h
  exact f none H (SameP.refl H) S.pool w
theorem pd_some (ha : PE X a (tD P ca)) : PO X (some a) (tPt P (.some ca)) := by
  refine poImp (po_some ha) fun σ H Q h => ?_
  obtain ⟨Gh, O, env, Qd, S, w, f⟩ := h
  refine ⟨Gh, O, env, _, S, w, fun x vx H1 s1 p1 r1 w1 => ?_⟩
  split at w1
  · rename_i i e
    exact ⟨i, lk_int (r1.lk S.op S.np) e, f (some i) H1 s1 p1 w1⟩
  · exact False.elim w1
theorem pd_sl {lo hi : Option Expr} {cl ch : CP} {p2 : Pos} (hK : X.K = P.K) (ha : PE X a (tD P ca)) (hl : PO X lo (tPt P cl)) (hh : PO X hi (tPt P ch)) : PE X (.Subscript a (.Slice lo hi none p2) pos) (tD P (.sl ca cl ch)) := by
  refine peImp (pe_slice (sl_D hK) ha hl hh) fun σ H Q h => ?_
  obtain ⟨Gh, O, env, Qd, S, w, f⟩ := h
  refine ⟨Gh, O, env, _, S, w, fun x vx H1 s1 p1 r1 w1 => ⟨Gh, O, env, _, S.mono s1 p1, w1, fun l H2 s2 p2 w2 => ⟨Gh, O, env, _, (S.mono s1 p1).mono s2 p2, w2, fun u H3 s3 p3 w3 => ?_⟩⟩⟩
  have S3 := ((S.mono s1 p1).mono s2 p2).mono s3 p3
  exact ⟨O, _, Qd, S3.oc, ((r1.lk S.op S.np).up S.op s2).up S.op s3, w3, fun r v H' s p q => f r v H' (((s1.trans s2).trans s3).trans s) p (q.from S3.np ((s1.trans s2).trans s3))⟩
theorem pd_join {ap cp : Pos} (hK : X.K = P.K) (ha : PE X a (tD P ca)) (hb : PE X b (tD P cb)) (hbase : attributeBase a "join" X.env (eval a X.env) = eval a X.env) (hs : starEach [b] X.env = (false, eval b X.env) :: starEach [] X.env) (hl : (ap.endLine == cp.line) = true) :
    PE X (.Call (.Attribute a "join" ap) [b] [] cp) (tD P (.join ca cb)) := by
  have hf : ((backTo cp (starEach [b] X.env)).all (fun x => !x.1) && (backToKw cp (keywordEach [] X.env)).all (fun x => x.1.isSome) && decide ([b].length + ([] : List Keyword).length + (if ([] : List Keyword).isEmpty then 0 else 1) < 30)) = true := by
    rw [hs]
    rfl
  refine peImp (pe_bm PySem.F.plainAttrs_str PySem.F.slot_str_join PySem.F.type_str_join mt_join ha (pa_cons hb pa_nil hs) hbase hf hl hs rfl) fun σ H Q h => ?_
  obtain ⟨Gh, O, env, Qd, S, w, f⟩ := h
  refine ⟨Gh, O, env, _, S, w, fun x vx H1 s1 p1 r1 w1 => ?_⟩
  have S1 := S.mono s1 p1
  have lx := r1.lk S.op S.np
  cases ex : x.d with
  | str z =>
    rw [ex] at lx w1
    obtain rfl : vx = .str z := lx
    refine ⟨rfl, Gh, O, env, _, S1, w1, fun y vy H2 s2 p2 r2 w2 => ?_⟩
    have S2 := S1.mono s2 p2
    have ly := r2.lk S.op S1.np
    cases ey : y.d with
    | list ds =>
      rw [ey] at ly w2
      obtain ⟨ad, vs, rfl, n, h1, h2⟩ := ly
      simp only at w2
      split at w2
      · rename_i ys e
        rw [h2.strs e] at h1
        exact ⟨z, ad, ys, rfl, rfl, .inl (SqL.of h1), w2.1, f (.v (.str _)) _ H2 (s1.trans s2) p2 rfl w2.2⟩
      · exact False.elim w2
    | _ => rw [ey] at w2; exact False.elim w2
  | _ => rw [ex] at w1; exact False.elim w1
theorem pd_rev {k : Nat} {p1 p2 p3 : Pos} (hK : X.K = P.K) (ha : PE X a (tD P ca)) : PE X (.Subscript a (.Slice none none (some (.UnaryOp .USub (.Constant (.int 1) k p1) p2)) p3) pos) (tD P (.rev ca)) := by
  refine peImp (pe_revA ha) fun σ H Q h => ?_
  obtain ⟨Gh, O, env, Qd, S, w, f⟩ := h
  refine ⟨Gh, O, env, _, S, w, fun x vx H1 s1 p1 r1 w1 => ?_⟩
  have S1 := S.mono s1 p1
  have lx := r1.lk S.op S.np
  split at w1
  · rename_i ds e
    rw [e] at lx
    obtain ⟨ad, vs, rfl, n, h1, h2⟩ := lx
    exact .inl ⟨ad, vs, rfl, SqL.of h1, fun q hq => f _ _ _ (s1.trans (SameP.new hq)) (p1.new hq) ((RR.new S1.oc hq h2.reverse).from S1.np s1) w1⟩
  · rename_i ds e
    rw [e] at lx
    obtain ⟨ad, vs, rfl, h1, _, h2⟩ := lx.tup
    exact .inr ⟨ad, vs, rfl, by rw [hK]; exact h1, fun q o hq d => f _ _ _ (s1.trans (SameP.new hq)) (p1.new hq) ((RR.newT S1.oc hq d h2.reverse).from S1.np s1) w1⟩
  · exact False.elim w1
theorem dt_empty' {h : Heap} {w : World} (hb : sysModules < h.objs.size) : DtIs w h.objs.size [] (h.push { cls := .type "dict", data := .dict #[] }) :=
  ⟨beq_eq_false_iff_ne.mpr (Ne.symm (Nat.ne_of_lt hb)), Nat.zero_le _, _, Heap.get?_push_size _ rfl, ⟨rfl, rfl, rfl⟩, ⟨#[], 0, rfl, rfl⟩, List.nodup_nil⟩
theorem RR.newX {H : Hp} {O : Addr → Bool} {a : Addr} (h : H a = none) : RR P O H (upd H a (dtO P.w a [])) (.nd []) (.ref a) := ⟨a, [], rfl, h, upd_same, rfl⟩
theorem pd_dnil (hw : X.w = P.w) : PE X (.Dict [] [] pos) (tD P .dnil) := by
  refine ⟨fun pins s σ H Q I h => ?_⟩
  obtain ⟨Gh, O, env, Qd, S, w, f⟩ := h
  simp only [wpE] at w
  rcases w with w | w
  · exact pe_dnewK.run pins s σ H Q I fun q hq => f (.v (.dict [])) _ _ (SameP.new hq) (S.pool.new hq) (RR.newD S.oc hq (kvs := []) (ks := []) rfl) w
  · refine wpAny_Dict_empty ⟨.ref s.heap.objs.size, _, I.laid (a := s.heap.objs.size) (o := dtO P.w s.heap.objs.size []) (t' := s.toks) (fun _ _ q => Heap.get?_push_of_some _ q) (Nat.le_refl _) (dtO_ok (dt_empty' I.big)), rfl, ?_⟩
    have hq := I.hok.fresh (Nat.le_refl s.heap.objs.size)
    exact f (.nd []) _ _ (SameP.new hq) (S.pool.new hq) (RR.newX hq) w
theorem pd_dset {k v : Expr} {ck cv : CE} (hu : X.A.units + 65 < cLine) (hK : X.K = P.K) (hw : X.w = P.w) (hk : PE X k (tD P ck)) (hv : PE X v (tD P cv)) : PE X (.Dict [some k] [v] pos) (tD P (.dset ck cv)) := by
  refine ⟨fun pins s σ H Q I h => ?_⟩
  obtain ⟨Gh, O, env, Qd, S, w, f⟩ := h
  simp only [wpE] at w
  have hn := I.hok.fresh (Nat.le_refl s.heap.objs.size)
  have I1 := I.laid (a := s.heap.objs.size) (o := dtO X.w s.heap.objs.size []) (h' := s.heap.push { cls := .type "dict", data := .dict #[] }) (t' := s.toks) (fun _ _ q => Heap.get?_push_of_some _ q) (Nat.le_refl _) (dtO_ok (dt_empty' I.big))
  have S1 : SR P Gh (addO O s.heap.objs.size) σ (upd H s.heap.objs.size (dtO X.w s.heap.objs.size [])) env := S.hide hn (SameP.new hn) (S.pool.new hn) ⟨_, upd_same⟩
  have np : s.heap.objs.size ≠ P.p := S.np _ hn
  rw [arm_eval_Dict, zip_pairTrees [some k] [v] X.env pos rfl rfl, dictDisplay_pairs _ (by exact List.cons_ne_nil _ _) (by show 1 < _; omega)]
  refine wpAny_bind (wpAny_standAt (wpAny_bind (wpAny_subDictH (knd := nestedKind X.prog X.w) (Q := fun d s' => wpAny (model X.prog X.w) X.A (pure (Value.ref d)) (EP X pins σ Q) X.xe s') (show X.A.units + 8 < cLine by omega) (by show 1 ≤ 15; omega) ?_)))
  refine thn ((pps_cons hk hv pps_nil : PPs X pos [some k] [v] [(tD P ck, tD P cv)]).run pins _ σ _ (fun ps H' => ∃ y z kd d, ps = [(y, z)] ∧ SameP P.p (upd H s.heap.objs.size (dtO X.w s.heap.objs.size [])) H' ∧ PoolOk P.p P.a0 H' ∧ keyOk kd = true ∧ Rep P.K P.p (hid H' (addO O s.heap.objs.size)) kd y ∧ Rep P.K P.p (hid H' (addO O s.heap.objs.size)) d z ∧ Qd (.nd [(kd, d)])) I1
    ⟨Gh, _, env, _, S1, w, fun r y H2 s2 p2 r2 w2 => ⟨Gh, _, env, _, S1.mono s2 p2, w2, fun r' z H3 s3 p3 r3 w3 => ?_⟩⟩) fun ws s2 ⟨ps, H2, I2, rel, y, z, kd, d, ep, s12, p2, ok, rk, rd, q⟩ => ?_
  · split at w3
    · rename_i d e
      exact ⟨y, z, r.d, d, rfl, s2.trans s3, p3, w3.1, ((r2.lk S1.op S1.np).up S1.op s3).rep w3.1, r3.esc (S1.mono s2 p2).trk e, w3.2⟩
    · exact False.elim w3
  · subst ep
    cases rel with
    | @cons pp qq _ _ h1 h2 =>
      cases h2
      obtain ⟨qa, qb⟩ := qq
      obtain ⟨ry, rz⟩ := h1
      obtain ⟨kk, b, e1, e2, e3, hkey⟩ := dt_key hid_in hK I2 ok rk ry
      have hd : H2 s.heap.objs.size = some (dtO X.w s.heap.objs.size []) := s12 _ _ np upd_same
      have dd := dt_of_H (P := P) (kvs := []) (Hh := H2) (fun _ _ q => q) hK I2 hd rfl
      obtain ⟨lo, _, _⟩ := dt_is I2 hd
      refine ⟨[(kk, b, qb)], ⟨e3, rfl, hkey, trivial⟩, dd, fun h' tk dd' hs => wpAny_pure ?_⟩
      obtain ⟨o, es, ep, ho, hx, hdt, he, _, hnd⟩ := dd'
      refine ⟨.ref s.heap.objs.size, upd H2 s.heap.objs.size (dtO X.w s.heap.objs.size [(kk, b, qb)]), d_write I2 (by rw [hd]; exact True.intro) hs ⟨o, ho⟩ (dtO_ok ⟨lo, by show 1 ≤ sizeLine; rw [sizeLine_eq]; omega, o, ho, hx, ⟨es, ep, hdt, he⟩, hnd⟩), rfl, ?_⟩
      have sN : SameP P.p H (upd H2 s.heap.objs.size (dtO X.w s.heap.objs.size [(kk, b, qb)])) := fun c oc nc ec => by
        rw [upd_ne fun z => by rw [z, hn] at ec; cases ec]
        exact s12 c oc nc (by rw [upd_ne fun z => by rw [z, hn] at ec; cases ec]; exact ec)
      have pN : PoolOk P.p P.a0 (upd H2 s.heap.objs.size (dtO X.w s.heap.objs.size [(kk, b, qb)])) := by
        obtain ⟨k, m, c, z, q, ⟨ns, l, q0⟩, rr⟩ := p2
        obtain ⟨_, _, _, _, _, ⟨ns', _, qq0⟩, _⟩ := S.pool
        refine ⟨k, m, c, z, by rw [upd_ne np.symm]; exact q, ⟨ns, l, ?_⟩, rr⟩
        rw [upd_ne fun y => by rw [y, hn] at qq0; cases qq0]
        exact q0
      have oa : addO O s.heap.objs.size s.heap.objs.size = true := by unfold addO; simp
      subst e2
      refine f (.nd [(kd, d)]) _ _ sN pN ⟨s.heap.objs.size, [(kk, b, qb)], rfl, hn, by rw [upd_same, hw], ?_⟩ q
      rw [hid_upd oa]
      exact ⟨kk, b, qb, [], z, rfl, e1, ok, rk, rz, rd, rfl⟩
theorem pd_idx {ap cp : Pos} (hu : X.A.units + 65 < cLine) (hK : X.K = P.K) (ha : PE X a (tD P ca)) (hb : PE X b (tD P cb)) (hbase : attributeBase a "index" X.env (eval a X.env) = eval a X.env) (hs : starEach [b] X.env = (false, eval b X.env) :: starEach [] X.env) (hl : (ap.endLine == cp.line) = true) :
    PE X (.Call (.Attribute a "index" ap) [b] [] cp) (tD P (.idx ca cb)) := by
  have hf : ((backTo cp (starEach [b] X.env)).all (fun x => !x.1) && (backToKw cp (keywordEach [] X.env)).all (fun x => x.1.isSome) && decide ([b].length + ([] : List Keyword).length + (if ([] : List Keyword).isEmpty then 0 else 1) < 30)) = true := by
    rw [hs]
    rfl
  refine peImp (pe_bm PySem.F.plainAttrs_list PySem.F.slot_list_index PySem.F.type_list_index (mt_indexD hu) ha (pa_cons hb pa_nil hs) hbase hf hl hs rfl) fun σ H Q h => ?_
  obtain ⟨Gh, O, env, Qd, S, w, f⟩ := h
  refine ⟨Gh, O, env, _, S, w, fun x vx H1 s1 p1 r1 w1 => ?_⟩
  have S1 := S.mono s1 p1
  have lx := r1.lk S.op S.np
  cases ex : x.d with
  | list ds =>
    rw [ex] at lx w1
    obtain ⟨q, vs, rfl, n, h1, h2⟩ := id lx
    refine ⟨.inl ⟨rfl, vs, SqL.of h1⟩, Gh, O, env, _, S1, w1, fun y vy H2 s2 p2 r2 w2 => ?_⟩
    obtain ⟨sl, sd, j, ⟨z, hz, hzj⟩, hno, w3⟩ := w2
    have S2 := S1.mono s2 p2
    exact ⟨q, vy, y.d, ds, j, z, rfl, rfl, by rw [hK]; exact (lx.up S.op s2).dp (SeqAt.canLay_of_shaped sl), by rw [hK]; exact (r2.lk S1.op S1.np).dp (SeqAt.canLay_of_shaped sd), sl, sd, hz, hzj, fun m z' => hno m z', f (.v (.int j)) _ H2 (s1.trans s2) p2 rfl w3⟩
  | _ =>
    rw [ex] at w1
    exact False.elim w1
theorem pd_dget {m : Str} {ap cp : Pos} {c : Expr} {cc : CE} (hu : X.A.units + 65 < cLine) (ha : PE X a (tD P ca)) (hb : PE X b (tD P cb)) (hc : PE X c (tD P cc)) (m : M2 X a "get" ap b c cp) : PE X (.Call (.Attribute a "get" ap) [b, c] [] cp) (tD P (.dget ca cb cc)) := by
  refine peImp (pe_dget2 (by omega) ha hb hc m) fun σ H Q h => ?_
  obtain ⟨Gh, O, env, Qd, S, w, f⟩ := h
  refine ⟨Gh, O, env, _, S, w, fun r v H1 s1 p1 r1 w1 => ?_⟩
  have S1 := S.mono s1 p1
  have lx := r1.lk S.op S.np
  split at w1
  · rename_i kvs e
    rw [e] at lx
    obtain ⟨n, w1⟩ := w1
    obtain ⟨ad, ks, rfl, h1, h2⟩ := lx.dict n
    refine ⟨ad, rfl, .inl ⟨ks, .inl h1⟩, Gh, O, env, _, S1, w1, fun r' v' H2 s2 p2 r2 w2 => ?_⟩
    have S2 := S1.mono s2 p2
    refine ⟨Gh, O, env, _, S2, w2, fun r'' v'' H3 s3 p3 r3 w3 => ?_⟩
    have S3 := S2.mono s3 p3
    have ne : ad ≠ P.p := fun z => by
      obtain ⟨_, _, _, _, q, _⟩ := p1
      rw [z, q] at h1
      cases h1
    have h3 : H3 ad = some (.dK ks) := s3 _ _ ne (s2 _ _ ne h1)
    have R3 : RepKV P.K P.p (hid H3 O) kvs ks := RepKV.mono (hid_same S.op (s2.trans s3)) h2
    split at w3
    · rename_i zd ez
      obtain ⟨w3, w4⟩ := w3
      obtain ⟨kk, ek, rfl⟩ := (r2.lk S.op S1.np).key w3
      refine ⟨_, DGet.k h3, ?_⟩
      rw [ek] at w4
      rcases R3.get kk with ⟨e1, e2⟩ | ⟨d, z, e1, e2, rz⟩
      · rw [e1] at w4
        rw [e2]
        exact f (.v zd) _ H3 ((s1.trans s2).trans s3) p3 (r3.esc S2.trk ez) w4
      · rw [e1] at w4
        rw [e2]
        exact f (.v d) _ H3 ((s1.trans s2).trans s3) p3 rz w4
    · exact False.elim w3
  · exact False.elim w1
/-! ### calls -/
/-- a def's promise over data -/
def RRc (K : PySem.W.Frag) (p : Addr) (O : Addr → Bool) (H H' : Hp) : R → V → Prop
  | .v d, v => Rep K p (hid H' O) d v
  | .nw ds, v => ∃ a vs, v = .ref a ∧ H a = none ∧ H' a = some (.lst vs) ∧ RepL K p (hid H' (addO O a)) ds vs
  | _, _ => False
def lift (K : PySem.W.Frag) (p a0 : Addr) (sp : SpD) : Sp := fun vs H Q _ => ∃ ds O Qd, O p = true ∧ PoolOk p a0 H ∧ (∀ a, O a = true → ∃ o, H a = some o) ∧ RepL K p (hid H O) ds vs ∧ sp ds Qd ∧
  ∀ r v H', SameP p H H' → PoolOk p a0 H' → RRc K p O H H' r v → Qd r → Q v H'
theorem RRc.rr {O : Addr → Bool} {H H' : Hp} {r : R} {v : V} (h : RRc P.K P.p O H H' r v) : RR P O H H' r v := by
  cases r with
  | v d => exact h
  | nw d => exact h
  | bw d => exact False.elim h
  | nd d => exact False.elim h
  | bd d => exact False.elim h
/-- where a def of data is called -/
def CallF (P : Pm) (X : Cx) (x : Str) (sp : SpD) : Prop :=
  ∃ f fd ps lvl, X.mg x = some (.ref f) ∧ PySem.W.keepIn X.K (.ref f) = true ∧ Binds X.K fd ps [] ∧ FnOk X.prog X.w X.K X.mg X.base CX0 lvl f fd ps (lift P.K P.p P.a0 sp) ∧ Room lvl X.A
/-- a def, or repr where it may be asked -/
def CallD (P : Pm) (X : Cx) (x : Str) (sp : SpD) : Prop := CallF P X x sp ∨ (x = "repr" ∧ X.mg "repr" = none ∧ X.A.guards = some [] ∧ X.A.units + 100 < cLine ∧ sp = spRepr)
theorem boot_repr : bootBuiltins "repr" = some (.builtin "repr") := by decide +kernel
theorem pd_repr {k : Nat} {p0 : Pos} (hK : X.K = P.K) (hg : Gl X "repr") (hm : X.mg "repr" = none) (hgd : X.A.guards = some []) (hu : X.A.units + 100 < cLine) (hk : P.G.Φ k = some spRepr) (ha : PE X a (tD P ca))
    (hs : starEach [a] X.env = (false, eval a X.env) :: starEach [] X.env) : PE X (.Call (.Name "repr" p0) [a] [] pos) (tD P (.call k (.cons ca .nil))) := by
  refine peImp (pe_callB (cr_repr (P := P) hK hgd hu) hg hm boot_repr (pa_cons ha pa_nil hs) (by decide) (by decide) hs rfl) fun σ H Q h => ?_
  obtain ⟨Gh, O, env, Qd, S, w, f⟩ := h
  simp only [wpE, wpEs] at w
  refine ⟨Gh, O, env, _, S, w, fun x vx H1 s1 p1 r1 w1 => ?_⟩
  have S1 := S.mono s1 p1
  rw [hk] at w1
  cases e : x.esc with
  | none =>
    simp only [escs, e] at w1
  | some d =>
    simp only [escs, e] at w1
    obtain ⟨d', e', ok, q⟩ := w1
    cases e'
    exact ⟨O, d, vx, Qd, rfl, S1.oc, Rep.lk S1.op (r1.esc S.trk e), ok, q, fun r v H' s p q => f r v H' (s1.trans s) p (q.from S1.np s1)⟩
theorem pd_call {k : Nat} {sp : SpD} {x : Str} {p0 : Pos} {es : List Expr} {cs : CEs} (hx : CallF P X x sp) (hk : P.G.Φ k = some sp) (hg : Gl X x) (ha : PA X (a :: es) (tAs P cs)) (hdb : (x == ("__debug__" : Str)) = false)
    (he : starEach (a :: es) X.env = (false, eval a X.env) :: starEach es X.env) (hpl : (backTo pos (starEach es X.env)).any (·.1) = false) : PE X (.Call (.Name x p0) (a :: es) [] pos) (tD P (.call k cs)) := by
  obtain ⟨fn, fd, ps, lvl, m, kp, bd, F, rm⟩ := hx
  refine peImp (pe_call F rm hg m kp bd .nil pass0 ha hdb he hpl) fun σ H Q h => ?_
  obtain ⟨Gh, O, env, Qd, S, w, f⟩ := h
  refine ⟨Gh, O, env, _, S, w, fun rs vs H1 s1 p1 r1 w1 => ?_⟩
  rw [hk] at w1
  split at w1
  · rename_i ds sp' e1 e2
    have e2' := Option.some.inj e2
    subst e2'
    have S1 := S.mono s1 p1
    rw [List.append_nil]
    exact ⟨ds, O, Qd, S.op, p1, S1.trk, r1.esc S.trk e1, w1, fun r v H' s p q => f r v H' (s1.trans s) p (q.rr.from S1.np s1)⟩
  · exact False.elim w1
theorem pd_call0 {k : Nat} {sp : SpD} {x : Str} {p0 : Pos} (hx : CallF P X x sp) (hk : P.G.Φ k = some sp) (hg : Gl X x) (hdb : (x == ("__debug__" : Str)) = false) : PE X (.Call (.Name x p0) [] [] pos) (tD P (.call k .nil)) := by
  obtain ⟨fn, fd, ps, lvl, m, kp, bd, F, rm⟩ := hx
  refine peImp (pe_call0 F rm hg m kp bd .nil pass0 hdb) fun σ H Q h => ?_
  obtain ⟨Gh, O, env, Qd, S, w, f⟩ := h
  simp only [wpE, wpEs, escs] at w
  rw [hk] at w
  exact ⟨[], O, Qd, S.op, S.pool, S.trk, rfl, w, fun r v H' s p q => f r v H' s p q.rr⟩
theorem cr_range1 : CallR X (.type "range") (fun vs H Q => ∃ j : Int, vs = [V.int j] ∧ ∀ p, H p = none → Q (.ref p) (upd H p (.rng 0 j))) := by
  intro pins s σ H vs us Q I r h
  obtain ⟨j, rfl, q⟩ := h
  cases r with
  | cons r rr =>
    cases rr
    obtain ⟨t, rfl⟩ := r
    refine call_range_1 ?_
    refine ⟨.ref s.heap.objs.size, upd H s.heap.objs.size (.rng 0 j), ?_, rfl, q _ (I.hok.fresh (Nat.le_refl _))⟩
    refine I.laid (t' := _) (fun b o e => Heap.get?_push_of_some _ e) (Nat.le_refl _) ?_
    exact ⟨_, _, _, Heap.get?_push_size _ rfl⟩
theorem pd_rng {p0 : Pos} (hg : Gl X "range") (hm : X.mg "range" = none) (ha : PE X a (tD P ca)) (hs : starEach [a] X.env = (false, eval a X.env) :: starEach [] X.env) : PE X (.Call (.Name "range" p0) [a] [] pos) (tD P (.rng ca)) :=
  peImp (pe_callTy cr_range1 hg hm boot_range (pa_cons ha pa_nil hs) (by decide) (by decide) hs rfl) fun σ H Q h => by
    obtain ⟨Gh, O, env, Qd, S, w, f⟩ := h
    refine ⟨Gh, O, env, _, S, w, fun r v H1 s1 p1 r1 w1 => ?_⟩
    have S1 := S.mono s1 p1
    split at w1
    · rename_i j e
      refine ⟨j, by rw [lk_int (r1.lk S.op S.np) e], fun q hq => ?_⟩
      refine f (.v (.dict [(.none, .int j)])) _ _ (s1.trans (SameP.new hq)) (p1.new hq) ?_ w1.2
      exact .inr (.inr ⟨q, j, rfl, rfl, hid_of upd_same (S1.oc.out hq), w1.1.1, w1.1.2⟩)
    · exact False.elim w1
theorem pd_b1 {g : BF} {x : Str} {p0 : Pos} (hc : X.calm = true) (hu : X.A.units + 65 < cLine) (hK : X.K = P.K) (hw : X.w = P.w) (hg : Gl X x) (hm : X.mg x = none) (hv : bootBuiltins x = some g.id) (ha : PE X a (tD P ca)) (hn : x ≠ "__name__") (hdb : (x == ("__debug__" : Str)) = false)
    (hs : starEach [a] X.env = (false, eval a X.env) :: starEach [] X.env) : PE X (.Call (.Name x p0) [a] [] pos) (tD P (.b1 g ca)) := by
  have pa : PA X [a] (tCons (tD P ca) tNil) := pa_cons ha pa_nil hs
  have fin : ∀ σ H Q, tD P (.b1 g ca) σ H Q → tCB (rB1 P g) (tCons (tD P ca) tNil) σ H Q := fun σ H Q h => by
    obtain ⟨Gh, O, env, Qd, S, w, f⟩ := h
    refine ⟨Gh, O, env, _, S, w, fun x vx H1 s1 p1 r1 w1 => ?_⟩
    have S1 := S.mono s1 p1
    exact ⟨O, _, vx, Qd, rfl, S1.oc, r1.lk S.op S.np, w1, fun r v H' s p q => f r v H' (s1.trans s) p (q.from S1.np s1)⟩
  have cr := call_b1 (X := X) (P := P) g hc hu hK hw
  cases g with
  | len => exact peImp (pe_callB cr hg hm hv pa hn hdb hs rfl) fin
  | int => exact peImp (pe_callTy cr hg hm hv pa hn hdb hs rfl) fin
  | tuple => exact peImp (pe_callTy cr hg hm hv pa hn hdb hs rfl) fin
  | list => exact peImp (pe_callTy cr hg hm hv pa hn hdb hs rfl) fin
  | sum => exact peImp (pe_callB cr hg hm hv pa hn hdb hs rfl) fin
  | all => exact peImp (pe_callB cr hg hm hv pa hn hdb hs rfl) fin
  | any => exact peImp (pe_callB cr hg hm hv pa hn hdb hs rfl) fin
  | sorted => exact peImp (pe_callB cr hg hm hv pa hn hdb hs rfl) fin
  | dict => exact peImp (pe_callTy cr hg hm hv pa hn hdb hs rfl) fin
  | str => exact peImp (pe_callTy cr hg hm hv pa hn hdb hs rfl) fin
theorem rep_rg {K : PySem.W.Frag} {p : Addr} {H : Hp} (lo hi : Int) : RepL K p H (rngD lo (hi - lo).toNat) (rgV lo hi) := by
  have key : ∀ l : List Nat, RepL K p H (l.map fun (i : Nat) => PyData.int (lo + (i : Int))) (l.map fun (i : Nat) => V.int (lo + (i : Nat))) := fun l => by
    induction l with
    | nil => exact rfl
    | cons a l ih => exact ⟨_, _, rfl, rfl, ih⟩
  exact key _
theorem pd_rgl1 {t : Bool} {x y : Str} {p0 p1 p2 : Pos} (hs1 : starEach [.Call (.Name "range" p1) [a] [] p2] X.env = (false, eval (.Call (.Name "range" p1) [a] [] p2) X.env) :: starEach [] X.env) (hc : X.calm = true) (ht : x = (if t = true then "tuple" else "list")) (hx : Gl X x) (hxm : X.mg x = none) (hg : Gl X "range") (hm : X.mg "range" = none) (ha : PE X a (tD P ca)) (hs : starEach [a] X.env = (false, eval a X.env) :: starEach [] X.env) :
    PE X (.Call (.Name x p0) [.Call (.Name "range" p1) [a] [] p2] [] pos) (tD P (.rgl1 t ca)) := by
  have rg := prg_1 (p := p1) (pos := p2) hg hm ha hs
  cases t with
  | true =>
    subst ht
    refine peImp (pe_tupRgF hc hx hxm rg hs1) fun σ H Q h => ?_
    obtain ⟨Gh, O, env, Qd, S, w, f⟩ := h
    refine ⟨Gh, O, env, _, S, w, fun r v H1 s1 p1 r1 w1 => ?_⟩
    split at w1
    · rename_i j e
      obtain ⟨⟨w1, w2⟩, w3⟩ := w1
      have S1 := S.mono s1 p1
      refine ⟨j, lk_int (r1.lk S.op S.np) e, ⟨by decide, by decide, w1, by omega, by omega⟩, fun q o hq d => f _ _ _ (s1.trans (SameP.new hq)) (p1.new hq) ((RR.newT S1.oc hq d (rep_rg 0 j)).from S1.np s1) ?_⟩
      rw [Int.sub_zero]
      exact w3
    · exact False.elim w1
  | false =>
    subst ht
    refine peImp (pe_listRg hc hx hxm rg) fun σ H Q h => ?_
    obtain ⟨Gh, O, env, Qd, S, w, f⟩ := h
    refine ⟨Gh, O, env, _, S, w, fun r v H1 s1 p1 r1 w1 => ?_⟩
    split at w1
    · rename_i j e
      obtain ⟨⟨w1, w2⟩, w3⟩ := w1
      have S1 := S.mono s1 p1
      refine ⟨j, lk_int (r1.lk S.op S.np) e, ⟨by decide, by decide, w1, by omega, by omega⟩, fun q hq => f _ _ _ (s1.trans (SameP.new hq)) (p1.new hq) ((RR.new S1.oc hq (rep_rg 0 j)).from S1.np s1) ?_⟩
      rw [Int.sub_zero]
      exact w3
    · exact False.elim w1
theorem pd_rgl2 {t : Bool} {x y : Str} {p0 p1 p2 : Pos} (hs1 : starEach [.Call (.Name "range" p1) [a, b] [] p2] X.env = (false, eval (.Call (.Name "range" p1) [a, b] [] p2) X.env) :: starEach [] X.env) (hc : X.calm = true) (ht : x = (if t = true then "tuple" else "list")) (hx : Gl X x) (hxm : X.mg x = none) (hg : Gl X "range") (hm : X.mg "range" = none) (ha : PE X a (tD P ca)) (hb : PE X b (tD P cb)) (hs : starEach [a, b] X.env = (false, eval a X.env) :: starEach [b] X.env)
    (hs2 : starEach [b] X.env = (false, eval b X.env) :: starEach [] X.env) (hp : (backTo p2 (starEach [b] X.env)).any (·.1) = false) :
    PE X (.Call (.Name x p0) [.Call (.Name "range" p1) [a, b] [] p2] [] pos) (tD P (.rgl2 t ca cb)) := by
  have rg := prg_2 (p := p1) (pos := p2) hg hm ha hb hs hs2 hp
  cases t with
  | true =>
    subst ht
    refine peImp (pe_tupRgF hc hx hxm rg hs1) fun σ H Q h => ?_
    obtain ⟨Gh, O, env, Qd, S, w, f⟩ := h
    refine ⟨Gh, O, env, _, S, w, fun r v H1 s1 p1 r1 w1 => ⟨Gh, O, env, _, S.mono s1 p1, w1, fun r' v' H2 s2 p2 r2 w2 => ?_⟩⟩
    split at w2
    · rename_i i j e1 e2
      obtain ⟨⟨w1, w2, w3, w4⟩, w5⟩ := w2
      have S2 := (S.mono s1 p1).mono s2 p2
      exact ⟨i, j, lk_int (r1.lk S.op S.np) e1, lk_int (r2.lk S.op (S.mono s1 p1).np) e2, ⟨by omega, by omega, by omega, by omega, by omega⟩, fun q o hq d => f _ _ _ ((s1.trans s2).trans (SameP.new hq)) (p2.new hq) ((RR.newT S2.oc hq d (rep_rg i j)).from S2.np (s1.trans s2)) w5⟩
    · exact False.elim w2
  | false =>
    subst ht
    refine peImp (pe_listRg hc hx hxm rg) fun σ H Q h => ?_
    obtain ⟨Gh, O, env, Qd, S, w, f⟩ := h
    refine ⟨Gh, O, env, _, S, w, fun r v H1 s1 p1 r1 w1 => ⟨Gh, O, env, _, S.mono s1 p1, w1, fun r' v' H2 s2 p2 r2 w2 => ?_⟩⟩
    split at w2
    · rename_i i j e1 e2
      obtain ⟨⟨w1, w2, w3, w4⟩, w5⟩ := w2
      have S2 := (S.mono s1 p1).mono s2 p2
      exact ⟨i, j, lk_int (r1.lk S.op S.np) e1, lk_int (r2.lk S.op (S.mono s1 p1).np) e2, ⟨by omega, by omega, by omega, by omega, by omega⟩, fun q hq => f _ _ _ ((s1.trans s2).trans (SameP.new hq)) (p2.new hq) ((RR.new S2.oc hq (rep_rg i j)).from S2.np (s1.trans s2)) w5⟩
    · exact False.elim w2
theorem pd_isi {t : BT} {y : Str} {p0 p1 : Pos} (hK : X.K = P.K) (hg : Gl X "isinstance") (hm : X.mg "isinstance" = none) (hy : Gl X y) (hym : X.mg y = none) (hyv : bootBuiltins y = some (.type t.nm)) (hyn : y ≠ "__name__") (hyd : (y == ("__debug__" : Str)) = false) (ha : PE X a (tD P ca))
    (hs : starEach [a, .Name y p1] X.env = (false, eval a X.env) :: starEach [.Name y p1] X.env) : PE X (.Call (.Name "isinstance" p0) [a, .Name y p1] [] pos) (tD P (.isi ca [t])) := by
  refine peImp (pe_callB (call_is1 t hK) hg hm boot_isinstance (pa_cons ha (pa_cons (pe_bltn hy hym hyv (v := .ty t.nm) rfl hyn hyd) pa_nil) hs) (by decide) (by decide) hs rfl) fun σ H Q h => ?_
  obtain ⟨Gh, O, env, Qd, S, w, f⟩ := h
  refine ⟨Gh, O, env, _, S, w, fun x vx H1 s1 p1 r1 w1 => ?_⟩
  have S1 := S.mono s1 p1
  refine ⟨O, _, vx, Qd, rfl, S1.oc, r1.lk S.op S.np, w1.1, ?_, fun r v H' s p q => f r v H' (s1.trans s) p (q.from S1.np s1)⟩
  have w2 := w1.2
  have e : [t].any (isT x.d) = isT x.d t := by simp
  rw [e] at w2
  exact w2
/-- the truth of a value -/
theorem pd_tru {e : Expr} {ce : CE} (hK : X.K = P.K) (h : PE X e (tD P ce)) (hw : ∀ env Q, wpT P.G ce env Q → wpE P.G ce env fun r => dTru r.d Q) (he : ∀ whole, isTrue e X.env whole = (do let v ← whole; standAt e.pos; holding [v] (truthy v))) : PT X e (tT P ce) := by
  refine ptImp (pt_truth h he) fun σ H Q h => ?_
  obtain ⟨Gh, O, env, Qd, S, w, f⟩ := h
  refine ⟨Gh, O, env, _, S, hw _ _ w, fun x vx H1 s1 p1 r1 w1 => ?_⟩
  obtain ⟨k, h1, h2⟩ := (r1.lk S.op S.np).tru w1
  exact ⟨k, by rw [hK]; exact h1, f k H1 s1 p1 h2⟩
theorem pt_no {e : Expr} {ce : CE} (hw : ∀ env Q, wpT P.G ce env Q → False) : PT X e (tT P ce) := ⟨fun pins s σ H Q I h => by
  obtain ⟨Gh, O, env, Qd, S, w, f⟩ := h
  exact (hw _ _ w).elim⟩
end
end DL

/-! DL5: targets, what is walked, comprehensions. -/
namespace DL
open PySem PySem.Spec PyProof.Rows L2
section
variable {P : Pm} {O : Addr → Bool} {H H1 H2 : Hp} {Gh : List (D × V)} {σ : L2.St} {env : En}
theorem SR.put {i : Nat} {s : Sl} {x : Option V} (S : SR P Gh O σ H env) (hs : i < env.length → SlotR P O (σ.set i x) H i s)
    (hi : ∀ a, isOwn s = true → x = some (V.ref a) → ∀ (j : Nat) (u : Sl), env[j]? = some u → isOwn u = true → σ[j]? = some (some (V.ref a)) → j = i) : SR P Gh O (σ.set i x) H (env.set i s) := by
  have at_ : ∀ {j : Nat} {u : Sl}, (env.set i s)[j]? = some u → (j = i ∧ u = s ∧ i < env.length) ∨ (j ≠ i ∧ env[j]? = some u) := fun {j u} e => by
    rw [List.getElem?_set] at e
    by_cases z : i = j
    · subst z
      rw [if_pos rfl] at e
      split at e
      · rename_i l
        exact .inl ⟨rfl, (Option.some.inj e).symm, l⟩
      · cases e
    · rw [if_neg z] at e
      exact .inr ⟨fun q => z q.symm, e⟩
  have far : ∀ {j : Nat}, j ≠ i → (σ.set i x)[j]? = σ[j]? := fun {j} n => List.getElem?_set_ne (Ne.symm n)
  refine ⟨S.same, S.pool, S.pool0, S.op, S.trk, S.sub, by rw [List.length_set, List.length_set]; exact S.len, fun j u e => ?_, fun j k a u u' e1 e2 o1 o2 e3 e4 => ?_, S.gh⟩
  · rcases at_ e with ⟨rfl, rfl, l⟩ | ⟨n, e⟩
    · exact hs l
    · have h := S.sl j u e
      cases u with
      | no => exact trivial
      | val d =>
        obtain ⟨v, h1, h2⟩ := h
        exact ⟨v, by rw [far n]; exact h1, h2⟩
      | own ds =>
        obtain ⟨a, vs, h1, h2⟩ := h
        exact ⟨a, vs, by rw [far n]; exact h1, h2⟩
      | dic ds =>
        obtain ⟨a, vs, h1, h2⟩ := h
        exact ⟨a, vs, by rw [far n]; exact h1, h2⟩
  · rcases at_ e1 with ⟨rfl, q1, l1⟩ | ⟨n1, q1⟩
    · rcases at_ e2 with ⟨rfl, q2, l2⟩ | ⟨n2, q2⟩
      · rfl
      · rw [far n2] at e4
        rw [List.getElem?_set_self (by rw [S.len]; exact l1)] at e3
        exact (hi a (by rw [← q1]; exact o1) (Option.some.inj e3) k _ q2 o2 e4).symm
    · rw [far n1] at e3
      rcases at_ e2 with ⟨rfl, q2, l2⟩ | ⟨n2, q2⟩
      · rw [List.getElem?_set_self (by rw [S.len]; exact l2)] at e4
        exact hi a (by rw [← q2]; exact o2) (Option.some.inj e4) j _ q1 o1 e3
      · rw [far n2] at e4
        exact S.inj j k a _ _ q1 q2 o1 o2 e3 e4
theorem SR.setV {i : Nat} {d : D} {v : V} (S : SR P Gh O σ H env) (r : Rep P.K P.p (hid H O) d v) : SR P Gh O (σ.set i (some v)) H (env.set i (.val d)) :=
  S.put (fun l => ⟨v, List.getElem?_set_self (by rw [S.len]; exact l), r⟩) fun a e => by cases e
theorem SR.setNo {i : Nat} (S : SR P Gh O σ H env) : SR P Gh O (σ.set i none) H (env.set i .no) :=
  S.put (fun _ => trivial) fun a e => by cases e
theorem SR.wipe : ∀ (vs : List Nat), SR P Gh O σ H env → SR P Gh O (wipe σ vs) H (wipeD env vs)
  | [], S => S
  | v :: vs, S => (SR.wipe vs S).setNo
theorem wipe_set {i : Nat} {x : Option V} : ∀ (vs : List Nat) (σ : L2.St), L2.wipe (σ.set i x) vs = if i ∈ vs then L2.wipe σ vs else (L2.wipe σ vs).set i x
  | [], σ => by simp [L2.wipe]
  | v :: vs, σ => by
    show (L2.wipe (σ.set i x) vs).set v none = if i ∈ v :: vs then (L2.wipe σ vs).set v none else ((L2.wipe σ vs).set v none).set i x
    rw [wipe_set vs σ]
    by_cases h : i ∈ vs
    · rw [if_pos h, if_pos (List.mem_cons_of_mem _ h)]
    · rw [if_neg h]
      by_cases e : i = v
      · subst e
        rw [if_pos List.mem_cons_self, List.set_set]
      · rw [if_neg (by simp [e, h]), List.set_comm _ _ e]
theorem wipe_wipe {vs : List Nat} : ∀ (ws : List Nat) (σ : L2.St), (∀ i ∈ ws, i ∈ vs) → L2.wipe (L2.wipe σ ws) vs = L2.wipe σ vs
  | [], _, _ => rfl
  | w :: ws, σ, h => by
    show L2.wipe ((L2.wipe σ ws).set w none) vs = L2.wipe σ vs
    rw [wipe_set, if_pos (h w List.mem_cons_self)]
    exact wipe_wipe ws σ fun i hi => h i (List.mem_cons_of_mem _ hi)
def CT.slots : CT → List Nat
  | .nm i => [i]
  | .tp is => is
/-- the slots of is alone have changed -/
def Only (is : List Nat) (σ σ' : L2.St) : Prop := ∀ vs : List Nat, (∀ i ∈ is, i ∈ vs) → L2.wipe σ' vs = L2.wipe σ vs
def tG (P : Pm) (tg : CT) : TG := fun v σ H Q => ∃ Gh O env d Qe, SR P Gh O σ H env ∧ Rep P.K P.p (hid H O) d v ∧ tgD tg d env Qe ∧ ∀ σ' env', SR P Gh O σ' H env' → Only tg.slots σ σ' → Qe env' → Q σ' H
def tGs (P : Pm) (is : List Nat) : TGs := fun vs σ H Q => ∃ Gh O env ds e, SR P Gh O σ H env ∧ RepL P.K P.p (hid H O) ds vs ∧ setAll is ds env = some e ∧ ∀ σ', SR P Gh O σ' H e → Only is σ σ' → Q σ' H
end
/-- a name that may be stored -/
structure NmOk (X : Cx) (i : Nat) (x : Str) : Prop where
  at_ : X.N[i]? = some x
  loc : Loc X.env.scope x
  fn : X.fn x = true ∨ X.env.scope.names.lookup x = some .local
section
variable {X : Cx} {P : Pm} {pos : Pos}
theorem pgImp {e : Expr} {t t' : TG} (h : PG X e t) (f : ∀ v σ H Q, t' v σ H Q → t v σ H Q) : PG X e t' := ⟨fun pins s σ H v u Q I r q => h.run pins s σ H v u Q I r (f v σ H Q q)⟩
theorem pgsImp {e : List Expr} {t t' : TGs} (h : PGs X e t) (f : ∀ v σ H Q, t' v σ H Q → t v σ H Q) : PGs X e t' := ⟨fun pins s σ H v u Q I r q => h.run pins s σ H v u Q I r (f v σ H Q q)⟩
theorem pgd_nm {i : Nat} {x : Str} (hN : X.N.Nodup) (h : NmOk X i x) : PG X (.Name x pos) (tG P (.nm i)) := by
  refine pgImp (pg_name hN h.at_ h.loc h.fn) fun v σ H Q q => ?_
  obtain ⟨Gh, O, env, d, Qe, S, r, w, f⟩ := q
  refine f _ _ (S.setV r) (fun vs hv => ?_) w
  rw [wipe_set, if_pos (hv i List.mem_cons_self)]
theorem pgd_nms (hN : X.N.Nodup) : ∀ (is : List Nat) (xs : List (Str × Pos)), is.length = xs.length → (∀ (k i : Nat) (y : Str × Pos), is[k]? = some i → xs[k]? = some y → NmOk X i y.1) → PGs X (xs.map fun y => .Name y.1 y.2) (tGs P is)
  | [], [], _, _ => pgsImp pgs_nil fun vs σ H Q q => by
    obtain ⟨Gh, O, env, ds, e, S, r, w, f⟩ := q
    cases ds with
    | nil =>
      have w' := Option.some.inj (show some env = some e from w)
      subst w'
      exact ⟨r, f σ S fun _ _ => rfl⟩
    | cons d ds => cases w
  | [], _ :: _, h, _ => by cases h
  | _ :: _, [], h, _ => by cases h
  | i :: is, y :: xs, hl, hk => by
    have h1 : NmOk X i y.1 := hk 0 i y rfl rfl
    have ih := pgd_nms hN is xs (by simpa using hl) (fun k j z e1 e2 => hk (k + 1) j z (by simpa using e1) (by simpa using e2))
    refine pgsImp (pgs_cons (pg_name hN h1.at_ h1.loc h1.fn) ih rfl) fun vs σ H Q q => ?_
    obtain ⟨Gh, O, env, ds, e, S, r, w, f⟩ := q
    cases ds with
    | nil => cases w
    | cons d ds =>
      obtain ⟨v, vr, rfl, r1, r2⟩ := r
      refine ⟨v, vr, rfl, Gh, O, _, ds, e, S.setV r1, r2, w, fun σ' S' o => f σ' S' fun vs hv => ?_⟩
      rw [o vs fun j hj => hv j (List.mem_cons_of_mem _ hj), wipe_set, if_pos (hv i List.mem_cons_self)]
theorem asg_names (env : Env) : ∀ (xs : List (Str × Pos)), (assignEach (xs.map fun y => Expr.Name y.1 y.2) env).length = xs.length ∧ (assignEach (xs.map fun y => Expr.Name y.1 y.2) env).findIdx? (·.1) = none
  | [] => ⟨rfl, rfl⟩
  | y :: xs => by
    obtain ⟨h1, h2⟩ := asg_names env xs
    have e : assignEach ((y :: xs).map fun y => Expr.Name y.1 y.2) env = (false, assign (.Name y.1 y.2) env) :: assignEach (xs.map fun y => Expr.Name y.1 y.2) env := rfl
    rw [e]
    refine ⟨by rw [List.length_cons, List.length_cons, h1], ?_⟩
    rw [List.findIdx?_cons]
    simp [h2]
theorem setAll_len : ∀ {is : List Nat} {ds : List D} {env e : En}, setAll is ds env = some e → ds.length = is.length
  | [], [], _, _, _ => rfl
  | [], _ :: _, _, _, h => by cases h
  | _ :: _, [], _, _, h => by cases h
  | i :: is, d :: ds, env, e, h => by
    have q := setAll_len (is := is) (ds := ds) h
    rw [List.length_cons, List.length_cons, q]
theorem pgd_tp {is : List Nat} {xs : List (Str × Pos)} {k : Nat} (hc : X.calm = true) (hK : X.K = P.K) (hN : X.N.Nodup) (hl : is.length = xs.length) (hk : ∀ (k i : Nat) (y : Str × Pos), is[k]? = some i → xs[k]? = some y → NmOk X i y.1) :
    PG X (.Tuple (xs.map fun y => .Name y.1 y.2) k pos) (tG P (.tp is)) := by
  refine pgImp (pg_tup hc (pgd_nms (P := P) hN is xs hl hk) (asg_names X.env xs).1 (asg_names X.env xs).2) fun v σ H Q q => ?_
  obtain ⟨Gh, O, env, d, Qe, S, r, w, f⟩ := q
  unfold tgD at w
  simp only at w
  split at w
  · rename_i ds
    split at w
    · rename_i e he
      obtain ⟨a, vs, rfl, h1, h2⟩ := r
      refine ⟨a, vs, rfl, by rw [hK]; exact SqT.same (fun b o q => (hid_some q).1) h1.1, by rw [h2.length, setAll_len he, hl], Gh, O, env, ds, e, S, h2, he, fun σ' S' o => f σ' e S' o w⟩
    · exact False.elim w
  · exact False.elim w
/-- ((x, y), z) = a pair of a pair and a value -/
def tGN (P : Pm) (i j l : Nat) : TG := fun v σ H Q => ∃ Gh O env a b c, SR P Gh O σ H env ∧ Rep P.K P.p (hid H O) (.tuple [.tuple [a, b], c]) v ∧ ∀ σ', SR P Gh O σ' H (((env.set i (.val a)).set j (.val b)).set l (.val c)) → Q σ' H
theorem pgd_nest {i j l : Nat} {x y z : Str} {px py pz p1 : Pos} {k1 k : Nat} (hc : X.calm = true) (hK : X.K = P.K) (hN : X.N.Nodup) (hx : NmOk X i x) (hy : NmOk X j y) (hz : NmOk X l z) :
    PG X (.Tuple [.Tuple [.Name x px, .Name y py] k1 p1, .Name z pz] k pos) (tGN P i j l) := by
  have inner := pg_tup (pos := p1) (k := k1) hc (pgs_cons (pg_name (pos := px) hN hx.at_ hx.loc hx.fn) (pgs_cons (pg_name (pos := py) hN hy.at_ hy.loc hy.fn) pgs_nil rfl) rfl) rfl rfl
  refine pgImp (pg_tup hc (pgs_cons inner (pgs_cons (pg_name (pos := pz) hN hz.at_ hz.loc hz.fn) pgs_nil rfl) rfl) rfl rfl) fun v σ H Q q => ?_
  obtain ⟨Gh, O, env, a, b, c, S, r, f⟩ := q
  obtain ⟨ad, vs, rfl, h1, h2⟩ := r
  obtain ⟨v1, vr, rfl, r1, v2, vr2, rfl, r2, rfl⟩ := h2
  obtain ⟨ad1, us, rfl, g1, g2⟩ := r1
  obtain ⟨u1, ur, rfl, s1, u2, ur2, rfl, s2, rfl⟩ := g2
  exact ⟨ad, _, rfl, by rw [hK]; exact SqT.same (fun b o q => (hid_some q).1) h1.1, rfl, _, _, rfl, ⟨ad1, _, rfl, by rw [hK]; exact SqT.same (fun b o q => (hid_some q).1) g1.1, rfl, _, _, rfl, _, _, rfl, rfl, _, _, rfl, rfl, f _ (((S.setV s1).setV s2).setV r2)⟩⟩
end
/-! ### what is walked -/
/-- a walk whose items stay while the heap only grows (a comprehension's) -/
def ItC (P : Pm) (O : Addr → Bool) (H0 : Hp) (items : List D) (J : It) : Prop := ∀ (O' : Addr → Bool) (H : Hp), SameP P.p H0 H → OC P O' H → Same (hid H0 O) (hid H O') →
  (∀ i, i < items.length → J.go i H) ∧ J.stop items.length H ∧ ∀ i x H', i < items.length → J.yld i H x H' → SameP P.p H H' ∧ PoolOk P.p P.a0 H' ∧ (∀ a o, H a = some o → H' a = some o) ∧ ∃ d, items[i]? = some d ∧ Rep P.K P.p (hid H' O') d x
/-- a walk whose items stay while the datum g stays -/
def ItG (P : Pm) (items : List D) (J : It) (g : D × V) : Prop := ∀ (O : Addr → Bool) (H : Hp), OC P O H → Rep P.K P.p (hid H O) g.1 g.2 →
  (∀ i, i < items.length → J.go i H) ∧ J.stop items.length H ∧ ∀ i x H', i < items.length → J.yld i H x H' → SameP P.p H H' ∧ PoolOk P.p P.a0 H' ∧ ∃ d, items[i]? = some d ∧ Rep P.K P.p (hid H' O) d x
def FinI (P : Pm) (O : Addr → Bool) (H : Hp) (Qd : Bool → List D → Prop) (Q : It → Hp → Prop) : Prop :=
  ∀ b items J H', SameP P.p H H' → PoolOk P.p P.a0 H' → ItC P O H' items J → (b = false → ∃ g, Rep P.K P.p (hid H' O) g.1 g.2 ∧ ItG P items J g) → Qd b items → Q J H'
def tI (P : Pm) (ci : CI) : TI := fun σ H Q => ∃ Gh O env Qd, SR P Gh O σ H env ∧ wpI P.G ci env Qd ∧ FinI P O H Qd Q
section
variable {P : Pm} {O : Addr → Bool} {H : Hp}
theorem SqL.inj {K : PySem.W.Frag} {a : Addr} {vs ws : List V} (h : H a = some (.lst vs)) (g : SqL K H a ws) (hk : K.lookup a = none) : vs = ws := by
  rcases g with (g | ⟨o, g⟩) | ⟨o, _, _, g, _⟩
  · rw [h] at g
    cases g
    rfl
  · rw [h] at g
    cases g
  · rw [hk] at g
    cases g
/-- the list at a walked, whatever the heap -/
theorem itl_list {a : Addr} {vs : List V} (h : H a = some (.lst vs)) : (∀ i, i < vs.length → (Itl P.K a).go i H) ∧ (Itl P.K a).stop vs.length H ∧ ∀ i x H', (Itl P.K a).yld i H x H' → H' = H ∧ vs[i]? = some x :=
  ⟨fun i hi => ⟨vs, vs[i], SqL.of h, by simp [hi]⟩, ⟨vs, SqL.of h, Nat.le_refl _⟩, fun i x H' y => ⟨y.1, y.2 vs (SqL.of h)⟩⟩
theorem itl_tup {a : Addr} {vs : List V} (h : SqT P.K H a vs) : (∀ i, i < vs.length → (Itt P.K a).go i H) ∧ (Itt P.K a).stop vs.length H ∧ ∀ i x H', (Itt P.K a).yld i H x H' → H' = H ∧ vs[i]? = some x :=
  ⟨fun i hi => ⟨vs, vs[i], h, by simp [hi]⟩, ⟨vs, h, Nat.le_refl _⟩, fun i x H' y => ⟨y.1, y.2 vs h⟩⟩
theorem ItC.list {a : Addr} {vs : List V} {ds : List D} (n : a ≠ P.p) (h : H a = some (.lst vs)) (r : RepL P.K P.p (hid H O) ds vs) : ItC P O H ds (Itl P.K a) := by
  intro O' H' s c sm
  obtain ⟨q1, q2, q3⟩ := itl_list (P := P) (s a _ n h)
  rw [r.length] at q1 q2
  refine ⟨q1, q2, fun i x H2 hi y => ?_⟩
  obtain ⟨rfl, e⟩ := q3 i x H2 y
  obtain ⟨d, e1, e2⟩ := r.get' e
  exact ⟨SameP.refl _, c.pool, fun _ _ q => q, d, e1, Rep.mono sm e2⟩
theorem ItC.tup {a : Addr} {vs : List V} {ds : List D} (h : SqT P.K (hid H O) a vs) (r : RepL P.K P.p (hid H O) ds vs) : ItC P O H ds (Itt P.K a) := by
  intro O' H' s c sm
  obtain ⟨q1, q2, q3⟩ := itl_tup (P := P) (SqT.same (fun b o q => (hid_some q).1) (SqT.same sm h))
  rw [r.length] at q1 q2
  refine ⟨q1, q2, fun i x H2 hi y => ?_⟩
  obtain ⟨rfl, e⟩ := q3 i x H2 y
  obtain ⟨d, e1, e2⟩ := r.get' e
  exact ⟨SameP.refl _, c.pool, fun _ _ q => q, d, e1, Rep.mono sm e2⟩
theorem rngD_get {lo : Int} {n i : Nat} (h : i < n) : (rngD lo n)[i]? = some (.int (lo + (i : Int))) := by
  unfold rngD
  rw [List.getElem?_map, List.getElem?_range h]
  rfl
theorem rngD_length {lo : Int} {n : Nat} : (rngD lo n).length = n := by
  unfold rngD
  rw [List.length_map, List.length_range]
theorem ItC.rng {lo : Int} {n : Nat} : ItC P O H (rngD lo n) (Itr lo n) := by
  intro O' H' s c sm
  rw [rngD_length]
  refine ⟨fun i hi => hi, Nat.le_refl n, fun i x H2 hi y => ?_⟩
  obtain ⟨rfl, rfl⟩ := y
  exact ⟨SameP.refl _, c.pool, fun _ _ q => q, _, rngD_get hi, rfl⟩
theorem ItG.rng {lo : Int} {n : Nat} {g : D × V} : ItG P (rngD lo n) (Itr lo n) g := by
  intro O' H' c _
  rw [rngD_length]
  refine ⟨fun i hi => hi, Nat.le_refl n, fun i x H2 hi y => ?_⟩
  obtain ⟨rfl, rfl⟩ := y
  exact ⟨SameP.refl _, c.pool, _, rngD_get hi, rfl⟩
def signsD (z : Str) : List D := z.cps.toList.map fun c => .str ⟨#[c]⟩
theorem its_str {z : Str} {i : Nat} {x : V} {K : PySem.W.Frag} {p : Addr} {H0 : Hp} (hi : i < (signsD z).length) (y : (Its z).yld i H x H) : ∃ d, (signsD z)[i]? = some d ∧ Rep K p H0 d x := by
  obtain ⟨_, c, e1, e2⟩ := y
  subst e2
  refine ⟨.str ⟨#[c]⟩, ?_, rfl⟩
  unfold signsD
  rw [List.getElem?_map]
  have e3 : z.cps.toList[i]? = some c := by
    rw [Array.getElem?_toList]
    exact e1
  rw [e3]
  rfl
theorem signs_len {z : Str} : (signsD z).length = z.cps.size := by
  unfold signsD
  rw [List.length_map, Array.length_toList]
theorem ItC.str {z : Str} : ItC P O H (signsD z) (Its z) := by
  intro O' H' s c sm
  refine ⟨fun i hi => by rw [signs_len] at hi; exact hi, by rw [signs_len]; exact Nat.le_refl _, fun i x H2 hi y => ?_⟩
  have e := y.1
  subst e
  obtain ⟨d, e1, e2⟩ := its_str (K := P.K) (p := P.p) (H0 := hid H2 O') hi y
  exact ⟨SameP.refl _, c.pool, fun _ _ q => q, d, e1, e2⟩
theorem ItG.str {z : Str} {g : D × V} : ItG P (signsD z) (Its z) g := by
  intro O' H' c _
  refine ⟨fun i hi => by rw [signs_len] at hi; exact hi, by rw [signs_len]; exact Nat.le_refl _, fun i x H2 hi y => ?_⟩
  have e := y.1
  subst e
  obtain ⟨d, e1, e2⟩ := its_str (K := P.K) (p := P.p) (H0 := hid H2 O') hi y
  exact ⟨SameP.refl _, c.pool, d, e1, e2⟩
theorem ItG.list {a : Addr} {ds : List D} : ItG P ds (Itl P.K a) (.list ds, .ref a) := by
  intro O' H' c r
  obtain ⟨a', vs, e, h1, h2⟩ := r
  have e' : a = a' := V.ref.inj e
  subst e'
  obtain ⟨q1, q2, q3⟩ := itl_list (P := P) (hid_some h1).1
  rw [h2.length] at q1 q2
  refine ⟨q1, q2, fun i x H2 hi y => ?_⟩
  obtain ⟨rfl, e⟩ := q3 i x H2 y
  obtain ⟨d, e1, e2⟩ := h2.get' e
  exact ⟨SameP.refl _, c.pool, d, e1, e2⟩
theorem ItG.tup {a : Addr} {ds : List D} : ItG P ds (Itt P.K a) (.tuple ds, .ref a) := by
  intro O' H' c r
  obtain ⟨a', vs, e, h1, h2⟩ := r
  have e' : a = a' := V.ref.inj e
  subst e'
  obtain ⟨q1, q2, q3⟩ := itl_tup (P := P) (SqT.same (fun b o q => (hid_some q).1) h1.1)
  rw [h2.length] at q1 q2
  refine ⟨q1, q2, fun i x H2 hi y => ?_⟩
  obtain ⟨rfl, e⟩ := q3 i x H2 y
  obtain ⟨d, e1, e2⟩ := h2.get' e
  exact ⟨SameP.refl _, c.pool, d, e1, e2⟩
end
section
variable {X : Cx} {P : Pm} {tg a b : Expr} {ca cb : CE} {pos : Pos}
theorem piImp {iter : Expr} {t t' : TI} (h : PI X tg iter t) (f : ∀ σ H Q, t' σ H Q → t σ H Q) : PI X tg iter t' := ⟨fun pins s σ H Q I q => h.run pins s σ H Q I (f σ H Q q)⟩
/-- a list, a tuple or a text, whichever comes -/
def iAny (K : PySem.W.Frag) (tl : TE) : TI := fun σ H Q => tl σ H fun x H1 => (∃ a, x = .ref a ∧ (∃ xs, SqL K H1 a xs) ∧ Q (Itl K a) H1) ∨ (∃ a, x = .ref a ∧ (∃ xs, SqT K H1 a xs) ∧ Q (Itt K a) H1) ∨ (∃ z, x = .str z ∧ Q (Its z) H1) ∨ ∃ (a : Addr) (n : Int), x = .ref a ∧ H1 a = some (.rng 0 n) ∧ 0 ≤ n ∧ n ≤ 16777216 ∧ Q (Itr 0 n.toNat) H1
/-- the walk of a value by a rule that evaluates -/
theorem pi_any {l : Expr} {tl : TE} (hl : PE X l tl) : PI X tg l (iAny X.K tl) := by
  refine ⟨fun pins s σ H Q I h => ?_⟩
  refine thn (hl.run pins s σ H _ I h) fun v s1 z => ?_
  obtain ⟨x, H1, I1, r1, q1⟩ := z
  have fp : ∀ (J : It) (tn : Nat → Heap → Prop) (ob : Obj) (tk : Nat), Turn X.prog X.w X.K tg J [s1.heap.objs.size] s1.heap.objs.size tn → tn 0 (s1.heap.push ob) → Q J H1 → PIE X pins σ tg Q (.ref s1.heap.objs.size) { s1 with heap := s1.heap.push ob, toks := tk } := fun J tn ob tk T st q => by
    refine ⟨s1.heap.objs.size, [s1.heap.objs.size], tn, J, H1, rfl, I1.kept (t' := tk) fun b o e => Heap.get?_push_of_some _ e, T, st, fun b hb => ?_, q⟩
    rw [List.mem_singleton.mp hb]
    exact I1.fpOk (Nat.le_refl _) (I1.hok.fresh (Nat.le_refl _))
  rcases q1 with ⟨a, e, ⟨xs, hq⟩, q⟩ | ⟨a, e, ⟨xs, hq⟩, q⟩ | ⟨z, e, q⟩ | ⟨a, n, e, hq, n0, n1, q⟩
  · subst e
    cases r1
    obtain ⟨its, rv, pl, hz⟩ := I1.list hq
    exact wpAny_pyIter_list pl.isList (fp _ _ _ _ (turn_list a _) ⟨_, Heap.get?_push_size _ rfl, rfl, rfl⟩ q)
  · subst e
    cases r1
    obtain ⟨its, rv, pl, hz⟩ := I1.tuple hq
    exact wpAny_pyIter_tuple (show s1.heap.IsTuple a its.toArray from pl) (fp _ _ _ _ (turn_tuple a _) ⟨_, Heap.get?_push_size _ rfl, rfl, rfl⟩ q)
  · subst e
    obtain ⟨t, rfl⟩ := r1
    cases hw : z.cps.all (· < 128) with
    | false => exact wpAny_pyIter_wide hw (pi_one (tk := s1.toks) I1 _ (turn_str _ z t "str_iterator" (.inr rfl)) ⟨_, Heap.get?_push_size _ rfl, rfl, rfl⟩ q)
    | true => exact wpAny_pyIter_ascii hw (pi_one (tk := s1.toks) I1 _ (turn_str _ z t "str_ascii_iterator" (.inl rfl)) ⟨_, Heap.get?_push_size _ rfl, rfl, rfl⟩ q)
  · subst e
    cases r1
    obtain ⟨t1, t2, t3, ho⟩ := I1.hok a _ hq
    refine wpAny_pyIter_range (s := s1) (r := a) (show IsRange s1.heap a 0 n 1 t1 t2 t3 from ho) (small_one (by omega) (by omega) (by omega) (by omega)) ?_
    refine fp _ _ _ _ (turn_range _ 0 n.toNat) ?_ q
    have e1 : (0 : Int) + ((0 : Nat) : Int) * 1 = 0 := by simp
    have e2 : ((n.toNat : Nat) : Int) - ((0 : Nat) : Int) = Builtin.Range.rangeSize 0 n 1 := by rw [rangeSize_one]; split <;> omega
    show IsRangeIter _ _ ((0 : Int) + ((0 : Nat) : Int) * 1) (((n.toNat : Nat) : Int) - ((0 : Nat) : Int)) 1
    rw [e1, e2]
    exact Heap.get?_push_size _ rfl
theorem itemsD_dict : ∀ {q : List (D × D)} {ds : List D}, itemsD (.dict q) = some ds → ∃ n : Int, q = [(.none, .int n)] ∧ ds = rngD 0 n.toNat
  | [], _, h => by cases h
  | [(k, v)], ds, h => by
    cases k with
    | none =>
      cases v with
      | int n => exact ⟨n, rfl, (Option.some.inj h).symm⟩
      | _ => cases h
    | _ => cases h
  | (k, v) :: b :: r, _, h => by
    cases k with
    | none => cases v <;> cases h
    | _ => cases h
theorem pid_val (hK : X.K = P.K) (ha : PE X a (tD P ca)) : PI X tg a (tI P (.val ca)) := by
  refine piImp (pi_any ha) fun σ H Q h => ?_
  obtain ⟨Gh, O, env, Qd, S, w, f⟩ := h
  refine ⟨Gh, O, env, _, S, w, fun r v H1 s1 p1 r1 w1 => ?_⟩
  have S1 := S.mono s1 p1
  have lk := r1.lk S.op S.np
  split at w1
  · rename_i ds e
    cases hd : r.d with
    | list es =>
      rw [hd] at e lk
      have e' := Option.some.inj (show some es = some ds from e)
      subst e'
      obtain ⟨a, vs, rfl, n, h1, h2⟩ := lk
      refine .inl ⟨a, rfl, ⟨vs, SqL.of h1⟩, ?_⟩
      rw [hK]
      refine f _ _ _ H1 s1 p1 (ItC.list n h1 h2) (fun hb => ?_) w1
      refine ⟨(.list es, .ref a), ?_, ItG.list⟩
      cases r with
      | v d =>
        have hd' : d = .list es := hd
        subst hd'
        exact r1
      | nw d =>
        have hd' : PyData.list d = .list es := hd
        have q := r1.esc (d := .list d) S.trk rfl
        rw [hd'] at q
        exact q
      | bw d => cases hb
      | nd d => cases hd
      | bd d => cases hd
    | tuple es =>
      rw [hd] at e lk
      have e' := Option.some.inj (show some es = some ds from e)
      subst e'
      obtain ⟨a, vs, rfl, h1, g1, h2⟩ := lk.tup
      refine .inr (.inl ⟨a, rfl, ⟨vs, by rw [hK]; exact h1⟩, ?_⟩)
      rw [hK]
      exact f _ _ _ H1 s1 p1 (ItC.tup g1.1 h2) (fun hb => ⟨(.tuple es, .ref a), ⟨a, vs, rfl, g1, h2⟩, ItG.tup⟩) w1
    | str z =>
      rw [hd] at e lk
      have e' := Option.some.inj (show some (signsD z) = some ds from e)
      subst e'
      exact .inr (.inr (.inl ⟨z, lk, f _ _ _ H1 s1 p1 ItC.str (fun hb => ⟨(.none, .non), rfl, ItG.str⟩) w1⟩))
    | none => rw [hd] at e; cases e
    | bool q => rw [hd] at e; cases e
    | int q => rw [hd] at e; cases e
    | dict q =>
      rw [hd] at e lk
      obtain ⟨n, rfl, rfl⟩ := itemsD_dict e
      rcases lk.dictOr with (⟨z, _⟩ | ⟨a, ks, _, _, k, x, xs, _, h2, _⟩ | ⟨a, m, z, e2, h2, n0, n1⟩) | ⟨_, z, _⟩
      · cases z
      · have q := h2.1
        cases k <;> cases q
      · cases z
        exact .inr (.inr (.inr ⟨a, n, e2, hid_in _ _ h2, n0, n1, f _ _ _ H1 s1 p1 ItC.rng (fun hb => ⟨(.none, .non), rfl, ItG.rng⟩) w1⟩))
      · cases z
  · exact False.elim w1
theorem pid_rng1 {p0 : Pos} (hg : Gl X "range") (hm : X.mg "range" = none) (ha : PE X a (tD P ca)) (hs : starEach [a] X.env = [(false, eval a X.env)]) : PI X tg (.Call (.Name "range" p0) [a] [] pos) (tI P (.rng1 ca)) := by
  refine piImp (pi_range1 hg hm (pa_cons ha pa_nil hs) hs) fun σ H Q h => ?_
  obtain ⟨Gh, O, env, Qd, S, w, f⟩ := h
  refine ⟨Gh, O, env, _, S, w, fun r v H1 s1 p1 r1 w1 => ?_⟩
  split at w1
  · rename_i j e
    exact ⟨j, by rw [lk_int (r1.lk S.op S.np) e], w1.1, w1.2.1, f _ _ _ H1 s1 p1 ItC.rng (fun hb => ⟨(.none, .non), rfl, ItG.rng⟩) w1.2.2⟩
  · exact False.elim w1
theorem pid_rng2 {p0 : Pos} (hg : Gl X "range") (hm : X.mg "range" = none) (ha : PE X a (tD P ca)) (hb : PE X b (tD P cb)) (hs : starEach [a, b] X.env = [(false, eval a X.env), (false, eval b X.env)]) (hs2 : starEach [b] X.env = [(false, eval b X.env)]) :
    PI X tg (.Call (.Name "range" p0) [a, b] [] pos) (tI P (.rng2 ca cb)) := by
  refine piImp (pi_range2 hg hm (pa_cons ha (pa_cons hb pa_nil hs2) (by rw [hs, hs2])) hs hs2) fun σ H Q h => ?_
  obtain ⟨Gh, O, env, Qd, S, w, f⟩ := h
  refine ⟨Gh, O, env, _, S, w, fun r v H1 s1 p1 r1 w1 => ⟨Gh, O, env, _, S.mono s1 p1, w1, fun r' v' H2 s2 p2 r2 w2 => ?_⟩⟩
  split at w2
  · rename_i i j e1 e2
    exact ⟨i, j, by rw [lk_int (r1.lk S.op S.np) e1, lk_int (r2.lk S.op (S.mono s1 p1).np) e2], w2.1, f _ _ _ H2 (s1.trans s2) p2 ItC.rng (fun hb => ⟨(.none, .non), rfl, ItG.rng⟩) w2.2⟩
  · exact False.elim w2
end
/-! ### comprehensions -/
def tTs (P : Pm) (c : CEs) : TT := fun σ H Q => ∃ Gh O env Qd, SR P Gh O σ H env ∧ wpTs P.G c env Qd ∧ FinT P H Qd Q
section
variable {X : Cx} {P : Pm} {pos : Pos}
theorem pdts_nil : PTs X [] (tTs P .nil) := ⟨fun pins s σ H Q I h => pts_nil.run pins s σ H Q I (by
  obtain ⟨Gh, O, env, Qd, S, w, f⟩ := h
  exact f true H (SameP.refl H) S.pool w)⟩
theorem pdts_one {c : Expr} {cc : CE} (h : PT X c (tT P cc)) : PTs X [c] (tTs P (.cons cc .nil)) := ⟨fun pins s σ H Q I q => (pts_one h).run pins s σ H Q I q⟩
theorem lc_read {ce : CE} {ct : CT} {ci : CI} {cf : CEs} {own : List Nat} {σ : L2.St} {H : Hp} {Q : VK} (hsl : ∀ i ∈ ct.slots, i ∈ own) (h : tD P (.comp ce ct ci cf own) σ H Q) : tLc (tI P ci) (tG P ct) (tTs P cf) (tD P ce) own σ H Q := by
  obtain ⟨Gh, O, env, Qd, S, w, f⟩ := h
  refine ⟨Gh, O, env, _, S, w, fun b items J H1 s1 p1 ic ig w1 Dl hD => ?_⟩
  have S1 := S.mono s1 p1
  have nD : Dl ≠ P.p := S1.np Dl hD
  let O1 := addO O Dl
  have op1 : O1 P.p = true := addO_sub _ S.op
  have oD : O1 Dl = true := by show (O Dl || decide (Dl = Dl)) = true; simp
  have hh : hid H1 O1 = hid H1 O := hid_add hD
  -- the state within
  have SS : ∀ {H' : Hp}, SameP P.p H1 H' → PoolOk P.p P.a0 H' → (∃ o, H' Dl = some o) → SR P Gh O1 σ H' env := fun {H'} s p t => S1.hide hD s p t
  have sm : ∀ {H' : Hp}, SameP P.p H1 H' → Same (hid H1 O) (hid H' O1) := fun {H'} s => by
    rw [← hh]
    exact hid_same op1 s
  have wk : Walk J items.length (fun H' => SameP P.p H1 H' ∧ PoolOk P.p P.a0 H' ∧ ∃ o, H' Dl = some o) (fun i H' x H'' => SameP P.p H' H'' ∧ PoolOk P.p P.a0 H'' ∧ (∀ a o, H' a = some o → H'' a = some o) ∧ ∃ d, items[i]? = some d ∧ Rep P.K P.p (hid H'' O1) d x) :=
    ⟨fun i H' hi g => (ic O1 H' g.1 (SS g.1 g.2.1 g.2.2).oc (sm g.1)).1 i hi, fun H' g => (ic O1 H' g.1 (SS g.1 g.2.1 g.2.2).oc (sm g.1)).2.1, fun i H' x H'' hi g y => (ic O1 H' g.1 (SS g.1 g.2.1 g.2.2).oc (sm g.1)).2.2 i x H'' hi y⟩
  refine lc_it wk (fun i H' => ∃ acc vs, SameP P.p H1 H' ∧ PoolOk P.p P.a0 H' ∧ H' Dl = some (.lst vs) ∧ RepL P.K P.p (hid H' O1) acc vs ∧ foldC (wpTs P.G cf) (wpE P.G ce) ct (wipeD env own) (items.drop i) acc fun acc => Qd (.nw acc))
    ⟨[], [], SameP.new hD, p1.new hD, upd_same, rfl, w1⟩ (fun i H' _ g => ?_) (fun i x H' H'' hi g y => ?_) (fun H' g => ?_)
  · obtain ⟨acc, vs, g1, g2, g3, _⟩ := g
    exact ⟨g1, g2, _, g3⟩
  · obtain ⟨acc, vs, g1, g2, g3, g4, g5⟩ := g
    obtain ⟨y1, y2, y3, d, y4, y5⟩ := y
    have ed : items.drop i = d :: items.drop (i + 1) := by
      obtain ⟨l, e⟩ := List.getElem?_eq_some_iff.mp y4
      rw [← e]
      exact List.drop_eq_getElem_cons l
    rw [ed] at g5
    have sA := g1.trans y1
    have S2 := (SS sA y2 ⟨_, y3 _ _ g3⟩).wipe own
    refine ⟨Gh, O1, _, d, _, S2, y5, g5, fun σ' env' S3 on w3 => ⟨(on own hsl).trans (wipe_wipe own σ fun i hi => hi), Gh, O1, env', _, S3, w3, fun t H3 s3 p3 w4 => ?_⟩⟩
    have D3 : H3 Dl = some (.lst vs) := s3 _ _ nD (y3 _ _ g3)
    have R3 : RepL P.K P.p (hid H3 O1) acc vs := (g4.up op1 y1).up op1 s3
    cases t with
    | true =>
      refine ⟨Gh, O1, env', _, S3.mono s3 p3, w4, fun r v H4 s4 p4 r4 w5 => ?_⟩
      split at w5
      · rename_i e he
        obtain ⟨w5, w6⟩ := w5
        have D4 : H4 Dl = some (.lst vs) := s4 _ _ nD D3
        have R4 := R3.up op1 s4
        refine ⟨vs, D4, by rw [R3.length]; exact w5, acc ++ [e], vs ++ [v], ?_, ?_, upd_same, ?_, w6⟩
        · intro b o nb hb
          by_cases z : b = Dl
          · rw [z, hD] at hb
            cases hb
          · rw [upd_ne z]
            exact ((sA.trans s3).trans s4) b o nb hb
        · obtain ⟨k, m, cc, ss, q, ⟨ns, l, q0⟩, rr⟩ := p4
          obtain ⟨_, _, _, _, qq, ⟨ns', _, qq0⟩, _⟩ := p1
          refine ⟨k, m, cc, ss, by rw [upd_ne nD.symm]; exact q, ⟨ns, l, ?_⟩, rr⟩
          rw [upd_ne fun z => by rw [z, hD] at qq0; cases qq0]
          exact q0
        · rw [hid_upd oD]
          exact R4.append (RepL.one (r4.esc (S3.mono s3 p3).trk he))
      · exact False.elim w5
    | false => exact ⟨acc, vs, sA.trans s3, p3, D3, R3, w4⟩
  · obtain ⟨acc, vs, g1, g2, g3, g4, g5⟩ := g
    rw [List.drop_length] at g5
    exact f (.nw acc) _ H' (s1.trans g1) g2 ⟨Dl, vs, rfl, s1.free nD hD, g3, g4⟩ g5
theorem pd_comp {elt tg it : Expr} {ifs : List Expr} {scope : Scope} {own : List (Str × Nat)} {ce : CE} {ct : CT} {ci : CI} {cf : CEs} (hc : X.calm = true) (hN : X.N.Nodup) (hi : PI X tg it (tI P ci)) (ok : BlkOk X.N X.env.scope scope own)
    (hg : ∀ (s : Shared) (H : Hp) (C : Addr) (cl : List (Str × Addr)) (fp : List Addr), PG (X.blk s H scope (compEnvC scope cl C X.env) fp) tg (tG P ct)) (ht : ∀ (s : Shared) (H : Hp) (C : Addr) (cl : List (Str × Addr)) (fp : List Addr), PTs (X.blk s H scope (compEnvC scope cl C X.env) fp) ifs (tTs P cf))
    (he : ∀ (s : Shared) (H : Hp) (C : Addr) (cl : List (Str × Addr)) (fp : List Addr), PE (X.blk s H scope (compEnvC scope cl C X.env) fp) elt (tD P ce)) (hs : ∀ x, foldedSetIterable it X.env x = pure x) (hsl : ∀ i ∈ ct.slots, i ∈ own.map (·.2)) :
    PE X (.ListComp elt [⟨tg, it, ifs, 0⟩] scope pos) (tD P (.comp ce ct ci cf (own.map (·.2)))) :=
  peImp (pe_lc hc hN hi ok hg ht he hs) fun σ H Q h => lc_read hsl h
/-- a dict comprehension over any walk -/
theorem dc_it {J : It} {n : Nat} {Gw : Hp → Prop} {Y : Nat → Hp → V → Hp → Prop} (w : Walk J n Gw Y) {g : TG} {tt : TT} {tk tv : TE} {vs : List Nat} {σ : L2.St} {H1 : Hp} {Dl : Addr} {Qd : Hp → Prop} (Pv : Nat → Hp → Prop) (h0 : Pv 0 (upd H1 Dl (.dK []))) (hG : ∀ i H, i ≤ n → Pv i H → Gw H)
    (hs : ∀ i x H H', i < n → Pv i H → Y i H x H' → g x (L2.wipe σ vs) H' fun σ2 H2 => L2.wipe σ2 vs = L2.wipe σ vs ∧ tt σ2 H2 fun b H3 =>
      if b = true then tk σ2 H3 fun y H4 => tv σ2 H4 fun z H5 => ∃ kvs k, y = kV k ∧ H5 Dl = some (.dK kvs) ∧ kvs.length < sizeLine ∧ Pv (i + 1) (upd H5 Dl (.dK (putK kvs k z))) else Pv (i + 1) H3) (hd : ∀ H, Pv n H → Qd H) :
    ∃ W : Nat → Nat → Hp → Prop, (∃ m, W 0 m (upd H1 Dl (.dK []))) ∧ ∀ i m H, W i m H →
      (J.stop i H ∧ Qd H) ∨ (J.go i H ∧ ∃ Nx : Hp → Prop, (∀ H', Nx H' → ∃ m', m' < m ∧ W (i + 1) m' H') ∧ ∀ x H', J.yld i H x H' → g x (L2.wipe σ vs) H' fun σ2 H2 => L2.wipe σ2 vs = L2.wipe σ vs ∧ tt σ2 H2 fun b H3 =>
        if b = true then tk σ2 H3 fun y H4 => tv σ2 H4 fun z H5 => ∃ kvs k, y = kV k ∧ H5 Dl = some (.dK kvs) ∧ kvs.length < sizeLine ∧ Nx (upd H5 Dl (.dK (putK kvs k z))) else Nx H3) := by
  refine ⟨fun i m H => m = n - i ∧ i ≤ n ∧ Pv i H, ⟨n, by simp, Nat.zero_le _, h0⟩, ?_⟩
  rintro i m H ⟨rfl, hi, p⟩
  have q := hG i H hi p
  by_cases hlt : i < n
  · exact .inr ⟨w.goes i H hlt q, Pv (i + 1), fun H' p' => ⟨n - (i + 1), by omega, rfl, hlt, p'⟩, fun x H' y => hs i x H H' hlt p (w.yields i H x H' hlt q y)⟩
  · have e : i = n := by omega
    subst e
    exact .inl ⟨w.stops H q, hd H p⟩
/-- a dict comprehension keyed by ints or texts -/
def tDK (P : Pm) (ck ce : CE) (ct : CT) (ci : CI) (cf : CEs) (own : List Nat) : TE := fun σ H Q => ∃ Gh O env Qd, SR P Gh O σ H env ∧ (wpI P.G ci env fun _ items => runDC (wpTs P.G cf) (wpE P.G ck) (wpE P.G ce) ct (wipeD env own) items (fun acc => Qd (.v (.dict acc))) .mk) ∧ Fin P O H Qd Q
theorem dc_read {ck ce : CE} {ct : CT} {ci : CI} {cf : CEs} {own : List Nat} {σ : L2.St} {H : Hp} {Q : VK} (hsl : ∀ i ∈ ct.slots, i ∈ own) (h : tDK P ck ce ct ci cf own σ H Q) : tDc (tI P ci) (tG P ct) (tTs P cf) (tD P ck) (tD P ce) own σ H Q := by
  obtain ⟨Gh, O, env, Qd, S, w, f⟩ := h
  refine ⟨Gh, O, env, _, S, w, fun b items J H1 s1 p1 ic ig w1 Dl hD => ?_⟩
  have S1 := S.mono s1 p1
  have nD : Dl ≠ P.p := S1.np Dl hD
  let O1 := addO O Dl
  have op1 : O1 P.p = true := addO_sub _ S.op
  have oD : O1 Dl = true := by show (O Dl || decide (Dl = Dl)) = true; simp
  have hh : hid H1 O1 = hid H1 O := hid_add hD
  have SS : ∀ {H' : Hp}, SameP P.p H1 H' → PoolOk P.p P.a0 H' → (∃ o, H' Dl = some o) → SR P Gh O1 σ H' env := fun {H'} s p t => S1.hide hD s p t
  have sm : ∀ {H' : Hp}, SameP P.p H1 H' → Same (hid H1 O) (hid H' O1) := fun {H'} s => by
    rw [← hh]
    exact hid_same op1 s
  have wk : Walk J items.length (fun H' => SameP P.p H1 H' ∧ PoolOk P.p P.a0 H' ∧ ∃ o, H' Dl = some o) (fun i H' x H'' => SameP P.p H' H'' ∧ PoolOk P.p P.a0 H'' ∧ (∀ a o, H' a = some o → H'' a = some o) ∧ ∃ d, items[i]? = some d ∧ Rep P.K P.p (hid H'' O1) d x) :=
    ⟨fun i H' hi g => (ic O1 H' g.1 (SS g.1 g.2.1 g.2.2).oc (sm g.1)).1 i hi, fun H' g => (ic O1 H' g.1 (SS g.1 g.2.1 g.2.2).oc (sm g.1)).2.1, fun i H' x H'' hi g y => (ic O1 H' g.1 (SS g.1 g.2.1 g.2.2).oc (sm g.1)).2.2 i x H'' hi y⟩
  refine dc_it wk (fun i H' => ∃ acc ks, SameP P.p H1 H' ∧ PoolOk P.p P.a0 H' ∧ H' Dl = some (.dK ks) ∧ RepKV P.K P.p (hid H' O1) acc ks ∧ foldDC (wpTs P.G cf) (wpE P.G ck) (wpE P.G ce) ct (wipeD env own) (items.drop i) acc fun acc => Qd (.v (.dict acc)))
    ⟨[], [], SameP.new hD, p1.new hD, upd_same, rfl, w1⟩ (fun i H' _ g => ?_) (fun i x H' H'' hi g y => ?_) (fun H' g => ?_)
  · obtain ⟨acc, vs, g1, g2, g3, _⟩ := g
    exact ⟨g1, g2, _, g3⟩
  · obtain ⟨acc, ks, g1, g2, g3, g4, g5⟩ := g
    obtain ⟨y1, y2, y3, d, y4, y5⟩ := y
    have ed : items.drop i = d :: items.drop (i + 1) := by
      obtain ⟨l, e⟩ := List.getElem?_eq_some_iff.mp y4
      rw [← e]
      exact List.drop_eq_getElem_cons l
    rw [ed] at g5
    have sA := g1.trans y1
    have S2 := (SS sA y2 ⟨_, y3 _ _ g3⟩).wipe own
    refine ⟨Gh, O1, _, d, _, S2, y5, g5, fun σ' env' S3 on w3 => ⟨(on own hsl).trans (wipe_wipe own σ fun i hi => hi), Gh, O1, env', _, S3, w3, fun t H3 s3 p3 w4 => ?_⟩⟩
    have D3 : H3 Dl = some (.dK ks) := s3 _ _ nD (y3 _ _ g3)
    have R3 : RepKV P.K P.p (hid H3 O1) acc ks := RepKV.mono (hid_same op1 (y1.trans s3)) g4
    cases t with
    | true =>
      refine ⟨Gh, O1, env', _, S3.mono s3 p3, w4, fun rk vk H4 s4 p4 r4 w5 => ⟨Gh, O1, env', _, (S3.mono s3 p3).mono s4 p4, w5, fun r v H5 s5 p5 r5 w6 => ?_⟩⟩
      split at w6
      · rename_i e he
        obtain ⟨w6, w7, w8⟩ := w6
        have D5 : H5 Dl = some (.dK ks) := s5 _ _ nD (s4 _ _ nD D3)
        have R5 : RepKV P.K P.p (hid H5 O1) acc ks := RepKV.mono (hid_same op1 (s4.trans s5)) R3
        obtain ⟨kk, ek, ev⟩ := (r4.lk op1 (S3.mono s3 p3).np).key w6
        rw [ek] at w8
        refine ⟨ks, kk, ev, D5, by rw [R5.length]; exact w7, putKV acc (kD kk) e, putK ks kk v, ?_, ?_, upd_same, ?_, w8⟩
        · intro b o nb hb
          by_cases z : b = Dl
          · rw [z, hD] at hb
            cases hb
          · rw [upd_ne z]
            exact (((sA.trans s3).trans s4).trans s5) b o nb hb
        · obtain ⟨k, m, cc, ss, q, ⟨ns, l, q0⟩, rr⟩ := p5
          obtain ⟨_, _, _, _, qq, ⟨ns', _, qq0⟩, _⟩ := p1
          refine ⟨k, m, cc, ss, by rw [upd_ne nD.symm]; exact q, ⟨ns, l, ?_⟩, rr⟩
          rw [upd_ne fun z => by rw [z, hD] at qq0; cases qq0]
          exact q0
        · rw [hid_upd oD]
          exact R5.put kk (r5.esc ((S3.mono s3 p3).mono s4 p4).trk he)
      · exact False.elim w6
    | false => exact ⟨acc, ks, sA.trans s3, p3, D3, R3, w4⟩
  · obtain ⟨acc, ks, g1, g2, g3, g4, g5⟩ := g
    rw [List.drop_length] at g5
    have oDl : O Dl = false := by
      cases q : O Dl with
      | false => rfl
      | true =>
        obtain ⟨o, z⟩ := S1.trk Dl q
        rw [hD] at z
        cases z
    exact f (.v (.dict acc)) _ H' (s1.trans g1) g2 (.inr (.inl ⟨Dl, ks, rfl, hid_of g3 oDl, RepKV.mono (hid_sub addO_sub) g4⟩)) g5
theorem pd_dcompK {kx elt tg it : Expr} {ifs : List Expr} {scope : Scope} {own : List (Str × Nat)} {ck ce : CE} {ct : CT} {ci : CI} {cf : CEs} (hc : X.calm = true) (hN : X.N.Nodup) (hi : PI X tg it (tI P ci)) (ok : BlkOk X.N X.env.scope scope own)
    (hg : ∀ (s : Shared) (H : Hp) (C : Addr) (cl : List (Str × Addr)) (fp : List Addr), PG (X.blk s H scope (compEnvC scope cl C X.env) fp) tg (tG P ct)) (ht : ∀ (s : Shared) (H : Hp) (C : Addr) (cl : List (Str × Addr)) (fp : List Addr), PTs (X.blk s H scope (compEnvC scope cl C X.env) fp) ifs (tTs P cf))
    (hk : ∀ (s : Shared) (H : Hp) (C : Addr) (cl : List (Str × Addr)) (fp : List Addr), PE (X.blk s H scope (compEnvC scope cl C X.env) fp) kx (tD P ck))
    (he : ∀ (s : Shared) (H : Hp) (C : Addr) (cl : List (Str × Addr)) (fp : List Addr), PE (X.blk s H scope (compEnvC scope cl C X.env) fp) elt (tD P ce)) (hs : ∀ x, foldedSetIterable it X.env x = pure x) (hsl : ∀ i ∈ ct.slots, i ∈ own.map (·.2)) :
    PE X (.DictComp kx elt [⟨tg, it, ifs, 0⟩] scope pos) (tDK P ck ce ct ci cf (own.map (·.2))) :=
  peImp (pe_dc hc hN hi ok hg ht hk he hs) fun σ H Q h => dc_read hsl h
end
end DL

/-! CMP: comprehensions of lists and of sets with any number of fors. -/
namespace CM
open PySem PySem.Spec PyProof.Rows L2
/-- the two kinds -/
inductive CK where
  | list | set | dict (kx : Expr)
def mkC (k : CK) (elt : Expr) (gs : List Comprehension) (scope : Scope) (pos : Pos) : Expr := match k with
  | .set => .SetComp elt gs scope pos
  | .list => .ListComp elt gs scope pos
  | .dict kx => .DictComp kx elt gs scope pos
def emitC (k : CK) (elt : Expr) (acc : Value) (env : Env) : Sem Unit := match k with
  | .set => (do let v ← eval elt env; standAt elt.pos; let _ ← call (.builtin "set.add") [acc, v])
  | .list => (do let _ ← call (.builtin "list.append") [acc, ← eval elt env])
  | .dict kx => (do
      let kv ← eval kx env
      let vv ← holding [kv] (eval elt env)
      match acc with
      | .ref d => do
        standAt { kx.pos with endLine := elt.pos.endLine, endCol := elt.pos.endCol }
        holding [kv, vv] (dictSet d kv vv)
      | _ => unsupported "internal:dictcomp")
theorem turn_eq (k : CK) (elt : Expr) (gs : List Comprehension) (scope : Scope) (pos : Pos) (i : Nat) (it acc : Value) (env : Env) {t0 i0 : Expr} {ifs0 : List Expr} (h : gs[i]? = some ⟨t0, i0, ifs0, 0⟩) :
    compTurn (mkC k elt gs scope pos) i it acc env = (do
      standAt i0.pos
      match ← pyNext it with
      | none => pure (.done .next)
      | some v =>
        letOwnedTupleGo t0 it v
        assign t0 env v
        let mut ok := true
        for c in ifs0 do
          if ok then ok ← isTrue c env (eval c env)
        if ok then
          match gs[i + 1]? with
          | some g' =>
            let x ← eval g'.iter env
            standAt g'.iter.pos
            let x ← if g'.is_async != 0 then foldedIterable g'.iter x else foldedSetIterable g'.iter env x
            let _ ← runOwn (.compStart (mkC k elt gs scope pos) (i + 1) (← holding [x] (if g'.is_async != 0 then asyncIter x else pyIter x)) acc env) env
          | none => emitC k elt acc env
        again (.compLoop (mkC k elt gs scope pos) i it acc env)) := by
  cases k with
  | set =>
    show compTurn (.SetComp elt gs scope pos) i it acc env = _
    unfold compTurn
    simp only [h]
    rfl
  | list =>
    show compTurn (.ListComp elt gs scope pos) i it acc env = _
    unfold compTurn
    simp only [h]
    rfl
  | dict kx =>
    show compTurn (.DictComp kx elt gs scope pos) i it acc env = _
    unfold compTurn
    simp only [h]
    rfl
section
variable {prog : Program} {w : World} {A : Around} {R : Result → Shared → Prop} {s : Shared} {k : CK} {elt t0 i0 : Expr} {ifs0 : List Expr} {gs : List Comprehension} {scope : Scope} {pos : Pos} {i : Nat} {it acc : Value} {env : Env}
abbrev testsC (ifs : List Expr) (env : Env) : Sem Bool := forIn ifs true fun c r => if r = true then do let ok ← isTrue c env (eval c env); pure (ForInStep.yield ok) else pure (ForInStep.yield r)
/-- what is to be shown behind a turn's tests -/
def TailOk (prog : Program) (w : World) (A : Around) (k : CK) (elt : Expr) (gs : List Comprehension) (scope : Scope) (pos : Pos) (i : Nat) (acc : Value) (env : Env) (N : Shared → Prop) (s : Shared) : Prop :=
  match gs[i + 1]? with
  | some g' => wpAny (model prog w) A (eval g'.iter env) (fun x s1 => wpAny (model prog w) A (pyIter x) (fun it1 s2 => codeAny (model prog w) A (.compStart (mkC k elt gs scope pos) (i + 1) it1 acc env) (fun r s3 => match r with
      | .ok _ => N s3
      | .error _ => False) s2) (fun _ _ => False) s1) (fun _ _ => False) s
  | none => wpAny (model prog w) A (emitC k elt acc env) (fun _ s1 => N s1) (fun _ _ => False) s
/-- a loop by its turn -/
theorem loop_turn (h0 : gs[i]? = some ⟨t0, i0, ifs0, 0⟩) (hs : ∀ g', gs[i + 1]? = some g' → g'.is_async = 0 ∧ ∀ x, foldedSetIterable g'.iter env x = pure x) (I : Nat → Shared → Prop)
    (turn : ∀ n s, I n s → wpAny (model prog w) A (pyNext it) (fun r s1 => match r with
      | none => R (.ok .next) s1
      | some v => wpAny (model prog w) A (letOwnedTupleGo t0 it v) (fun _ s2 => wpAny (model prog w) A (assign t0 env v) (fun _ s3 => wpAny (model prog w) A (testsC ifs0 env) (fun ok s4 =>
          if ok = true then TailOk prog w A k elt gs scope pos i acc env (fun s5 => ∃ m, m < n ∧ I m s5) s4 else ∃ m, m < n ∧ I m s4) (fun _ _ => False) s3) (fun _ _ => False) s2) (fun _ _ => False) s1) (fun _ _ => False) s)
    (n : Nat) (h : I n s) : codeAny (model prog w) A (.compLoop (mkC k elt gs scope pos) i it acc env) R s := by
  refine codeAny_loop (by cases k <;> rfl) I (fun n s hI => ?_) n h
  have e : (model prog w).den (.compLoop (mkC k elt gs scope pos) i it acc env) = (compTurn (mkC k elt gs scope pos) i it acc env).onRaise (fun x => do noteFrame x env; theTreesLotGoes x) := by
    cases k <;> rfl
  have ea : A.under (.compLoop (mkC k elt gs scope pos) i it acc env) = A := by cases k <;> rfl
  rw [e, ea]
  refine wpAny_noted ?_
  rw [turn_eq k elt gs scope pos i it acc env h0]
  refine wpAny_bind (wpAny_standAt (wpAny_bind (wpAny_mono (turn n s hI) (fun r s1 h1 => ?_) fun _ _ z => z.elim)))
  cases r with
  | none => exact wpAny_pure h1
  | some v =>
    refine wpAny_bind (wpAny_mono h1 (fun _ s2 h2 => ?_) fun _ _ z => z.elim)
    refine wpAny_bind (wpAny_mono h2 (fun _ s3 h3 => wpAny_bind (wpAny_mono h3 (fun ok s4 h4 => ?_) fun _ _ z => z.elim)) fun _ _ z => z.elim)
    cases ok with
    | false => exact wpAny_pure ⟨rfl, h4⟩
    | true =>
      have h4 : TailOk prog w A k elt gs scope pos i acc env (fun s5 => ∃ m, m < n ∧ I m s5) s4 := h4
      unfold TailOk at h4
      cases q : gs[i + 1]? with
      | none =>
        rw [q] at h4
        exact wpAny_bind (wpAny_mono h4 (fun _ s5 h5 => wpAny_pure ⟨rfl, h5⟩) fun _ _ z => z.elim)
      | some g' =>
        rw [q] at h4
        obtain ⟨a1, a2⟩ := hs g' q
        have e1 : (g'.is_async != 0) = false := by rw [a1]; rfl
        simp only [e1, Bool.false_eq_true, if_false]
        refine wpAny_bind (wpAny_mono h4 (fun x s5 h5 => ?_) fun _ _ z => z.elim)
        refine wpAny_bind (wpAny_standAt (wpAny_bind (wpAny_of_eq (a2 x) (wpAny_bind (wpAny_holding (wpAny_mono h5 (fun it1 s6 h6 => ?_) fun _ _ z => z.elim))))))
        refine wpAny_bind (wpAny_runOwn ?_)
        rw [Around.mark_none]
        refine codeAny_mono h6 fun r s7 hr => ?_
        cases r with
        | ok f =>
          first
            | exact wpAny_pure ⟨rfl, hr⟩
            | exact wpAny_bind (wpAny_pure (wpAny_pure ⟨rfl, hr⟩))
        | error e => exact hr.elim
/-- a clause's start -/
theorem start_loop (hg : ∃ t0 i0 ifs0, gs[i]? = some ⟨t0, i0, ifs0, 0⟩) (h0 : codeAny (model prog w) A (.compLoop (mkC k elt gs scope pos) i it acc env) R s)
    (h : wpAny (model prog w) A (pyIter it) (fun it' s' => codeAny (model prog w) A (.compLoop (mkC k elt gs scope pos) i it' acc env) R s') (fun _ _ => False) s) :
    codeAny (model prog w) A (.compStart (mkC k elt gs scope pos) i it acc env) R s := by
  obtain ⟨t0, i0, ifs0, hg⟩ := hg
  have hcl : (clausesOf (mkC k elt gs scope pos))[i]? = some ⟨t0, i0, ifs0, 0⟩ := by cases k <;> exact hg
  refine codeAny_of_tree ?_
  have e : (model prog w).den (.compStart (mkC k elt gs scope pos) i it acc env) = (compStart (mkC k elt gs scope pos) i it acc env).onRaise (fun x => do noteFrame x env; standAt theWindowsPlace) := by
    cases k <;> rfl
  have ea : A.under (.compStart (mkC k elt gs scope pos) i it acc env) = A := by cases k <;> rfl
  have qt : Code.quiet (.compLoop (mkC k elt gs scope pos) i it acc env) = true := by cases k <;> rfl
  have qt2 : ∀ y, Code.quiet (.compLoop (mkC k elt gs scope pos) i y acc env) = true := by cases k <;> exact fun _ => rfl
  rw [e, ea]
  refine wpAny_notedAt ?_
  unfold compStart
  rw [hcl]
  show wpAny _ _ (ask >>= _) _ _ s
  refine wpAny_bind (wpAny_askSetting (wpAny_ite ?_))
  split
  · first
      | exact wpAny_bind (wpAny_pure (wpAny_pure (And.intro qt h0)))
      | exact wpAny_pure (And.intro qt h0)
  · refine wpAny_bind (wpAny_rule ?_)
    first
      | exact wpAny_bind (wpAny_standAt (wpAny_bind (wpAny_mono h (fun it' s' h' => wpAny_pure (And.intro (qt2 _) h')) fun _ _ x => x.elim)))
      | (show wpAny _ _ (standAt i0.pos >>= _) _ _ s; exact wpAny_bind (wpAny_standAt (wpAny_bind (wpAny_mono h (fun it' s' h' => wpAny_pure (And.intro (qt2 _) h')) fun _ _ x => x.elim))))
end
/-- a clause: for target in iter if .. -/
structure Gen where
  target : Expr
  iter : Expr
  ifs : List Expr
def Gen.c (g : Gen) : Comprehension := ⟨g.target, g.iter, g.ifs, 0⟩
/-- what it does; vs: the slots that it and those behind it store -/
structure GT where
  wi : TI
  g : TG
  tt : TT
  vs : List Nat
abbrev Body := L2.St → Hp → (Hp → Prop) → Prop
def tLoop (J : It) (G : GT) (rest : Body) : Body := fun σ H N => ∃ W : Nat → Nat → Hp → Prop, (∃ m, W 0 m H) ∧ ∀ i m H, W i m H →
  (J.stop i H ∧ N H) ∨ (J.go i H ∧ ∃ Nx : Hp → Prop, (∀ H', Nx H' → ∃ m', m' < m ∧ W (i + 1) m' H') ∧ ∀ x H', J.yld i H x H' → G.g x (wipe σ G.vs) H' fun σ2 H2 => wipe σ2 G.vs = wipe σ G.vs ∧ G.tt σ2 H2 fun b H3 =>
    if b = true then rest σ2 H3 Nx else Nx H3)
def tRest (body : Body) : List GT → Body
  | [] => body
  | G :: Gs => fun σ H N => G.wi σ H fun J H1 => tLoop J G (tRest body Gs) σ H1 N
structure PLp (Y : Cx) (g : Gen) (G : GT) : Prop where
  pg : PG Y g.target G.g
  pt : PTs Y g.ifs G.tt
structure PGen (Y : Cx) (g : Gen) (G : GT) : Prop where
  pi : PI Y g.target g.iter G.wi
  lp : PLp Y g G
  hs : ∀ x, foldedSetIterable g.iter Y.env x = pure x
/-- the element comes in -/
structure PSnk (Y : Cx) (k : CK) (elt : Expr) (D : Addr) (body : Body) : Prop where
  run : ∀ (pins : List (Addr × Obj)) (s : Shared) (σ : L2.St) (H : Hp) (N : Hp → Prop), Inv Y pins σ H s → body σ H N →
    wpAny (model Y.prog Y.w) Y.A (emitC k elt (.ref D) Y.env) (fun _ s' => ∃ H', Inv Y pins σ H' s' ∧ N H') (fun _ _ => False) s
def Nest (G : GT) : List GT → Prop
  | [] => True
  | G' :: Gs => (∀ v ∈ G'.vs, v ∈ G.vs) ∧ Nest G' Gs
/-- slots that know what σ knows outside of vs -/
def Knows (σ σ' : L2.St) (vs : List Nat) : Prop := σ'.length = σ.length ∧ ∀ (j : Nat) (v : V), j ∉ vs → σ[j]? = some (some v) → σ'[j]? = some (some v)
section
variable {Y : Cx} {k : CK} {elt : Expr} {gs : List Comprehension} {scope : Scope} {pos : Pos} {D : Addr} {body : Body}
/-- a clause's loop -/
theorem loop_ok (hc : Y.calm = true) (hx : Y.xe = fun _ _ => False) (PS : PSnk Y k elt D body) : ∀ (rem : List (Gen × GT)) (g : Gen) (G : GT) (i : Nat), gs.drop i = g.c :: rem.map (·.1.c) → PLp Y g G → (∀ p ∈ rem, PGen Y p.1 p.2) → Nest G (rem.map (·.2)) →
    ∀ (pins : List (Addr × Obj)) (s : Shared) (σ : L2.St) (H : Hp) (N : Hp → Prop) (it : Addr) (fp : List Addr) (tn : Nat → Heap → Prop) (J : It), Inv Y pins σ H s → Turn Y.prog Y.w Y.K g.target J fp it tn → tn 0 s.heap → (∀ b ∈ fp, FpOk Y pins H b) → tLoop J G (tRest body (rem.map (·.2))) σ H N →
    codeAny (model Y.prog Y.w) Y.A (.compLoop (mkC k elt gs scope pos) i (.ref it) (.ref D) Y.env) (fun r s' => match r with
      | .ok f => f = .next ∧ ∃ σ' H', Inv Y pins σ' H' s' ∧ Knows σ σ' G.vs ∧ N H'
      | .error _ => False) s := by
  intro rem
  induction rem with
  | nil =>
    intro g G i hgs PG0 _ _ pins s σ H N it fp tn J I T st f h
    have e : gs[i + 1]? = none := by
      have q := congrArg List.length hgs
      rw [List.length_drop] at q
      simp at q
      rw [List.getElem?_eq_none]
      omega
    exact go g G i [] (by simpa using hgs) PG0 (fun g' h' => by
      rw [e] at h'
      cases h') (fun pins s σ H N I h => by
      unfold TailOk
      rw [e]
      exact wpAny_mono (PS.run pins s σ H N I h) (fun _ s' q => by
        obtain ⟨H', I', n⟩ := q
        exact ⟨σ, H', I', ⟨rfl, fun _ _ _ h => h⟩, n⟩) fun _ _ z => z) pins s σ H N it fp tn J I T st f h
  | cons p rem ih =>
    intro g G i hgs PG0 PGs ne pins s σ H N it fp tn J I T st f h
    have PG1 := PGs p List.mem_cons_self
    have ih' := ih p.1 p.2 (i + 1) (by
      have q := congrArg List.tail hgs
      rw [List.tail_drop] at q
      simpa using q) PG1.lp (fun q hq => PGs q (List.mem_cons_of_mem _ hq)) ne.2
    have e : gs[i + 1]? = some p.1.c := by
      have q := congrArg (fun l => l[1]?) hgs
      simp at q
      exact q
    exact go g G i (p :: rem) hgs PG0 (fun g' h' => by
      rw [e] at h'
      cases h'
      exact ⟨rfl, PG1.hs⟩) (fun pins s σ H N I h => by
      unfold TailOk
      rw [e]
      have r := PG1.pi.run pins s σ H _ I h
      rw [hx] at r
      refine wpAny_mono r (fun x s1 h1 => wpAny_mono h1 (fun itv s2 h2 => ?_) fun _ _ z => z) fun _ _ z => z
      obtain ⟨it1, fp1, tn1, J1, H1, rfl, I1, T1, st1, f1, q1⟩ := h2
      have lp := ih' pins s2 σ H1 N it1 fp1 tn1 J1 I1 T1 st1 f1 q1
      have lp' : codeAny (model Y.prog Y.w) Y.A (.compLoop (mkC k elt gs scope pos) (i + 1) (.ref it1) (.ref D) Y.env) (fun r s3 => match r with
          | .ok _ => ∃ σ' H', Inv Y pins σ' H' s3 ∧ Knows σ σ' G.vs ∧ N H'
          | .error _ => False) s2 := by
        refine codeAny_mono lp fun r s3 q => ?_
        cases r with
        | error e => exact q
        | ok fl =>
          obtain ⟨_, σ', H', I', ⟨k1, k2⟩, n⟩ := q
          exact ⟨σ', H', I', ⟨k1, fun j v hj hv => k2 j v (fun z => hj (ne.1 j z)) hv⟩, n⟩
      refine start_loop ⟨_, _, _, e⟩ lp' (T1.self Y.A 0 s2 _ _ st1 lp')) pins s σ H N it fp tn J I T st f h
where
  go (g : Gen) (G : GT) (i : Nat) (rem : List (Gen × GT)) (hgs : gs.drop i = g.c :: rem.map (·.1.c)) (PG0 : PLp Y g G) (hs : ∀ g', gs[i + 1]? = some g' → g'.is_async = 0 ∧ ∀ x, foldedSetIterable g'.iter Y.env x = pure x)
      (tail : ∀ (pins : List (Addr × Obj)) (s : Shared) (σ : L2.St) (H : Hp) (N : Hp → Prop), Inv Y pins σ H s → tRest body (rem.map (·.2)) σ H N → TailOk Y.prog Y.w Y.A k elt gs scope pos i (.ref D) Y.env (fun s' => ∃ σ' H', Inv Y pins σ' H' s' ∧ Knows σ σ' G.vs ∧ N H') s)
      (pins : List (Addr × Obj)) (s : Shared) (σ : L2.St) (H : Hp) (N : Hp → Prop) (it : Addr) (fp : List Addr) (tn : Nat → Heap → Prop) (J : It) (I : Inv Y pins σ H s) (T : Turn Y.prog Y.w Y.K g.target J fp it tn) (st : tn 0 s.heap) (f : ∀ b ∈ fp, FpOk Y pins H b) (h : tLoop J G (tRest body (rem.map (·.2))) σ H N) :
      codeAny (model Y.prog Y.w) Y.A (.compLoop (mkC k elt gs scope pos) i (.ref it) (.ref D) Y.env) (fun r s' => match r with
        | .ok f => f = .next ∧ ∃ σ' H', Inv Y pins σ' H' s' ∧ Knows σ σ' G.vs ∧ N H'
        | .error _ => False) s := by
    obtain ⟨W, ⟨m0, w0⟩, turn⟩ := h
    have e0 : gs[i]? = some g.c := by
      have q := congrArg (fun l => l[0]?) hgs
      simp at q
      exact q
    have stat : ∀ {H' : Hp}, (∀ b ∈ fp, H' b = none) → ∀ b ∈ fp, FpOk Y pins H' b := fun hn b hb => ⟨hn b hb, (f b hb).2⟩
    refine loop_turn (t0 := g.target) (i0 := g.iter) (ifs0 := g.ifs) e0 hs (fun n s' => ∃ j H', Inv Y pins (wipe σ G.vs) H' s' ∧ tn j s'.heap ∧ (∀ b ∈ fp, H' b = none) ∧ W j n H') ?_ m0 ⟨0, H, I.weak (wipe_length _ _) (fun j v e => (wipe_some e).1), st, fun b hb => (f b hb).1, w0⟩
    rintro n s5 ⟨j, H5, I5, st5, n5, w5⟩
    rcases turn j n H5 w5 with ⟨stop, nn⟩ | ⟨go, Nx, hNx, step⟩
    · refine thnF (T.done Y rfl rfl rfl hc j pins s5 _ H5 (fun _ _ => False) I5 (stat n5) st5 stop) fun r s6 q => ?_
      obtain ⟨hr, I6⟩ := q
      subst hr
      exact ⟨rfl, _, H5, I6, ⟨wipe_length _ _, fun j v hj hv => by rw [wipe_out hj]; exact hv⟩, nn⟩
    · refine thnF (T.item Y rfl rfl rfl hc j pins s5 _ H5 (fun _ _ => False) I5 (stat n5) st5 go) fun r s6 q => ?_
      obtain ⟨u, hr, h6⟩ := q
      subst hr
      refine thnF h6 fun _ s7 q7 => ?_
      obtain ⟨x, H7, I7, r7, y7, st7, n7⟩ := q7
      have I7' := I7.pinned (stat n7) (T.obj _ _ st7)
      have r8 := PG0.pg.run _ s7 _ H7 x u _ I7' r7 (step x H7 y7)
      rw [hx] at r8
      refine thnF r8 fun _ s8 q8 => ?_
      obtain ⟨σ8, H8, I8, hw8, q8⟩ := q8
      have r9 := PG0.pt.run _ s8 σ8 H8 _ I8 q8
      rw [hx] at r9
      refine thnF r9 fun b s9 q9 => ?_
      obtain ⟨H9, I9, q9⟩ := q9
      have fin : ∀ {σ9 : L2.St} {s' : Shared} {H' : Hp}, Inv Y (pins ++ pinsAt fp s7.heap) σ9 H' s' → Knows σ8 σ9 G.vs → Nx H' → ∃ m, m < n ∧ ∃ j H', Inv Y pins (wipe σ G.vs) H' s' ∧ tn j s'.heap ∧ (∀ b ∈ fp, H' b = none) ∧ W j m H' := fun {σ9 s' H'} I' kn nx => by
        obtain ⟨m', hm, w'⟩ := hNx H' nx
        have pin' : ∀ b ∈ fp, ∀ o, s7.heap.get? b = some o → s'.heap.get? b = some o ∧ H' b = none := fun b hb o e =>
          let z := I'.pin (b, o) (List.mem_append_right _ (List.mem_append_right _ (mem_pinsAt hb e)))
          ⟨z.1, z.2.1⟩
        refine ⟨m', hm, j + 1, H', (I'.unpinned (pins := pins)).weak ?_ (fun a v e => ?_), T.keep _ _ _ st7 fun b hb o e => (pin' b hb o e).1, fun b hb => ?_, w'⟩
        · rw [kn.1, ← wipe_length σ8 G.vs, hw8]
        · rw [← hw8] at e
          obtain ⟨e1, e2⟩ := wipe_some e
          exact kn.2 a v e2 e1
        · obtain ⟨o, e, _⟩ := T.obj _ _ st7 b hb
          exact (pin' b hb o e).2
      cases b with
      | false =>
        simp only [Bool.false_eq_true, if_false] at q9 ⊢
        exact fin I9 ⟨rfl, fun _ _ _ h => h⟩ q9
      | true =>
        simp only [if_true] at q9 ⊢
        have tl := tail _ s9 σ8 H9 _ I9 q9
        unfold TailOk at tl ⊢
        cases q : gs[i + 1]? with
        | none =>
          rw [q] at tl
          exact wpAny_mono tl (fun _ s' z => by
            obtain ⟨σ', H', I', kn, nx⟩ := z
            exact fin I' kn nx) fun _ _ z => z
        | some g' =>
          rw [q] at tl
          refine wpAny_mono tl (fun x s1 h1 => wpAny_mono h1 (fun it1 s2 h2 => codeAny_mono h2 fun r s3 hr => ?_) fun _ _ z => z) fun _ _ z => z
          cases r with
          | error e => exact hr
          | ok fl =>
            obtain ⟨σ', H', I', kn, nx⟩ := hr
            exact fin I' kn nx
end
section
variable {X : Cx} {k : CK}
/-- a whole comprehension: the first clause's iterator comes in the frame, the rest in the block; D the new list or set -/
def tCmp (new : Addr → HO) (wi : TI) (G : GT) (Gs : List GT) (body : Addr → Body) : TE := fun σ H Q => wi σ H fun J H1 => ∀ D, H1 D = none → tLoop J G (tRest (body D) Gs) σ (upd H1 D (new D)) fun H' => Q (.ref D) H'
/-- the clauses in any block -/
def BLp (X : Cx) (scope : Scope) (g : Gen) (G : GT) : Prop := ∀ (s : Shared) (H : Hp) (C : Addr) (cl : List (Str × Addr)) (fp : List Addr), PLp (X.blk s H scope (compEnvC scope cl C X.env) fp) g G
def BGen (X : Cx) (scope : Scope) (g : Gen) (G : GT) : Prop := ∀ (s : Shared) (H : Hp) (C : Addr) (cl : List (Str × Addr)) (fp : List Addr), PGen (X.blk s H scope (compEnvC scope cl C X.env) fp) g G
def BSnk (X : Cx) (scope : Scope) (k : CK) (elt : Expr) (D : Addr) (body : Body) : Prop := ∀ (s : Shared) (H : Hp) (C : Addr) (cl : List (Str × Addr)) (fp : List Addr), PSnk (X.blk s H scope (compEnvC scope cl C X.env) fp) k elt D body
theorem cmp_core {pins : List (Addr × Obj)} {s : Shared} {σ : L2.St} {H : Hp} {Q : VK} {elt : Expr} {g : Gen} {G : GT} {rem : List (Gen × GT)} {scope : Scope} {own : List (Str × Nat)} {pos pos' : Pos} {wi : TI} {body : Addr → Body} {new : Addr → HO} {newAcc : Sem Value} {Qf : Value → Shared → Prop}
    (hc : X.calm = true) (hN : X.N.Nodup) (I : Inv X pins σ H s) (hi : PI X g.target g.iter wi) (ok : BlkOk X.N X.env.scope scope own) (hG : G.vs = own.map (·.2)) (ne : Nest G (rem.map (·.2)))
    (hg : BLp X scope g G) (hgs : ∀ p ∈ rem, BGen X scope p.1 p.2) (hb : ∀ D, BSnk X scope k elt D (body D)) (hs : ∀ x, foldedSetIterable g.iter X.env x = pure x)
    (hnew : ∀ (s2 : Shared) (H2 : Hp) (Q' : Value → Shared → Prop), Inv X pins σ H2 s2 → (∀ s3 D, D = s2.heap.objs.size → (∃ o, s3.heap = s2.heap.push o) → Inv X pins σ (upd H2 D (new D)) s3 → Q' (.ref D) s3) → wpAny (model X.prog X.w) X.A newAcc Q' X.xe s2)
    (h : tCmp new wi G (rem.map (·.2)) body σ H Q)
    (hRR : ∀ D C s' m H', Inv X pins σ H' s' → Q (.ref D) H' → s'.heap.Ns C m → FpOk X pins H' C → compPost (model X.prog X.w) X.A X.xe none Qf (.ref D) C (.ok .next) s') :
    wpAny (model X.prog X.w) X.A (comprehension (mkC k elt (g.c :: rem.map (·.1.c)) scope pos) scope X.env pos' newAcc false (eval g.iter X.env) none) Qf X.xe s := by
  have hfree : ∀ y ∈ scope.names, y.2 = .free → ∃ c, X.env.cells.lookup y.1 = some c := fun y hy e => by
    rcases ok.free y hy e with z | z
    · exact I.ok.has _ (.inl z)
    · exact I.ok.has _ (.inr z)
  have hcl : clausesOf (mkC k elt (g.c :: rem.map (·.1.c)) scope pos) = g.c :: rem.map (·.1.c) := by cases k <;> rfl
  refine wpAny_comprehension_free (use := none) hcl hs (closure_ok hfree) ok.kind (fun y hy e => by rw [ok.uniq y hy, e])
    (thn (hi.run pins s σ H _ I h) fun xv s1 hx => thn hx fun itv s2 h2 => ?_)
  obtain ⟨it, fp, tn, J, H2, e, I2, T, st2, f2, q⟩ := h2
  subst e
  refine hnew s2 H2 _ I2 fun s3 D hD ⟨o3, h3⟩ I3 => newEnv_comp ?_
  have hDn : H2 D = none := I2.hok.fresh (Nat.le_of_eq hD.symm)
  have lp := q D hDn
  have sz : ∀ b ∈ fp, b < s2.heap.objs.size := fun b hb => by
    obtain ⟨o, e, _⟩ := T.obj _ _ st2 b hb
    exact Heap.lt_size e
  have f3 : ∀ b ∈ fp, FpOk X pins (upd H2 D (new D)) b ∧ b < s3.heap.objs.size := fun b hb => by
    have hlt := sz b hb
    refine ⟨⟨?_, (f2 b hb).2⟩, by rw [h3, Heap.size_push]; exact Nat.lt_succ_of_lt hlt⟩
    rw [upd_ne (by rw [hD]; exact Nat.ne_of_lt hlt)]
    exact (f2 b hb).1
  have st3 : tn 0 s3.heap := T.keep _ _ _ st2 fun b _ o e => by rw [h3]; exact Heap.get?_push_of_some _ e
  generalize hH3 : upd H2 D (new D) = H3 at I3 lp f3
  have I4 := block_start I3 ok hN f3
  have nfp : ∀ b ∈ fp, H3 b = none := fun b hb => (f3 b hb).1.1
  have pg := hg s3 H3 s3.heap.objs.size (cellsFrom (s3.heap.objs.size + 1) scope.names (cloFrom X.env.cells scope.names [])) fp
  have pgs := fun p (hp : p ∈ rem) => hgs p hp s3 H3 s3.heap.objs.size (cellsFrom (s3.heap.objs.size + 1) scope.names (cloFrom X.env.cells scope.names [])) fp
  have ps := hb D s3 H3 s3.heap.objs.size (cellsFrom (s3.heap.objs.size + 1) scope.names (cloFrom X.env.cells scope.names [])) fp
  show codeAny _ _ (.compStart (mkC k elt (g.c :: rem.map (·.1.c)) scope pos) 0 (.ref it) (.ref D) (compEnvC scope (cellsFrom (s3.heap.objs.size + 1) scope.names (cloFrom X.env.cells scope.names [])) s3.heap.objs.size X.env)) (compPost (model X.prog X.w) X.A X.xe none Qf (.ref D) s3.heap.objs.size) { s3 with heap := pushCells (s3.heap.push { cls := .type "dict", data := .dict #[] }) scope.names }
  generalize hce : compEnvC scope (cellsFrom (s3.heap.objs.size + 1) scope.names (cloFrom X.env.cells scope.names [])) s3.heap.objs.size X.env = ce at I4 pg pgs ps ⊢
  have cL : ce.locals = s3.heap.objs.size := by subst hce; rfl
  generalize hs4 : ({ s3 with heap := pushCells (s3.heap.push { cls := .type "dict", data := .dict #[] }) scope.names } : Shared) = s4 at I4 ⊢
  have st4 : tn 0 s4.heap := T.keep _ _ _ st3 fun b _ o e => by rw [← hs4]; exact pushCells_keeps _ _ _ _ (Heap.get?_push_of_some _ e)
  have stat : ∀ b ∈ fp, FpOk (X.blk s3 H3 scope ce fp) [] H3 b := fun b hb =>
    ⟨nfp b hb, (I4.ok.exf b hb).1, I4.ok.exfs b hb, .inl hb, fun x c e => (I4.ok.exf b hb).2 x c e, fun p hp => absurd (show p ∈ ([] : List (Addr × Obj)) ++ [] from hp) (by simp)⟩
  have tl : tLoop J G (tRest (body D) (rem.map (·.2))) (wipe σ (own.map (·.2))) H3 fun H' => Q (.ref D) H' := by
    have ww : ∀ vs : List Nat, wipe (wipe σ vs) vs = wipe σ vs := fun vs => by
      refine List.ext_getElem? fun j => ?_
      by_cases hj : j ∈ vs
      · cases e : (wipe σ vs)[j]? with
        | none =>
          rw [List.getElem?_eq_none_iff] at e ⊢
          rw [wipe_length]
          exact e
        | some v =>
          cases v with
          | some v => exact absurd hj (wipe_some e).2
          | none =>
            have l : j < (wipe (wipe σ vs) vs).length := by
              rw [wipe_length]
              exact (List.getElem?_eq_some_iff.mp e).1
            rw [List.getElem?_eq_getElem l]
            cases e2 : (wipe (wipe σ vs) vs)[j] with
            | none => rfl
            | some v =>
              have e3 : (wipe (wipe σ vs) vs)[j]? = some (some v) := by rw [List.getElem?_eq_getElem l, e2]
              exact absurd hj (wipe_some e3).2
      · exact wipe_out hj
    obtain ⟨W, w0, tr⟩ := lp
    refine ⟨W, w0, fun i m H w => ?_⟩
    rw [← hG]
    rcases tr i m H w with z | ⟨z, Nx, z1, z2⟩
    · exact .inl z
    · refine .inr ⟨z, Nx, z1, fun x H' y => ?_⟩
      rw [ww]
      exact z2 x H' y
  have loop : codeAny (model X.prog X.w) X.A (.compLoop (mkC k elt (g.c :: rem.map (·.1.c)) scope pos) 0 (.ref it) (.ref D) ce) (compPost (model X.prog X.w) X.A X.xe none Qf (.ref D) s3.heap.objs.size) s4 := by
    refine codeAny_mono (loop_ok (Y := X.blk s3 H3 scope ce fp) hc rfl ps rem g G 0 (by simp) pg pgs ne [] s4 _ H3 _ it fp tn J I4 T st4 stat tl) fun r s6 hr => ?_
    cases r with
    | error e => exact hr.elim
    | ok f =>
      obtain ⟨rfl, σ', H5, I6, kn, qq⟩ := hr
      have I7 : Inv X pins σ H5 s6 := I3.call' (ch := fp) I6.os I6.base I6.hok I6.bare fun b hb => ⟨(f3 b hb).1.2.2.2.1, (f3 b hb).1.2.1, (f3 b hb).1.2.2.2.2.1, (f3 b hb).1.2.2.2.2.2⟩
      have nC : H5 s3.heap.objs.size = none := by
        have z : H5 ce.locals = none := I6.free
        rw [cL] at z
        exact z
      obtain ⟨m, hn, _⟩ := I6.loc
      have hn : s6.heap.Ns ce.locals m := hn
      rw [cL] at hn
      exact hRR D s3.heap.objs.size s6 m H5 I7 qq hn (I3.fpOk (Nat.le_refl _) nC)
  exact start_loop ⟨_, _, _, rfl⟩ loop (T.self X.A 0 _ _ _ st4 loop)
/-! ### lists -/
def addL (te : TE) (D : Addr) : Body := fun σ H N => te σ H fun y H4 => ∃ acc, H4 D = some (.lst acc) ∧ acc.length < sizeLine ∧ N (upd H4 D (.lst (acc ++ [y])))
theorem snkL {Y : Cx} {elt : Expr} {te : TE} {D : Addr} (hx : Y.xe = fun _ _ => False) (he : PE Y elt te) : PSnk Y .list elt D (addL te D) := ⟨fun pins s σ H N I h => by
  unfold emitC
  have r := he.run pins s σ H _ I h
  rw [hx] at r
  refine wpAny_bind (thnF r fun v s1 q => ?_)
  obtain ⟨y, H4, I4, ry, acc, hD, hz, n⟩ := q
  exact wpAny_bind (app_ok I4 hD hz ry fun s' I' => wpAny_pure ⟨_, I', n⟩)⟩
theorem pe_cmpL {elt : Expr} {g : Gen} {G : GT} {rem : List (Gen × GT)} {scope : Scope} {own : List (Str × Nat)} {pos : Pos} {wi : TI} {te : TE} (hc : X.calm = true) (hN : X.N.Nodup) (hi : PI X g.target g.iter wi) (ok : BlkOk X.N X.env.scope scope own) (hG : G.vs = own.map (·.2)) (ne : Nest G (rem.map (·.2)))
    (hg : BLp X scope g G) (hgs : ∀ p ∈ rem, BGen X scope p.1 p.2) (he : ∀ (s : Shared) (H : Hp) (C : Addr) (cl : List (Str × Addr)) (fp : List Addr), PE (X.blk s H scope (compEnvC scope cl C X.env) fp) elt te) (hs : ∀ x, foldedSetIterable g.iter X.env x = pure x) :
    PE X (.ListComp elt (g.c :: rem.map (·.1.c)) scope pos) (tCmp (fun _ => .lst []) wi G (rem.map (·.2)) (addL te)) := by
  refine ⟨fun pins s σ H Q I h => ?_⟩
  rw [eval_ListComp]
  refine cmp_core (k := .list) hc hN I hi ok hG ne hg hgs (fun D s H C cl fp => snkL rfl (he s H C cl fp)) hs (fun s2 H2 Q' I2 q => ?_) h fun D C s' m H' I' q hn f => ⟨m, hn, fun h'' sb => ?_⟩
  · refine wpAny_newObj_type ?_ (by show 0 ≤ sizeLine; decide)
    refine q _ _ rfl ⟨_, rfl⟩ ?_
    refine I2.laid (t' := s2.toks) (fun b o e => Heap.get?_push_of_some _ e) (Nat.le_refl _) ⟨Nat.zero_le _, [], 0, .nil, ?_⟩
    exact Heap.get?_push_size _ rfl
  · obtain ⟨f0, f1, f2, f3, f4, f5⟩ := f
    exact ⟨.ref D, H', I'.turned (t' := s'.toks) (fun b o hb e => (sb.2 b hb).trans e) f0 f1 f3 f4 f5, rfl, q⟩
/-! ### sets of ints and texts -/
def addK (P : Program) (w : World) (te : TE) (D : Addr) : Body := fun σ H N => te σ H fun y H4 => ∃ (c : Key) (S : Key → Bool) (n : Nat), y = kV c ∧ H4 D = some (SetK P w D S n) ∧ n + 1 < scanBound ∧ N (upd H4 D (SetK P w D (fun j => S j || decide (j = c)) (if S c = true then n else n + 1)))
theorem snkK {Y : Cx} {elt : Expr} {te : TE} {D : Addr} (hx : Y.xe = fun _ _ => False) (he : PE Y elt te) : PSnk Y .set elt D (addK Y.prog Y.w te D) := ⟨fun pins s σ H N I h => by
  unfold emitC
  have r := he.run pins s σ H _ I h
  rw [hx] at r
  refine wpAny_bind (thnF r fun v s1 q => ?_)
  obtain ⟨y, H4, I4, ry, c, S, n, rfl, hD, room, nn⟩ := q
  refine wpAny_bind (wpAny_standAt ?_)
  refine wpAny_bind (wpAny_mono (mt_saddK (X := Y) pins s1 σ H4 (.ref D) [kV c] (.ref D) [v] (fun y H' => y = .non ∧ N H') I4 rfl (.cons ry .nil) ⟨D, c, S, n, rfl, rfl, hD, room, rfl, nn⟩) (fun r s2 q => ?_) (fun e s2 q => ?_))
  · obtain ⟨v', H', I', _, _, nn⟩ := q
    exact wpAny_pure ⟨H', I', nn⟩
  · rw [hx] at q
    exact q⟩
theorem pe_cmpK {elt : Expr} {g : Gen} {G : GT} {rem : List (Gen × GT)} {scope : Scope} {own : List (Str × Nat)} {pos : Pos} {wi : TI} {te : TE} (hc : X.calm = true) (hN : X.N.Nodup) (hi : PI X g.target g.iter wi) (ok : BlkOk X.N X.env.scope scope own) (hG : G.vs = own.map (·.2)) (ne : Nest G (rem.map (·.2)))
    (hg : BLp X scope g G) (hgs : ∀ p ∈ rem, BGen X scope p.1 p.2) (he : ∀ (s : Shared) (H : Hp) (C : Addr) (cl : List (Str × Addr)) (fp : List Addr), PE (X.blk s H scope (compEnvC scope cl C X.env) fp) elt te) (hs : ∀ x, foldedSetIterable g.iter X.env x = pure x) :
    PE X (.SetComp elt (g.c :: rem.map (·.1.c)) scope pos) (tCmp (fun D => SetK X.prog X.w D (fun _ => false) 0) wi G (rem.map (·.2)) (addK X.prog X.w te)) := by
  refine ⟨fun pins s σ H Q I h => ?_⟩
  rw [PpSet.eval_SetComp]
  refine cmp_core (k := .set) hc hN I hi ok hG ne hg hgs (fun D s H C cl fp => snkK rfl (he s H C cl fp)) hs (fun s2 H2 Q' I2 q => ?_) h fun D C s' m H' I' q hn f => ⟨m, hn, fun h'' sb => ?_⟩
  · refine PpSet.newSet_ok ?_
    refine q _ _ rfl ⟨_, rfl⟩ ?_
    have new : (s2.heap.push { cls := .type "set", dict := none, data := .set #[] 0 (.fresh 0 0 (!X.w.params.followText "set-order")) }).SetOf (mixKind X.prog X.w) s2.heap.objs.size (fun _ => false) 0 :=
      ⟨_, #[], 0, _, Heap.get?_push_size _ rfl, ⟨rfl, rfl, rfl⟩, rfl, (fun e he => by simp at he), (fun k => by simp), (by decide), (by rfl), rfl⟩
    exact I2.laid (t' := s2.toks) (fun b o e => Heap.get?_push_of_some _ e) (Nat.le_refl _) (setK_new new)
  · obtain ⟨f0, f1, f2, f3, f4, f5⟩ := f
    exact ⟨.ref D, H', I'.turned (t' := s'.toks) (fun b o hb e => (sb.2 b hb).trans e) f0 f1 f3 f4 f5, rfl, q⟩
end
end CM

/-! DL5N: comprehensions with several fors, by values. -/
namespace DL
open PySem PySem.Spec PyProof.Rows L2 CM
/-- all stays but the pool and the new list -/
def FrD (p Dl : Addr) (H H' : Hp) : Prop := ∀ b o, b ≠ p → b ≠ Dl → H b = some o → H' b = some o
theorem FrD.refl {p Dl : Addr} (H : Hp) : FrD p Dl H H := fun _ _ _ _ h => h
theorem FrD.trans {p Dl : Addr} {H H1 H2 : Hp} (a : FrD p Dl H H1) (b : FrD p Dl H1 H2) : FrD p Dl H H2 := fun x o n m h => b x o n m (a x o n m h)
theorem SameP.frD {p Dl : Addr} {H H' : Hp} (s : SameP p H H') : FrD p Dl H H' := fun b o n _ h => s b o n h
def NoDl (Dl : Addr) (σ : L2.St) (env : En) : Prop := ∀ (i : Nat) (u : Sl), env[i]? = some u → isOwn u = true → σ[i]? ≠ some (some (V.ref Dl))
section
variable {P : Pm} {Gh : List (D × V)} {O : Addr → Bool} {σ σ' : L2.St} {H H' : Hp} {env : En} {Dl : Addr}
theorem hid_frD (op : O P.p = true) (od : O Dl = true) (f : FrD P.p Dl H H') : Same (hid H O) (hid H' O) := fun b o h => by
  obtain ⟨h1, h2⟩ := hid_some h
  exact hid_of (f b o (fun z => by rw [z, op] at h2; cases h2) (fun z => by rw [z, od] at h2; cases h2) h1) h2
theorem SR.stepD (S : SR P Gh O σ H env) (nd : NoDl Dl σ env) (od : O Dl = true) (h0 : P.H0 Dl = none) (f : FrD P.p Dl H H') (q : PoolOk P.p P.a0 H') (t : ∃ o, H' Dl = some o) : SR P Gh O σ H' env where
  same := fun b o n h => f b o n (fun z => by rw [z, h0] at h; cases h) (S.same b o n h)
  pool := q
  pool0 := S.pool0
  op := S.op
  trk := fun a h => by
    by_cases e : a = P.p
    · obtain ⟨_, _, _, _, z, _⟩ := q
      exact ⟨_, by rw [e]; exact z⟩
    · by_cases e2 : a = Dl
      · rw [e2]; exact t
      · obtain ⟨o, h1⟩ := S.trk a h
        exact ⟨o, f a o e e2 h1⟩
  sub := S.sub
  len := S.len
  sl := fun i x e => by
    have h := S.sl i x e
    have sm := hid_frD S.op od f
    cases x with
    | no => exact trivial
    | val d =>
      obtain ⟨v, h1, h2⟩ := h
      exact ⟨v, h1, Rep.mono sm h2⟩
    | own ds =>
      obtain ⟨a, vs, h1, h2, h3, h4, h5, h6⟩ := h
      exact ⟨a, vs, h1, f a _ h5 (fun z => nd i _ e rfl (by rw [← z]; exact h1)) h2, h3, h4, h5, RepL.mono sm h6⟩
    | dic kvs =>
      obtain ⟨a, vs, h1, h2, h3, h4, h5, h6⟩ := h
      exact ⟨a, vs, h1, f a _ h5 (fun z => nd i _ e rfl (by rw [← z]; exact h1)) h2, h3, h4, h5, RepX.mono sm h6⟩
  inj := S.inj
  gh := fun g hg => Rep.mono (hid_frD S.op od f) (S.gh g hg)
theorem NoDl.wipe (nd : NoDl Dl σ env) : ∀ vs : List Nat, NoDl Dl (L2.wipe σ vs) (wipeD env vs)
  | [] => nd
  | v :: vs => fun i u e o => by
    have ih := NoDl.wipe nd vs
    show ((L2.wipe σ vs).set v none)[i]? ≠ _
    have e : ((wipeD env vs).set v .no)[i]? = some u := e
    by_cases z : v = i
    · subst z
      intro q
      by_cases l : v < (L2.wipe σ vs).length
      · rw [List.getElem?_set_self l] at q; cases q
      · rw [List.getElem?_eq_none (by simpa using l)] at q; cases q
    · rw [List.getElem?_set_ne z] at e ⊢
      exact ih i u e o
/-- own slots of e are own slots of env, no targets -/
def OwnSub (is : List Nat) (env e : En) : Prop := ∀ (i : Nat) (u : Sl), e[i]? = some u → isOwn u = true → i ∉ is ∧ env[i]? = some u
theorem ownSub_set {is : List Nat} {env e : En} {i : Nat} {d : D} (h : OwnSub is env e) : OwnSub (i :: is) env (e.set i (.val d)) := fun j u q o => by
  by_cases z : i = j
  · subst z
    by_cases l : i < e.length
    · rw [List.getElem?_set_self l] at q
      cases q
      cases o
    · rw [List.getElem?_eq_none (by simpa using l)] at q
      cases q
  · rw [List.getElem?_set_ne z] at q
    obtain ⟨h1, h2⟩ := h j u q o
    exact ⟨by simp [h1]; exact fun w => z w.symm, h2⟩
theorem setAll_own : ∀ {is : List Nat} {ds : List D} {env e : En}, setAll is ds env = some e → OwnSub is env e
  | [], [], env, e, h => by
    have h' := Option.some.inj h
    subst h'
    exact fun i u q o => ⟨by simp, q⟩
  | i :: is, d :: ds, env, e, h => by
    have ih := setAll_own (is := is) (ds := ds) h
    intro j u q o
    obtain ⟨h1, h2⟩ := ih j u q o
    have base : OwnSub [i] env (env.set i (.val d)) := ownSub_set (is := []) fun j u q o => ⟨by simp, q⟩
    obtain ⟨h3, h4⟩ := base j u h2 o
    refine ⟨?_, h4⟩
    rw [List.mem_cons, not_or]
    exact ⟨by simpa using h3, h1⟩
  | [], _ :: _, _, _, h => by cases h
  | _ :: _, [], _, _, h => by cases h
theorem tgD_own {tg : CT} {d : D} {env : En} {Q : En → Prop} (h : tgD tg d env Q) : tgD tg d env fun e => Q e ∧ OwnSub tg.slots env e := by
  cases tg with
  | nm i => exact ⟨h, ownSub_set (is := []) fun j u q o => ⟨by simp, q⟩⟩
  | tp is =>
    cases d with
    | tuple ds =>
      simp only [tgD] at h ⊢
      cases e : setAll is ds env with
      | none => rw [e] at h; exact h
      | some e2 =>
        rw [e] at h
        exact ⟨h, setAll_own e⟩
    | _ => exact h
theorem NoDl.tg {env e : En} {is : List Nat} (nd : NoDl Dl σ env) (on : Only is σ σ') (os : OwnSub is env e) : NoDl Dl σ' e := fun i u q o => by
  obtain ⟨h1, h2⟩ := os i u q o
  have w := on is fun i hi => hi
  have e1 : σ'[i]? = σ[i]? := by
    rw [← wipe_out (σ := σ') h1, w, wipe_out h1]
  rw [e1]
  exact nd i u h2 o
end
/-- what the new object holds, by the heap -/
structure Acc (α : Type) (P : Pm) (O1 : Addr → Bool) (Dl : Addr) (AR : α → Hp → Prop) : Prop where
  at_ : ∀ {a : α} {H : Hp}, AR a H → ∃ o, H Dl = some o
  up : ∀ {a : α} {H H' : Hp}, SameP P.p H H' → AR a H → AR a H'
/-- what is behind a clause does what the data say -/
def RestOk {α : Type} (P : Pm) (Gh : List (D × V)) (O1 : Addr → Bool) (Dl : Addr) (AR : α → Hp → Prop) (rest : Body) (inner : En → α → (α → Prop) → Prop) : Prop :=
  ∀ (σ : L2.St) (H : Hp) (env : En) (acc : α) (Qd : α → Prop) (N : Hp → Prop), SR P Gh O1 σ H env → NoDl Dl σ env → AR acc H → inner env acc Qd →
    (∀ acc' H', FrD P.p Dl H H' → PoolOk P.p P.a0 H' → AR acc' H' → Qd acc' → N H') → rest σ H N
section
variable {P : Pm} {Gh : List (D × V)} {O1 : Addr → Bool} {Dl : Addr}
def ARL (P : Pm) (O1 : Addr → Bool) (Dl : Addr) : List D → Hp → Prop := fun acc H => ∃ xs, H Dl = some (.lst xs) ∧ RepL P.K P.p (hid H O1) acc xs
theorem accL (nD : Dl ≠ P.p) (op : O1 P.p = true) : Acc (List D) P O1 Dl (ARL P O1 Dl) := ⟨fun h => by
  obtain ⟨xs, h, _⟩ := h
  exact ⟨_, h⟩, fun s h => by
  obtain ⟨xs, h1, h2⟩ := h
  exact ⟨xs, s _ _ nD h1, h2.up op s⟩⟩
theorem pool_upd {H : Hp} {o : HO} (nD : Dl ≠ P.p) (nA : Dl ≠ P.a0) (h : PoolOk P.p P.a0 H) : PoolOk P.p P.a0 (upd H Dl o) := by
  obtain ⟨k, m, cc, ss, q, ⟨ns, l, q0⟩, rr⟩ := h
  exact ⟨k, m, cc, ss, by rw [upd_ne nD.symm]; exact q, ⟨ns, l, by rw [upd_ne nA.symm]; exact q0⟩, rr⟩
theorem fin_ok {ce : CE} (nD : Dl ≠ P.p) (nA : Dl ≠ P.a0) (oD : O1 Dl = true) : RestOk P Gh O1 Dl (ARL P O1 Dl) (addL (tD P ce) Dl) (fun env acc Q => wpG P.G (.fin ce) env acc Q) := by
  intro σ H env acc Qd N S nd ⟨xs, hD, rl⟩ w f
  have w : wpE P.G ce env fun r => (match r.esc with | some y => acc.length < sizeLine ∧ Qd (acc ++ [y]) | none => False) := w
  refine ⟨Gh, O1, env, _, S, w, fun r v H4 s4 p4 r4 w5 => ?_⟩
  split at w5
  · rename_i e he
    obtain ⟨w5, w6⟩ := w5
    have D4 : H4 Dl = some (.lst xs) := s4 _ _ nD hD
    have R4 := rl.up S.op s4
    refine ⟨xs, D4, by rw [R4.length]; exact w5, f (acc ++ [e]) _ (fun b o nb nb2 hb => ?_) (pool_upd nD nA p4) ⟨xs ++ [v], upd_same, ?_⟩ w6⟩
    · rw [upd_ne nb2]
      exact s4 b o nb hb
    · rw [hid_upd oD]
      exact R4.append (RepL.one (r4.esc S.trk he))
  · exact False.elim w5
def clF {α : Type} (P : Pm) (ct : CT) (cf : CEs) (vs : List Nat) (env : En) (inner : En → α → (α → Prop) → Prop) : D → α → (α → Prop) → Prop := fun d acc Q => tgD ct d (wipeD env vs) fun env1 => wpTs P.G cf env1 fun t => if t = true then inner env1 acc Q else Q acc
/-- a clause's loop -/
theorem loop_okD {α : Type} {AR : α → Hp → Prop} {ct : CT} {ci : CI} {cf : CEs} {vs : List Nat} {rest : Body} {inner : En → α → (α → Prop) → Prop} (ac : Acc α P O1 Dl AR) (oD : O1 Dl = true) (h0 : P.H0 Dl = none) (nD : Dl ≠ P.p) (hsl : ∀ i ∈ ct.slots, i ∈ vs) (hr : RestOk P Gh O1 Dl AR rest inner)
    {σ : L2.St} {H : Hp} {env : En} {acc : α} {Qd : α → Prop} {N : Hp → Prop} {J : It} {items : List D} {g : D × V} (S : SR P Gh O1 σ H env) (nd : NoDl Dl σ env) (ra : AR acc H) (rg : Rep P.K P.p (hid H O1) g.1 g.2) (ig : ItG P items J g)
    (w : walkL (clF P ct cf vs env inner) items acc Qd)
    (f : ∀ acc' H', FrD P.p Dl H H' → PoolOk P.p P.a0 H' → AR acc' H' → Qd acc' → N H') : tLoop J ⟨tI P ci, tG P ct, tTs P cf, vs⟩ rest σ H N := by
  refine ⟨fun i m H' => m = items.length - i ∧ i ≤ items.length ∧ FrD P.p Dl H H' ∧ PoolOk P.p P.a0 H' ∧ ∃ acc, AR acc H' ∧ walkL (clF P ct cf vs env inner) (items.drop i) acc Qd,
    ⟨_, rfl, Nat.zero_le _, FrD.refl H, S.pool, acc, ra, w⟩, fun i m H' hW => ?_⟩
  obtain ⟨rfl, hi, fr, pl, acc, ra', w'⟩ := hW
  have S' := S.stepD nd oD h0 fr pl (ac.at_ ra')
  have rg' := Rep.mono (hid_frD S.op oD fr) rg
  obtain ⟨g1, g2, g3⟩ := ig O1 H' S'.oc rg'
  by_cases hlt : i < items.length
  · refine .inr ⟨g1 i hlt, fun H2 => FrD P.p Dl H H2 ∧ PoolOk P.p P.a0 H2 ∧ ∃ acc, AR acc H2 ∧ walkL (clF P ct cf vs env inner) (items.drop (i + 1)) acc Qd,
      fun H2 h2 => ⟨items.length - (i + 1), by omega, rfl, hlt, h2⟩, fun x H2 y => ?_⟩
    obtain ⟨y1, y2, d, y4, y5⟩ := g3 i x H2 hlt y
    have ed : items.drop i = d :: items.drop (i + 1) := by
      obtain ⟨l, e⟩ := List.getElem?_eq_some_iff.mp y4
      rw [← e]
      exact List.drop_eq_getElem_cons l
    rw [ed] at w'
    have w2 : tgD ct d (wipeD env vs) fun env1 => wpTs P.G cf env1 fun t => if t = true then inner env1 acc (fun acc' => walkL (clF P ct cf vs env inner) (items.drop (i + 1)) acc' Qd) else walkL (clF P ct cf vs env inner) (items.drop (i + 1)) acc Qd := w'
    have fr2 : FrD P.p Dl H H2 := fr.trans y1.frD
    have ra2 := ac.up y1 ra'
    have S2 := (S.stepD nd oD h0 fr2 y2 (ac.at_ ra2)).wipe vs
    refine ⟨Gh, O1, _, d, _, S2, y5, tgD_own w2, fun σ' env' S3 on w3 => ⟨(on vs hsl).trans (wipe_wipe vs σ fun i hi => hi), Gh, O1, env', _, S3, w3.1, fun t H3 s3 p3 w4 => ?_⟩⟩
    have nd3 : NoDl Dl σ' env' := (nd.wipe vs).tg on w3.2
    have ra3 := ac.up s3 ra2
    cases t with
    | true =>
      refine hr σ' H3 env' acc _ _ (S3.mono s3 p3) nd3 ra3 w4 fun acc' H4 f4 p4 r4 q4 => ?_
      exact ⟨(fr2.trans s3.frD).trans f4, p4, acc', r4, q4⟩
    | false => exact ⟨fr2.trans s3.frD, p3, acc, ra3, w4⟩
  · have e : i = items.length := by omega
    subst e
    rw [List.drop_length] at w'
    exact .inl ⟨g2, f acc H' fr pl ra' w'⟩
/-- a clause behind others -/
structure GD where
  ct : CT
  ci : CI
  cf : CEs
  vs : List Nat
def GD.t (P : Pm) (d : GD) : GT := ⟨tI P d.ci, tG P d.ct, tTs P d.cf, d.vs⟩
def cgs : List GD → CE → CGs
  | [], e => .fin e
  | d :: ds, e => .cons d.ct d.ci d.cf d.vs (cgs ds e)
theorem rest_okD {ce : CE} (op : O1 P.p = true) (oD : O1 Dl = true) (h0 : P.H0 Dl = none) (nD : Dl ≠ P.p) (nA : Dl ≠ P.a0) : ∀ (ds : List GD), (∀ d ∈ ds, ∀ i ∈ d.ct.slots, i ∈ d.vs) → RestOk P Gh O1 Dl (ARL P O1 Dl) (tRest (addL (tD P ce) Dl) (ds.map (GD.t P))) fun env acc Q => wpG P.G (cgs ds ce) env acc Q
  | [], _ => fin_ok nD nA oD
  | d :: ds, hs => by
    intro σ H env acc Qd N S nd ra w f
    have ih := rest_okD (ce := ce) op oD h0 nD nA ds fun e he => hs e (List.mem_cons_of_mem _ he)
    refine ⟨Gh, O1, env, _, S, w, fun b items J H' s' p' _ ig w1 => ?_⟩
    obtain ⟨hb, w1⟩ := w1
    obtain ⟨g, rg, ig⟩ := ig hb
    exact loop_okD (accL nD op) oD h0 nD (hs d List.mem_cons_self) ih (S.mono s' p') nd ((accL nD op).up s' ra) rg ig w1 fun acc' H2 f2 p2 r2 q2 => f acc' H2 (s'.frD.trans f2) p2 r2 q2
/-- a new object in the heap, hidden -/
structure NewO (P : Pm) (Gh : List (D × V)) (O : Addr → Bool) (σ : L2.St) (H1 : Hp) (env : En) (Dl : Addr) : Prop where
  nD : Dl ≠ P.p
  nA : Dl ≠ P.a0
  h0 : P.H0 Dl = none
  oD : addO O Dl Dl = true
  nd : NoDl Dl σ env
  S2 : ∀ o : HO, SR P Gh (addO O Dl) σ (upd H1 Dl o) env
  hu : ∀ o : HO, hid (upd H1 Dl o) (addO O Dl) = hid H1 O
  up : ∀ {o : HO} {H2 : Hp}, FrD P.p Dl (upd H1 Dl o) H2 → SameP P.p H1 H2
theorem newO {O : Addr → Bool} {σ : L2.St} {H1 : Hp} {env : En} (S1 : SR P Gh O σ H1 env) (hD : H1 Dl = none) : NewO P Gh O σ H1 env Dl := by
  have nD : Dl ≠ P.p := S1.np Dl hD
  have oD : addO O Dl Dl = true := by show (O Dl || decide (Dl = Dl)) = true; simp
  have hh : hid H1 (addO O Dl) = hid H1 O := hid_add hD
  refine ⟨nD, fun z => ?_, S1.same.free nD hD, oD, fun i u e o q => ?_, fun o => S1.hide hD (SameP.new hD) (S1.pool.new hD) ⟨_, upd_same⟩, fun o => by rw [hid_upd oD, hh], fun f2 b o nb e => f2 b o nb (fun z => by rw [z, hD] at e; cases e) (by rw [upd_ne fun z => by rw [z, hD] at e; cases e]; exact e)⟩
  · obtain ⟨_, _, _, _, _, ⟨_, _, q⟩, _⟩ := S1.pool
    rw [← z, hD] at q
    cases q
  · have z := S1.sl i u e
    cases u with
    | own es =>
      obtain ⟨a, vs, h1, h2, _⟩ := z
      rw [h1] at q
      cases q
      rw [hD] at h2
      cases h2
    | dic es =>
      obtain ⟨a, vs, h1, h2, _⟩ := z
      rw [h1] at q
      cases q
      rw [hD] at h2
      cases h2
    | _ => cases o
theorem cmpN_read {ce : CE} {d : GD} {ds : List GD} (hs : ∀ e ∈ d :: ds, ∀ i ∈ e.ct.slots, i ∈ e.vs) {σ : L2.St} {H : Hp} {Q : VK} (h : tD P (.cmpN (cgs (d :: ds) ce)) σ H Q) :
    tCmp (fun _ => .lst []) (tI P d.ci) (d.t P) (ds.map (GD.t P)) (addL (tD P ce)) σ H Q := by
  obtain ⟨Gh, O, env, Qd, S, w, f⟩ := h
  refine ⟨Gh, O, env, _, S, w, fun b items J H1 s1 p1 _ ig w1 Dl hD => ?_⟩
  obtain ⟨hb, w1⟩ := w1
  obtain ⟨g, rg, ig⟩ := ig hb
  have n := newO (S.mono s1 p1) hD
  have op : addO O Dl P.p = true := addO_sub _ S.op
  refine loop_okD (acc := []) (accL n.nD op) n.oD n.h0 n.nD (hs d List.mem_cons_self) (rest_okD op n.oD n.h0 n.nD n.nA ds fun e he => hs e (List.mem_cons_of_mem _ he)) (n.S2 _) n.nd ⟨[], upd_same, rfl⟩ (by rw [n.hu]; exact rg) ig w1 fun acc' H2 f2 p2 r2 q2 => ?_
  obtain ⟨xs', d2, r2⟩ := r2
  exact f (.nw acc') _ H2 (s1.trans (n.up f2)) p2 ⟨Dl, xs', rfl, s1.free n.nD hD, d2, r2⟩ q2
/-! ### dicts keyed by tuples -/
def ART (P : Pm) (O1 : Addr → Bool) (Dl : Addr) : List (D × D) → Hp → Prop := fun acc H => ∃ xs, H Dl = some (dtO P.w Dl xs) ∧ RepX P.K P.p (hid H O1) acc xs
theorem accT (nD : Dl ≠ P.p) (op : O1 P.p = true) : Acc (List (D × D)) P O1 Dl (ART P O1 Dl) := ⟨fun h => by
  obtain ⟨xs, h, _⟩ := h
  exact ⟨_, h⟩, fun s h => by
  obtain ⟨xs, h1, h2⟩ := h
  exact ⟨xs, s _ _ nD h1, h2.up op s⟩⟩
/-- a pair comes in -/
def addT (P : Pm) (tk tv : TE) (Dl : Addr) : Body := fun σ H N => tk σ H fun y H4 => tv σ H4 fun z H5 => ∃ (Hh : Hp) (kvs : List (D × D)) (xs : List (NestedKey × Addr × Value)) (kd vd : D), Same Hh H5 ∧ H5 Dl = some (dtO P.w Dl xs) ∧ RepX P.K P.p Hh kvs xs ∧ keyOk kd = true ∧ Rep P.K P.p Hh kd y ∧ Rep P.K P.p Hh vd z ∧ kvs.length < sizeLine ∧
  ∀ ys, RepX P.K P.p Hh (putT kvs kd vd) ys → N (upd H5 Dl (dtO P.w Dl ys))
theorem finT_ok {ck ce : CE} (nD : Dl ≠ P.p) (nA : Dl ≠ P.a0) (oD : O1 Dl = true) : RestOk P Gh O1 Dl (ART P O1 Dl) (addT P (tD P ck) (tD P ce) Dl)
    (fun env acc Q => wpE P.G ck env fun k => wpE P.G ce env fun r => (match r.esc with | some y => keyOk k.d = true ∧ acc.length < sizeLine ∧ Q (putT acc k.d y) | none => False)) := by
  intro σ H env acc Qd N S nd ⟨xs, hD, rl⟩ w f
  refine ⟨Gh, O1, env, _, S, w, fun k y H4 s4 p4 r4 w4 => ⟨Gh, O1, env, _, S.mono s4 p4, w4, fun r z H5 s5 p5 r5 w5 => ?_⟩⟩
  split at w5
  · rename_i e he
    obtain ⟨ok, w5, w6⟩ := w5
    have D5 : H5 Dl = some (dtO P.w Dl xs) := s5 _ _ nD (s4 _ _ nD hD)
    have R5 := (rl.up S.op s4).up S.op s5
    refine ⟨hid H5 O1, acc, xs, k.d, e, hid_in, D5, R5, ok, ((r4.lk S.op S.np).up S.op s5).rep ok, r5.esc (S.mono s4 p4).trk he, w5, fun ys ry => ?_⟩
    refine f (putT acc k.d e) _ (fun b o nb nb2 hb => ?_) (pool_upd nD nA p5) ⟨ys, upd_same, ?_⟩ w6
    · rw [upd_ne nb2]
      exact s5 b o nb (s4 b o nb hb)
    · rw [hid_upd oD]
      exact ry
  · exact False.elim w5
/-- a dict comprehension keyed by tuples -/
def tDT (P : Pm) (ck ce : CE) (ct : CT) (ci : CI) (cf : CEs) (own : List Nat) : TE := fun σ H Q => ∃ Gh O env Qd, SR P Gh O σ H env ∧ (wpI P.G ci env fun b items => b = false ∧ runL (turnT (wpTs P.G cf) (wpE P.G ck) (wpE P.G ce) ct (wipeD env own)) items [] (fun acc => Qd (.nd acc)) .mk) ∧ Fin P O H Qd Q
theorem dcT_read {ck ce : CE} {d : GD} (hs : ∀ i ∈ d.ct.slots, i ∈ d.vs) {σ : L2.St} {H : Hp} {Q : VK} (h : tDT P ck ce d.ct d.ci d.cf d.vs σ H Q) :
    tCmp (fun D => dtO P.w D []) (tI P d.ci) (d.t P) [] (addT P (tD P ck) (tD P ce)) σ H Q := by
  obtain ⟨Gh, O, env, Qd, S, w, f⟩ := h
  refine ⟨Gh, O, env, _, S, w, fun b items J H1 s1 p1 _ ig w1 Dl hD => ?_⟩
  obtain ⟨hb, w1⟩ := w1
  obtain ⟨g, rg, ig⟩ := ig hb
  have n := newO (S.mono s1 p1) hD
  have op : addO O Dl P.p = true := addO_sub _ S.op
  refine loop_okD (acc := []) (accT n.nD op) n.oD n.h0 n.nD hs (finT_ok n.nD n.nA n.oD) (n.S2 _) n.nd ⟨[], upd_same, rfl⟩ (by rw [n.hu]; exact rg) ig w1 fun acc' H2 f2 p2 r2 q2 => ?_
  obtain ⟨xs', d2, r2⟩ := r2
  exact f (.nd acc') _ H2 (s1.trans (n.up f2)) p2 ⟨Dl, xs', rfl, s1.free n.nD hD, d2, r2⟩ q2
end
section
variable {X : Cx} {P : Pm} {pos : Pos}
/-- what a clause needs, in any block -/
structure ClLpB (P : Pm) (X : Cx) (scope : Scope) (g : Gen) (d : GD) : Prop where
  tg : ∀ (s : Shared) (H : Hp) (C : Addr) (cl : List (Str × Addr)) (fp : List Addr), PG (X.blk s H scope (compEnvC scope cl C X.env) fp) g.target (tG P d.ct)
  ifs : ∀ (s : Shared) (H : Hp) (C : Addr) (cl : List (Str × Addr)) (fp : List Addr), PTs (X.blk s H scope (compEnvC scope cl C X.env) fp) g.ifs (tTs P d.cf)
  fold : ∀ env x, foldedSetIterable g.iter env x = pure x
  sl : ∀ i ∈ d.ct.slots, i ∈ d.vs
structure ClOkB (P : Pm) (X : Cx) (scope : Scope) (g : Gen) (d : GD) : Prop where
  lp : ClLpB P X scope g d
  it : ∀ (s : Shared) (H : Hp) (C : Addr) (cl : List (Str × Addr)) (fp : List Addr), PI (X.blk s H scope (compEnvC scope cl C X.env) fp) g.target g.iter (tI P d.ci)
theorem ClLpB.gen {scope : Scope} {g : Gen} {d : GD} (c : ClLpB P X scope g d) : BLp X scope g (d.t P) := fun s H C cl fp => ⟨c.tg s H C cl fp, c.ifs s H C cl fp⟩
theorem ClOkB.gen {scope : Scope} {g : Gen} {d : GD} (c : ClOkB P X scope g d) : BGen X scope g (d.t P) := fun s H C cl fp => ⟨c.it s H C cl fp, ⟨c.lp.tg s H C cl fp, c.lp.ifs s H C cl fp⟩, fun x => c.lp.fold _ x⟩
theorem pd_cmpN {elt : Expr} {scope : Scope} {own : List (Str × Nat)} {ce : CE} {g : Gen} {d : GD} {rem : List (Gen × GD)} (hc : X.calm = true) (hN : X.N.Nodup) (hi : PI X g.target g.iter (tI P d.ci)) (ok : BlkOk X.N X.env.scope scope own) (hv : d.vs = own.map (·.2))
    (ne : Nest (d.t P) (rem.map fun p => p.2.t P)) (hg : ClLpB P X scope g d) (hgs : ∀ p ∈ rem, ClOkB P X scope p.1 p.2)
    (he : ∀ (s : Shared) (H : Hp) (C : Addr) (cl : List (Str × Addr)) (fp : List Addr), PE (X.blk s H scope (compEnvC scope cl C X.env) fp) elt (tD P ce)) :
    PE X (.ListComp elt (g.c :: rem.map (·.1.c)) scope pos) (tD P (.cmpN (cgs (d :: rem.map (·.2)) ce))) := by
  have q := pe_cmpL (elt := elt) (g := g) (G := d.t P) (rem := rem.map fun p => (p.1, p.2.t P)) (pos := pos) (te := tD P ce) hc hN hi ok hv (by rw [List.map_map]; exact ne) hg.gen (fun p hp => by
    obtain ⟨p', hp', rfl⟩ := List.mem_map.mp hp
    exact (hgs p' hp').gen) he (fun x => hg.fold _ x)
  rw [List.map_map, List.map_map] at q
  refine peImp q fun σ H Q h => ?_
  have r := cmpN_read (fun e hm => ?_) h
  · rw [List.map_map] at r
    exact r
  · rcases List.mem_cons.mp hm with rfl | hm
    · exact hg.sl
    · obtain ⟨p, hp, rfl⟩ := List.mem_map.mp hm
      exact (hgs p hp).lp.sl
/-- a pair set in the new dict -/
theorem dt_dset {Hh : Hp} {kvs : List (D × D)} {xs : List (NestedKey × Addr × Value)} {d e : D} {v x : V} {u ue : Value} {a : Addr} {pins : List (Addr × Obj)} {s : Shared} {σ : L2.St} {H : Hp} {E : Value → Shared → Prop} {Q : Unit → Shared → Prop} (hu : X.A.units + 65 < cLine) (sm : Same Hh H) (hK : X.K = P.K) (I : Inv X pins σ H s) (h : H a = some (dtO X.w a xs)) (r : RepX P.K P.p Hh kvs xs) (hl : kvs.length < sizeLine) (ok : keyOk d = true) (rd : Rep P.K P.p Hh d v) (rv : RelV v u)
    (re : Rep P.K P.p Hh e x) (rx : RelV x ue) (q : ∀ ys s', RepX P.K P.p Hh (putT kvs d e) ys → Inv X pins σ (upd H a (dtO X.w a ys)) s' → Q () s') : wpAny (model X.prog X.w) X.A (dictSet a u ue) Q E s := by
  obtain ⟨k, b, e1, rfl, rfl, hk⟩ := dt_key sm hK I ok rd rv
  obtain ⟨lo, hz, _⟩ := dt_is I h
  have rp : RepX P.K P.p Hh (putT kvs d e) (storedH xs k b ue) := r.put e1 ok rd rx re
  refine wpAny_dictSet_heap (knd := nestedKind X.prog X.w) (show X.A.units + 8 < cLine by omega) hk (dt_of_H sm hK I h r) (fun h' dd hs => q _ _ rp ?_) hz
  obtain ⟨o, es, ep, ho, hx, hd, he, _, hn⟩ := dd
  refine d_write I (by rw [h]; exact True.intro) hs ⟨o, ho⟩ (dtO_ok ⟨lo, ?_, o, ho, hx, ⟨es, ep, hd, he⟩, hn⟩)
  rw [rp.length]
  unfold putT
  split
  · rw [List.length_map]; omega
  · rw [List.length_append, List.length_singleton]; omega
theorem snkT {Y : Cx} {kx elt : Expr} {tk tv : TE} {Dl : Addr} (hx : Y.xe = fun _ _ => False) (hu : Y.A.units + 65 < cLine) (hK : Y.K = P.K) (hw : Y.w = P.w) (hk : PE Y kx tk) (he : PE Y elt tv) : PSnk Y (.dict kx) elt Dl (addT P tk tv Dl) := ⟨fun pins s σ H N I h => by
  unfold emitC
  have r := hk.run pins s σ H _ I h
  rw [hx] at r
  refine wpAny_bind (thnF r fun u s1 q => ?_)
  obtain ⟨y, H4, I4, ry, q⟩ := q
  have r := he.run pins s1 σ H4 _ I4 q
  rw [hx] at r
  refine wpAny_bind (wpAny_holding (thnF r fun ue s2 q => ?_))
  obtain ⟨z, H5, I5, rz, Hh, kvs, xs, kd, vd, sm, hD, rX, ok, rk, rv, hl, nn⟩ := q
  refine wpAny_bind (wpAny_standAt (wpAny_holding ?_))
  rw [← hw] at hD nn
  exact dt_dset hu sm hK I5 hD rX hl ok rk ry rv rz fun ys s' r' I' => ⟨_, I', nn ys r'⟩⟩
theorem pd_dcompT {kx elt tg it : Expr} {ifs : List Expr} {scope : Scope} {own : List (Str × Nat)} {ck ce : CE} {ct : CT} {ci : CI} {cf : CEs} (hu : X.A.units + 65 < cLine) (hK : X.K = P.K) (hw : X.w = P.w) (hc : X.calm = true) (hN : X.N.Nodup) (hi : PI X tg it (tI P ci)) (ok : BlkOk X.N X.env.scope scope own)
    (hg : ∀ (s : Shared) (H : Hp) (C : Addr) (cl : List (Str × Addr)) (fp : List Addr), PG (X.blk s H scope (compEnvC scope cl C X.env) fp) tg (tG P ct)) (ht : ∀ (s : Shared) (H : Hp) (C : Addr) (cl : List (Str × Addr)) (fp : List Addr), PTs (X.blk s H scope (compEnvC scope cl C X.env) fp) ifs (tTs P cf))
    (hk : ∀ (s : Shared) (H : Hp) (C : Addr) (cl : List (Str × Addr)) (fp : List Addr), PE (X.blk s H scope (compEnvC scope cl C X.env) fp) kx (tD P ck)) (he : ∀ (s : Shared) (H : Hp) (C : Addr) (cl : List (Str × Addr)) (fp : List Addr), PE (X.blk s H scope (compEnvC scope cl C X.env) fp) elt (tD P ce))
    (hs : ∀ x, foldedSetIterable it X.env x = pure x) (hsl : ∀ i ∈ ct.slots, i ∈ own.map (·.2)) : PE X (.DictComp kx elt [⟨tg, it, ifs, 0⟩] scope pos) (tDT P ck ce ct ci cf (own.map (·.2))) := by
  refine ⟨fun pins s σ H Q I h => ?_⟩
  rw [arm_eval_DictComp]
  have h' := dcT_read (d := ⟨ct, ci, cf, own.map (·.2)⟩) hsl h
  refine cmp_core (k := .dict kx) (g := ⟨tg, it, ifs⟩) (G := GD.t P ⟨ct, ci, cf, own.map (·.2)⟩) (rem := []) (new := fun D => dtO P.w D []) (body := addT P (tD P ck) (tD P ce)) hc hN I hi ok rfl trivial (fun s H C cl fp => ⟨hg s H C cl fp, ht s H C cl fp⟩) (fun p hp => (nomatch hp))
    (fun D s H C cl fp => snkT rfl hu hK hw (hk s H C cl fp) (he s H C cl fp)) hs (fun s2 H2 Q' I2 q => ?_) h' fun D C s' m H' I' q hn f => ⟨m, hn, fun h'' sb => ?_⟩
  · refine wpAny_newObj_type ?_
    refine q _ _ rfl ⟨_, rfl⟩ ?_
    rw [← hw]
    exact I2.laid (a := s2.heap.objs.size) (o := dtO X.w s2.heap.objs.size []) (t' := s2.toks) (fun _ _ q => Heap.get?_push_of_some _ q) (Nat.le_refl _) (dtO_ok (dt_empty' I2.big))
  · obtain ⟨f0, f1, f2, f3, f4, f5⟩ := f
    exact ⟨.ref D, H', I'.turned (t' := s'.toks) (fun b o hb e => (sb.2 b hb).trans e) f0 f1 f3 f4 f5, rfl, q⟩
theorem pd_dcomp {kx elt tg it : Expr} {ifs : List Expr} {scope : Scope} {own : List (Str × Nat)} {ck ce : CE} {ct : CT} {ci : CI} {cf : CEs} (hu : X.A.units + 65 < cLine) (hK : X.K = P.K) (hw : X.w = P.w) (hc : X.calm = true) (hN : X.N.Nodup) (hi : PI X tg it (tI P ci)) (ok : BlkOk X.N X.env.scope scope own)
    (hg : ∀ (s : Shared) (H : Hp) (C : Addr) (cl : List (Str × Addr)) (fp : List Addr), PG (X.blk s H scope (compEnvC scope cl C X.env) fp) tg (tG P ct)) (ht : ∀ (s : Shared) (H : Hp) (C : Addr) (cl : List (Str × Addr)) (fp : List Addr), PTs (X.blk s H scope (compEnvC scope cl C X.env) fp) ifs (tTs P cf))
    (hk : ∀ (s : Shared) (H : Hp) (C : Addr) (cl : List (Str × Addr)) (fp : List Addr), PE (X.blk s H scope (compEnvC scope cl C X.env) fp) kx (tD P ck)) (he : ∀ (s : Shared) (H : Hp) (C : Addr) (cl : List (Str × Addr)) (fp : List Addr), PE (X.blk s H scope (compEnvC scope cl C X.env) fp) elt (tD P ce))
    (hs : ∀ x, foldedSetIterable it X.env x = pure x) (hsl : ∀ i ∈ ct.slots, i ∈ own.map (·.2)) : PE X (.DictComp kx elt [⟨tg, it, ifs, 0⟩] scope pos) (tD P (.dcomp ck ce ct ci cf (own.map (·.2)))) := by
  have q1 := pd_dcompK (P := P) (pos := pos) hc hN hi ok hg ht hk he hs hsl
  have q2 := pd_dcompT (P := P) (pos := pos) hu hK hw hc hN hi ok hg ht hk he hs hsl
  refine ⟨fun pins s σ H Q I h => ?_⟩
  obtain ⟨Gh, O, env, Qd, S, w, f⟩ := h
  rcases w with w | w
  · exact q1.run pins s σ H Q I ⟨Gh, O, env, Qd, S, w, f⟩
  · exact q2.run pins s σ H Q I ⟨Gh, O, env, Qd, S, w, f⟩
end
end DL

/-! DL6: statements of the core. -/
namespace DL
open PySem PySem.Spec PyProof.Rows L2
structure FinS (P : Pm) (Gh : List (D × V)) (DD : DE) (D : Ends) : Prop where
  nx : ∀ O σ H env, SR P Gh O σ H env → DD.nx env → D.nx σ H
  bk : ∀ O σ H env, SR P Gh O σ H env → DD.bk env → D.bk σ H
  ct : ∀ O σ H env, SR P Gh O σ H env → DD.ct env → D.ct σ H
  rt : ∀ r v H', SameP P.p P.H0 H' → PoolOk P.p P.a0 H' → RRc P.K P.p P.O0 P.H0 H' r v → DD.rt r → D.rt v H'
def tS (P : Pm) (c : CS) : TS := fun D σ H => ∃ Gh O env DD, SR P Gh O σ H env ∧ wpS P.G c DD env ∧ FinS P Gh DD D
def tSs (P : Pm) (c : CSs) : TS := fun D σ H => ∃ Gh O env DD, SR P Gh O σ H env ∧ wpSs P.G c DD env ∧ FinS P Gh DD D
theorem psImp {X : Cx} {e : Stmt} {t t' : TS} (h : PS X e t) (f : ∀ D σ H, t' D σ H → t D σ H) : PS X e t' := ⟨fun pins s σ H D I q => h.run pins s σ H D I (f D σ H q)⟩
theorem pssImp {X : Cx} {e : List Stmt} {t t' : TS} (h : PSs X e t) (f : ∀ D σ H, t' D σ H → t D σ H) : PSs X e t' := ⟨fun pins s σ H D I q => h.run pins s σ H D I (f D σ H q)⟩
section
variable {P : Pm} {O : Addr → Bool} {H H1 : Hp} {Gh : List (D × V)} {σ : L2.St} {env : En}
/-! ### frozen lists -/
theorem remO_le {a : Addr} : ∀ b, remO O a b = true → O b = true := fun b h => by
  unfold remO at h
  rw [Bool.and_eq_true] at h
  exact h.1
theorem SR.frz1 (i : Nat) (S : SR P Gh O σ H env) : ∃ O', SR P Gh O' σ H (frz1 env i) := by
  unfold DL.frz1
  split
  · rename_i ds e
    obtain ⟨a, vs, h1, h2, h3, h4, h5, h6⟩ := S.sl i _ e
    have sm : Same (hid H O) (hid H (remO O a)) := hid_sub remO_le
    have ra : remO O a a = false := by unfold remO; simp
    have keep : ∀ b, b ≠ a → O b = true → remO O a b = true := fun b n h => by unfold remO; simp [h, n]
    have il : i < env.length := (List.getElem?_eq_some_iff.mp e).1
    refine ⟨remO O a, S.same, S.pool, S.pool0, keep _ h5.symm S.op, fun b hb => S.trk b (remO_le b hb), fun b hb => ?_, by rw [List.length_set]; exact S.len, fun j u ej => ?_, fun j k b u u' e1 e2 o1 o2 e3 e4 => ?_, fun g hg => Rep.mono sm (S.gh g hg)⟩
    · refine keep b (fun z => ?_) (S.sub b hb)
      obtain ⟨o, q⟩ := P.trk0 b hb
      rw [z, h3] at q
      cases q
    · rw [List.getElem?_set] at ej
      by_cases z : i = j
      · subst z
        rw [if_pos rfl, if_pos il] at ej
        have ej' := Option.some.inj ej
        subst ej'
        exact ⟨_, h1, a, vs, rfl, hid_of h2 ra, RepL.mono sm h6⟩
      · rw [if_neg z] at ej
        have q := S.sl j u ej
        cases u with
        | no => exact trivial
        | val d =>
          obtain ⟨v, q1, q2⟩ := q
          exact ⟨v, q1, Rep.mono sm q2⟩
        | own es =>
          obtain ⟨b, ws, q1, q2, q3, q4, q5, q6⟩ := q
          refine ⟨b, ws, q1, q2, q3, keep b (fun zz => ?_) q4, q5, RepL.mono sm q6⟩
          rw [zz] at q1
          exact z (S.inj i j a _ _ e ej rfl rfl h1 q1)
        | dic es =>
          obtain ⟨b, ws, q1, q2, q3, q4, q5, q6⟩ := q
          refine ⟨b, ws, q1, q2, q3, keep b (fun zz => ?_) q4, q5, RepX.mono sm q6⟩
          rw [zz] at q1
          exact z (S.inj i j a _ _ e ej rfl rfl h1 q1)
    · rw [List.getElem?_set] at e1 e2
      by_cases z : i = j
      · rw [if_pos z, if_pos il] at e1
        cases e1
        cases o1
      · rw [if_neg z] at e1
        by_cases z' : i = k
        · rw [if_pos z', if_pos il] at e2
          cases e2
          cases o2
        · rw [if_neg z'] at e2
          exact S.inj j k b _ _ e1 e2 o1 o2 e3 e4
  · exact ⟨O, S⟩
theorem SR.frz : ∀ (is : List Nat) {O : Addr → Bool} {env : En}, SR P Gh O σ H env → ∃ O', SR P Gh O' σ H (frz env is)
  | [], O, env, S => ⟨O, S⟩
  | i :: is, O, env, S => by
    obtain ⟨O1, S1⟩ := S.frz1 i
    exact SR.frz is S1
theorem SR.more (g : D × V) (S : SR P Gh O σ H env) (h : Rep P.K P.p (hid H O) g.1 g.2) : SR P (g :: Gh) O σ H env :=
  ⟨S.same, S.pool, S.pool0, S.op, S.trk, S.sub, S.len, S.sl, S.inj, fun x hx => (List.mem_cons.mp hx).elim (fun e => by rw [e]; exact h) (S.gh x)⟩
theorem SR.less {g : D × V} (S : SR P (g :: Gh) O σ H env) : SR P Gh O σ H env :=
  ⟨S.same, S.pool, S.pool0, S.op, S.trk, S.sub, S.len, S.sl, S.inj, fun x hx => S.gh x (List.mem_cons_of_mem _ hx)⟩
theorem SR.own_ne {a : Addr} (S : SR P Gh O σ H env) (ha : H a = none) {j : Nat} {u : Sl} (e : env[j]? = some u) (o : isOwn u = true) (q : σ[j]? = some (some (.ref a))) : False := by
  have key : ∀ (b : Addr) (ob : HO), σ[j]? = some (some (.ref b)) → H b = some ob → False := fun b ob h1 h2 => by
    rw [h1] at q
    have q' := V.ref.inj (Option.some.inj (Option.some.inj q))
    rw [q', ha] at h2
    cases h2
  have h := S.sl j _ e
  cases u with
  | own ds =>
    obtain ⟨b, vs, h1, h2, _⟩ := h
    exact key b _ h1 h2
  | dic ds =>
    obtain ⟨b, vs, h1, h2, _⟩ := h
    exact key b _ h1 h2
  | no => cases o
  | val d => cases o
/-! ### new things -/
def isNw : R → Bool
  | .nw _ => true
  | .nd _ => true
  | _ => false
def slR : R → Sl
  | .nw ds => .own ds
  | .nd kvs => .dic kvs
  | .v d => .val d
  | _ => .no
/-- what lies at a -/
def Lay (P : Pm) (O : Addr → Bool) (H : Hp) (r : R) (a : Addr) : Prop :=
  match r with
  | .nw ds => ∃ vs, H a = some (.lst vs) ∧ RepL P.K P.p (hid H O) ds vs
  | .nd kvs => ∃ xs, H a = some (dtO P.w a xs) ∧ RepX P.K P.p (hid H O) kvs xs
  | _ => False
theorem Lay.some {r : R} {a : Addr} (h : Lay P O H r a) : ∃ o, H a = some o := by
  cases r with
  | nw ds => exact ⟨_, h.choose_spec.1⟩
  | nd ds => exact ⟨_, h.choose_spec.1⟩
  | _ => exact h.elim
theorem Lay.up {r : R} {a : Addr} (hp : O P.p = true) (s : SameP P.p H H1) (na : a ≠ P.p) (h : Lay P O H r a) : Lay P O H1 r a := by
  cases r with
  | nw ds =>
    obtain ⟨vs, h1, h2⟩ := h
    exact ⟨vs, s a _ na h1, h2.up hp s⟩
  | nd ds =>
    obtain ⟨vs, h1, h2⟩ := h
    exact ⟨vs, s a _ na h1, h2.up hp s⟩
  | _ => exact h.elim
theorem Lay.hid_eq {O' : Addr → Bool} {r : R} {a : Addr} (e : hid H O' = hid H O) (h : Lay P O H r a) : Lay P O' H r a := by
  cases r with
  | nw ds =>
    obtain ⟨vs, h1, h2⟩ := h
    exact ⟨vs, h1, by rw [e]; exact h2⟩
  | nd ds =>
    obtain ⟨vs, h1, h2⟩ := h
    exact ⟨vs, h1, by rw [e]; exact h2⟩
  | _ => exact h.elim
theorem RR.new_of {r : R} {v : V} (h : RR P O H H1 r v) (n : isNw r = true) : ∃ a, v = .ref a ∧ H a = none ∧ Lay P (addO O a) H1 r a := by
  cases r with
  | nw ds =>
    obtain ⟨a, vs, e, ha, h2, h3⟩ := h
    exact ⟨a, e, ha, vs, h2, h3⟩
  | nd ds =>
    obtain ⟨a, vs, e, ha, h2, h3⟩ := h
    exact ⟨a, e, ha, vs, h2, h3⟩
  | _ => cases n
/-- a new thing at a, hidden, goes to slot i -/
theorem SR.setNew {i : Nat} {a : Addr} {r : R} (S : SR P Gh O σ H1 env) (n : isNw r = true) (oa : O a = true) (na : a ≠ P.p) (h0 : P.H0 a = none) (L : Lay P O H1 r a)
    (ho : ∀ (j : Nat) (u : Sl), env[j]? = some u → isOwn u = true → σ[j]? = some (some (.ref a)) → False) : SR P Gh O (σ.set i (some (.ref a))) H1 (env.set i (slR r)) := by
  refine S.put (fun l => ?_) fun b _ e2 j u e3 o e4 => by
    have e2' := V.ref.inj (Option.some.inj e2)
    subst e2'
    exact (ho j u e3 o e4).elim
  have hl : (σ.set i (some (V.ref a)))[i]? = some (some (V.ref a)) := List.getElem?_set_self (by rw [S.len]; exact l)
  cases r with
  | nw ds =>
    obtain ⟨vs, h2, r⟩ := L
    exact ⟨a, vs, hl, h2, h0, oa, na, r⟩
  | nd ds =>
    obtain ⟨vs, h2, r⟩ := L
    exact ⟨a, vs, hl, h2, h0, oa, na, r⟩
  | _ => cases n
theorem asgD_new {i : Nat} {r : R} {env : En} {N : En → Prop} (n : isNw r = true) (w : asgD i r env N) : N (env.set i (slR r)) := by
  cases r with
  | nw ds => exact w
  | nd ds => exact w
  | _ => cases n
theorem asgD_cases {i : Nat} {r : R} {env : En} {N : En → Prop} (w : asgD i r env N) : isNw r = true ∨ ∃ d, r = .v d := by
  cases r with
  | v d => exact .inr ⟨d, rfl⟩
  | nw ds => exact .inl rfl
  | nd ds => exact .inl rfl
  | bw ds => exact w.elim
  | bd ds => exact w.elim
/-- name = value -/
theorem asg_read {i : Nat} {ce : CE} {DD : DE} {D : Ends} (S : SR P Gh O σ H env) (w : wpE P.G ce env fun r => asgD i r env DD.nx) (f : FinS P Gh DD D) : tD P ce σ H fun x H1 => D.nx (σ.set i (some x)) H1 := by
  refine ⟨Gh, O, env, _, S, w, fun r v H1 s1 p1 r1 w1 => ?_⟩
  have S1 := S.mono s1 p1
  rcases asgD_cases w1 with hn | ⟨d, rfl⟩
  · obtain ⟨a, rfl, ha, L⟩ := r1.new_of hn
    exact f.nx (addO O a) _ _ _ ((S.hide ha s1 p1 L.some).setNew hn (by unfold addO; simp) (S.np a ha) (S.same.free (S.np a ha) ha) L fun j u e1 o e2 => S.own_ne ha e1 o e2) (asgD_new hn w1)
  · exact f.nx O _ _ _ (S1.setV r1) w1
/-- whether a store is there at all hangs on the value alone -/
theorem asgD_some {i : Nat} {r : R} {env : En} {N : En → Prop} (w : asgD i r env N) : ∃ e, N e := by
  cases r with
  | v d => exact ⟨_, w⟩
  | nw d => exact ⟨_, w⟩
  | nd d => exact ⟨_, w⟩
  | bw d => exact w.elim
  | bd d => exact w.elim
/-- borrowed -/
def isB : R → Bool
  | .bw _ => true
  | .bd _ => true
  | _ => false
theorem asgD_b {i : Nat} {r : R} {env : En} {N : En → Prop} (b : isB r = true) (w : asgD i r env N) : False := by
  cases r with
  | bw d => exact w
  | bd d => exact w
  | _ => cases b
theorem asgD_nb {i : Nat} {r : R} {env : En} {N : En → Prop} (w : asgD i r env N) : isB r = false := by
  cases e : isB r with
  | false => rfl
  | true => exact (asgD_b e w).elim
/-- a value that waits for its store -/
def Pend (P : Pm) (O : Addr → Bool) (σ : L2.St) (H : Hp) (env : En) (r : R) (v : V) : Prop :=
  match r with
  | .v d => Rep P.K P.p (hid H O) d v
  | r => isNw r = true ∧ ∃ a, v = .ref a ∧ O a = true ∧ a ≠ P.p ∧ P.H0 a = none ∧ Lay P O H r a ∧ ∀ (j : Nat) (u : Sl), env[j]? = some u → isOwn u = true → σ[j]? = some (some (.ref a)) → False
theorem Pend.new {r : R} {v : V} (n : isNw r = true) : Pend P O σ H env r v ↔ ∃ a, v = .ref a ∧ O a = true ∧ a ≠ P.p ∧ P.H0 a = none ∧ Lay P O H r a ∧ ∀ (j : Nat) (u : Sl), env[j]? = some u → isOwn u = true → σ[j]? = some (some (.ref a)) → False := by
  cases r with
  | nw ds => exact ⟨fun h => h.2, fun h => ⟨rfl, h⟩⟩
  | nd ds => exact ⟨fun h => h.2, fun h => ⟨rfl, h⟩⟩
  | _ => cases n
theorem Pend.kind {r : R} {v : V} (h : Pend P O σ H env r v) : isNw r = true ∨ ∃ d, r = .v d := by
  cases r with
  | v d => exact .inr ⟨d, rfl⟩
  | nw d => exact .inl rfl
  | nd d => exact .inl rfl
  | bw d => exact .inl h.1
  | bd d => exact .inl h.1
/-- the same address does not wait twice -/
def NoA (v v' : V) (r r' : R) : Prop := isNw r = true → isNw r' = true → v ≠ v'
theorem Pend.take {r : R} {v : V} (S : SR P Gh O σ H env) (s : SameP P.p H H1) (p : PoolOk P.p P.a0 H1) (h : RR P O H H1 r v) (nb : isB r = false) : ∃ O', SR P Gh O' σ H1 env ∧ Pend P O' σ H1 env r v ∧
    ∀ r0 v0, Pend P O σ H env r0 v0 → Pend P O' σ H1 env r0 v0 ∧ NoA v0 v r0 r := by
  have kind : isNw r = true ∨ ∃ d, r = .v d := by
    cases r with
    | v d => exact .inr ⟨d, rfl⟩
    | nw d => exact .inl rfl
    | nd d => exact .inl rfl
    | bw d => cases nb
    | bd d => cases nb
  rcases kind with hn | ⟨d, rfl⟩
  · obtain ⟨a, rfl, ha, L⟩ := h.new_of hn
    have hp : (addO O a) P.p = true := by unfold addO; rw [S.op]; rfl
    have e : hid H (addO O a) = hid H O := hid_add ha
    refine ⟨addO O a, S.hide ha s p L.some, (Pend.new hn).mpr ⟨a, rfl, by unfold addO; simp, S.np a ha, S.same.free (S.np a ha) ha, L, fun j u e1 o e2 => S.own_ne ha e1 o e2⟩, fun r0 v0 q => ?_⟩
    rcases q.kind with h0 | ⟨d, rfl⟩
    · obtain ⟨b, e0, q1, q2, q3, q4, q6⟩ := (Pend.new h0).mp q
      refine ⟨(Pend.new h0).mpr ⟨b, e0, by unfold addO; rw [q1]; rfl, q2, q3, (q4.hid_eq e).up hp s q2, q6⟩, fun _ _ z => ?_⟩
      rw [e0] at z
      have z' := V.ref.inj z
      obtain ⟨o, qo⟩ := q4.some
      rw [z', ha] at qo
      cases qo
    · refine ⟨?_, fun z => by cases z⟩
      have q' : Rep P.K P.p (hid H O) d v0 := q
      rw [← e] at q'
      exact q'.up hp s
  · refine ⟨O, S.mono s p, h, fun r0 v0 q => ⟨?_, fun _ z => by cases z⟩⟩
    rcases q.kind with h0 | ⟨d, rfl⟩
    · obtain ⟨b, e0, q1, q2, q3, q4, q6⟩ := (Pend.new h0).mp q
      exact (Pend.new h0).mpr ⟨b, e0, q1, q2, q3, q4.up S.op s q2, q6⟩
    · exact Rep.up S.op s q
theorem Pend.store {r : R} {v : V} {i : Nat} {N : En → Prop} (S : SR P Gh O σ H env) (h : Pend P O σ H env r v) (w : asgD i r env N) : ∃ env', SR P Gh O (σ.set i (some v)) H env' ∧ N env' ∧
    ∀ r0 v0, Pend P O σ H env r0 v0 → NoA v v0 r r0 → Pend P O (σ.set i (some v)) H env' r0 v0 := by
  have keep : ∀ (u : Sl) (r0 : R) (v0 : V), Pend P O σ H env r0 v0 → (isOwn u = true → isNw r0 = true → v ≠ v0) → Pend P O (σ.set i (some v)) H (env.set i u) r0 v0 := fun u r0 v0 q n => by
    rcases q.kind with h0 | ⟨d, rfl⟩
    · obtain ⟨b, e0, q1, q2, q3, q4, q6⟩ := (Pend.new h0).mp q
      refine (Pend.new h0).mpr ⟨b, e0, q1, q2, q3, q4, fun j u' e1 o e2 => ?_⟩
      rw [List.getElem?_set] at e1 e2
      by_cases z : i = j
      · subst z
        rw [if_pos rfl] at e1 e2
        split at e1
        · split at e2
          · have e1' := Option.some.inj e1
            have e2' := Option.some.inj (Option.some.inj e2)
            subst e1'
            exact n o h0 (by rw [e2', e0])
          · cases e2
        · cases e1
      · rw [if_neg z] at e1 e2
        exact q6 j u' e1 o e2
    · exact q
  rcases asgD_cases w with hn | ⟨d, rfl⟩
  · obtain ⟨a, rfl, q1, q2, q3, q4, q6⟩ := (Pend.new hn).mp h
    exact ⟨_, S.setNew hn q1 q2 q3 q4 q6, asgD_new hn w, fun r0 v0 q n => keep _ r0 v0 q fun _ o => n hn o⟩
  · exact ⟨_, S.setV h, w, fun r0 v0 q _ => keep _ r0 v0 q fun o => by cases o⟩
theorem par_read {i j : Nat} {ca cb : CE} {DD : DE} {D : Ends} (S : SR P Gh O σ H env) (w : wpE P.G ca env fun x => wpE P.G cb env fun y => asgD i x env fun e => asgD j y e DD.nx) (f : FinS P Gh DD D) :
    tPar i j (tCons (tD P ca) (tCons (tD P cb) tNil)) D σ H := by
  refine ⟨Gh, O, env, _, S, w, fun r v H1 s1 p1 r1 w1 => ?_⟩
  cases nb1 : isB r with
  | false =>
    obtain ⟨O1, S1, q1, k1⟩ := Pend.take S s1 p1 r1 nb1
    refine ⟨Gh, O1, env, _, S1, w1, fun r' v' H2 s2 p2 r2 w2 => ⟨v, v', rfl, ?_⟩⟩
    have nb2 : isB r' = false := by
      obtain ⟨e1, w4⟩ := asgD_some w2
      exact asgD_nb w4
    obtain ⟨O2, S2, q2, k2⟩ := Pend.take S1 s2 p2 r2 nb2
    obtain ⟨a1, a2⟩ := k2 r v q1
    obtain ⟨e1, T1, w4, m1⟩ := Pend.store S2 a1 w2
    have d1 := m1 r' v' q2 a2
    obtain ⟨e2, T2, w5, _⟩ := Pend.store T1 d1 w4
    exact f.nx O2 _ _ _ T2 w5
  | true => exact ⟨Gh, O, env, _, S.mono s1 p1, w1, fun r' v' H2 s2 p2 r2 w2 => (asgD_b nb1 w2).elim⟩
theorem Pend.up {r : R} {v : V} (S : SR P Gh O σ H env) (s : SameP P.p H H1) (q : Pend P O σ H env r v) : Pend P O σ H1 env r v := by
  rcases q.kind with h0 | ⟨d, rfl⟩
  · obtain ⟨b, e0, q1, q2, q3, q4, q6⟩ := (Pend.new h0).mp q
    exact (Pend.new h0).mpr ⟨b, e0, q1, q2, q3, q4.up S.op s q2, q6⟩
  · exact Rep.up S.op s q
theorem parc_read {K : PySem.W.Frag} {i j : Nat} {ca cb : CE} {DD : DE} {D : Ends} (S : SR P Gh O σ H env) (w : wpE P.G ca env fun x => wpE P.G cb env fun y => asgD i x env fun e => asgD j y e DD.nx) (f : FinS P Gh DD D) :
    tTupF (tCons (tD P ca) (tCons (tD P cb) tNil)) σ H fun x H1 => gTup K 2 (gCons (gName i) (gCons (gName j) gNil)) x σ H1 D.nx := by
  refine ⟨Gh, O, env, _, S, w, fun r v H1 s1 p1 r1 w1 => ?_⟩
  cases nb1 : isB r with
  | false =>
    obtain ⟨O1, S1, q1, k1⟩ := Pend.take S s1 p1 r1 nb1
    refine ⟨Gh, O1, env, _, S1, w1, fun r' v' H2 s2 p2 r2 w2 => ⟨by show 2 ≤ sizeLine; rw [sizeLine_eq]; omega, fun a o ha hd => ⟨a, [v, v'], rfl, .inl (.inr ⟨o, upd_same⟩), rfl, v, [v'], rfl, v', [], rfl, rfl, ?_⟩⟩⟩
    have nb2 : isB r' = false := by
      obtain ⟨e1, w4⟩ := asgD_some w2
      exact asgD_nb w4
    obtain ⟨O2, S2, q2, k2⟩ := Pend.take S1 s2 p2 r2 nb2
    obtain ⟨a1, a2⟩ := k2 r v q1
    have sN : SameP P.p H2 (upd H2 a (.frz o (.tup [v, v']))) := SameP.new ha
    have S3 := S2.mono sN (S2.pool.new ha)
    obtain ⟨e1, T1, w4, m1⟩ := Pend.store S3 (a1.up S2 sN) w2
    have d1 := m1 r' v' (q2.up S2 sN) a2
    obtain ⟨e2, T2, w5, _⟩ := Pend.store T1 d1 w4
    exact f.nx O2 _ _ _ T2 w5
  | true => exact ⟨Gh, O, env, _, S.mono s1 p1, w1, fun r' v' H2 s2 p2 r2 w2 => (asgD_b nb1 w2).elim⟩
theorem par3_read {i j l : Nat} {ca cb cc : CE} {DD : DE} {D : Ends} (S : SR P Gh O σ H env) (w : wpE P.G ca env fun x => wpE P.G cb env fun y => wpE P.G cc env fun z => asgD i x env fun e => asgD j y e fun e' => asgD l z e' DD.nx) (f : FinS P Gh DD D) :
    tPar3 i j l (tCons (tD P ca) (tCons (tD P cb) (tCons (tD P cc) tNil))) D σ H := by
  refine ⟨Gh, O, env, _, S, w, fun r v H1 s1 p1 r1 w1 => ?_⟩
  cases nb1 : isB r with
  | false =>
    obtain ⟨O1, S1, q1, k1⟩ := Pend.take S s1 p1 r1 nb1
    refine ⟨Gh, O1, env, _, S1, w1, fun r' v' H2 s2 p2 r2 w2 => ?_⟩
    cases nb2 : isB r' with
    | false =>
      obtain ⟨O2, S2, q2, k2⟩ := Pend.take S1 s2 p2 r2 nb2
      refine ⟨Gh, O2, env, _, S2, w2, fun r'' v'' H3 s3 p3 r3 w3 => ⟨v, v', v'', rfl, ?_⟩⟩
      have nb3 : isB r'' = false := by
        obtain ⟨e1, w4⟩ := asgD_some w3
        obtain ⟨e2, w5⟩ := asgD_some w4
        exact asgD_nb w5
      obtain ⟨O3, S3, q3, k3⟩ := Pend.take S2 s3 p3 r3 nb3
      obtain ⟨a1, a2⟩ := k2 r v q1
      obtain ⟨b1, b2⟩ := k3 r v a1
      obtain ⟨c1, c2⟩ := k3 r' v' q2
      obtain ⟨e1, T1, w4, m1⟩ := Pend.store S3 b1 w3
      have d1 := m1 r' v' c1 a2
      have d2 := m1 r'' v'' q3 b2
      obtain ⟨e2, T2, w5, m2⟩ := Pend.store T1 d1 w4
      have d3 := m2 r'' v'' d2 c2
      obtain ⟨e3, T3, w6, _⟩ := Pend.store T2 d3 w5
      exact f.nx O3 _ _ _ T3 w6
    | true =>
      refine ⟨Gh, O1, env, _, S1.mono s2 p2, w2, fun r'' v'' H3 s3 p3 r3 w3 => ?_⟩
      obtain ⟨e1, w4⟩ := asgD_some w3
      exact (asgD_b nb2 w4).elim
  | true => exact ⟨Gh, O, env, _, S.mono s1 p1, w1, fun r' v' H2 s2 p2 r2 w2 => ⟨Gh, O, env, _, (S.mono s1 p1).mono s2 p2, w2, fun r'' v'' H3 s3 p3 r3 w3 => (asgD_b nb1 w3).elim⟩⟩
theorem RR.ret {r : R} {v : V} {Qr : R → Prop} (S : SR P Gh O σ H env) (s : SameP P.p H H1) (h : RR P O H H1 r v) (w : retD r Qr) : ∃ r', RRc P.K P.p P.O0 P.H0 H1 r' v ∧ Qr r' := by
  cases r with
  | v d => exact ⟨.v d, Rep.mono (hid_sub S.sub) h, w⟩
  | nw ds =>
    obtain ⟨a, vs, rfl, ha, h2, h3⟩ := h
    refine ⟨.nw ds, ⟨a, vs, rfl, S.same.free (S.np a ha) ha, h2, RepL.mono (hid_sub fun b hb => ?_) h3⟩, w⟩
    unfold addO at hb ⊢
    rw [Bool.or_eq_true] at hb ⊢
    exact hb.imp (S.sub b) id
  | bw ds =>
    obtain ⟨a, vs, rfl, h0, oa, na, h2, h3⟩ := h
    refine ⟨.nw ds, ⟨a, vs, rfl, h0, h2, RepL.mono (hid_sub fun b hb => ?_) h3⟩, w⟩
    unfold addO at hb
    rw [Bool.or_eq_true] at hb
    rcases hb with hb | hb
    · exact S.sub b hb
    · rw [of_decide_eq_true hb]
      exact oa
  | nd ds => exact w.elim
  | bd ds => exact w.elim
end
section
variable {X : Cx} {P : Pm} {pos : Pos}
theorem sd_nil : PSs X [] (tSs P .nil) := pssImp pss_nil fun D σ H h => by
  obtain ⟨Gh, O, env, DD, S, w, f⟩ := h
  exact f.nx O σ H env S w
theorem sd_cons {st : Stmt} {rest : List Stmt} {c : CS} {r : CSs} (h1 : PS X st (tS P c)) (h2 : PSs X rest (tSs P r)) : PSs X (st :: rest) (tSs P (.cons c r)) := pssImp (pss_cons h1 h2) fun D σ H h => by
  obtain ⟨Gh, O, env, DD, S, w, f⟩ := h
  obtain ⟨O', S'⟩ := S.frz (escS c)
  exact ⟨Gh, O', _, _, S', w, ⟨fun O σ H env S q => ⟨Gh, O, env, DD, S, q, f⟩, f.bk, f.ct, f.rt⟩⟩
theorem sd_pass : PS X (.Pass pos) (tS P .pass) := psImp ps_pass fun D σ H h => by
  obtain ⟨Gh, O, env, DD, S, w, f⟩ := h
  exact f.nx O σ H env S w
theorem sd_brk : PS X (.Break pos) (tS P .brk) := psImp ps_break fun D σ H h => by
  obtain ⟨Gh, O, env, DD, S, w, f⟩ := h
  exact f.bk O σ H env S w
theorem sd_cnt : PS X (.Continue pos) (tS P .cnt) := psImp ps_continue fun D σ H h => by
  obtain ⟨Gh, O, env, DD, S, w, f⟩ := h
  exact f.ct O σ H env S w
theorem sd_asg {i : Nat} {x : Str} {e : Expr} {ce : CE} {p' : Pos} (hN : X.N.Nodup) (h : NmOk X i x) (he : PE X e (tD P ce)) (hs : swapsWith e (some (.Name x p')) pos.line X.env = pure false) : PS X (.Assign [.Name x p'] e pos) (tS P (.asg i ce)) :=
  psImp (ps_set hN h.at_ h.loc he hs h.fn) fun D σ H h => by
    obtain ⟨Gh, O, env, DD, S, w, f⟩ := h
    exact asg_read S w f
theorem sd_par {i j : Nat} {x y : Str} {a b : Expr} {ca cb : CE} {px py pt : Pos} {kt k2 pt2} (hc : X.calm = true) (hN : X.N.Nodup) (hi : X.N[i]? = some x) (hj : X.N[j]? = some y) (hij : i ≠ j)
    (hx : X.env.scope.names.lookup x = some .local) (hy : X.env.scope.names.lookup y = some .local) (ha : PE X a (tD P ca)) (hb : PE X b (tD P cb)) (h1 : starEach [a, b] X.env = (false, eval a X.env) :: starEach [b] X.env) (h2 : starEach [b] X.env = (false, eval b X.env) :: starEach [] X.env)
    (hw : swappedStores [.Tuple [.Name x px, .Name y py] kt pt] (.Tuple [a, b] k2 pt2) X.env = pure (some [x, y])) (hs : swapsWithSole [.Tuple [.Name x px, .Name y py] kt pt] (.Tuple [a, b] k2 pt2) pos.line X.env = pure false) :
    PS X (.Assign [.Tuple [.Name x px, .Name y py] kt pt] (.Tuple [a, b] k2 pt2) pos) (tS P (.par i j ca cb)) :=
  psImp (ps_par hc hN hi hj hij hx hy (pa_cons ha (pa_cons hb pa_nil h2) h1) hw hs) fun D σ H h => by
    obtain ⟨Gh, O, env, DD, S, w, f⟩ := h
    exact par_read S w f
theorem sd_parc {i j : Nat} {x y : Str} {a b : Expr} {ca cb : CE} {px py pt : Pos} {kt k2 pt2} (hc : X.calm = true) (hN : X.N.Nodup) (hx : NmOk X i x) (hy : NmOk X j y) (ha : PE X a (tD P ca)) (hb : PE X b (tD P cb)) (h1 : starEach [a, b] X.env = (false, eval a X.env) :: starEach [b] X.env) (h2 : starEach [b] X.env = (false, eval b X.env) :: starEach [] X.env)
    (hw : swappedStores [.Tuple [.Name x px, .Name y py] kt pt] (.Tuple [a, b] k2 pt2) X.env = pure none) (hs : swapsWithSole [.Tuple [.Name x px, .Name y py] kt pt] (.Tuple [a, b] k2 pt2) pos.line X.env = pure false) :
    PS X (.Assign [.Tuple [.Name x px, .Name y py] kt pt] (.Tuple [a, b] k2 pt2) pos) (tS P (.parc i j ca cb)) :=
  psImp (ps_asg (pe_tupF (pa_cons ha (pa_cons hb pa_nil h2) h1)) (pg_tup hc (pgs_cons (pg_name hN hx.at_ hx.loc hx.fn) (pgs_cons (pg_name hN hy.at_ hy.loc hy.fn) pgs_nil rfl) rfl) rfl rfl) hs hw rfl) fun D σ H h => by
    obtain ⟨Gh, O, env, DD, S, w, f⟩ := h
    exact parc_read S w f
theorem sd_par3 {i j l : Nat} {x y z : Str} {a b c : Expr} {ca cb cc : CE} {px py pz pt : Pos} {kt k2 pt2} (hc : X.calm = true) (hN : X.N.Nodup) (hi : X.N[i]? = some x) (hj : X.N[j]? = some y) (hl : X.N[l]? = some z) (hij : i ≠ j) (hil : i ≠ l) (hjl : j ≠ l)
    (hx : X.env.scope.names.lookup x = some .local) (hy : X.env.scope.names.lookup y = some .local) (hz : X.env.scope.names.lookup z = some .local) (ha : PE X a (tD P ca)) (hb : PE X b (tD P cb)) (hcc : PE X c (tD P cc)) (h1 : starEach [a, b, c] X.env = (false, eval a X.env) :: starEach [b, c] X.env) (h2 : starEach [b, c] X.env = (false, eval b X.env) :: starEach [c] X.env) (h3 : starEach [c] X.env = (false, eval c X.env) :: starEach [] X.env)
    (hw : swappedStores [.Tuple [.Name x px, .Name y py, .Name z pz] kt pt] (.Tuple [a, b, c] k2 pt2) X.env = pure (some [x, y, z])) (hs : swapsWithSole [.Tuple [.Name x px, .Name y py, .Name z pz] kt pt] (.Tuple [a, b, c] k2 pt2) pos.line X.env = pure false) :
    PS X (.Assign [.Tuple [.Name x px, .Name y py, .Name z pz] kt pt] (.Tuple [a, b, c] k2 pt2) pos) (tS P (.par3 i j l ca cb cc)) :=
  psImp (ps_par3 hc hN hi hj hl hij hil hjl hx hy hz (pa_cons ha (pa_cons hb (pa_cons hcc pa_nil h3) h2) h1) hw hs) fun D σ H h => by
    obtain ⟨Gh, O, env, DD, S, w, f⟩ := h
    exact par3_read S w f
theorem sd_unp {is : List Nat} {tg e : Expr} {ce : CE} (he : PE X e (tD P ce)) (hg : PG X tg (tG P (.tp is))) (hs : swapsWithSole [tg] e pos.line X.env = pure false) (hw : swappedStores [tg] e X.env = pure none) (h1 : (assignEach [tg] X.env).map (·.2) = [assign tg X.env]) :
    PS X (.Assign [tg] e pos) (tS P (.unp is ce)) :=
  psImp (ps_asg he hg hs hw h1) fun D σ H h => by
    obtain ⟨Gh, O, env, DD, S, w, f⟩ := h
    refine ⟨Gh, O, env, _, S, w, fun r v H1 s1 p1 r1 w1 => ?_⟩
    have S1 := S.mono s1 p1
    have rp : Rep P.K P.p (hid H1 O) r.d v := by
      cases r with
      | v d => exact r1
      | nw ds => exact r1.esc S.trk rfl
      | bw ds => exact False.elim w1
      | nd ds => exact False.elim w1
      | bd ds => exact False.elim w1
    exact ⟨Gh, O, env, _, _, S1, rp, w1, fun σ' env' S' _ q => f.nx O σ' H1 env' S' q⟩
theorem sd_unp2 {i j l : Nat} {tg e : Expr} {ce : CE} (he : PE X e (tD P ce)) (hg : PG X tg (tGN P i j l)) (hs : swapsWithSole [tg] e pos.line X.env = pure false) (hw : swappedStores [tg] e X.env = pure none) (h1 : (assignEach [tg] X.env).map (·.2) = [assign tg X.env]) :
    PS X (.Assign [tg] e pos) (tS P (.unp2 i j l ce)) :=
  psImp (ps_asg he hg hs hw h1) fun D σ H h => by
    obtain ⟨Gh, O, env, DD, S, w, f⟩ := h
    refine ⟨Gh, O, env, _, S, w, fun r v H1 s1 p1 r1 w1 => ?_⟩
    have S1 := S.mono s1 p1
    have rp : Rep P.K P.p (hid H1 O) r.d v := by
      cases r with
      | v d => exact r1
      | nw ds => exact r1.esc S.trk rfl
      | bw ds => exact False.elim w1
      | nd ds => exact False.elim w1
      | bd ds => exact False.elim w1
    split at w1
    · rename_i a b c e2
      rw [e2] at rp
      exact ⟨Gh, O, env, a, b, c, S1, rp, fun σ' S' => f.nx O σ' H1 _ S' w1⟩
    · exact False.elim w1
theorem sd_ret {e : Expr} {ce : CE} (he : PE X e (tD P ce)) : PS X (.Return (some e) pos) (tS P (.ret ce)) := psImp (ps_ret he) fun D σ H h => by
  obtain ⟨Gh, O, env, DD, S, w, f⟩ := h
  exact ⟨Gh, O, env, _, S, w, fun r v H1 s1 p1 r1 w1 => (r1.ret S s1 w1).elim fun r' q => f.rt _ _ _ (S.same.trans s1) p1 q.1 q.2⟩
theorem sd_retN : PS X (.Return none pos) (tS P (.ret .non)) := psImp ps_retN fun D σ H h => by
  obtain ⟨Gh, O, env, DD, S, w, f⟩ := h
  exact f.rt (.v .none) .non H S.same S.pool rfl w
theorem sd_ite {c : Expr} {a b : List Stmt} {cc : CE} {ca cb : CSs} (hc : PT X c (tT P cc)) (ha : PSs X a (tSs P ca)) (hb : PSs X b (tSs P cb)) : PS X (.If c a b pos) (tS P (.ite cc ca cb)) := psImp (ps_if hc ha hb) fun D σ H h => by
  obtain ⟨Gh, O, env, DD, S, w, f⟩ := h
  refine ⟨Gh, O, env, _, S, w, fun t H1 s1 p1 w1 => ?_⟩
  cases t with
  | true => exact ⟨Gh, O, env, DD, S.mono s1 p1, w1, f⟩
  | false => exact ⟨Gh, O, env, DD, S.mono s1 p1, w1, f⟩
theorem sd_aug {i : Nat} {x : Str} {op : Operator} {e : Expr} {ce : CE} {p' : Pos} (hN : X.N.Nodup) (h : NmOk X i x) (he : PE X e (tD P ce)) (ho : op = .Add ∨ op = .Sub) : PS X (.AugAssign (.Name x p') op e pos) (tS P (.aug i op ce)) := by
  have key : ∀ (g : Int → Int → Int), PIp X op (ipI g) → (∀ (a : Int) (y : D) (Q : Int → Prop), augD op a y Q → ∃ b, y = .int b ∧ Q (g a b)) → PS X (.AugAssign (.Name x p') op e pos) (tS P (.aug i op ce)) := fun g hp hg => psImp (ps_aug hN h.at_ h.loc he hp h.fn) fun D σ H h => by
    obtain ⟨Gh, O, env, DD, S, w, f⟩ := h
    simp only [wpS] at w
    split at w
    · rename_i a e0
      obtain ⟨v, h1, h2⟩ := S.sl i _ e0
      refine ⟨v, h1, Gh, O, env, _, S, w, fun r u H1 s1 p1 r1 w1 => ?_⟩
      obtain ⟨b, eb, w2⟩ := hg a r.d _ w1
      exact ⟨a, b, h2, lk_int (r1.lk S.op S.np) eb, f.nx O _ H1 _ ((S.mono s1 p1).setV (d := .int (g a b)) rfl) w2⟩
    · exact False.elim w
  rcases ho with rfl | rfl
  · refine key _ ip_add fun a y Q w => ?_
    cases y with
    | int b => exact ⟨b, rfl, w⟩
    | _ => exact False.elim w
  · refine key _ ip_sub fun a y Q w => ?_
    cases y with
    | int b => exact ⟨b, rfl, w⟩
    | _ => exact False.elim w
theorem sd_whl {c : Expr} {body : List Stmt} {cc : CE} {cb : CSs} (hp : PassesOwn (model X.prog X.w) X.A X.env X.xe) (hc : PT X c (tT P cc)) (hb : PSs X body (tSs P cb)) : PS X (.While c body [] pos) (tS P (.whl cc cb)) := psImp (ps_while hp hc hb) fun D σ H h => by
  obtain ⟨Gh, O, env, DD, S, w, f⟩ := h
  obtain ⟨W, ⟨m, w0⟩, step⟩ := w
  refine ⟨fun m σ H => ∃ O env, SR P Gh O σ H env ∧ W m env, ⟨m, O, env, S, w0⟩, fun m σ H h => ?_⟩
  obtain ⟨O, env, S, wm⟩ := h
  refine ⟨Gh, O, env, _, S, step m env wm, fun t H1 s1 p1 w1 => ?_⟩
  have S1 := S.mono s1 p1
  cases t with
  | true =>
    refine ⟨fun σ' H' => ∃ m', m' < m ∧ ∃ O env, SR P Gh O σ' H' env ∧ W m' env, fun σ' H' q => q, Gh, O, env, _, S1, w1, ⟨fun O σ H env S q => ?_, fun O σ H env S q => f.nx O σ H env S q, fun O σ H env S q => ?_, f.rt⟩⟩
    · obtain ⟨m', hm, q⟩ := q
      exact ⟨m', hm, O, env, S, q⟩
    · obtain ⟨m', hm, q⟩ := q
      exact ⟨m', hm, O, env, S, q⟩
  | false => exact f.nx O σ H1 env S1 w1
theorem sd_for {tg it : Expr} {body : List Stmt} {ct : CT} {ci : CI} {cb : CSs} (hp : PassesOwn (model X.prog X.w) X.A X.env X.xe) (hc : X.calm = true) (hi : PI X tg it (tI P ci)) (hg : PG X tg (tG P ct)) (hb : PSs X body (tSs P cb)) (hs : ∀ x, foldedSetIterable it X.env x = pure x) :
    PS X (.For tg it body [] pos) (tS P (.for_ ct ci cb)) := psImp (ps_for hp hc hi hg hb hs) fun D σ H h => by
  obtain ⟨Gh, O, env, DD, S, w, f⟩ := h
  refine ⟨Gh, O, env, _, S, w, fun b items J H1 s1 p1 ic ig w1 => ?_⟩
  obtain ⟨hb, w1⟩ := w1
  obtain ⟨g, rg, wg⟩ := ig hb
  have S1 := (S.mono s1 p1).more g rg
  have wk : Walk J items.length (fun H => ∃ O σ env, SR P (g :: Gh) O σ H env) (fun i H x H' => ∀ O, OC P O H → Rep P.K P.p (hid H O) g.1 g.2 → SameP P.p H H' ∧ PoolOk P.p P.a0 H' ∧ ∃ d, items[i]? = some d ∧ Rep P.K P.p (hid H' O) d x) := by
    refine ⟨fun i H hi q => ?_, fun H q => ?_, fun i H x H' hi q y O c r => (wg O H c r).2.2 i x H' hi y⟩
    · obtain ⟨O, σ, env, Sx⟩ := q
      exact (wg O H Sx.oc (Sx.gh g List.mem_cons_self)).1 i hi
    · obtain ⟨O, σ, env, Sx⟩ := q
      exact (wg O H Sx.oc (Sx.gh g List.mem_cons_self)).2.1
  refine for_it wk (fun i σ H => ∃ O env, SR P (g :: Gh) O σ H env ∧ foldF (wpSs P.G cb) ct DD (items.drop i) env) ⟨O, env, S1, w1⟩ (fun i σ H _ q => ?_) (fun i x σ H H' hi q y => ?_) (fun σ H q => ?_)
  · obtain ⟨O, env, Sx, _⟩ := q
    exact ⟨O, σ, env, Sx⟩
  · obtain ⟨O, env, Sx, wx⟩ := q
    obtain ⟨y1, y2, d, y3, y4⟩ := y O Sx.oc (Sx.gh g List.mem_cons_self)
    have ed : items.drop i = d :: items.drop (i + 1) := by
      obtain ⟨l, e⟩ := List.getElem?_eq_some_iff.mp y3
      rw [← e]
      exact List.drop_eq_getElem_cons l
    rw [ed] at wx
    refine ⟨g :: Gh, O, env, d, _, Sx.mono y1 y2, y4, wx, fun σ' env' S' _ w' => ⟨g :: Gh, O, env', _, S', w', ⟨fun O σ H env S q => ⟨O, env, S, q⟩, fun O σ H env S q => f.nx O σ H env S.less q, fun O σ H env S q => ⟨O, env, S, q⟩, f.rt⟩⟩⟩
  · obtain ⟨O, env, Sx, wx⟩ := q
    rw [List.drop_length] at wx
    exact f.nx O σ H env Sx.less wx
end
/-- an own thing changes -/
theorem SR.chg {P : Pm} {O : Addr → Bool} {H : Hp} {Gh : List (D × V)} {σ : L2.St} {env : En} (S : SR P Gh O σ H env) {i : Nat} {u u' : Sl} {a : Addr} {ob : HO} (e : env[i]? = some u) (ou : isOwn u = true) (h1 : σ[i]? = some (some (.ref a))) (h3 : P.H0 a = none) (h4 : O a = true) (h5 : a ≠ P.p)
    (hs : SlotR P O σ (upd H a ob) i u') : SR P Gh O σ (upd H a ob) (env.set i u') := by
  have hh : hid (upd H a ob) O = hid H O := hid_upd h4
  have il : i < env.length := (List.getElem?_eq_some_iff.mp e).1
  have pl : PoolOk P.p P.a0 (upd H a ob) := by
    obtain ⟨k, m, c, z, q, ⟨ns, l, q0⟩, rr⟩ := S.pool
    obtain ⟨_, _, _, _, _, ⟨ns', _, qq0⟩, _⟩ := S.pool0
    refine ⟨k, m, c, z, by rw [upd_ne h5.symm]; exact q, ⟨ns, l, ?_⟩, rr⟩
    rw [upd_ne fun y => by rw [y, h3] at qq0; cases qq0]
    exact q0
  have far : ∀ {j : Nat} {b : Addr} {w : Sl}, i ≠ j → env[j]? = some w → isOwn w = true → σ[j]? = some (some (.ref b)) → b ≠ a := fun {j b w} z ej ow q1 zz => z (S.inj i j a u w e ej ou ow h1 (by rw [← zz]; exact q1))
  refine ⟨fun b o nb hb => ?_, pl, S.pool0, S.op, fun b hb => ?_, S.sub, by rw [List.length_set]; exact S.len, fun j w ej => ?_, fun j k b w w' e1 e2 o1 o2 e3 e4 => ?_, fun g hg => by rw [hh]; exact S.gh g hg⟩
  · rw [upd_ne fun z => by rw [z, h3] at hb; cases hb]
    exact S.same b o nb hb
  · by_cases z : b = a
    · rw [z]
      exact ⟨_, upd_same⟩
    · rw [upd_ne z]
      exact S.trk b hb
  · rw [List.getElem?_set] at ej
    by_cases z : i = j
    · subst z
      rw [if_pos rfl, if_pos il] at ej
      have ej' := Option.some.inj ej
      subst ej'
      exact hs
    · rw [if_neg z] at ej
      have q := S.sl j w ej
      cases w with
      | no => exact trivial
      | val d =>
        obtain ⟨v, q1, q2⟩ := q
        exact ⟨v, q1, by rw [hh]; exact q2⟩
      | own fs =>
        obtain ⟨b, us, q1, q2, q3, q4, q5, q6⟩ := q
        refine ⟨b, us, q1, ?_, q3, q4, q5, by rw [hh]; exact q6⟩
        rw [upd_ne (far z ej rfl q1)]
        exact q2
      | dic fs =>
        obtain ⟨b, us, q1, q2, q3, q4, q5, q6⟩ := q
        refine ⟨b, us, q1, ?_, q3, q4, q5, by rw [hh]; exact q6⟩
        rw [upd_ne (far z ej rfl q1)]
        exact q2
  · have back : ∀ {j : Nat} {w : Sl}, (env.set i u')[j]? = some w → isOwn w = true → ∃ g, env[j]? = some g ∧ isOwn g = true := fun {j w} q ow => by
      rw [List.getElem?_set] at q
      by_cases z : i = j
      · subst z
        exact ⟨u, e, ou⟩
      · rw [if_neg z] at q
        exact ⟨w, q, ow⟩
    obtain ⟨g1, k1, l1⟩ := back e1 o1
    obtain ⟨g2, k2, l2⟩ := back e2 o2
    exact S.inj j k b g1 g2 k1 k2 l1 l2 e3 e4
/-- an own list grows -/
theorem SR.appd {P : Pm} {O : Addr → Bool} {H : Hp} {Gh : List (D × V)} {σ : L2.St} {env : En} (S : SR P Gh O σ H env) {i : Nat} {ds es : List D} {a : Addr} {vs ws : List V} (e : env[i]? = some (.own ds)) (h1 : σ[i]? = some (some (.ref a))) (h2 : H a = some (.lst vs)) (h3 : P.H0 a = none) (h4 : O a = true) (h5 : a ≠ P.p)
    (r : RepL P.K P.p (hid H O) es ws) : SR P Gh O σ (upd H a (.lst ws)) (env.set i (.own es)) :=
  S.chg e rfl h1 h3 h4 h5 ⟨a, ws, h1, upd_same, h3, h4, h5, by rw [hid_upd h4]; exact r⟩
section
variable {X : Cx} {P : Pm} {pos : Pos}
/-- name = [..] -/
theorem sd_asgLc {i : Nat} {y : Str} {py : Pos} {elt tg it : Expr} {ifs : List Expr} {scope : Scope} {own : List (Str × Nat)} {spos : Pos} {ce : CE} {ct : CT} {ci : CI} {cf : CEs} (hc : X.calm = true) (hN : X.N.Nodup) (hy : X.N[i]? = some y) (hyl : X.env.scope.names.lookup y = some .local)
    (hsw : swapsWith (.ListComp elt [⟨tg, it, ifs, 0⟩] scope pos) (some (.Name y py)) spos.line X.env = pure true) (hi : PI X tg it (tI P ci)) (ok : BlkOk X.N X.env.scope scope own)
    (hg : ∀ (s : Shared) (H : Hp) (C : Addr) (cl : List (Str × Addr)) (fp : List Addr), PG (X.blk s H scope (compEnvC scope cl C X.env) fp) tg (tG P ct)) (ht : ∀ (s : Shared) (H : Hp) (C : Addr) (cl : List (Str × Addr)) (fp : List Addr), PTs (X.blk s H scope (compEnvC scope cl C X.env) fp) ifs (tTs P cf))
    (he : ∀ (s : Shared) (H : Hp) (C : Addr) (cl : List (Str × Addr)) (fp : List Addr), PE (X.blk s H scope (compEnvC scope cl C X.env) fp) elt (tD P ce)) (hs : ∀ x, foldedSetIterable it X.env x = pure x) (hsl : ∀ i ∈ ct.slots, i ∈ own.map (·.2)) :
    PS X (.Assign [.Name y py] (.ListComp elt [⟨tg, it, ifs, 0⟩] scope pos) spos) (tS P (.asg i (.comp ce ct ci cf (own.map (·.2))))) :=
  psImp (ps_setLc hc hN hy hyl hsw hi ok hg ht he hs) fun D σ H h => by
    obtain ⟨Gh, O, env, DD, S, w, f⟩ := h
    exact lc_read hsl (asg_read S w f)
/-- x.append(e) -/
theorem sd_app {i : Nat} {x : Str} {e : Expr} {ce : CE} {p1 ap cp : Pos} (h : X.N[i]? = some x) (hv : Vis X.env.scope x) (hd : (x == ("__debug__" : Str)) = false) (hcd : (x == ("__classdict__" : Str)) = false) (he : PE X e (tD P ce))
    (hs : starEach [e] X.env = (false, eval e X.env) :: starEach [] X.env) (hl : (ap.endLine == cp.line) = true) : PS X (.Expr (.Call (.Attribute (.Name x p1) "append" ap) [e] [] cp) pos) (tS P (.app i ce)) := by
  have hf : ((backTo cp (starEach [e] X.env)).all (fun x => !x.1) && (backToKw cp (keywordEach [] X.env)).all (fun x => x.1.isSome) && decide ([e].length + ([] : List Keyword).length + (if ([] : List Keyword).isEmpty then 0 else 1) < 30)) = true := by
    rw [hs]
    rfl
  refine psImp (ps_expr (pe_bm PySem.F.plainAttrs_list PySem.F.slot_list_append PySem.F.type_list_append mt_append (pe_var h hv hd hcd) (pa_cons he pa_nil hs) rfl hf hl hs rfl) rfl) fun D σ H q => ?_
  obtain ⟨Gh, O, env, DD, S, w, f⟩ := q
  simp only [wpS] at w
  split at w
  · rename_i ds ei
    obtain ⟨a, vs, h1, h2, h3, h4, h5, h6⟩ := S.sl i _ ei
    refine ⟨_, h1, .inl ⟨rfl, vs, SqL.of h2⟩, Gh, O, env, _, S, w, fun r v H1 s1 p1 r1 w1 => ?_⟩
    split at w1
    · rename_i d ed
      have S1 := S.mono s1 p1
      have R1 := h6.up S.op s1
      have g2 := s1 a _ h5 h2
      exact ⟨a, vs, v, rfl, rfl, g2, by rw [R1.length]; exact w1.1, f.nx O _ _ _ (S1.appd ei h1 g2 h3 h4 h5 (R1.append (RepL.one (r1.esc S.trk ed)))) w1.2⟩
    · exact False.elim w1
  · exact False.elim w
/-- x.extend(e) -/
theorem sd_ext {i : Nat} {x : Str} {e : Expr} {ce : CE} {p1 ap cp : Pos} (hK : X.K = P.K) (h : X.N[i]? = some x) (hv : Vis X.env.scope x) (hd : (x == ("__debug__" : Str)) = false) (hcd : (x == ("__classdict__" : Str)) = false) (he : PE X e (tD P ce))
    (hs : starEach [e] X.env = (false, eval e X.env) :: starEach [] X.env) (hl : (ap.endLine == cp.line) = true) : PS X (.Expr (.Call (.Attribute (.Name x p1) "extend" ap) [e] [] cp) pos) (tS P (.ext i ce)) := by
  have hf : ((backTo cp (starEach [e] X.env)).all (fun x => !x.1) && (backToKw cp (keywordEach [] X.env)).all (fun x => x.1.isSome) && decide ([e].length + ([] : List Keyword).length + (if ([] : List Keyword).isEmpty then 0 else 1) < 30)) = true := by
    rw [hs]
    rfl
  refine psImp (ps_expr (pe_bm PySem.F.plainAttrs_list PySem.F.slot_list_extend PySem.F.type_list_extend mt_extendS (pe_var h hv hd hcd) (pa_cons he pa_nil hs) rfl hf hl hs rfl) rfl) fun D σ H q => ?_
  obtain ⟨Gh, O, env, DD, S, w, f⟩ := q
  simp only [wpS] at w
  split at w
  · rename_i ds ei
    obtain ⟨a, vs, h1, h2, h3, h4, h5, h6⟩ := S.sl i _ ei
    refine ⟨_, h1, .inl ⟨rfl, vs, SqL.of h2⟩, Gh, O, env, _, S, w, fun r v H1 s1 p1 r1 w1 => ?_⟩
    have S1 := S.mono s1 p1
    have R1 := h6.up S.op s1
    have g2 := s1 a _ h5 h2
    have lx := r1.lk S.op S.np
    split at w1
    · rename_i es ee
      rw [ee] at lx
      obtain ⟨b, ws, rfl, k1, _, k2⟩ := lx.tup
      exact ⟨a, b, vs, ws, rfl, rfl, g2, .inr (by rw [hK]; exact k1), by rw [R1.length, k2.length]; exact w1.1, f.nx O _ _ _ (S1.appd ei h1 g2 h3 h4 h5 (R1.append k2)) w1.2⟩
    · rename_i es ee
      rw [ee] at lx
      obtain ⟨b, ws, rfl, n, k1, k2⟩ := lx
      exact ⟨a, b, vs, ws, rfl, rfl, g2, .inl (SqL.of k1), by rw [R1.length, k2.length]; exact w1.1, f.nx O _ _ _ (S1.appd ei h1 g2 h3 h4 h5 (R1.append k2)) w1.2⟩
    · exact False.elim w1
  · exact False.elim w
theorem RepL.dropLast {K : PySem.W.Frag} {p : Addr} {H : Hp} {ds : List D} {vs : List V} (r : RepL K p H ds vs) : RepL K p H ds.dropLast vs.dropLast := by
  rw [List.dropLast_eq_take, List.dropLast_eq_take, r.length]
  exact r.take _
/-- y = x.pop() -/
theorem sd_popl {i j : Nat} {x y : Str} {p1 py ap cp : Pos} (hN : X.N.Nodup) (h : X.N[i]? = some x) (hv : Vis X.env.scope x) (hd : (x == ("__debug__" : Str)) = false) (hcd : (x == ("__classdict__" : Str)) = false) (hy : NmOk X j y) (hl : (ap.endLine == cp.line) = true)
    : PS X (.Assign [.Name y py] (.Call (.Attribute (.Name x p1) "pop" ap) [] [] cp) pos) (tS P (.popl i j)) := by
  refine psImp (ps_set hN hy.at_ hy.loc (pe_bm0 PySem.F.plainAttrs_list PySem.F.slot_list_pop PySem.F.type_list_pop mt_pop (pe_var h hv hd hcd) rfl hl) rfl hy.fn) fun D σ H q => ?_
  obtain ⟨Gh, O, env, DD, S, w, f⟩ := q
  simp only [wpS] at w
  split at w
  · rename_i ds ei
    split at w
    · rename_i d ed
      obtain ⟨a, vs, h1, h2, h3, h4, h5, h6⟩ := S.sl i _ ei
      have hd' : ds[ds.length - 1]? = some d := by rw [← List.getLast?_eq_getElem?]; exact ed
      obtain ⟨v, v1, v2⟩ := h6.get hd'
      have S2 := S.appd ei h1 h2 h3 h4 h5 h6.dropLast
      have v3 : Rep P.K P.p (hid (upd H a (.lst vs.dropLast)) O) d v := by rw [hid_upd h4]; exact v2
      exact ⟨_, h1, .inl ⟨rfl, vs, SqL.of h2⟩, a, vs, v, rfl, rfl, h2, by rw [h6.length]; exact v1, f.nx O _ _ _ (S2.setV v3) w⟩
    · exact False.elim w
  · exact False.elim w
/-- x[k] = e, x a dict keyed by tuples -/
theorem sd_put {i : Nat} {x : Str} {k e : Expr} {ck ce : CE} {p1 p2 : Pos} (hu : X.A.units + 65 < cLine) (hK : X.K = P.K) (hw : X.w = P.w) (h : X.N[i]? = some x) (hv : Vis X.env.scope x) (hd : (x == ("__debug__" : Str)) = false) (hcd : (x == ("__classdict__" : Str)) = false)
    (hk : PE X k (tD P ck)) (he : PE X e (tD P ce)) (hs : swapsWith e (some (.Subscript (.Name x p1) k p2)) pos.line X.env = pure false) : PS X (.Assign [.Subscript (.Name x p1) k p2] e pos) (tS P (.put i ck ce)) := by
  refine ⟨fun pins s σ H D I q => ?_⟩
  obtain ⟨Gh, O, env, DD, S, w, f⟩ := q
  simp only [wpS] at w
  split at w
  · rename_i kvs ei
    obtain ⟨a, xs, h1, h2, h3, h4, h5, h6⟩ := S.sl i _ ei
    refine wpAny_Assign_Subscript (thn (he.run pins s σ H (fun v H1 => ∃ d, SameP P.p H H1 ∧ PoolOk P.p P.a0 H1 ∧ Rep P.K P.p (hid H1 O) d v ∧ wpE P.G ck env fun y => keyOk y.d = true ∧ kvs.length < sizeLine ∧ DD.nx (env.set i (.dic (putT kvs y.d d)))) I ⟨Gh, O, env, _, S, w, fun r v H1 s1 p1 r1 w1 => ?_⟩)
      fun ue s1 ⟨v, H1, I1, rv, d, s1', p1, rd, w1⟩ => ?_) hs
    · split at w1
      · rename_i d ed
        exact ⟨d, s1, p1, r1.esc S.trk ed, w1⟩
      · exact False.elim w1
    have S1 := S.mono s1' p1
    refine thn ((pe_var h hv hd hcd).run pins s1 σ H1 (fun z H2 => z = .ref a ∧ H2 = H1) I1 ⟨_, h1, rfl, rfl⟩) fun ua s2 ⟨z, H2, I2, rz, ez, eH⟩ => ?_
    subst ez eH
    cases rz
    refine thn (hk.run pins s2 σ H2 (fun y H3 => ∃ kd, SameP P.p H2 H3 ∧ PoolOk P.p P.a0 H3 ∧ Rep P.K P.p (hid H3 O) kd y ∧ keyOk kd = true ∧ kvs.length < sizeLine ∧ DD.nx (env.set i (.dic (putT kvs kd d)))) I2 ⟨Gh, O, env, _, S1, w1, fun r y H3 s3 p3 r3 w3 => ⟨r.d, s3, p3, (r3.lk S1.op S1.np).rep w3.1, w3.1, w3.2⟩⟩)
      fun uk s3 ⟨y, H3, I3, ry, kd, s3', p3, rk, ok, hl, wn⟩ => ?_
    have S3 := S1.mono s3' p3
    have g2 : H3 a = some (dtO X.w a xs) := by rw [hw]; exact s3' a _ h5 (s1' a _ h5 h2)
    have g6 : RepX P.K P.p (hid H3 O) kvs xs := (h6.up S.op s1').up S.op s3'
    refine dt_set hu hid_in hK I3 g2 g6 hl ok rk ry (rd.up S.op s3') rv fun ys s4 rp I4 => ⟨σ, _, I4, ?_⟩
    exact f.nx O _ _ _ (S3.chg (u' := .dic (putT kvs kd d)) ei rfl h1 h3 h4 h5 ⟨a, ys, h1, by rw [upd_same, hw], h3, h4, h5, by rw [hid_upd h4]; exact rp⟩) wn
  · exact False.elim w
end
end DL

/-! DL7: from the text to the core, and the theorem that this is right. -/
namespace DL
open PySem PySem.Spec PyProof.Rows L2
/-- the names of defs and of constants that are known, by their places -/
structure Tb where
  fn : List (Str × Nat)
  gl : List (Str × Nat)
def ixS (x : Str) : List Str → Option Nat
  | [] => none
  | y :: ys => if x = y then some 0 else (ixS x ys).map (· + 1)
theorem ixS_get : ∀ {x : Str} {l : List Str} {i : Nat}, ixS x l = some i → l[i]? = some x
  | x, [], i, h => by cases h
  | x, y :: ys, i, h => by
    unfold ixS at h
    split at h
    · rename_i e
      have h' := Option.some.inj h
      subst h'
      rw [e]
      rfl
    · rw [Option.map_eq_some_iff] at h
      obtain ⟨j, h1, h2⟩ := h
      subst h2
      simpa using ixS_get h1
def okNm (x : Str) : Bool := !(x == ("__debug__" : Str)) && !(x == ("__classdict__" : Str)) && !decide (x = ("__name__" : Str))
theorem okNm1 {x : Str} (h : okNm x = true) : (x == ("__debug__" : Str)) = false := by
  unfold okNm at h
  simp only [Bool.and_eq_true, Bool.not_eq_true'] at h
  exact h.1.1
theorem okNm2 {x : Str} (h : okNm x = true) : (x == ("__classdict__" : Str)) = false := by
  unfold okNm at h
  simp only [Bool.and_eq_true, Bool.not_eq_true'] at h
  exact h.1.2
theorem okNm3 {x : Str} (h : okNm x = true) : x ≠ "__name__" := by
  unfold okNm at h
  simp only [Bool.and_eq_true, Bool.not_eq_true', decide_eq_false_iff_not] at h
  exact h.2
def visC (sc : Scope) (x : Str) : Bool := match sc.names.lookup x with
  | some .local => true
  | some .cell => true
  | some .free => true
  | _ => false
def glC (sc : Scope) (x : Str) : Bool := match sc.names.lookup x with
  | some .globalImplicit => true
  | _ => false
theorem visC_ok {sc : Scope} {x : Str} (h : visC sc x = true) : Vis sc x := by
  unfold visC at h
  split at h
  · rename_i e; exact .inl e
  · rename_i e; exact .inr (.inl e)
  · rename_i e; exact .inr (.inr e)
  · cases h
theorem glC_ok {sc : Scope} {x : Str} (h : glC sc x = true) : sc.names.lookup x = some .globalImplicit := by
  unfold glC at h
  split at h
  · assumption
  · cases h
def bltOf (x : Str) : Option BF :=
  if x = "len" then some .len else if x = "int" then some .int else if x = "tuple" then some .tuple else if x = "list" then some .list else if x = "sum" then some .sum
  else if x = "all" then some .all else if x = "any" then some .any else if x = "sorted" then some .sorted else if x = "dict" then some .dict else if x = "str" then some .str else none
def btOf (x : Str) : Option BT :=
  if x = "int" then some .bint else if x = "bool" then some .bbool else if x = "str" then some .bstr else if x = "tuple" then some .btuple else if x = "list" then some .blist else if x = "dict" then some .bdict else none
/-- the built-ins' names that the text must not hide -/
def bltNames : List Str := ["len", "int", "tuple", "list", "sum", "all", "any", "isinstance", "bool", "str", "dict", "range", "sorted", "repr"]
theorem bltOf_ok {x : Str} {f : BF} (h : bltOf x = some f) : x ∈ bltNames ∧ bootBuiltins x = some f.id := by
  unfold bltOf at h
  split at h
  · rename_i e; cases h; subst e; exact ⟨by decide, PySem.boot_len⟩
  split at h
  · rename_i e; cases h; subst e; exact ⟨by decide, by decide +kernel⟩
  split at h
  · rename_i e; cases h; subst e; exact ⟨by decide, by decide +kernel⟩
  split at h
  · rename_i e; cases h; subst e; exact ⟨by decide, by decide +kernel⟩
  split at h
  · rename_i e; cases h; subst e; exact ⟨by decide, by decide +kernel⟩
  split at h
  · rename_i e; cases h; subst e; exact ⟨by decide, by decide +kernel⟩
  split at h
  · rename_i e; cases h; subst e; exact ⟨by decide, by decide +kernel⟩
  split at h
  · rename_i e; cases h; subst e; exact ⟨by decide, by decide +kernel⟩
  split at h
  · rename_i e; cases h; subst e; exact ⟨by decide, by decide +kernel⟩
  split at h
  · rename_i e; cases h; subst e; exact ⟨by decide, by decide +kernel⟩
  cases h
theorem btOf_ok {x : Str} {f : BT} (h : btOf x = some f) : x ∈ bltNames ∧ bootBuiltins x = some (.type f.nm) := by
  unfold btOf at h
  split at h
  · rename_i e; cases h; subst e; exact ⟨by decide, by decide +kernel⟩
  split at h
  · rename_i e; cases h; subst e; exact ⟨by decide, by decide +kernel⟩
  split at h
  · rename_i e; cases h; subst e; exact ⟨by decide, by decide +kernel⟩
  split at h
  · rename_i e; cases h; subst e; exact ⟨by decide, by decide +kernel⟩
  split at h
  · rename_i e; cases h; subst e; exact ⟨by decide, by decide +kernel⟩
  split at h
  · rename_i e; cases h; subst e; exact ⟨by decide, by decide +kernel⟩
  cases h
/-- tuple(..), list(..) -/
def isTL (x : Str) : Option Bool := if x = "tuple" then some true else if x = "list" then some false else none
theorem isTL_ok {x : Str} {t : Bool} (h : isTL x = some t) : x = (if t = true then "tuple" else "list") ∧ x ∈ bltNames := by
  unfold isTL at h
  split at h
  · rename_i e; cases h; subst e; exact ⟨rfl, by decide⟩
  split at h
  · rename_i e; cases h; subst e; exact ⟨rfl, by decide⟩
  cases h
def noStar : Expr → Bool
  | .Starred _ _ => false
  | _ => true
theorem noStar_each {e : Expr} {es : List Expr} {env : Env} (h : noStar e = true) : starEach (e :: es) env = (false, eval e env) :: starEach es env := by
  cases e <;> first | rfl | cases h
theorem back_any {pos : Pos} {env : Env} : ∀ {es : List Expr}, es.all noStar = true → (backTo pos (starEach es env)).any (·.1) = false
  | [], _ => rfl
  | e :: es, h => by
    rw [List.all_cons, Bool.and_eq_true] at h
    rw [noStar_each h.1]
    have ih := back_any (pos := pos) (env := env) h.2
    unfold backTo at ih ⊢
    rw [List.map_cons, List.any_cons, ih]
    rfl
/-- an expression that no rule about sets, stars, comprehensions stops -/
def plainX : Expr → Bool
  | .ListComp _ _ _ _ => false
  | .SetComp _ _ _ _ => false
  | .DictComp _ _ _ _ _ => false
  | .Set _ _ _ => false
  | .Starred _ _ => false
  | .Slice _ _ _ _ => false
  | .Tuple _ _ _ => false
  | _ => true
theorem swaps_plain {e : Expr} {t : Option Expr} {l : Nat} {env : Env} (h : plainX e = true ∨ ∃ es k p, e = .Tuple es k p) : swapsWith e t l env = pure false := by
  rcases h with h | ⟨es, k, p, rfl⟩
  · cases e <;> first | rfl | cases h
  · rfl
def noSet : Expr → Bool
  | .Set _ _ _ => false
  | _ => true
theorem fold_noSet {e : Expr} {env : Env} (h : noSet e = true) : ∀ x, foldedSetIterable e env x = pure x := by
  intro x
  cases e <;> first | rfl | cases h
theorem behind_noSet {e : Expr} {op : CmpOp} (h : noSet e = true) : behindInMarks op e = false := by
  cases e <;> first | rfl | cases h
theorem last_noSet {b c : Expr} {op op' : CmpOp} (h : noSet c = true) : lastMarks [op, op'] [b, c] = false := by
  show behindInMarks op' c = false
  exact behind_noSet h
def plainIxB : Expr → Bool
  | .Slice _ _ _ _ => false
  | .Tuple _ _ _ => false
  | _ => true
theorem plainIx_ok {e : Expr} (h : plainIxB e = true) : PlainIx e := by
  intro o i
  cases e <;> first | rfl | cases h
/-! ### the translation -/
def b2 (a b : Option CE) (f : CE → CE → CE) : Option CE := a.bind fun x => b.map (f x)
def b3 (a b c : Option CE) (f : CE → CE → CE → CE) : Option CE := a.bind fun x => b.bind fun y => c.map (f x y)
def cL : List (Option CE) → Option CEs
  | [] => some .nil
  | a :: r => a.bind fun x => (cL r).map (.cons x)
def boolF : BoolOp → CE → CE → CE
  | .And => .and
  | .Or => .or
def cBoolL (op : BoolOp) : List (Option CE) → Option CE
  | [] => none
  | [a] => a
  | a :: r => b2 a (cBoolL op r) (boolF op)
def cConst : Const → Option CE
  | .none => some .non
  | .bool b => some (.bl b)
  | .int i => some (.int i)
  | .str s => some (.str s)
  | _ => none
def cName (T : Tb) (N : List Str) (sc : Scope) (x : Str) : Option CE :=
  if okNm x = true then
    if visC sc x = true then (ixS x N).map .var
    else if glC sc x = true then (T.gl.lookup x).map .glb else none
  else none
def cNm : Expr → Option (Str × Pos)
  | .Name x p => some (x, p)
  | _ => none
def cNms : List Expr → Option (List (Str × Pos))
  | [] => some []
  | e :: es => (cNm e).bind fun x => (cNms es).map (x :: ·)
theorem cNms_ok : ∀ {es : List Expr} {xs : List (Str × Pos)}, cNms es = some xs → es = xs.map fun y => .Name y.1 y.2
  | [], xs, h => by
    have h' := Option.some.inj h
    subst h'
    rfl
  | e :: es, xs, h => by
    unfold cNms at h
    rw [Option.bind_eq_some_iff] at h
    obtain ⟨x, h1, h2⟩ := h
    rw [Option.map_eq_some_iff] at h2
    obtain ⟨ys, h3, h4⟩ := h2
    subst h4
    rw [List.map_cons, cNms_ok h3]
    cases e <;> first | (cases h1; rfl) | cases h1
/-- the slots of names that may be stored: local, or a cell of the scope itself -/
def stC (names : List (Str × NameKind)) (x : Str) : Bool := match names.lookup x with
  | some .local => true
  | some .cell => true
  | _ => false
def cSlots (N : List Str) (names : List (Str × NameKind)) : List (Str × Pos) → Option (List Nat)
  | [] => some []
  | y :: ys => if stC names y.1 = true then (ixS y.1 N).bind fun i => (cSlots N names ys).map (i :: ·) else none
def cTg (N : List Str) (names : List (Str × NameKind)) : Expr → Option CT
  | .Name x p => (match cSlots N names [(x, p)] with | some [i] => some (.nm i) | _ => none)
  | .Tuple es _ _ => (cNms es).bind fun xs => (cSlots N names xs).map .tp
  | _ => none
def ownOf (N : List Str) : List (Str × NameKind) → List (Str × Nat)
  | [] => []
  | (x, k) :: r => (match k with
    | .local => (match ixS x N with | some i => [(x, i)] | none => [])
    | .cell => (match ixS x N with | some i => [(x, i)] | none => [])
    | _ => []) ++ ownOf N r
/-- range(..) as an argument -/
def rgOf (sc : Scope) : Expr → Option (List Expr)
  | .Call (.Name y _) as [] _ => if y = "range" ∧ glC sc y = true ∧ as.all noStar = true then some as else none
  | _ => none
theorem rgOf_ok {sc : Scope} {e : Expr} {as : List Expr} (h : rgOf sc e = some as) : ∃ p q, e = .Call (.Name "range" p) as [] q ∧ glC sc "range" = true ∧ as.all noStar = true := by
  unfold rgOf at h
  split at h
  · split at h
    · rename_i z
      cases h
      obtain ⟨z1, z2, z3⟩ := z
      subst z1
      exact ⟨_, _, rfl, z2, z3⟩
    · cases h
  · cases h
def cIt (g : Expr → Option CE) (sc : Scope) (it : Expr) : Option CI := match it with
  | .Call f as kw _ => (match f, as, kw with
    | .Name x _, [a], [] => if x = "range" then (if glC sc x = true ∧ noStar a = true then (g a).map .rng1 else none) else (g it).map .val
    | .Name x _, [a, b], [] => if x = "range" then (if glC sc x = true ∧ noStar a = true ∧ noStar b = true then (g a).bind fun c => (g b).map (.rng2 c) else none) else (g it).map .val
    | _, _, _ => (g it).map .val)
  | _ => (g it).map .val
def cIfs (g : Expr → Option CE) : List Expr → Option CEs
  | [] => some CEs.nil
  | [c] => (g c).map fun x => CEs.cons x .nil
  | _ => none
/-- the clauses behind the first -/
def cCl (N : List Str) (names : List (Str × NameKind)) (sc : Scope) (g : Expr → Option CE) : List Comprehension → Option (List GD)
  | [] => some []
  | ⟨tg, it, ifs, as⟩ :: r => if as = 0 ∧ noSet it = true then (cTg N names tg).bind fun ct => (cIt g sc it).bind fun ci => (cIfs g ifs).bind fun cf => (cCl N names sc g r).map fun ds => ⟨ct, ci, cf, ct.slots ++ (ds.map fun d => d.ct.slots).flatten⟩ :: ds else none
def cE (T : Tb) (N : List Str) : Nat → Scope → Expr → Option CE
  | 0, _, _ => none
  | n + 1, sc, e => match e with
    | .Name x _ => cName T N sc x
    | .Constant v _ _ => cConst v
    | .BinOp a op b _ => b2 (cE T N n sc a) (cE T N n sc b) (.bin op)
    | .UnaryOp op a _ => (match op with
      | .Not => (cE T N n sc a).map .not
      | .USub => (cE T N n sc a).map .neg
      | _ => none)
    | .BoolOp op vs _ => cBoolL op (vs.map (cE T N n sc))
    | .Compare a ops bs _ => (match ops, bs with
      | [op], [b] => if noSet b = true then b2 (cE T N n sc a) (cE T N n sc b) (.cmp op) else none
      | [op, op'], [b, c] => if noSet c = true then b3 (cE T N n sc a) (cE T N n sc b) (cE T N n sc c) (.chn op op') else none
      | _, _ => none)
    | .IfExp c a b _ => b3 (cE T N n sc c) (cE T N n sc a) (cE T N n sc b) .ite
    | .Tuple es _ _ => if es.all noStar = true then (cL (es.map (cE T N n sc))).map .tup else none
    | .List es _ => if es.all noStar = true then (cL (es.map (cE T N n sc))).map .lst else none
    | .Subscript a i _ => (match i with
      | .Slice lo hi st _ => (match st with
        | none => (cE T N n sc a).bind fun x => (match lo with | none => some CP.no | some e => (cE T N n sc e).map CP.some).bind fun l => (match hi with | none => some CP.no | some e => (cE T N n sc e).map CP.some).map fun h => .sl x l h
        | some st => (match lo, hi, st with
          | none, none, .UnaryOp .USub (.Constant (.int 1) _ _) _ => (cE T N n sc a).map .rev
          | _, _, _ => none))
      | i => if plainIxB i = true then b2 (cE T N n sc a) (cE T N n sc i) .ix else none)
    | .Call f as kw pos => (match f, as, kw with
      | .Name x _, a :: es, [] =>
        if glC sc x = true ∧ okNm x = true ∧ noStar a = true ∧ es.all noStar = true then
          (match bltOf x, es with
          | some g, [] => (match rgOf sc a with
            | none => (cE T N n sc a).map (.b1 g)
            | some us => (match isTL x, us with
              | some t, [u] => (cE T N n sc u).map (.rgl1 t)
              | some t, [u, v] => b2 (cE T N n sc u) (cE T N n sc v) (.rgl2 t)
              | _, _ => none))
          | some _, _ => none
          | none, es =>
            if x = "isinstance" then
              (match es with
              | [.Name y _] => if glC sc y = true ∧ okNm y = true then (btOf y).bind fun t => (cE T N n sc a).map fun c => .isi c [t] else none
              | _ => none)
            else if x = "range" then (match es with | [] => (cE T N n sc a).map .rng | _ => none)
            else if x = "repr" ∧ es.isEmpty = false then none else (T.fn.lookup x).bind fun k => (cE T N n sc a).bind fun c => (cL (es.map (cE T N n sc))).map fun cs => .call k (.cons c cs))
        else none
      | .Name x _, [], [] => if glC sc x = true ∧ okNm x = true ∧ x ≠ "repr" then (T.fn.lookup x).map fun k => .call k .nil else none
      | .Attribute (.Name x px) at_ ap, [a, b], [] => if at_ = "get" ∧ noStar a = true ∧ noStar b = true ∧ (ap.endLine == pos.line) = true then b3 (cName T N sc x) (cE T N n sc a) (cE T N n sc b) .dget else none
      | .Attribute (.DictComp kx el gens scp dp) at_ ap, [a, b], [] => if at_ = "get" ∧ noStar a = true ∧ noStar b = true ∧ (ap.endLine == pos.line) = true then b3 (cE T N n sc (.DictComp kx el gens scp dp)) (cE T N n sc a) (cE T N n sc b) .dget else none
      | .Attribute (.Constant (.str z) kc pc) at_ ap, [a], [] => if at_ = "join" ∧ noStar a = true ∧ (ap.endLine == pos.line) = true then (cE T N n sc a).map (.join (.str z)) else none
      | .Attribute (.Name x px) at_ ap, [a], [] => if at_ = "index" ∧ noStar a = true ∧ (ap.endLine == pos.line) = true then b2 (cName T N sc x) (cE T N n sc a) .idx else none
      | _, _, _ => none)
    | .ListComp elt gens scope _ => (match gens with
      | [⟨tg, it, ifs, as⟩] =>
        if as = 0 ∧ noSet it = true ∧ blkC N sc scope (ownOf N scope.names) = true then
          (cTg N scope.names tg).bind fun ct => if (ct.slots.all fun i => (List.map Prod.snd (ownOf N scope.names)).contains i) = true then
            (cIt (cE T N n sc) sc it).bind fun ci => (match ifs with | [] => some CEs.nil | [c] => (cE T N n (relS scope sc) c).map fun x => CEs.cons x .nil | _ => none).bind fun cf =>
              (cE T N n (relS scope sc) elt).map fun x => .comp x ct ci cf (List.map Prod.snd (ownOf N scope.names)) else none
        else none
      | ⟨tg, it, ifs, as⟩ :: g1 :: gr =>
        if as = 0 ∧ noSet it = true ∧ blkC N sc scope (ownOf N scope.names) = true then
          (cTg N scope.names tg).bind fun ct => (cIt (cE T N n sc) sc it).bind fun ci => (cIfs (cE T N n (relS scope sc)) ifs).bind fun cf =>
            (cCl N scope.names (relS scope sc) (cE T N n (relS scope sc)) (g1 :: gr)).bind fun ds =>
              if ((ct.slots ++ (ds.map fun d => d.ct.slots).flatten).all fun i => (List.map Prod.snd (ownOf N scope.names)).contains i) = true then
                (cE T N n (relS scope sc) elt).map fun x => .cmpN (cgs (⟨ct, ci, cf, List.map Prod.snd (ownOf N scope.names)⟩ :: ds) x) else none
        else none
      | [] => none)
    | .Dict ks vs _ => (match ks, vs with | [], [] => some .dnil | [some k], [v] => b2 (cE T N n sc k) (cE T N n sc v) .dset | _, _ => none)
    | .DictComp kx elt gens scope _ => (match gens with
      | [⟨tg, it, ifs, as⟩] =>
        if as = 0 ∧ noSet it = true ∧ blkC N sc scope (ownOf N scope.names) = true then
          (cTg N scope.names tg).bind fun ct => if (ct.slots.all fun i => (List.map Prod.snd (ownOf N scope.names)).contains i) = true then
            (cIt (cE T N n sc) sc it).bind fun ci => (match ifs with | [] => some CEs.nil | [c] => (cE T N n (relS scope sc) c).map fun x => CEs.cons x .nil | _ => none).bind fun cf =>
              (cE T N n (relS scope sc) kx).bind fun y => (cE T N n (relS scope sc) elt).map fun x => .dcomp y x ct ci cf (List.map Prod.snd (ownOf N scope.names)) else none
        else none
      | _ => none)
    | _ => none
end DL

/-! DL8: the translation is right. -/
namespace DL
open PySem PySem.Spec PyProof.Rows L2
structure Gd (T : Tb) (P : Pm) (N : List Str) (sc : Scope) (X : Cx) : Prop where
  hK : X.K = P.K
  hw : X.w = P.w
  hN : X.N = N
  hsc : X.env.scope = sc
  nd : N.Nodup
  calm : X.calm = true
  hu : X.A.units + 65 < cLine
  call : ∀ x k, (x, k) ∈ T.fn → ∃ sp, P.G.Φ k = some sp ∧ CallD P X x sp
  glb : ∀ x k, (x, k) ∈ T.gl → ∃ d u v, P.G.Γ k = some d ∧ X.mg x = some u ∧ RelV v u ∧ ∀ H, Rep P.K P.p H d v
  blt : ∀ x ∈ bltNames, X.mg x = none
section
variable {T : Tb} {P : Pm} {N : List Str} {sc : Scope} {X : Cx}
theorem Gd.nd' (g : Gd T P N sc X) : X.N.Nodup := by rw [g.hN]; exact g.nd
theorem Gd.blk (g : Gd T P N sc X) (s : Shared) (H : Hp) (scope : Scope) (C : Addr) (cl : List (Str × Addr)) (fp : List Addr) : Gd T P N (relS scope sc) (X.blk s H scope (compEnvC scope cl C X.env) fp) := by
  refine ⟨g.hK, g.hw, g.hN, ?_, g.nd, g.calm, g.hu, g.call, g.glb, g.blt⟩
  show relS scope X.env.scope = relS scope sc
  rw [g.hsc]
theorem Gd.gl (g : Gd T P N sc X) {x : Str} (h : glC sc x = true) : Gl X x := by
  show X.env.scope.names.lookup x = _
  rw [g.hsc]
  exact glC_ok h
theorem cSlots_ok {names : List (Str × NameKind)} : ∀ {ys : List (Str × Pos)} {is : List Nat}, cSlots N names ys = some is → is.length = ys.length ∧ ∀ (k i : Nat) (y : Str × Pos), is[k]? = some i → ys[k]? = some y → stC names y.1 = true ∧ ixS y.1 N = some i
  | [], is, h => by
    have h' := Option.some.inj h
    subst h'
    exact ⟨rfl, fun k i y e => by simp at e⟩
  | y :: ys, is, h => by
    unfold cSlots at h
    split at h
    · rename_i hs
      rw [Option.bind_eq_some_iff] at h
      obtain ⟨i, h1, h2⟩ := h
      rw [Option.map_eq_some_iff] at h2
      obtain ⟨js, h3, h4⟩ := h2
      subst h4
      obtain ⟨q1, q2⟩ := cSlots_ok h3
      refine ⟨by rw [List.length_cons, List.length_cons, q1], fun k j z e1 e2 => ?_⟩
      cases k with
      | zero =>
        have e1' : i = j := Option.some.inj e1
        have e2' : y = z := Option.some.inj e2
        subst e1' e2'
        exact ⟨hs, h1⟩
      | succ k => exact q2 k j z (by simpa using e1) (by simpa using e2)
    · cases h
theorem cTg_ok {names : List (Str × NameKind)} {tg : Expr} {ct : CT} (hnm : ∀ x i, stC names x = true → ixS x N = some i → NmOk X i x) (hc : X.calm = true) (hK : X.K = P.K) (hN : X.N.Nodup) (h : cTg N names tg = some ct) : PG X tg (tG P ct) := by
  cases tg with
  | Name x p =>
    simp only [cTg] at h
    split at h
    · rename_i i e
      cases h
      obtain ⟨q1, q2⟩ := cSlots_ok e
      obtain ⟨q3, q4⟩ := q2 0 i (x, p) rfl rfl
      exact pgd_nm hN (hnm x i q3 q4)
    · cases h
  | Tuple es k p =>
    simp only [cTg] at h
    rw [Option.bind_eq_some_iff] at h
    obtain ⟨xs, h1, h2⟩ := h
    rw [Option.map_eq_some_iff] at h2
    obtain ⟨is, h3, h4⟩ := h2
    subst h4
    rw [cNms_ok h1]
    obtain ⟨q1, q2⟩ := cSlots_ok h3
    exact pgd_tp hc hK hN q1 fun k i y e1 e2 => hnm _ _ (q2 k i y e1 e2).1 (q2 k i y e1 e2).2
  | _ => cases h
/-- what is shown of each expression -/
abbrev Good (P : Pm) (X : Cx) (e : Expr) (c : CE) : Prop := PE X e (tD P c) ∧ PT X e (tT P c)
theorem cL_ok {g : Expr → Option CE} (hg : ∀ e c, g e = some c → PE X e (tD P c)) : ∀ {es : List Expr} {cs : CEs}, es.all noStar = true → cL (es.map g) = some cs → PA X es (tAs P cs)
  | [], cs, _, h => by
    have h' := Option.some.inj h
    subst h'
    exact pd_nil
  | e :: es, cs, hs, h => by
    rw [List.all_cons, Bool.and_eq_true] at hs
    rw [List.map_cons, cL, Option.bind_eq_some_iff] at h
    obtain ⟨c, h1, h2⟩ := h
    rw [Option.map_eq_some_iff] at h2
    obtain ⟨ds, h3, h4⟩ := h2
    subst h4
    exact pd_cons (hg e c h1) (cL_ok hg hs.2 h3) (noStar_each hs.1)
theorem cBool_ok {g : Expr → Option CE} {pos : Pos} (op : BoolOp) (hg : ∀ e c, g e = some c → Good P X e c) : ∀ {es : List Expr} {c : CE}, cBoolL op (es.map g) = some c → PE X (.BoolOp op es pos) (tD P c) ∧ PW X (.BoolOp op es pos) (tT P c)
  | [], c, h => by cases h
  | [e], c, h => by
    have q := hg e c h
    refine ⟨pe_one q.1, ?_⟩
    cases op with
    | And => exact pw_and1 q.2
    | Or => exact pw_or1 q.2
  | e :: b :: es, c, h => by
    have h' : b2 (g e) (cBoolL op ((b :: es).map g)) (boolF op) = some c := h
    unfold b2 at h'
    rw [Option.bind_eq_some_iff] at h'
    obtain ⟨x, h1, h2⟩ := h'
    rw [Option.map_eq_some_iff] at h2
    obtain ⟨y, h3, h4⟩ := h2
    have q := hg e x h1
    have ih := cBool_ok (pos := pos) op hg (es := b :: es) h3
    cases op with
    | And =>
      subst h4
      exact ⟨pd_and q.1 ih.1, pd_andT q.2 ih.2⟩
    | Or =>
      subst h4
      exact ⟨pd_or q.1 ih.1, pd_orT q.2 ih.2⟩
theorem b2_some {a b : Option CE} {f : CE → CE → CE} {c : CE} (h : b2 a b f = some c) : ∃ x y, a = some x ∧ b = some y ∧ c = f x y := by
  unfold b2 at h
  rw [Option.bind_eq_some_iff] at h
  obtain ⟨x, h1, h2⟩ := h
  rw [Option.map_eq_some_iff] at h2
  obtain ⟨y, h3, h4⟩ := h2
  exact ⟨x, y, h1, h3, h4.symm⟩
theorem b3_some {a b d : Option CE} {f : CE → CE → CE → CE} {c : CE} (h : b3 a b d f = some c) : ∃ x y z, a = some x ∧ b = some y ∧ d = some z ∧ c = f x y z := by
  unfold b3 at h
  rw [Option.bind_eq_some_iff] at h
  obtain ⟨x, h1, h2⟩ := h
  rw [Option.bind_eq_some_iff] at h2
  obtain ⟨y, h3, h4⟩ := h2
  rw [Option.map_eq_some_iff] at h4
  obtain ⟨z, h5, h6⟩ := h4
  exact ⟨x, y, z, h1, h3, h5, h6.symm⟩
theorem cName_ok {x : Str} {pos : Pos} {c : CE} (g : Gd T P N sc X) (h : cName T N sc x = some c) : Good P X (.Name x pos) c := by
  unfold cName at h
  split at h
  · rename_i ho
    split at h
    · rename_i hv
      rw [Option.map_eq_some_iff] at h
      obtain ⟨i, h1, h2⟩ := h
      subst h2
      have e : PE X (.Name x pos) (tD P (.var i)) := pd_var (by rw [g.hN]; exact ixS_get h1) (by rw [g.hsc]; exact visC_ok hv) (okNm1 ho) (okNm2 ho)
      refine ⟨e, pd_tru g.hK e (fun env Q w => ?_) fun _ => rfl⟩
      simp only [wpT] at w
      simp only [wpE]
      split at w
      · rename_i e
        rw [e]
        exact w
      · rename_i e
        rw [e]
        exact w
      · exact False.elim w
    · split at h
      · rename_i hv
        rw [Option.map_eq_some_iff] at h
        obtain ⟨k, h1, h2⟩ := h
        subst h2
        obtain ⟨d, u, v, hk, m1, m2, m3⟩ := g.glb x k (PySem.mem_of_lookup h1)
        exact ⟨pd_glb (g.gl hv) m1 m2 hk m3 (okNm1 ho), pt_no fun env Q w => by simp only [wpT] at w⟩
      · cases h
  · cases h
theorem cConst_ok {v : Const} {k : Nat} {pos : Pos} {c : CE} (h : cConst v = some c) : Good P X (.Constant v k pos) c := by
  unfold cConst at h
  split at h
  · cases h
    exact ⟨pd_cst (d := .none) pe_non (fun _ _ _ => by simp only [wpE]) fun _ _ _ => rfl, pt_no fun env Q w => by simp only [wpT] at w⟩
  · cases h
    exact ⟨pd_cst (d := .bool _) pe_bl (fun _ _ _ => by simp only [wpE]) fun _ _ _ => rfl, pt_no fun env Q w => by simp only [wpT] at w⟩
  · cases h
    exact ⟨pd_cst (d := .int _) pe_int (fun _ _ _ => by simp only [wpE]) fun _ _ _ => rfl, pt_no fun env Q w => by simp only [wpT] at w⟩
  · cases h
    exact ⟨pd_cst (d := .str _) pe_str (fun _ _ _ => by simp only [wpE]) fun _ _ _ => rfl, pt_no fun env Q w => by simp only [wpT] at w⟩
  · cases h
theorem cIt_ok {gE : Expr → Option CE} {tg it : Expr} {ci : CI} (g : Gd T P N sc X) (hg : ∀ e c, gE e = some c → PE X e (tD P c)) (h : cIt gE sc it = some ci) : PI X tg it (tI P ci) := by
  have dflt : ∀ {it : Expr}, (gE it).map CI.val = some ci → PI X tg it (tI P ci) := fun {it} h => by
    rw [Option.map_eq_some_iff] at h
    obtain ⟨c, h1, h2⟩ := h
    subst h2
    exact pid_val g.hK (hg _ _ h1)
  have rg : ∀ {x : Str}, x = "range" → glC sc x = true → Gl X "range" ∧ X.mg "range" = none := fun {x} e q => by
    subst e
    exact ⟨g.gl q, g.blt _ (by decide)⟩
  unfold cIt at h
  split at h
  · split at h
    · split at h
      · rename_i e
        split at h
        · rename_i q
          rw [Option.map_eq_some_iff] at h
          obtain ⟨c, h1, h2⟩ := h
          subst h2 e
          exact pid_rng1 (rg rfl q.1).1 (rg rfl q.1).2 (hg _ _ h1) (noStar_each q.2)
        · cases h
      · exact dflt h
    · split at h
      · rename_i e
        split at h
        · rename_i q
          rw [Option.bind_eq_some_iff] at h
          obtain ⟨c, h1, h2⟩ := h
          rw [Option.map_eq_some_iff] at h2
          obtain ⟨d, h3, h4⟩ := h2
          subst h4 e
          exact pid_rng2 (rg rfl q.1).1 (rg rfl q.1).2 (hg _ _ h1) (hg _ _ h3) (by rw [noStar_each q.2.1, noStar_each q.2.2]; rfl) (noStar_each q.2.2)
        · cases h
      · exact dflt h
    · exact dflt h
  · exact dflt h
theorem blk_nm (g : Gd T P N sc X) {scope : Scope} (s : Shared) (H : Hp) (C : Addr) (cl : List (Str × Addr)) (fp : List Addr) {x : Str} {i : Nat} (h : stC scope.names x = true) (h1 : ixS x N = some i) : NmOk (X.blk s H scope (compEnvC scope cl C X.env) fp) i x := by
  have hn : X.N[i]? = some x := by rw [g.hN]; exact ixS_get h1
  unfold stC at h
  split at h
  · rename_i e
    have q : (relS scope X.env.scope).names.lookup x = some .local := lookup_relS_keep (by decide) e
    exact ⟨hn, .inl q, .inr q⟩
  · rename_i e
    have q : (relS scope X.env.scope).names.lookup x = some .cell := lookup_relS_keep (by decide) e
    refine ⟨hn, .inr q, .inl ?_⟩
    show (scope.names.lookup x == some NameKind.cell) = true
    rw [e]
    rfl
  · cases h
/-- what a comprehension needs -/
structure LcOk (P : Pm) (X : Cx) (elt tg it : Expr) (ifs : List Expr) (scope : Scope) (own : List (Str × Nat)) (ce : CE) (ct : CT) (ci : CI) (cf : CEs) : Prop where
  hit : PI X tg it (tI P ci)
  ok : BlkOk X.N X.env.scope scope own
  tg : ∀ (s : Shared) (H : Hp) (C : Addr) (cl : List (Str × Addr)) (fp : List Addr), PG (X.blk s H scope (compEnvC scope cl C X.env) fp) tg (tG P ct)
  ifs : ∀ (s : Shared) (H : Hp) (C : Addr) (cl : List (Str × Addr)) (fp : List Addr), PTs (X.blk s H scope (compEnvC scope cl C X.env) fp) ifs (tTs P cf)
  elt : ∀ (s : Shared) (H : Hp) (C : Addr) (cl : List (Str × Addr)) (fp : List Addr), PE (X.blk s H scope (compEnvC scope cl C X.env) fp) elt (tD P ce)
  fold : ∀ x, foldedSetIterable it X.env x = pure x
  sl : ∀ i ∈ ct.slots, i ∈ own.map (·.2)
theorem cE_lc {n : Nat} (ih : ∀ sc e c, cE T N n sc e = some c → ∀ X, Gd T P N sc X → Good P X e c) (g : Gd T P N sc X) {elt : Expr} {c0 : Comprehension} {scope : Scope} {pos : Pos} {c : CE} (h : cE T N (n + 1) sc (.ListComp elt [c0] scope pos) = some c) :
    ∃ tg it ifs own ce ct ci cf, c0 = ⟨tg, it, ifs, 0⟩ ∧ c = .comp ce ct ci cf (own.map (·.2)) ∧ LcOk P X elt tg it ifs scope own ce ct ci cf := by
  obtain ⟨tg, it, ifs, as⟩ := c0
  simp only [cE] at h
  · split at h
    · rename_i q
      obtain ⟨q1, q2, q3⟩ := q
      subst q1
      rw [Option.bind_eq_some_iff] at h
      obtain ⟨ct, h1, h⟩ := h
      split at h
      · rename_i q4
        rw [Option.bind_eq_some_iff] at h
        obtain ⟨ci, h2, h⟩ := h
        rw [Option.bind_eq_some_iff] at h
        obtain ⟨cf, h3, h⟩ := h
        rw [Option.map_eq_some_iff] at h
        obtain ⟨ce, h4, h5⟩ := h
        refine ⟨tg, it, ifs, ownOf N scope.names, ce, ct, ci, cf, rfl, h5.symm, ?_⟩
        refine ⟨cIt_ok g (fun e c q => (ih sc e c q X g).1) h2, by rw [g.hN, g.hsc]; exact blkOk_by q3, fun s H C cl fp => ?_, fun s H C cl fp => ?_, fun s H C cl fp => (ih _ _ _ h4 _ (g.blk s H scope C cl fp)).1, fold_noSet q2, fun i hi => ?_⟩
        · exact cTg_ok (fun x i a b => blk_nm g s H C cl fp a b) g.calm g.hK g.nd' h1
        · split at h3
          · cases h3
            exact pdts_nil
          · rw [Option.map_eq_some_iff] at h3
            obtain ⟨x, h6, h7⟩ := h3
            subst h7
            exact pdts_one (ih _ _ _ h6 _ (g.blk s H scope C cl fp)).2
          · cases h3
        · have q5 := List.all_eq_true.mp q4 i hi
          simpa using q5
      · cases h
    · cases h
theorem cIfs_ok {scope : Scope} {gE : Expr → Option CE} {ifs : List Expr} {cf : CEs} {Y : Cx} (hg : ∀ e c, gE e = some c → PT Y e (tT P c)) (h : cIfs gE ifs = some cf) : PTs Y ifs (tTs P cf) := by
  unfold cIfs at h
  split at h
  · cases h
    exact pdts_nil
  · rw [Option.map_eq_some_iff] at h
    obtain ⟨x, h6, h7⟩ := h
    subst h7
    exact pdts_one (hg _ _ h6)
  · cases h
/-- the clauses behind the first, their gens -/
theorem cCl_ok {n : Nat} (ih : ∀ sc e c, cE T N n sc e = some c → ∀ X, Gd T P N sc X → Good P X e c) (g : Gd T P N sc X) {scope : Scope} : ∀ {gens : List Comprehension} {ds : List GD}, cCl N scope.names (relS scope sc) (cE T N n (relS scope sc)) gens = some ds →
    ∃ rem : List (CM.Gen × GD), gens = rem.map (·.1.c) ∧ ds = rem.map (·.2) ∧ (∀ p ∈ rem, ClOkB P X scope p.1 p.2) ∧ ∀ G : CM.GT, (∀ i ∈ (ds.map fun d => d.ct.slots).flatten, i ∈ G.vs) → CM.Nest G (ds.map (GD.t P))
  | [], ds, h => by
    have h' := Option.some.inj h
    subst h'
    exact ⟨[], rfl, rfl, fun p hp => (nomatch hp), fun G _ => trivial⟩
  | ⟨tg, it, ifs, as⟩ :: r, ds, h => by
    unfold cCl at h
    split at h
    · rename_i q
      obtain ⟨rfl, q2⟩ := q
      rw [Option.bind_eq_some_iff] at h
      obtain ⟨ct, h1, h⟩ := h
      rw [Option.bind_eq_some_iff] at h
      obtain ⟨ci, h2, h⟩ := h
      rw [Option.bind_eq_some_iff] at h
      obtain ⟨cf, h3, h⟩ := h
      rw [Option.map_eq_some_iff] at h
      obtain ⟨ds', h4, rfl⟩ := h
      obtain ⟨rem, e1, e2, e3, e4⟩ := cCl_ok ih g h4
      refine ⟨(⟨tg, it, ifs⟩, ⟨ct, ci, cf, ct.slots ++ (ds'.map fun d => d.ct.slots).flatten⟩) :: rem, by rw [List.map_cons, ← e1]; rfl, by rw [List.map_cons, ← e2], fun p hp => ?_, fun G hG => ⟨fun i hi => ?_, e4 _ fun i hi => ?_⟩⟩
      · rcases List.mem_cons.mp hp with rfl | hp
        · refine ⟨⟨fun s H C cl fp => cTg_ok (fun x i a b => blk_nm g s H C cl fp a b) g.calm g.hK g.nd' h1, fun s H C cl fp => cIfs_ok (scope := scope) (fun e c q => (ih _ e c q _ (g.blk s H scope C cl fp)).2) h3, fun env x => fold_noSet q2 x, fun i hi => List.mem_append_left _ hi⟩, fun s H C cl fp => cIt_ok (g.blk s H scope C cl fp) (fun e c q => (ih _ e c q _ (g.blk s H scope C cl fp)).1) h2⟩
        · exact e3 p hp
      · refine hG i ?_
        rw [List.map_cons, List.flatten_cons]
        exact hi
      · exact List.mem_append_right _ hi
    · cases h
theorem cE_ok (T : Tb) (P : Pm) (N : List Str) : ∀ (n : Nat) (sc : Scope) (e : Expr) (c : CE), cE T N n sc e = some c → ∀ X, Gd T P N sc X → Good P X e c
  | 0, _, _, _, h, _, _ => by cases h
  | n + 1, sc, e, c, h, X, g => by
    have ih := cE_ok T P N n
    have ihX : ∀ e c, cE T N n sc e = some c → Good P X e c := fun e c q => ih sc e c q X g
    cases e with
    | Name x pos =>
      simp only [cE] at h
      exact cName_ok g h
    | Constant v k pos =>
      simp only [cE] at h
      exact cConst_ok h
    | BinOp a op b pos =>
      simp only [cE] at h
      obtain ⟨x, y, h1, h2, rfl⟩ := b2_some h
      exact ⟨pd_bin g.hK (ihX _ _ h1).1 (ihX _ _ h2).1, pt_no fun env Q w => by simp only [wpT] at w⟩
    | UnaryOp op a pos =>
      simp only [cE] at h
      split at h
      · rw [Option.map_eq_some_iff] at h
        obtain ⟨x, h1, rfl⟩ := h
        exact ⟨pd_not (ihX _ _ h1).1, pd_notT (ihX _ _ h1).2⟩
      · rw [Option.map_eq_some_iff] at h
        obtain ⟨x, h1, rfl⟩ := h
        exact ⟨pd_neg (ihX _ _ h1).1, pt_no fun env Q w => by simp only [wpT] at w⟩
      · cases h
    | BoolOp op vs pos =>
      simp only [cE] at h
      obtain ⟨q1, q2⟩ := cBool_ok (pos := pos) op ihX h
      exact ⟨q1, q2.pt⟩
    | Compare a ops bs pos =>
      simp only [cE] at h
      split at h
      · split at h
        · rename_i hn
          obtain ⟨x, y, h1, h2, rfl⟩ := b2_some h
          exact ⟨pd_cmp g.hu g.hK g.hw (ihX _ _ h1).1 (ihX _ _ h2).1 (behind_noSet hn), pd_cmpT g.hu g.hK g.hw (ihX _ _ h1).1 (ihX _ _ h2).1 (behind_noSet hn)⟩
        · cases h
      · split at h
        · rename_i hn
          obtain ⟨x, y, z, h1, h2, h3, rfl⟩ := b3_some h
          exact ⟨pd_chn g.hu g.hK g.hw (ihX _ _ h1).1 (ihX _ _ h2).1 (ihX _ _ h3).1 (last_noSet hn), pd_chnT g.hu g.hK g.hw (ihX _ _ h1).1 (ihX _ _ h2).1 (ihX _ _ h3).1 (last_noSet hn)⟩
        · cases h
      · cases h
    | IfExp a b d pos =>
      simp only [cE] at h
      obtain ⟨x, y, z, h1, h2, h3, rfl⟩ := b3_some h
      exact ⟨pd_ite (ihX _ _ h1).2 (ihX _ _ h2).1 (ihX _ _ h3).1, pt_no fun env Q w => by simp only [wpT] at w⟩
    | Tuple es k pos =>
      simp only [cE] at h
      split at h
      · rename_i hs
        rw [Option.map_eq_some_iff] at h
        obtain ⟨cs, h1, rfl⟩ := h
        exact ⟨pd_tup (cL_ok (fun e c q => (ihX e c q).1) hs h1), pt_no fun env Q w => by simp only [wpT] at w⟩
      · cases h
    | List es pos =>
      simp only [cE] at h
      split at h
      · rename_i hs
        rw [Option.map_eq_some_iff] at h
        obtain ⟨cs, h1, rfl⟩ := h
        exact ⟨pd_lst (cL_ok (fun e c q => (ihX e c q).1) hs h1), pt_no fun env Q w => by simp only [wpT] at w⟩
      · cases h
    | Subscript a i pos =>
      simp only [cE] at h
      split at h
      · rename_i lo hi st p2
        split at h
        · rw [Option.bind_eq_some_iff] at h
          obtain ⟨x, h1, h⟩ := h
          rw [Option.bind_eq_some_iff] at h
          obtain ⟨l, h2, h⟩ := h
          rw [Option.map_eq_some_iff] at h
          obtain ⟨u, h3, rfl⟩ := h
          have part : ∀ {o : Option Expr} {q : CP}, (match o with | none => some CP.no | some e => (cE T N n sc e).map CP.some) = some q → PO X o (tPt P q) := fun {o q} z => by
            cases o with
            | none =>
              cases z
              exact pd_no
            | some e =>
              have z' : (cE T N n sc e).map CP.some = some q := z
              rw [Option.map_eq_some_iff] at z'
              obtain ⟨y, z1, rfl⟩ := z'
              exact pd_some (ihX _ _ z1).1
          exact ⟨pd_sl g.hK (ihX _ _ h1).1 (part h2) (part h3), pt_no fun env Q w => by simp only [wpT] at w⟩
        · split at h
          · rw [Option.map_eq_some_iff] at h
            obtain ⟨x, h1, rfl⟩ := h
            exact ⟨pd_rev g.hK (ihX _ _ h1).1, pt_no fun env Q w => by simp only [wpT] at w⟩
          · cases h
      · split at h
        · rename_i hp
          obtain ⟨x, y, h1, h2, rfl⟩ := b2_some h
          have e := pd_ix (pos := pos) g.hu g.hK g.hw (ihX _ _ h1).1 (ihX _ _ h2).1 (plainIx_ok hp)
          exact ⟨e, pd_tru g.hK e (fun env Q w => by simp only [wpT] at w; simp only [wpE]; exact w) fun _ => rfl⟩
        · cases h
    | Call fe as kw pos =>
      simp only [cE] at h
      split at h
      · rename_i x p0 a es
        split at h
        · rename_i q
          obtain ⟨q1, q2, q3, q4⟩ := q
          cases hb : bltOf x with
          | some b =>
            simp only [hb] at h
            cases es with
            | nil =>
              cases hr : rgOf sc a with
              | none =>
                simp only [hr] at h
                rw [Option.map_eq_some_iff] at h
                obtain ⟨y, h1, rfl⟩ := h
                obtain ⟨m1, m2⟩ := bltOf_ok hb
                have e := pd_b1 (P := P) (p0 := p0) (pos := pos) g.calm g.hu g.hK g.hw (g.gl q1) (g.blt _ m1) m2 (ihX _ _ h1).1 (okNm3 q2) (okNm1 q2) (noStar_each q3)
                exact ⟨e, pd_tru g.hK e (fun env Q w => by simp only [wpT] at w; simp only [wpE]; exact w) fun _ => rfl⟩
              | some us =>
                simp only [hr] at h
                obtain ⟨pr, qr, rfl, r1, r2⟩ := rgOf_ok hr
                split at h
                · rename_i t u ht
                  obtain ⟨t1, t2⟩ := isTL_ok ht
                  rw [Option.map_eq_some_iff] at h
                  obtain ⟨y, h1, rfl⟩ := h
                  have e := pd_rgl1 (P := P) (y := x) (p0 := p0) (p1 := pr) (p2 := qr) (pos := pos) (noStar_each rfl) g.calm t1 (g.gl q1) (g.blt _ t2) (g.gl r1) (g.blt _ (by decide)) (ihX _ _ h1).1 (noStar_each (by simpa using r2))
                  exact ⟨e, pt_no fun env Q w => by simp only [wpT] at w⟩
                · rename_i t u v ht
                  obtain ⟨t1, t2⟩ := isTL_ok ht
                  obtain ⟨y, z, h1, h2, rfl⟩ := b2_some h
                  have r3 : noStar u = true ∧ noStar v = true := by simpa using r2
                  have e := pd_rgl2 (P := P) (y := x) (p0 := p0) (p1 := pr) (p2 := qr) (pos := pos) (noStar_each rfl) g.calm t1 (g.gl q1) (g.blt _ t2) (g.gl r1) (g.blt _ (by decide)) (ihX _ _ h1).1 (ihX _ _ h2).1 (noStar_each r3.1) (noStar_each r3.2) (back_any (by simp [r3.2]))
                  exact ⟨e, pt_no fun env Q w => by simp only [wpT] at w⟩
                · cases h
            | cons _ _ => cases h
          | none =>
            simp only [hb] at h
            by_cases ex : x = "isinstance"
            · rw [if_pos ex] at h
              split at h
              · rename_i y p1
                split at h
                · rename_i q5
                  rw [Option.bind_eq_some_iff] at h
                  obtain ⟨t, h1, h⟩ := h
                  rw [Option.map_eq_some_iff] at h
                  obtain ⟨z, h2, rfl⟩ := h
                  obtain ⟨m1, m2⟩ := btOf_ok h1
                  subst ex
                  have e := pd_isi (P := P) (p0 := p0) (p1 := p1) (pos := pos) g.hK (g.gl q1) (g.blt _ (by decide)) (g.gl q5.1) (g.blt _ m1) m2 (okNm3 q5.2) (okNm1 q5.2) (ihX _ _ h2).1 (noStar_each q3)
                  exact ⟨e, pd_tru g.hK e (fun env Q w => by simp only [wpT] at w; simp only [wpE]; exact w) fun _ => rfl⟩
                · cases h
              · cases h
            · rw [if_neg ex] at h
              by_cases er : x = "range"
              · subst er
                rw [if_pos rfl] at h
                split at h
                · rw [Option.map_eq_some_iff] at h
                  obtain ⟨y, h1, rfl⟩ := h
                  exact ⟨pd_rng (g.gl q1) (g.blt _ (by decide)) (ihX _ _ h1).1 (noStar_each q3), pt_no fun env Q w => by simp only [wpT] at w⟩
                · cases h
              rw [if_neg er] at h
              split at h
              · cases h
              rename_i nr
              rw [Option.bind_eq_some_iff] at h
              obtain ⟨k, h1, h⟩ := h
              rw [Option.bind_eq_some_iff] at h
              obtain ⟨ca, h2, h⟩ := h
              rw [Option.map_eq_some_iff] at h
              obtain ⟨cs, h3, rfl⟩ := h
              obtain ⟨sp, hk, hc⟩ := g.call x k (PySem.mem_of_lookup h1)
              have e : PE X (.Call (.Name x p0) (a :: es) [] pos) (tD P (.call k (.cons ca cs))) := by
                rcases hc with hc | ⟨rfl, r1, r2, r3, rfl⟩
                rotate_left
                · cases es with
                  | nil =>
                    cases h3
                    exact pd_repr g.hK (g.gl q1) r1 r2 r3 hk (ihX _ _ h2).1 (noStar_each q3)
                  | cons b es => exact absurd ⟨rfl, rfl⟩ nr
                exact pd_call hc hk (g.gl q1) (pd_cons (ihX _ _ h2).1 (cL_ok (fun e c q => (ihX e c q).1) q4 h3) (noStar_each q3)) (okNm1 q2) (noStar_each q3) (back_any q4)
              exact ⟨e, pd_tru g.hK e (fun env Q w => by simp only [wpT] at w; simp only [wpE]; exact w) fun _ => rfl⟩
        · cases h
      · rename_i x p0
        split at h
        · rename_i q
          rw [Option.map_eq_some_iff] at h
          obtain ⟨k, h1, rfl⟩ := h
          obtain ⟨sp, hk, hc⟩ := g.call x k (PySem.mem_of_lookup h1)
          have hc' : CallF P X x sp := hc.resolve_right fun z => q.2.2 z.1
          have e : PE X (.Call (.Name x p0) [] [] pos) (tD P (.call k .nil)) := pd_call0 hc' hk (g.gl q.1) (okNm1 q.2.1)
          exact ⟨e, pd_tru g.hK e (fun env Q w => by simp only [wpT] at w; simp only [wpE]; exact w) fun _ => rfl⟩
        · cases h
      · rename_i x px at_ ap a b
        split at h
        · rename_i q
          obtain ⟨rfl, q1, q2, q3⟩ := q
          obtain ⟨y, z, u, h1, h2, h3, rfl⟩ := b3_some h
          refine ⟨pd_dget (m := "get") g.hu (cName_ok g h1).1 (ihX _ _ h2).1 (ihX _ _ h3).1 ⟨rfl, ?_, q3, ?_⟩, pt_no fun env Q w => by simp only [wpT] at w⟩
          · rw [noStar_each q1, noStar_each q2]
            rfl
          · rw [noStar_each q1, noStar_each q2]
            rfl
        · cases h
      · rename_i kx el gens scp dp at_ ap a b
        split at h
        · rename_i q
          obtain ⟨rfl, q1, q2, q3⟩ := q
          obtain ⟨y, z, u, h1, h2, h3, rfl⟩ := b3_some h
          refine ⟨pd_dget (m := "get") g.hu (ihX _ _ h1).1 (ihX _ _ h2).1 (ihX _ _ h3).1 ⟨rfl, ?_, q3, ?_⟩, pt_no fun env Q w => by simp only [wpT] at w⟩
          · rw [noStar_each q1, noStar_each q2]
            rfl
          · rw [noStar_each q1, noStar_each q2]
            rfl
        · cases h
      · rename_i z kc pc at_ ap a
        split at h
        · rename_i q
          obtain ⟨rfl, q1, q2⟩ := q
          rw [Option.map_eq_some_iff] at h
          obtain ⟨y, h1, rfl⟩ := h
          have es : PE X (.Constant (.str z) kc pc) (tD P (.str z)) := pd_cst (d := .str _) pe_str (fun _ _ _ => by simp only [wpE]) fun _ _ _ => rfl
          exact ⟨pd_join g.hK es (ihX _ _ h1).1 rfl (noStar_each q1) q2, pt_no fun env Q w => by simp only [wpT] at w⟩
        · cases h
      · rename_i x px at_ ap a
        split at h
        · rename_i q
          obtain ⟨rfl, q1, q2⟩ := q
          obtain ⟨y, z, h1, h2, rfl⟩ := b2_some h
          exact ⟨pd_idx g.hu g.hK (cName_ok g h1).1 (ihX _ _ h2).1 rfl (noStar_each q1) q2, pt_no fun env Q w => by simp only [wpT] at w⟩
        · cases h
      · cases h
    | Dict ks vs pos =>
      simp only [cE] at h
      split at h
      · cases h
        exact ⟨pd_dnil g.hw, pt_no fun env Q w => by simp only [wpT] at w⟩
      · obtain ⟨x, y, h1, h2, rfl⟩ := b2_some h
        exact ⟨pd_dset g.hu g.hK g.hw (ihX _ _ h1).1 (ihX _ _ h2).1, pt_no fun env Q w => by simp only [wpT] at w⟩
      · cases h
    | DictComp kx elt gens scope pos =>
      simp only [cE] at h
      split at h
      · rename_i tg it ifs as
        split at h
        · rename_i q
          obtain ⟨q1, q2, q3⟩ := q
          subst q1
          rw [Option.bind_eq_some_iff] at h
          obtain ⟨ct, h1, h⟩ := h
          split at h
          · rename_i q4
            rw [Option.bind_eq_some_iff] at h
            obtain ⟨ci, h2, h⟩ := h
            rw [Option.bind_eq_some_iff] at h
            obtain ⟨cf, h3, h⟩ := h
            rw [Option.bind_eq_some_iff] at h
            obtain ⟨ck, h4, h⟩ := h
            rw [Option.map_eq_some_iff] at h
            obtain ⟨ce, h5, rfl⟩ := h
            refine ⟨pd_dcomp g.hu g.hK g.hw g.calm g.nd' (cIt_ok g (fun e c q => (ihX e c q).1) h2) (by rw [g.hN, g.hsc]; exact blkOk_by q3) (fun s H C cl fp => ?_) (fun s H C cl fp => ?_) (fun s H C cl fp => (ih _ _ _ h4 _ (g.blk s H scope C cl fp)).1) (fun s H C cl fp => (ih _ _ _ h5 _ (g.blk s H scope C cl fp)).1) (fold_noSet q2) (fun i hi => ?_), pt_no fun env Q w => by simp only [wpT] at w⟩
            · exact cTg_ok (fun x i a b => blk_nm g s H C cl fp a b) g.calm g.hK g.nd' h1
            · split at h3
              · cases h3
                exact pdts_nil
              · rw [Option.map_eq_some_iff] at h3
                obtain ⟨x, h6, h7⟩ := h3
                subst h7
                exact pdts_one (ih _ _ _ h6 _ (g.blk s H scope C cl fp)).2
              · cases h3
            · have q5 := List.all_eq_true.mp q4 i hi
              simpa using q5
          · cases h
        · cases h
      · cases h
    | ListComp elt gens scope pos =>
      cases gens with
      | nil => simp only [cE] at h; cases h
      | cons c0 r =>
        cases r with
        | nil =>
          obtain ⟨tg, it, ifs, own, ce, ct, ci, cf, rfl, rfl, L⟩ := cE_lc ih g h
          exact ⟨pd_comp g.calm g.nd' L.hit L.ok L.tg L.ifs L.elt L.fold L.sl, pt_no fun env Q w => by simp only [wpT] at w⟩
        | cons g1 gr =>
          obtain ⟨tg, it, ifs, as⟩ := c0
          simp only [cE] at h
          split at h
          · rename_i q
            obtain ⟨q1, q2, q3⟩ := q
            subst q1
            rw [Option.bind_eq_some_iff] at h
            obtain ⟨ct, h1, h⟩ := h
            rw [Option.bind_eq_some_iff] at h
            obtain ⟨ci, h2, h⟩ := h
            rw [Option.bind_eq_some_iff] at h
            obtain ⟨cf, h3, h⟩ := h
            rw [Option.bind_eq_some_iff] at h
            obtain ⟨ds, h4, h⟩ := h
            split at h
            · rename_i q4
              rw [Option.map_eq_some_iff] at h
              obtain ⟨ce, h5, rfl⟩ := h
              obtain ⟨rem, e1, e2, e3, e4⟩ := cCl_ok ih g h4
              have sl : ∀ i ∈ ct.slots ++ (ds.map fun d => d.ct.slots).flatten, i ∈ (ownOf N scope.names).map Prod.snd := fun i hi => by
                have q5 := List.all_eq_true.mp q4 i hi
                simpa using q5
              rw [e1, e2]
              refine ⟨pd_cmpN (g := ⟨tg, it, ifs⟩) (d := ⟨ct, ci, cf, (ownOf N scope.names).map Prod.snd⟩) (own := ownOf N scope.names) (rem := rem) g.calm g.nd' (cIt_ok g (fun e c q => (ihX e c q).1) h2) (by rw [g.hN, g.hsc]; exact blkOk_by q3) rfl ?_ ?_ e3 (fun s H C cl fp => (ih _ _ _ h5 _ (g.blk s H scope C cl fp)).1), pt_no fun env Q w => by simp only [wpT] at w⟩
              · have z := e4 (GD.t P ⟨ct, ci, cf, (ownOf N scope.names).map Prod.snd⟩) fun i hi => sl i (List.mem_append_right _ hi)
                rw [e2, List.map_map] at z
                exact z
              · exact ⟨fun s H C cl fp => cTg_ok (fun x i a b => blk_nm g s H C cl fp a b) g.calm g.hK g.nd' h1, fun s H C cl fp => cIfs_ok (scope := scope) (fun e c q => (ih _ e c q _ (g.blk s H scope C cl fp)).2) h3, fun env x => fold_noSet q2 x, fun i hi => sl i (List.mem_append_left _ hi)⟩
            · cases h
          · cases h
    | _ => simp only [cE] at h; cases h
end
end DL

/-! DL9: statements, defs. -/
namespace DL
open PySem PySem.Spec PyProof.Rows L2
theorem swapped2 {env : Env} {x y : Str} {px py pt pt2 : Pos} {kt k2 : Nat} {a b : Expr} (hk : env.blockKind = .function) (hx : env.kindOf x = some .local) (hy : env.kindOf y = some .local) (hl : (py.line == px.line) = true) (hne : x ≠ y) (ha : noStar a = true) (hb : noStar b = true)
    (hf : [a, b].all (foldedForSure 8) = false) (hc : [a, b].all (constantsAlone 8) = false) : swappedStores [.Tuple [.Name x px, .Name y py] kt pt] (.Tuple [a, b] k2 pt2) env = pure (some [x, y]) := by
  have h2 : (y == x) = false := by
    rw [beq_eq_false_iff_ne]
    exact fun e => hne e.symm
  have hl' : py.line = px.line := by simpa using hl
  have nm : ∀ (l : List Expr) (g : Expr → Option Str), l = [.Name x px, .Name y py] → g (.Name x px) = some x → g (.Name y py) = some y → l.filterMap g = [x, y] := fun l g e g1 g2 => by
    rw [e, List.filterMap_cons, g1, List.filterMap_cons, g2]
    rfl
  unfold swappedStores
  simp only [List.length_cons, List.length_nil, hk, hf, hc, List.any_cons, List.any_nil]
  split
  · rename_i q
    exact absurd q (by decide)
  · split
    · cases ha
    · split
      · cases hb
      · rw [nm _ _ rfl (by simp [hx, Expr.pos]) (by simp [hy, Expr.pos, hl'])]
        simp [List.eraseDups, List.eraseDupsBy, List.eraseDupsBy.loop, h2]
/-- where a name of the two is no plain local, the pair is made -/
theorem swappedNo2 {env : Env} {x y : Str} {px py pt pt2 : Pos} {kt k2 : Nat} {a b : Expr} (hk : env.blockKind = .function) (h : env.kindOf x ≠ some .local ∨ env.kindOf y ≠ some .local) :
    swappedStores [.Tuple [.Name x px, .Name y py] kt pt] (.Tuple [a, b] k2 pt2) env = pure none := by
  have nm : ∀ (g : Expr → Option Str), (g (.Name x px) = none ∨ g (.Name y py) = none) → ([.Name x px, .Name y py].filterMap g).length ≠ 2 := fun g hg => by
    rcases hg with hg | hg
    · rw [List.filterMap_cons, hg]
      have := List.length_filterMap_le g [.Name y py]
      simp at this ⊢
      omega
    · cases e : g (.Name x px) with
      | none => rw [List.filterMap_cons, e, List.filterMap_cons, hg]; simp
      | some z => rw [List.filterMap_cons, e, List.filterMap_cons, hg]; simp
  unfold swappedStores
  simp only [List.length_cons, List.length_nil, hk]
  split
  · rfl
  · split
    · rfl
    · rw [if_pos]
      rw [Bool.or_eq_true]
      left
      rw [bne_iff_ne]
      refine nm _ ?_
      rcases h with h | h
      · left
        simp only
        rw [if_neg]
        simp [h]
      · right
        simp only
        rw [if_neg]
        simp [h]
theorem swapped3 {env : Env} {x y z : Str} {px py pz pt pt2 : Pos} {kt k2 : Nat} {a b c : Expr} (hk : env.blockKind = .function) (hx : env.kindOf x = some .local) (hy : env.kindOf y = some .local) (hz : env.kindOf z = some .local) (hl : (py.line == px.line) = true) (hl2 : (pz.line == px.line) = true)
    (hne : x ≠ y) (hne2 : x ≠ z) (hne3 : y ≠ z) (ha : noStar a = true) (hb : noStar b = true) (hcs : noStar c = true)
    (hf : [a, b, c].all (foldedForSure 8) = false) (hc : [a, b, c].all (constantsAlone 8) = false) : swappedStores [.Tuple [.Name x px, .Name y py, .Name z pz] kt pt] (.Tuple [a, b, c] k2 pt2) env = pure (some [x, y, z]) := by
  have h2 : (y == x) = false := by
    rw [beq_eq_false_iff_ne]
    exact fun e => hne e.symm
  have h3 : (z == x) = false := by
    rw [beq_eq_false_iff_ne]
    exact fun e => hne2 e.symm
  have h4 : (z == y) = false := by
    rw [beq_eq_false_iff_ne]
    exact fun e => hne3 e.symm
  have hl' : py.line = px.line := by simpa using hl
  have hl2' : pz.line = px.line := by simpa using hl2
  have nm : ∀ (l : List Expr) (g : Expr → Option Str), l = [.Name x px, .Name y py, .Name z pz] → g (.Name x px) = some x → g (.Name y py) = some y → g (.Name z pz) = some z → l.filterMap g = [x, y, z] := fun l g e g1 g2 g3 => by
    rw [e, List.filterMap_cons, g1, List.filterMap_cons, g2, List.filterMap_cons, g3]
    rfl
  unfold swappedStores
  simp only [List.length_cons, List.length_nil, hk, hf, hc, List.any_cons, List.any_nil]
  split
  · rename_i q
    exact absurd q (by decide)
  · split
    · cases ha
    · split
      · cases hb
      · split
        · cases hcs
        · rw [nm _ _ rfl (by simp [hx, Expr.pos]) (by simp [hy, Expr.pos, hl']) (by simp [hz, Expr.pos, hl2'])]
          simp [List.eraseDups, List.eraseDupsBy, List.eraseDupsBy.loop, h2, h3, h4]
/-! ### the translation of statements -/
def cSL (g : Stmt → Option CS) : List Stmt → Option CSs
  | [] => some .nil
  | s :: r => (g s).bind fun x => (cSL g r).map (.cons x)
theorem swappedNest {env : Env} {x y z : Str} {px py pz p1 pt pt2 : Pos} {k1 kt k2 : Nat} {a b : Expr} (hk : env.blockKind = .function) :
    swappedStores [.Tuple [.Tuple [.Name x px, .Name y py] k1 p1, .Name z pz] kt pt] (.Tuple [a, b] k2 pt2) env = pure none := by
  have nm : ∀ (g : Expr → Option Str), g (.Tuple [.Name x px, .Name y py] k1 p1) = none → ([.Tuple [.Name x px, .Name y py] k1 p1, .Name z pz].filterMap g).length ≠ 2 := fun g hg => by
    rw [List.filterMap_cons, hg]
    have := List.length_filterMap_le g [.Name z pz]
    simp at this ⊢
    omega
  unfold swappedStores
  simp only [List.length_cons, List.length_nil, hk]
  split
  · rfl
  · split
    · rfl
    · rw [if_pos]
      rw [Bool.or_eq_true]
      left
      rw [bne_iff_ne]
      exact nm _ rfl
def loC (sc : Scope) (x : Str) : Bool := match sc.names.lookup x with
  | some .local => true
  | _ => false
def isTup : Expr → Bool
  | .Tuple _ _ _ => true
  | _ => false
def isLst : Expr → Bool
  | .List _ _ => true
  | _ => false
def isLc : Expr → Bool
  | .ListComp _ _ _ _ => true
  | _ => false
def isCp : Expr → Bool
  | .ListComp _ _ _ _ => true
  | .DictComp _ _ _ _ _ => true
  | _ => false
theorem sw_cell {e : Expr} {x : Str} {p : Pos} {l : Nat} {env : Env} (he : isCp e = true) (h : env.kindOf x ≠ some .local) : swapsWith e (some (.Name x p)) l env = pure false := by
  have k : (env.kindOf x == some NameKind.local) = false := by
    rw [beq_eq_false_iff_ne]
    exact h
  cases e with
  | ListComp _ _ _ _ =>
    unfold swapsWith
    simp only [k, Bool.and_false, Bool.false_and]
  | DictComp _ _ _ _ _ =>
    unfold swapsWith
    simp only [k, Bool.and_false, Bool.false_and]
  | _ => cases he
def lcOkB (x : Str) (p : Pos) : Expr → Bool
  | .ListComp _ [_] scope pos => (p.line == pos.line) && !(scope.names.any fun (n, k) => n == x && (k == .local || k == .cell))
  | _ => false
def fnC (sc : Scope) : Bool := match sc.kind with
  | .function => true
  | _ => false
/-- z.pop() -/
def popOf : Expr → Option Str
  | .Call (.Attribute (.Name z _) at_ ap) [] [] cp => if at_ = "pop" ∧ (ap.endLine == cp.line) = true then some z else none
  | _ => none
theorem popOf_ok {e : Expr} {z : Str} (h : popOf e = some z) : ∃ p1 ap cp, e = .Call (.Attribute (.Name z p1) "pop" ap) [] [] cp ∧ (ap.endLine == cp.line) = true := by
  unfold popOf at h
  split at h
  · split at h
    · rename_i q
      cases h
      obtain ⟨rfl, q⟩ := q
      exact ⟨_, _, _, rfl, q⟩
    · cases h
  · cases h
def cS (T : Tb) (N : List Str) (m : Nat) (sc : Scope) : Nat → Stmt → Option CS
  | 0, _ => none
  | n + 1, st => match st with
    | .Pass _ => some .pass
    | .Break _ => some .brk
    | .Continue _ => some .cnt
    | .Return v _ => (match v with
      | none => some (.ret .non)
      | some e => (cE T N m sc e).map .ret)
    | .Assign ts e pos => (match ts with
      | [.Name x p] =>
        if stC sc.names x = true then
          if (popOf e).isSome = true then (popOf e).bind fun z => if visC sc z = true ∧ okNm z = true then (ixS z N).bind fun i => (ixS x N).map fun j => .popl i j else none
          else if plainX e = true ∨ isTup e = true then (ixS x N).bind fun i => (cE T N m sc e).map (.asg i)
          else if isCp e = true ∧ loC sc x = false then (ixS x N).bind fun i => (cE T N m sc e).map (.asg i)
          else if isLc e = true ∧ loC sc x = true ∧ lcOkB x p e = true then (ixS x N).bind fun i => (cE T N (m + 1) sc e).map (.asg i)
          else none
        else none
      | [.Subscript (.Name x _) k _] =>
        if visC sc x = true ∧ okNm x = true ∧ plainX e = true then (ixS x N).bind fun i => (cE T N m sc k).bind fun ck => (cE T N m sc e).map fun ce => .put i ck ce else none
      | [.Tuple es k q] =>
        if isTup e = true then
          (match es, e with
          | [.Name x px, .Name y py], .Tuple [a, b] _ _ =>
            if loC sc x = true ∧ loC sc y = true ∧ (py.line == px.line) = true ∧ x ≠ y ∧ noStar a = true ∧ noStar b = true ∧ [a, b].all (foldedForSure 8) = false ∧ [a, b].all (constantsAlone 8) = false then
              (ixS x N).bind fun i => (ixS y N).bind fun j => (cE T N m sc a).bind fun ca => (cE T N m sc b).map fun cb => .par i j ca cb
            else if loC sc x = false ∨ loC sc y = false then
              if (isLst a = true ∨ isLst b = true) ∧ stC sc.names x = true ∧ stC sc.names y = true ∧ noStar a = true ∧ noStar b = true then
                (ixS x N).bind fun i => (ixS y N).bind fun j => (cE T N m sc a).bind fun ca => (cE T N m sc b).map fun cb => .parc i j ca cb
              else
              (match cTg N sc.names (.Tuple es k q) with
              | some (.tp is) => (cE T N m sc e).map (.unp is)
              | _ => none)
            else none
          | [.Name x px, .Name y py, .Name z pz], .Tuple [a, b, c] _ _ =>
            if loC sc x = true ∧ loC sc y = true ∧ loC sc z = true ∧ (py.line == px.line) = true ∧ (pz.line == px.line) = true ∧ (x ≠ y ∧ x ≠ z ∧ y ≠ z) ∧ noStar a = true ∧ noStar b = true ∧ noStar c = true ∧ [a, b, c].all (foldedForSure 8) = false ∧ [a, b, c].all (constantsAlone 8) = false then
              (ixS x N).bind fun i => (ixS y N).bind fun j => (ixS z N).bind fun l => (cE T N m sc a).bind fun ca => (cE T N m sc b).bind fun cb => (cE T N m sc c).map fun cc => .par3 i j l ca cb cc
            else none
          | [.Name _ _, .Name _ _, .Name _ _, .Name _ _], .Tuple [_, _, _, _] _ _ =>
            (match cTg N sc.names (.Tuple es k q) with
            | some (.tp is) => (cE T N m sc e).map (.unp is)
            | _ => none)
          | [.Tuple [.Name x _, .Name y _] _ _, .Name z _], .Tuple [_, _] _ _ =>
            if stC sc.names x = true ∧ stC sc.names y = true ∧ stC sc.names z = true then
              (ixS x N).bind fun i => (ixS y N).bind fun j => (ixS z N).bind fun l => (cE T N m sc e).map (.unp2 i j l)
            else none
          | _, _ => none)
        else if plainX e = true then
          (match cTg N sc.names (.Tuple es k q) with
          | some (.tp is) => (cE T N m sc e).map (.unp is)
          | _ => none)
        else none
      | _ => none)
    | .AugAssign t op e _ => (match t with
      | .Name x _ => if stC sc.names x = true ∧ (op = .Add ∨ op = .Sub) then (ixS x N).bind fun i => (cE T N m sc e).map (.aug i op) else none
      | _ => none)
    | .If c a b _ => (cE T N m sc c).bind fun x => (cSL (cS T N m sc n) a).bind fun y => (cSL (cS T N m sc n) b).map (.ite x y)
    | .For tg it body els _ => (match els with
      | [] => if noSet it = true then (cTg N sc.names tg).bind fun x => (cIt (cE T N m sc) sc it).bind fun y => (cSL (cS T N m sc n) body).map (.for_ x y) else none
      | _ => none)
    | .While c body els _ => (match els with
      | [] => (cE T N m sc c).bind fun x => (cSL (cS T N m sc n) body).map (.whl x)
      | _ => none)
    | .Expr e _ => (match e with
      | .Call (.Attribute (.Name x _) at_ ap) [a] [] cp => if at_ = "append" ∧ visC sc x = true ∧ okNm x = true ∧ noStar a = true ∧ (ap.endLine == cp.line) = true then (ixS x N).bind fun i => (cE T N m sc a).map (.app i) else if at_ = "extend" ∧ visC sc x = true ∧ okNm x = true ∧ noStar a = true ∧ (ap.endLine == cp.line) = true then (ixS x N).bind fun i => (cE T N m sc a).map (.ext i) else none
      | _ => none)
    | _ => none
section
variable {T : Tb} {P : Pm} {N : List Str} {sc : Scope} {X : Cx}
structure GdS (T : Tb) (P : Pm) (N : List Str) (sc : Scope) (X : Cx) : Prop where
  g : Gd T P N sc X
  fn : ∀ x, X.fn x = true
  hp : PassesOwn (model X.prog X.w) X.A X.env X.xe
  kind : sc.kind = .function
theorem GdS.nm (g : GdS T P N sc X) {x : Str} {i : Nat} (h : stC sc.names x = true) (h1 : ixS x N = some i) : NmOk X i x := by
  refine ⟨by rw [g.g.hN]; exact ixS_get h1, ?_, .inl (g.fn x)⟩
  rw [g.g.hsc]
  unfold stC at h
  split at h
  · rename_i e; exact .inl e
  · rename_i e; exact .inr e
  · cases h
theorem loC_ok {x : Str} (h : loC sc x = true) : sc.names.lookup x = some .local := by
  unfold loC at h
  split at h
  · assumption
  · cases h
theorem cSL_ok {g : Stmt → Option CS} (hg : ∀ s c, g s = some c → PS X s (tS P c)) : ∀ {ss : List Stmt} {cs : CSs}, cSL g ss = some cs → PSs X ss (tSs P cs)
  | [], cs, h => by
    have h' := Option.some.inj h
    subst h'
    exact sd_nil
  | s :: ss, cs, h => by
    unfold cSL at h
    rw [Option.bind_eq_some_iff] at h
    obtain ⟨c, h1, h2⟩ := h
    rw [Option.map_eq_some_iff] at h2
    obtain ⟨ds, h3, rfl⟩ := h2
    exact sd_cons (hg s c h1) (cSL_ok hg h3)
theorem cS_ok (m : Nat) (g : GdS T P N sc X) : ∀ (n : Nat) (s : Stmt) (c : CS), cS T N m sc n s = some c → PS X s (tS P c)
  | 0, _, _, h => by cases h
  | n + 1, s, c, h => by
    have ih := cS_ok m g n
    have ex : ∀ {e : Expr} {c : CE}, cE T N m sc e = some c → Good P X e c := fun {e c} q => cE_ok T P N m sc e c q X g.g
    have hb : X.env.blockKind = .function := by
      unfold Env.blockKind
      rw [g.g.hsc, g.kind]
      rfl
    cases s with
    | Pass pos => simp only [cS] at h; cases h; exact sd_pass
    | Break pos => simp only [cS] at h; cases h; exact sd_brk
    | Continue pos => simp only [cS] at h; cases h; exact sd_cnt
    | Return v pos =>
      simp only [cS] at h
      cases v with
      | none => cases h; exact sd_retN
      | some e =>
        simp only at h
        rw [Option.map_eq_some_iff] at h
        obtain ⟨x, h1, rfl⟩ := h
        exact sd_ret (ex h1).1
    | Assign ts e pos =>
      simp only [cS] at h
      split at h
      · rename_i x p
        split at h
        · rename_i hs
          split at h
          · rw [Option.bind_eq_some_iff] at h
            obtain ⟨z, hz, h⟩ := h
            obtain ⟨p1, ap, cp, rfl, hl⟩ := popOf_ok hz
            split at h
            · rename_i q
              rw [Option.bind_eq_some_iff] at h
              obtain ⟨i, h1, h⟩ := h
              rw [Option.map_eq_some_iff] at h
              obtain ⟨j, h2, rfl⟩ := h
              exact sd_popl g.g.nd' (by rw [g.g.hN]; exact ixS_get h1) (by rw [g.g.hsc]; exact visC_ok q.1) (okNm1 q.2) (okNm2 q.2) (g.nm hs h2) hl
            · cases h
          split at h
          · rename_i hp
            rw [Option.bind_eq_some_iff] at h
            obtain ⟨i, h1, h⟩ := h
            rw [Option.map_eq_some_iff] at h
            obtain ⟨y, h2, rfl⟩ := h
            refine sd_asg g.g.nd' (g.nm hs h1) (ex h2).1 (swaps_plain (hp.imp id fun q => ?_))
            cases e <;> first | exact ⟨_, _, _, rfl⟩ | cases q
          split at h
          · rename_i hp
            rw [Option.bind_eq_some_iff] at h
            obtain ⟨i, h1, h⟩ := h
            rw [Option.map_eq_some_iff] at h
            obtain ⟨y, h2, rfl⟩ := h
            refine sd_asg g.g.nd' (g.nm hs h1) (ex h2).1 (sw_cell hp.1 fun z => ?_)
            have z : X.env.scope.names.lookup x = some .local := z
            have q := hp.2
            rw [g.g.hsc] at z
            unfold loC at q
            rw [z] at q
            cases q
          · split at h
            · rename_i hl
              rw [Option.bind_eq_some_iff] at h
              obtain ⟨i, h1, h⟩ := h
              rw [Option.map_eq_some_iff] at h
              obtain ⟨y, h2, rfl⟩ := h
              cases e with
              | ListComp elt gens scope lp =>
                have hone : ∃ c0, gens = [c0] := by
                  have hl2 := hl.2.2
                  unfold lcOkB at hl2
                  split at hl2
                  · rename_i z
                    cases z
                    exact ⟨_, rfl⟩
                  · cases hl2
                obtain ⟨c0, rfl⟩ := hone
                obtain ⟨tg, it, ifs, own, ce, ct, ci, cf, rfl, rfl, L⟩ := cE_lc (fun sc e c q X g => cE_ok T P N m sc e c q X g) g.g h2
                have hl2 := hl.2.2
                unfold lcOkB at hl2
                rw [Bool.and_eq_true, Bool.not_eq_true'] at hl2
                have yl : X.env.scope.names.lookup x = some .local := by rw [g.g.hsc]; exact loC_ok hl.2.1
                exact sd_asgLc g.g.calm g.g.nd' (by rw [g.g.hN]; exact ixS_get h1) yl (sw_true (by rw [g.g.hsc]; exact g.kind) yl hl2.1 hl2.2) L.hit L.ok L.tg L.ifs L.elt L.fold L.sl
              | _ => cases hl.1
            · cases h
        · cases h
      · rename_i x px k p2
        split at h
        · rename_i q
          rw [Option.bind_eq_some_iff] at h
          obtain ⟨i, h1, h⟩ := h
          rw [Option.bind_eq_some_iff] at h
          obtain ⟨ck, h2, h⟩ := h
          rw [Option.map_eq_some_iff] at h
          obtain ⟨ce, h3, rfl⟩ := h
          exact sd_put g.g.hu g.g.hK g.g.hw (by rw [g.g.hN]; exact ixS_get h1) (by rw [g.g.hsc]; exact visC_ok q.1) (okNm1 q.2.1) (okNm2 q.2.1) (ex h2).1 (ex h3).1 (swaps_plain (.inl q.2.2))
        · cases h
      · rename_i es k q
        split at h
        · split at h
          · rename_i x px y py a b k2 pt2 _
            split at h
            · rename_i q
              obtain ⟨q1, q2, q3, q4, q5, q6, q7, q8⟩ := q
              rw [Option.bind_eq_some_iff] at h
              obtain ⟨i, h1, h⟩ := h
              rw [Option.bind_eq_some_iff] at h
              obtain ⟨j, h2, h⟩ := h
              rw [Option.bind_eq_some_iff] at h
              obtain ⟨ca, h3, h⟩ := h
              rw [Option.map_eq_some_iff] at h
              obtain ⟨cb, h4, rfl⟩ := h
              have i1 : N[i]? = some x := ixS_get h1
              have i2 : N[j]? = some y := ixS_get h2
              have lx : X.env.scope.names.lookup x = some .local := by rw [g.g.hsc]; exact loC_ok q1
              have ly : X.env.scope.names.lookup y = some .local := by rw [g.g.hsc]; exact loC_ok q2
              refine sd_par g.g.calm g.g.nd' (by rw [g.g.hN]; exact i1) (by rw [g.g.hN]; exact i2) (fun z => ?_) lx ly (ex h3).1 (ex h4).1 (noStar_each q5) (noStar_each q6) (swapped2 hb lx ly q3 q4 q5 q6 q7 q8) rfl
              rw [z, i2] at i1
              exact q4 (Option.some.inj i1).symm
            · split at h
              · rename_i hl
                have nl : ∀ {z : Str}, loC sc z = false → X.env.scope.names.lookup z ≠ some .local := fun {z} hz e => by
                  rw [g.g.hsc] at e
                  unfold loC at hz
                  rw [e] at hz
                  cases hz
                split at h
                · rename_i q
                  obtain ⟨_, q2, q3, q4, q5⟩ := q
                  rw [Option.bind_eq_some_iff] at h
                  obtain ⟨i, h1, h⟩ := h
                  rw [Option.bind_eq_some_iff] at h
                  obtain ⟨j, h2, h⟩ := h
                  rw [Option.bind_eq_some_iff] at h
                  obtain ⟨ca, h3, h⟩ := h
                  rw [Option.map_eq_some_iff] at h
                  obtain ⟨cb, h4, rfl⟩ := h
                  exact sd_parc g.g.calm g.g.nd' (g.nm q2 h1) (g.nm q3 h2) (ex h3).1 (ex h4).1 (noStar_each q4) (noStar_each q5) (swappedNo2 hb (hl.imp nl nl)) rfl
                split at h
                · rename_i is ht
                  rw [Option.map_eq_some_iff] at h
                  obtain ⟨u, h2, rfl⟩ := h
                  have tg := cTg_ok (P := P) (fun x i a b => g.nm a b) g.g.calm g.g.hK g.g.nd' ht
                  have nl : ∀ {z : Str}, loC sc z = false → X.env.scope.names.lookup z ≠ some .local := fun {z} hz e => by
                    rw [g.g.hsc] at e
                    unfold loC at hz
                    rw [e] at hz
                    cases hz
                  exact sd_unp (ex h2).1 tg rfl (swappedNo2 hb (hl.imp nl nl)) rfl
                · cases h
              · cases h
          · rename_i x px y py z pz a b d k2 pt2 _
            split at h
            · rename_i q
              obtain ⟨q1, q2, q3, q4, q5, ⟨n1, n2, n3⟩, q6, q7, q8, q9, q10⟩ := q
              rw [Option.bind_eq_some_iff] at h
              obtain ⟨i, h1, h⟩ := h
              rw [Option.bind_eq_some_iff] at h
              obtain ⟨j, h2, h⟩ := h
              rw [Option.bind_eq_some_iff] at h
              obtain ⟨l, h3, h⟩ := h
              rw [Option.bind_eq_some_iff] at h
              obtain ⟨ca, h4, h⟩ := h
              rw [Option.bind_eq_some_iff] at h
              obtain ⟨cb, h5, h⟩ := h
              rw [Option.map_eq_some_iff] at h
              obtain ⟨cc, h6, rfl⟩ := h
              have i1 : N[i]? = some x := ixS_get h1
              have i2 : N[j]? = some y := ixS_get h2
              have i3 : N[l]? = some z := ixS_get h3
              have ne : ∀ {i j : Nat} {x y : Str}, N[i]? = some x → N[j]? = some y → x ≠ y → i ≠ j := fun {i j x y} e1 e2 n e => by
                rw [e, e2] at e1
                exact n (Option.some.inj e1).symm
              have lx : X.env.scope.names.lookup x = some .local := by rw [g.g.hsc]; exact loC_ok q1
              have ly : X.env.scope.names.lookup y = some .local := by rw [g.g.hsc]; exact loC_ok q2
              have lz : X.env.scope.names.lookup z = some .local := by rw [g.g.hsc]; exact loC_ok q3
              exact sd_par3 g.g.calm g.g.nd' (by rw [g.g.hN]; exact i1) (by rw [g.g.hN]; exact i2) (by rw [g.g.hN]; exact i3) (ne i1 i2 n1) (ne i1 i3 n2) (ne i2 i3 n3) lx ly lz (ex h4).1 (ex h5).1 (ex h6).1 (noStar_each q6) (noStar_each q7) (noStar_each q8) (swapped3 hb lx ly lz q4 q5 n1 n2 n3 q6 q7 q8 q9 q10) rfl
            · cases h
          · rename_i x1 p1 x2 p2 x3 p3 x4 p4 a1 a2 a3 a4 k2 pt2 _
            split at h
            · rename_i is ht
              rw [Option.map_eq_some_iff] at h
              obtain ⟨u, h2, rfl⟩ := h
              have tg := cTg_ok (P := P) (fun x i a b => g.nm a b) g.g.calm g.g.hK g.g.nd' ht
              exact sd_unp (ex h2).1 tg rfl rfl rfl
            · cases h
          · rename_i x px y py k1 p1 z pz a b k2 pt2 _
            split at h
            · rename_i q
              obtain ⟨q1, q2, q3⟩ := q
              rw [Option.bind_eq_some_iff] at h
              obtain ⟨i, h1, h⟩ := h
              rw [Option.bind_eq_some_iff] at h
              obtain ⟨j, h2, h⟩ := h
              rw [Option.bind_eq_some_iff] at h
              obtain ⟨l, h3, h⟩ := h
              rw [Option.map_eq_some_iff] at h
              obtain ⟨u, h4, rfl⟩ := h
              exact sd_unp2 (ex h4).1 (pgd_nest g.g.calm g.g.hK g.g.nd' (g.nm q1 h1) (g.nm q2 h2) (g.nm q3 h3)) rfl (swappedNest hb) rfl
            · cases h
          · cases h
        · split at h
          · rename_i hnt hp
            split at h
            · rename_i is ht
              rw [Option.map_eq_some_iff] at h
              obtain ⟨y, h2, rfl⟩ := h
              have tg := cTg_ok (P := P) (fun x i a b => g.nm a b) g.g.calm g.g.hK g.g.nd' ht
              have sw : swapsWith e (some (.Tuple es k q)) pos.line X.env = pure false := swaps_plain (.inl hp)
              refine sd_unp (ex h2).1 tg sw ?_ rfl
              cases e <;> first | rfl | cases hp
            · cases h
          · cases h
      · cases h
    | AugAssign t op e pos =>
      simp only [cS] at h
      split at h
      · split at h
        · rename_i q
          rw [Option.bind_eq_some_iff] at h
          obtain ⟨i, h1, h⟩ := h
          rw [Option.map_eq_some_iff] at h
          obtain ⟨y, h2, rfl⟩ := h
          exact sd_aug g.g.nd' (g.nm q.1 h1) (ex h2).1 q.2
        · cases h
      · cases h
    | If c a b pos =>
      simp only [cS] at h
      rw [Option.bind_eq_some_iff] at h
      obtain ⟨x, h1, h⟩ := h
      rw [Option.bind_eq_some_iff] at h
      obtain ⟨y, h2, h⟩ := h
      rw [Option.map_eq_some_iff] at h
      obtain ⟨z, h3, rfl⟩ := h
      exact sd_ite (ex h1).2 (cSL_ok ih h2) (cSL_ok ih h3)
    | For tg it body els pos =>
      simp only [cS] at h
      split at h
      · split at h
        · rename_i hn
          rw [Option.bind_eq_some_iff] at h
          obtain ⟨x, h1, h⟩ := h
          rw [Option.bind_eq_some_iff] at h
          obtain ⟨y, h2, h⟩ := h
          rw [Option.map_eq_some_iff] at h
          obtain ⟨z, h3, rfl⟩ := h
          exact sd_for g.hp g.g.calm (cIt_ok g.g (fun e c q => (ex q).1) h2) (cTg_ok (fun x i a b => g.nm a b) g.g.calm g.g.hK g.g.nd' h1) (cSL_ok ih h3) (fold_noSet hn)
        · cases h
      · cases h
    | While c body els pos =>
      simp only [cS] at h
      split at h
      · rw [Option.bind_eq_some_iff] at h
        obtain ⟨x, h1, h⟩ := h
        rw [Option.map_eq_some_iff] at h
        obtain ⟨z, h3, rfl⟩ := h
        exact sd_whl g.hp (ex h1).2 (cSL_ok ih h3)
      · cases h
    | Expr e pos =>
      simp only [cS] at h
      split at h
      · split at h
        · rename_i q
          obtain ⟨rfl, q1, q2, q3, q4⟩ := q
          rw [Option.bind_eq_some_iff] at h
          obtain ⟨i, h1, h⟩ := h
          rw [Option.map_eq_some_iff] at h
          obtain ⟨y, h2, rfl⟩ := h
          exact sd_app (by rw [g.g.hN]; exact ixS_get h1) (by rw [g.g.hsc]; exact visC_ok q1) (okNm1 q2) (okNm2 q2) (ex h2).1 (noStar_each q3) q4
        · split at h
          · rename_i q
            obtain ⟨rfl, q1, q2, q3, q4⟩ := q
            rw [Option.bind_eq_some_iff] at h
            obtain ⟨i, h1, h⟩ := h
            rw [Option.map_eq_some_iff] at h
            obtain ⟨y, h2, rfl⟩ := h
            exact sd_ext g.g.hK (by rw [g.g.hN]; exact ixS_get h1) (by rw [g.g.hsc]; exact visC_ok q1) (okNm1 q2) (okNm2 q2) (ex h2).1 (noStar_each q3) q4
          · cases h
      · cases h
    | _ => simp only [cS] at h; cases h
end
/-- the whole body -/
def cB (T : Tb) (N : List Str) (st : Stmt) : Option CSs := if fnC (defScope st) = true then cSL (cS T N 40 (defScope st) 40) (defBody st) else none
/-! ### defs -/
section
variable {Pr : Program} {w : World} {K : PySem.W.Frag} {mg : Str → Option Value} {base : Heap}
/-- a def that keeps a promise over data, at a level -/
def DefOk (Pr : Program) (w : World) (K : PySem.W.Frag) (mg : Str → Option Value) (base : Heap) (p a0 : Addr) (x : Str) (lvl : Nat) (sp : SpD) : Prop :=
  ∃ f fd ps, mg x = some (.ref f) ∧ PySem.W.keepIn K (.ref f) = true ∧ Binds K fd ps [] ∧ FnOk Pr w K mg base CX0 lvl f fd ps (lift K p a0 sp)
theorem DefOk.mono {p a0 : Addr} {x : Str} {j k : Nat} {sp : SpD} (h : DefOk Pr w K mg base p a0 x j sp) (l : j ≤ k) : DefOk Pr w K mg base p a0 x k sp := by
  obtain ⟨f, fd, ps, h1, h2, h3, h4⟩ := h
  exact ⟨f, fd, ps, h1, h2, h3, h4.mono l⟩
theorem DefOk.imp {p a0 : Addr} {x : Str} {j : Nat} {sp sp' : SpD} (h : DefOk Pr w K mg base p a0 x j sp) (l : ∀ ds Q, sp' ds Q → sp ds Q) : DefOk Pr w K mg base p a0 x j sp' := by
  obtain ⟨f, fd, ps, h1, h2, h3, h4⟩ := h
  refine ⟨f, fd, ps, h1, h2, h3, h4.imp fun vs H Q E q => ?_⟩
  obtain ⟨ds, O, Qd, q1, q2, q3, q4, q5, q6⟩ := q
  exact ⟨ds, O, Qd, q1, q2, q3, q4, l ds Qd q5, q6⟩
/-- how a constant of the module stands -/
def GlOk (K : PySem.W.Frag) (mg : Str → Option Value) (p : Addr) (x : Str) (d : D) : Prop := ∃ u v, mg x = some u ∧ RelV v u ∧ ∀ H, Rep K p H d v
theorem start_sr {K : PySem.W.Frag} {p a0 : Addr} {H : Hp} {O : Addr → Bool} {G : Gm} {N : List Str} {ds : List D} {vs : List V} (hp : O p = true) (hq : PoolOk p a0 H) (tr : ∀ a, O a = true → ∃ o, H a = some o) (r : RepL K p (hid H O) ds vs) :
    SR ⟨K, p, a0, H, O, G, tr, w⟩ [] O (L2.start N vs) H (ds.map Sl.val ++ List.replicate (N.length - ds.length) .no) := by
  have hl := r.length
  refine ⟨SameP.refl H, hq, hq, hp, tr, fun _ h => h, ?_, fun i s e => ?_, fun i j a es es' e1 _ o1 => ?_, fun g hg => nomatch hg⟩
  · unfold L2.start
    simp [hl]
  · rw [List.getElem?_append] at e
    split at e
    · rename_i hi
      rw [List.getElem?_map, Option.map_eq_some_iff] at e
      obtain ⟨d, e1, rfl⟩ := e
      obtain ⟨v, e2, e3⟩ := r.get e1
      refine ⟨v, ?_, e3⟩
      unfold L2.start
      rw [List.getElem?_append_left (by rw [List.length_map, hl]; simpa using hi), List.getElem?_map, e2]
      rfl
    · rw [List.getElem?_replicate] at e
      split at e
      · cases e
        exact trivial
      · cases e
  · exfalso
    rw [List.getElem?_append] at e1
    split at e1
    · rw [List.getElem?_map, Option.map_eq_some_iff] at e1
      obtain ⟨d, _, e2⟩ := e1
      cases e2
      cases o1
    · rw [List.getElem?_replicate] at e1
      split at e1
      · cases e1
        cases o1
      · cases e1
/-- THE RULE -/
theorem def_ok {x : Str} {st : Stmt} {f : Addr} {fd : FuncData} {N ps : List Str} {k : Nat} {p a0 : Addr} {sp : SpD} {T : Tb} {G : Gm} {body : CSs} (F : Fun K x x st f fd) (m : mg x = some (.ref f)) (b : Binds K fd ps []) (S : FnScope N ps (defScope st)) (hc : cB T N st = some body)
    (calls : ∀ y id, (y, id) ∈ T.fn → ∃ sp, G.Φ id = some sp ∧ DefOk Pr w K mg base p a0 y k sp) (glbs : ∀ y id, (y, id) ∈ T.gl → ∃ d, G.Γ id = some d ∧ GlOk K mg p y d) (blts : ∀ y ∈ bltNames, mg y = none)
    (hw : ∀ ds Q, sp ds Q → ds.length = ps.length ∧ wpF G N.length body ds Q) : DefOk Pr w K mg base p a0 x (k + 1) sp := by
  refine ⟨f, fd, ps, m, F.kp, b, F.ok S (fun vs H Q E h => ?_) (fun cdv A outer s H vs Q E hr h => ?_)⟩
  · obtain ⟨ds, O, Qd, h1, h2, h3, h4, h5, h6⟩ := h
    rw [h4.length]
    exact (hw ds Qd h5).1
  · obtain ⟨ds, O, Qd, h1, h2, h3, h4, h5, h6⟩ := h
    unfold cB at hc
    split at hc
    · rename_i hk
      have hkind : (defScope st).kind = .function := by
        unfold fnC at hk
        split at hk
        · assumption
        · cases hk
      let P : Pm := ⟨K, p, a0, H, O, G, h3, w⟩
      have un := hr.un
      have gs : GdS T P N (defScope st) (cxOf CX0 Pr w K mg base N x (defScope st) f cdv A outer s H E).nox := by
        refine ⟨⟨rfl, rfl, rfl, rfl, S.nd, rfl, ?_, fun y id hy => ?_, fun y id hy => ?_, blts⟩, fun _ => rfl, PassesOwn.never, hkind⟩
        · show (A.deeper (envOfC x (defScope st) s.heap.objs.size f cdv)).units + 65 < cLine
          omega
        · obtain ⟨sp', q1, f', fd', ps', q2, q3, q4, q5⟩ := calls y id hy
          exact ⟨sp', q1, .inl ⟨f', fd', ps', k, q2, q3, q4, q5, hr⟩⟩
        · obtain ⟨d, q1, u, v, q2, q3, q4⟩ := glbs y id hy
          exact ⟨d, u, v, q1, q2, q3, q4⟩
      refine ⟨_, cSL_ok (cS_ok 40 gs 40) hc, [], O, _, _, start_sr h1 h2 h3 h4, (hw ds Qd h5).2, ⟨fun O' σ H' env S' q => ?_, fun _ _ _ _ _ q => q, fun _ _ _ _ _ q => q, fun r v H' s1 p1 r1 q => h6 r v H' s1 p1 r1 q⟩⟩
      exact h6 (.v .none) .non H' S'.same S'.pool rfl q
    · cases hc
end
end DL

/-! DLA: the law's frame, general words over data. -/
namespace DL
open PySem PySem.Spec PyProof.Rows L2
/-! ### the pool's cells -/
def spPool (K : PySem.W.Frag) : Sp := fun vs H Q _ => ∃ (a : Addr) (ns : List Int), vs = [.ref a] ∧ SqL K H a (ns.map V.int) ∧ ns.length ≤ 63 ∧ ∀ p a0 H', Same H H' → H p = none → PoolOk p a0 H' → Q (.ref p) H'
theorem cut63 (ns : List Int) : ∃ ms : List Int, cutV (ns.map V.int) none (some 63) = ms.map V.int ∧ ms.length ≤ 63 := by
  refine ⟨(ns.drop (HT.sIx ns.length 0 none)).take (HT.sIx ns.length ns.length (some 63) - HT.sIx ns.length 0 none), ?_, ?_⟩
  · unfold cutV
    rw [List.length_map, List.map_take, List.map_drop]
  · rw [List.length_take, show (63 : Int) = ((63 : Nat) : Int) from rfl, HT.sIx_nat]
    omega
theorem same_new {H : Hp} {p : Addr} {o : HO} (h : H p = none) : Same H (upd H p o) := fun b x e => by
  rw [upd_ne (ne_of_none e h)]
  exact e
def spDraw : SpD := fun ds Q => ∃ many : Int, ds = [poolD, .int many] ∧ 1 ≤ many ∧ many < 1073741824 ∧ ∀ r : Int, 0 ≤ r → r < many → Q (.v (.int r))
def spSpread : SpD := fun ds Q => ∃ c : Int, ds = [.int c] ∧ ∀ r : Int, Q (.v (.int r))
theorem rep_pool {K : PySem.W.Frag} {p : Addr} {H : Hp} {v : V} (h : Rep K p H poolD v) : v = .ref p := by
  rcases h with ⟨_, e⟩ | ⟨_, _, _, _, k, x, xs, _, h1, _⟩ | ⟨_, _, e, _⟩
  · exact e
  · have h2 : kD k = .none := h1.1
    cases k <;> cases h2
  · cases e
/-- the pool's five cells -/
def Cells (p a0 : Addr) (ns : List Int) (k m c s : Int) (H0 H : Hp) : Prop :=
  H p = some (.lst [.ref a0, .int k, .int m, .int c, .int s]) ∧ SameP p H0 H ∧ H0 a0 = some (.lst (ns.map V.int)) ∧ a0 ≠ p
theorem Cells.a0 {p a0 : Addr} {ns : List Int} {k m c s : Int} {H0 H : Hp} (h : Cells p a0 ns k m c s H0 H) : H a0 = some (.lst (ns.map V.int)) := h.2.1 a0 _ h.2.2.2 h.2.2.1
theorem Cells.put {p a0 : Addr} {ns : List Int} {k m c s k' m' c' s' : Int} {H0 H : Hp} (h : Cells p a0 ns k m c s H0 H) : Cells p a0 ns k' m' c' s' H0 (upd H p (.lst [.ref a0, .int k', .int m', .int c', .int s'])) :=
  ⟨upd_same, fun b o n e => by rw [upd_ne n]; exact h.2.1 b o n e, h.2.2.1, h.2.2.2⟩
theorem Cells.pool {p a0 : Addr} {ns : List Int} {k m c s : Int} {H0 H : Hp} (h : Cells p a0 ns k m c s H0 H) (l : ns.length ≤ 63) (k0 : 0 ≤ k) (c0 : 0 ≤ c) (s0 : 0 ≤ s) (s1 : s < 1000003) : PoolOk p a0 H :=
  ⟨k, m, c, s, h.1, ⟨ns, l, h.a0⟩, k0, c0, s0, s1⟩
/-! ### a def of the text as it stands -/
def DefAt (K : PySem.W.Frag) (mg : Str → Option Value) (x : Str) (st : Stmt) (ps : List Str) : Prop := ∃ f fd, Fun K x x st f fd ∧ mg x = some (.ref f) ∧ Binds K fd ps []
section
variable {Pr : Program} {w : World} {K : PySem.W.Frag} {mg : Str → Option Value} {base : Heap} {p a0 : Addr}
theorem DefAt.ok {x : Str} {st : Stmt} {N ps : List Str} {k : Nat} {sp : SpD} {T : Tb} {G : Gm} {body : CSs} (A : DefAt K mg x st ps) (S : FnScope N ps (defScope st)) (hc : cB T N st = some body)
    (blts : ∀ y ∈ bltNames, mg y = none) (calls : ∀ y id, (y, id) ∈ T.fn → ∃ sp, G.Φ id = some sp ∧ DefOk Pr w K mg base p a0 y k sp) (glbs : ∀ y id, (y, id) ∈ T.gl → ∃ d, G.Γ id = some d ∧ GlOk K mg p y d)
    (hw : ∀ ds Q, sp ds Q → ds.length = ps.length ∧ wpF G N.length body ds Q) : DefOk Pr w K mg base p a0 x (k + 1) sp := by
  obtain ⟨f, fd, F, m, b⟩ := A
  exact def_ok F m b S hc calls glbs blts hw
theorem DefAt.none {x : Str} {st : Stmt} {ps : List Str} {k : Nat} {sp : SpD} (A : DefAt K mg x st ps) (h : ∀ ds Q, ¬ sp ds Q) : DefOk Pr w K mg base p a0 x k sp := by
  obtain ⟨f, fd, F, m, b⟩ := A
  have no : ∀ vs H Q E, ¬ lift K p a0 sp vs H Q E := fun vs H Q E q => by
    obtain ⟨ds, O, Qd, _, _, _, _, q, _⟩ := q
    exact h ds Qd q
  exact ⟨f, fd, ps, m, F.kp, b, ⟨fun vs H Q E q => absurd q (no vs H Q E), fun A outer s H args us vs Q E _ _ _ _ q => absurd q (no vs H Q E)⟩⟩
theorem DefAt.hand {x : Str} {st : Stmt} {ps : List Str} {k : Nat} {sp : SpD} (A : DefAt K mg x st ps) (h : ∀ {f : Addr} {fd : FuncData}, Fun K x x st f fd → FnOk Pr w K mg base CX0 k f fd ps (lift K p a0 sp)) : DefOk Pr w K mg base p a0 x k sp := by
  obtain ⟨f, fd, F, m, b⟩ := A
  exact ⟨f, fd, ps, m, F.kp, b, h F⟩
end
/-! ### the law -/
def spLaw (K : PySem.W.Frag) : Sp := fun vs H Q _ => ∃ (a : Addr) (ns : List Int), vs = [.ref a] ∧ SqL K H a (ns.map V.int) ∧ ns.length ≤ 63 ∧ ∀ H', Q (.bl true) H'
def tRest (T : Tb) (N : List Str) (sc : Scope) (X : Cx) (body : CSs) : TS := fun D σ H => ∃ P, GdS T P N sc X ∧ tSs P body D σ H
theorem law_rest {T : Tb} {N : List Str} {sc : Scope} {X : Cx} {body : CSs} {rest : List Stmt} (hc : cSL (cS T N 40 sc 40) rest = some body) : PSs X rest (tRest T N sc X body) := ⟨fun pins s σ H D I h => by
  obtain ⟨P, g, h⟩ := h
  exact (cSL_ok (cS_ok 40 g 40) hc).run pins s σ H D I h⟩
section
variable {Pr : Program} {w : World} {K : PySem.W.Frag} {mg : Str → Option Value} {base : Heap}
theorem law_go {T : Tb} {G : Gm} {N : List Str} {sc : Scope} {body : CSs} {k : Nat} {x : Str} {f : Addr} {cdv : Value} {A : Around} {outer : List Env} {s : Shared} {H H' : Hp} {E : XK} {Q : VK} {a p a0 : Addr}
    (hr : Room k (A.deeper (envOfC x sc s.heap.objs.size f cdv))) (nd : N.Nodup) (hk : fnC sc = true) (hn : 2 ≤ N.length)
    (calls : ∀ y id, (y, id) ∈ T.fn → ∃ sp, G.Φ id = some sp ∧ DefOk Pr w K mg base p a0 y k sp) (glbs : ∀ y id, (y, id) ∈ T.gl → ∃ d, G.Γ id = some d ∧ GlOk K mg p y d) (blts : ∀ y ∈ bltNames, mg y = none)
    (pk : PoolOk p a0 H') (hw : wpSs G body { nx := fun _ => False, rt := fun r => r = .v (.bool true) } (.no :: .val poolD :: List.replicate (N.length - 2) .no)) (hq : ∀ H', Q (.bl true) H') :
    tRest T N sc (cxOf CX0 Pr w K mg base N x sc f cdv A outer s H E).nox body { nx := fun _ H' => Q .non H', rt := Q } ((L2.start N [.ref a]).set 1 (some (.ref p))) H' := by
  have hkind : sc.kind = .function := by
    unfold fnC at hk
    split at hk
    · assumption
    · cases hk
  have un := hr.un
  have tr : ∀ b, decide (b = p) = true → ∃ o, H' b = some o := fun b hb => by
    obtain ⟨_, _, _, _, q, _⟩ := pk
    exact ⟨_, by rw [of_decide_eq_true hb]; exact q⟩
  let P : Pm := ⟨K, p, a0, H', fun b => decide (b = p), G, tr, w⟩
  refine ⟨P, ⟨⟨rfl, rfl, rfl, rfl, nd, rfl, ?_, fun y id hy => ?_, fun y id hy => ?_, blts⟩, fun _ => rfl, PassesOwn.never, hkind⟩, [], P.O0, _, _, ?_, hw, ⟨fun _ _ _ _ _ q => False.elim q, fun _ _ _ _ _ q => q, fun _ _ _ _ _ q => q, fun r v H' s1 p1 r1 q => ?_⟩⟩
  · show (A.deeper (envOfC x sc s.heap.objs.size f cdv)).units + 65 < cLine
    omega
  · obtain ⟨sp', q1, f', fd', ps', q2, q3, q4, q5⟩ := calls y id hy
    exact ⟨sp', q1, .inl ⟨f', fd', ps', k, q2, q3, q4, q5, hr⟩⟩
  · obtain ⟨d, q1, u, v, q2, q3, q4⟩ := glbs y id hy
    exact ⟨d, u, v, q1, q2, q3, q4⟩
  · refine ⟨SameP.refl H', pk, pk, by show decide (p = p) = true; simp, tr, fun _ h => h, ?_, fun i u e => ?_, fun i j b es es' e1 _ o1 => ?_, fun g hg => nomatch hg⟩
    · unfold L2.start
      simp
      omega
    · cases i with
      | zero =>
        have e' := Option.some.inj e
        subst e'
        exact trivial
      | succ i =>
        cases i with
        | zero =>
          have e' := Option.some.inj e
          subst e'
          refine ⟨.ref p, ?_, .inl ⟨rfl, rfl⟩⟩
          rw [List.getElem?_set_self]
          unfold L2.start
          simp
          omega
        | succ i =>
          have e1 : (List.replicate (N.length - 2) Sl.no)[i]? = some u := e
          rw [List.getElem?_replicate] at e1
          split at e1
          · cases e1
            exact trivial
          · cases e1
    · exfalso
      cases i with
      | zero => cases e1; cases o1
      | succ i =>
        cases i with
        | zero => cases e1; cases o1
        | succ i =>
          have e2 : (List.replicate (N.length - 2) Sl.no)[i]? = some es := e1
          rw [List.getElem?_replicate] at e2
          split at e2
          · cases e2
            cases o1
          · cases e2
  · subst q
    rw [show v = .bl true from r1]
    exact hq _
end
/-! ### words over data -/
/-- a comprehension: items that pass p, made to g -/
theorem foldC_fm {tst : En → (Bool → Prop) → Prop} {el : En → (R → Prop) → Prop} {tg : CT} {env : En} (p : D → Bool) (g : D → D) : ∀ {items acc : List D} {Q : List D → Prop},
    (∀ d ∈ items, ∀ (Qt : R → Prop) (Qf : Prop), (p d = true → Qt (.v (g d))) → (p d = false → Qf) → tgD tg d env fun e => tst e fun b => if b = true then el e Qt else Qf) →
    acc.length + items.length ≤ sizeLine → Q (acc ++ (items.filter p).map g) → foldC tst el tg env items acc Q
  | [], acc, Q, _, _, q => by
    rw [List.filter_nil, List.map_nil, List.append_nil] at q
    exact q
  | d :: ds, acc, Q, h, l, q => by
    rw [List.length_cons] at l
    refine h d List.mem_cons_self _ _ (fun e => ?_) (fun e => ?_)
    · refine ⟨by omega, foldC_fm p g (fun x hx => h x (List.mem_cons_of_mem _ hx)) (by rw [List.length_append, List.length_singleton]; omega) ?_⟩
      rw [List.filter_cons, if_pos e, List.map_cons] at q
      rw [List.append_assoc]
      exact q
    · refine foldC_fm p g (fun x hx => h x (List.mem_cons_of_mem _ hx)) (by omega) ?_
      rw [List.filter_cons, if_neg (by rw [e]; decide)] at q
      exact q
theorem foldC_map {tst : En → (Bool → Prop) → Prop} {el : En → (R → Prop) → Prop} {tg : CT} {env : En} (g : D → D) {items : List D} {Q : List D → Prop}
    (h : ∀ d ∈ items, ∀ (Qt : R → Prop) (Qf : Prop), Qt (.v (g d)) → tgD tg d env fun e => tst e fun b => if b = true then el e Qt else Qf) (l : items.length ≤ sizeLine) (q : Q (items.map g)) : foldC tst el tg env items [] Q := by
  refine foldC_fm (fun _ => true) g (fun d hd Qt Qf h1 _ => h d hd Qt Qf (h1 rfl)) (by simpa using l) ?_
  rw [List.nil_append, List.filter_eq_self.mpr fun _ _ => rfl]
  exact q
theorem foldC_none {tst : En → (Bool → Prop) → Prop} {el : En → (R → Prop) → Prop} {tg : CT} {env : En} {items : List D} {Q : List D → Prop} (h : ∀ d ∈ items, ∀ (Qt : R → Prop) (Qf : Prop), Qf → tgD tg d env fun e => tst e fun b => if b = true then el e Qt else Qf)
    (l : items.length ≤ sizeLine) (q : Q []) : foldC tst el tg env items [] Q := by
  refine foldC_fm (fun _ => false) id (fun d hd Qt Qf _ h2 => h d hd Qt Qf (h2 rfl)) (by simpa using l) ?_
  rw [List.filter_eq_nil_iff.mpr fun _ _ => by decide]
  exact q
/-- a for by what holds between the turns -/
theorem foldF_inv {body : DE → En → Prop} {tg : CT} {D0 : DE} (I : Nat → En → Prop) : ∀ {items : List D} {env : En} (n : Nat), I n env →
    (∀ k d env, items[k]? = some d → I (n + k) env → tgD tg d env fun e => ∀ N : En → Prop, (∀ e', I (n + k + 1) e' → N e') → body { D0 with nx := N, ct := N, bk := D0.nx } e) → (∀ env, I (n + items.length) env → D0.nx env) → foldF body tg D0 items env
  | [], env, n, h, _, q => q env h
  | d :: ds, env, n, h, st, q => by
    unfold foldF
    have h1 := st 0 d env rfl h
    have mono : ∀ {A B : En → Prop}, (∀ e, A e → B e) → tgD tg d env A → tgD tg d env B := fun {A B} ab t => by
      cases tg with
      | nm i => exact ab _ t
      | tp is =>
        unfold tgD at t ⊢
        simp only at t ⊢
        split at t
        · split at t
          · exact ab _ t
          · exact t
        · exact t
    refine mono (fun e t => t _ fun e' i => ?_) h1
    exact foldF_inv I (n + 1) i (fun k x env' hk hi => by
      have q2 := st (k + 1) x env' (by simpa using hk) (by rw [show n + (k + 1) = n + 1 + k by omega]; exact hi)
      rw [show n + (k + 1) + 1 = n + 1 + k + 1 by omega] at q2
      exact q2) fun env' hi => q env' (by rw [List.length_cons, show n + (ds.length + 1) = n + 1 + ds.length by omega]; exact hi)
end DL
namespace DL
open PySem PySem.Spec PyProof.Rows L2
/-! ### lists of facts -/
theorem calls_nil {C : Str → Nat → Prop} : ∀ y id, (y, id) ∈ ([] : List (Str × Nat)) → C y id := fun _ _ h => nomatch h
theorem calls_cons {C : Str → Nat → Prop} {x : Str} {k : Nat} {l : List (Str × Nat)} (h : C x k) (r : ∀ y id, (y, id) ∈ l → C y id) : ∀ y id, (y, id) ∈ (x, k) :: l → C y id := fun y id m => by
  rcases List.mem_cons.mp m with e | m
  · cases e
    exact h
  · exact r y id m
theorem blt_all {mg : Str → Option Value} (h1 : mg "len" = none) (h2 : mg "int" = none) (h3 : mg "tuple" = none) (h4 : mg "list" = none) (h5 : mg "sum" = none) (h6 : mg "all" = none) (h7 : mg "any" = none) (h8 : mg "isinstance" = none) (h9 : mg "bool" = none) (h10 : mg "str" = none) (h11 : mg "dict" = none) (h12 : mg "range" = none) (h13 : mg "sorted" = none) (h14 : mg "repr" = none) :
    ∀ y ∈ bltNames, mg y = none := by
  intro y h
  unfold bltNames at h
  rcases List.mem_cons.mp h with rfl | h
  · exact h1
  rcases List.mem_cons.mp h with rfl | h
  · exact h2
  rcases List.mem_cons.mp h with rfl | h
  · exact h3
  rcases List.mem_cons.mp h with rfl | h
  · exact h4
  rcases List.mem_cons.mp h with rfl | h
  · exact h5
  rcases List.mem_cons.mp h with rfl | h
  · exact h6
  rcases List.mem_cons.mp h with rfl | h
  · exact h7
  rcases List.mem_cons.mp h with rfl | h
  · exact h8
  rcases List.mem_cons.mp h with rfl | h
  · exact h9
  rcases List.mem_cons.mp h with rfl | h
  · exact h10
  rcases List.mem_cons.mp h with rfl | h
  · exact h11
  rcases List.mem_cons.mp h with rfl | h
  · exact h12
  rcases List.mem_cons.mp h with rfl | h
  · exact h13
  rcases List.mem_cons.mp h with rfl | h
  · exact h14
  · cases h
/-- a def as the top has left it -/
theorem defAt_mk {K : PySem.W.Frag} {h : Heap} {mg : Str → Option Value} {x : Str} {st : Stmt} {ps : List Str} {f : Addr} {od an : Option Addr} {sl : Array (Option Value)} {oc kV dc pm cd ct : Value} (X : K.In h) (G : h.Ns mainGlobals mg)
    (a : PySem.W.nsIn K mainGlobals x = some (some (.ref f))) (l : K.lookup f = some ⟨oc, od, .func (PySem.W.fnOf x x (defArgs st) (defBody st) (defScope st) .none kV dc pm an cd ct), sl⟩) (c : PySem.W.codeIn K cd x = true) (k : PySem.W.keepIn K (.ref f) = true)
    (hb : ∀ (kV doc pm : Value) (an : Option Addr) (cdv ct : Value) (us : List Value), us.length = ps.length → bindArgs (PySem.W.fnOf x x (defArgs st) (defBody st) (defScope st) .none kV doc pm an cdv ct) ⟨us, []⟩ = pure (ps.zip us)) : DefAt K mg x st ps :=
  ⟨f, _, fun_mk l c k, PySem.W.mg_of X G a, (fun_mk l c k).binds hb⟩
/-- a constant tuple of one text -/
theorem glOk_t1 {K : PySem.W.Frag} {h : Heap} {mg : Str → Option Value} {x s : Str} {p a : Addr} {tk : Tok} {n : Nat} {sl : Array (Option Value)} (X : K.In h) (G : h.Ns mainGlobals mg) (ha : PySem.W.nsIn K mainGlobals x = some (some (.ref a)))
    (l : K.lookup a = some ⟨.type "tuple", none, .seq #[.str s tk] n, sl⟩) : GlOk K mg p x (.tuple [.str s]) :=
  ⟨.ref a, .ref a, PySem.W.mg_of X G ha, rfl, fun H => ⟨a, [.str s], rfl, ⟨.inr ⟨_, #[.str s tk], n, l, rfl, rfl, (by show 1 ≤ sizeLine; decide), .cons ⟨tk, rfl⟩ .nil⟩, .inr ⟨_, l, rfl⟩⟩, .str s, [], rfl, rfl, rfl⟩⟩
end DL

/-! FM: formulas as plain Lean. -/
namespace DL
open PySem PySem.Spec PyProof.Rows L2
inductive Fm where
  | all | none
  | name (s : Str)
  | not (a : Fm)
  | both (a b : Fm)
  | either (a b : Fm)
  deriving DecidableEq
def Fm.d : Fm → D
  | .all => .tuple [.str "all"]
  | .none => .tuple [.str "none"]
  | .name s => .tuple [.str "name", .str s]
  | .not a => .tuple [.str "not", a.d]
  | .both a b => .tuple [.str "both", a.d, b.d]
  | .either a b => .tuple [.str "either", a.d, b.d]
def Fm.dep : Fm → Nat
  | .not a => a.dep + 1
  | .both a b => max a.dep b.dep + 1
  | .either a b => max a.dep b.dep + 1
  | _ => 0
mutual
def Fm.push : Fm → Fm
  | .all => .all
  | .none => .none
  | .name s => .name s
  | .not a => a.opp
  | .both a b => .both a.push b.push
  | .either a b => .either a.push b.push
def Fm.opp : Fm → Fm
  | .all => .none
  | .none => .all
  | .name s => .not (.name s)
  | .not a => a.push
  | .both a b => .either a.opp b.opp
  | .either a b => .both a.opp b.opp
end
def putF (w : Str) (o : Fm) : Fm → Fm
  | .all => .all
  | .none => .none
  | .name s => if s = w then o else .name s
  | .not a => .not (putF w o a)
  | .both a b => .both (putF w o a) (putF w o b)
  | .either a b => .either (putF w o a) (putF w o b)
theorem Fm.dep_push : ∀ f : Fm, f.push.dep ≤ f.dep ∧ f.opp.dep ≤ f.dep + 1
  | .all => ⟨Nat.le_refl _, by simp [Fm.opp, Fm.dep]⟩
  | .none => ⟨Nat.le_refl _, by simp [Fm.opp, Fm.dep]⟩
  | .name s => ⟨Nat.le_refl _, by simp [Fm.opp, Fm.dep]⟩
  | .not a => by
    have h := Fm.dep_push a
    simp only [Fm.push, Fm.opp, Fm.dep]
    omega
  | .both a b => by
    have h := Fm.dep_push a
    have h' := Fm.dep_push b
    simp only [Fm.push, Fm.opp, Fm.dep]
    omega
  | .either a b => by
    have h := Fm.dep_push a
    have h' := Fm.dep_push b
    simp only [Fm.push, Fm.opp, Fm.dep]
    omega
theorem Fm.push_push : ∀ f : Fm, f.push.push = f.push ∧ f.push.opp = f.opp ∧ f.opp.push = f.opp ∧ f.opp.opp = f.push
  | .all => ⟨rfl, rfl, rfl, rfl⟩
  | .none => ⟨rfl, rfl, rfl, rfl⟩
  | .name s => ⟨rfl, rfl, rfl, rfl⟩
  | .not a => by
    obtain ⟨h1, h2, h3, h4⟩ := Fm.push_push a
    exact ⟨h3, h4, h1, h2⟩
  | .both a b => by
    obtain ⟨h1, h2, h3, h4⟩ := Fm.push_push a
    obtain ⟨g1, g2, g3, g4⟩ := Fm.push_push b
    simp only [Fm.push, Fm.opp, h1, h2, h3, h4, g1, g2, g3, g4, and_self]
  | .either a b => by
    obtain ⟨h1, h2, h3, h4⟩ := Fm.push_push a
    obtain ⟨g1, g2, g3, g4⟩ := Fm.push_push b
    simp only [Fm.push, Fm.opp, h1, h2, h3, h4, g1, g2, g3, g4, and_self]
theorem dep_putF (w : Str) (o : Fm) : ∀ f : Fm, (putF w o f).dep ≤ f.dep + o.dep
  | .all => by simp [putF, Fm.dep]
  | .none => by simp [putF, Fm.dep]
  | .name s => by
    unfold putF
    split
    · omega
    · simp [Fm.dep]
  | .not a => by
    have h := dep_putF w o a
    simp only [putF, Fm.dep]
    omega
  | .both a b => by
    have h := dep_putF w o a
    have h' := dep_putF w o b
    simp only [putF, Fm.dep]
    omega
  | .either a b => by
    have h := dep_putF w o a
    have h' := dep_putF w o b
    simp only [putF, Fm.dep]
    omega
end DL

/-! FN: promises of the laws' helpers and of the program's small defs, over data. -/
namespace DL
open PySem L2
/-! ### data -/
mutual
def okD : D → Bool
  | .list ds => decide (ds.length ≤ 1000000) && okDs ds
  | .tuple ds => decide (ds.length ≤ 1000000) && okDs ds
  | .dict _ => false
  | .none => true
  | .bool _ => true
  | .int _ => true
  | .str _ => true
def okDs : List D → Bool
  | [] => true
  | d :: ds => okD d && okDs ds
end
mutual
def depD : D → Nat
  | .list ds => depDs ds + 1
  | .tuple ds => depDs ds + 1
  | _ => 0
def depDs : List D → Nat
  | [] => 0
  | d :: ds => max (depD d) (depDs ds)
end
theorem okDs_get : ∀ {ds : List D} {i : Nat} {d : D}, okDs ds = true → ds[i]? = some d → okD d = true
  | [], _, _, _, h => by simp at h
  | x :: ds, 0, d, h, e => by
    rw [okDs, Bool.and_eq_true] at h
    rw [← Option.some.inj e]
    exact h.1
  | x :: ds, i + 1, d, h, e => by
    rw [okDs, Bool.and_eq_true] at h
    exact okDs_get h.2 (by simpa using e)
theorem depDs_get : ∀ {ds : List D} {i : Nat} {d : D}, ds[i]? = some d → depD d ≤ depDs ds
  | [], _, _, h => by simp at h
  | x :: ds, 0, d, e => by
    rw [← Option.some.inj e, depDs]
    exact Nat.le_max_left _ _
  | x :: ds, i + 1, d, e => by
    have h := depDs_get (ds := ds) (i := i) (d := d) (by simpa using e)
    rw [depDs]
    exact Nat.le_trans h (Nat.le_max_right _ _)
theorem atI_ix {ds : List D} {k : Nat} (h : k < ds.length) : atI ds (k : Int) = some ds[k] := atI_nat (List.getElem?_eq_getElem h)
theorem atI_in {ds : List D} {r : Int} (h0 : 0 ≤ r) (h1 : r < ds.length) : ∃ d, atI ds r = some d ∧ d ∈ ds := by
  have e : r = ((r.toNat : Nat) : Int) := by omega
  have l : r.toNat < ds.length := by omega
  have q : atI ds ((r.toNat : Nat) : Int) = some ds[r.toNat] := atI_nat (List.getElem?_eq_getElem l)
  rw [← e] at q
  exact ⟨_, q, List.getElem_mem l⟩
theorem rngD_mem {n : Nat} {d : D} (h : d ∈ rngD 0 n) : ∃ k : Nat, k < n ∧ d = .int (k : Int) := by
  unfold rngD at h
  rw [List.mem_map] at h
  obtain ⟨k, h1, h2⟩ := h
  exact ⟨k, List.mem_range.mp h1, by rw [← h2, Int.zero_add]⟩
/-! ### what is kept -/
def spPush (n : Nat) : SpD := fun ds Q => ∃ f : Fm, ds = [f.d] ∧ f.dep < n ∧ Q (.v f.push.d)
def spOpp (n : Nat) : SpD := fun ds Q => ∃ f : Fm, ds = [f.d] ∧ f.dep < n ∧ Q (.v f.opp.d)
def spPut (n : Nat) : SpD := fun ds Q => ∃ (f o : Fm) (w : Str), ds = [f.d, .str w, o.d] ∧ f.dep < n ∧ Q (.v (putF w o f).d)
def spPick : SpD := fun ds Q => ∃ items : List D, ds = [poolD, .list items] ∧ 1 ≤ items.length ∧ items.length < 1000000 ∧ ∀ d ∈ items, Q (.v d)
def Fm.nms : Fm → List Str
  | .name s => [s]
  | .not a => a.nms
  | .both a b => a.nms ++ b.nms
  | .either a b => a.nms ++ b.nms
  | _ => []
def spForm (n : Nat) : SpD := fun ds Q => ∃ (names : List Str) (deep : Nat), ds = [poolD, .list (names.map .str), .int deep] ∧ 1 ≤ names.length ∧ names.length < 1000000 ∧ deep < n ∧ ∀ f : Fm, f.dep ≤ deep → (∀ s ∈ f.nms, s ∈ names) → Q (.v f.d)
def spLPush (n : Nat) : SpD := fun ds Q => ∃ (f : Fm) (t : Bool), ds = [f.d, .bool t] ∧ f.dep < n ∧ Q (.v (if t then f.opp else f.push).d)
def spSame (n : Nat) : SpD := fun ds Q => ∃ d : D, ds = [d, d] ∧ okD d = true ∧ depD d < n ∧ Q (.v (.bool true))
theorem okD_fm : ∀ f : Fm, okD f.d = true
  | .all => by simp [Fm.d, okD, okDs]
  | .none => by simp [Fm.d, okD, okDs]
  | .name s => by simp [Fm.d, okD, okDs]
  | .not a => by simp [Fm.d, okD, okDs, okD_fm a]
  | .both a b => by simp [Fm.d, okD, okDs, okD_fm a, okD_fm b]
  | .either a b => by simp [Fm.d, okD, okDs, okD_fm a, okD_fm b]
theorem depD_fm : ∀ f : Fm, depD f.d = f.dep + 1
  | .all => by simp [Fm.d, depD, depDs, Fm.dep]
  | .none => by simp [Fm.d, depD, depDs, Fm.dep]
  | .name s => by simp [Fm.d, depD, depDs, Fm.dep]
  | .not a => by simp [Fm.d, depD, depDs, Fm.dep, depD_fm a]
  | .both a b => by
    simp [Fm.d, depD, depDs, Fm.dep, depD_fm a, depD_fm b] <;> omega
  | .either a b => by
    simp [Fm.d, depD, depDs, Fm.dep, depD_fm a, depD_fm b] <;> omega
end DL

/-! TD: any data that a law may hand to the program; what is a word, a formula. -/
namespace DL
open PySem L2
mutual
def tdD : D → Bool
  | .list ds => decide (ds.length ≤ 100000) && tdDs ds
  | .tuple ds => decide (ds.length ≤ 100000) && tdDs ds
  | .dict kvs => kvs.isEmpty
  | .str s => decide (s.length ≤ 100000)
  | .none => true
  | .bool _ => true
  | .int _ => true
def tdDs : List D → Bool
  | [] => true
  | d :: ds => tdD d && tdDs ds
end
theorem tdDs_mem : ∀ {ds : List D}, tdDs ds = true ↔ ∀ d ∈ ds, tdD d = true
  | [] => ⟨fun _ d h => (nomatch h), fun _ => by simp only [tdDs]⟩
  | d :: ds => by
    rw [tdDs, Bool.and_eq_true, tdDs_mem]
    simp
theorem td_noDic {d : D} (h : tdD d = true) : noDic d = true := by
  cases d with
  | dict kvs =>
    cases kvs with
    | nil => rfl
    | cons a b => simp [tdD] at h
  | _ => rfl
theorem td_list {ds : List D} (h : tdD (.list ds) = true) : ds.length ≤ 100000 ∧ ∀ d ∈ ds, tdD d = true := by
  rw [tdD, Bool.and_eq_true, decide_eq_true_eq, tdDs_mem] at h
  exact h
theorem td_tup {ds : List D} (h : tdD (.tuple ds) = true) : ds.length ≤ 100000 ∧ ∀ d ∈ ds, tdD d = true := by
  rw [tdD, Bool.and_eq_true, decide_eq_true_eq, tdDs_mem] at h
  exact h
theorem td_str {s : Str} (h : tdD (.str s) = true) : s.length ≤ 100000 := by
  rw [tdD, decide_eq_true_eq] at h
  exact h
/-! ### words, formulas -/
def takenL : List Str := ["all", "and", "below", "none", "not", "or"]
def letterB (c : Nat) : Bool := decide (97 ≤ c) && decide (c ≤ 122)
def isW (s : Str) : Bool := !takenL.contains s && (decide (1 ≤ s.length) && decide (s.length ≤ 12)) && s.cps.toList.all letterB
def isWD : D → Bool
  | .str s => isW s
  | _ => false
def isFm : Nat → D → Bool
  | 0, _ => false
  | n + 1, .tuple (.str w :: r) =>
    if w = "all" ∨ w = "none" then r.isEmpty
    else if w = "name" then (match r with | [x] => isWD x | _ => false)
    else if w = "not" then (match r with | [x] => isFm n x | _ => false)
    else if w = "both" ∨ w = "either" then (match r with | [x, y] => isFm n x && isFm n y | _ => false)
    else false
  | _, _ => false
theorem letter_in (c : Nat) : decide (c ∈ ("abcdefghijklmnopqrstuvwxyz" : Str).cps.toList) = letterB c := by
  have e : ("abcdefghijklmnopqrstuvwxyz" : Str).cps.toList = (List.range 26).map (97 + ·) := by decide +kernel
  rw [e]
  unfold letterB
  rw [Bool.eq_iff_iff]
  simp only [decide_eq_true_eq, Bool.and_eq_true, List.mem_map, List.mem_range]
  constructor
  · rintro ⟨k, h1, h2⟩
    omega
  · rintro ⟨h1, h2⟩
    exact ⟨c - 97, by omega, by omega⟩
theorem letter_lt (c : Nat) : (decide (([c] : List Nat) < ("a" : Str).cps.toList) || decide (("z" : Str).cps.toList < [c])) = !letterB c := by
  have e1 : ("a" : Str).cps.toList = [97] := by decide +kernel
  have e2 : ("z" : Str).cps.toList = [122] := by decide +kernel
  rw [e1, e2]
  unfold letterB
  have l : ∀ a b : Nat, decide (([a] : List Nat) < [b]) = decide (a < b) := fun a b => by
    rw [decide_eq_decide]
    constructor
    · intro h
      cases h with
      | rel h => exact h
      | cons h => cases h
    · exact fun h => .rel h
  rw [l, l, Bool.eq_iff_iff]
  simp only [Bool.or_eq_true, Bool.not_eq_true', Bool.and_eq_false_iff, decide_eq_true_eq, decide_eq_false_iff_not]
  omega
/-! ### promises -/
def spIsW : SpD := fun ds Q => ∃ d : D, ds = [d] ∧ tdD d = true ∧ Q (.v (.bool (isWD d)))
def spIsFm (m : Nat) : SpD := fun ds Q => ∃ (n : Nat) (d : D), ds = [d, .int ((n : Int) - 1)] ∧ n < m ∧ tdD d = true ∧ Q (.v (.bool (isFm n d)))
end DL

/-! RM: rooms as plain Lean. -/
namespace DL
open PySem PySem.Spec PyProof.Rows L2
/-! ### more about comprehensions -/
theorem foldC_rel {tst : En → (Bool → Prop) → Prop} {el : En → (R → Prop) → Prop} {tg : CT} {env : En} (I : Nat → List D → Prop) : ∀ {items acc : List D} (n : Nat) {Q : List D → Prop}, I n acc → acc.length + items.length ≤ sizeLine →
    (∀ k d acc, items[k]? = some d → I (n + k) acc → ∀ (Qt : R → Prop) (Qf : Prop), (∀ r y, r.esc = some y → I (n + k + 1) (acc ++ [y]) → Qt r) → (I (n + k + 1) acc → Qf) → tgD tg d env fun e => tst e fun b => if b = true then el e Qt else Qf) →
    (∀ acc, I (n + items.length) acc → Q acc) → foldC tst el tg env items acc Q
  | [], acc, n, Q, i, _, _, q => q acc i
  | d :: ds, acc, n, Q, i, l, h, q => by
    rw [List.length_cons] at l
    have next : ∀ acc' : List D, acc'.length ≤ acc.length + 1 → I (n + 1) acc' → foldC tst el tg env ds acc' Q := fun acc' la i' => by
      refine foldC_rel I (n + 1) i' (by omega) (fun k d' a e i2 Qt Qf h1 h2 => ?_) (fun a ia => q a (by rw [List.length_cons, show n + (ds.length + 1) = n + 1 + ds.length by omega]; exact ia))
      have e1 : n + 1 + k = n + (k + 1) := by omega
      rw [e1] at i2 h1 h2
      exact h (k + 1) d' a (by simpa using e) i2 Qt Qf h1 h2
    refine h 0 d acc rfl i _ _ (fun r y er i' => ?_) (fun i' => next acc (by omega) i')
    rw [er]
    exact ⟨by omega, next _ (by simp) i'⟩
/-- whatever passes: a part of the items, in their order -/
theorem foldC_sub {tst : En → (Bool → Prop) → Prop} {el : En → (R → Prop) → Prop} {tg : CT} {env : En} (f : D → D) : ∀ {items acc : List D} {Q : List D → Prop},
    (∀ d ∈ items, ∀ (Qt : R → Prop) (Qf : Prop), Qt (.v (f d)) → Qf → tgD tg d env fun e => tst e fun b => if b = true then el e Qt else Qf) →
    acc.length + items.length ≤ sizeLine → (∀ sub : List D, sub.Sublist items → Q (acc ++ sub.map f)) → foldC tst el tg env items acc Q
  | [], acc, Q, _, _, q => by
    have h := q [] (List.Sublist.refl _)
    rw [List.map_nil, List.append_nil] at h
    exact h
  | d :: ds, acc, Q, h, l, q => by
    rw [List.length_cons] at l
    refine h d List.mem_cons_self _ _ ?_ ?_
    · refine ⟨by omega, foldC_sub f (fun x hx => h x (List.mem_cons_of_mem _ hx)) (by rw [List.length_append, List.length_singleton]; omega) fun sub hs => ?_⟩
      have q' := q (d :: sub) (hs.cons_cons d)
      rw [List.append_assoc]
      exact q'
    · exact foldC_sub f (fun x hx => h x (List.mem_cons_of_mem _ hx)) (by omega) fun sub hs => q sub (hs.cons d)
/-! ### numbers as data -/
def natD (l : List Nat) : List D := l.map fun (k : Nat) => PyData.int (k : Int)
theorem natD_length {l : List Nat} : (natD l).length = l.length := by unfold natD; rw [List.length_map]
theorem rngD_nat (n : Nat) : rngD 0 n = natD (List.range n) := by
  unfold rngD natD
  refine List.map_congr_left fun k _ => ?_
  rw [Int.zero_add]
theorem natD_mem {l : List Nat} {d : D} (h : d ∈ natD l) : ∃ k ∈ l, d = .int (k : Int) := by
  unfold natD at h
  rw [List.mem_map] at h
  obtain ⟨k, h1, h2⟩ := h
  exact ⟨k, h1, h2.symm⟩
theorem natD_flat : ∀ l : List Nat, (natD l).all flatD = true
  | [] => rfl
  | k :: l => by
    show (flatD _ && (natD l).all flatD) = true
    rw [natD_flat l]
    rfl
theorem inV_nat (k : Nat) : ∀ l : List Nat, inV (V.int (k : Int)) ((natD l).map toV) = decide (k ∈ l)
  | [] => rfl
  | a :: l => by
    have ih := inV_nat k l
    unfold inV at ih
    show (((a : Int) == (k : Int)) || ((natD l).map toV).any fun y => eqV y (V.int (k : Int))) = _
    rw [ih]
    by_cases e : a = k
    · subst e
      simp
    · have e' : k ≠ a := fun z => e z.symm
      have e2 : ((a : Int) == (k : Int)) = false := by
        rw [beq_eq_false_iff_ne]
        omega
      rw [e2]
      simp [e']
theorem okDs_nat : ∀ l : List Nat, okDs (natD l) = true
  | [] => rfl
  | k :: l => by
    show (okD (.int (k : Int)) && okDs (natD l)) = true
    rw [okDs_nat l]
    rfl
theorem depDs_nat : ∀ l : List Nat, depDs (natD l) = 0
  | [] => rfl
  | k :: l => by
    show max (depD (.int (k : Int))) (depDs (natD l)) = 0
    rw [depDs_nat l]
    rfl
theorem intsD_nat : ∀ l : List Nat, intsD (natD l) = some (l.map fun (k : Nat) => (k : Int))
  | [] => rfl
  | k :: l => by
    show (intsD (natD l)).map (((k : Nat) : Int) :: ·) = _
    rw [intsD_nat l]
    rfl
theorem eqvAll_nat : ∀ a b : List Nat, PyData.eqvAll (natD a) (natD b) = decide (a = b)
  | [], [] => rfl
  | [], _ :: _ => rfl
  | _ :: _, [] => rfl
  | x :: a, y :: b => by
    show (((x : Int) == (y : Int)) && PyData.eqvAll (natD a) (natD b)) = _
    rw [eqvAll_nat a b]
    by_cases e : x = y
    · subst e
      simp
    · have e2 : ((x : Int) == (y : Int)) = false := by
        rw [beq_eq_false_iff_ne]
        omega
      rw [e2]
      simp [e]
theorem canLay_nat : ∀ l : List Nat, PyData.canLayAll0 (natD l) = true
  | [] => by simp only [natD, List.map_nil, PyData.canLayAll0]
  | k :: l => by
    have e : natD (k :: l) = PyData.int (k : Int) :: natD l := rfl
    rw [e, PyData.canLayAll0, canLay_nat l]
    simp only [PyData.canLay0, Bool.and_self]
theorem depth_nat : ∀ l : List Nat, PyData.depthAll (natD l) = 0
  | [] => by simp only [natD, List.map_nil, PyData.depthAll]
  | k :: l => by
    have e : natD (k :: l) = PyData.int (k : Int) :: natD l := rfl
    rw [e, PyData.depthAll, depth_nat l]
    simp only [PyData.depth, Nat.max_self]
theorem shaped_nat (l : List Nat) : SeqAt.shaped (.list (natD l)) = true := by
  unfold SeqAt.shaped
  rw [PyData.canLay0, canLay_nat l, PyData.depth, depth_nat l]
  rfl
/-! ### points -/
def tblD (A : Nat → Nat → Bool) (n : Nat) : List D := (List.range n).map fun i => .list ((List.range n).map fun j => .bool (A i j))
theorem tblD_length {A : Nat → Nat → Bool} {n : Nat} : (tblD A n).length = n := by unfold tblD; rw [List.length_map, List.length_range]
theorem tblD_at {A : Nat → Nat → Bool} {n i : Nat} (h : i < n) : atI (tblD A n) (i : Int) = some (.list ((List.range n).map fun j => .bool (A i j))) := by
  refine atI_nat ?_
  unfold tblD
  rw [List.getElem?_map, List.getElem?_range h]
  rfl
theorem row_at {A : Nat → Nat → Bool} {n i j : Nat} (h : j < n) : atI ((List.range n).map fun j => PyData.bool (A i j)) (j : Int) = some (.bool (A i j)) := by
  refine atI_nat ?_
  rw [List.getElem?_map, List.getElem?_range h]
  rfl
def oppN (A : Nat → Nat → Bool) (n : Nat) (pts : List Nat) : List Nat := (List.range n).filter fun k => pts.all fun p => A k p
theorem oppN_lt {A : Nat → Nat → Bool} {n : Nat} {pts : List Nat} : ∀ k ∈ oppN A n pts, k < n := fun k h => by
  unfold oppN at h
  rw [List.mem_filter, List.mem_range] at h
  exact h.1
theorem mem_oppN {A : Nat → Nat → Bool} {n k : Nat} {pts : List Nat} : k ∈ oppN A n pts ↔ k < n ∧ ∀ p ∈ pts, A k p = true := by
  unfold oppN
  rw [List.mem_filter, List.mem_range, List.all_eq_true]
theorem oppN_up {A : Nat → Nat → Bool} {n : Nat} {pts : List Nat} : (oppN A n pts).Pairwise (· < ·) := by
  unfold oppN
  exact List.pairwise_lt_range.filter _
theorem oppN_length {A : Nat → Nat → Bool} {n : Nat} {pts : List Nat} : (oppN A n pts).length ≤ n := by
  unfold oppN
  exact Nat.le_trans (List.length_filter_le _ _) (by rw [List.length_range]; exact Nat.le_refl n)
/-- pts lies in the closure -/
theorem sub_close {A : Nat → Nat → Bool} {n : Nat} {pts : List Nat} (sy : ∀ i j, A i j = A j i) (h : ∀ p ∈ pts, p < n) : ∀ p ∈ pts, p ∈ oppN A n (oppN A n pts) := fun p hp => by
  rw [mem_oppN]
  refine ⟨h p hp, fun q hq => ?_⟩
  rw [mem_oppN] at hq
  rw [sy]
  exact hq.2 p hp
theorem opp3 {A : Nat → Nat → Bool} {n : Nat} {pts : List Nat} (sy : ∀ i j, A i j = A j i) (h : ∀ p ∈ pts, p < n) : oppN A n (oppN A n (oppN A n pts)) = oppN A n pts := by
  have e : oppN A n (oppN A n (oppN A n pts)) = (List.range n).filter fun k => (oppN A n (oppN A n pts)).all fun p => A k p := rfl
  rw [e]
  show _ = (List.range n).filter fun k => pts.all fun p => A k p
  refine List.filter_congr fun k hk => ?_
  rw [Bool.eq_iff_iff, List.all_eq_true, List.all_eq_true]
  refine ⟨fun q p hp => q p (sub_close sy h p hp), fun q p hp => ?_⟩
  rw [mem_oppN] at hp
  rw [sy]
  exact hp.2 k (mem_oppN.mpr ⟨List.mem_range.mp hk, q⟩)
/-- sorting what ascends -/
theorem sorted_up {l : List Nat} {ms : List Int} (u : l.Pairwise (· ≤ ·)) (p : ms.Perm (l.map fun (k : Nat) => (k : Int))) (s : ms.Pairwise (· ≤ ·)) : ms.map PyData.int = natD l := by
  have e : ms = l.map fun (k : Nat) => (k : Int) := by
    refine List.Perm.eq_of_pairwise (le := (· ≤ ·)) (fun a b _ _ h1 h2 => Int.le_antisymm h1 h2) s ?_ p
    rw [List.pairwise_map]
    exact u.imp fun h => by omega
  rw [e]
  unfold natD
  rw [List.map_map]
  rfl
/-! ### rooms -/
def prsD (ps : List (Nat × Nat)) : List D := ps.map fun p => .tuple [.int (p.1 : Int), .int (p.2 : Int)]
def apart (ps : List (Nat × Nat)) (i j : Nat) : Bool := ps.any fun p => (p.1 == i && p.2 == j) || (p.1 == j && p.2 == i)
theorem apart_sy (ps : List (Nat × Nat)) (i j : Nat) : apart ps i j = apart ps j i := by
  unfold apart
  congr 1
  funext p
  rw [Bool.or_comm]
def valD (vs : List (Str × List Nat)) : List D := vs.map fun v => .tuple [.str v.1, .tuple (natD v.2)]
def roomD (n : Nat) (ps : List (Nat × Nat)) (vs : List (Str × List Nat)) : D := .tuple [.int (n : Int), .tuple (prsD ps), .tuple (valD vs)]
structure RoomOk (names : List Str) (most n : Nat) (ps : List (Nat × Nat)) (vs : List (Str × List Nat)) : Prop where
  pos : 1 ≤ n
  le : n ≤ most
  prs : ∀ p ∈ ps, p.1 < p.2 ∧ p.2 < n
  up : ps.Pairwise fun p q => p.1 < q.1 ∨ (p.1 = q.1 ∧ p.2 < q.2)
  nms : (vs.map Prod.fst).Sublist names
  cl : ∀ v ∈ vs, ∃ some : List Nat, (∀ k ∈ some, k < n) ∧ v.2 = oppN (apart ps) n (oppN (apart ps) n some)
/-! ### promises -/
/-- a table of a room's pairs -/
def spTable : SpD := fun ds Q => ∃ (n : Nat) (ps : List (Nat × Nat)) (pd v : D), ds = [.tuple [.int (n : Int), pd, v]] ∧ (pd = .list (prsD ps) ∨ pd = .tuple (prsD ps)) ∧ n ≤ 600 ∧ (∀ p ∈ ps, p.1 < n ∧ p.2 < n) ∧ Q (.nw (tblD (apart ps) n))
def spOppT : SpD := fun ds Q => ∃ (A : Nat → Nat → Bool) (n : Nat) (pts : List Nat) (pd : D), ds = [.list (tblD A n), pd] ∧ (pd = .list (natD pts) ∨ pd = .tuple (natD pts)) ∧ n ≤ 600 ∧ pts.length ≤ 1000000 ∧ (∀ p ∈ pts, p < n) ∧ Q (.nw (natD (oppN A n pts)))
/-- what the room's pairs and points must be for opposite_of and its kin -/
def RmArg (r : D) (n : Nat) (ps : List (Nat × Nat)) : Prop := ∃ pd v, r = .tuple [.int (n : Int), pd, v] ∧ (pd = .list (prsD ps) ∨ pd = .tuple (prsD ps)) ∧ n ≤ 600 ∧ ∀ p ∈ ps, p.1 < n ∧ p.2 < n
def PtArg (d : D) (n : Nat) (pts : List Nat) : Prop := (d = .list (natD pts) ∨ d = .tuple (natD pts)) ∧ pts.length ≤ 1000000 ∧ ∀ p ∈ pts, p < n
def spOpOf : SpD := fun ds Q => ∃ (r d : D) (n : Nat) (ps : List (Nat × Nat)) (pts : List Nat), ds = [r, d] ∧ RmArg r n ps ∧ PtArg d n pts ∧ Q (.nw (natD (oppN (apart ps) n pts)))
def spClOf : SpD := fun ds Q => ∃ (r d : D) (n : Nat) (ps : List (Nat × Nat)) (pts : List Nat), ds = [r, d] ∧ RmArg r n ps ∧ PtArg d n pts ∧ Q (.nw (natD (oppN (apart ps) n (oppN (apart ps) n pts))))
/-- asked of ascending points alone -/
def spIsCl : SpD := fun ds Q => ∃ (r : D) (n : Nat) (ps : List (Nat × Nat)) (pts : List Nat), ds = [r, .list (natD pts)] ∧ RmArg r n ps ∧ pts.length ≤ 1000000 ∧ (∀ p ∈ pts, p < n) ∧ pts.Pairwise (· ≤ ·) ∧ Q (.v (.bool (decide (oppN (apart ps) n (oppN (apart ps) n pts) = pts))))
def spRoom : SpD := fun ds Q => ∃ (most : Nat) (names : List Str), ds = [poolD, .int (most : Int), .list (names.map .str)] ∧ 1 ≤ most ∧ most ≤ 600 ∧ names.length ≤ 1000 ∧ ∀ n ps vs, RoomOk names most n ps vs → Q (.v (roomD n ps vs))
end DL

/-! BENT: places within data, put anew. -/
namespace DL
open PySem L2
theorem cut_take {ds : List D} {k : Nat} : cutD ds none (some (k : Int)) = ds.take k := by
  unfold cutD
  rw [HT.sIx_nat]
  show ((ds.drop 0).take (min k ds.length - 0)) = _
  rw [List.drop_zero, Nat.sub_zero, List.take_eq_take_iff]
  omega
theorem cut_drop {ds : List D} {k : Nat} : cutD ds (some (k : Int)) none = ds.drop k := by
  unfold cutD
  rw [HT.sIx_nat]
  show ((ds.drop (min k ds.length)).take (ds.length - min k ds.length)) = _
  rw [List.take_of_length_le (by rw [List.length_drop]; omega)]
  by_cases h : k ≤ ds.length
  · rw [Nat.min_eq_left h]
  · rw [Nat.min_eq_right (by omega), List.drop_length, List.drop_eq_nil_of_le (by omega)]
def getP : D → List Nat → Option D
  | d, [] => some d
  | .tuple ds, k :: p => (ds[k]?).bind fun x => getP x p
  | _, _ :: _ => none
def putP : D → List Nat → D → D
  | _, [], x => x
  | .tuple ds, k :: p, x => (match ds[k]? with | some d => .tuple (ds.set k (putP d p x)) | none => .tuple ds)
  | d, _ :: _, _ => d
theorem getP_cons {d x : D} {k : Nat} {p : List Nat} (h : getP d (k :: p) = some x) : ∃ ds y, d = .tuple ds ∧ ds[k]? = some y ∧ getP y p = some x := by
  cases d with
  | tuple ds =>
    have h' : (ds[k]?).bind (fun x => getP x p) = some x := h
    rw [Option.bind_eq_some_iff] at h'
    obtain ⟨y, h1, h2⟩ := h'
    exact ⟨ds, y, rfl, h1, h2⟩
  | _ => cases h
theorem getP_app : ∀ (p q : List Nat) (d : D), getP d (p ++ q) = (getP d p).bind fun x => getP x q
  | [], q, d => by cases d <;> rfl
  | k :: p, q, d => by
    cases d with
    | tuple ds =>
      show (ds[k]?).bind (fun x => getP x (p ++ q)) = ((ds[k]?).bind fun x => getP x p).bind fun x => getP x q
      cases ds[k]? with
      | none => rfl
      | some y => exact getP_app p q y
    | _ => rfl
mutual
def spotsL : D → List Nat → List (List Nat)
  | .tuple ds, pre => pre :: spotsLs ds 0 pre
  | _, pre => [pre]
def spotsLs : List D → Nat → List Nat → List (List Nat)
  | [], _, _ => []
  | d :: ds, k, pre => spotsL d (pre ++ [k]) ++ spotsLs ds (k + 1) pre
end
theorem spotsLs_take : ∀ (ds : List D) (j k : Nat) (pre : List Nat) (d : D), ds[j]? = some d → spotsLs (ds.take (j + 1)) k pre = spotsLs (ds.take j) k pre ++ spotsL d (pre ++ [k + j])
  | [], _, _, _, _, h => by simp at h
  | x :: ds, 0, k, pre, d, h => by
    have h' : x = d := Option.some.inj h
    subst h'
    simp [spotsLs]
  | x :: ds, j + 1, k, pre, d, h => by
    have ih := spotsLs_take ds j (k + 1) pre d (by simpa using h)
    rw [List.take_succ_cons, List.take_succ_cons, spotsLs, spotsLs, ih, List.append_assoc, show k + 1 + j = k + (j + 1) by omega]
theorem spotsLs_le : ∀ (ds : List D) (j k : Nat) (pre : List Nat), (spotsLs (ds.take j) k pre).length ≤ (spotsLs ds k pre).length
  | [], j, _, _ => by rw [List.take_nil]; exact Nat.le_refl _
  | x :: ds, 0, k, pre => Nat.zero_le _
  | x :: ds, j + 1, k, pre => by
    rw [List.take_succ_cons, spotsLs, spotsLs, List.length_append, List.length_append]
    exact Nat.add_le_add_left (spotsLs_le ds j (k + 1) pre) _
theorem spotsL_mem : ∀ (ds : List D) (k : Nat) (pre : List Nat) (d : D) (j : Nat), ds[j]? = some d → (spotsL d (pre ++ [k + j])).length ≤ (spotsLs ds k pre).length := fun ds k pre d j h => by
  have h1 := spotsLs_take ds j k pre d h
  have h2 := spotsLs_le ds (j + 1) k pre
  rw [h1, List.length_append] at h2
  omega
/-- paths as data -/
def pathsD (ps : List (List Nat)) : List D := ps.map fun p => .list (natD p)
def spSpots (m : Nat) : SpD := fun ds Q => ∃ (d : D) (pre : List Nat), ds = [d, .list (natD pre)] ∧ depD d < m ∧ tdD d = true ∧ pre.length + depD d ≤ 1000 ∧ (spotsL d pre).length ≤ 900000 ∧ Q (.nw (pathsD (spotsL d pre)))
def spSpot : SpD := fun ds Q => ∃ (d x : D) (p : List Nat), ds = [d, .list (natD p)] ∧ getP d p = some x ∧ Q (.v x)
def spPutP (m : Nat) : SpD := fun ds Q => ∃ (d x : D) (p : List Nat), ds = [d, .list (natD p), x] ∧ p.length < m ∧ tdD d = true ∧ (getP d p).isSome = true ∧ Q (.v (putP d p x))
end DL

/-! BENT2: what a spot may be bent to; bent papers. -/
namespace DL
open PySem L2
def bentL : D → List D
  | .tuple ds => [.tuple (ds.drop 1), .tuple (ds ++ cutD ds (some (-1)) none), .tuple ds.reverse, .list ds, .none, .tuple [], .tuple (ds ++ [.int 0]), .tuple [.str "name", .str "a"], .tuple [.str "not", .tuple ds], .tuple [.str "all"]]
  | .str s => [.str "all", .str "none", .str "name", .str "both", .str "either", .str "same", .str "chain", .str "turn", .str "meet", .str "join", .str "first", .str "one", .str "a", .str "b", .str "derived", .str "barred", .none]
  | .none => [.tuple [], .int 0, .bool false]
  | .int i => [.int (i + 1), .int (i - 1), .int (i + 0), .bool (decide (i = 1)), .none, .str (toString i), .int 7]
  | _ => []
/-- what may be bent: no lists, no dicts, no booleans; short -/
def bdD : D → Bool
  | .tuple ds => decide (ds.length ≤ 40000)
  | .str _ => true
  | .none => true
  | .int i => decide (i.natAbs.log2 < 1900)
  | _ => false
theorem cut_sub (ds : List D) (lo hi : Option Int) : (cutD ds lo hi).length ≤ ds.length ∧ ∀ d ∈ cutD ds lo hi, d ∈ ds := by
  unfold cutD
  refine ⟨?_, fun d hd => List.mem_of_mem_drop (List.mem_of_mem_take hd)⟩
  rw [List.length_take, List.length_drop]
  omega
theorem td_mk {ds : List D} (h1 : ds.length ≤ 100000) (h2 : ∀ d ∈ ds, tdD d = true) : tdD (.tuple ds) = true := by
  rw [tdD, Bool.and_eq_true, decide_eq_true_eq, tdDs_mem]
  exact ⟨h1, h2⟩
theorem td_mkL {ds : List D} (h1 : ds.length ≤ 100000) (h2 : ∀ d ∈ ds, tdD d = true) : tdD (.list ds) = true := by
  rw [tdD, Bool.and_eq_true, decide_eq_true_eq, tdDs_mem]
  exact ⟨h1, h2⟩
/-- texts of ints are short -/
theorem bent_td {d x : D} (ht : tdD d = true) (hb : bdD d = true) (hi : ∀ i, d = .int i → tdD (.str (toString i)) = true) (hx : x ∈ bentL d) : tdD x = true := by
  cases d with
  | tuple ds =>
    obtain ⟨h1, h2⟩ := td_tup ht
    have h3 : ds.length ≤ 40000 := by simpa [bdD] using hb
    obtain ⟨c1, c2⟩ := cut_sub ds (some (-1)) none
    have hs : ∀ s : Str, s.length ≤ 100000 → tdD (.str s) = true := fun s hs => by rw [tdD, decide_eq_true_eq]; exact hs
    simp only [bentL, List.mem_cons, List.not_mem_nil, or_false] at hx
    rcases hx with rfl | rfl | rfl | rfl | rfl | rfl | rfl | rfl | rfl | rfl
    · exact td_mk (by rw [List.length_drop]; omega) fun d hd => h2 d (List.mem_of_mem_drop hd)
    · exact td_mk (by rw [List.length_append]; omega) fun d hd => (List.mem_append.mp hd).elim (h2 d) fun q => h2 d (c2 d q)
    · exact td_mk (by rw [List.length_reverse]; omega) fun d hd => h2 d (List.mem_reverse.mp hd)
    · exact td_mkL (by omega) h2
    · rfl
    · exact td_mk (Nat.zero_le _) fun d hd => nomatch hd
    · exact td_mk (by rw [List.length_append, List.length_singleton]; omega) fun d hd => (List.mem_append.mp hd).elim (h2 d) fun q => by rw [List.mem_singleton.mp q]; rfl
    · decide +kernel
    · exact td_mk (by show 2 ≤ 100000; omega) fun d hd => by
        simp only [List.mem_cons, List.not_mem_nil, or_false] at hd
        rcases hd with rfl | rfl
        · decide +kernel
        · exact ht
    · decide +kernel
  | str s =>
    simp only [bentL, List.mem_cons, List.not_mem_nil, or_false] at hx
    rcases hx with rfl | rfl | rfl | rfl | rfl | rfl | rfl | rfl | rfl | rfl | rfl | rfl | rfl | rfl | rfl | rfl | rfl <;> decide +kernel
  | none =>
    simp only [bentL, List.mem_cons, List.not_mem_nil, or_false] at hx
    rcases hx with rfl | rfl | rfl <;> decide +kernel
  | int i =>
    simp only [bentL, List.mem_cons, List.not_mem_nil, or_false] at hx
    rcases hx with rfl | rfl | rfl | rfl | rfl | rfl | rfl <;> first | exact hi i rfl | rfl
  | _ => cases hb
theorem put_td : ∀ (p : List Nat) (d x : D), tdD d = true → tdD x = true → tdD (putP d p x) = true
  | [], d, x, _, hx => by
    have e : putP d [] x = x := by cases d <;> rfl
    rw [e]
    exact hx
  | k :: p, d, x, hd, hx => by
    cases d with
    | tuple ds =>
      obtain ⟨h1, h2⟩ := td_tup hd
      have e : putP (.tuple ds) (k :: p) x = (match ds[k]? with | some d => PyData.tuple (ds.set k (putP d p x)) | none => .tuple ds) := rfl
      rw [e]
      cases hz : ds[k]? with
      | none => exact hd
      | some z =>
        refine td_mk (by rw [List.length_set]; exact h1) fun y hy => ?_
        rcases List.mem_or_eq_of_mem_set hy with hy | rfl
        · exact h2 y hy
        · exact put_td p z x (h2 z (List.mem_of_getElem? hz)) hx
    | _ => exact hd
def oddL : List D := [.none, .bool true, .bool false, .int 0, .int 1, .int (-1), .str "", .str "derived", .tuple [], .list [], .dict [], .tuple [.int 0], .tuple [.bool true], .tuple [.tuple []], .list [.int 0, .int 1], .tuple [.int 0, .int 0], .tuple [.int 1, .int 0, .int 2], .tuple [.str "derived"], .tuple [.str "derived", .tuple []],
  .tuple [.str "barred", .tuple []], .tuple [.str "barred", .tuple [.int 1, .tuple [], .tuple []], .int 0], .tuple [.str "name", .str "a"], .tuple [.str "all"]]
theorem odd_td : ∀ d ∈ oddL, tdD d = true := by
  intro d hd
  have h : oddL.all tdD = true := by decide +kernel
  exact List.all_eq_true.mp h d hd
/-! ### promises -/
def spBentSpot : SpD := fun ds Q => ∃ d : D, ds = [poolD, d] ∧ bdD d = true ∧ ∀ x ∈ bentL d, Q (.v x)
def spOdd : SpD := fun ds Q => ds = [] ∧ Q (.nw oddL)
/-- bent papers: the paper itself, others near it, some with one spot bent -/
def NearB (paper : D) (ds : List D) (v : D) : Prop := v = paper ∨ v = .list ds ∨ v = .tuple (ds ++ [.int 0]) ∨ (∃ h, ds[0]? = some h ∧ v = .tuple [h]) ∨ v = .tuple ds.reverse ∨ v ∈ oddL ∨
  ∃ p y x, getP paper p = some y ∧ p ∈ spotsL paper [] ∧ x ∈ bentL y ∧ v = putP paper p x
def spBent (m : Nat) : SpD := fun ds Q => ∃ (es : List D) (many : Nat), ds = [poolD, .tuple es, .int (many : Int)] ∧ depDs es + 1 < m ∧ m ≤ 900 ∧ tdD (.tuple es) = true ∧ es ≠ [] ∧ es.length ≤ 40000 ∧ many ≤ 1000 ∧ (spotsL (.tuple es) []).length ≤ 900000 ∧
  (∀ p ∈ spotsL (.tuple es) [], ∃ y, getP (.tuple es) p = some y ∧ bdD y = true ∧ p.length < m) ∧ ∀ vals : List D, vals.length ≤ many + 30 → (∀ v ∈ vals, NearB (.tuple es) es v) → Q (.nw vals)
end DL

/-! BENT3: papers of tuples, texts, ints and None: their spots; formulas are such. -/
namespace DL
open PySem L2
mutual
def beD : D → Bool
  | .tuple ds => decide (ds.length ≤ 40000) && beDs ds
  | .str s => decide (s.length ≤ 100000)
  | .none => true
  | .int i => decide (i.natAbs.log2 < 1900)
  | .bool _ => false
  | .list _ => false
  | .dict _ => false
def beDs : List D → Bool
  | [] => true
  | d :: ds => beD d && beDs ds
end
theorem beDs_mem : ∀ {ds : List D}, beDs ds = true → ∀ d ∈ ds, beD d = true
  | [], _, d, h => nomatch h
  | x :: ds, h, d, hd => by
    rw [beDs, Bool.and_eq_true] at h
    rcases List.mem_cons.mp hd with rfl | hd
    · exact h.1
    · exact beDs_mem h.2 d hd
theorem be_bd {d : D} (h : beD d = true) : bdD d = true := by
  cases d with
  | tuple ds =>
    rw [beD, Bool.and_eq_true] at h
    exact h.1
  | int i => simpa [beD, bdD] using h
  | str s => rfl
  | none => rfl
  | _ => simp [beD] at h
mutual
theorem be_td : ∀ d : D, beD d = true → tdD d = true
  | .tuple ds, h => by
    rw [beD, Bool.and_eq_true, decide_eq_true_eq] at h
    rw [tdD, Bool.and_eq_true, decide_eq_true_eq]
    exact ⟨by omega, bes_td ds h.2⟩
  | .str s, h => by rw [beD] at h; rw [tdD]; exact h
  | .none, _ => by simp only [tdD]
  | .int i, _ => by simp only [tdD]
  | .bool _, h => by simp [beD] at h
  | .list _, h => by simp [beD] at h
  | .dict _, h => by simp [beD] at h
theorem bes_td : ∀ ds : List D, beDs ds = true → tdDs ds = true
  | [], _ => by simp only [tdDs]
  | d :: ds, h => by
    rw [beDs, Bool.and_eq_true] at h
    rw [tdDs, be_td d h.1, bes_td ds h.2]
    rfl
end
mutual
theorem spot_ok : ∀ (d : D) (pre : List Nat), beD d = true → ∀ p ∈ spotsL d pre, ∃ rel y, p = pre ++ rel ∧ getP d rel = some y ∧ beD y = true ∧ rel.length ≤ depD d
  | .tuple ds, pre, h, p, hp => by
    rw [spotsL] at hp
    rcases List.mem_cons.mp hp with rfl | hp
    · exact ⟨[], .tuple ds, by simp, rfl, h, Nat.zero_le _⟩
    · rw [beD, Bool.and_eq_true] at h
      obtain ⟨j, z, rel, y, h1, h2, h3, h4, h5⟩ := spots_ok ds 0 pre h.2 p hp
      refine ⟨j :: rel, y, ?_, ?_, h4, ?_⟩
      · rw [h2, Nat.zero_add]
        simp
      · show (ds[j]?).bind (fun x => getP x rel) = some y
        rw [h1]
        exact h3
      · rw [List.length_cons, depD]
        omega
  | .str s, pre, h, p, hp => ⟨[], .str s, by simpa [spotsL] using hp, rfl, h, Nat.zero_le _⟩
  | .none, pre, h, p, hp => ⟨[], .none, by simpa [spotsL] using hp, rfl, h, Nat.zero_le _⟩
  | .int i, pre, h, p, hp => ⟨[], .int i, by simpa [spotsL] using hp, rfl, h, Nat.zero_le _⟩
  | .bool _, _, h, _, _ => by simp [beD] at h
  | .list _, _, h, _, _ => by simp [beD] at h
  | .dict _, _, h, _, _ => by simp [beD] at h
theorem spots_ok : ∀ (ds : List D) (k : Nat) (pre : List Nat), beDs ds = true → ∀ p ∈ spotsLs ds k pre, ∃ j z rel y, ds[j]? = some z ∧ p = pre ++ [k + j] ++ rel ∧ getP z rel = some y ∧ beD y = true ∧ rel.length ≤ depDs ds
  | [], k, pre, _, p, hp => by simp [spotsLs] at hp
  | d :: ds, k, pre, h, p, hp => by
    rw [beDs, Bool.and_eq_true] at h
    rw [spotsLs, List.mem_append] at hp
    rcases hp with hp | hp
    · obtain ⟨rel, y, h1, h2, h3, h4⟩ := spot_ok d (pre ++ [k]) h.1 p hp
      exact ⟨0, d, rel, y, rfl, by rw [h1, Nat.add_zero], h2, h3, by rw [depDs]; omega⟩
    · obtain ⟨j, z, rel, y, h1, h2, h3, h4, h5⟩ := spots_ok ds (k + 1) pre h.2 p hp
      exact ⟨j + 1, z, rel, y, by simpa using h1, by rw [h2, show k + 1 + j = k + (j + 1) by omega], h3, h4, by rw [depDs]; omega⟩
end
/-- formulas -/
theorem fm_be : ∀ f : Fm, (∀ s ∈ f.nms, s.length ≤ 100000) → beD f.d = true
  | .all, _ => by decide +kernel
  | .none, _ => by decide +kernel
  | .name s, h => by
    have hs := h s (by simp [Fm.nms])
    have e : ("name" : Str).length ≤ 100000 := by decide +kernel
    simp [Fm.d, beD, beDs, hs, e]
  | .not a, h => by
    have e : ("not" : Str).length ≤ 100000 := by decide +kernel
    simp [Fm.d, beD, beDs, e, fm_be a h]
  | .both a b, h => by
    have e : ("both" : Str).length ≤ 100000 := by decide +kernel
    simp [Fm.d, beD, beDs, e, fm_be a fun s hs => h s (by simp [Fm.nms, hs]), fm_be b fun s hs => h s (by simp [Fm.nms, hs])]
  | .either a b, h => by
    have e : ("either" : Str).length ≤ 100000 := by decide +kernel
    simp [Fm.d, beD, beDs, e, fm_be a fun s hs => h s (by simp [Fm.nms, hs]), fm_be b fun s hs => h s (by simp [Fm.nms, hs])]
/-- how many spots a formula has -/
theorem fm_spots : ∀ (f : Fm) (pre : List Nat), (spotsL f.d pre).length + 3 ≤ 6 * 2 ^ f.dep
  | .all, pre => by simp [Fm.d, spotsL, spotsLs, Fm.dep]
  | .none, pre => by simp [Fm.d, spotsL, spotsLs, Fm.dep]
  | .name s, pre => by simp [Fm.d, spotsL, spotsLs, Fm.dep]
  | .not a, pre => by
    have h := fm_spots a (pre ++ [0 + 1])
    simp only [Fm.d, spotsL, spotsLs, Fm.dep, List.length_cons, List.length_append, List.length_nil, Nat.pow_succ]
    omega
  | .both a b, pre => by
    have h := fm_spots a (pre ++ [0 + 1])
    have h' := fm_spots b (pre ++ [0 + 1 + 1])
    have m1 : 2 ^ a.dep ≤ 2 ^ max a.dep b.dep := Nat.pow_le_pow_right (by decide) (Nat.le_max_left _ _)
    have m2 : 2 ^ b.dep ≤ 2 ^ max a.dep b.dep := Nat.pow_le_pow_right (by decide) (Nat.le_max_right _ _)
    simp only [Fm.d, spotsL, spotsLs, Fm.dep, List.length_cons, List.length_append, List.length_nil, Nat.pow_succ]
    omega
  | .either a b, pre => by
    have h := fm_spots a (pre ++ [0 + 1])
    have h' := fm_spots b (pre ++ [0 + 1 + 1])
    have m1 : 2 ^ a.dep ≤ 2 ^ max a.dep b.dep := Nat.pow_le_pow_right (by decide) (Nat.le_max_left _ _)
    have m2 : 2 ^ b.dep ≤ 2 ^ max a.dep b.dep := Nat.pow_le_pow_right (by decide) (Nat.le_max_right _ _)
    simp only [Fm.d, spotsL, spotsLs, Fm.dep, List.length_cons, List.length_append, List.length_nil, Nat.pow_succ]
    omega
end DL

/-! BENT4: how large a bent paper may be. -/
namespace DL
open PySem L2
theorem weightAll_set : ∀ {ds : List D} {k : Nat} {d : D} (z : D), ds[k]? = some d → PyData.weightAll (ds.set k z) + PyData.weight d = PyData.weightAll ds + PyData.weight z
  | [], _, _, _, h => by simp at h
  | x :: ds, 0, d, z, h => by
    have e : x = d := Option.some.inj h
    subst e
    rw [List.set_cons_zero, PyData.weightAll, PyData.weightAll]
    omega
  | x :: ds, k + 1, d, z, h => by
    have ih := weightAll_set (ds := ds) (k := k) (d := d) z (by simpa using h)
    rw [List.set_cons_succ, PyData.weightAll, PyData.weightAll]
    omega
theorem put_weight : ∀ (p : List Nat) (d x : D), (putP d p x).weight ≤ d.weight + x.weight
  | [], d, x => by
    have e : putP d [] x = x := by cases d <;> rfl
    rw [e]
    omega
  | k :: p, d, x => by
    cases d with
    | tuple ds =>
      have e : putP (.tuple ds) (k :: p) x = (match ds[k]? with | some d => PyData.tuple (ds.set k (putP d p x)) | none => .tuple ds) := rfl
      rw [e]
      cases hz : ds[k]? with
      | none => exact Nat.le_add_right _ _
      | some z =>
        have ih := put_weight p z x
        have w := weightAll_set (putP z p x) hz
        show PyData.weight (.tuple (ds.set k (putP z p x))) ≤ _
        rw [PyData.weight, PyData.weight]
        omega
    | _ => exact Nat.le_add_right _ _
theorem depthAll_set : ∀ (ds : List D) (k : Nat) (z : D), PyData.depthAll (ds.set k z) ≤ max (PyData.depthAll ds) (PyData.depth z)
  | [], _, _ => by simp [PyData.depthAll]
  | x :: ds, 0, z => by
    rw [List.set_cons_zero, PyData.depthAll, PyData.depthAll]
    omega
  | x :: ds, k + 1, z => by
    have ih := depthAll_set ds k z
    rw [List.set_cons_succ, PyData.depthAll, PyData.depthAll]
    omega
theorem depthAll_get : ∀ {ds : List D} {k : Nat} {d : D}, ds[k]? = some d → PyData.depth d ≤ PyData.depthAll ds
  | [], _, _, h => by simp at h
  | x :: ds, 0, d, h => by
    have e : x = d := Option.some.inj h
    subst e
    rw [PyData.depthAll]
    exact Nat.le_max_left _ _
  | x :: ds, k + 1, d, h => by
    have ih := depthAll_get (ds := ds) (k := k) (d := d) (by simpa using h)
    rw [PyData.depthAll]
    omega
theorem put_depth : ∀ (p : List Nat) (d x : D), (putP d p x).depth ≤ max d.depth (p.length + x.depth)
  | [], d, x => by
    have e : putP d [] x = x := by cases d <;> rfl
    rw [e, List.length_nil]
    omega
  | k :: p, d, x => by
    cases d with
    | tuple ds =>
      have e : putP (.tuple ds) (k :: p) x = (match ds[k]? with | some d => PyData.tuple (ds.set k (putP d p x)) | none => .tuple ds) := rfl
      rw [e]
      cases hz : ds[k]? with
      | none => exact Nat.le_max_left _ _
      | some z =>
        have ih := put_depth p z x
        have w := depthAll_set ds k (putP z p x)
        have g := depthAll_get hz
        show PyData.depth (.tuple (ds.set k (putP z p x))) ≤ _
        rw [PyData.depth, PyData.depth, List.length_cons]
        omega
    | _ => exact Nat.le_max_left _ _
theorem canLayAll_mem : ∀ {ds : List D}, PyData.canLayAll0 ds = true ↔ ∀ d ∈ ds, PyData.canLay0 d = true
  | [] => ⟨fun _ d h => (nomatch h), fun _ => by simp only [PyData.canLayAll0]⟩
  | d :: ds => by
    rw [PyData.canLayAll0, Bool.and_eq_true, canLayAll_mem]
    simp
theorem put_lay : ∀ (p : List Nat) (d x : D), d.canLay0 = true → x.canLay0 = true → (putP d p x).canLay0 = true
  | [], d, x, _, hx => by
    have e : putP d [] x = x := by cases d <;> rfl
    rw [e]
    exact hx
  | k :: p, d, x, hd, hx => by
    cases d with
    | tuple ds =>
      have e : putP (.tuple ds) (k :: p) x = (match ds[k]? with | some d => PyData.tuple (ds.set k (putP d p x)) | none => .tuple ds) := rfl
      rw [e]
      cases hz : ds[k]? with
      | none => exact hd
      | some z =>
        rw [PyData.canLay0, canLayAll_mem] at hd
        show PyData.canLay0 (.tuple (ds.set k (putP z p x))) = true
        rw [PyData.canLay0, canLayAll_mem]
        intro y hy
        rcases List.mem_or_eq_of_mem_set hy with hy | rfl
        · exact hd y hy
        · exact put_lay p z x (hd z (List.mem_of_getElem? hz)) hx
    | _ => exact hd
theorem intsAll_mem {B : Nat} : ∀ {ds : List D}, PyData.intsShortAll B ds = true ↔ ∀ d ∈ ds, PyData.intsShort B d = true
  | [] => ⟨fun _ d h => (nomatch h), fun _ => by simp only [PyData.intsShortAll]⟩
  | d :: ds => by
    rw [PyData.intsShortAll, Bool.and_eq_true, intsAll_mem]
    simp
theorem put_ints {B : Nat} : ∀ (p : List Nat) (d x : D), d.intsShort B = true → x.intsShort B = true → (putP d p x).intsShort B = true
  | [], d, x, _, hx => by
    have e : putP d [] x = x := by cases d <;> rfl
    rw [e]
    exact hx
  | k :: p, d, x, hd, hx => by
    cases d with
    | tuple ds =>
      have e : putP (.tuple ds) (k :: p) x = (match ds[k]? with | some d => PyData.tuple (ds.set k (putP d p x)) | none => .tuple ds) := rfl
      rw [e]
      cases hz : ds[k]? with
      | none => exact hd
      | some z =>
        rw [PyData.intsShort, intsAll_mem] at hd
        show PyData.intsShort B (.tuple (ds.set k (putP z p x))) = true
        rw [PyData.intsShort, intsAll_mem]
        intro y hy
        rcases List.mem_or_eq_of_mem_set hy with hy | rfl
        · exact hd y hy
        · exact put_ints p z x (hd z (List.mem_of_getElem? hz)) hx
    | _ => exact hd
theorem showAll_mem : ∀ {ds : List D}, PyData.showableAll ds = true ↔ ∀ d ∈ ds, PyData.showable d = true
  | [] => ⟨fun _ d h => (nomatch h), fun _ => by simp only [PyData.showableAll]⟩
  | d :: ds => by
    rw [PyData.showableAll, Bool.and_eq_true, showAll_mem]
    simp
theorem put_show : ∀ (p : List Nat) (d x : D), d.showable = true → x.showable = true → (putP d p x).showable = true
  | [], d, x, _, hx => by
    have e : putP d [] x = x := by cases d <;> rfl
    rw [e]
    exact hx
  | k :: p, d, x, hd, hx => by
    cases d with
    | tuple ds =>
      have e : putP (.tuple ds) (k :: p) x = (match ds[k]? with | some d => PyData.tuple (ds.set k (putP d p x)) | none => .tuple ds) := rfl
      rw [e]
      cases hz : ds[k]? with
      | none => exact hd
      | some z =>
        rw [PyData.showable, showAll_mem] at hd
        show PyData.showable (.tuple (ds.set k (putP z p x))) = true
        rw [PyData.showable, showAll_mem]
        intro y hy
        rcases List.mem_or_eq_of_mem_set hy with hy | rfl
        · exact hd y hy
        · exact put_show p z x (hd z (List.mem_of_getElem? hz)) hx
    | _ => exact hd
/-- what is small may be shown -/
theorem rpr_small {d : D} (h1 : d.canLay0 = true) (h2 : d.depth ≤ 64) (h3 : d.weight ≤ 1048576) (h4 : d.intsShort 13 = true) (h5 : d.showable = true) : RprOk d := by
  refine .inl ⟨h1, h5, ?_, h2⟩
  have l : PyData.layable0 d = true := by
    unfold PyData.layable0
    rw [h1, decide_eq_true h2, decide_eq_true (show d.weight ≤ 2 ^ 20 by omega)]
    rfl
  have := PyProof.Rows.shown_le13 l h4
  have := sizeLine_eq
  omega
end DL

/-! BENT5: what a spot is bent to is small. -/
namespace DL
open PySem L2
theorem weightAll_app : ∀ (a b : List D), PyData.weightAll (a ++ b) = PyData.weightAll a + PyData.weightAll b
  | [], b => by rw [List.nil_append, PyData.weightAll, Nat.zero_add]
  | x :: a, b => by
    rw [List.cons_append, PyData.weightAll, PyData.weightAll, weightAll_app a b]
    omega
theorem weightAll_drop (k : Nat) (ds : List D) : PyData.weightAll (ds.drop k) ≤ PyData.weightAll ds := by
  have h := weightAll_app (ds.take k) (ds.drop k)
  rw [List.take_append_drop] at h
  omega
theorem weightAll_take (k : Nat) (ds : List D) : PyData.weightAll (ds.take k) ≤ PyData.weightAll ds := by
  have h := weightAll_app (ds.take k) (ds.drop k)
  rw [List.take_append_drop] at h
  omega
theorem weightAll_rev : ∀ ds : List D, PyData.weightAll ds.reverse = PyData.weightAll ds
  | [] => rfl
  | x :: ds => by
    rw [List.reverse_cons, weightAll_app, weightAll_rev ds, PyData.weightAll, PyData.weightAll, PyData.weightAll]
    omega
theorem depthAll_le {n : Nat} : ∀ {ds : List D}, PyData.depthAll ds ≤ n ↔ ∀ d ∈ ds, PyData.depth d ≤ n
  | [] => ⟨fun _ d h => (nomatch h), fun _ => by simp only [PyData.depthAll]; omega⟩
  | x :: ds => by
    have ih := depthAll_le (n := n) (ds := ds)
    rw [PyData.depthAll, Nat.max_le, ih]
    simp
structure Small (d : D) (dp w : Nat) : Prop where
  lay : d.canLay0 = true
  dep : d.depth ≤ dp
  wt : d.weight ≤ w
  shortI : d.intsShort 13 = true
  show_ : d.showable = true
theorem Small.tup {ds : List D} {dp w : Nat} (h : ∀ d ∈ ds, d.canLay0 = true ∧ d.depth ≤ dp ∧ d.intsShort 13 = true ∧ d.showable = true) (hw : PyData.weightAll ds ≤ w) : Small (.tuple ds) (dp + 1) w ∧ Small (.list ds) (dp + 1) w := by
  have e1 : PyData.canLayAll0 ds = true := canLayAll_mem.mpr fun d hd => (h d hd).1
  have e2 : PyData.depthAll ds ≤ dp := depthAll_le.mpr fun d hd => (h d hd).2.1
  have e3 : PyData.intsShortAll 13 ds = true := intsAll_mem.mpr fun d hd => (h d hd).2.2.1
  have e4 : PyData.showableAll ds = true := showAll_mem.mpr fun d hd => (h d hd).2.2.2
  refine ⟨⟨by rw [PyData.canLay0]; exact e1, by rw [PyData.depth]; omega, by rw [PyData.weight]; exact hw, by rw [PyData.intsShort]; exact e3, by rw [PyData.showable]; exact e4⟩,
    ⟨by rw [PyData.canLay0]; exact e1, by rw [PyData.depth]; omega, by rw [PyData.weight]; exact hw, by rw [PyData.intsShort]; exact e3, by rw [PyData.showable]; exact e4⟩⟩
theorem Small.items {ds : List D} {dp w : Nat} (h : Small (.tuple ds) dp w) : ∀ d ∈ ds, d.canLay0 = true ∧ d.depth ≤ dp - 1 ∧ d.intsShort 13 = true ∧ d.showable = true := by
  obtain ⟨h1, h2, h3, h4, h5⟩ := h
  rw [PyData.canLay0, canLayAll_mem] at h1
  rw [PyData.depth] at h2
  rw [PyData.intsShort, intsAll_mem] at h4
  rw [PyData.showable, showAll_mem] at h5
  have h2' := depthAll_le.mp (show PyData.depthAll ds ≤ dp - 1 by omega)
  exact fun d hd => ⟨h1 d hd, h2' d hd, h4 d hd, h5 d hd⟩
theorem Small.rpr {d : D} {dp w : Nat} (h : Small d dp w) (h1 : dp ≤ 64) (h2 : w ≤ 1048576) : RprOk d := rpr_small h.lay (Nat.le_trans h.dep h1) (Nat.le_trans h.wt h2) h.shortI h.show_
theorem Small.put {p : List Nat} {d x : D} {dp w dx wx : Nat} (h : Small d dp w) (hx : Small x dx wx) : Small (putP d p x) (max dp (p.length + dx)) (w + wx) where
  lay := put_lay p d x h.lay hx.lay
  dep := by have := put_depth p d x; have := h.dep; have := hx.dep; omega
  wt := by have := put_weight p d x; have := h.wt; have := hx.wt; omega
  shortI := put_ints p d x h.shortI hx.shortI
  show_ := put_show p d x h.show_ hx.show_
end DL

/-! BENT6: bent values and odd values are small. -/
namespace DL
open PySem L2
theorem Small.mono {d : D} {a b w v : Nat} (h : Small d a w) (h1 : a ≤ b) (h2 : w ≤ v) : Small d b v := ⟨h.lay, Nat.le_trans h.dep h1, Nat.le_trans h.wt h2, h.shortI, h.show_⟩
def smallB (a w : Nat) (d : D) : Bool := d.canLay0 && decide (d.depth ≤ a) && decide (d.weight ≤ w) && d.intsShort 13 && d.showable
theorem small_b {a w : Nat} {d : D} (h : smallB a w d = true) : Small d a w := by
  simp only [smallB, Bool.and_eq_true, decide_eq_true_eq] at h
  exact ⟨h.1.1.1.1, h.1.1.1.2, h.1.1.2, h.1.2, h.2⟩
theorem bent_small {y x : D} {a w : Nat} (hy : Small y (a + 1) w) (hb : bdD y = true) (hi : ∀ i, y ≠ .int i) (hx : x ∈ bentL y) : Small x (a + 3) (2 * w + 60) := by
  cases y with
  | tuple ds =>
    have hs : ∀ d ∈ ds, d.canLay0 = true ∧ d.depth ≤ a ∧ d.intsShort 13 = true ∧ d.showable = true := hy.items
    have hw : PyData.weightAll ds ≤ w := by have := hy.wt; rwa [PyData.weight] at this
    obtain ⟨c1, c2⟩ := cut_sub ds (some (-1)) none
    have cw : PyData.weightAll (cutD ds (some (-1)) none) ≤ PyData.weightAll ds := by
      unfold cutD
      exact Nat.le_trans (weightAll_take _ _) (weightAll_drop _ _)
    have m : ∀ {z : D}, Small z (a + 1) (2 * w + 60) → Small z (a + 3) (2 * w + 60) := fun h => h.mono (by omega) (Nat.le_refl _)
    simp only [bentL, List.mem_cons, List.not_mem_nil, or_false] at hx
    rcases hx with rfl | rfl | rfl | rfl | rfl | rfl | rfl | rfl | rfl | rfl
    · exact m (Small.tup (dp := a) (w := 2 * w + 60) (fun d hd => hs d (List.mem_of_mem_drop hd)) (by have := weightAll_drop 1 ds; omega)).1
    · exact m (Small.tup (dp := a) (w := 2 * w + 60) (fun d hd => (List.mem_append.mp hd).elim (hs d) fun q => hs d (c2 d q)) (by rw [weightAll_app]; omega)).1
    · exact m (Small.tup (dp := a) (w := 2 * w + 60) (fun d hd => hs d (List.mem_reverse.mp hd)) (by rw [weightAll_rev]; omega)).1
    · exact m (Small.tup (dp := a) (w := 2 * w + 60) hs (by omega)).2
    · exact (small_b (a := 2) (w := 60) (by decide +kernel)).mono (by omega) (by omega)
    · exact (small_b (a := 2) (w := 60) (by decide +kernel)).mono (by omega) (by omega)
    · refine Small.mono (a := a + 1 + 1) (w := 2 * w + 60) (Small.tup (ds := ds ++ [.int 0]) (dp := a + 1) (w := 2 * w + 60) (fun d hd => (List.mem_append.mp hd).elim (fun q => ?_) fun q => ?_) ?_).1 (by omega) (Nat.le_refl _)
      · obtain ⟨q1, q2, q3, q4⟩ := hs d q
        exact ⟨q1, by omega, q3, q4⟩
      · rw [List.mem_singleton.mp q]
        obtain ⟨q1, q2, q3, q4, q5⟩ := small_b (a := 1) (w := 60) (d := .int 0) (by decide +kernel)
        exact ⟨q1, by omega, q4, q5⟩
      · rw [weightAll_app]
        have e : PyData.weightAll [PyData.int 0] ≤ 60 := by decide +kernel
        omega
    · exact (small_b (a := 2) (w := 60) (by decide +kernel)).mono (by omega) (by omega)
    · refine Small.mono (a := a + 2 + 1) (w := 2 * w + 60) (Small.tup (ds := [.str "not", .tuple ds]) (dp := a + 2) (w := 2 * w + 60) (fun d hd => ?_) ?_).1 (by omega) (Nat.le_refl _)
      · simp only [List.mem_cons, List.not_mem_nil, or_false] at hd
        rcases hd with rfl | rfl
        · obtain ⟨q1, q2, q3, q4, q5⟩ := small_b (a := 1) (w := 60) (d := .str "not") (by decide +kernel)
          exact ⟨q1, by omega, q4, q5⟩
        · exact ⟨hy.lay, by have := hy.dep; omega, hy.shortI, hy.show_⟩
      · have h9 := hy.wt
        have e : PyData.weight (.str "not") ≤ 20 := by decide +kernel
        simp only [PyData.weightAll] at *
        omega
    · exact (small_b (a := 2) (w := 60) (by decide +kernel)).mono (by omega) (by omega)
  | str s =>
    simp only [bentL, List.mem_cons, List.not_mem_nil, or_false] at hx
    rcases hx with rfl | rfl | rfl | rfl | rfl | rfl | rfl | rfl | rfl | rfl | rfl | rfl | rfl | rfl | rfl | rfl | rfl <;>
      exact (small_b (a := 2) (w := 60) (by decide +kernel)).mono (by omega) (by omega)
  | none =>
    simp only [bentL, List.mem_cons, List.not_mem_nil, or_false] at hx
    rcases hx with rfl | rfl | rfl <;> exact (small_b (a := 2) (w := 60) (by decide +kernel)).mono (by omega) (by omega)
  | int i => exact absurd rfl (hi i)
  | _ => cases hb
end DL

/-! BENT7: odd values and papers near a small one are small. -/
namespace DL
open PySem L2
theorem odd_small {d : D} (h : d ∈ oddL) : d = .dict [] ∨ Small d 3 60 := by
  have e : oddL.all (fun d => (match d with | .dict [] => true | _ => false) || smallB 3 60 d) = true := by decide +kernel
  have h1 := List.all_eq_true.mp e d h
  rw [Bool.or_eq_true] at h1
  rcases h1 with h1 | h1
  · refine Or.inl ?_
    cases d with
    | dict l =>
      cases l with
      | nil => rfl
      | cons a b => cases h1
    | _ => cases h1
  · exact Or.inr (small_b h1)
end DL

/-! BENT8: a spot of a small value is small; papers near a small one can be shown. -/
namespace DL
open PySem L2
theorem weight_mem {d : D} : ∀ {ds : List D}, d ∈ ds → PyData.weight d + 1 ≤ PyData.weightAll ds
  | [], h => nomatch h
  | x :: ds, h => by
    rw [PyData.weightAll]
    rcases List.mem_cons.mp h with rfl | h
    · omega
    · have := weight_mem h
      omega
theorem get_small : ∀ (p : List Nat) {d y : D} {a w : Nat}, getP d p = some y → Small d a w → Small y a w
  | [], d, y, a, w, h, hs => by
    have e : getP d [] = some d := by cases d <;> rfl
    rw [e] at h
    cases h
    exact hs
  | k :: p, d, y, a, w, h, hs => by
    obtain ⟨ds, z, rfl, h1, h2⟩ := getP_cons h
    have hm : z ∈ ds := List.mem_of_getElem? h1
    obtain ⟨q1, q2, q3, q4⟩ := hs.items z hm
    have hw := hs.wt
    rw [PyData.weight] at hw
    have := weight_mem hm
    exact get_small p h2 ⟨q1, by omega, by omega, q3, q4⟩
theorem near_rpr {es : List D} {v : D} (hs : Small (.tuple es) 12 100000) (hp : ∀ p ∈ spotsL (.tuple es) [], ∀ y, getP (.tuple es) p = some y → bdD y = true ∧ p.length ≤ 12 ∧ ∀ i, y ≠ .int i) (h : NearB (.tuple es) es v) : RprOk v := by
  have hi : ∀ d ∈ es, d.canLay0 = true ∧ d.depth ≤ 11 ∧ d.intsShort 13 = true ∧ d.showable = true := hs.items
  have hw : PyData.weightAll es ≤ 100000 := by have := hs.wt; rwa [PyData.weight] at this
  have fin : ∀ {x : D}, Small x 12 100000 → RprOk x := fun q => q.rpr (by omega) (by omega)
  rcases h with rfl | rfl | rfl | ⟨h1, hh, rfl⟩ | rfl | h | ⟨p, y, x, h1, h2, h3, rfl⟩
  · exact fin hs
  · exact fin (Small.tup (dp := 11) hi hw).2
  · refine Small.rpr (dp := 13) (w := 100100) (Small.tup (ds := es ++ [.int 0]) (dp := 12) (w := 100100) (fun d hd => (List.mem_append.mp hd).elim (fun q => ?_) fun q => ?_) ?_).1 (by omega) (by omega)
    · obtain ⟨q1, q2, q3, q4⟩ := hi d q
      exact ⟨q1, by omega, q3, q4⟩
    · rw [List.mem_singleton.mp q]
      obtain ⟨q1, q2, q3, q4, q5⟩ := small_b (a := 1) (w := 60) (d := .int 0) (by decide +kernel)
      exact ⟨q1, by omega, q4, q5⟩
    · rw [weightAll_app]
      have e : PyData.weightAll [PyData.int 0] ≤ 60 := by decide +kernel
      omega
  · have hm : h1 ∈ es := List.mem_of_getElem? hh
    refine fin (Small.tup (ds := [h1]) (dp := 11) (w := 100000) (fun d hd => by rw [List.mem_singleton.mp hd]; exact hi h1 hm) ?_).1
    have := weight_mem hm
    have e2 : PyData.weightAll [h1] = PyData.weight h1 + 1 + 0 := by rw [PyData.weightAll, PyData.weightAll]
    omega
  · exact fin (Small.tup (dp := 11) (fun d hd => hi d (List.mem_reverse.mp hd)) (by rw [weightAll_rev]; exact hw)).1
  · rcases odd_small h with rfl | q
    · exact Or.inr rfl
    · exact q.rpr (by omega) (by omega)
  · obtain ⟨b1, b2, b3⟩ := hp p h2 y h1
    have hx : Small x (12 + 3) (2 * 100000 + 60) := bent_small (a := 12) ((get_small p h1 hs).mono (by omega) (Nat.le_refl _)) b1 b3 h3
    exact (hs.put (p := p) hx).rpr (by omega) (by omega)
end DL

/-! BENT9: papers near a plain one are plain. -/
namespace DL
open PySem L2
theorem get_td : ∀ (p : List Nat) {d y : D}, getP d p = some y → tdD d = true → tdD y = true
  | [], d, y, h, hs => by
    have e : getP d [] = some d := by cases d <;> rfl
    rw [e] at h
    cases h
    exact hs
  | k :: p, d, y, h, hs => by
    obtain ⟨ds, z, rfl, h1, h2⟩ := getP_cons h
    exact get_td p h2 ((td_tup hs).2 z (List.mem_of_getElem? h1))
theorem near_td {es : List D} {v : D} (ht : tdD (.tuple es) = true) (hl : es.length ≤ 40000) (hp : ∀ p ∈ spotsL (.tuple es) [], ∀ y, getP (.tuple es) p = some y → bdD y = true ∧ ∀ i, y ≠ .int i) (h : NearB (.tuple es) es v) : tdD v = true := by
  obtain ⟨t1, t2⟩ := td_tup ht
  rcases h with rfl | rfl | rfl | ⟨h1, hh, rfl⟩ | rfl | h | ⟨p, y, x, h1, h2, h3, rfl⟩
  · exact ht
  · exact td_mkL t1 t2
  · exact td_mk (by rw [List.length_append, List.length_singleton]; omega) fun d hd => (List.mem_append.mp hd).elim (t2 d) fun q => by rw [List.mem_singleton.mp q]; rfl
  · exact td_mk (by show 1 ≤ 100000; omega) fun d hd => by rw [List.mem_singleton.mp hd]; exact t2 _ (List.mem_of_getElem? hh)
  · exact td_mk (by rw [List.length_reverse]; omega) fun d hd => t2 d (List.mem_reverse.mp hd)
  · exact odd_td v h
  · obtain ⟨b1, b3⟩ := hp p h2 y h1
    exact put_td p _ x ht (bent_td (get_td p h1 ht) b1 (fun i e => absurd e (b3 i)) h3)
end DL

/-! BENTI: papers of tuples, short texts, small ints and None: what is near them. -/
namespace DL
open PySem L2
mutual
def papD : D → Bool
  | .tuple ds => decide (ds.length ≤ 40000) && papDs ds
  | .str s => decide (s.length ≤ 100) && PyData.strOk s
  | .none => true
  | .int i => decide (i.natAbs ≤ 700)
  | .bool _ => false
  | .list _ => false
  | .dict _ => false
def papDs : List D → Bool
  | [] => true
  | d :: ds => papD d && papDs ds
end
theorem papDs_mem : ∀ {ds : List D}, papDs ds = true ↔ ∀ d ∈ ds, papD d = true
  | [] => ⟨fun _ d h => (nomatch h), fun _ => by simp only [papDs]⟩
  | d :: ds => by
    rw [papDs, Bool.and_eq_true, papDs_mem]
    simp
theorem pap_tup {ds : List D} : papD (.tuple ds) = true ↔ ds.length ≤ 40000 ∧ ∀ d ∈ ds, papD d = true := by
  rw [papD, Bool.and_eq_true, decide_eq_true_eq, papDs_mem]
theorem int_all : (List.range 1401).all (fun k => (bentL (.int ((k : Int) - 700))).all (fun x => smallB 3 60 x && tdD x) && (smallB 1 10 (.int ((k : Int) - 700)) && tdD (.str (toString ((k : Int) - 700))))) = true := by decide +kernel
theorem int_at700 {i : Int} (h : i.natAbs ≤ 700) : (∀ x ∈ bentL (.int i), Small x 3 60 ∧ tdD x = true) ∧ Small (.int i) 1 10 ∧ tdD (.str (toString i)) = true := by
  have q := List.all_eq_true.mp int_all (i + 700).toNat (List.mem_range.mpr (by omega))
  have e : (((i + 700).toNat : Nat) : Int) - 700 = i := by omega
  rw [e, Bool.and_eq_true, Bool.and_eq_true, List.all_eq_true] at q
  refine ⟨fun x hx => ?_, small_b q.2.1, q.2.2⟩
  have z := q.1 x hx
  rw [Bool.and_eq_true] at z
  exact ⟨small_b z.1, z.2⟩
mutual
theorem pap_be : ∀ d : D, papD d = true → beD d = true ∧ d.canLay0 = true ∧ d.intsShort 13 = true ∧ d.showable = true
  | .tuple ds, h => by
    obtain ⟨h1, h2⟩ := pap_tup.mp h
    obtain ⟨g1, g2, g3, g4⟩ := paps_be ds (papDs_mem.mpr h2)
    refine ⟨by rw [beD, g1, decide_eq_true h1]; rfl, by rw [PyData.canLay0]; exact g2, by rw [PyData.intsShort]; exact g3, by rw [PyData.showable]; exact g4⟩
  | .str s, h => by
    rw [papD, Bool.and_eq_true, decide_eq_true_eq] at h
    refine ⟨by rw [beD, decide_eq_true (by omega)], by rw [PyData.canLay0]; exact h.2, by simp only [PyData.intsShort], by simp only [PyData.showable]⟩
  | .none, _ => by decide +kernel
  | .int i, h => by
    rw [papD, decide_eq_true_eq] at h
    obtain ⟨_, s, _⟩ := int_at700 h
    refine ⟨?_, s.lay, s.shortI, s.show_⟩
    have := s.wt
    rw [PyData.weight] at this
    rw [beD, decide_eq_true_eq]
    by_cases z : i = 0
    · rw [z]; decide
    · rw [if_neg (by simpa using z)] at this
      omega
  | .bool _, h => by simp [papD] at h
  | .list _, h => by simp [papD] at h
  | .dict _, h => by simp [papD] at h
theorem paps_be : ∀ ds : List D, papDs ds = true → beDs ds = true ∧ PyData.canLayAll0 ds = true ∧ PyData.intsShortAll 13 ds = true ∧ PyData.showableAll ds = true
  | [], _ => by simp [beDs, PyData.canLayAll0, PyData.intsShortAll, PyData.showableAll]
  | d :: ds, h => by
    rw [papDs, Bool.and_eq_true] at h
    obtain ⟨a1, a2, a3, a4⟩ := pap_be d h.1
    obtain ⟨b1, b2, b3, b4⟩ := paps_be ds h.2
    simp [beDs, PyData.canLayAll0, PyData.intsShortAll, PyData.showableAll, a1, a2, a3, a4, b1, b2, b3, b4]
end
mutual
theorem depD_le : ∀ d : D, depD d ≤ d.depth
  | .tuple ds => by rw [depD, PyData.depth]; have := depDs_le ds; omega
  | .list ds => by rw [depD, PyData.depth]; have := depDs_le ds; omega
  | .str _ => by simp [depD]
  | .none => by simp [depD]
  | .int _ => by simp [depD]
  | .bool _ => by simp [depD]
  | .dict _ => by simp [depD]
theorem depDs_le : ∀ ds : List D, depDs ds ≤ PyData.depthAll ds
  | [] => by simp [depDs]
  | d :: ds => by
    have h1 := depD_le d
    have h2 := depDs_le ds
    rw [depDs, PyData.depthAll]
    omega
end
mutual
theorem spots_wt : ∀ (d : D) (pre : List Nat), (spotsL d pre).length ≤ d.weight + 1
  | .tuple ds, pre => by
    have := spotss_wt ds 0 pre
    rw [spotsL, List.length_cons, PyData.weight]
    omega
  | .str _, pre => by simp [spotsL]
  | .none, pre => by simp [spotsL]
  | .int _, pre => by simp [spotsL]
  | .bool _, pre => by simp [spotsL]
  | .list _, pre => by simp [spotsL]
  | .dict _, pre => by simp [spotsL]
theorem spotss_wt : ∀ (ds : List D) (k : Nat) (pre : List Nat), (spotsLs ds k pre).length ≤ PyData.weightAll ds
  | [], _, _ => by simp [spotsLs]
  | d :: ds, k, pre => by
    have h1 := spots_wt d (pre ++ [k])
    have h2 := spotss_wt ds (k + 1) pre
    rw [spotsLs, List.length_append, PyData.weightAll]
    omega
end
theorem pap_get : ∀ (p : List Nat) {d y : D}, getP d p = some y → papD d = true → papD y = true
  | [], d, y, h, hs => by
    have e : getP d [] = some d := by cases d <;> rfl
    rw [e] at h
    cases h
    exact hs
  | k :: p, d, y, h, hs => by
    obtain ⟨ds, z, rfl, h1, h2⟩ := getP_cons h
    exact pap_get p h2 ((pap_tup.mp hs).2 z (List.mem_of_getElem? h1))
/-- a paper -/
structure Paper (d : D) : Prop where
  pap : papD d = true
  dep : d.depth ≤ 18
  wt : d.weight ≤ 480000
theorem Paper.small {d : D} (h : Paper d) : Small d 20 480000 := by
  obtain ⟨h1, h2, h3, h4⟩ := pap_be d h.pap
  exact ⟨h2, Nat.le_trans h.dep (by decide), h.wt, h3, h4⟩
theorem Paper.rpr {d : D} (h : Paper d) : RprOk d := h.small.rpr (by decide) (by decide)
theorem Paper.td {d : D} (h : Paper d) : tdD d = true := be_td d (pap_be d h.pap).1
theorem Paper.ok {d : D} (h : Paper d) : RprOk d ∧ tdD d = true := ⟨h.rpr, h.td⟩
theorem Paper.spots {d : D} (h : Paper d) : (spotsL d []).length ≤ 900000 ∧ ∀ p ∈ spotsL d [], ∃ y, getP d p = some y ∧ bdD y = true ∧ p.length ≤ 18 := by
  refine ⟨?_, fun p hp => ?_⟩
  · have := spots_wt d []
    have := h.wt
    omega
  · obtain ⟨rel, y, e, h1, h2, h3⟩ := spot_ok d [] (pap_be d h.pap).1 p hp
    rw [List.nil_append] at e
    subst e
    have := depD_le d
    have := h.dep
    exact ⟨y, h1, be_bd h2, by omega⟩
theorem put_weight2 : ∀ (p : List Nat) {d y : D} (x : D), getP d p = some y → (putP d p x).weight + y.weight ≤ d.weight + x.weight
  | [], d, y, x, h => by
    have e : getP d [] = some d := by cases d <;> rfl
    have e2 : putP d [] x = x := by cases d <;> rfl
    rw [e] at h
    cases h
    rw [e2]
    omega
  | k :: p, d, y, x, h => by
    obtain ⟨ds, z, rfl, h1, h2⟩ := getP_cons h
    have e : putP (.tuple ds) (k :: p) x = .tuple (ds.set k (putP z p x)) := by
      show (match ds[k]? with | some d => PyData.tuple (ds.set k (putP d p x)) | none => .tuple ds) = _
      rw [h1]
    have ih := put_weight2 p x h2
    have w := weightAll_set (putP z p x) h1
    rw [e, PyData.weight, PyData.weight]
    omega
theorem Paper.near {es : List D} {v : D} (hP : Paper (.tuple es)) (h : NearB (.tuple es) es v) : RprOk v ∧ tdD v = true := by
  have hs := hP.small
  have td := hP.td
  obtain ⟨t1, t2⟩ := td_tup td
  obtain ⟨l4, _⟩ := pap_tup.mp hP.pap
  have hi : ∀ d ∈ es, d.canLay0 = true ∧ d.depth ≤ 19 ∧ d.intsShort 13 = true ∧ d.showable = true := hs.items
  have hw : PyData.weightAll es ≤ 480000 := by have := hs.wt; rwa [PyData.weight] at this
  have fin : ∀ {x : D}, Small x 20 480000 → RprOk x := fun q => q.rpr (by omega) (by omega)
  rcases h with rfl | rfl | rfl | ⟨h1, hh, rfl⟩ | rfl | h | ⟨p, y, x, h1, h2, h3, rfl⟩
  · exact ⟨fin hs, td⟩
  · exact ⟨fin (Small.tup (dp := 19) hi hw).2, td_mkL t1 t2⟩
  · refine ⟨Small.rpr (dp := 21) (w := 480100) (Small.tup (ds := es ++ [.int 0]) (dp := 20) (w := 480100) (fun d hd => (List.mem_append.mp hd).elim (fun q => ?_) fun q => ?_) ?_).1 (by omega) (by omega), td_mk (by rw [List.length_append, List.length_singleton]; omega) fun d hd => (List.mem_append.mp hd).elim (t2 d) fun q => by rw [List.mem_singleton.mp q]; rfl⟩
    · obtain ⟨q1, q2, q3, q4⟩ := hi d q
      exact ⟨q1, by omega, q3, q4⟩
    · rw [List.mem_singleton.mp q]
      obtain ⟨q1, q2, q3, q4, q5⟩ := small_b (a := 1) (w := 60) (d := .int 0) (by decide +kernel)
      exact ⟨q1, by omega, q4, q5⟩
    · rw [weightAll_app]
      have e : PyData.weightAll [PyData.int 0] ≤ 60 := by decide +kernel
      omega
  · have hm : h1 ∈ es := List.mem_of_getElem? hh
    refine ⟨fin (Small.tup (ds := [h1]) (dp := 19) (w := 480000) (fun d hd => by rw [List.mem_singleton.mp hd]; exact hi h1 hm) ?_).1, td_mk (by show 1 ≤ 100000; omega) fun d hd => by rw [List.mem_singleton.mp hd]; exact t2 _ hm⟩
    have := weight_mem hm
    have e2 : PyData.weightAll [h1] = PyData.weight h1 + 1 + 0 := by rw [PyData.weightAll, PyData.weightAll]
    omega
  · exact ⟨fin (Small.tup (dp := 19) (fun d hd => hi d (List.mem_reverse.mp hd)) (by rw [weightAll_rev]; exact hw)).1, td_mk (by rw [List.length_reverse]; omega) fun d hd => t2 d (List.mem_reverse.mp hd)⟩
  · refine ⟨?_, odd_td v h⟩
    rcases odd_small h with rfl | q
    · exact Or.inr rfl
    · exact q.rpr (by omega) (by omega)
  · obtain ⟨y', e1, b1, b2⟩ := hP.spots.2 p h2
    rw [h1] at e1
    cases e1
    have py := pap_get p h1 hP.pap
    have ys := get_small p h1 hs
    have pw := put_weight2 p x h1
    have pd := put_depth p (.tuple es) x
    have hd := hP.dep
    have hwt := hP.wt
    have yw : y.weight ≤ 480000 := ys.wt
    have go : x.canLay0 = true → x.depth ≤ 24 → x.weight ≤ 2 * y.weight + 60 → x.intsShort 13 = true → x.showable = true → RprOk (putP (.tuple es) p x) := fun x1 x2 x3 x4 x5 =>
      rpr_small (put_lay p _ x hs.lay x1) (by omega) (by omega) (put_ints p _ x hs.shortI x4) (put_show p _ x hs.show_ x5)
    by_cases hint : ∃ i, y = .int i
    · obtain ⟨i, rfl⟩ := hint
      rw [papD, decide_eq_true_eq] at py
      obtain ⟨z1, z2⟩ := (int_at700 py).1 x h3
      have := z1.dep
      have := z1.wt
      exact ⟨go z1.lay (by omega) (by omega) z1.shortI z1.show_, put_td p _ x td z2⟩
    · have b3 : ∀ i, y ≠ .int i := fun i e => hint ⟨i, e⟩
      have yx : Small y (20 + 1) y.weight := ⟨ys.lay, Nat.le_trans ys.dep (by decide), Nat.le_refl _, ys.shortI, ys.show_⟩
      have hx := bent_small (a := 20) yx b1 b3 h3
      have := hx.dep
      exact ⟨go hx.lay (by omega) hx.wt hx.shortI hx.show_, put_td p _ x td (bent_td (get_td p h1 td) b1 (fun i e => absurd e (b3 i)) h3)⟩
/-! ### parts of papers -/
structure Part (ds : List D) (w : Nat) : Prop where
  it : ∀ d ∈ ds, papD d = true ∧ d.depth ≤ 16
  wt : PyData.weightAll ds ≤ w
theorem weightAll_len : ∀ ds : List D, ds.length ≤ PyData.weightAll ds
  | [] => Nat.zero_le _
  | d :: ds => by
    have := weightAll_len ds
    rw [PyData.weightAll, List.length_cons]
    omega
theorem Part.mono {ds : List D} {a b : Nat} (h : Part ds a) (l : a ≤ b) : Part ds b := ⟨h.it, Nat.le_trans h.wt l⟩
theorem Part.nil {w : Nat} : Part [] w := ⟨fun d h => (nomatch h), Nat.zero_le _⟩
theorem Part.rev {ds : List D} {w : Nat} (h : Part ds w) : Part ds.reverse w := ⟨fun d hd => h.it d (List.mem_reverse.mp hd), by rw [weightAll_rev]; exact h.wt⟩
theorem Part.app {a b : List D} {v w : Nat} (h : Part a v) (g : Part b w) : Part (a ++ b) (v + w) := ⟨fun d hd => (List.mem_append.mp hd).elim (h.it d) (g.it d), by rw [weightAll_app]; have := h.wt; have := g.wt; omega⟩
theorem Part.drop {ds : List D} {w : Nat} (k : Nat) (h : Part ds w) : Part (ds.drop k) w := ⟨fun d hd => h.it d (List.mem_of_mem_drop hd), Nat.le_trans (weightAll_drop k ds) h.wt⟩
theorem Part.take {ds : List D} {w : Nat} (k : Nat) (h : Part ds w) : Part (ds.take k) w := ⟨fun d hd => h.it d (List.mem_of_mem_take hd), Nat.le_trans (weightAll_take k ds) h.wt⟩
theorem Part.cut {ds : List D} {w : Nat} (lo hi : Option Int) (h : Part ds w) : Part (cutD ds lo hi) w := by
  unfold cutD
  exact (h.drop _).take _
theorem Part.one {d : D} {w : Nat} (h1 : papD d = true) (h2 : d.depth ≤ 16) (h3 : d.weight + 1 ≤ w) : Part [d] w := by
  refine ⟨fun x hx => ?_, ?_⟩
  · rw [List.mem_singleton.mp hx]
    exact ⟨h1, h2⟩
  · rw [PyData.weightAll, PyData.weightAll]
    omega
theorem Part.len {ds : List D} {w : Nat} (h : Part ds w) : ds.length ≤ w := Nat.le_trans (weightAll_len ds) h.wt
/-- each item alike -/
theorem weightAll_le {c : Nat} : ∀ {ds : List D}, (∀ d ∈ ds, d.weight ≤ c) → PyData.weightAll ds ≤ (c + 1) * ds.length
  | [], _ => Nat.zero_le _
  | d :: ds, h => by
    have h1 := weightAll_le (c := c) (ds := ds) fun x hx => h x (List.mem_cons_of_mem _ hx)
    have h2 := h d List.mem_cons_self
    rw [PyData.weightAll, List.length_cons, Nat.mul_succ]
    omega
theorem Part.all {ds : List D} {c n w : Nat} (h : ∀ d ∈ ds, papD d = true ∧ d.depth ≤ 16 ∧ d.weight ≤ c) (l : ds.length ≤ n) (hw : (c + 1) * n ≤ w) : Part ds w :=
  ⟨fun d hd => ⟨(h d hd).1, (h d hd).2.1⟩, Nat.le_trans (weightAll_le fun d hd => (h d hd).2.2) (Nat.le_trans (Nat.mul_le_mul_left _ l) hw)⟩
theorem Part.tup {ds : List D} {w : Nat} (h : Part ds w) (hl : w ≤ 40000) {n : Nat} (hd : ∀ d ∈ ds, d.depth ≤ n) : papD (.tuple ds) = true ∧ PyData.depth (.tuple ds) ≤ n + 1 ∧ PyData.weight (.tuple ds) ≤ w := by
  refine ⟨pap_tup.mpr ⟨Nat.le_trans h.len hl, fun d hd => (h.it d hd).1⟩, ?_, by rw [PyData.weight]; exact h.wt⟩
  rw [PyData.depth]
  have := depthAll_le.mpr hd
  omega
theorem Part.paper {ds : List D} {w : Nat} (h : Part ds w) (hl : w ≤ 40000) : Paper (.tuple ds) := by
  obtain ⟨h1, h2, h3⟩ := h.tup hl (n := 16) fun d hd => (h.it d hd).2
  exact ⟨h1, by omega, by omega⟩
theorem Part.paper2 {ds : List D} {w : Nat} (h : Part ds w) (hl : ds.length ≤ 40000) (hw : w ≤ 480000) : Paper (.tuple ds) := by
  refine ⟨pap_tup.mpr ⟨hl, fun d hd => (h.it d hd).1⟩, ?_, by rw [PyData.weight]; exact Nat.le_trans h.wt hw⟩
  rw [PyData.depth]
  have := depthAll_le.mpr fun d hd => (h.it d hd).2
  omega
theorem int_pap {i : Int} (h : i.natAbs ≤ 700) : papD (.int i) = true ∧ PyData.depth (.int i) = 0 ∧ PyData.weight (.int i) ≤ 10 := ⟨by rw [papD, decide_eq_true h], rfl, (int_at700 h).2.1.wt⟩
theorem nat_part {l : List Nat} {n : Nat} (h : ∀ k ∈ l, k ≤ 700) (hl : l.length ≤ n) : Part (natD l) (11 * n) := by
  refine Part.all (c := 10) (n := n) (fun d hd => ?_) (by rw [natD_length]; exact hl) (Nat.le_refl _)
  obtain ⟨k, hk, rfl⟩ := natD_mem hd
  have := h k hk
  obtain ⟨a, b, c⟩ := int_pap (i := (k : Int)) (by omega)
  exact ⟨a, by omega, c⟩
end DL

/-! K01j: drawn formulas are small papers. -/
namespace DL
open PySem L2
/-- a name that a law draws -/
def nmB (s : Str) : Bool := decide (s.length ≤ 12) && PyData.strOk s
theorem nmB_len {s : Str} (h : nmB s = true) : s.cps.size ≤ 12 ∧ PyData.strOk s = true := by
  unfold nmB at h
  rw [Bool.and_eq_true, decide_eq_true_eq] at h
  exact h
theorem fm_wt : ∀ f : Fm, (∀ s ∈ f.nms, nmB s = true) → (PyData.weight f.d + 9 ≤ 30 * 2 ^ f.dep ∧ PyData.depth f.d = f.dep + 1) ∧ PyData.canLay0 f.d = true ∧ PyData.intsShort 13 f.d = true ∧ PyData.showable f.d = true
  | .all, _ => by decide +kernel
  | .none, _ => by decide +kernel
  | .name s, h => by
    obtain ⟨h1, h2⟩ := nmB_len (h s (by simp [Fm.nms]))
    have e1 : PyData.canLay0 (.str "name") = true := by decide +kernel
    have e2 : ("name" : Str).cps.size = 4 := by decide +kernel
    refine ⟨⟨?_, ?_⟩, ?_, ?_, ?_⟩
    · simp only [Fm.d, Fm.dep, PyData.weight, PyData.weightAll, e2]
      omega
    · simp [Fm.d, Fm.dep, PyData.depth, PyData.depthAll]
    · simp only [Fm.d, PyData.canLay0, PyData.canLayAll0, h2]
      decide +kernel
    · simp [Fm.d, PyData.intsShort, PyData.intsShortAll]
    · simp [Fm.d, PyData.showable, PyData.showableAll]
  | .not a, h => by
    obtain ⟨⟨h1, h2⟩, h3, h4, h5⟩ := fm_wt a fun s hs => h s (by simp [Fm.nms, hs])
    have e2 : ("not" : Str).cps.size = 3 := by decide +kernel
    have e3 : PyData.strOk "not" = true := by decide +kernel
    refine ⟨⟨?_, ?_⟩, ?_, ?_, ?_⟩
    · simp only [Fm.d, Fm.dep, PyData.weight, PyData.weightAll, e2, Nat.pow_succ]
      have : 1 ≤ 2 ^ a.dep := Nat.one_le_two_pow
      omega
    · simp [Fm.d, Fm.dep, PyData.depth, PyData.depthAll, h2]
    · simp [Fm.d, PyData.canLay0, PyData.canLayAll0, h3, e3]
    · simp [Fm.d, PyData.intsShort, PyData.intsShortAll, h4]
    · simp [Fm.d, PyData.showable, PyData.showableAll, h5]
  | .both a b, h => by
    obtain ⟨⟨h1, h2⟩, h3, h4, h5⟩ := fm_wt a fun s hs => h s (by simp [Fm.nms, hs])
    obtain ⟨⟨g1, g2⟩, g3, g4, g5⟩ := fm_wt b fun s hs => h s (by simp [Fm.nms, hs])
    have e2 : ("both" : Str).cps.size = 4 := by decide +kernel
    have e3 : PyData.strOk "both" = true := by decide +kernel
    have m1 : 2 ^ a.dep ≤ 2 ^ max a.dep b.dep := Nat.pow_le_pow_right (by decide) (Nat.le_max_left _ _)
    have m2 : 2 ^ b.dep ≤ 2 ^ max a.dep b.dep := Nat.pow_le_pow_right (by decide) (Nat.le_max_right _ _)
    refine ⟨⟨?_, ?_⟩, ?_, ?_, ?_⟩
    · simp only [Fm.d, Fm.dep, PyData.weight, PyData.weightAll, e2, Nat.pow_succ]
      omega
    · simp only [Fm.d, Fm.dep, PyData.depth, PyData.depthAll, h2, g2]
      omega
    · simp [Fm.d, PyData.canLay0, PyData.canLayAll0, h3, g3, e3]
    · simp [Fm.d, PyData.intsShort, PyData.intsShortAll, h4, g4]
    · simp [Fm.d, PyData.showable, PyData.showableAll, h5, g5]
  | .either a b, h => by
    obtain ⟨⟨h1, h2⟩, h3, h4, h5⟩ := fm_wt a fun s hs => h s (by simp [Fm.nms, hs])
    obtain ⟨⟨g1, g2⟩, g3, g4, g5⟩ := fm_wt b fun s hs => h s (by simp [Fm.nms, hs])
    have e2 : ("either" : Str).cps.size = 6 := by decide +kernel
    have e3 : PyData.strOk "either" = true := by decide +kernel
    have m1 : 2 ^ a.dep ≤ 2 ^ max a.dep b.dep := Nat.pow_le_pow_right (by decide) (Nat.le_max_left _ _)
    have m2 : 2 ^ b.dep ≤ 2 ^ max a.dep b.dep := Nat.pow_le_pow_right (by decide) (Nat.le_max_right _ _)
    refine ⟨⟨?_, ?_⟩, ?_, ?_, ?_⟩
    · simp only [Fm.d, Fm.dep, PyData.weight, PyData.weightAll, e2, Nat.pow_succ]
      omega
    · simp only [Fm.d, Fm.dep, PyData.depth, PyData.depthAll, h2, g2]
      omega
    · simp [Fm.d, PyData.canLay0, PyData.canLayAll0, h3, g3, e3]
    · simp [Fm.d, PyData.intsShort, PyData.intsShortAll, h4, g4]
    · simp [Fm.d, PyData.showable, PyData.showableAll, h5, g5]
theorem fm_small {f : Fm} (hd : f.dep ≤ 4) (h : ∀ s ∈ f.nms, nmB s = true) : Small f.d 12 100000 := by
  obtain ⟨⟨h1, h2⟩, h3, h4, h5⟩ := fm_wt f h
  have : 2 ^ f.dep ≤ 2 ^ 4 := Nat.pow_le_pow_right (by decide) hd
  exact ⟨h3, by omega, by omega, h4, h5⟩
mutual
/-- no ints in it -/
def niD : D → Bool
  | .tuple ds => niDs ds
  | .int _ => false
  | _ => true
def niDs : List D → Bool
  | [] => true
  | d :: ds => niD d && niDs ds
end
theorem niDs_get : ∀ {ds : List D} {k : Nat} {d : D}, niDs ds = true → ds[k]? = some d → niD d = true
  | [], _, _, _, h => by simp at h
  | x :: ds, 0, d, h, e => by
    rw [niDs, Bool.and_eq_true] at h
    rw [← Option.some.inj e]
    exact h.1
  | x :: ds, k + 1, d, h, e => by
    rw [niDs, Bool.and_eq_true] at h
    exact niDs_get h.2 (by simpa using e)
theorem ni_get : ∀ (p : List Nat) {d y : D}, getP d p = some y → niD d = true → niD y = true
  | [], d, y, h, hs => by
    have e : getP d [] = some d := by cases d <;> rfl
    rw [e] at h
    cases h
    exact hs
  | k :: p, d, y, h, hs => by
    obtain ⟨ds, z, rfl, h1, h2⟩ := getP_cons h
    rw [niD] at hs
    exact ni_get p h2 (niDs_get hs h1)
theorem ni_fm : ∀ f : Fm, niD f.d = true
  | .all => rfl
  | .none => rfl
  | .name s => rfl
  | .not a => by simp [Fm.d, niD, niDs, ni_fm a]
  | .both a b => by simp [Fm.d, niD, niDs, ni_fm a, ni_fm b]
  | .either a b => by simp [Fm.d, niD, niDs, ni_fm a, ni_fm b]
theorem fm_tuple (f : Fm) : ∃ es, f.d = .tuple es ∧ es ≠ [] ∧ es.length ≤ 3 := by
  cases f <;> exact ⟨_, rfl, by simp, by simp⟩
theorem fm_td {f : Fm} (h : ∀ s ∈ f.nms, nmB s = true) : beD f.d = true ∧ tdD f.d = true := by
  have b := fm_be f fun s hs => by
    have := (nmB_len (h s hs)).1
    show s.cps.size ≤ 100000
    omega
  exact ⟨b, be_td _ b⟩
/-- what is asked of a formula as a paper -/
theorem fm_spotok {f : Fm} (hd : f.dep ≤ 4) (h : ∀ s ∈ f.nms, nmB s = true) : (spotsL f.d []).length ≤ 96 ∧ ∀ p ∈ spotsL f.d [], ∃ y, getP f.d p = some y ∧ bdD y = true ∧ p.length ≤ 5 := by
  refine ⟨?_, fun p hp => ?_⟩
  · have h1 := fm_spots f []
    have : 2 ^ f.dep ≤ 2 ^ 4 := Nat.pow_le_pow_right (by decide) hd
    omega
  · obtain ⟨rel, y, e, h1, h2, h3⟩ := spot_ok f.d [] (fm_td h).1 p hp
    rw [List.nil_append] at e
    subst e
    rw [depD_fm] at h3
    exact ⟨y, h1, be_bd h2, by omega⟩
theorem fm_near {f : Fm} {es : List D} {v : D} (hd : f.dep ≤ 4) (h : ∀ s ∈ f.nms, nmB s = true) (he : f.d = .tuple es) (hl : es.length ≤ 3) (hv : NearB (.tuple es) es v) : RprOk v ∧ tdD v = true := by
  have sp : ∀ p ∈ spotsL (.tuple es) [], ∀ y, getP (.tuple es) p = some y → bdD y = true ∧ p.length ≤ 12 ∧ ∀ i, y ≠ .int i := fun p hp y hy => by
    rw [← he] at hp hy
    obtain ⟨y', e1, e2, e3⟩ := (fm_spotok hd h).2 p hp
    rw [hy] at e1
    cases e1
    refine ⟨e2, by omega, fun i e => ?_⟩
    have := ni_get p hy (ni_fm f)
    rw [e] at this
    cases this
  refine ⟨near_rpr (he ▸ fm_small hd h) sp hv, near_td (he ▸ (fm_td h).2) (by omega) (fun p hp y hy => ⟨(sp p hp y hy).1, (sp p hp y hy).2.2⟩) hv⟩
/-- formulas are told -/
theorem isFm_fm : ∀ (f : Fm) (n : Nat), (∀ s ∈ f.nms, isW s = true) → isFm n f.d = decide (f.dep < n)
  | f, 0, _ => by
    have e : isFm 0 f.d = false := by cases f <;> rfl
    rw [e]
    rfl
  | .all, n + 1, _ => by simp [Fm.d, isFm, Fm.dep]
  | .none, n + 1, _ => by simp [Fm.d, isFm, Fm.dep]
  | .name s, n + 1, h => by
    have e : isWD (.str s) = true := h s (by simp [Fm.nms])
    simp (decide := true) [Fm.d, isFm, Fm.dep, e]
  | .not a, n + 1, h => by
    have ih := isFm_fm a n fun s hs => h s (by simp [Fm.nms, hs])
    have e : isFm (n + 1) (Fm.not a).d = isFm n a.d := rfl
    rw [e, ih, Fm.dep, decide_eq_decide]
    omega
  | .both a b, n + 1, h => by
    have ia := isFm_fm a n fun s hs => h s (by simp [Fm.nms, hs])
    have ib := isFm_fm b n fun s hs => h s (by simp [Fm.nms, hs])
    have e : isFm (n + 1) (Fm.both a b).d = (isFm n a.d && isFm n b.d) := rfl
    rw [e, ia, ib, Fm.dep, Bool.eq_iff_iff]
    simp only [Bool.and_eq_true, decide_eq_true_eq]
    omega
  | .either a b, n + 1, h => by
    have ia := isFm_fm a n fun s hs => h s (by simp [Fm.nms, hs])
    have ib := isFm_fm b n fun s hs => h s (by simp [Fm.nms, hs])
    have e : isFm (n + 1) (Fm.either a b).d = (isFm n a.d && isFm n b.d) := rfl
    rw [e, ia, ib, Fm.dep, Bool.eq_iff_iff]
    simp only [Bool.and_eq_true, decide_eq_true_eq]
    omega
end DL

/-! RT: what is a room, told of any data. -/
namespace DL
open PySem L2
/-! ### words over comprehensions -/
theorem foldC_sel {tst : En → (Bool → Prop) → Prop} {el : En → (R → Prop) → Prop} {tg : CT} {env : En} (p : D → Bool) {items : List D} {Q : List D → Prop}
    (h : ∀ d ∈ items, ∀ (Qt : R → Prop) (Qf : Prop), (p d = true → Qt (.v d)) → (p d = false → Qf) → tgD tg d env fun e => tst e fun b => if b = true then el e Qt else Qf) (l : items.length ≤ sizeLine) (q : Q (items.filter p)) : foldC tst el tg env items [] Q := by
  refine foldC_fm p id h (by simpa using l) ?_
  rw [List.nil_append, List.map_id]
  exact q
theorem boolsD_mp {α : Type} (f : α → Bool) : ∀ l : List α, boolsD (l.map fun x => .bool (f x)) = some (l.map f)
  | [] => rfl
  | x :: l => by
    show (boolsD (l.map fun x => PyData.bool (f x))).map (f x :: ·) = _
    rw [boolsD_mp f l]
    rfl
theorem all_mp {α : Type} (f : α → Bool) (l : List α) : (l.map f).all id = l.all f := by rw [List.all_map]; rfl
theorem len_eq0 {α : Type} (p : α → Bool) (l : List α) : decide (((l.filter p).length : Int) = 0) = !(l.any p) := by
  rw [Bool.eq_iff_iff, decide_eq_true_eq, Bool.not_eq_true', List.any_eq_false]
  constructor
  · intro h x hx
    have z : l.filter p = [] := List.eq_nil_of_length_eq_zero (by omega)
    exact List.filter_eq_nil_iff.mp z x hx
  · intro h
    rw [List.filter_eq_nil_iff.mpr h]
    rfl
theorem len_pos {α : Type} (p : α → Bool) (l : List α) : decide (0 < ((l.filter p).length : Int)) = l.any p := by
  have h := len_eq0 p l
  have e : decide (0 < ((l.filter p).length : Int)) = !decide (((l.filter p).length : Int) = 0) := by
    rw [← decide_not, decide_eq_decide]
    omega
  rw [e, h, Bool.not_not]
/-- all, any: simp leaves them -/
def allB {α : Type} (f : α → Bool) (l : List α) : Bool := l.all f
def anyB {α : Type} (f : α → Bool) (l : List α) : Bool := l.any f
theorem allB_eq {α : Type} (f : α → Bool) (l : List α) : allB f l = l.all f := rfl
theorem anyB_eq {α : Type} (f : α → Bool) (l : List α) : anyB f l = l.any f := rfl
theorem all_of {α : Type} {f : α → Bool} {l : List α} {Q : R → Prop} (q : Q (.v (.bool (allB f l)))) : dB1 .all (R.nw (l.map fun x => .bool (f x))).d Q := by
  unfold dB1
  simp only [R.d, boolsD_mp, all_mp]
  exact q
theorem eq0_of {G : Gm} {env : En} {p : D → Bool} {l : List D} {Q : Bool → Prop} (q : Q (!anyB p l)) : dB1 .len (R.nw (l.filter p)).d fun x => wpE G (.int 0) env fun y => dCmp .Eq x.d y.d Q := by
  simp only [dB1, R.d, wpE, dCmp, dEq]
  rw [len_eq0]
  exact q
theorem gt0_of {G : Gm} {env : En} {p : D → Bool} {l : List D} {Q : Bool → Prop} (q : Q (anyB p l)) : dB1 .len (R.nw (l.filter p)).d fun x => wpE G (.int 0) env fun y => dCmp .Gt x.d y.d Q := by
  simp only [dB1, R.d, wpE, dCmp]
  rw [len_pos]
  exact q
/-- items that stand for others -/
theorem foldC_fmL {α : Type} {tst : En → (Bool → Prop) → Prop} {el : En → (R → Prop) → Prop} {tg : CT} {env : En} (f : α → D) (p : α → Bool) (g : α → D) : ∀ {l : List α} {acc : List D} {Q : List D → Prop},
    (∀ a ∈ l, ∀ (Qt : R → Prop) (Qf : Prop), (p a = true → Qt (.v (g a))) → (p a = false → Qf) → tgD tg (f a) env fun e => tst e fun b => if b = true then el e Qt else Qf) →
    acc.length + l.length ≤ sizeLine → Q (acc ++ (l.filter p).map g) → foldC tst el tg env (l.map f) acc Q
  | [], acc, Q, _, _, q => by
    rw [List.filter_nil, List.map_nil, List.append_nil] at q
    exact q
  | a :: l, acc, Q, h, z, q => by
    rw [List.length_cons] at z
    refine h a List.mem_cons_self _ _ (fun e => ?_) (fun e => ?_)
    · refine ⟨by omega, foldC_fmL f p g (fun x hx => h x (List.mem_cons_of_mem _ hx)) (by rw [List.length_append, List.length_singleton]; omega) ?_⟩
      rw [List.filter_cons, if_pos e, List.map_cons] at q
      rw [List.append_assoc]
      exact q
    · refine foldC_fmL f p g (fun x hx => h x (List.mem_cons_of_mem _ hx)) (by omega) ?_
      rw [List.filter_cons, if_neg (by rw [e]; decide)] at q
      exact q
theorem foldC_mapL {α : Type} {tst : En → (Bool → Prop) → Prop} {el : En → (R → Prop) → Prop} {tg : CT} {env : En} (f g : α → D) {l : List α} {Q : List D → Prop}
    (h : ∀ a ∈ l, ∀ (Qt : R → Prop) (Qf : Prop), Qt (.v (g a)) → tgD tg (f a) env fun e => tst e fun b => if b = true then el e Qt else Qf) (z : l.length ≤ sizeLine) (q : Q (l.map g)) : foldC tst el tg env (l.map f) [] Q := by
  refine foldC_fmL f (fun _ => true) g (fun a ha Qt Qf h1 _ => h a ha Qt Qf (h1 rfl)) (by simpa using z) ?_
  rw [List.nil_append, List.filter_eq_self.mpr fun _ _ => rfl]
  exact q
theorem foldC_selL {α : Type} {tst : En → (Bool → Prop) → Prop} {el : En → (R → Prop) → Prop} {tg : CT} {env : En} (f : α → D) (p : α → Bool) {l : List α} {Q : List D → Prop}
    (h : ∀ a ∈ l, ∀ (Qt : R → Prop) (Qf : Prop), (p a = true → Qt (.v (f a))) → (p a = false → Qf) → tgD tg (f a) env fun e => tst e fun b => if b = true then el e Qt else Qf) (z : l.length ≤ sizeLine) (q : Q ((l.filter p).map f)) : foldC tst el tg env (l.map f) [] Q := by
  refine foldC_fmL f p f h (by simpa using z) ?_
  rw [List.nil_append]
  exact q
theorem eq0_ofL {α : Type} {G : Gm} {env : En} {f : α → D} {p : α → Bool} {l : List α} {Q : Bool → Prop} (q : Q (!anyB p l)) : dB1 .len (R.nw ((l.filter p).map f)).d fun x => wpE G (.int 0) env fun y => dCmp .Eq x.d y.d Q := by
  simp only [dB1, R.d, wpE, dCmp, dEq, List.length_map]
  rw [len_eq0]
  exact q
def onI (F : Int → Bool) : D → Bool
  | .int i => F i
  | _ => false
theorem rngD_el {lo : Int} {n : Nat} {d : D} (h : d ∈ rngD lo n) : ∃ k : Nat, k < n ∧ d = .int (lo + (k : Int)) := by
  unfold rngD at h
  rw [List.mem_map] at h
  obtain ⟨k, h1, h2⟩ := h
  exact ⟨k, List.mem_range.mp h1, h2.symm⟩
theorem all_rng (F : Int → Bool) (lo : Int) (n : Nat) : allB (onI F) (rngD lo n) = (List.range n).all fun k => F (lo + (k : Int)) := by
  unfold allB rngD
  rw [List.all_map]
  rfl
theorem any_rng (F : Int → Bool) (lo : Int) (n : Nat) : anyB (onI F) (rngD lo n) = (List.range n).any fun k => F (lo + (k : Int)) := by
  unfold anyB rngD
  rw [List.any_map]
  rfl
theorem foldC_rng {tst : En → (Bool → Prop) → Prop} {el : En → (R → Prop) → Prop} {tg : CT} {env : En} {lo : Int} {n : Nat} {Q : List D → Prop} (F : Int → Bool)
    (h : ∀ k : Nat, k < n → ∀ (Qt : R → Prop) (Qf : Prop), Qt (.v (.bool (F (lo + (k : Int))))) → tgD tg (.int (lo + (k : Int))) env fun e => tst e fun b => if b = true then el e Qt else Qf) (l : n ≤ sizeLine) (q : Q ((rngD lo n).map fun d => .bool (onI F d))) : foldC tst el tg env (rngD lo n) [] Q :=
  foldC_map (fun d => .bool (onI F d)) (fun d hd Qt Qf q1 => by
    obtain ⟨k, hk, rfl⟩ := rngD_el hd
    exact h k hk Qt Qf q1) (by rw [rngD_length]; exact l) q
theorem foldC_rngS {tst : En → (Bool → Prop) → Prop} {el : En → (R → Prop) → Prop} {tg : CT} {env : En} {lo : Int} {n : Nat} {Q : List D → Prop} (F : Int → Bool)
    (h : ∀ k : Nat, k < n → ∀ (Qt : R → Prop) (Qf : Prop), (F (lo + (k : Int)) = true → Qt (.v (.int (lo + (k : Int))))) → (F (lo + (k : Int)) = false → Qf) → tgD tg (.int (lo + (k : Int))) env fun e => tst e fun b => if b = true then el e Qt else Qf) (l : n ≤ sizeLine) (q : Q ((rngD lo n).filter (onI F))) : foldC tst el tg env (rngD lo n) [] Q :=
  foldC_sel (onI F) (fun d hd Qt Qf q1 q2 => by
    obtain ⟨k, hk, rfl⟩ := rngD_el hd
    exact h k hk Qt Qf q1 q2) (by rw [rngD_length]; exact l) q
/-! ### ints -/
def isI : D → Bool
  | .int _ => true
  | _ => false
theorem isI_int {d : D} (h : isI d = true) : ∃ i, d = .int i := by
  cases d with
  | int i => exact ⟨i, rfl⟩
  | _ => cases h
theorem intsD_map : ∀ ns : List Int, intsD (ns.map .int) = some ns
  | [] => rfl
  | n :: ns => by
    show (intsD (ns.map .int)).map (n :: ·) = _
    rw [intsD_map ns]
    rfl
theorem ints_cases : ∀ ds : List D, (∃ ns : List Int, ds = ns.map .int) ∨ (ds.all isI = false ∧ intsD ds = none)
  | [] => .inl ⟨[], rfl⟩
  | d :: ds => by
    cases e : isI d with
    | false =>
      refine .inr ⟨by rw [List.all_cons, e]; rfl, ?_⟩
      cases d with
      | int i => cases e
      | _ => rfl
    | true =>
      obtain ⟨i, rfl⟩ := isI_int e
      rcases ints_cases ds with ⟨ns, rfl⟩ | ⟨h1, h2⟩
      · exact .inl ⟨i :: ns, rfl⟩
      · refine .inr ⟨by rw [List.all_cons, h1, Bool.and_false], ?_⟩
        show (intsD ds).map (i :: ·) = none
        rw [h2]
        rfl
theorem all_isI : ∀ ns : List Int, (ns.map PyData.int).all isI = true
  | [] => rfl
  | n :: ns => by
    rw [List.map_cons, List.all_cons, all_isI ns]
    rfl
theorem int_at {ns : List Int} {k : Nat} (h : k < ns.length) : atI (ns.map PyData.int) (k : Int) = some (.int (ns.getD k 0)) := by
  refine atI_nat ?_
  rw [List.getElem?_map, List.getElem?_eq_getElem h, List.getD_eq_getElem?_getD, List.getElem?_eq_getElem h]
  rfl
/-! ### ascending points -/
def rises (b : Int) (ns : List Int) : Bool := (List.range ns.length).all fun k => decide (0 ≤ ns.getD k 0) && (decide (ns.getD k 0 < b) && (decide (k = 0) || decide (ns.getD (k - 1) 0 < ns.getD k 0)))
def riseB (b : Int) : D → Bool
  | .tuple ds => (match intsD ds with | some ns => rises b ns | none => false)
  | _ => false
theorem rises_spec {b : Int} {ns : List Int} : rises b ns = true ↔ ∀ k, k < ns.length → 0 ≤ ns.getD k 0 ∧ ns.getD k 0 < b ∧ (k = 0 ∨ ns.getD (k - 1) 0 < ns.getD k 0) := by
  unfold rises
  simp only [List.all_eq_true, List.mem_range, Bool.and_eq_true, Bool.or_eq_true, decide_eq_true_eq]
theorem rises_prog (b : Int) (ns : List Int) : (((List.range (ns.length - 1)).all fun k => decide (ns.getD k 0 < ns.getD (k + 1) 0)) && (decide (ns.length = 0) || (decide (0 ≤ ns.getD 0 0) && decide (ns.getD (ns.length - 1) 0 < b)))) = rises b ns := by
  rw [Bool.eq_iff_iff, rises_spec]
  simp only [List.all_eq_true, List.mem_range, Bool.and_eq_true, Bool.or_eq_true, decide_eq_true_eq]
  constructor
  · rintro ⟨h1, h2⟩ k hk
    have up : ∀ j, k + j < ns.length → ns.getD k 0 ≤ ns.getD (k + j) 0 := fun j => by
      induction j with
      | zero => intro _; exact Int.le_refl _
      | succ j ih =>
        intro hj
        have := ih (by omega)
        have := h1 (k + j) (by omega)
        rw [show k + (j + 1) = k + j + 1 by omega]
        omega
    have dn : ∀ j, j ≤ k → ns.getD 0 0 ≤ ns.getD j 0 := fun j => by
      induction j with
      | zero => intro _; exact Int.le_refl _
      | succ j ih =>
        intro hj
        have := ih (by omega)
        have := h1 j (by omega)
        omega
    rcases h2 with h2 | ⟨h2, h3⟩
    · omega
    · have a1 := dn k (Nat.le_refl _)
      have a2 := up (ns.length - 1 - k) (by omega)
      rw [show k + (ns.length - 1 - k) = ns.length - 1 by omega] at a2
      refine ⟨by omega, by omega, ?_⟩
      cases k with
      | zero => exact .inl rfl
      | succ k => exact .inr (h1 k (by omega))
  · intro h
    refine ⟨fun k hk => ?_, ?_⟩
    · have := (h (k + 1) (by omega)).2.2
      rcases this with e | e
      · omega
      · exact e
    · by_cases e : ns.length = 0
      · exact .inl e
      · exact .inr ⟨(h 0 (by omega)).1, (h (ns.length - 1) (by omega)).2.1⟩
/-- what rises are points -/
theorem rises_nat {b : Nat} {ns : List Int} (h : rises b ns = true) : ∃ l : List Nat, ns = l.map (fun (k : Nat) => (k : Int)) ∧ (∀ k ∈ l, k < b) ∧ l.Pairwise (· < ·) := by
  rw [rises_spec] at h
  refine ⟨ns.map Int.toNat, ?_, fun k hk => ?_, ?_⟩
  · rw [List.map_map]
    refine List.ext_getElem (by rw [List.length_map]) fun i h1 h2 => ?_
    have := (h i h1).1
    rw [List.getD_eq_getElem?_getD, List.getElem?_eq_getElem h1] at this
    have t : 0 ≤ ns[i] := this
    rw [List.getElem_map]
    show ns[i] = ((ns[i].toNat : Nat) : Int)
    omega
  · obtain ⟨x, hx, rfl⟩ := List.mem_map.mp hk
    obtain ⟨i, hi, rfl⟩ := List.getElem_of_mem hx
    obtain ⟨t1, t2, _⟩ := h i hi
    rw [List.getD_eq_getElem?_getD, List.getElem?_eq_getElem hi] at t1 t2
    have t1' : 0 ≤ ns[i] := t1
    have t2' : ns[i] < (b : Int) := t2
    omega
  · have step : ∀ j i, i + j + 1 < ns.length → ns.getD i 0 < ns.getD (i + j + 1) 0 := fun j => by
      induction j with
      | zero =>
        intro i hi
        rcases (h (i + 1) hi).2.2 with e | e
        · omega
        · exact e
      | succ j ih =>
        intro i hi
        have a1 := ih i (by omega)
        rcases (h (i + j + 1 + 1) (by omega)).2.2 with e | e
        · omega
        · rw [Nat.add_sub_cancel] at e
          rw [show i + (j + 1) + 1 = i + j + 1 + 1 by omega]
          omega
    rw [List.pairwise_map, List.pairwise_iff_getElem]
    intro i j hi hj hij
    have a := step (j - i - 1) i (by omega)
    rw [show i + (j - i - 1) + 1 = j by omega] at a
    have b0 := (h i hi).1
    rw [List.getD_eq_getElem?_getD, List.getElem?_eq_getElem hi] at a b0
    rw [List.getD_eq_getElem?_getD, List.getElem?_eq_getElem hj] at a
    have a' : ns[i] < ns[j] := a
    have b' : 0 ≤ ns[i] := b0
    omega
theorem riseB_nat {b : Nat} {d : D} (h : riseB b d = true) : ∃ l : List Nat, d = .tuple (natD l) ∧ (∀ k ∈ l, k < b) ∧ l.Pairwise (· < ·) := by
  cases d with
  | tuple ds =>
    rcases ints_cases ds with ⟨ns, rfl⟩ | ⟨_, h2⟩
    · have e : riseB b (.tuple (ns.map .int)) = rises b ns := by
        show (match intsD (ns.map .int) with | some ns => rises b ns | none => false) = _
        rw [intsD_map]
      rw [e] at h
      obtain ⟨l, rfl, h1, h2⟩ := rises_nat h
      exact ⟨l, by unfold natD; rw [List.map_map]; rfl, h1, h2⟩
    · have e : riseB b (.tuple ds) = false := by
        show (match intsD ds with | some ns => rises b ns | none => false) = _
        rw [h2]
      rw [e] at h
      cases h
  | _ => cases h
/-! ### pairs, values, rooms -/
def pairB (n : Int) : D → Bool
  | .tuple [a, b] => riseB n (.tuple [a, b])
  | _ => false
/-- each is less than the next -/
def consec (f : D → D → Bool) (ds : List D) : Bool := (List.range (ds.length - 1)).all fun k => f (ds.getD k .none) (ds.getD (k + 1) .none)
def prsB (n : Int) : D → Bool
  | .tuple ds => ds.all (pairB n) && consec PySem.W.dataLt ds
  | _ => false
def two : D → Bool
  | .tuple [_, _] => true
  | _ => false
def valB (n : Int) : D → Bool
  | .tuple [w, t] => isWD w && riseB n t
  | _ => false
def fst1 : D → D
  | .tuple (w :: _) => w
  | _ => .none
def snd1 : D → D
  | .tuple (_ :: w :: _) => w
  | _ => .none
def strLt : D → D → Bool
  | .str a, .str b => decide (a.cps.toList < b.cps.toList)
  | _, _ => false
def valsB (n : Int) : D → Bool
  | .tuple ds => ds.all (valB n) && consec (fun x y => strLt (fst1 x) (fst1 y)) ds
  | _ => false
/-- pairs of points out of data -/
def natOf : D → Nat
  | .int i => i.toNat
  | _ => 0
def prOf (d : D) : Nat × Nat := (natOf (fst1 d), natOf (snd1 d))
def itemsT : D → List D
  | .tuple ds => ds
  | _ => []
def closedB (n : Nat) (ps : List (Nat × Nat)) (d : D) : Bool := decide (oppN (apart ps) n (oppN (apart ps) n ((itemsT (snd1 d)).map natOf)) = (itemsT (snd1 d)).map natOf)
def roomB : D → Bool
  | .tuple [.int n, a, b] => (decide (1 ≤ n) && decide (n ≤ 600)) && (prsB n a && (valsB n b && (itemsT b).all (closedB n.toNat ((itemsT a).map prOf))))
  | _ => false
theorem natOf_nat (l : List Nat) : (natD l).map natOf = l := by
  unfold natD
  rw [List.map_map]
  have e : (natOf ∘ fun (k : Nat) => PyData.int (k : Int)) = id := by
    funext k
    show ((k : Int)).toNat = k
    omega
  rw [e, List.map_id]
theorem prsB_nat {n : Nat} {d : D} (h : prsB n d = true) : d = .tuple (prsD ((itemsT d).map prOf)) ∧ ∀ p ∈ (itemsT d).map prOf, p.1 < n ∧ p.2 < n := by
  cases d with
  | tuple ds =>
    have h' : (ds.all (pairB n) && consec PySem.W.dataLt ds) = true := h
    rw [Bool.and_eq_true, List.all_eq_true] at h'
    have one : ∀ x ∈ ds, x = .tuple [.int ((prOf x).1 : Int), .int ((prOf x).2 : Int)] ∧ (prOf x).1 < n ∧ (prOf x).2 < n := fun x hx => by
      have q := h'.1 x hx
      cases x with
      | tuple es =>
        rcases es with _ | ⟨a, _ | ⟨b, _ | ⟨c, r⟩⟩⟩
        · cases q
        · cases q
        · obtain ⟨l, e, l1, l2⟩ := riseB_nat (d := .tuple [a, b]) q
          have e' : [a, b] = natD l := PyData.tuple.inj e
          rcases l with _ | ⟨i, _ | ⟨j, _ | ⟨k, l⟩⟩⟩
          · cases e'
          · cases e'
          · have e1 : a = .int (i : Int) := (List.cons.inj e').1
            have e2 : b = .int (j : Int) := (List.cons.inj (List.cons.inj e').2).1
            subst e1 e2
            have i1 : (prOf (.tuple [.int (i : Int), .int (j : Int)])).1 = i := by
              show ((i : Int)).toNat = i
              omega
            have i2 : (prOf (.tuple [.int (i : Int), .int (j : Int)])).2 = j := by
              show ((j : Int)).toNat = j
              omega
            rw [i1, i2]
            exact ⟨rfl, l1 i (by simp), l1 j (by simp)⟩
          · cases e'
        · cases q
      | _ => cases q
    refine ⟨?_, fun p hp => ?_⟩
    · show PyData.tuple ds = .tuple (prsD (ds.map prOf))
      congr 1
      unfold prsD
      rw [List.map_map]
      refine (List.ext_getElem (by rw [List.length_map]) fun i h1 h2 => ?_)
      rw [List.getElem_map]
      exact (one _ (List.getElem_mem h1)).1
    · obtain ⟨x, hx, rfl⟩ := List.mem_map.mp hp
      exact (one x hx).2
  | _ => cases h
theorem prsB_lt {n : Nat} {d : D} (h : prsB n d = true) : ∀ p ∈ (itemsT d).map prOf, p.1 < p.2 ∧ p.2 < n := by
  cases d with
  | tuple ds =>
    have h' : (ds.all (pairB n) && consec PySem.W.dataLt ds) = true := h
    rw [Bool.and_eq_true, List.all_eq_true] at h'
    intro p hp
    obtain ⟨x, hx, rfl⟩ := List.mem_map.mp hp
    have q := h'.1 x hx
    cases x with
    | tuple es =>
      rcases es with _ | ⟨a, _ | ⟨b, _ | ⟨c, r⟩⟩⟩
      · cases q
      · cases q
      · obtain ⟨l, e, l1, l2⟩ := riseB_nat (d := .tuple [a, b]) q
        have e' : [a, b] = natD l := PyData.tuple.inj e
        rcases l with _ | ⟨i, _ | ⟨j, _ | ⟨k, l⟩⟩⟩
        · cases e'
        · cases e'
        · have e1 : a = .int (i : Int) := (List.cons.inj e').1
          have e2 : b = .int (j : Int) := (List.cons.inj (List.cons.inj e').2).1
          subst e1 e2
          have i1 : (prOf (.tuple [.int (i : Int), .int (j : Int)])).1 = i := by
            show ((i : Int)).toNat = i
            omega
          have i2 : (prOf (.tuple [.int (i : Int), .int (j : Int)])).2 = j := by
            show ((j : Int)).toNat = j
            omega
          rw [i1, i2]
          refine ⟨?_, l1 j (by simp)⟩
          simpa using l2
        · cases e'
      · cases q
    | _ => cases q
  | _ => cases h
theorem valB_nat {n : Nat} {d : D} (h : valB n d = true) : ∃ (w : Str) (l : List Nat), d = .tuple [.str w, .tuple (natD l)] ∧ isW w = true ∧ (∀ k ∈ l, k < n) ∧ l.Pairwise (· < ·) := by
  cases d with
  | tuple es =>
    rcases es with _ | ⟨a, _ | ⟨b, _ | ⟨c, r⟩⟩⟩
    · cases h
    · cases h
    · have h' : (isWD a && riseB n b) = true := h
      rw [Bool.and_eq_true] at h'
      obtain ⟨l, rfl, h1, h2⟩ := riseB_nat h'.2
      cases a with
      | str w => exact ⟨w, l, rfl, h'.1, h1, h2⟩
      | _ => cases h'.1
    · cases h
  | _ => cases h
theorem up_len_go {n : Nat} : ∀ (l : List Nat) (lo : Nat), lo ≤ n → (∀ k ∈ l, lo ≤ k ∧ k < n) → l.Pairwise (· < ·) → l.length + lo ≤ n
  | [], lo, h, _, _ => by simpa using h
  | a :: l, lo, _, h2, h3 => by
    obtain ⟨a1, a2⟩ := h2 a List.mem_cons_self
    rw [List.pairwise_cons] at h3
    have := up_len_go l (a + 1) (by omega) (fun k hk => ⟨h3.1 k hk, (h2 k (List.mem_cons_of_mem _ hk)).2⟩) h3.2
    rw [List.length_cons]
    omega
theorem up_len {l : List Nat} {n : Nat} (h : ∀ k ∈ l, k < n) (u : l.Pairwise (· < ·)) : l.length ≤ n := up_len_go l 0 (Nat.zero_le _) (fun k hk => ⟨Nat.zero_le _, h k hk⟩) u
theorem anyB_not {α : Type} (f : α → Bool) (l : List α) : anyB (fun d => !f d) l = !allB f l := by
  unfold anyB allB
  rw [Bool.eq_iff_iff, List.any_eq_true, Bool.not_eq_true', List.all_eq_false]
  simp
theorem at_D {ds : List D} {k : Nat} (h : k < ds.length) : atI ds (k : Int) = some (ds.getD k .none) := by
  rw [atI_ix h, List.getD_eq_getElem?_getD, List.getElem?_eq_getElem h]
  rfl
theorem getD_mem {ds : List D} {k : Nat} (h : k < ds.length) : ds.getD k .none ∈ ds := by
  rw [List.getD_eq_getElem?_getD, List.getElem?_eq_getElem h]
  exact List.getElem_mem h
/-- neighbours, asked forwards -/
def fwd (g : D → D → Bool) (ds : List D) (i : Int) : Bool := g (ds.getD i.toNat .none) (ds.getD (i.toNat + 1) .none)
/-- .. and backwards -/
def bwd (g : D → D → Bool) (ds : List D) (i : Int) : Bool := !g (ds.getD (i.toNat - 1) .none) (ds.getD i.toNat .none)
theorem fwd_all (g : D → D → Bool) (ds : List D) : allB (onI (fwd g ds)) (rngD 0 (ds.length - 1)) = consec g ds := by
  rw [all_rng]
  unfold consec fwd
  congr 1
  funext k
  have e : ((0 : Int) + (k : Int)).toNat = k := by omega
  rw [e]
theorem bwd_any (g : D → D → Bool) (ds : List D) : anyB (onI (bwd g ds)) (rngD 1 (ds.length - 1)) = !consec g ds := by
  rw [any_rng]
  have e2 : (fun k : Nat => bwd g ds (1 + (k : Int))) = fun k => !g (ds.getD k .none) (ds.getD (k + 1) .none) := by
    funext k
    unfold bwd
    have e : ((1 : Int) + (k : Int)).toNat = k + 1 := by omega
    rw [e, Nat.add_sub_cancel]
  rw [e2]
  exact anyB_not _ _
theorem pairB_shape {n : Int} {d : D} (h : pairB n d = true) : ∃ i j : Int, d = .tuple [.int i, .int j] := by
  cases d with
  | tuple es =>
    rcases es with _ | ⟨a, _ | ⟨b, _ | ⟨c, r⟩⟩⟩
    · cases h
    · cases h
    · have h' : riseB n (.tuple [a, b]) = true := h
      rcases ints_cases [a, b] with ⟨ns, e⟩ | ⟨_, h2⟩
      · rcases ns with _ | ⟨i, _ | ⟨j, _ | ⟨k, ns⟩⟩⟩
        · cases e
        · cases e
        · have e1 : a = .int i := (List.cons.inj e).1
          have e2 : b = .int j := (List.cons.inj (List.cons.inj e).2).1
          exact ⟨i, j, by rw [e1, e2]⟩
        · cases e
      · have e : riseB n (.tuple [a, b]) = false := by
          show (match intsD [a, b] with | some ns => rises n ns | none => false) = _
          rw [h2]
        rw [e] at h'
        cases h'
    · cases h
  | _ => cases h
theorem pair_alike (i j k l : Int) : PySem.W.alike (.tuple [.int i, .int j]) (.tuple [.int k, .int l]) = true ∧ SeqAt.shaped (.tuple [.int i, .int j]) = true := by
  refine ⟨by simp [PySem.W.alike, PySem.W.alikeAll], ?_⟩
  unfold SeqAt.shaped
  simp [PyData.canLay0, PyData.canLayAll0, PyData.depth, PyData.depthAll]
theorem two_shape {d : D} (h : two d = true) : ∃ a b, d = .tuple [a, b] := by
  cases d with
  | tuple es =>
    rcases es with _ | ⟨a, _ | ⟨b, _ | ⟨c, r⟩⟩⟩
    · cases h
    · cases h
    · exact ⟨a, b, rfl⟩
    · cases h
  | _ => cases h
theorem valB_two {n : Int} {d : D} (h : valB n d = true) : two d = true := by
  cases d with
  | tuple es =>
    rcases es with _ | ⟨a, _ | ⟨b, _ | ⟨c, r⟩⟩⟩
    · cases h
    · cases h
    · rfl
    · cases h
  | _ => cases h
theorem valB_word {n : Int} {d : D} (h : valB n d = true) : ∃ w t, d = .tuple [.str w, t] := by
  cases d with
  | tuple es =>
    rcases es with _ | ⟨a, _ | ⟨b, _ | ⟨c, r⟩⟩⟩
    · cases h
    · cases h
    · have h' : (isWD a && riseB n b) = true := h
      rw [Bool.and_eq_true] at h'
      cases a with
      | str w => exact ⟨w, b, rfl⟩
      | _ => cases h'.1
    · cases h
  | _ => cases h
/-! ### promises -/
def spIsI : SpD := fun ds Q => ∃ d : D, ds = [d] ∧ tdD d = true ∧ Q (.v (.bool (isI d)))
def spRise : SpD := fun ds Q => ∃ (d : D) (b : Int), ds = [d, .int 0, .int b] ∧ tdD d = true ∧ Q (.v (.bool (riseB b d)))
def spLRise : SpD := fun ds Q => ∃ (d : D) (b : Int), ds = [d, .int b] ∧ tdD d = true ∧ Q (.v (.bool (riseB b d)))
def spPrs : SpD := fun ds Q => ∃ (d : D) (b : Int), ds = [d, .int b] ∧ tdD d = true ∧ Q (.v (.bool (prsB b d)))
def spVals : SpD := fun ds Q => ∃ (d : D) (b : Int), ds = [d, .int b] ∧ tdD d = true ∧ Q (.v (.bool (valsB b d)))
def spIsRoom : SpD := fun ds Q => ∃ d : D, ds = [d] ∧ tdD d = true ∧ Q (.v (.bool (roomB d)))
end DL

/-! BENTR: rooms are papers. -/
namespace DL
open PySem L2
theorem prs_len {names : List Str} {most n : Nat} {ps : List (Nat × Nat)} {vs : List (Str × List Nat)} (h : RoomOk names most n ps vs) : ps.length ≤ n * n := by
  have u : (ps.map fun p => p.1 * n + p.2).Pairwise (· < ·) := by
    rw [List.pairwise_map]
    refine List.Pairwise.imp_of_mem (fun {p q} hp hq r => ?_) h.up
    have a := (h.prs p hp).2
    have b := (h.prs q hq).2
    rcases r with r | ⟨r1, r2⟩
    · have : (p.1 + 1) * n ≤ q.1 * n := Nat.mul_le_mul_right _ r
      rw [Nat.succ_mul] at this
      omega
    · rw [r1]
      omega
  have l := up_len (n := n * n) (fun k hk => ?_) u
  · rwa [List.length_map] at l
  · obtain ⟨p, hp, rfl⟩ := List.mem_map.mp hk
    obtain ⟨a, b⟩ := h.prs p hp
    have : (p.1 + 1) * n ≤ n * n := Nat.mul_le_mul_right _ (by omega)
    rw [Nat.succ_mul] at this
    omega
theorem pair_pap {i j : Nat} (h1 : i ≤ 700) (h2 : j ≤ 700) : papD (.tuple [.int (i : Int), .int (j : Int)]) = true ∧ PyData.depth (.tuple [.int (i : Int), .int (j : Int)]) ≤ 16 ∧ PyData.weight (.tuple [.int (i : Int), .int (j : Int)]) ≤ 22 := by
  obtain ⟨a1, a2, a3⟩ := int_pap (i := (i : Int)) (by omega)
  obtain ⟨b1, b2, b3⟩ := int_pap (i := (j : Int)) (by omega)
  refine ⟨pap_tup.mpr ⟨by show 2 ≤ 40000; omega, fun d hd => ?_⟩, ?_, ?_⟩
  · simp only [List.mem_cons, List.not_mem_nil, or_false] at hd
    rcases hd with rfl | rfl
    · exact a1
    · exact b1
  · simp only [PyData.depth, PyData.depthAll]
    omega
  · rw [PyData.weight, PyData.weightAll, PyData.weightAll, PyData.weightAll]
    omega
theorem prs_part {ps : List (Nat × Nat)} {n : Nat} (h : ∀ p ∈ ps, p.1 ≤ 700 ∧ p.2 ≤ 700) (l : ps.length ≤ n) : Part (prsD ps) (23 * n) := by
  refine Part.all (c := 22) (n := n) (fun d hd => ?_) (by unfold prsD; rw [List.length_map]; exact l) (Nat.le_refl _)
  unfold prsD at hd
  obtain ⟨p, hp, rfl⟩ := List.mem_map.mp hd
  exact pair_pap (h p hp).1 (h p hp).2
theorem str_pap {s : Str} (h : nmB s = true) : papD (.str s) = true ∧ PyData.depth (.str s) = 0 ∧ PyData.weight (.str s) ≤ 12 := by
  obtain ⟨h1, h2⟩ := nmB_len h
  have h3 : s.length ≤ 100 := by
    show s.cps.size ≤ 100
    omega
  exact ⟨by rw [papD, decide_eq_true h3, h2]; rfl, rfl, by rw [PyData.weight]; exact h1⟩
theorem val_pap {s : Str} {l : List Nat} {n : Nat} (hs : nmB s = true) (h : ∀ k ∈ l, k ≤ 700) (hl : l.length ≤ n) (hn : n ≤ 3000) : papD (.tuple [.str s, .tuple (natD l)]) = true ∧ PyData.depth (.tuple [.str s, .tuple (natD l)]) ≤ 16 ∧ PyData.weight (.tuple [.str s, .tuple (natD l)]) ≤ 11 * n + 14 := by
  obtain ⟨a1, a2, a3⟩ := str_pap hs
  have d0 : ∀ d ∈ natD l, d.depth ≤ 0 := fun d hd => by
    obtain ⟨k, hk, rfl⟩ := natD_mem hd
    exact Nat.le_refl _
  obtain ⟨b1, b2, b3⟩ := (nat_part h hl).tup (by omega) d0
  refine ⟨pap_tup.mpr ⟨by show 2 ≤ 40000; omega, fun d hd => ?_⟩, ?_, ?_⟩
  · simp only [List.mem_cons, List.not_mem_nil, or_false] at hd
    rcases hd with rfl | rfl
    · exact a1
    · exact b1
  · rw [PyData.depth, PyData.depthAll, PyData.depthAll, PyData.depthAll, a2]
    omega
  · rw [PyData.weight, PyData.weightAll, PyData.weightAll, PyData.weightAll]
    omega
theorem vals_len {names : List Str} {most n : Nat} {ps : List (Nat × Nat)} {vs : List (Str × List Nat)} (h : RoomOk names most n ps vs) : vs.length ≤ names.length := by
  have := h.nms.length_le
  rwa [List.length_map] at this
theorem vals_pt {names : List Str} {most n : Nat} {ps : List (Nat × Nat)} {vs : List (Str × List Nat)} (h : RoomOk names most n ps vs) : ∀ v ∈ vs, v.1 ∈ names ∧ (∀ k ∈ v.2, k < n) ∧ v.2.length ≤ n := fun v hv => by
  obtain ⟨some, _, e⟩ := h.cl v hv
  refine ⟨h.nms.subset (List.mem_map_of_mem hv), ?_, ?_⟩
  · rw [e]
    exact oppN_lt
  · rw [e]
    exact oppN_length
/-- a drawn room's parts -/
theorem room_parts {names : List Str} {most n : Nat} {ps : List (Nat × Nat)} {vs : List (Str × List Nat)} (h : RoomOk names most n ps vs) (hm : most ≤ 9) (hn : ∀ s ∈ names, nmB s = true) (hl : names.length ≤ 10) : Part (prsD ps) 2000 ∧ Part (valD vs) 2000 := by
  have n9 : n ≤ 9 := Nat.le_trans h.le hm
  have pl : ps.length ≤ 81 := Nat.le_trans (prs_len h) (Nat.mul_le_mul n9 n9)
  refine ⟨(prs_part (fun p hp => ?_) pl).mono (by decide), ?_⟩
  · obtain ⟨a, b⟩ := h.prs p hp
    omega
  · refine Part.all (c := 113) (n := 10) (fun d hd => ?_) (by unfold valD; rw [List.length_map]; exact Nat.le_trans (vals_len h) hl) (by decide)
    unfold valD at hd
    obtain ⟨v, hv, rfl⟩ := List.mem_map.mp hd
    obtain ⟨a1, a2, a3⟩ := vals_pt h v hv
    obtain ⟨b1, b2, b3⟩ := val_pap (n := 9) (hn v.1 a1) (fun k hk => by have := a2 k hk; omega) (by omega) (by decide)
    exact ⟨b1, b2, by omega⟩
/-- a room of parts -/
theorem room_paper {i : Int} {as bs : List D} {v w : Nat} (h : i.natAbs ≤ 700) (ha : Part as v) (hb : Part bs w) (hv : v ≤ 20000) (hw : w ≤ 20000) : Paper (.tuple [.int i, .tuple as, .tuple bs]) := by
  obtain ⟨i1, i2, i3⟩ := int_pap h
  obtain ⟨a1, a2, a3⟩ := ha.tup (by omega) (n := 16) fun d hd => (ha.it d hd).2
  obtain ⟨b1, b2, b3⟩ := hb.tup (by omega) (n := 16) fun d hd => (hb.it d hd).2
  refine ⟨pap_tup.mpr ⟨by show 3 ≤ 40000; omega, fun d hd => ?_⟩, ?_, ?_⟩
  · simp only [List.mem_cons, List.not_mem_nil, or_false] at hd
    rcases hd with rfl | rfl | rfl
    · exact i1
    · exact a1
    · exact b1
  · rw [PyData.depth, PyData.depthAll, PyData.depthAll, PyData.depthAll, PyData.depthAll, i2]
    omega
  · rw [PyData.weight, PyData.weightAll, PyData.weightAll, PyData.weightAll, PyData.weightAll]
    omega
end DL

/-! PTS: the points of formulas. -/
namespace DL
open PySem L2
def ptsF (A : Nat → Nat → Bool) (n : Nat) (val : Str → Option (List Nat)) : Fm → List Nat
  | .all => List.range n
  | .none => []
  | .name s => (val s).getD []
  | .not a => oppN A n (ptsF A n val a)
  | .both a b => (ptsF A n val a).filter fun k => decide (k ∈ ptsF A n val b)
  | .either a b => oppN A n ((oppN A n (ptsF A n val a)).filter fun k => decide (k ∈ oppN A n (ptsF A n val b)))
def VOk (val : Str → Option (List Nat)) (n : Nat) : Prop := ∀ s l, val s = some l → l.length ≤ 600 ∧ ∀ k ∈ l, k < n
theorem ptsF_ok {A : Nat → Nat → Bool} {n : Nat} {val : Str → Option (List Nat)} (hn : n ≤ 600) (hv : VOk val n) : ∀ f : Fm, (ptsF A n val f).length ≤ 600 ∧ ∀ k ∈ ptsF A n val f, k < n
  | .all => ⟨by rw [ptsF, List.length_range]; exact hn, fun k hk => List.mem_range.mp hk⟩
  | .none => ⟨Nat.zero_le _, fun k hk => nomatch hk⟩
  | .name s => by
    rw [ptsF]
    cases e : val s with
    | none => exact ⟨Nat.zero_le _, fun k hk => nomatch hk⟩
    | some l => exact hv s l e
  | .not a => ⟨Nat.le_trans oppN_length hn, oppN_lt⟩
  | .both a b => by
    obtain ⟨h1, h2⟩ := ptsF_ok hn hv a
    exact ⟨Nat.le_trans (List.length_filter_le _ _) h1, fun k hk => h2 k (List.mem_filter.mp hk).1⟩
  | .either a b => ⟨Nat.le_trans oppN_length hn, oppN_lt⟩
/-! ### closed points -/
section
variable {A : Nat → Nat → Bool} {n : Nat} {val : Str → Option (List Nat)}
theorem inter_opp (P R : List Nat) : ((oppN A n P).filter fun k => decide (k ∈ oppN A n R)) = oppN A n (P ++ R) := by
  unfold oppN
  rw [List.filter_filter]
  refine List.filter_congr fun k hk => ?_
  rw [List.all_append, Bool.eq_iff_iff]
  simp only [Bool.and_eq_true, decide_eq_true_eq, List.mem_filter]
  exact ⟨fun h => ⟨h.2, h.1.2⟩, fun h => ⟨⟨hk, h.2⟩, h.1⟩⟩
theorem opp_all (irr : ∀ k, A k k = false) : oppN A n (List.range n) = [] := by
  unfold oppN
  refine List.filter_eq_nil_iff.mpr fun k hk q => ?_
  have := List.all_eq_true.mp q k hk
  rw [irr] at this
  cases this
theorem opp_nil : oppN A n [] = List.range n := by
  unfold oppN
  exact List.filter_eq_self.mpr fun _ _ => rfl
def Cl (A : Nat → Nat → Bool) (n : Nat) (X : List Nat) : Prop := oppN A n (oppN A n X) = X
theorem Cl.opp (sy : ∀ i j, A i j = A j i) {X : List Nat} (h : ∀ k ∈ X, k < n) : Cl A n (oppN A n X) := opp3 sy h
theorem Cl.inter (sy : ∀ i j, A i j = A j i) {X Y : List Nat} (hx : Cl A n X) (hy : Cl A n Y) : Cl A n (X.filter fun k => decide (k ∈ Y)) := by
  have e : (X.filter fun k => decide (k ∈ Y)) = oppN A n (oppN A n X ++ oppN A n Y) := by
    rw [← inter_opp, hx, hy]
  rw [e]
  exact Cl.opp sy fun k hk => (List.mem_append.mp hk).elim (oppN_lt k) (oppN_lt k)
def VCl (A : Nat → Nat → Bool) (n : Nat) (val : Str → Option (List Nat)) : Prop := ∀ s l, val s = some l → Cl A n l
theorem ptsF_cl (sy : ∀ i j, A i j = A j i) (irr : ∀ k, A k k = false) (hn : n ≤ 600) (hv : VOk val n) (hc : VCl A n val) : ∀ f : Fm, Cl A n (ptsF A n val f)
  | .all => by
    unfold Cl
    rw [ptsF, opp_all irr, opp_nil]
  | .none => by
    unfold Cl
    rw [ptsF, opp_nil, opp_all irr]
  | .name s => by
    rw [ptsF]
    cases e : val s with
    | none =>
      unfold Cl
      show oppN A n (oppN A n []) = []
      rw [opp_nil, opp_all irr]
    | some l => exact hc s l e
  | .not a => Cl.opp sy (ptsF_ok hn hv a).2
  | .both a b => Cl.inter sy (ptsF_cl sy irr hn hv hc a) (ptsF_cl sy irr hn hv hc b)
  | .either a b => by
    rw [ptsF]
    exact Cl.opp sy fun k hk => oppN_lt k (List.mem_filter.mp hk).1
theorem ptsF_push (sy : ∀ i j, A i j = A j i) (irr : ∀ k, A k k = false) (hn : n ≤ 600) (hv : VOk val n) (hc : VCl A n val) : ∀ f : Fm, ptsF A n val f.push = ptsF A n val f ∧ ptsF A n val f.opp = oppN A n (ptsF A n val f)
  | .all => ⟨rfl, by rw [Fm.opp, ptsF, ptsF, opp_all irr]⟩
  | .none => ⟨rfl, by rw [Fm.opp, ptsF, ptsF, opp_nil]⟩
  | .name s => ⟨rfl, rfl⟩
  | .not a => by
    obtain ⟨h1, h2⟩ := ptsF_push sy irr hn hv hc a
    refine ⟨by rw [Fm.push, h2, ptsF], ?_⟩
    rw [Fm.opp, h1, ptsF]
    exact (ptsF_cl sy irr hn hv hc a).symm
  | .both a b => by
    obtain ⟨h1, h2⟩ := ptsF_push sy irr hn hv hc a
    obtain ⟨h3, h4⟩ := ptsF_push sy irr hn hv hc b
    refine ⟨by rw [Fm.push, ptsF, ptsF, h1, h3], ?_⟩
    rw [Fm.opp, ptsF, ptsF, h2, h4]
    have c1 : oppN A n (oppN A n (ptsF A n val a)) = ptsF A n val a := ptsF_cl sy irr hn hv hc a
    have c2 : oppN A n (oppN A n (ptsF A n val b)) = ptsF A n val b := ptsF_cl sy irr hn hv hc b
    rw [c1, c2]
  | .either a b => by
    obtain ⟨h1, h2⟩ := ptsF_push sy irr hn hv hc a
    obtain ⟨h3, h4⟩ := ptsF_push sy irr hn hv hc b
    refine ⟨by rw [Fm.push, ptsF, ptsF, h1, h3], ?_⟩
    rw [Fm.opp, ptsF, ptsF, h2, h4]
    exact (Cl.inter sy (Cl.opp sy (ptsF_ok hn hv a).2) (Cl.opp sy (ptsF_ok hn hv b).2)).symm
end
theorem apart_irr {n : Nat} {ps : List (Nat × Nat)} (h : ∀ p ∈ ps, p.1 < p.2 ∧ p.2 < n) (k : Nat) : apart ps k k = false := by
  unfold apart
  rw [List.any_eq_false]
  intro p hp q
  have := h p hp
  simp at q
  omega
/-! ### the values of names -/
def valL (vs : List (Str × List Nat)) (s : Str) : Option (List Nat) := (vs.find? fun v => decide (v.1 = s)).map (·.2)
def kvD (vs : List (Str × List Nat)) : List (D × D) := vs.map fun v => (.str v.1, .tuple (natD v.2))
theorem kvD_pool (vs : List (Str × List Nat)) : isPool (kvD vs) = false := by
  cases vs with
  | nil => rfl
  | cons v vs => cases vs <;> rfl
theorem kvD_get (s : Str) : ∀ vs : List (Str × List Nat), getKV (kvD vs) (.str s) = (valL vs s).map fun l => .tuple (natD l)
  | [] => rfl
  | v :: vs => by
    have ih := kvD_get s vs
    unfold getKV valL kvD at ih ⊢
    rw [List.map_cons, List.find?_cons, List.find?_cons]
    have e : eqK (PyData.str v.1, PyData.tuple (natD v.2)).1 (.str s) = decide (v.1 = s) := rfl
    rw [e]
    by_cases h : v.1 = s
    · rw [decide_eq_true h]
      rfl
    · rw [decide_eq_false h]
      exact ih
theorem pairsD_val : ∀ vs : List (Str × List Nat), pairsD (valD vs) = some (kvD vs)
  | [] => rfl
  | v :: vs => by
    have ih := pairsD_val vs
    have e : pairsD (valD (v :: vs)) = if isK (.str v.1) = true then (pairsD (valD vs)).map ((PyData.str v.1, PyData.tuple (natD v.2)) :: ·) else none := rfl
    rw [e, if_pos (show isK (.str v.1) = true from rfl), ih]
    rfl
theorem merge_new : ∀ (vs : List (Str × List Nat)) (acc : List (D × D)), (vs.map Prod.fst).Nodup → (∀ v ∈ vs, ∀ kv ∈ acc, eqK kv.1 (.str v.1) = false) → mergeKV acc (kvD vs) = acc ++ kvD vs
  | [], acc, _, _ => by
    show acc = acc ++ []
    rw [List.append_nil]
  | v :: vs, acc, nd, h => by
    rw [List.map_cons, List.nodup_cons] at nd
    have e : putKV acc (.str v.1) (.tuple (natD v.2)) = acc ++ [(.str v.1, .tuple (natD v.2))] := by
      unfold putKV
      rw [if_neg]
      rw [Bool.not_eq_true, List.any_eq_false]
      intro kv hkv q
      rw [h v List.mem_cons_self kv hkv] at q
      cases q
    have e2 : mergeKV acc (kvD (v :: vs)) = mergeKV (putKV acc (.str v.1) (.tuple (natD v.2))) (kvD vs) := rfl
    rw [e2, e, merge_new vs _ nd.2, List.append_assoc]
    · rfl
    · intro u hu kv hkv
      rcases List.mem_append.mp hkv with hkv | hkv
      · exact h u (List.mem_cons_of_mem _ hu) kv hkv
      · rw [List.mem_singleton.mp hkv]
        show decide (v.1 = u.1) = false
        refine decide_eq_false fun z => nd.1 ?_
        rw [z]
        exact List.mem_map_of_mem hu
theorem merge_val {vs : List (Str × List Nat)} (nd : (vs.map Prod.fst).Nodup) : mergeKV [] (kvD vs) = kvD vs := merge_new vs [] nd fun _ _ _ h => nomatch h
/-! ### promises -/
def spPts (m : Nat) : SpD := fun ds Q => ∃ (A : Nat → Nat → Bool) (n : Nat) (vs : List (Str × List Nat)) (f : Fm), ds = [.list (tblD A n), .dict (kvD vs), f.d] ∧ f.dep < m ∧ n ≤ 600 ∧ VOk (valL vs) n ∧ Q (.nw (natD (ptsF A n (valL vs) f)))
/-- a room with values -/
def RmV (r : D) (n : Nat) (ps : List (Nat × Nat)) (vs : List (Str × List Nat)) : Prop := r = roomD n ps vs ∧ n ≤ 600 ∧ vs.length ≤ 100000 ∧ (∀ p ∈ ps, p.1 < p.2 ∧ p.2 < n) ∧ (vs.map Prod.fst).Nodup ∧ VOk (valL vs) n
def spPtsOf (m : Nat) : SpD := fun ds Q => ∃ (r : D) (n : Nat) (ps : List (Nat × Nat)) (vs : List (Str × List Nat)) (f : Fm), ds = [r, f.d] ∧ RmV r n ps vs ∧ f.dep < m ∧ Q (.nw (natD (ptsF (apart ps) n (valL vs) f)))
def spHolds (m : Nat) : SpD := fun ds Q => ∃ (r : D) (n : Nat) (ps : List (Nat × Nat)) (vs : List (Str × List Nat)) (f g : Fm), ds = [r, .tuple [f.d, g.d]] ∧ RmV r n ps vs ∧ f.dep < m ∧ g.dep < m ∧ Q (.v (.bool ((ptsF (apart ps) n (valL vs) f).all fun k => decide (k ∈ ptsF (apart ps) n (valL vs) g))))
theorem RmV.arg {r : D} {n : Nat} {ps : List (Nat × Nat)} {vs : List (Str × List Nat)} (h : RmV r n ps vs) : RmArg r n ps := ⟨_, _, h.1, .inr rfl, h.2.1, fun p hp => by have := h.2.2.2.1 p hp; omega⟩
theorem RoomOk.rmv {names : List Str} {most n : Nat} {ps : List (Nat × Nat)} {vs : List (Str × List Nat)} (h : RoomOk names most n ps vs) (hm : most ≤ 600) (hl : names.length ≤ 1000) (nd : names.Nodup) : RmV (roomD n ps vs) n ps vs ∧ VCl (apart ps) n (valL vs) := by
  have key : ∀ s l, valL vs s = some l → ∃ v ∈ vs, v.2 = l := fun s l e => by
    unfold valL at e
    rw [Option.map_eq_some_iff] at e
    obtain ⟨v, h1, h2⟩ := e
    exact ⟨v, List.mem_of_find?_eq_some h1, h2⟩
  refine ⟨⟨rfl, Nat.le_trans h.le hm, ?_, h.prs, h.nms.nodup nd, fun s l e => ?_⟩, fun s l e => ?_⟩
  · have := h.nms.length_le
    rw [List.length_map] at this
    omega
  · obtain ⟨v, hv, rfl⟩ := key s l e
    obtain ⟨some, _, e2⟩ := h.cl v hv
    rw [e2]
    exact ⟨Nat.le_trans oppN_length (Nat.le_trans h.le hm), oppN_lt⟩
  · obtain ⟨v, hv, rfl⟩ := key s l e
    obtain ⟨some, _, e2⟩ := h.cl v hv
    rw [e2]
    exact Cl.opp (apart_sy ps) oppN_lt
end DL

/-! TH: claims, theories, rooms in which they are true. -/
namespace DL
open PySem L2
def clD (c : Fm × Fm) : D := .tuple [c.1.d, c.2.d]
def clB : D → Bool
  | .tuple [a, b] => isFm 31 a && isFm 31 b
  | _ => false
def thB : D → Bool
  | .tuple ds => decide (ds.length ≤ 20) && ds.all clB
  | _ => false
def nOf : D → Nat
  | .tuple (.int n :: _) => n.toNat
  | _ => 0
def psOf : D → List (Nat × Nat)
  | .tuple (_ :: a :: _) => (itemsT a).map prOf
  | _ => []
def strOf : D → Str
  | .str s => s
  | _ => ""
def valOf (d : D) : Str × List Nat := (strOf (fst1 d), (itemsT (snd1 d)).map natOf)
def vsOf : D → List (Str × List Nat)
  | .tuple [_, _, b] => (itemsT b).map valOf
  | _ => []
theorem valL_mem {vs : List (Str × List Nat)} {s : Str} {l : List Nat} (e : valL vs s = some l) : ∃ v ∈ vs, v.2 = l := by
  unfold valL at e
  rw [Option.map_eq_some_iff] at e
  obtain ⟨v, h1, h2⟩ := e
  exact ⟨v, List.mem_of_find?_eq_some h1, h2⟩
theorem roomB_shape {d : D} (h : roomB d = true) : ∃ (n : Nat) (a b : D), d = .tuple [.int (n : Int), a, b] ∧ n ≤ 600 ∧ 1 ≤ n ∧ prsB n a = true ∧ valsB n b = true ∧ (itemsT b).all (closedB n ((itemsT a).map prOf)) = true := by
  cases d with
  | tuple es =>
    rcases es with _ | ⟨x, _ | ⟨a, _ | ⟨b, _ | ⟨c, r⟩⟩⟩⟩
    · cases h
    · cases x <;> cases h
    · cases x <;> cases h
    · cases x with
      | int i =>
        have h' : ((decide (1 ≤ i) && decide (i ≤ 600)) && (prsB i a && (valsB i b && (itemsT b).all (closedB i.toNat ((itemsT a).map prOf))))) = true := h
        simp only [Bool.and_eq_true, decide_eq_true_eq] at h'
        obtain ⟨⟨h1, h2⟩, h3, h4, h5⟩ := h'
        have e : i = ((i.toNat : Nat) : Int) := by omega
        rw [e] at h3 h4
        exact ⟨i.toNat, a, b, by rw [← e], by omega, by omega, h3, h4, h5⟩
      | _ => cases h
    · cases x <;> cases h
  | _ => cases h
theorem consec_up {ds : List D} {f : D → D → Bool} (h : consec f ds = true) (tr : ∀ x y z, x ∈ ds → y ∈ ds → z ∈ ds → f x y = true → f y z = true → f x z = true) : ds.Pairwise fun x y => f x y = true := by
  have st : ∀ k (h2 : k + 1 < ds.length), f (ds[k]'(by omega)) ds[k + 1] = true := fun k h2 => by
    unfold consec at h
    have q := List.all_eq_true.mp h k (List.mem_range.mpr (by omega))
    rw [List.getD_eq_getElem?_getD, List.getD_eq_getElem?_getD, List.getElem?_eq_getElem (by omega), List.getElem?_eq_getElem h2] at q
    exact q
  have go : ∀ j i (h2 : i + j + 1 < ds.length), f (ds[i]'(by omega)) ds[i + j + 1] = true := fun j => by
    induction j with
    | zero => exact fun i h2 => st i h2
    | succ j ih =>
      intro i h2
      exact tr _ _ _ (List.getElem_mem _) (List.getElem_mem _) (List.getElem_mem _) (ih i (by omega)) (st (i + j + 1) (by omega))
  rw [List.pairwise_iff_getElem]
  intro i j hi hj hij
  have q := go (j - i - 1) i (by omega)
  have e : i + (j - i - 1) + 1 = j := by omega
  simpa only [e] using q
theorem roomB_rmv {d : D} (ht : tdD d = true) (h : roomB d = true) : RmV d (nOf d) (psOf d) (vsOf d) := by
  obtain ⟨n, a, b, rfl, h1, h2, h3, h4, h5⟩ := roomB_shape h
  obtain ⟨p1, p2⟩ := prsB_nat h3
  have p3 := prsB_lt h3
  have en : nOf (.tuple [.int (n : Int), a, b]) = n := by
    show ((n : Int)).toNat = n
    omega
  have ep : psOf (.tuple [.int (n : Int), a, b]) = (itemsT a).map prOf := rfl
  have ev : vsOf (.tuple [.int (n : Int), a, b]) = (itemsT b).map valOf := rfl
  rw [en, ep, ev]
  obtain ⟨_, td⟩ := td_tup ht
  have tb := td b (by simp)
  cases b with
  | tuple vs =>
    have h4' : (vs.all (valB n) && consec (fun x y => strLt (fst1 x) (fst1 y)) vs) = true := h4
    rw [Bool.and_eq_true, List.all_eq_true] at h4'
    have one : ∀ x ∈ vs, ∃ (w : Str) (l : List Nat), x = .tuple [.str w, .tuple (natD l)] ∧ valOf x = (w, l) ∧ (∀ k ∈ l, k < n) ∧ l.Pairwise (· < ·) := fun x hx => by
      obtain ⟨w, l, rfl, _, w2, w3⟩ := valB_nat (h4'.1 x hx)
      refine ⟨w, l, rfl, ?_, w2, w3⟩
      unfold valOf
      have e7 : itemsT (snd1 (.tuple [.str w, .tuple (natD l)])) = natD l := rfl
      rw [e7, natOf_nat]
      rfl
    refine ⟨?_, h1, ?_, p3, ?_, fun s l e => ?_⟩
    · unfold roomD
      rw [← p1]
      have e2 : vs = valD ((itemsT (.tuple vs)).map valOf) := by
        show vs = valD (vs.map valOf)
        unfold valD
        rw [List.map_map]
        refine List.ext_getElem (by rw [List.length_map]) fun i i1 i2 => ?_
        rw [List.getElem_map]
        obtain ⟨w, l, e, e3, _⟩ := one vs[i] (List.getElem_mem i1)
        show vs[i] = .tuple [.str (valOf vs[i]).1, .tuple (natD (valOf vs[i]).2)]
        rw [e3]
        exact e
      rw [← e2]
    · show (vs.map valOf).length ≤ 100000
      rw [List.length_map]
      exact (td_tup tb).1
    · show ((vs.map valOf).map Prod.fst).Nodup
      have up := consec_up h4'.2 fun x y z hx hy hz xy yz => by
        obtain ⟨w, l, rfl, _⟩ := one x hx
        obtain ⟨w2, l2, rfl, _⟩ := one y hy
        obtain ⟨w3, l3, rfl, _⟩ := one z hz
        have xy' : decide (w.cps.toList < w2.cps.toList) = true := xy
        have yz' : decide (w2.cps.toList < w3.cps.toList) = true := yz
        rw [decide_eq_true_eq] at xy' yz'
        show decide (w.cps.toList < w3.cps.toList) = true
        exact decide_eq_true (List.lt_trans xy' yz')
      rw [List.map_map]
      show List.Pairwise _ _
      rw [List.pairwise_map]
      refine up.imp_of_mem fun {x y} hx hy r => ?_
      obtain ⟨w, l, rfl, e1, _⟩ := one x hx
      obtain ⟨w2, l2, rfl, e2, _⟩ := one y hy
      show (valOf _).1 ≠ (valOf _).1
      rw [e1, e2]
      intro z
      have z' : w = w2 := z
      have r' : decide (w.cps.toList < w2.cps.toList) = true := r
      rw [decide_eq_true_eq, z'] at r'
      exact List.lt_irrefl _ r'
    · obtain ⟨v, hv, rfl⟩ := valL_mem e
      obtain ⟨x, hx, rfl⟩ := List.mem_map.mp hv
      obtain ⟨w, l, _, e1, e2, e3⟩ := one x hx
      rw [e1]
      have := up_len e2 e3
      exact ⟨by show l.length ≤ 600; omega, e2⟩
  | _ => cases h4
/-! ### drawn rooms are rooms -/
theorem dataLt_pair {a b c d : Int} (h : a < c ∨ (a = c ∧ b < d)) : PySem.W.dataLt (.tuple [.int a, .int b]) (.tuple [.int c, .int d]) = true := by
  rw [PySem.W.dataLt_tuple]
  simp only [PySem.W.keyToksAll, PySem.W.keyToks, List.cons_append, List.nil_append]
  rw [PyProof.Rows.lex_self (O := PyProof.Rows.itemOrd)]
  rcases h with h | ⟨rfl, h⟩
  · rw [PyProof.Rows.lex_diff (O := PyProof.Rows.itemOrd) (fun e => by cases e; omega)]
    exact decide_eq_true h
  · rw [PyProof.Rows.lex_self (O := PyProof.Rows.itemOrd), PyProof.Rows.lex_self (O := PyProof.Rows.itemOrd), PyProof.Rows.lex_diff (O := PyProof.Rows.itemOrd) (fun e => by cases e; omega)]
    exact decide_eq_true h
theorem consec_of {ds : List D} {f : D → D → Bool} (h : ds.Pairwise fun x y => f x y = true) : consec f ds = true := by
  unfold consec
  rw [List.all_eq_true]
  intro k hk
  rw [List.mem_range] at hk
  rw [List.getD_eq_getElem?_getD, List.getD_eq_getElem?_getD, List.getElem?_eq_getElem (by omega), List.getElem?_eq_getElem (by omega)]
  exact List.pairwise_iff_getElem.mp h k (k + 1) (by omega) (by omega) (by omega)
theorem riseB_up {n : Nat} {l : List Nat} (h : ∀ k ∈ l, k < n) (u : l.Pairwise (· < ·)) : riseB n (.tuple (natD l)) = true := by
  have e : riseB n (.tuple (natD l)) = rises n (l.map fun (k : Nat) => (k : Int)) := by
    show (match intsD (natD l) with | some ns => rises n ns | none => false) = _
    rw [intsD_nat]
  rw [e, rises_spec]
  intro k hk
  rw [List.length_map] at hk
  have g : ∀ j, (hj : j < l.length) → (l.map fun (k : Nat) => (k : Int)).getD j 0 = (l[j] : Int) := fun j hj => by
    rw [List.getD_eq_getElem?_getD, List.getElem?_map, List.getElem?_eq_getElem hj]
    rfl
  rw [g k hk]
  have := h _ (List.getElem_mem hk)
  refine ⟨by omega, by omega, ?_⟩
  by_cases z : k = 0
  · exact .inl z
  · refine .inr ?_
    rw [g (k - 1) (by omega)]
    have := List.pairwise_iff_getElem.mp u (k - 1) k (by omega) hk (by omega)
    omega
theorem room_isroom {names : List Str} {most n : Nat} {ps : List (Nat × Nat)} {vs : List (Str × List Nat)} (h : RoomOk names most n ps vs) (hm : most ≤ 600) (hw : ∀ s ∈ names, isW s = true) (hs : names.Pairwise fun a b => a.cps.toList < b.cps.toList) : roomB (roomD n ps vs) = true := by
  have n6 : n ≤ 600 := Nat.le_trans h.le hm
  have e : roomB (roomD n ps vs) = ((decide (1 ≤ (n : Int)) && decide ((n : Int) ≤ 600)) && (prsB n (.tuple (prsD ps)) && (valsB n (.tuple (valD vs)) && (valD vs).all (closedB ((n : Int)).toNat ((prsD ps).map prOf))))) := rfl
  have ep : (prsD ps).map prOf = ps := by
    unfold prsD
    rw [List.map_map]
    have e2 : (prOf ∘ fun p : Nat × Nat => PyData.tuple [.int (p.1 : Int), .int (p.2 : Int)]) = id := by
      funext p
      show (((p.1 : Int)).toNat, ((p.2 : Int)).toNat) = p
      have a : ((p.1 : Int)).toNat = p.1 := by omega
      have b : ((p.2 : Int)).toNat = p.2 := by omega
      rw [a, b]
    rw [e2, List.map_id]
  have en : ((n : Int)).toNat = n := by omega
  have h1 := h.pos
  rw [e, ep, en, decide_eq_true (show (1 : Int) ≤ (n : Int) by omega), decide_eq_true (show (n : Int) ≤ 600 by omega)]
  have p1 : prsB n (.tuple (prsD ps)) = true := by
    show ((prsD ps).all (pairB n) && consec PySem.W.dataLt (prsD ps)) = true
    rw [Bool.and_eq_true, List.all_eq_true]
    refine ⟨fun d hd => ?_, consec_of ?_⟩
    · unfold prsD at hd
      obtain ⟨p, hp, rfl⟩ := List.mem_map.mp hd
      obtain ⟨a, b⟩ := h.prs p hp
      show riseB n (.tuple (natD [p.1, p.2])) = true
      refine riseB_up (fun k hk => ?_) (by simpa using a)
      simp only [List.mem_cons, List.not_mem_nil, or_false] at hk
      omega
    · unfold prsD
      rw [List.pairwise_map]
      refine h.up.imp fun {p q} r => dataLt_pair ?_
      omega
  have cl : ∀ v ∈ vs, ∃ some : List Nat, (∀ k ∈ some, k < n) ∧ v.2 = oppN (apart ps) n (oppN (apart ps) n some) := h.cl
  have v1 : valsB n (.tuple (valD vs)) = true := by
    show ((valD vs).all (valB n) && consec (fun x y => strLt (fst1 x) (fst1 y)) (valD vs)) = true
    rw [Bool.and_eq_true, List.all_eq_true]
    refine ⟨fun d hd => ?_, consec_of ?_⟩
    · unfold valD at hd
      obtain ⟨v, hv, rfl⟩ := List.mem_map.mp hd
      obtain ⟨some, _, e2⟩ := cl v hv
      show (isW v.1 && riseB n (.tuple (natD v.2))) = true
      rw [hw v.1 (h.nms.subset (List.mem_map_of_mem hv)), riseB_up (by rw [e2]; exact oppN_lt) (by rw [e2]; exact oppN_up)]
      rfl
    · unfold valD
      rw [List.pairwise_map]
      have q := hs.sublist h.nms
      rw [List.pairwise_map] at q
      refine q.imp fun {x y} r => ?_
      show decide (x.1.cps.toList < y.1.cps.toList) = true
      exact decide_eq_true r
  have c1 : (valD vs).all (closedB n ps) = true := by
    rw [List.all_eq_true]
    intro d hd
    unfold valD at hd
    obtain ⟨v, hv, rfl⟩ := List.mem_map.mp hd
    obtain ⟨some, s1, e2⟩ := cl v hv
    unfold closedB
    have e7 : itemsT (snd1 (.tuple [.str v.1, .tuple (natD v.2)])) = natD v.2 := rfl
    rw [e7, natOf_nat, e2]
    exact decide_eq_true (opp3 (apart_sy ps) oppN_lt)
  rw [p1, v1, c1]
  rfl
/-! ### promises -/
def holdsB (d : D) (c : Fm × Fm) : Bool := (ptsF (apart (psOf d)) (nOf d) (valL (vsOf d)) c.1).all fun k => decide (k ∈ ptsF (apart (psOf d)) (nOf d) (valL (vsOf d)) c.2)
/-- a drawn claim -/
def CC (names : List Str) (k : Nat) (c : Fm × Fm) : Prop := (c.1.dep ≤ k ∧ c.2.dep ≤ k) ∧ ∀ s ∈ c.1.nms ++ c.2.nms, s ∈ names
def spClaim (n : Nat) : SpD := fun ds Q => ∃ (names : List Str) (deep : Nat), ds = [poolD, .list (names.map .str), .int (deep : Int)] ∧ (1 ≤ names.length ∧ names.length < 1000000) ∧ (1 ≤ deep ∧ deep < n) ∧ ∀ c : Fm × Fm, CC names (deep + 1) c → Q (.v (clD c))
def spTheory (n : Nat) : SpD := fun ds Q => ∃ (names : List Str) (many deep : Nat), ds = [poolD, .list (names.map .str), .int (many : Int), .int (deep : Int)] ∧ (1 ≤ names.length ∧ names.length < 1000000) ∧ (1 ≤ deep ∧ deep < n) ∧ many ≤ 1000 ∧ ∀ cs : List (Fm × Fm), cs.length ≤ many → (∀ c ∈ cs, CC names (deep + 1) c) → Q (.v (.tuple (cs.map clD)))
def spTrueOf (n : Nat) : SpD := fun ds Q => ∃ (names : List Str) (many deep : Nat) (r : D), ds = [poolD, r, .list (names.map .str), .int (many : Int), .int (deep : Int)] ∧ (1 ≤ names.length ∧ names.length < 1000000) ∧ (1 ≤ deep ∧ deep < n) ∧ many ≤ 1000 ∧ RmV r (nOf r) (psOf r) (vsOf r) ∧
  ∀ cs : List (Fm × Fm), cs.length ≤ many → (∀ c ∈ cs, CC names (deep + 1) c ∧ holdsB r c = true) → Q (.v (.tuple (cs.map clD)))
def spClQ : SpD := fun ds Q => ∃ d : D, ds = [d] ∧ tdD d = true ∧ Q (.v (.bool (clB d)))
def spClL : SpD := fun ds Q => ∃ d : D, ds = [d, .int 30] ∧ tdD d = true ∧ Q (.v (.bool (clB d)))
def spThQ : SpD := fun ds Q => ∃ d : D, ds = [d] ∧ tdD d = true ∧ Q (.v (.bool (thB d)))
def spRoomOf : SpD := fun ds Q => ∃ (cs : List (Fm × Fm)) (d : D), ds = [.tuple (cs.map clD), d] ∧ tdD d = true ∧ cs.length ≤ 100000 ∧ (∀ c ∈ cs, c.1.dep < 20 ∧ c.2.dep < 20) ∧ Q (.v (.bool (roomB d && cs.all (holdsB d))))
end DL

/-! THP: formulas, claims and theories are papers. -/
namespace DL
open PySem L2
theorem fm_pap : ∀ f : Fm, (∀ s ∈ f.nms, nmB s = true) → papD f.d = true
  | .all, _ => by decide +kernel
  | .none, _ => by decide +kernel
  | .name s, h => by
    have e := (str_pap (h s (by simp [Fm.nms]))).1
    have n : papD (.str "name") = true := by decide +kernel
    refine pap_tup.mpr ⟨by show 2 ≤ 40000; omega, fun d hd => ?_⟩
    simp only [List.mem_cons, List.not_mem_nil, or_false] at hd
    rcases hd with rfl | rfl
    · exact n
    · exact e
  | .not a, h => by
    have e := fm_pap a fun s hs => h s (by simp [Fm.nms, hs])
    have n : papD (.str "not") = true := by decide +kernel
    refine pap_tup.mpr ⟨by show 2 ≤ 40000; omega, fun d hd => ?_⟩
    simp only [List.mem_cons, List.not_mem_nil, or_false] at hd
    rcases hd with rfl | rfl
    · exact n
    · exact e
  | .both a b, h => by
    have e := fm_pap a fun s hs => h s (by simp [Fm.nms, hs])
    have e' := fm_pap b fun s hs => h s (by simp [Fm.nms, hs])
    have n : papD (.str "both") = true := by decide +kernel
    refine pap_tup.mpr ⟨by show 3 ≤ 40000; omega, fun d hd => ?_⟩
    simp only [List.mem_cons, List.not_mem_nil, or_false] at hd
    rcases hd with rfl | rfl | rfl
    · exact n
    · exact e
    · exact e'
  | .either a b, h => by
    have e := fm_pap a fun s hs => h s (by simp [Fm.nms, hs])
    have e' := fm_pap b fun s hs => h s (by simp [Fm.nms, hs])
    have n : papD (.str "either") = true := by decide +kernel
    refine pap_tup.mpr ⟨by show 3 ≤ 40000; omega, fun d hd => ?_⟩
    simp only [List.mem_cons, List.not_mem_nil, or_false] at hd
    rcases hd with rfl | rfl | rfl
    · exact n
    · exact e
    · exact e'
theorem cl_pap {names : List Str} {k : Nat} {c : Fm × Fm} (h : CC names k c) (hk : k ≤ 4) (hn : ∀ s ∈ names, nmB s = true) : papD (clD c) = true ∧ PyData.depth (clD c) ≤ 16 ∧ PyData.weight (clD c) ≤ 1000 := by
  obtain ⟨⟨h1, h2⟩, h3⟩ := h
  have n1 : ∀ s ∈ c.1.nms, nmB s = true := fun s hs => hn s (h3 s (List.mem_append_left _ hs))
  have n2 : ∀ s ∈ c.2.nms, nmB s = true := fun s hs => hn s (h3 s (List.mem_append_right _ hs))
  obtain ⟨⟨a1, a2⟩, _⟩ := fm_wt c.1 n1
  obtain ⟨⟨b1, b2⟩, _⟩ := fm_wt c.2 n2
  have m1 : 2 ^ c.1.dep ≤ 2 ^ 4 := Nat.pow_le_pow_right (by decide) (by omega)
  have m2 : 2 ^ c.2.dep ≤ 2 ^ 4 := Nat.pow_le_pow_right (by decide) (by omega)
  refine ⟨pap_tup.mpr ⟨by show 2 ≤ 40000; omega, fun d hd => ?_⟩, ?_, ?_⟩
  · simp only [List.mem_cons, List.not_mem_nil, or_false] at hd
    rcases hd with rfl | rfl
    · exact fm_pap _ n1
    · exact fm_pap _ n2
  · unfold clD
    rw [PyData.depth, PyData.depthAll, PyData.depthAll, PyData.depthAll, a2, b2]
    omega
  · unfold clD
    rw [PyData.weight, PyData.weightAll, PyData.weightAll, PyData.weightAll]
    omega
theorem cl_paper {names : List Str} {k : Nat} {c : Fm × Fm} (h : CC names k c) (hk : k ≤ 4) (hn : ∀ s ∈ names, nmB s = true) : Paper (clD c) := by
  obtain ⟨a, b, d⟩ := cl_pap h hk hn
  exact ⟨a, by omega, by omega⟩
theorem th_part {names : List Str} {k n : Nat} {cs : List (Fm × Fm)} (h : ∀ c ∈ cs, CC names k c) (hk : k ≤ 4) (hn : ∀ s ∈ names, nmB s = true) (hl : cs.length ≤ n) : Part (cs.map clD) (1001 * n) := by
  refine Part.all (c := 1000) (n := n) (fun d hd => ?_) (by rw [List.length_map]; exact hl) (Nat.le_refl _)
  obtain ⟨c, hc, rfl⟩ := List.mem_map.mp hd
  exact cl_pap (h c hc) hk hn
/-- what spBent asks of a paper -/
theorem Paper.asked {es : List D} (h : Paper (.tuple es)) : depDs es + 1 < 24 ∧ (spotsL (.tuple es) []).length ≤ 900000 ∧ ∀ p ∈ spotsL (.tuple es) [], ∃ y, getP (.tuple es) p = some y ∧ bdD y = true ∧ p.length < 24 := by
  have a := depD_le (.tuple es)
  have b := h.dep
  have c : depD (.tuple es) = depDs es + 1 := by rw [depD]
  obtain ⟨s1, s2⟩ := h.spots
  refine ⟨by omega, s1, fun p hp => ?_⟩
  obtain ⟨y, y1, y2, y3⟩ := s2 p hp
  exact ⟨y, y1, y2, by omega⟩
end DL

/-! DV: derivations. -/
namespace DL
open PySem L2
structure Rw where
  c : Fm × Fm
  w : Str
  ns : List Int
def rwD (r : Rw) : D := .tuple [clD r.c, .tuple (.str r.w :: r.ns.map .int)]
def FmOk (n : Nat) (f : Fm) : Prop := f.dep < n ∧ ∀ s ∈ f.nms, isW s = true
def ClOk (n : Nat) (c : Fm × Fm) : Prop := FmOk n c.1 ∧ FmOk n c.2
theorem fm_tupD {n : Nat} {w : Str} {r : List D} : isFm (n + 1) (.tuple (.str w :: r)) = (if w = "all" ∨ w = "none" then r.isEmpty
    else if w = "name" then (match r with | [x] => isWD x | _ => false)
    else if w = "not" then (match r with | [x] => isFm n x | _ => false)
    else if w = "both" ∨ w = "either" then (match r with | [x, y] => isFm n x && isFm n y | _ => false)
    else false) := rfl
theorem isFm_of : ∀ {n : Nat} {d : D}, isFm n d = true → ∃ f : Fm, d = f.d ∧ FmOk n f
  | 0, d, h => by
    have e : isFm 0 d = false := by cases d <;> rfl
    rw [e] at h
    cases h
  | n + 1, d, h => by
    cases d with
    | tuple es =>
      cases es with
      | nil => cases h
      | cons x r =>
        cases x with
        | str w =>
          rw [fm_tupD] at h
          split at h
          · rename_i h1
            have r0 : r = [] := by simpa using h
            subst r0
            rcases h1 with rfl | rfl
            · exact ⟨.all, rfl, Nat.succ_pos n, fun s hs => nomatch hs⟩
            · exact ⟨.none, rfl, Nat.succ_pos n, fun s hs => nomatch hs⟩
          · split at h
            · rename_i h1
              subst h1
              rcases r with _ | ⟨x, _ | ⟨y, r⟩⟩
              · cases h
              · cases x with
                | str s => exact ⟨.name s, rfl, Nat.succ_pos n, fun t ht => by rw [List.mem_singleton.mp ht]; exact h⟩
                | _ => cases h
              · cases h
            · split at h
              · rename_i h1
                subst h1
                rcases r with _ | ⟨x, _ | ⟨y, r⟩⟩
                · cases h
                · obtain ⟨f, rfl, f1, f2⟩ := isFm_of (show isFm n x = true from h)
                  exact ⟨.not f, rfl, Nat.succ_lt_succ f1, f2⟩
                · cases h
              · split at h
                · rename_i h1
                  rcases r with _ | ⟨x, _ | ⟨y, _ | ⟨z, r⟩⟩⟩
                  · cases h
                  · cases h
                  · have h' : (isFm n x && isFm n y) = true := h
                    rw [Bool.and_eq_true] at h'
                    obtain ⟨f, rfl, f1, f2⟩ := isFm_of h'.1
                    obtain ⟨g, rfl, g1, g2⟩ := isFm_of h'.2
                    have dl : max f.dep g.dep + 1 < n + 1 := by omega
                    have ns : ∀ s ∈ f.nms ++ g.nms, isW s = true := fun s hs => (List.mem_append.mp hs).elim (f2 s) (g2 s)
                    rcases h1 with rfl | rfl
                    · exact ⟨.both f g, rfl, dl, ns⟩
                    · exact ⟨.either f g, rfl, dl, ns⟩
                  · cases h
                · cases h
        | _ => cases h
    | _ => cases h
theorem isFm_ok {n : Nat} {f : Fm} (h : FmOk n f) : isFm n f.d = true := by
  rw [isFm_fm f n h.2, decide_eq_true h.1]
def clN (n : Nat) : D → Bool
  | .tuple [a, b] => isFm n a && isFm n b
  | _ => false
theorem clN_of {n : Nat} {d : D} (h : clN n d = true) : ∃ c : Fm × Fm, d = clD c ∧ ClOk n c := by
  cases d with
  | tuple es =>
    rcases es with _ | ⟨x, _ | ⟨y, _ | ⟨z, r⟩⟩⟩
    · cases h
    · cases h
    · have h' : (isFm n x && isFm n y) = true := h
      rw [Bool.and_eq_true] at h'
      obtain ⟨f, rfl, f1⟩ := isFm_of h'.1
      obtain ⟨g, rfl, g1⟩ := isFm_of h'.2
      exact ⟨(f, g), rfl, f1, g1⟩
    · cases h
  | _ => cases h
theorem clN_ok {n : Nat} {c : Fm × Fm} (h : ClOk n c) : clN n (clD c) = true := by
  show (isFm n c.1.d && isFm n c.2.d) = true
  rw [isFm_ok h.1, isFm_ok h.2]
  rfl
theorem clN_dep {n : Nat} {c : Fm × Fm} (hw : (∀ s ∈ c.1.nms, isW s = true) ∧ ∀ s ∈ c.2.nms, isW s = true) : clN n (clD c) = (decide (c.1.dep < n) && decide (c.2.dep < n)) := by
  show (isFm n c.1.d && isFm n c.2.d) = _
  rw [isFm_fm _ _ hw.1, isFm_fm _ _ hw.2]
def rowB : D → Bool
  | .tuple [c, .tuple (.str _ :: ps)] => clN 41 c && ps.all isI
  | _ => false
theorem rowB_of {d : D} (h : rowB d = true) : ∃ r : Rw, d = rwD r ∧ ClOk 41 r.c := by
  cases d with
  | tuple es =>
    rcases es with _ | ⟨x, _ | ⟨y, _ | ⟨z, r⟩⟩⟩
    · cases h
    · cases h
    · cases y with
      | tuple ws =>
        cases ws with
        | nil => cases h
        | cons w ps =>
          cases w with
          | str w =>
            have h' : (clN 41 x && ps.all isI) = true := h
            rw [Bool.and_eq_true] at h'
            obtain ⟨c, rfl, c1⟩ := clN_of h'.1
            rcases ints_cases ps with ⟨ns, rfl⟩ | ⟨h1, _⟩
            · exact ⟨⟨c, w, ns⟩, rfl, c1⟩
            · rw [h1] at h'
              cases h'.2
          | _ => cases h
      | _ => cases h
    · simp [rowB] at h
  | _ => cases h
theorem rowB_ok {r : Rw} (h : ClOk 41 r.c) : rowB (rwD r) = true := by
  show (clN 41 (clD r.c) && (r.ns.map PyData.int).all isI) = true
  rw [clN_ok h, all_isI]
  rfl
/-! ### what a row's reason shows -/
def eqF (f g : Fm) : Bool := PyData.eqv f.d g.d
def eqC (c d : Fm × Fm) : Bool := PyData.eqv (clD c) (clD d)
def aloneL : List Str := ["same", "twice", "low", "first", "second", "one", "other"]
def fstB (y : Fm) : Fm → Bool
  | .both a _ => eqF a y
  | _ => false
def sndB (y : Fm) : Fm → Bool
  | .both _ b => eqF b y
  | _ => false
def fstE (x : Fm) : Fm → Bool
  | .either a _ => eqF a x
  | _ => false
def sndE (x : Fm) : Fm → Bool
  | .either _ b => eqF b x
  | _ => false
def aloneT (x y : Fm) (w : Str) : Bool :=
  if w = "same" then eqF x y
  else if w = "twice" then eqF y (.not (.not x)) || eqF x (.not (.not y))
  else if w = "low" then eqF x .none || eqF y .all
  else if w = "first" then fstB y x
  else if w = "second" then sndB y x
  else if w = "one" then fstE x y
  else if w = "other" then sndE x y
  else false
def rowShowT (c : Fm × Fm) (w : Str) (b : Fm × Fm) : Bool := if w = "turn" then eqC c (.not b.2, .not b.1) else decide (w = "never") && (eqF b.2 (.not b.1) && eqF c.1 b.1)
def rowsShowT (c : Fm × Fm) (w : Str) (l r : Fm × Fm) : Bool :=
  if w = "chain" then eqF l.2 r.1 && eqC c (l.1, r.2)
  else if w = "meet" then eqF l.1 r.1 && eqC c (l.1, .both l.2 r.2)
  else decide (w = "join") && (eqF l.2 r.2 && eqC c (.either l.1 r.1, l.2))
def rw0 : Rw := ⟨(.all, .all), "", []⟩
def clAt (rs : List Rw) (p : Int) : Fm × Fm := (rs.getD p.toNat rw0).c
def gAt (gs : List (Fm × Fm)) (p : Int) : Fm × Fm := gs.getD p.toNat (.all, .all)
def showT (gs : List (Fm × Fm)) (rs : List Rw) (k : Nat) (c : Fm × Fm) (w : Str) (ns : List Int) : Bool :=
  if w ∈ aloneL then ns.isEmpty && aloneT c.1 c.2 w
  else if w = "given" then (match ns with
    | [p] => decide (0 ≤ p) && (decide (p < (gs.length : Int)) && eqC (gAt gs p) c)
    | _ => false)
  else if (ns.all fun p => decide (0 ≤ p) && decide (p < (k : Int))) = true then (match ns with
    | [p] => rowShowT c w (clAt rs p)
    | [p, q] => rowsShowT c w (clAt rs p) (clAt rs q)
    | _ => false)
  else false
def shownT (gs : List (Fm × Fm)) (rs : List Rw) (k : Nat) : Bool := showT gs rs k (rs.getD k rw0).c (rs.getD k rw0).w (rs.getD k rw0).ns
def drvT (gs : List (Fm × Fm)) (c : Fm × Fm) (rs : List Rw) : Bool := eqC (clAt rs ((rs.length : Int) - 1)) c && (List.range rs.length).all (shownT gs rs)
def DrvIs (gs : List (Fm × Fm)) (c : Fm × Fm) (v : D) (b : Bool) : Prop :=
  (∃ rs : List Rw, rs ≠ [] ∧ v = .tuple (rs.map rwD) ∧ (∀ r ∈ rs, ClOk 41 r.c) ∧ b = drvT gs c rs) ∨ ((¬ ∃ rs : List Rw, rs ≠ [] ∧ v = .tuple (rs.map rwD) ∧ ∀ r ∈ rs, ClOk 41 r.c) ∧ b = false)
theorem drvIs_ex (gs : List (Fm × Fm)) (c : Fm × Fm) (v : D) : ∃ b, DrvIs gs c v b := by
  by_cases h : ∃ rs : List Rw, rs ≠ [] ∧ v = .tuple (rs.map rwD) ∧ ∀ r ∈ rs, ClOk 41 r.c
  · obtain ⟨rs, h1, h2, h3⟩ := h
    exact ⟨_, .inl ⟨rs, h1, h2, h3, rfl⟩⟩
  · exact ⟨false, .inr ⟨h, rfl⟩⟩
/-! ### shapes -/
theorem isW_nm {s : Str} (h : isW s = true) : nmB s = true := by
  unfold isW at h
  simp only [Bool.and_eq_true, decide_eq_true_eq] at h
  unfold nmB
  rw [Bool.and_eq_true, decide_eq_true_eq]
  refine ⟨h.1.2.2, ?_⟩
  unfold PyData.strOk
  rw [Array.all_eq_true']
  intro c hc
  have h1 := List.all_eq_true.mp h.2 c (Array.mem_toList_iff.mpr hc)
  unfold letterB at h1
  rw [Bool.and_eq_true, decide_eq_true_eq, decide_eq_true_eq] at h1
  rw [decide_eq_true_eq]
  omega
theorem shF {n : Nat} {f : Fm} (h : FmOk n f) (hn : n ≤ 60) : SeqAt.shaped f.d = true := by
  obtain ⟨⟨_, h2⟩, h3, _, _⟩ := fm_wt f fun s hs => isW_nm (h.2 s hs)
  have := h.1
  unfold SeqAt.shaped
  rw [h3, h2, decide_eq_true (by omega)]
  rfl
theorem shC {n : Nat} {c : Fm × Fm} (h : ClOk n c) (hn : n ≤ 60) : SeqAt.shaped (clD c) = true := by
  obtain ⟨⟨_, h2⟩, h3, _, _⟩ := fm_wt c.1 fun s hs => isW_nm (h.1.2 s hs)
  obtain ⟨⟨_, g2⟩, g3, _, _⟩ := fm_wt c.2 fun s hs => isW_nm (h.2.2 s hs)
  have := h.1.1
  have := h.2.1
  unfold SeqAt.shaped clD
  rw [PyData.canLay0, PyData.canLayAll0, PyData.canLayAll0, PyData.canLayAll0, h3, g3, PyData.depth, PyData.depthAll, PyData.depthAll, PyData.depthAll, h2, g2, decide_eq_true (by omega)]
  rfl
theorem FmOk.not {n : Nat} {f : Fm} (h : FmOk n f) : FmOk (n + 1) (.not f) := ⟨Nat.succ_lt_succ h.1, h.2⟩
theorem FmOk.both {n : Nat} {f g : Fm} (h : FmOk n f) (k : FmOk n g) : FmOk (n + 1) (.both f g) := ⟨by show max f.dep g.dep + 1 < n + 1; have := h.1; have := k.1; omega, fun s hs => (List.mem_append.mp hs).elim (h.2 s) (k.2 s)⟩
theorem FmOk.either {n : Nat} {f g : Fm} (h : FmOk n f) (k : FmOk n g) : FmOk (n + 1) (.either f g) := ⟨by show max f.dep g.dep + 1 < n + 1; have := h.1; have := k.1; omega, fun s hs => (List.mem_append.mp hs).elim (h.2 s) (k.2 s)⟩
theorem FmOk.mono {m n : Nat} {f : Fm} (h : FmOk m f) (l : m ≤ n) : FmOk n f := ⟨Nat.lt_of_lt_of_le h.1 l, h.2⟩
theorem FmOk.all {n : Nat} : FmOk (n + 1) .all := ⟨Nat.succ_pos n, fun s hs => nomatch hs⟩
theorem FmOk.none {n : Nat} : FmOk (n + 1) .none := ⟨Nat.succ_pos n, fun s hs => nomatch hs⟩
/-! ### promises -/
def spClLn : SpD := fun ds Q => ∃ (n : Nat) (d : D), ds = [d, .int ((n : Int) - 1)] ∧ n < 42 ∧ tdD d = true ∧ Q (.v (.bool (clN n d)))
def spIsRow : SpD := fun ds Q => ∃ d : D, ds = [d] ∧ tdD d = true ∧ Q (.v (.bool (rowB d)))
def spAlone : SpD := fun ds Q => ∃ (c : Fm × Fm) (w : Str), ds = [clD c, .str w] ∧ ClOk 41 c ∧ w ∈ aloneL ∧ Q (.v (.bool (aloneT c.1 c.2 w)))
def spLAlone : SpD := fun ds Q => ∃ (c : Fm × Fm) (w : Str), ds = [clD c, .str w] ∧ ClOk 41 c ∧ Q (.v (.bool (aloneT c.1 c.2 w)))
def spRowSh : SpD := fun ds Q => ∃ (c b : Fm × Fm) (w : Str), ds = [clD c, .str w, clD b] ∧ ClOk 41 c ∧ ClOk 41 b ∧ Q (.v (.bool (rowShowT c w b)))
def spRowsSh : SpD := fun ds Q => ∃ (c l r : Fm × Fm) (w : Str), ds = [clD c, .str w, clD l, clD r] ∧ ClOk 41 c ∧ ClOk 41 l ∧ ClOk 41 r ∧ Q (.v (.bool (rowsShowT c w l r)))
def spShown : SpD := fun ds Q => ∃ (gs : List (Fm × Fm)) (rs : List Rw) (k : Nat), ds = [.tuple (gs.map clD), .tuple (rs.map rwD), .int (k : Int)] ∧ k < rs.length ∧ gs.length ≤ 100000 ∧ rs.length ≤ 100000 ∧ (∀ r ∈ rs, ClOk 41 r.c ∧ r.ns.length ≤ 100000) ∧ (∀ c ∈ gs, ClOk 41 c) ∧ Q (.v (.bool (shownT gs rs k)))
def spDrv : SpD := fun ds Q => ∃ (gs : List (Fm × Fm)) (c : Fm × Fm) (v : D) (b : Bool), ds = [.tuple (gs.map clD), clD c, v] ∧ tdD v = true ∧ gs.length ≤ 100000 ∧ (∀ c ∈ gs, ClOk 41 c) ∧ ClOk 41 c ∧ DrvIs gs c v b ∧ Q (.v (.bool b))
end DL

/-! DV2: rows that a law draws. -/
namespace DL
open PySem L2
mutual
theorem eqv_rf : ∀ d : D, d.canLay0 = true → PyData.eqv d d = true
  | .none, _ => by simp [PyData.eqv]
  | .bool _, _ => by simp [PyData.eqv]
  | .int _, _ => by simp [PyData.eqv]
  | .str _, _ => by simp [PyData.eqv]
  | .list ds, h => by
    rw [PyData.canLay0] at h
    rw [PyData.eqv]
    exact eqvAll_rf ds h
  | .tuple ds, h => by
    rw [PyData.canLay0] at h
    rw [PyData.eqv]
    exact eqvAll_rf ds h
  | .dict _, h => by simp [PyData.canLay0] at h
theorem eqvAll_rf : ∀ ds : List D, PyData.canLayAll0 ds = true → PyData.eqvAll ds ds = true
  | [], _ => by simp [PyData.eqvAll]
  | d :: ds, h => by
    rw [PyData.canLayAll0, Bool.and_eq_true] at h
    rw [PyData.eqvAll, eqv_rf d h.1, eqvAll_rf ds h.2]
    rfl
end
theorem eqF_rf {n : Nat} {f : Fm} (h : FmOk n f) : eqF f f = true := by
  obtain ⟨_, h3, _, _⟩ := fm_wt f fun s hs => isW_nm (h.2 s hs)
  exact eqv_rf _ h3
theorem eqC_rf {n : Nat} {c : Fm × Fm} (h : ClOk n c) : eqC c c = true := by
  refine eqv_rf _ ?_
  obtain ⟨_, h3, _, _⟩ := fm_wt c.1 fun s hs => isW_nm (h.1.2 s hs)
  obtain ⟨_, g3, _, _⟩ := fm_wt c.2 fun s hs => isW_nm (h.2.2 s hs)
  unfold clD
  rw [PyData.canLay0, PyData.canLayAll0, PyData.canLayAll0, PyData.canLayAll0, h3, g3]
  rfl
def abL : List Str := ["a", "b"]
theorem ab_w : ∀ s ∈ abL, isW s = true := by decide +kernel
theorem fm_wt1 : ∀ f : Fm, (∀ s ∈ f.nms, s ∈ abL) → PyData.weight f.d + 9 ≤ 16 * 2 ^ f.dep
  | .all, _ => by decide +kernel
  | .none, _ => by decide +kernel
  | .name s, h => by
    have hs : s.cps.size = 1 := by
      have all : ∀ s ∈ abL, s.cps.size = 1 := by decide +kernel
      exact all s (h s (by simp [Fm.nms]))
    have e2 : ("name" : Str).cps.size = 4 := by decide +kernel
    simp only [Fm.d, Fm.dep, PyData.weight, PyData.weightAll, e2, hs]
    omega
  | .not a, h => by
    have h1 := fm_wt1 a fun s hs => h s (by simp [Fm.nms, hs])
    have e2 : ("not" : Str).cps.size = 3 := by decide +kernel
    simp only [Fm.d, Fm.dep, PyData.weight, PyData.weightAll, e2, Nat.pow_succ]
    have : 1 ≤ 2 ^ a.dep := Nat.one_le_two_pow
    omega
  | .both a b, h => by
    have h1 := fm_wt1 a fun s hs => h s (by simp [Fm.nms, hs])
    have g1 := fm_wt1 b fun s hs => h s (by simp [Fm.nms, hs])
    have e2 : ("both" : Str).cps.size = 4 := by decide +kernel
    have m1 : 2 ^ a.dep ≤ 2 ^ max a.dep b.dep := Nat.pow_le_pow_right (by decide) (Nat.le_max_left _ _)
    have m2 : 2 ^ b.dep ≤ 2 ^ max a.dep b.dep := Nat.pow_le_pow_right (by decide) (Nat.le_max_right _ _)
    simp only [Fm.d, Fm.dep, PyData.weight, PyData.weightAll, e2, Nat.pow_succ]
    omega
  | .either a b, h => by
    have h1 := fm_wt1 a fun s hs => h s (by simp [Fm.nms, hs])
    have g1 := fm_wt1 b fun s hs => h s (by simp [Fm.nms, hs])
    have e2 : ("either" : Str).cps.size = 6 := by decide +kernel
    have m1 : 2 ^ a.dep ≤ 2 ^ max a.dep b.dep := Nat.pow_le_pow_right (by decide) (Nat.le_max_left _ _)
    have m2 : 2 ^ b.dep ≤ 2 ^ max a.dep b.dep := Nat.pow_le_pow_right (by decide) (Nat.le_max_right _ _)
    simp only [Fm.d, Fm.dep, PyData.weight, PyData.weightAll, e2, Nat.pow_succ]
    omega
def cwt (c : Fm × Fm) : Nat := c.1.d.weight + c.2.d.weight
theorem wt_not (f : Fm) : (Fm.not f).d.weight = f.d.weight + 5 := by
  have e2 : ("not" : Str).cps.size = 3 := by decide +kernel
  simp only [Fm.d, PyData.weight, PyData.weightAll, e2]
  omega
theorem wt_both (f g : Fm) : (Fm.both f g).d.weight = f.d.weight + g.d.weight + 7 := by
  have e2 : ("both" : Str).cps.size = 4 := by decide +kernel
  simp only [Fm.d, PyData.weight, PyData.weightAll, e2]
  omega
theorem wt_either (f g : Fm) : (Fm.either f g).d.weight = f.d.weight + g.d.weight + 9 := by
  have e2 : ("either" : Str).cps.size = 6 := by decide +kernel
  simp only [Fm.d, PyData.weight, PyData.weightAll, e2]
  omega
theorem wt_none : (Fm.none).d.weight = 5 ∧ (Fm.all).d.weight = 4 := by decide +kernel
/-- names of a and b alone -/
def Ab (c : Fm × Fm) : Prop := (∀ s ∈ c.1.nms, s ∈ abL) ∧ ∀ s ∈ c.2.nms, s ∈ abL
structure GoodR (gs : List (Fm × Fm)) (rs : List Rw) (r : Rw) : Prop where
  show_ : showT gs rs rs.length r.c r.w r.ns = true
  ab : Ab r.c
  wt : cwt r.c + 16 ≤ 100 * 2 ^ rs.length
  ns : r.ns.length ≤ 2 ∧ ∀ p ∈ r.ns, 0 ≤ p ∧ p ≤ 100
  w : nmB r.w = true
  dep : rs = [] → r.c.1.dep ≤ 3 ∧ r.c.2.dep ≤ 3
/-- rows so far -/
structure Rows (gs : List (Fm × Fm)) (rs : List Rw) : Prop where
  ok : ∀ r ∈ rs, ClOk 13 r.c
  all : ∀ (k : Nat) (r : Rw), rs[k]? = some r → showT gs rs k r.c r.w r.ns = true ∧ Ab r.c ∧ cwt r.c + 16 ≤ 100 * 2 ^ k ∧ (r.ns.length ≤ 2 ∧ ∀ p ∈ r.ns, 0 ≤ p ∧ p ≤ 100) ∧ nmB r.w = true
theorem clAt_app {rs : List Rw} {r : Rw} {p : Int} (h0 : 0 ≤ p) (h1 : p < rs.length) : clAt (rs ++ [r]) p = clAt rs p := by
  unfold clAt
  rw [List.getD_eq_getElem?_getD, List.getD_eq_getElem?_getD, List.getElem?_append_left (by omega)]
theorem showT_app {gs : List (Fm × Fm)} {rs : List Rw} {r : Rw} {k : Nat} {c : Fm × Fm} {w : Str} {ns : List Int} (hk : k ≤ rs.length) : showT gs (rs ++ [r]) k c w ns = showT gs rs k c w ns := by
  unfold showT
  split
  · rfl
  · split
    · rfl
    · split
      · rename_i h
        rw [List.all_eq_true] at h
        have inr : ∀ p ∈ ns, 0 ≤ p ∧ p < (rs.length : Int) := fun p hp => by
          have := h p hp
          rw [Bool.and_eq_true, decide_eq_true_eq, decide_eq_true_eq] at this
          omega
        rcases ns with _ | ⟨p, _ | ⟨p2, _ | ⟨p3, ps⟩⟩⟩
        · rfl
        · obtain ⟨a, b⟩ := inr p (by simp)
          show rowShowT c w (clAt (rs ++ [r]) p) = rowShowT c w (clAt rs p)
          rw [clAt_app a b]
        · obtain ⟨a, b⟩ := inr p (by simp)
          obtain ⟨a2, b2⟩ := inr p2 (by simp)
          show rowsShowT c w (clAt (rs ++ [r]) p) (clAt (rs ++ [r]) p2) = rowsShowT c w (clAt rs p) (clAt rs p2)
          rw [clAt_app a b, clAt_app a2 b2]
        · rfl
      · rfl
theorem Rows.snoc {gs : List (Fm × Fm)} {rs : List Rw} {r : Rw} (h : Rows gs rs) (g : GoodR gs rs r) (ok : ClOk 13 r.c) : Rows gs (rs ++ [r]) := by
  refine ⟨fun x hx => ?_, fun k x hx => ?_⟩
  · rcases List.mem_append.mp hx with hx | hx
    · exact h.ok x hx
    · rw [List.mem_singleton.mp hx]
      exact ok
  · by_cases hk : k < rs.length
    · rw [List.getElem?_append_left hk] at hx
      obtain ⟨a1, a2⟩ := h.all k x hx
      exact ⟨by rw [showT_app (by omega)]; exact a1, a2⟩
    · have e : k = rs.length := by
        have := (List.getElem?_eq_some_iff.mp hx).1
        rw [List.length_append, List.length_singleton] at this
        omega
      subst e
      rw [List.getElem?_append_right (Nat.le_refl _), Nat.sub_self] at hx
      have e2 : r = x := Option.some.inj hx
      subst e2
      exact ⟨by rw [showT_app (Nat.le_refl _)]; exact g.show_, g.ab, g.wt, g.ns, g.w⟩
theorem Rows.nil {gs : List (Fm × Fm)} : Rows gs [] := ⟨fun r h => (nomatch h), fun k r h => by simp at h⟩
theorem Rows.at_ {gs : List (Fm × Fm)} {rs : List Rw} (h : Rows gs rs) {p : Int} (h0 : 0 ≤ p) (h1 : p < rs.length) : ClOk 13 (clAt rs p) ∧ Ab (clAt rs p) ∧ cwt (clAt rs p) + 16 ≤ 100 * 2 ^ (rs.length - 1) := by
  have e : rs[p.toNat]? = some rs[p.toNat] := List.getElem?_eq_getElem (by omega)
  have ec : clAt rs p = rs[p.toNat].c := by
    unfold clAt
    rw [List.getD_eq_getElem?_getD, e]
    rfl
  obtain ⟨_, a2, a3, _⟩ := h.all _ _ e
  rw [ec]
  refine ⟨h.ok _ (List.getElem_mem _), a2, ?_⟩
  have : 2 ^ p.toNat ≤ 2 ^ (rs.length - 1) := Nat.pow_le_pow_right (by decide) (by omega)
  omega
theorem Rows.pow {n : Nat} (h : 1 ≤ n) : 2 ^ n = 2 * 2 ^ (n - 1) := by
  have e : n = (n - 1) + 1 := by omega
  rw [e, Nat.pow_succ, Nat.add_sub_cancel]
  omega
theorem showT_row {gs : List (Fm × Fm)} {rs : List Rw} {k : Nat} {c : Fm × Fm} {w : Str} {p : Int} (hw : w ∉ aloneL) (hg : w ≠ "given") (h0 : 0 ≤ p) (h1 : p < (k : Int)) (h : rowShowT c w (clAt rs p) = true) : showT gs rs k c w [p] = true := by
  unfold showT
  rw [if_neg hw, if_neg hg, if_pos (by simp [h0, h1])]
  exact h
theorem showT_rows {gs : List (Fm × Fm)} {rs : List Rw} {k : Nat} {c : Fm × Fm} {w : Str} {p q : Int} (hw : w ∉ aloneL) (hg : w ≠ "given") (h0 : 0 ≤ p) (h1 : p < (k : Int)) (h2 : 0 ≤ q) (h3 : q < (k : Int)) (h : rowsShowT c w (clAt rs p) (clAt rs q) = true) : showT gs rs k c w [p, q] = true := by
  unfold showT
  rw [if_neg hw, if_neg hg, if_pos (by simp [h0, h1, h2, h3])]
  exact h
theorem good_al {gs : List (Fm × Fm)} {rs : List Rw} {c : Fm × Fm} {w : Str} (hw : w ∈ aloneL) (ha : aloneT c.1 c.2 w = true) (ab : Ab c) (wt : cwt c ≤ 84) (dep : c.1.dep ≤ 3 ∧ c.2.dep ≤ 3) : GoodR gs rs ⟨c, w, []⟩ where
  show_ := by
    unfold showT
    rw [if_pos hw, ha]
    rfl
  ab := ab
  wt := by
    have : 1 ≤ 2 ^ rs.length := Nat.one_le_two_pow
    show cwt c + 16 ≤ 100 * 2 ^ rs.length
    omega
  ns := ⟨Nat.zero_le _, fun p hp => nomatch hp⟩
  w := by
    have all : ∀ s ∈ aloneL, nmB s = true := by decide +kernel
    exact all w hw
  dep := fun _ => dep
def spRowL : SpD := fun ds Q => ∃ (gs : List (Fm × Fm)) (rs : List Rw), ds = [poolD, .tuple (gs.map clD), .tuple (rs.map rwD), .list (abL.map .str)] ∧ gs.length ≤ 100 ∧ (∀ c ∈ gs, CC abL 2 c) ∧ Rows gs rs ∧ rs.length ≤ 13 ∧ ∀ r, GoodR gs rs r → Q (.v (rwD r))
def spPutR : SpD := fun ds Q => ∃ (rows : List D) (k : Nat) (x : D), ds = [.tuple rows, .int (k : Int), x] ∧ rows.length ≤ 100000 ∧ Q (.v (.tuple (rows.take k ++ x :: rows.drop (k + 1))))
end DL

namespace LW
open PySem PySem.Spec PyProof.Rows L2 DL
def topS (i : Nat) : Stmt := PySem.Challenge.pw_orthorooms_k23_whole_hexagons.main.body.getD i (.Pass ⟨0, 0, 0, 0⟩)
abbrev s_is_integer : Stmt := topS 1
def c_is_integer : CSs := (.cons (.ret (.and (.isi (.var 0) [.bint]) (.not (.isi (.var 0) [.bbool])))) .nil)
theorem t_is_integer : cB ⟨[], []⟩ ["value"] s_is_integer = some c_is_integer := by rfl
theorem sc_is_integer : FnScope ["value"] ["value"] (defScope s_is_integer) := ⟨rfl, rfl, rfl, by decide +kernel, rfl, by decide +kernel, by decide +kernel⟩
abbrev s_is_table : Stmt := topS 4
def c_is_table : CSs := (.cons (.ite (.or (.not (.isi (.var 0) [.btuple])) (.cmp .NotEq (.b1 .len (.var 0)) (.var 1))) (.cons (.ret (.bl false)) .nil) .nil) (.cons (.ret (.b1 .all (.comp (.call 2 (.cons (.var 2) (.cons (.var 1) .nil))) (.nm 2) (.val (.var 0)) .nil [2]))) .nil))
theorem t_is_table : cB ⟨[("is_list_of_elements", 2)], []⟩ ["value", "number", "row"] s_is_table = some c_is_table := by rfl
theorem sc_is_table : FnScope ["value", "number", "row"] ["value", "number"] (defScope s_is_table) := ⟨rfl, rfl, rfl, by decide +kernel, rfl, by decide +kernel, by decide +kernel⟩
abbrev s_is_list_of_elements : Stmt := topS 5
def c_is_list_of_elements : CSs := (.cons (.ite (.or (.not (.isi (.var 0) [.btuple])) (.cmp .NotEq (.b1 .len (.var 0)) (.var 1))) (.cons (.ret (.bl false)) .nil) .nil) (.cons (.ret (.b1 .all (.comp (.and (.call 0 (.cons (.var 2) .nil)) (.chn .LtE .Lt (.int 0) (.var 2) (.var 1))) (.nm 2) (.val (.var 0)) .nil [2]))) .nil))
theorem t_is_list_of_elements : cB ⟨[("is_integer", 0)], []⟩ ["value", "number", "x"] s_is_list_of_elements = some c_is_list_of_elements := by rfl
theorem sc_is_list_of_elements : FnScope ["value", "number", "x"] ["value", "number"] (defScope s_is_list_of_elements) := ⟨rfl, rfl, rfl, by decide +kernel, rfl, by decide +kernel, by decide +kernel⟩
abbrev s_is_lattice : Stmt := topS 6
def c_is_lattice : CSs := (.cons (.ite (.or (.not (.isi (.var 0) [.btuple])) (.or (.cmp .NotEq (.b1 .len (.var 0)) (.int 3)) (.not (.call 0 (.cons (.ix (.var 0) (.int 0)) .nil))))) (.cons (.ret (.bl false)) .nil) .nil) (.cons (.unp [1, 2, 3] (.var 0)) (.cons (.ite (.not (.chn .LtE .LtE (.int 2) (.var 1) (.glb 0))) (.cons (.ret (.bl false)) .nil) .nil) (.cons (.ite (.or (.not (.call 1 (.cons (.var 2) (.cons (.var 1) .nil)))) (.not (.call 2 (.cons (.var 3) (.cons (.var 1) .nil))))) (.cons (.ret (.bl false)) .nil) .nil) (.cons (.asg 4 (.rng (.var 1))) (.cons (.ite (.not (.b1 .all (.comp (.and (.cmp .Eq (.ix (.ix (.var 2) (.var 5)) (.var 5)) (.var 5)) (.cmp .Eq (.ix (.var 3) (.ix (.var 3) (.var 5))) (.var 5))) (.nm 5) (.val (.var 4)) .nil [5]))) (.cons (.ret (.bl false)) .nil) .nil) (.cons (.ite (.not (.b1 .all (.cmpN (.cons (.nm 5) (.val (.var 4)) .nil [5, 6] (.cons (.nm 6) (.val (.var 4)) .nil [6] (.fin (.cmp .Eq (.ix (.ix (.var 2) (.var 5)) (.var 6)) (.ix (.ix (.var 2) (.var 6)) (.var 5))))))))) (.cons (.ret (.bl false)) .nil) .nil) (.cons (.ite (.not (.b1 .all (.cmpN (.cons (.nm 5) (.val (.var 4)) .nil [5, 6] (.cons (.nm 6) (.val (.var 4)) .nil [6] (.fin (.cmp .Eq (.ix (.ix (.var 2) (.ix (.var 3) (.var 5))) (.ix (.var 3) (.ix (.ix (.var 2) (.var 5)) (.var 6)))) (.ix (.var 3) (.var 5))))))))) (.cons (.ret (.bl false)) .nil) .nil) (.cons (.ite (.not (.b1 .all (.cmpN (.cons (.nm 5) (.val (.var 4)) .nil [5, 6, 7] (.cons (.nm 6) (.val (.var 4)) .nil [6, 7] (.cons (.nm 7) (.val (.var 4)) .nil [7] (.fin (.cmp .Eq (.ix (.ix (.var 2) (.ix (.ix (.var 2) (.var 5)) (.var 6))) (.var 7)) (.ix (.ix (.var 2) (.var 5)) (.ix (.ix (.var 2) (.var 6)) (.var 7))))))))))) (.cons (.ret (.bl false)) .nil) .nil) (.cons (.ret (.b1 .all (.cmpN (.cons (.nm 5) (.val (.var 4)) .nil [5, 6] (.cons (.nm 6) (.val (.var 4)) .nil [6] (.fin (.cmp .Eq (.ix (.ix (.var 2) (.ix (.ix (.var 2) (.var 5)) (.ix (.var 3) (.var 5)))) (.var 6)) (.ix (.ix (.var 2) (.var 5)) (.ix (.var 3) (.var 5)))))))))) .nil))))))))))
theorem t_is_lattice : cB ⟨[("is_list_of_elements", 2), ("is_table", 1), ("is_integer", 0)], [("MOST_ELEMENTS", 0)]⟩ ["value", "number", "meets", "turned", "here", "x", "y", "z"] s_is_lattice = some c_is_lattice := by rfl
theorem sc_is_lattice : FnScope ["value", "number", "meets", "turned", "here", "x", "y", "z"] ["value"] (defScope s_is_lattice) := ⟨rfl, rfl, rfl, by decide +kernel, rfl, by decide +kernel, by decide +kernel⟩
abbrev s_join_in : Stmt := topS 7
def c_join_in : CSs := (.cons (.asg 3 (.ix (.var 0) (.int 2))) (.cons (.ret (.ix (.var 3) (.ix (.ix (.ix (.var 0) (.int 1)) (.ix (.var 3) (.var 1))) (.ix (.var 3) (.var 2))))) .nil))
theorem t_join_in : cB ⟨[], []⟩ ["lattice", "x", "y", "turned"] s_join_in = some c_join_in := by rfl
theorem sc_join_in : FnScope ["lattice", "x", "y", "turned"] ["lattice", "x", "y"] (defScope s_join_in) := ⟨rfl, rfl, rfl, by decide +kernel, rfl, by decide +kernel, by decide +kernel⟩
abbrev s_zero_of : Stmt := topS 8
def c_zero_of : CSs := (.cons (.ret (.ix (.ix (.ix (.var 0) (.int 1)) (.int 0)) (.ix (.ix (.var 0) (.int 2)) (.int 0)))) .nil)
theorem t_zero_of : cB ⟨[], []⟩ ["lattice"] s_zero_of = some c_zero_of := by rfl
theorem sc_zero_of : FnScope ["lattice"] ["lattice"] (defScope s_zero_of) := ⟨rfl, rfl, rfl, by decide +kernel, rfl, by decide +kernel, by decide +kernel⟩
abbrev s_commutes : Stmt := topS 9
def c_commutes : CSs := (.cons (.par 3 4 (.ix (.var 0) (.int 1)) (.ix (.var 0) (.int 2))) (.cons (.ret (.cmp .Eq (.call 4 (.cons (.var 0) (.cons (.ix (.ix (.var 3) (.var 1)) (.var 2)) (.cons (.ix (.ix (.var 3) (.var 1)) (.ix (.var 4) (.var 2))) .nil)))) (.var 1))) .nil))
theorem t_commutes : cB ⟨[("join_in", 4)], []⟩ ["lattice", "x", "y", "meets", "turned"] s_commutes = some c_commutes := by rfl
theorem sc_commutes : FnScope ["lattice", "x", "y", "meets", "turned"] ["lattice", "x", "y"] (defScope s_commutes) := ⟨rfl, rfl, rfl, by decide +kernel, rfl, by decide +kernel, by decide +kernel⟩
abbrev s_modular_paper : Stmt := topS 10
def c_modular_paper : CSs := (.cons (.par 1 2 (.ix (.var 0) (.int 1)) (.ix (.var 0) (.int 2))) (.cons (.asg 3 (.call 5 (.cons (.var 0) .nil))) (.cons (.for_ (.nm 4) (.rng1 (.ix (.var 0) (.int 0))) (.cons (.for_ (.nm 5) (.rng1 (.ix (.var 0) (.int 0))) (.cons (.ite (.and (.cmp .NotEq (.var 4) (.var 5)) (.and (.cmp .Eq (.ix (.ix (.var 1) (.var 4)) (.var 5)) (.var 4)) (.cmp .Eq (.ix (.ix (.var 1) (.var 5)) (.ix (.var 2) (.var 4))) (.var 3)))) (.cons (.ret (.tup (.cons (.str "hexagon") (.cons (.var 4) (.cons (.var 5) .nil))))) .nil) .nil) .nil)) .nil)) (.cons (.ret (.tup (.cons (.str "modular") .nil))) .nil))))
theorem t_modular_paper : cB ⟨[("zero_of", 5)], []⟩ ["lattice", "meets", "turned", "zero", "x", "y"] s_modular_paper = some c_modular_paper := by rfl
theorem sc_modular_paper : FnScope ["lattice", "meets", "turned", "zero", "x", "y"] ["lattice"] (defScope s_modular_paper) := ⟨rfl, rfl, rfl, by decide +kernel, rfl, by decide +kernel, by decide +kernel⟩
abbrev s_is_hexagon : Stmt := topS 11
def c_is_hexagon : CSs := (.cons (.par 2 3 (.ix (.var 1) (.int 1)) (.ix (.var 1) (.int 2))) (.cons (.ite (.or (.not (.call 0 (.cons (.var 2) .nil))) (.or (.not (.call 0 (.cons (.var 3) .nil))) (.or (.not (.chn .LtE .Lt (.int 0) (.var 2) (.ix (.var 0) (.int 0)))) (.not (.chn .LtE .Lt (.int 0) (.var 3) (.ix (.var 0) (.int 0))))))) (.cons (.ret (.bl false)) .nil) .nil) (.cons (.ret (.and (.cmp .NotEq (.var 2) (.var 3)) (.and (.cmp .Eq (.ix (.ix (.ix (.var 0) (.int 1)) (.var 2)) (.var 3)) (.var 2)) (.cmp .Eq (.ix (.ix (.ix (.var 0) (.int 1)) (.var 3)) (.ix (.ix (.var 0) (.int 2)) (.var 2))) (.call 5 (.cons (.var 0) .nil)))))) .nil)))
theorem t_is_hexagon : cB ⟨[("zero_of", 5), ("is_integer", 0)], []⟩ ["lattice", "value", "x", "y"] s_is_hexagon = some c_is_hexagon := by rfl
theorem sc_is_hexagon : FnScope ["lattice", "value", "x", "y"] ["lattice", "value"] (defScope s_is_hexagon) := ⟨rfl, rfl, rfl, by decide +kernel, rfl, by decide +kernel, by decide +kernel⟩
abbrev s_is_modular_paper : Stmt := topS 12
def c_is_modular_paper : CSs := (.cons (.ite (.or (.not (.isi (.var 1) [.btuple])) (.or (.cmp .Eq (.b1 .len (.var 1)) (.int 0)) (.not (.isi (.ix (.var 1) (.int 0)) [.bstr])))) (.cons (.ret (.bl false)) .nil) .nil) (.cons (.ite (.cmp .Eq (.ix (.var 1) (.int 0)) (.str "modular")) (.cons (.ret (.and (.cmp .Eq (.b1 .len (.var 1)) (.int 1)) (.cmp .Eq (.ix (.call 7 (.cons (.var 0) .nil)) (.int 0)) (.str "modular")))) .nil) .nil) (.cons (.ret (.and (.cmp .Eq (.ix (.var 1) (.int 0)) (.str "hexagon")) (.and (.cmp .Eq (.b1 .len (.var 1)) (.int 3)) (.call 8 (.cons (.var 0) (.cons (.var 1) .nil)))))) .nil)))
theorem t_is_modular_paper : cB ⟨[("is_hexagon", 8), ("modular_paper", 7)], []⟩ ["lattice", "value"] s_is_modular_paper = some c_is_modular_paper := by rfl
theorem sc_is_modular_paper : FnScope ["lattice", "value"] ["lattice", "value"] (defScope s_is_modular_paper) := ⟨rfl, rfl, rfl, by decide +kernel, rfl, by decide +kernel, by decide +kernel⟩
abbrev s_law_pool : Stmt := topS 14
def c_law_pool : CSs := (.cons (.asg 1 (.int 7)) (.cons (.for_ (.nm 2) (.val (.sl (.var 0) .no (.some (.int 63)))) (.cons (.asg 1 (.bin .Mod (.b1 .int (.bin .Add (.bin .Mult (.var 1) (.int 31)) (.var 2))) (.int 1000003))) .nil)) (.cons (.ret (.lst (.cons (.b1 .list (.var 0)) (.cons (.int 0) (.cons (.int 0) (.cons (.int 0) (.cons (.var 1) .nil))))))) .nil)))
theorem t_law_pool : cB ⟨[], []⟩ ["script", "salt", "cell"] s_law_pool = some c_law_pool := by rfl
theorem sc_law_pool : FnScope ["script", "salt", "cell"] ["script"] (defScope s_law_pool) := ⟨rfl, rfl, rfl, by decide +kernel, rfl, by decide +kernel, by decide +kernel⟩
-- _law_table target
abbrev s_law_subsets : Stmt := topS 16
def c_law_subsets : CSs := (.cons (.asg 1 (.lst (.cons (.tup .nil) .nil))) (.cons (.for_ (.nm 2) (.rng1 (.var 0)) (.cons (.asg 1 (.bin .Add (.var 1) (.comp (.bin .Add (.var 3) (.tup (.cons (.var 2) .nil))) (.nm 3) (.val (.var 1)) .nil [3]))) .nil)) (.cons (.ret (.var 1)) .nil)))
theorem t_law_subsets : cB ⟨[], []⟩ ["number", "found", "k", "one"] s_law_subsets = some c_law_subsets := by rfl
theorem sc_law_subsets : FnScope ["number", "found", "k", "one"] ["number"] (defScope s_law_subsets) := ⟨rfl, rfl, rfl, by decide +kernel, rfl, by decide +kernel, by decide +kernel⟩
abbrev s_law_opposite : Stmt := topS 17
def c_law_opposite : CSs := (.cons (.ret (.comp (.var 2) (.nm 2) (.rng1 (.b1 .len (.var 0))) (.cons (.cmp .Eq (.b1 .len (.comp (.var 3) (.nm 3) (.val (.var 1)) (.cons (.not (.ix (.ix (.var 0) (.var 2)) (.var 3))) .nil) [3])) (.int 0)) .nil) [2])) .nil)
theorem t_law_opposite : cB ⟨[], []⟩ ["table", "points", "k", "point"] s_law_opposite = some c_law_opposite := by rfl
theorem sc_law_opposite : FnScope ["table", "points", "k", "point"] ["table", "points"] (defScope s_law_opposite) := ⟨rfl, rfl, rfl, by decide +kernel, rfl, by decide +kernel, by decide +kernel⟩
abbrev s_law_lattice : Stmt := topS 18
def c_law_lattice : CSs := (.cons (.parc 1 2 (.call 11 (.cons (.var 0) .nil)) (.lst .nil)) (.cons (.for_ (.nm 3) (.val (.call 12 (.cons (.ix (.var 0) (.int 0)) .nil))) (.cons (.ite (.cmp .Eq (.call 13 (.cons (.var 1) (.cons (.call 13 (.cons (.var 1) (.cons (.var 3) .nil))) .nil))) (.b1 .list (.var 3))) (.cons (.app 2 (.var 3)) .nil) .nil) .nil)) (.cons (.asg 2 (.b1 .sorted (.var 2))) (.cons (.asg 4 (.comp (.b1 .tuple (.comp (.idx (.var 2) (.b1 .tuple (.comp (.var 7) (.nm 7) (.val (.var 5)) (.cons (.cmp .In (.var 7) (.var 6)) .nil) [7]))) (.nm 6) (.val (.var 2)) .nil [6])) (.nm 5) (.val (.var 2)) .nil [5])) (.cons (.ret (.tup (.cons (.var 2) (.cons (.tup (.cons (.b1 .len (.var 2)) (.cons (.b1 .tuple (.var 4)) (.cons (.b1 .tuple (.comp (.idx (.var 2) (.b1 .tuple (.call 13 (.cons (.var 1) (.cons (.var 5) .nil))))) (.nm 5) (.val (.var 2)) .nil [5])) .nil)))) .nil)))) .nil)))))
theorem t_law_lattice : cB ⟨[("_law_opposite", 13), ("_law_subsets", 12), ("_law_table", 11)], []⟩ ["room", "table", "sets", "points", "meets", "one", "two", "p"] s_law_lattice = some c_law_lattice := by rfl
theorem sc_law_lattice : FnScope ["room", "table", "sets", "points", "meets", "one", "two", "p"] ["room"] (defScope s_law_lattice) := ⟨rfl, rfl, rfl, by decide +kernel, rfl, by decide +kernel, by decide +kernel⟩
abbrev s_law_spread : Stmt := topS 19
def c_law_spread : CSs := (.cons (.asg 1 (.bin .Mod (.b1 .int (.var 0)) (.int 2147483647))) (.cons (.asg 2 (.int 1)) (.cons (.for_ (.nm 3) (.rng1 (.int 4)) (.cons (.asg 1 (.bin .Mod (.b1 .int (.bin .Add (.bin .Add (.bin .Mult (.var 1) (.int 48271)) (.int 12345)) (.var 3))) (.int 2147483647))) (.cons (.asg 2 (.bin .Add (.bin .Mult (.var 2) (.int 2147483647)) (.var 1))) .nil))) (.cons (.ret (.var 2)) .nil))))
theorem t_law_spread : cB ⟨[], []⟩ ["cell", "blended", "whole_sum", "k"] s_law_spread = some c_law_spread := by rfl
theorem sc_law_spread : FnScope ["cell", "blended", "whole_sum", "k"] ["cell"] (defScope s_law_spread) := ⟨rfl, rfl, rfl, by decide +kernel, rfl, by decide +kernel, by decide +kernel⟩
abbrev s_law_draw : Stmt := topS 20
def c_law_draw : CSs := (.cons (.ite (.and (.cmp .LtE (.ix (.var 0) (.int 2)) (.int 0)) (.cmp .Lt (.ix (.var 0) (.int 1)) (.b1 .len (.ix (.var 0) (.int 0))))) (.cons (.asg 2 (.ix (.ix (.var 0) (.int 0)) (.ix (.var 0) (.int 1)))) (.cons (.put 0 (.int 1) (.bin .Add (.ix (.var 0) (.int 1)) (.int 1))) (.cons (.put 0 (.int 2) (.var 2)) (.cons (.ite (.cmp .Lt (.var 2) (.int 1000000000000000000)) (.cons (.put 0 (.int 2) (.call 15 (.cons (.var 2) .nil))) .nil) .nil) .nil)))) .nil) (.cons (.put 0 (.int 3) (.bin .Add (.ix (.var 0) (.int 3)) (.int 1))) (.cons (.ite (.cmp .LtE (.ix (.var 0) (.int 2)) (.int 0)) (.cons (.asg 3 (.bin .Mod (.b1 .int (.bin .Add (.bin .Add (.bin .Mult (.ix (.var 0) (.int 4)) (.int 48271)) (.bin .Mult (.ix (.var 0) (.int 3)) (.int 69621))) (.int 1))) (.int 2147483647))) (.cons (.asg 3 (.bin .Mod (.b1 .int (.bin .Add (.bin .Mult (.var 3) (.int 16807)) (.ix (.var 0) (.int 3)))) (.int 2147483629))) (.cons (.ret (.bin .Mod (.bin .FloorDiv (.var 3) (.int 5)) (.var 1))) .nil))) .nil) (.cons (.asg 4 (.bin .Mod (.b1 .int (.ix (.var 0) (.int 2))) (.var 1))) (.cons (.put 0 (.int 2) (.bin .FloorDiv (.ix (.var 0) (.int 2)) (.var 1))) (.cons (.ret (.var 4)) .nil))))))
theorem t_law_draw : cB ⟨[("_law_spread", 15)], []⟩ ["pool", "many", "cell", "blended", "value"] s_law_draw = some c_law_draw := by rfl
theorem sc_law_draw : FnScope ["pool", "many", "cell", "blended", "value"] ["pool", "many"] (defScope s_law_draw) := ⟨rfl, rfl, rfl, by decide +kernel, rfl, by decide +kernel, by decide +kernel⟩
abbrev s_law_room : Stmt := topS 21
def c_law_room : CSs := (.cons (.par3 3 4 5 (.bin .Add (.int 1) (.call 16 (.cons (.var 0) (.cons (.var 1) .nil)))) (.lst .nil) (.lst .nil)) (.cons (.asg 6 (.bin .Add (.int 2) (.call 16 (.cons (.var 0) (.cons (.int 3) .nil))))) (.cons (.for_ (.nm 7) (.rng1 (.var 3)) (.cons (.asg 4 (.bin .Add (.var 4) (.comp (.tup (.cons (.var 7) (.cons (.var 11) .nil))) (.nm 11) (.rng2 (.bin .Add (.var 7) (.int 1)) (.var 3)) (.cons (.cmp .Eq (.call 16 (.cons (.var 0) (.cons (.var 6) .nil))) (.int 0)) .nil) [11]))) .nil)) (.cons (.asg 8 (.call 11 (.cons (.tup (.cons (.var 3) (.cons (.var 4) (.cons (.tup .nil) .nil)))) .nil))) (.cons (.for_ (.nm 9) (.val (.var 2)) (.cons (.ite (.cmp .Gt (.call 16 (.cons (.var 0) (.cons (.int 6) .nil))) (.int 0)) (.cons (.asg 10 (.comp (.var 12) (.nm 12) (.rng1 (.var 3)) (.cons (.cmp .Eq (.call 16 (.cons (.var 0) (.cons (.int 3) .nil))) (.int 0)) .nil) [12])) (.cons (.app 5 (.tup (.cons (.var 9) (.cons (.b1 .tuple (.call 13 (.cons (.var 8) (.cons (.call 13 (.cons (.var 8) (.cons (.var 10) .nil))) .nil)))) .nil)))) .nil)) .nil) .nil)) (.cons (.ret (.tup (.cons (.var 3) (.cons (.b1 .tuple (.var 4)) (.cons (.b1 .tuple (.var 5)) .nil))))) .nil))))))
theorem t_law_room : cB ⟨[("_law_draw", 16), ("_law_opposite", 13), ("_law_table", 11)], []⟩ ["pool", "most", "names", "number", "pairs", "values", "often", "one", "table", "name", "some", "two", "k"] s_law_room = some c_law_room := by rfl
theorem sc_law_room : FnScope ["pool", "most", "names", "number", "pairs", "values", "often", "one", "table", "name", "some", "two", "k"] ["pool", "most", "names"] (defScope s_law_room) := ⟨rfl, rfl, rfl, by decide +kernel, rfl, by decide +kernel, by decide +kernel⟩
abbrev s_law_join : Stmt := topS 22
def c_law_join : CSs := (.cons (.asg 3 (.ix (.var 0) (.int 2))) (.cons (.ret (.ix (.var 3) (.ix (.ix (.ix (.var 0) (.int 1)) (.ix (.var 3) (.var 1))) (.ix (.var 3) (.var 2))))) .nil))
theorem t_law_join : cB ⟨[], []⟩ ["lattice", "x", "y", "turned"] s_law_join = some c_law_join := by rfl
theorem sc_law_join : FnScope ["lattice", "x", "y", "turned"] ["lattice", "x", "y"] (defScope s_law_join) := ⟨rfl, rfl, rfl, by decide +kernel, rfl, by decide +kernel, by decide +kernel⟩
abbrev s_law_same : Stmt := topS 23
def c_law_same : CSs := (.cons (.ite (.or (.isi (.var 1) [.btuple]) (.isi (.var 1) [.blist])) (.cons (.ite (.or (.cmp .NotEq (.isi (.var 1) [.btuple]) (.isi (.var 0) [.btuple])) (.cmp .NotEq (.isi (.var 1) [.blist]) (.isi (.var 0) [.blist]))) (.cons (.ret (.bl false)) .nil) .nil) (.cons (.ite (.cmp .NotEq (.b1 .len (.var 0)) (.b1 .len (.var 1))) (.cons (.ret (.bl false)) .nil) .nil) (.cons (.ret (.cmp .Eq (.b1 .len (.comp (.var 2) (.nm 2) (.rng1 (.b1 .len (.var 1))) (.cons (.not (.call 19 (.cons (.ix (.var 0) (.var 2)) (.cons (.ix (.var 1) (.var 2)) .nil)))) .nil) [2])) (.int 0))) .nil))) .nil) (.cons (.ite (.cmp .Is (.var 1) (.non)) (.cons (.ret (.cmp .Is (.var 0) (.non))) .nil) .nil) (.cons (.ite (.or (.isi (.var 1) [.bbool]) (.isi (.var 0) [.bbool])) (.cons (.ret (.and (.isi (.var 1) [.bbool]) (.and (.isi (.var 0) [.bbool]) (.cmp .Eq (.var 0) (.var 1))))) .nil) .nil) (.cons (.ite (.isi (.var 1) [.bint]) (.cons (.ret (.and (.isi (.var 0) [.bint]) (.cmp .Eq (.var 0) (.var 1)))) .nil) .nil) (.cons (.ret (.and (.isi (.var 0) [.bstr]) (.cmp .Eq (.var 0) (.var 1)))) .nil)))))
theorem t_law_same : cB ⟨[("_law_same", 19)], []⟩ ["actual", "due", "k"] s_law_same = some c_law_same := by rfl
theorem sc_law_same : FnScope ["actual", "due", "k"] ["actual", "due"] (defScope s_law_same) := ⟨rfl, rfl, rfl, by decide +kernel, rfl, by decide +kernel, by decide +kernel⟩
abbrev s_law_spots : Stmt := topS 24
def c_law_spots : CSs := (.cons (.asg 2 (.lst (.cons (.var 1) .nil))) (.cons (.ite (.isi (.var 0) [.btuple]) (.cons (.for_ (.nm 3) (.rng1 (.b1 .len (.var 0))) (.cons (.asg 2 (.bin .Add (.var 2) (.call 20 (.cons (.ix (.var 0) (.var 3)) (.cons (.bin .Add (.var 1) (.lst (.cons (.var 3) .nil))) .nil))))) .nil)) .nil) .nil) (.cons (.ret (.var 2)) .nil)))
theorem t_law_spots : cB ⟨[("_law_spots", 20)], []⟩ ["value", "path", "found", "k"] s_law_spots = some c_law_spots := by rfl
theorem sc_law_spots : FnScope ["value", "path", "found", "k"] ["value", "path"] (defScope s_law_spots) := ⟨rfl, rfl, rfl, by decide +kernel, rfl, by decide +kernel, by decide +kernel⟩
abbrev s_law_pick : Stmt := topS 25
def c_law_pick : CSs := (.cons (.ret (.ix (.var 1) (.call 16 (.cons (.var 0) (.cons (.b1 .len (.var 1)) .nil))))) .nil)
theorem t_law_pick : cB ⟨[("_law_draw", 16)], []⟩ ["pool", "items"] s_law_pick = some c_law_pick := by rfl
theorem sc_law_pick : FnScope ["pool", "items"] ["pool", "items"] (defScope s_law_pick) := ⟨rfl, rfl, rfl, by decide +kernel, rfl, by decide +kernel, by decide +kernel⟩
abbrev s_law_spot_put : Stmt := topS 26
def c_law_spot_put : CSs := (.cons (.ite (.cmp .Eq (.b1 .len (.var 1)) (.int 0)) (.cons (.ret (.var 2)) .nil) .nil) (.cons (.ret (.bin .Add (.bin .Add (.sl (.var 0) .no (.some (.ix (.var 1) (.int 0)))) (.tup (.cons (.call 22 (.cons (.ix (.var 0) (.ix (.var 1) (.int 0))) (.cons (.sl (.var 1) (.some (.int 1)) .no) (.cons (.var 2) .nil)))) .nil))) (.sl (.var 0) (.some (.bin .Add (.ix (.var 1) (.int 0)) (.int 1))) .no))) .nil))
theorem t_law_spot_put : cB ⟨[("_law_spot_put", 22)], []⟩ ["value", "path", "item"] s_law_spot_put = some c_law_spot_put := by rfl
theorem sc_law_spot_put : FnScope ["value", "path", "item"] ["value", "path", "item"] (defScope s_law_spot_put) := ⟨rfl, rfl, rfl, by decide +kernel, rfl, by decide +kernel, by decide +kernel⟩
abbrev s_law_bent_spot : Stmt := topS 27
def c_law_bent_spot : CSs := (.cons (.ite (.isi (.var 1) [.btuple]) (.cons (.ret (.call 21 (.cons (.var 0) (.cons (.lst (.cons (.sl (.var 1) (.some (.int 1)) .no) (.cons (.bin .Add (.var 1) (.sl (.var 1) (.some (.neg (.int 1))) .no)) (.cons (.rev (.var 1)) (.cons (.b1 .list (.var 1)) (.cons (.non) (.cons (.tup .nil) (.cons (.bin .Add (.var 1) (.tup (.cons (.int 0) .nil))) (.cons (.tup (.cons (.str "name") (.cons (.str "a") .nil))) (.cons (.tup (.cons (.str "not") (.cons (.var 1) .nil))) (.cons (.tup (.cons (.str "all") .nil)) .nil))))))))))) .nil)))) .nil) .nil) (.cons (.ite (.isi (.var 1) [.bstr]) (.cons (.ret (.call 21 (.cons (.var 0) (.cons (.lst (.cons (.str "all") (.cons (.str "none") (.cons (.str "name") (.cons (.str "both") (.cons (.str "either") (.cons (.str "same") (.cons (.str "chain") (.cons (.str "turn") (.cons (.str "meet") (.cons (.str "join") (.cons (.str "first") (.cons (.str "one") (.cons (.str "a") (.cons (.str "b") (.cons (.str "derived") (.cons (.str "barred") (.cons (.non) .nil)))))))))))))))))) .nil)))) .nil) .nil) (.cons (.ite (.cmp .Is (.var 1) (.non)) (.cons (.ret (.call 21 (.cons (.var 0) (.cons (.lst (.cons (.tup .nil) (.cons (.int 0) (.cons (.bl false) .nil)))) .nil)))) .nil) .nil) (.cons (.ret (.call 21 (.cons (.var 0) (.cons (.lst (.cons (.bin .Add (.var 1) (.int 1)) (.cons (.bin .Sub (.var 1) (.int 1)) (.cons (.bin .Add (.var 1) (.int 0)) (.cons (.cmp .Eq (.var 1) (.int 1)) (.cons (.non) (.cons (.b1 .str (.var 1)) (.cons (.int 7) .nil)))))))) .nil)))) .nil))))
theorem t_law_bent_spot : cB ⟨[("_law_pick", 21)], []⟩ ["pool", "value"] s_law_bent_spot = some c_law_bent_spot := by rfl
theorem sc_law_bent_spot : FnScope ["pool", "value"] ["pool", "value"] (defScope s_law_bent_spot) := ⟨rfl, rfl, rfl, by decide +kernel, rfl, by decide +kernel, by decide +kernel⟩
abbrev s_law_spot : Stmt := topS 28
def c_law_spot : CSs := (.cons (.for_ (.nm 2) (.val (.var 1)) (.cons (.asg 0 (.ix (.var 0) (.var 2))) .nil)) (.cons (.ret (.var 0)) .nil))
theorem t_law_spot : cB ⟨[], []⟩ ["value", "path", "step"] s_law_spot = some c_law_spot := by rfl
theorem sc_law_spot : FnScope ["value", "path", "step"] ["value", "path"] (defScope s_law_spot) := ⟨rfl, rfl, rfl, by decide +kernel, rfl, by decide +kernel, by decide +kernel⟩
abbrev s_law_odd_values : Stmt := topS 29
def c_law_odd_values : CSs := (.cons (.ret (.lst (.cons (.non) (.cons (.bl true) (.cons (.bl false) (.cons (.int 0) (.cons (.int 1) (.cons (.neg (.int 1)) (.cons (.str "") (.cons (.str "derived") (.cons (.tup .nil) (.cons (.lst .nil) (.cons (.dnil) (.cons (.tup (.cons (.int 0) .nil)) (.cons (.tup (.cons (.bl true) .nil)) (.cons (.tup (.cons (.tup .nil) .nil)) (.cons (.lst (.cons (.int 0) (.cons (.int 1) .nil))) (.cons (.tup (.cons (.int 0) (.cons (.int 0) .nil))) (.cons (.tup (.cons (.int 1) (.cons (.int 0) (.cons (.int 2) .nil)))) (.cons (.tup (.cons (.str "derived") .nil)) (.cons (.tup (.cons (.str "derived") (.cons (.tup .nil) .nil))) (.cons (.tup (.cons (.str "barred") (.cons (.tup .nil) .nil))) (.cons (.tup (.cons (.str "barred") (.cons (.tup (.cons (.int 1) (.cons (.tup .nil) (.cons (.tup .nil) .nil)))) (.cons (.int 0) .nil)))) (.cons (.tup (.cons (.str "name") (.cons (.str "a") .nil))) (.cons (.tup (.cons (.str "all") .nil)) .nil))))))))))))))))))))))))) .nil)
theorem t_law_odd_values : cB ⟨[], []⟩ [] s_law_odd_values = some c_law_odd_values := by rfl
theorem sc_law_odd_values : FnScope [] [] (defScope s_law_odd_values) := ⟨rfl, rfl, rfl, by decide +kernel, rfl, by decide +kernel, by decide +kernel⟩
abbrev s_law_bent : Stmt := topS 30
def c_law_bent : CSs := (.cons (.asg 3 (.lst (.cons (.var 1) (.cons (.b1 .list (.var 1)) (.cons (.bin .Add (.var 1) (.tup (.cons (.int 0) .nil))) (.cons (.tup (.cons (.ix (.var 1) (.int 0)) .nil)) (.cons (.rev (.var 1)) .nil))))))) (.cons (.asg 4 (.call 20 (.cons (.var 1) (.cons (.lst .nil) .nil)))) (.cons (.for_ (.nm 5) (.rng1 (.var 2)) (.cons (.asg 6 (.call 21 (.cons (.var 0) (.cons (.var 4) .nil)))) (.cons (.app 3 (.call 22 (.cons (.var 1) (.cons (.var 6) (.cons (.call 23 (.cons (.var 0) (.cons (.call 24 (.cons (.var 1) (.cons (.var 6) .nil))) .nil))) .nil))))) .nil))) (.cons (.ret (.bin .Add (.var 3) (.call 25 .nil))) .nil))))
theorem t_law_bent : cB ⟨[("_law_odd_values", 25), ("_law_spot_put", 22), ("_law_bent_spot", 23), ("_law_spot", 24), ("_law_pick", 21), ("_law_spots", 20)], []⟩ ["pool", "paper", "many", "found", "spots", "k", "path"] s_law_bent = some c_law_bent := by rfl
theorem sc_law_bent : FnScope ["pool", "paper", "many", "found", "spots", "k", "path"] ["pool", "paper", "many"] (defScope s_law_bent) := ⟨rfl, rfl, rfl, by decide +kernel, rfl, by decide +kernel, by decide +kernel⟩
abbrev s_law_is_worded : Stmt := topS 31
def c_law_is_worded : CSs := (.cons (.ite (.or (.not (.isi (.var 0) [.btuple])) (.cmp .NotEq (.b1 .len (.var 0)) (.var 2))) (.cons (.ret (.bl false)) .nil) .nil) (.cons (.ret (.and (.isi (.ix (.var 0) (.int 0)) [.bstr]) (.cmp .Eq (.ix (.var 0) (.int 0)) (.var 1)))) .nil))
theorem t_law_is_worded : cB ⟨[], []⟩ ["value", "word", "length"] s_law_is_worded = some c_law_is_worded := by rfl
theorem sc_law_is_worded : FnScope ["value", "word", "length"] ["value", "word", "length"] (defScope s_law_is_worded) := ⟨rfl, rfl, rfl, by decide +kernel, rfl, by decide +kernel, by decide +kernel⟩
abbrev s_law_is_integer : Stmt := topS 32
def c_law_is_integer : CSs := (.cons (.ret (.and (.isi (.var 0) [.bint]) (.not (.isi (.var 0) [.bbool])))) .nil)
theorem t_law_is_integer : cB ⟨[], []⟩ ["actual"] s_law_is_integer = some c_law_is_integer := by rfl
theorem sc_law_is_integer : FnScope ["actual"] ["actual"] (defScope s_law_is_integer) := ⟨rfl, rfl, rfl, by decide +kernel, rfl, by decide +kernel, by decide +kernel⟩
abbrev s_law_is_row : Stmt := topS 33
def c_law_is_row : CSs := (.cons (.ret (.and (.isi (.var 0) [.btuple]) (.and (.cmp .Eq (.b1 .len (.var 0)) (.var 1)) (.cmp .Eq (.b1 .len (.comp (.var 2) (.nm 2) (.val (.var 0)) (.cons (.not (.call 28 (.cons (.var 2) .nil))) .nil) [2])) (.int 0))))) .nil)
theorem t_law_is_row : cB ⟨[("_law_is_integer", 28)], []⟩ ["value", "many", "n"] s_law_is_row = some c_law_is_row := by rfl
theorem sc_law_is_row : FnScope ["value", "many", "n"] ["value", "many"] (defScope s_law_is_row) := ⟨rfl, rfl, rfl, by decide +kernel, rfl, by decide +kernel, by decide +kernel⟩
abbrev s_law : Stmt := topS 34
def c_law : CSs := (.cons (.unp [2, 3] (.call 14 (.cons (.call 17 (.cons (.var 1) (.cons (.int 6) (.cons (.lst .nil) .nil)))) .nil))) (.cons (.unp [4, 5, 6] (.var 3)) (.cons (.ite (.cmp .Gt (.var 4) (.int 30)) (.cons (.ret (.cmp .Eq (.call 3 (.cons (.var 3) .nil)) (.cmp .LtE (.var 4) (.int 64)))) .nil) .nil) (.cons (.unp [7, 8, 9, 10] (.tup (.cons (.idx (.var 2) (.tup .nil)) (.cons (.lst .nil) (.cons (.bl true) (.cons (.bl true) .nil)))))) (.cons (.for_ (.nm 11) (.rng1 (.var 4)) (.cons (.for_ (.nm 12) (.rng1 (.var 4)) (.cons (.asg 13 (.cmp .Eq (.call 18 (.cons (.var 3) (.cons (.ix (.ix (.var 5) (.var 11)) (.var 12)) (.cons (.ix (.ix (.var 5) (.var 11)) (.ix (.var 6) (.var 12))) .nil)))) (.var 11))) (.cons (.asg 14 (.cmp .Eq (.call 18 (.cons (.var 3) (.cons (.ix (.ix (.var 5) (.var 12)) (.var 11)) (.cons (.ix (.ix (.var 5) (.var 12)) (.ix (.var 6) (.var 11))) .nil)))) (.var 12))) (.cons (.ite (.not (.call 19 (.cons (.call 6 (.cons (.var 3) (.cons (.var 11) (.cons (.var 12) .nil)))) (.cons (.var 13) .nil)))) (.cons (.ret (.bl false)) .nil) .nil) (.cons (.asg 9 (.and (.var 9) (.cmp .Eq (.var 13) (.var 14)))) (.cons (.ite (.and (.cmp .NotEq (.var 11) (.var 12)) (.cmp .Eq (.ix (.ix (.var 5) (.var 11)) (.var 12)) (.var 11))) (.cons (.asg 10 (.and (.var 10) (.cmp .Eq (.call 18 (.cons (.var 3) (.cons (.var 11) (.cons (.ix (.ix (.var 5) (.var 12)) (.ix (.var 6) (.var 11))) .nil)))) (.var 12)))) (.cons (.asg 8 (.bin .Add (.var 8) (.ite (.cmp .Eq (.ix (.ix (.var 5) (.var 12)) (.ix (.var 6) (.var 11))) (.var 7)) (.lst (.cons (.tup (.cons (.var 11) (.cons (.var 12) .nil))) .nil)) (.lst .nil)))) .nil)) .nil) .nil)))))) .nil)) (.cons (.asg 15 (.call 7 (.cons (.var 3) .nil))) (.cons (.ite (.or (.cmp .NotEq (.var 9) (.cmp .Eq (.var 8) (.lst .nil))) (.or (.cmp .NotEq (.var 10) (.var 9)) (.not (.call 19 (.cons (.ix (.var 15) (.int 0)) (.cons (.ite (.var 9) (.str "modular") (.str "hexagon")) .nil)))))) (.cons (.ret (.bl false)) .nil) .nil) (.cons (.ite (.and (.not (.var 9)) (.or (.cmp .NotEq (.b1 .len (.var 15)) (.int 3)) (.cmp .NotIn (.sl (.var 15) (.some (.int 1)) .no) (.var 8)))) (.cons (.ret (.bl false)) .nil) .nil) (.cons (.asg 16 (.bin .Add (.lst (.cons (.var 15) (.cons (.tup (.cons (.str "modular") .nil)) (.cons (.tup (.cons (.str "modular") (.cons (.int 0) (.cons (.int 0) .nil)))) .nil)))) (.comp (.tup (.cons (.str "hexagon") (.cons (.call 16 (.cons (.var 1) (.cons (.var 4) .nil))) (.cons (.call 16 (.cons (.var 1) (.cons (.var 4) .nil))) .nil)))) (.nm 19) (.rng1 (.int 6)) .nil [19]))) (.cons (.for_ (.nm 17) (.val (.bin .Add (.bin .Add (.bin .Add (.var 16) (.comp (.bin .Add (.tup (.cons (.str "hexagon") .nil)) (.var 20)) (.nm 20) (.val (.sl (.var 8) .no (.some (.int 3)))) .nil [20])) (.lst (.cons (.tup (.cons (.str "hexagon") (.cons (.var 4) (.cons (.int 0) .nil)))) (.cons (.tup (.cons (.str "hexagon") (.cons (.neg (.int 1)) (.cons (.int 0) .nil)))) .nil)))) (.call 26 (.cons (.var 1) (.cons (.var 15) (.cons (.int 5) .nil)))))) (.cons (.asg 18 (.or (.and (.cmp .Eq (.var 17) (.tup (.cons (.str "modular") .nil))) (.var 9)) (.and (.call 27 (.cons (.var 17) (.cons (.str "hexagon") (.cons (.int 3) .nil)))) (.and (.call 29 (.cons (.sl (.var 17) (.some (.int 1)) .no) (.cons (.int 2) .nil))) (.cmp .In (.sl (.var 17) (.some (.int 1)) .no) (.var 8)))))) (.cons (.ite (.not (.call 19 (.cons (.call 9 (.cons (.var 3) (.cons (.var 17) .nil))) (.cons (.var 18) .nil)))) (.cons (.ret (.bl false)) .nil) .nil) .nil))) (.cons (.ret (.bl true)) .nil)))))))))))
end LW

/-! TB: a table of lists in the heap, written at places. -/
namespace DL
open PySem PySem.Spec PyProof.Rows L2
def rowV (n : Nat) (B : Nat → Nat → Bool) (i : Nat) : List V := (List.range n).map fun j => V.bl (B i j)
structure Tab (H0 H : Hp) (t : Addr) (as : List Addr) (B : Nat → Nat → Bool) (n : Nat) : Prop where
  at_ : H t = some (.lst (as.map V.ref))
  t0 : H0 t = none
  nd : as.Nodup
  nt : t ∉ as
  new : ∀ a ∈ as, H0 a = none
  row : ∀ i a, as[i]? = some a → H a = some (.lst (rowV n B i))
  old : ∀ b o, H0 b = some o → H b = some o
theorem Tab.free {H0 H : Hp} {t : Addr} {as : List Addr} {B : Nat → Nat → Bool} {n : Nat} (T : Tab H0 H t as B n) {b : Addr} (h : H b = none) : H0 b = none := by
  cases q : H0 b with
  | none => rfl
  | some o => rw [T.old b o q] at h; cases h
theorem Tab.start {H0 : Hp} {t : Addr} {n : Nat} (h : H0 t = none) : Tab H0 (upd H0 t (.lst [])) t [] (fun _ _ => false) n :=
  ⟨upd_same, h, .nil, List.not_mem_nil, fun a ha => (nomatch ha), fun i a e => by simp at e, fun b o e => by rw [upd_ne (ne_of_none e h)]; exact e⟩
theorem flat_rep (n : Nat) (x : V) : (List.replicate n [x]).flatten = (List.range n).map fun _ => x := by
  rw [show ((List.range n).map fun _ => x) = List.replicate n x by rw [List.map_const', List.length_range]]
  induction n with
  | zero => rfl
  | succ n ih => rw [List.replicate_succ, List.flatten_cons, ih, List.replicate_succ]; rfl
/-- one more row -/
theorem Tab.more {H0 H : Hp} {t l q : Addr} {as : List Addr} {n : Nat} {o : HO} (T : Tab H0 H t as (fun _ _ => false) n) (hl : H l = none) (hq : (upd H l o) q = none) :
    Tab H0 (upd (upd (upd H l o) q (.lst (rowV n (fun _ _ => false) 0))) t (.lst (as.map V.ref ++ [V.ref q]))) t (as ++ [q]) (fun _ _ => false) n := by
  have q2 : H q = none := by
    by_cases e : q = l
    · rw [e, upd_same] at hq; cases hq
    · rw [upd_ne e] at hq; exact hq
  have tl : t ≠ l := fun e => by rw [← e, T.at_] at hl; cases hl
  have tq : t ≠ q := fun e => by rw [← e, T.at_] at q2; cases q2
  have aq : ∀ a ∈ as, a ≠ q ∧ a ≠ l ∧ a ≠ t := fun a ha => by
    obtain ⟨i, hi⟩ := List.getElem?_of_mem ha
    have r := T.row i a hi
    refine ⟨fun e => ?_, fun e => ?_, fun e => ?_⟩
    · rw [e, q2] at r; cases r
    · rw [e, hl] at r; cases r
    · exact T.nt (e ▸ ha)
  refine ⟨by rw [upd_same, List.map_append]; rfl, T.t0, ?_, ?_, fun a ha => ?_, fun i a e => ?_, fun b o e => ?_⟩
  · rw [List.nodup_append]
    exact ⟨T.nd, List.pairwise_singleton _ _, fun a ha b hb => by rw [List.mem_singleton.mp hb]; exact (aq a ha).1⟩
  · rw [List.mem_append, List.mem_singleton]
    exact fun h => h.elim T.nt tq
  · rcases List.mem_append.mp ha with ha | ha
    · exact T.new a ha
    · rw [List.mem_singleton.mp ha]; exact T.free q2
  · rw [List.getElem?_append] at e
    split at e
    · have m := List.mem_of_getElem? e
      obtain ⟨n1, n2, n3⟩ := aq a m
      rw [upd_ne n3, upd_ne n1, upd_ne n2]
      exact T.row i a e
    · have ea : a = q := by
        have m := List.mem_of_getElem? e
        exact List.mem_singleton.mp m
      rw [ea, upd_ne tq.symm, upd_same]
      rfl
  · have e' := T.old b o e
    rw [upd_ne (fun z => by rw [z, T.t0] at e; cases e), upd_ne (fun z => by rw [z, q2] at e'; cases e'), upd_ne (fun z => by rw [z, hl] at e'; cases e')]
    exact e'
def setB (B : Nat → Nat → Bool) (x y : Nat) : Nat → Nat → Bool := fun i j => B i j || (decide (i = x) && decide (j = y))
theorem row_set {n x y : Nat} {B : Nat → Nat → Bool} (hy : y < n) : (rowV n B x).set y (V.bl true) = rowV n (setB B x y) x := by
  unfold rowV
  refine List.ext_getElem? fun j => ?_
  rw [List.getElem?_set, List.length_map, List.length_range]
  by_cases e : y = j
  · subst e
    rw [if_pos rfl, if_pos hy, List.getElem?_map, List.getElem?_range hy]
    simp [setB]
  · rw [if_neg e]
    by_cases l : j < n
    · rw [List.getElem?_map, List.getElem?_map, List.getElem?_range l]
      have e' : ¬ j = y := fun z => e z.symm
      simp [setB, e']
    · rw [List.getElem?_eq_none (by simp; omega), List.getElem?_eq_none (by simp; omega)]
theorem row_far {n x y i : Nat} {B : Nat → Nat → Bool} (h : i ≠ x) : rowV n (setB B x y) i = rowV n B i := by
  unfold rowV setB
  refine List.map_congr_left fun j _ => ?_
  simp [h]
/-- a place written -/
theorem Tab.put {H0 H : Hp} {t a : Addr} {as : List Addr} {B : Nat → Nat → Bool} {n x y : Nat} (T : Tab H0 H t as B n) (hy : y < n) (ha : as[x]? = some a) : Tab H0 (upd H a (.lst ((rowV n B x).set y (V.bl true)))) t as (setB B x y) n := by
  have m := List.mem_of_getElem? ha
  have ta : t ≠ a := fun e => T.nt (e ▸ m)
  refine ⟨by rw [upd_ne ta]; exact T.at_, T.t0, T.nd, T.nt, T.new, fun i b e => ?_, fun b o e => ?_⟩
  · by_cases z : i = x
    · subst z
      rw [ha] at e
      cases e
      rw [upd_same, row_set hy]
    · have ne : b ≠ a := fun w => by
        subst w
        have l1 := (List.getElem?_eq_some_iff.mp e).1
        have l2 := (List.getElem?_eq_some_iff.mp ha).1
        exact z ((List.getElem?_inj l1 T.nd).mp (e.trans ha.symm))
      rw [upd_ne ne, row_far z]
      exact T.row i b e
  · rw [upd_ne (fun z => by rw [z, T.new a m] at e; cases e)]
    exact T.old b o e
theorem RepL.of_get {K : PySem.W.Frag} {p : Addr} {H : Hp} : ∀ {ds : List D} {vs : List V}, ds.length = vs.length → (∀ (i : Nat) (d : D) (v : V), ds[i]? = some d → vs[i]? = some v → Rep K p H d v) → RepL K p H ds vs
  | [], [], _, _ => rfl
  | [], _ :: _, h, _ => by cases h
  | _ :: _, [], h, _ => by cases h
  | d :: ds, v :: vs, h, f => ⟨v, vs, rfl, f 0 d v rfl rfl, RepL.of_get (by simpa using h) fun i d' v' e1 e2 => f (i + 1) d' v' (by simpa using e1) (by simpa using e2)⟩
theorem rep_row {K : PySem.W.Frag} {p : Addr} {H : Hp} (B : Nat → Nat → Bool) (i : Nat) : ∀ l : List Nat, RepL K p H (l.map fun j => PyData.bool (B i j)) (l.map fun j => V.bl (B i j))
  | [] => rfl
  | j :: l => ⟨_, _, rfl, rfl, rep_row B i l⟩
/-- the table as data -/
theorem Tab.rep {K : PySem.W.Frag} {p t : Addr} {O : Addr → Bool} {H0 H : Hp} {as : List Addr} {B : Nat → Nat → Bool} {n : Nat} (T : Tab H0 H t as B n) (hl : as.length = n) (tr : ∀ a, O a = true → ∃ o, H0 a = some o) : RepL K p (hid H (addO O t)) (tblD B n) (as.map V.ref) := by
  refine RepL.of_get (by rw [tblD_length, List.length_map, hl]) fun i d v e1 e2 => ?_
  rw [List.getElem?_map, Option.map_eq_some_iff] at e2
  obtain ⟨a, e2, rfl⟩ := e2
  have il : i < n := by rw [← hl]; exact (List.getElem?_eq_some_iff.mp e2).1
  unfold tblD at e1
  rw [List.getElem?_map, List.getElem?_range il] at e1
  have e1' := Option.some.inj e1
  subst e1'
  have m := List.mem_of_getElem? e2
  refine ⟨a, rowV n B i, rfl, hid_of (T.row i a e2) ?_, rep_row B i _⟩
  unfold addO
  have na : a ≠ t := fun z => T.nt (z ▸ m)
  have oa : O a = false := by
    cases q : O a with
    | false => rfl
    | true =>
      obtain ⟨o, z⟩ := tr a q
      rw [T.new a m] at z
      cases z
  simp [na, oa]
theorem Tab.pool {p a0 t : Addr} {H0 H : Hp} {as : List Addr} {B : Nat → Nat → Bool} {n : Nat} (T : Tab H0 H t as B n) (h : PoolOk p a0 H0) : PoolOk p a0 H := by
  obtain ⟨k, m, c, s, q, ⟨ns, l, q0⟩, r⟩ := h
  exact ⟨k, m, c, s, T.old _ _ q, ⟨ns, l, T.old _ _ q0⟩, r⟩
theorem apart_app (ps : List (Nat × Nat)) (a b : Nat) : apart (ps ++ [(a, b)]) = setB (setB (apart ps) a b) b a := by
  funext i j
  unfold apart setB
  rw [List.any_append]
  simp only [List.any_cons, List.any_nil, Bool.or_false]
  rw [Bool.or_assoc]
  congr 1
  rw [Bool.eq_iff_iff]
  simp only [Bool.or_eq_true, Bool.and_eq_true, beq_iff_eq, decide_eq_true_eq]
  constructor
  · rintro (⟨h1, h2⟩ | ⟨h1, h2⟩)
    · exact .inl ⟨h1.symm, h2.symm⟩
    · exact .inr ⟨h2.symm, h1.symm⟩
  · rintro (⟨h1, h2⟩ | ⟨h1, h2⟩)
    · exact .inl ⟨h1.symm, h2.symm⟩
    · exact .inr ⟨h2.symm, h1.symm⟩
theorem prsD_length_ (ps : List (Nat × Nat)) : (prsD ps).length = ps.length := by unfold prsD; rw [List.length_map]
theorem prsD_get {ps : List (Nat × Nat)} {i : Nat} {d : D} (h : (prsD ps)[i]? = some d) : ∃ a b : Nat, ps[i]? = some (a, b) ∧ d = .tuple [.int (a : Int), .int (b : Int)] := by
  unfold prsD at h
  rw [List.getElem?_map, Option.map_eq_some_iff] at h
  obtain ⟨p, h1, h2⟩ := h
  exact ⟨p.1, p.2, h1, h2.symm⟩
theorem ixN_nat {n j : Nat} (h : j < n) : ixN n (j : Int) = some j := by
  unfold ixN
  simp [h]
end DL

namespace LW
open PySem PySem.Spec PyProof.Rows L2 DL
abbrev s_law_table : Stmt := topS 15
/-! ### the law's pool: made and drawn from, by hand -/
section
variable {Pr : Program} {w : World} {K : PySem.W.Frag} {mg : Str → Option Value} {base : Heap}
theorem scPool : FnScope ["script", "salt", "cell"] ["script"] (defScope s_law_pool) := ⟨rfl, rfl, rfl, by decide +kernel, rfl, by decide +kernel, by decide +kernel⟩
theorem ok_pool {f : Addr} {fd : FuncData} (F : Fun K "_law_pool" "_law_pool" s_law_pool f fd) (mi : mg "int" = none) (ml : mg "list" = none) : FnOk Pr w K mg base CX0 1 f fd ["script"] (spPool K) := by
  refine F.ok scPool (fun vs H Q E h => ?_) (fun cdv A outer s H vs Q E hr h => ?_)
  · obtain ⟨a, ns, rfl, _⟩ := h
    rfl
  · obtain ⟨a, ns, rfl, hS, hlen, q⟩ := h
    refine ⟨_, pss_cons (ps_set (i := 1) scPool.nd rfl (.inl rfl) pe_int)
      (pss_cons (ps_for PassesOwn.never rfl (pi_list (pe_slice sl_list (pv 0) po_none (po_some pe_int))) (pg_name (i := 2) scPool.nd rfl (.inl rfl))
        (pss_one (ps_set (i := 1) scPool.nd rfl (.inl rfl) (pe_op op_mod (pe_callTy call_int1 (by rfl) mi boot_int (pa_cons (pe_op op_add (pe_op op_mul (pv 1) pe_int) (pv 2)) pa_nil)) pe_int))))
      (pss_one (ps_ret (pe_lst (pa_cons (pe_callTy call_list_of (by rfl) ml boot_list (pa_cons (pv 0) pa_nil)) (pa_cons pe_int (pa_cons pe_int (pa_cons pe_int (pa_cons (pv 1) pa_nil))))))))), ?_⟩
    obtain ⟨ms, em, lm⟩ := cut63 ns
    refine ⟨_, rfl, 63, rfl, a, _, rfl, hS, fun c nc => ?_⟩
    rw [em]
    refine ⟨c, rfl, ⟨_, .inl (.inl upd_same)⟩, for_list (K := K) (a := c) (xs := ms.map V.int) (fun i σ H' => ∃ (z : Int) (y : Option V), σ = [some (.ref a), some (.int z), y] ∧ 0 ≤ z ∧ z < 1000003 ∧ H' = upd H c (.lst (ms.map V.int)))
      ⟨7, none, rfl, by decide, by decide, rfl⟩ (fun i σ H' _ ⟨_, _, _, _, _, e⟩ => by rw [e]; exact .inl (.inl upd_same)) ?_ ?_⟩
    · rintro i y σ H' hi ⟨z, y0, rfl, z0, z1, rfl⟩
      obtain ⟨u, rfl⟩ : ∃ u, y = V.int u := by
        rw [List.getElem?_map] at hi
        cases e : ms[i]? with
        | none => rw [e] at hi; cases hi
        | some u => rw [e] at hi; exact ⟨u, (Option.some.inj hi).symm⟩
      refine ⟨_, rfl, _, _, rfl, rfl, .inl ⟨by omega, by omega⟩, _, rfl, _, _, rfl, rfl, .inl ⟨_, rfl, _, _, rfl, rfl, (by show (0 : Int) < 1000003; decide), ?_⟩⟩
      exact ⟨_, _, rfl, Int.emod_nonneg _ (by decide), Int.emod_lt_of_pos _ (by decide), rfl⟩
    · rintro σ H' ⟨z, y0, rfl, z0, z1, rfl⟩
      have s1 : Same H (upd H c (.lst (ms.map V.int))) := same_new nc
      refine ⟨_, rfl, a, _, rfl, .inl (s1.seq hS), fun l hl => ⟨_, rfl, (by show 5 ≤ sizeLine; decide), fun p hp => ?_⟩⟩
      have nl : l ≠ p := fun e => by
        rw [e, upd_same] at hp
        cases hp
      have hp' : (upd H c (.lst (ms.map V.int))) p = none := by
        rw [upd_ne nl.symm] at hp
        exact hp
      refine q p l _ (s1.trans ((same_new hl).trans (same_new hp))) (s1.free hp') ⟨0, 0, 0, z, upd_same, ⟨ns, hlen, ?_⟩, by decide, by decide, z0, z1⟩
      rw [upd_ne nl, upd_same]
/-! ### a draw -/
theorem scDraw : FnScope ["pool", "many", "cell", "blended", "value"] ["pool", "many"] (defScope s_law_draw) := ⟨rfl, rfl, rfl, by decide +kernel, rfl, by decide +kernel, by decide +kernel⟩
theorem ok_draw {f : Addr} {fd : FuncData} {p a0 : Addr} (F : Fun K "_law_draw" "_law_draw" s_law_draw f fd) (GS : DefOk Pr w K mg base p a0 "_law_spread" 1 spSpread) (mi : mg "int" = none) (ml : mg "len" = none) : FnOk Pr w K mg base CX0 2 f fd ["pool", "many"] (lift K p a0 spDraw) := by
  obtain ⟨fS, fdS, psS, gS, kS, bS, GS⟩ := GS
  refine F.ok scDraw (fun vs H Q E h => ?_) (fun cdv A outer s H vs Q E hr h => ?_)
  · obtain ⟨ds, O, Qd, _, _, _, h4, ⟨many, rfl, _⟩, _⟩ := h
    rw [h4.length]
    rfl
  · obtain ⟨ds, O, Qd, op, pl, tr, h4, ⟨many, rfl, m1, m2, hQ⟩, h6⟩ := h
    obtain ⟨v1, _, rfl, r1, v2, _, rfl, r2, rfl⟩ := h4
    have e1 := rep_pool r1
    have e2 : v2 = .int many := r2
    subst e1 e2
    obtain ⟨k, m, c, z, hp, ⟨ns, hl, ha0⟩, k0, c0, z0, z1⟩ := pl
    have ne : a0 ≠ p := fun e => by
      rw [e, hp] at ha0
      cases ns with
      | nil => cases Option.some.inj ha0
      | cons n ns => cases Option.some.inj ha0
    have C0 : Cells p a0 ns k m c z H H := ⟨hp, SameP.refl H, ha0, ne⟩
    -- the end
    have fin : ∀ (H' : Hp) (k m c z r : Int), Cells p a0 ns k m c z H H' → 0 ≤ k → 0 ≤ c → 0 ≤ z → z < 1000003 → 0 ≤ r → r < many → Q (.int r) H' := fun H' k m c z r C k0 c0 z0 z1 r0 r1 =>
      h6 (.v (.int r)) (.int r) H' C.2.1 (C.pool hl k0 c0 z0 z1) rfl (hQ r r0 r1)
    refine ⟨_, Evl.pss_cut (ps_if (PW.pt (pw_and (pt_cmpR op_le (pe_ix ix_list (pv 0) pe_int (fun _ _ => rfl)) pe_int (nomark _)) (pw_and1 (pt_cmpR op_lt (pe_ix ix_list (pv 0) pe_int (fun _ _ => rfl)) (pe_callB call_len_seq (by rfl) ml PySem.boot_len (pa_cons (pe_ix ix_list (pv 0) pe_int (fun _ _ => rfl)) pa_nil)) (nomark _)))))
          (pss_cons (ps_set (i := 2) scDraw.nd rfl (.inl rfl) (pe_ix ix_list (pe_ix ix_list (pv 0) pe_int (fun _ _ => rfl)) (pe_ix ix_list (pv 0) pe_int (fun _ _ => rfl)) (fun _ _ => rfl)))
          (pss_cons (ps_asg (pe_op op_add (pe_ix ix_list (pv 0) pe_int (fun _ _ => rfl)) pe_int) (pg_sub (pv 0) pe_int set_list))
          (pss_cons (ps_asg (pv 2) (pg_sub (pv 0) pe_int set_list))
          (pss_one (ps_if (pt_cmpR op_lt (pv 2) pe_int (nomark _)) (pss_one (ps_asg (pe_call GS (hr.mono (by decide)) rfl gS kS bS .nil pass0 (pa_cons (pv 2) pa_nil)) (pg_sub (pv 0) pe_int set_list))) pss_nil))))) pss_nil)
      (pss_cons (ps_asg (pe_op op_add (pe_ix ix_list (pv 0) pe_int (fun _ _ => rfl)) pe_int) (pg_sub (pv 0) pe_int set_list))
      (pss_cons (ps_if (pt_cmpR op_le (pe_ix ix_list (pv 0) pe_int (fun _ _ => rfl)) pe_int (nomark _))
          (pss_cons (ps_set (i := 3) scDraw.nd rfl (.inl rfl) (pe_op op_mod (pe_callTy call_int1 (by rfl) mi boot_int (pa_cons (pe_op op_add (pe_op op_add (pe_op op_mul (pe_ix ix_list (pv 0) pe_int (fun _ _ => rfl)) pe_int) (pe_op op_mul (pe_ix ix_list (pv 0) pe_int (fun _ _ => rfl)) pe_int)) pe_int) pa_nil)) pe_int))
          (pss_cons (ps_set (i := 3) scDraw.nd rfl (.inl rfl) (pe_op op_mod (pe_callTy call_int1 (by rfl) mi boot_int (pa_cons (pe_op op_add (pe_op op_mul (pv 3) pe_int) (pe_ix ix_list (pv 0) pe_int (fun _ _ => rfl))) pa_nil)) pe_int))
          (pss_one (ps_ret (pe_op op_mod (pe_op op_fdivN (pv 3) pe_int) (pv 1)))))) pss_nil)
      (pss_cons (ps_set (i := 4) scDraw.nd rfl (.inl rfl) (pe_op op_mod (pe_callTy call_int1 (by rfl) mi boot_int (pa_cons (pe_ix ix_list (pv 0) pe_int (fun _ _ => rfl)) pa_nil)) (pv 1)))
      (pss_cons (ps_asg (pe_op op_fdivN (pe_ix ix_list (pv 0) pe_int (fun _ _ => rfl)) (pv 1)) (pg_sub (pv 0) pe_int set_list))
      (pss_one (ps_ret (pv 4))))))), ?_⟩
    refine ⟨fun σ H' => ∃ k m c z y, σ = [some (.ref p), some (.int many), y, none, none] ∧ Cells p a0 ns k m c z H H' ∧ 0 ≤ k ∧ 0 ≤ c ∧ 0 ≤ z ∧ z < 1000003, ?_, ?_⟩
    · refine ⟨_, rfl, p, _, _, _, rfl, rfl, SqL.of hp, atI_nat (j := 2) rfl, _, _, rfl, rfl, _, rfl, ?_⟩
      refine ite2 (fun _ => ?_) (fun _ => ?_)
      · refine ⟨_, rfl, p, _, _, _, rfl, rfl, SqL.of hp, atI_nat (j := 1) rfl, _, rfl, p, _, _, _, rfl, rfl, SqL.of hp, atI_nat (j := 0) rfl, a0, _, rfl, .inl (SqL.of ha0), _, _, rfl, rfl, _, rfl, ?_⟩
        refine ite2 (fun q => ?_) (fun _ => ?_)
        · have q' : k < ((ns.map V.int).length : Int) := of_decide_eq_true q
          rw [List.length_map] at q'
          have ek : k = ((k.toNat : Nat) : Int) := by omega
          have hk : k.toNat < ns.length := by omega
          have ak : atI (ns.map V.int) k = some (.int ns[k.toNat]) := at_of ek (by rw [List.getElem?_map, List.getElem?_eq_getElem hk]; rfl)
          refine ⟨_, rfl, p, _, _, _, rfl, rfl, SqL.of hp, atI_nat (j := 0) rfl, _, rfl, p, _, _, _, rfl, rfl, SqL.of hp, atI_nat (j := 1) rfl, a0, _, _, _, rfl, rfl, SqL.of ha0, ak, ?_⟩
          have C1 := C0.put (k' := k + 1) (m' := m) (c' := c) (s' := z)
          refine ⟨_, rfl, p, _, _, _, rfl, rfl, SqL.of hp, atI_nat (j := 1) rfl, _, _, rfl, rfl, _, rfl, p, _, _, 1, rfl, rfl, hp, rfl, ?_⟩
          have C2 := C1.put (k' := k + 1) (m' := ns[k.toNat]) (c' := c) (s' := z)
          refine ⟨_, rfl, _, rfl, p, _, _, 2, rfl, rfl, C1.1, rfl, ?_⟩
          refine ⟨_, rfl, _, _, rfl, rfl, _, rfl, ite2 (fun _ => ?_) (fun _ => ?_)⟩
          · refine ⟨_, rfl, [.int ns[k.toNat]], O, fun r => ∃ i, r = .v (.int i), op, C2.pool hl (by omega) c0 z0 z1, ?_, ⟨.int ns[k.toNat], [], rfl, rfl, rfl⟩, ⟨_, rfl, fun r => ⟨r, rfl⟩⟩, fun r v H' s1 p1 r1 q1 => ?_⟩
            · intro b hb
              obtain ⟨o, e⟩ := tr b hb
              by_cases eb : b = p
              · rw [eb]
                exact ⟨_, C2.1⟩
              · exact ⟨o, C2.2.1 b o eb e⟩
            · obtain ⟨i, rfl⟩ := q1
              have ev : v = .int i := r1
              subst ev
              obtain ⟨k3, m3, c3, z3, h3, ⟨ns3, hl3, g3⟩, k30, c30, z30, z31⟩ := p1
              exact ⟨_, rfl, p, _, _, 2, rfl, rfl, h3, rfl, _, _, _, _, _, rfl, (show Cells p a0 ns k3 m3 c3 z3 H H' from ⟨h3, C2.2.1.trans s1, ha0, ne⟩).put, k30, c30, z30, z31⟩
          · exact ⟨_, _, _, _, _, rfl, C2, by omega, c0, z0, z1⟩
        · exact ⟨_, _, _, _, _, rfl, C0, k0, c0, z0, z1⟩
      · exact ⟨_, _, _, _, _, rfl, C0, k0, c0, z0, z1⟩
    · rintro σ' H' ⟨k, m, c, z, y, rfl, C, k0, c0, z0, z1⟩
      have big : ∀ j : Int, (-(2 ^ 64) < j ∧ j < 2 ^ 64) → ∀ i : Int, CMul i j := fun j h i => .inr h
      refine ⟨_, rfl, p, _, _, _, rfl, rfl, SqL.of C.1, atI_nat (j := 3) rfl, _, _, rfl, rfl, _, rfl, p, _, _, 3, rfl, rfl, C.1, rfl, ?_⟩
      have C1 := C.put (k' := k) (m' := m) (c' := c + 1) (s' := z)
      refine ⟨_, rfl, p, _, _, _, rfl, rfl, SqL.of C1.1, atI_nat (j := 2) rfl, _, _, rfl, rfl, _, rfl, ite2 (fun _ => ?_) (fun _ => ?_)⟩
      · refine ⟨_, rfl, p, _, _, _, rfl, rfl, SqL.of C1.1, atI_nat (j := 4) rfl, _, _, rfl, rfl, big _ (by decide) _, _, rfl, p, _, _, _, rfl, rfl, SqL.of C1.1, atI_nat (j := 3) rfl, _, _, rfl, rfl, big _ (by decide) _, _, _, rfl, rfl, _, _, rfl, rfl,
          .inl ⟨_, rfl, _, _, rfl, rfl, (by show (0 : Int) < 2147483647; decide), ?_⟩⟩
        refine ⟨_, rfl, _, _, rfl, rfl, big _ (by decide) _, _, rfl, p, _, _, _, rfl, rfl, SqL.of C1.1, atI_nat (j := 3) rfl, _, _, rfl, rfl, .inl ⟨_, rfl, _, _, rfl, rfl, (by show (0 : Int) < 2147483629; decide), ?_⟩⟩
        refine ⟨_, rfl, _, _, rfl, rfl, ⟨by decide, by decide⟩, _, rfl, _, _, rfl, rfl, by omega, ?_⟩
        exact fin _ k m (c + 1) z _ C1 k0 (by omega) z0 z1 (Int.emod_nonneg _ (by omega)) (Int.emod_lt_of_pos _ (by omega))
      · refine ⟨_, rfl, p, _, _, _, rfl, rfl, SqL.of C1.1, atI_nat (j := 2) rfl, .inl ⟨_, rfl, _, rfl, _, _, rfl, rfl, by omega, ?_⟩⟩
        refine ⟨_, rfl, p, _, _, _, rfl, rfl, SqL.of C1.1, atI_nat (j := 2) rfl, _, rfl, _, _, rfl, rfl, ⟨by omega, by omega⟩, _, rfl, p, _, _, 2, rfl, rfl, C1.1, rfl, ?_⟩
        refine ⟨_, rfl, ?_⟩
        exact fin _ k _ (c + 1) z _ C1.put k0 (by omega) z0 z1 (Int.emod_nonneg _ (by omega)) (Int.emod_lt_of_pos _ (by omega))
end
section
variable {Pr : Program} {w : World} {K : PySem.W.Frag} {mg : Str → Option Value} {base : Heap}
theorem scTab_law_table : FnScope ["room", "table", "one", "two", "k"] ["room"] (defScope s_law_table) := ⟨rfl, rfl, rfl, by decide +kernel, rfl, by decide +kernel, by decide +kernel⟩
theorem ok_law_table {f : Addr} {fd : FuncData} {p a0 : Addr} (F : Fun K "_law_table" "_law_table" s_law_table f fd) (mr : mg "range" = none) : FnOk Pr w K mg base CX0 1 f fd ["room"] (lift K p a0 spTable) := by
  refine F.ok scTab_law_table (fun vs H Q E h => ?_) (fun cdv A outer s H vs Q E hr h => ?_)
  · obtain ⟨ds, O, Qd, _, _, _, h4, ⟨_, _, _, _, rfl, _⟩, _⟩ := h
    rw [h4.length]
    rfl
  · obtain ⟨ds, O, Qd, op, pl, tr, h4, ⟨n, ps, pd, v, rfl, hpd, hn, hps, hQ⟩, h6⟩ := h
    obtain ⟨rv, _, rfl, r1, rfl⟩ := h4
    obtain ⟨ra, rvs, rfl, rt, rl⟩ := r1
    obtain ⟨v0, _, rfl, e0, v1, _, rfl, e1, v2, _, rfl, e2, rfl⟩ := rl
    obtain rfl : v0 = .int (n : Int) := e0
    have rt' : SqT K H ra [.int (n : Int), v1, v2] := SqT.same (fun b o q => (hid_some q).1) rt.1
    -- the end
    have fin : ∀ (H' : Hp) (t : Addr) (as : List Addr), Tab H H' t as (apart ps) n → as.length = n → Q (.ref t) H' := fun H' t as T hl =>
      h6 (.nw (tblD (apart ps) n)) (.ref t) H' (fun b o _ e => T.old b o e) (T.pool pl) ⟨t, _, rfl, T.t0, T.at_, T.rep hl tr⟩ hQ
    refine ⟨_, pss_cons (ps_setLc (i := 1) (own := [("k", 4)]) rfl scTab_law_table.nd rfl rfl (by rfl) (pi_range1 rfl mr (pa_cons (pe_ix ix_tup (pv 0) pe_int (fun _ _ => rfl)) pa_nil)) (blkOk_by (by rfl)) (fun _ _ _ _ _ => pg_name (i := 4) scTab_law_table.nd rfl (.inl rfl)) (fun _ _ _ _ _ => pts_nil) (fun _ _ _ _ _ => pe_op op_rep (pe_lst (pa_cons pe_bl pa_nil)) (pe_ix (show IxR _ (rIxT K) from ix_tup) (pv 0) pe_int (fun _ _ => rfl))))
      (pss_cons (ps_for PassesOwn.never rfl (pi_any (pe_ix ix_tup (pv 0) pe_int (fun _ _ => rfl))) (pg_tup rfl (pgs_cons (pg_name (i := 2) scTab_law_table.nd rfl (.inl rfl)) (pgs_cons (pg_name (i := 3) scTab_law_table.nd rfl (.inl rfl)) pgs_nil)))
        (pss_cons (ps_asg pe_bl (pg_sub (pe_ix ix_list (pv 1) (pv 2) (fun _ _ => rfl)) (pv 3) set_list)) (pss_one (ps_asg pe_bl (pg_sub (pe_ix ix_list (pv 1) (pv 3) (fun _ _ => rfl)) (pv 2) set_list)))))
      (pss_one (ps_ret (pv 1)))), ?_⟩
    refine ⟨_, rfl, ra, _, _, _, rfl, rfl, rt', atI_nat (j := 0) rfl, (n : Int), rfl, by omega, by omega, fun t ht => ?_⟩
    refine lc_it walk_range (fun i H' => ∃ as, as.length = i ∧ Tab H H' t as (fun _ _ => false) n) ⟨[], rfl, Tab.start ht⟩ (fun _ _ _ _ => trivial) (fun i x H' H'' hi q yy => ?_) (fun H' q => ?_)
    · obtain ⟨as, hl, T⟩ := q
      obtain ⟨rfl, rfl⟩ := yy
      refine ⟨rfl, ?_⟩
      simp only [tYes, if_true]
      refine ⟨(by show 1 ≤ sizeLine; decide), fun l hll => ⟨_, rfl, ra, [V.int (n : Int), v1, v2], _, _, rfl, rfl, ?_, atI_nat (j := 0) rfl, l, (n : Int), [.bl false], rfl, rfl, upd_same, by omega, by omega, ?_, fun q hq => ?_⟩⟩
      · exact SqT.same (fun b o e => same_new hll b o (T.old b o e)) rt'
      · have s1 := sizeLine_eq
        rw [List.length_singleton]
        omega
      · have er : (List.replicate (n : Int).toNat [V.bl false]).flatten = rowV n (fun _ _ => false) 0 := by
          rw [Int.toNat_natCast]
          exact flat_rep n _
        rw [er]
        have q2 : H'' q = none := by
          by_cases e : q = l
          · rw [e, upd_same] at hq; cases hq
          · rw [upd_ne e] at hq; exact hq
        have tl : t ≠ l := fun e => by rw [← e, T.at_] at hll; cases hll
        have tq : t ≠ q := fun e => by rw [← e, T.at_] at q2; cases q2
        refine ⟨as.map V.ref, by rw [upd_ne tq, upd_ne tl]; exact T.at_, ?_, as ++ [q], by rw [List.length_append, hl]; rfl, T.more hll hq⟩
        have s1 := sizeLine_eq
        rw [List.length_map, hl]
        have hi' : i < n := hi
        omega
    · obtain ⟨as, hl, T⟩ := q
      rw [Int.toNat_natCast] at hl
      refine ⟨_, rfl, ra, _, _, _, rfl, rfl, SqT.same T.old rt', atI_nat (j := 1) rfl, ?_⟩
      rcases hpd with rfl | rfl
      · obtain ⟨a1, vs1, rfl, g1, rp⟩ := e1
        have vl : vs1.length = ps.length := by rw [rp.length, prsD_length_]
        refine .inl ⟨a1, rfl, ⟨vs1, SqL.of (T.old _ _ (hid_some g1).1)⟩, ?_⟩
        refine for_it (walk_list (xs := vs1)) (fun i σ H' => ∃ x y, σ = [some (.ref ra), some (.ref t), x, y, none] ∧ Tab H H' t as (apart (ps.take i)) n) ⟨none, none, rfl, T⟩ (fun i σ H' _ q => ?_) (fun i x σ H' H'' hi q yy => ?_) (fun σ H' q => ?_)
        · obtain ⟨x, y, _, T'⟩ := q
          exact SqL.of (T'.old _ _ (hid_some g1).1)
        · obtain ⟨x2, x3, rfl, T'⟩ := q
          obtain ⟨rfl, ei⟩ := yy
          obtain ⟨d, ed, rd⟩ := rp.get' ei
          obtain ⟨a, b, ei2, rfl⟩ := prsD_get ed
          obtain ⟨q, ws, rfl, sq, rw_⟩ := rd
          obtain ⟨w0, _, rfl, z0, w1, _, rfl, z1, rfl⟩ := rw_
          obtain rfl : w0 = .int (a : Int) := z0
          obtain rfl : w1 = .int (b : Int) := z1
          obtain ⟨ha, hb⟩ := hps _ (List.mem_of_getElem? ei2)
          have ha' : a < n := ha
          have hb' : b < n := hb
          have ia : as[a]? = some as[a] := List.getElem?_eq_getElem (by omega)
          have ib : as[b]? = some as[b] := List.getElem?_eq_getElem (by omega)
          have tk : apart (ps.take (i + 1)) = setB (setB (apart (ps.take i)) a b) b a := by
            rw [List.take_add_one, ei2]
            exact apart_app _ a b
          refine ⟨q, _, rfl, SqT.same (fun b o q => T'.old b o (hid_some q).1) sq.1, rfl, _, _, rfl, _, _, rfl, rfl, ?_⟩
          refine ⟨_, rfl, _, rfl, t, _, _, _, rfl, rfl, SqL.of T'.at_, atI_nat (j := a) (by rw [List.getElem?_map, ia]; rfl), _, rfl, as[a], _, _, b, rfl, rfl, T'.row a _ ia, ixN_nat (by unfold rowV; rw [List.length_map, List.length_range]; exact hb'), ?_⟩
          have T1 := T'.put hb' ia
          refine ⟨_, rfl, _, rfl, t, _, _, _, rfl, rfl, SqL.of T1.at_, atI_nat (j := b) (by rw [List.getElem?_map, ib]; rfl), _, rfl, as[b], _, _, a, rfl, rfl, T1.row b _ ib, ixN_nat (by unfold rowV; rw [List.length_map, List.length_range]; exact ha'), ?_⟩
          have T2 := T1.put ha' ib
          rw [← tk] at T2
          exact ⟨_, _, rfl, T2⟩
        · obtain ⟨x, y, rfl, T'⟩ := q
          rw [vl, List.take_length] at T'
          exact ⟨_, rfl, fin H' t as T' hl⟩
      · obtain ⟨a1, vs1, rfl, g1, rp⟩ := e1
        have vl : vs1.length = ps.length := by rw [rp.length, prsD_length_]
        refine .inr (.inl ⟨a1, rfl, ⟨vs1, SqT.same (fun b o q => T.old b o (hid_some q).1) g1.1⟩, ?_⟩)
        refine for_it (walk_tup (xs := vs1)) (fun i σ H' => ∃ x y, σ = [some (.ref ra), some (.ref t), x, y, none] ∧ Tab H H' t as (apart (ps.take i)) n) ⟨none, none, rfl, T⟩ (fun i σ H' _ q => ?_) (fun i x σ H' H'' hi q yy => ?_) (fun σ H' q => ?_)
        · obtain ⟨x, y, _, T'⟩ := q
          exact SqT.same (fun b o q => T'.old b o (hid_some q).1) g1.1
        · obtain ⟨x2, x3, rfl, T'⟩ := q
          obtain ⟨rfl, ei⟩ := yy
          obtain ⟨d, ed, rd⟩ := rp.get' ei
          obtain ⟨a, b, ei2, rfl⟩ := prsD_get ed
          obtain ⟨q, ws, rfl, sq, rw_⟩ := rd
          obtain ⟨w0, _, rfl, z0, w1, _, rfl, z1, rfl⟩ := rw_
          obtain rfl : w0 = .int (a : Int) := z0
          obtain rfl : w1 = .int (b : Int) := z1
          obtain ⟨ha, hb⟩ := hps _ (List.mem_of_getElem? ei2)
          have ha' : a < n := ha
          have hb' : b < n := hb
          have ia : as[a]? = some as[a] := List.getElem?_eq_getElem (by omega)
          have ib : as[b]? = some as[b] := List.getElem?_eq_getElem (by omega)
          have tk : apart (ps.take (i + 1)) = setB (setB (apart (ps.take i)) a b) b a := by
            rw [List.take_add_one, ei2]
            exact apart_app _ a b
          refine ⟨q, _, rfl, SqT.same (fun b o q => T'.old b o (hid_some q).1) sq.1, rfl, _, _, rfl, _, _, rfl, rfl, ?_⟩
          refine ⟨_, rfl, _, rfl, t, _, _, _, rfl, rfl, SqL.of T'.at_, atI_nat (j := a) (by rw [List.getElem?_map, ia]; rfl), _, rfl, as[a], _, _, b, rfl, rfl, T'.row a _ ia, ixN_nat (by unfold rowV; rw [List.length_map, List.length_range]; exact hb'), ?_⟩
          have T1 := T'.put hb' ia
          refine ⟨_, rfl, _, rfl, t, _, _, _, rfl, rfl, SqL.of T1.at_, atI_nat (j := b) (by rw [List.getElem?_map, ib]; rfl), _, rfl, as[b], _, _, a, rfl, rfl, T1.row b _ ib, ixN_nat (by unfold rowV; rw [List.length_map, List.length_range]; exact ha'), ?_⟩
          have T2 := T1.put ha' ib
          rw [← tk] at T2
          exact ⟨_, _, rfl, T2⟩
        · obtain ⟨x, y, rfl, T'⟩ := q
          rw [vl, List.take_length] at T'
          exact ⟨_, rfl, fin H' t as T' hl⟩
end
end LW

/-! LAT: the closed lots of points of a room; dicts that stand for sets. -/
namespace DL
open PySem PySem.Spec PyProof.Rows L2
/-! ### order -/
def intN (t : List Nat) : List Int := t.map fun (k : Nat) => (k : Int)
theorem intN_inj : ∀ {a b : List Nat}, intN a = intN b → a = b
  | [], [], _ => rfl
  | [], _ :: _, h => by cases h
  | _ :: _, [], h => by cases h
  | x :: xs, y :: ys, h => by
    have h' : (x : Int) = y ∧ intN xs = intN ys := by
      have := List.cons.inj (show (x : Int) :: intN xs = (y : Int) :: intN ys from h)
      exact this
    rw [intN_inj h'.2, Int.ofNat.inj h'.1]
theorem lex_anti : ∀ a b : List Int, HT.lexLt a b = false → HT.lexLt b a = false → a = b
  | [], [], _, _ => rfl
  | [], _ :: _, h, _ => by cases h
  | _ :: _, [], _, h => by cases h
  | x :: xs, y :: ys, h1, h2 => by
    rw [HT.lexLt_cons] at h1 h2
    by_cases e : x = y
    · subst e
      rw [if_pos rfl] at h1 h2
      rw [lex_anti xs ys h1 h2]
    · rw [if_neg e] at h1
      rw [if_neg (Ne.symm e)] at h2
      have q1 := of_decide_eq_false h1
      have q2 := of_decide_eq_false h2
      omega
/-- t stands ahead of u or is u -/
def leN (t u : List Nat) : Bool := !HT.lexLt (intN u) (intN t)
theorem leN_anti {a b : List Nat} (h1 : leN a b = true) (h2 : leN b a = true) : a = b := by
  unfold leN at h1 h2
  rw [Bool.not_eq_true'] at h1 h2
  exact intN_inj (lex_anti _ _ h2 h1)
theorem leN_total (a b : List Nat) : (leN a b || leN b a) = true := by
  unfold leN
  cases h : HT.lexLt (intN b) (intN a) with
  | false => rfl
  | true => rw [lex_asym _ _ h]; rfl
theorem leN_trans (a b c : List Nat) (h1 : leN a b = true) (h2 : leN b c = true) : leN a c = true := by
  unfold leN at *
  rw [Bool.not_eq_true'] at *
  exact lex_tr _ _ _ h1 h2
/-! ### subsets -/
def Up (t : List Nat) : Prop := t.Pairwise (· < ·)
def subsN : Nat → List (List Nat)
  | 0 => [[]]
  | k + 1 => subsN k ++ (subsN k).map fun t => t ++ [k]
theorem up_snoc {t : List Nat} {k : Nat} : Up (t ++ [k]) ↔ Up t ∧ ∀ x ∈ t, x < k := by
  unfold Up
  rw [List.pairwise_append]
  simp
theorem subsN_mem : ∀ {n : Nat} {t : List Nat}, t ∈ subsN n ↔ Up t ∧ ∀ x ∈ t, x < n
  | 0, t => by
    unfold subsN
    rw [List.mem_singleton]
    constructor
    · intro h
      subst h
      exact ⟨List.Pairwise.nil, fun x hx => nomatch hx⟩
    · intro h
      cases t with
      | nil => rfl
      | cons x t => exact absurd (h.2 x List.mem_cons_self) (Nat.not_lt_zero _)
  | n + 1, t => by
    unfold subsN
    rw [List.mem_append, List.mem_map, subsN_mem]
    constructor
    · rintro (⟨h1, h2⟩ | ⟨u, h, rfl⟩)
      · exact ⟨h1, fun x hx => Nat.lt_succ_of_lt (h2 x hx)⟩
      · rw [subsN_mem] at h
        refine ⟨up_snoc.mpr h, fun x hx => ?_⟩
        rcases List.mem_append.mp hx with hx | hx
        · exact Nat.lt_succ_of_lt (h.2 x hx)
        · rw [List.mem_singleton.mp hx]
          exact Nat.lt_succ_self n
    · rintro ⟨h1, h2⟩
      rcases List.eq_nil_or_concat t with rfl | ⟨u, x, rfl⟩
      · exact .inl ⟨h1, fun x hx => nomatch hx⟩
      · rw [List.concat_eq_append] at h1 h2 ⊢
        have hu := up_snoc.mp h1
        have hx := h2 x (by simp)
        by_cases e : x = n
        · subst e
          exact .inr ⟨u, subsN_mem.mpr hu, rfl⟩
        · refine .inl ⟨h1, fun y hy => ?_⟩
          rcases List.mem_append.mp hy with hy | hy
          · have := hu.2 y hy; omega
          · rw [List.mem_singleton.mp hy]; omega
theorem subsN_nodup : ∀ n : Nat, (subsN n).Nodup
  | 0 => by simp [subsN]
  | n + 1 => by
    unfold subsN
    rw [List.nodup_append]
    refine ⟨subsN_nodup n, ?_, fun a ha b hb e => ?_⟩
    · rw [List.Nodup, List.pairwise_map]
      exact (subsN_nodup n).imp fun h e => h (List.append_cancel_right e)
    · subst e
      obtain ⟨u, hu, e⟩ := List.mem_map.mp hb
      have := (subsN_mem.mp ha).2 n (by rw [← e]; simp)
      omega
theorem subsN_len : ∀ n : Nat, (subsN n).length = 2 ^ n
  | 0 => rfl
  | n + 1 => by
    unfold subsN
    rw [List.length_append, List.length_map, subsN_len n]
    omega
/-! ### closed lots -/
def clT (A : Nat → Nat → Bool) (n : Nat) (t : List Nat) : Bool := decide (oppN A n (oppN A n t) = t)
def clS (A : Nat → Nat → Bool) (n : Nat) : List (List Nat) := ((subsN n).filter (clT A n)).mergeSort leN
section
variable {A : Nat → Nat → Bool} {n : Nat}
theorem clS_perm : (clS A n).Perm ((subsN n).filter (clT A n)) := List.mergeSort_perm _ _
theorem clS_sorted : (clS A n).Pairwise fun a b => leN a b = true := List.pairwise_mergeSort (le := leN) leN_trans leN_total _
theorem clS_nodup : (clS A n).Nodup := clS_perm.nodup_iff.mpr ((subsN_nodup n).filter _)
theorem clS_mem {t : List Nat} : t ∈ clS A n ↔ Up t ∧ (∀ x ∈ t, x < n) ∧ oppN A n (oppN A n t) = t := by
  rw [clS_perm.mem_iff, List.mem_filter, subsN_mem]
  unfold clT
  rw [decide_eq_true_eq]
  exact and_assoc
theorem clS_len : (clS A n).length ≤ 2 ^ n := by
  rw [clS_perm.length_eq, ← subsN_len n]
  exact List.length_filter_le _ _
/-- what ascends and holds the same lots is the same list -/
theorem clS_eq {l : List (List Nat)} (p : l.Perm (clS A n)) (s : l.Pairwise fun a b => leN a b = true) : l = clS A n :=
  List.Perm.eq_of_pairwise (le := fun a b => leN a b = true) (fun a b _ _ h1 h2 => leN_anti h1 h2) s clS_sorted p
theorem oppN_up' {pts : List Nat} : Up (oppN A n pts) := oppN_up
theorem opp_closed (sy : ∀ i j, A i j = A j i) {pts : List Nat} (h : ∀ p ∈ pts, p < n) : oppN A n pts ∈ clS A n :=
  clS_mem.mpr ⟨oppN_up, oppN_lt, opp3 sy h⟩
theorem cl_is_opp {t : List Nat} (h : t ∈ clS A n) : ∃ s : List Nat, (∀ x ∈ s, x < n) ∧ t = oppN A n s := by
  obtain ⟨_, _, e⟩ := clS_mem.mp h
  exact ⟨oppN A n t, oppN_lt, e.symm⟩
theorem oppN_append {s u : List Nat} : oppN A n (s ++ u) = (oppN A n s).filter fun k => decide (k ∈ oppN A n u) := by
  have e : ∀ k, k < n → ((s ++ u).all fun p => A k p) = ((s.all fun p => A k p) && decide (k ∈ oppN A n u)) := fun k hk => by
    rw [List.all_append]
    congr 1
    rw [Bool.eq_iff_iff, decide_eq_true_eq, mem_oppN, List.all_eq_true]
    exact ⟨fun h => ⟨hk, h⟩, fun h => h.2⟩
  unfold oppN
  rw [List.filter_filter]
  refine List.filter_congr fun k hk => ?_
  have := e k (List.mem_range.mp hk)
  unfold oppN at this
  rw [this, Bool.and_comm]
/-- what two closed lots have in common -/
theorem cap_closed (sy : ∀ i j, A i j = A j i) {t u : List Nat} (ht : t ∈ clS A n) (hu : u ∈ clS A n) : (t.filter fun k => decide (k ∈ u)) ∈ clS A n := by
  obtain ⟨s1, l1, rfl⟩ := cl_is_opp ht
  obtain ⟨s2, l2, rfl⟩ := cl_is_opp hu
  rw [← oppN_append]
  exact opp_closed sy fun p hp => (List.mem_append.mp hp).elim (l1 p) (l2 p)
theorem oppN_nil : oppN A n [] = List.range n := by
  unfold oppN
  rw [List.filter_eq_self]
  intro a _
  rfl
/-- the lots that are opposites of points ahead of m -/
def OppOf (A : Nat → Nat → Bool) (n m : Nat) (t : List Nat) : Prop := ∃ s : List Nat, (∀ x ∈ s, x < m) ∧ t = oppN A n s
theorem oppOf_zero {t : List Nat} : OppOf A n 0 t ↔ t = List.range n := by
  constructor
  · rintro ⟨s, h, rfl⟩
    cases s with
    | nil => exact oppN_nil
    | cons x s => exact absurd (h x List.mem_cons_self) (Nat.not_lt_zero _)
  · rintro rfl
    exact ⟨[], fun x hx => (nomatch hx), oppN_nil.symm⟩
theorem oppN_congr {s u : List Nat} (h : ∀ x, x ∈ s ↔ x ∈ u) : oppN A n s = oppN A n u := by
  unfold oppN
  refine List.filter_congr fun k _ => ?_
  rw [Bool.eq_iff_iff, List.all_eq_true, List.all_eq_true]
  exact ⟨fun q x hx => q x ((h x).mpr hx), fun q x hx => q x ((h x).mp hx)⟩
theorem oppOf_succ {m : Nat} {t : List Nat} : OppOf A n (m + 1) t ↔ OppOf A n m t ∨ ∃ u, OppOf A n m u ∧ t = u.filter fun k => decide (k ∈ oppN A n [m]) := by
  constructor
  · rintro ⟨s, h, rfl⟩
    by_cases hm : m ∈ s
    · refine .inr ⟨oppN A n (s.filter fun x => decide (x ≠ m)), ⟨_, fun x hx => ?_, rfl⟩, ?_⟩
      · obtain ⟨h1, h2⟩ := List.mem_filter.mp hx
        have := h x h1
        have h3 := of_decide_eq_true h2
        omega
      · rw [← oppN_append]
        refine oppN_congr fun x => ?_
        rw [List.mem_append, List.mem_filter, List.mem_singleton]
        constructor
        · intro hx
          by_cases e : x = m
          · exact .inr e
          · exact .inl ⟨hx, by simp [e]⟩
        · rintro (⟨hx, _⟩ | rfl)
          · exact hx
          · exact hm
    · refine .inl ⟨s, fun x hx => ?_, rfl⟩
      have := h x hx
      have : x ≠ m := fun e => hm (e ▸ hx)
      omega
  · rintro (⟨s, h, rfl⟩ | ⟨u, ⟨s, h, rfl⟩, rfl⟩)
    · exact ⟨s, fun x hx => Nat.lt_succ_of_lt (h x hx), rfl⟩
    · refine ⟨s ++ [m], fun x hx => ?_, oppN_append.symm⟩
      rcases List.mem_append.mp hx with hx | hx
      · exact Nat.lt_succ_of_lt (h x hx)
      · rw [List.mem_singleton.mp hx]; exact Nat.lt_succ_self m
theorem oppOf_all {t : List Nat} (sy : ∀ i j, A i j = A j i) : OppOf A n n t ↔ t ∈ clS A n :=
  ⟨fun ⟨s, h, e⟩ => e ▸ opp_closed sy h, fun h => cl_is_opp h⟩
theorem oppOf_cl {m : Nat} {t : List Nat} (hm : m ≤ n) (sy : ∀ i j, A i j = A j i) (h : OppOf A n m t) : t ∈ clS A n := by
  obtain ⟨s, h, rfl⟩ := h
  exact opp_closed sy fun p hp => Nat.lt_of_lt_of_le (h p hp) hm
end
/-! ### lots as data -/
def tupN (t : List Nat) : D := .tuple (natD t)
def setsD (S : List (List Nat)) : List D := S.map tupN
theorem nkeys_nat : ∀ t : List Nat, nkeys (natD t) = some (t.map fun (k : Nat) => NestedKey.num (k : Int))
  | [] => rfl
  | k :: t => by
    show (nkey (.int (k : Int))).bind (fun x => (nkeys (natD t)).map (x :: ·)) = _
    rw [nkeys_nat t]
    rfl
theorem nkey_tup (t : List Nat) : nkey (tupN t) = some (.tup (t.map fun (k : Nat) => NestedKey.num (k : Int))) := by
  unfold tupN
  rw [nkey, nkeys_nat]
  rfl
theorem num_inj : ∀ {a b : List Nat}, (a.map fun (k : Nat) => NestedKey.num (k : Int)) = (b.map fun (k : Nat) => NestedKey.num (k : Int)) → a = b
  | [], [], _ => rfl
  | [], _ :: _, h => by cases h
  | _ :: _, [], h => by cases h
  | x :: xs, y :: ys, h => by
    rw [List.map_cons, List.map_cons, List.cons.injEq] at h
    have h1 := NestedKey.num.inj h.1
    rw [num_inj h.2, Int.ofNat.inj h1]
theorem eqT_tup (a b : List Nat) : eqT (tupN a) (tupN b) = decide (a = b) := by
  unfold eqT
  rw [nkey_tup, nkey_tup]
  by_cases h : a = b
  · subst h; simp
  · rw [decide_eq_false h, decide_eq_false]
    intro e
    exact h (num_inj (NestedKey.tup.inj (Option.some.inj e)))
theorem depth_num : ∀ t : List Nat, NestedKey.depthAll (t.map fun (k : Nat) => NestedKey.num (k : Int)) = 0
  | [] => rfl
  | k :: t => by
    rw [List.map_cons, NestedKey.depthAll, depth_num t]
    rfl
theorem keyOk_nat (t : List Nat) : keyOk (.tuple (natD t)) = true := by
  show (match nkey (.tuple (natD t)) with | some k => decide (k.depth ≤ 8) | none => false) = true
  rw [show nkey (.tuple (natD t)) = _ from nkey_tup t]
  simp [NestedKey.depth, depth_num]
/-- a dict that stands for a set of lots -/
def memD (L : List (List Nat)) : List (D × D) := L.map fun t => (tupN t, .bool true)
def insL (L : List (List Nat)) (t : List Nat) : List (List Nat) := if t ∈ L then L else L ++ [t]
theorem memD_any (L : List (List Nat)) (t : List Nat) : ((memD L).any fun kv => eqT kv.1 (tupN t)) = decide (t ∈ L) := by
  unfold memD
  rw [List.any_map, Bool.eq_iff_iff, List.any_eq_true, decide_eq_true_eq]
  constructor
  · rintro ⟨u, hu, e⟩
    have e' : eqT (tupN u) (tupN t) = true := e
    rw [eqT_tup, decide_eq_true_eq] at e'
    exact e' ▸ hu
  · intro h
    exact ⟨t, h, by show eqT (tupN t) (tupN t) = true; rw [eqT_tup]; simp⟩
theorem putT_mem (L : List (List Nat)) (t : List Nat) : putT (memD L) (.tuple (natD t)) (.bool true) = memD (insL L t) := by
  unfold putT insL
  rw [show (PyData.tuple (natD t)) = tupN t from rfl, memD_any]
  by_cases h : t ∈ L
  · rw [if_pos (decide_eq_true h), if_pos h]
    unfold memD
    rw [List.map_map]
    refine List.map_congr_left fun u hu => ?_
    show (if eqT (tupN u) (tupN t) = true then (tupN u, PyData.bool true) else (tupN u, .bool true)) = _
    split <;> rfl
  · rw [if_neg (by simp [h]), if_neg h]
    unfold memD
    rw [List.map_append]
    rfl
theorem memD_keys (L : List (List Nat)) : (memD L).map (·.1) = setsD L := by
  unfold memD setsD
  rw [List.map_map]
  rfl
theorem insL_mem {L : List (List Nat)} {t u : List Nat} : u ∈ insL L t ↔ u ∈ L ∨ u = t := by
  unfold insL
  split
  · rename_i h
    exact ⟨.inl, fun q => q.elim id fun e => e ▸ h⟩
  · rw [List.mem_append, List.mem_singleton]
theorem insL_nodup {L : List (List Nat)} {t : List Nat} (h : L.Nodup) : (insL L t).Nodup := by
  unfold insL
  split
  · exact h
  · rename_i q
    rw [List.nodup_append]
    exact ⟨h, by simp, fun a ha b hb e => q (by rw [List.mem_singleton.mp hb] at e; exact e ▸ ha)⟩
/-- all of M put in, each changed by f -/
def insAll (f : List Nat → List Nat) : List (List Nat) → List (List Nat) → List (List Nat)
  | L, [] => L
  | L, t :: M => insAll f (insL L (f t)) M
theorem insAll_mem {f : List Nat → List Nat} : ∀ {M L : List (List Nat)} {u : List Nat}, u ∈ insAll f L M ↔ u ∈ L ∨ ∃ t ∈ M, u = f t
  | [], L, u => by simp [insAll]
  | t :: M, L, u => by
    rw [insAll, insAll_mem, insL_mem]
    simp only [List.mem_cons, exists_eq_or_imp]
    exact or_assoc
theorem insAll_nodup {f : List Nat → List Nat} : ∀ {M L : List (List Nat)}, L.Nodup → (insAll f L M).Nodup
  | [], L, h => h
  | t :: M, L, h => insAll_nodup (M := M) (insL_nodup h)
theorem intsD_natD (t : List Nat) : intsD (natD t) = some (intN t) := intsD_nat t
theorem tupsD_sets : ∀ S : List (List Nat), tupsD (setsD S) = some (S.map intN)
  | [] => rfl
  | t :: S => by
    show (match intsD (natD t), tupsD (setsD S) with | some t, some ts => some (t :: ts) | _, _ => none) = _
    rw [intsD_natD, tupsD_sets S]
    rfl
theorem intsD_sets : ∀ {S : List (List Nat)}, S ≠ [] → intsD (setsD S) = none
  | [], h => absurd rfl h
  | t :: S, _ => rfl
theorem tup_int (t : List Nat) : PyData.tuple ((intN t).map .int) = tupN t := by
  unfold tupN natD intN
  rw [List.map_map]
  rfl
/-- sorting lots -/
theorem dSort_sets {A : Nat → Nat → Bool} {n : Nat} {S : List (List Nat)} {Q : R → Prop} (p : S.Perm (clS A n)) (h : Q (.nw (setsD (clS A n)))) : dSort (setsD S) Q := by
  unfold dSort
  by_cases hs : S = []
  · subst hs
    have e : clS A n = [] := p.symm.eq_nil
    rw [e] at h
    intro ms p1 _
    rw [show ms = [] from p1.eq_nil]
    exact h
  · rw [intsD_sets hs, tupsD_sets]
    intro us p1 s1
    have q : us = (clS A n).map intN := by
      have p2 : us.Perm ((clS A n).map intN) := p1.trans (p.map _)
      refine List.Perm.eq_of_pairwise (le := fun x y => HT.lexLt y x = false) (fun a b _ _ h1 h2 => lex_anti _ _ h2 h1) s1 ?_ p2
      rw [List.pairwise_map]
      refine clS_sorted.imp fun h => ?_
      unfold leN at h
      rwa [Bool.not_eq_true'] at h
    rw [q, List.map_map]
    have e : ((fun t : List Int => PyData.tuple (t.map .int)) ∘ intN) = tupN := by
      funext t
      exact tup_int t
    rw [e]
    exact h
end DL
namespace DL
open PySem PySem.Spec PyProof.Rows L2
/-! ### promises -/
def spClosed : SpD := fun ds Q => ∃ (r : D) (n : Nat) (ps : List (Nat × Nat)), ds = [r] ∧ RmArg r n ps ∧ (clS (apart ps) n).length ≤ 1000000 ∧ Q (.nw (setsD (clS (apart ps) n)))
def spSubs : SpD := fun ds Q => ∃ n : Nat, ds = [.int (n : Int)] ∧ n ≤ 16 ∧ Q (.nw (setsD (subsN n)))
/-- the place of a lot -/
def ixT (S : List (List Nat)) (t : List Nat) : Nat := S.idxOf t
def capN (t u : List Nat) : List Nat := t.filter fun k => decide (k ∈ u)
def meetD (S : List (List Nat)) : D := .tuple (S.map fun t => .tuple (S.map fun u => .int (ixT S (capN t u) : Int)))
def turnD (S : List (List Nat)) (A : Nat → Nat → Bool) (n : Nat) : D := .tuple (S.map fun t => .int (ixT S (oppN A n t) : Int))
def latD (S : List (List Nat)) (A : Nat → Nat → Bool) (n : Nat) : D := .tuple [.int (S.length : Int), meetD S, turnD S A n]
def spLat : SpD := fun ds Q => ∃ (r : D) (n : Nat) (ps : List (Nat × Nat)), ds = [r] ∧ RmArg r n ps ∧ n ≤ 16 ∧ Q (.v (.tuple [.list (setsD (clS (apart ps) n)), latD (clS (apart ps) n) (apart ps) n]))
theorem setsD_length {S : List (List Nat)} : (setsD S).length = S.length := by unfold setsD; rw [List.length_map]
theorem eqv_tupN (a b : List Nat) : PyData.eqv (tupN a) (tupN b) = decide (a = b) := by
  unfold tupN
  rw [PyData.eqv, eqvAll_nat]
theorem canLay_sets : ∀ S : List (List Nat), PyData.canLayAll0 (setsD S) = true
  | [] => rfl
  | t :: S => by
    show PyData.canLayAll0 (tupN t :: setsD S) = true
    rw [PyData.canLayAll0, canLay_sets S]
    unfold tupN
    rw [PyData.canLay0, canLay_nat]
    rfl
theorem depth_sets : ∀ S : List (List Nat), PyData.depthAll (setsD S) ≤ 1
  | [] => Nat.zero_le _
  | t :: S => by
    show PyData.depthAll (tupN t :: setsD S) ≤ 1
    unfold tupN
    rw [PyData.depthAll, PyData.depth, depth_nat]
    have := depth_sets S
    omega
theorem shaped_sets (S : List (List Nat)) : SeqAt.shaped (.list (setsD S)) = true := by
  unfold SeqAt.shaped
  rw [PyData.canLay0, canLay_sets, PyData.depth]
  have := depth_sets S
  simp
  omega
theorem shaped_tupN (t : List Nat) : SeqAt.shaped (.tuple (natD t)) = true := by
  unfold SeqAt.shaped
  rw [PyData.canLay0, canLay_nat, PyData.depth, depth_nat]
  rfl
/-- S.index(t) -/
theorem idx_sets {S : List (List Nat)} {t : List Nat} (h : t ∈ S) : (∃ z, (setsD S)[ixT S t]? = some z ∧ PyData.eqv z (.tuple (natD t)) = true) ∧ ∀ i z, i < ixT S t → (setsD S)[i]? = some z → PyData.eqv z (.tuple (natD t)) = false := by
  have hl : ixT S t < S.length := List.idxOf_lt_length_of_mem h
  constructor
  · refine ⟨tupN t, ?_, by rw [show PyData.tuple (natD t) = tupN t from rfl, eqv_tupN]; simp⟩
    unfold setsD
    rw [List.getElem?_map, List.getElem?_eq_getElem hl]
    have : S[ixT S t] = t := List.getElem_idxOf hl
    rw [this]
    rfl
  · intro i z hi hz
    unfold setsD at hz
    rw [List.getElem?_map, Option.map_eq_some_iff] at hz
    obtain ⟨u, hu, rfl⟩ := hz
    rw [show PyData.tuple (natD t) = tupN t from rfl, eqv_tupN, decide_eq_false_iff_not]
    intro e
    subst e
    obtain ⟨hil, e⟩ := List.getElem?_eq_some_iff.mp hu
    have := List.not_of_lt_findIdx (p := (· == u)) (show i < S.findIdx (· == u) from hi)
    simp [e] at this
end DL
namespace DL
theorem nodup_len {α : Type} [DecidableEq α] : ∀ {l m : List α}, l.Nodup → (∀ x ∈ l, x ∈ m) → l.length ≤ m.length
  | [], m, _, _ => Nat.zero_le _
  | x :: l, m, h, s => by
    rw [List.nodup_cons] at h
    have hx := s x List.mem_cons_self
    have ih := nodup_len (l := l) (m := m.erase x) h.2 fun y hy => (List.mem_erase_of_ne (fun e => h.1 (by rw [← e]; exact hy))).mpr (s y (List.mem_cons_of_mem _ hy))
    rw [List.length_erase_of_mem hx] at ih
    have := List.length_pos_of_mem hx
    rw [List.length_cons]
    omega
theorem memD_length (L : List (List Nat)) : (memD L).length = L.length := by unfold memD; rw [List.length_map]
theorem insAll_snoc (f : List Nat → List Nat) : ∀ (M L : List (List Nat)) (t : List Nat), insAll f L (M ++ [t]) = insL (insAll f L M) (f t)
  | [], L, t => rfl
  | u :: M, L, t => insAll_snoc f M _ t
end DL

/-! ORT: what is an ortholattice, told of any data; that of the closed lots of a room. -/
namespace DL
open PySem L2
/-! ### tables -/
def inR (N : Nat) : D → Bool
  | .int i => decide (0 ≤ i) && decide (i < (N : Int))
  | _ => false
def elB (N : Nat) : D → Bool
  | .tuple ds => decide (ds.length = N) && ds.all (inR N)
  | _ => false
def tblB (N : Nat) : D → Bool
  | .tuple rows => decide (rows.length = N) && rows.all (elB N)
  | _ => false
theorem inR_int (N : Nat) (i : Int) : inR N (.int i) = (decide (0 ≤ i) && decide (i < (N : Int))) := rfl
theorem elB_tup (N : Nat) (ds : List D) : elB N (.tuple ds) = (decide (ds.length = N) && ds.all (inR N)) := rfl
theorem tblB_tup (N : Nat) (ds : List D) : tblB N (.tuple ds) = (decide (ds.length = N) && ds.all (elB N)) := rfl
theorem inR_nat {N : Nat} {d : D} (h : inR N d = true) : ∃ k : Nat, k < N ∧ d = .int (k : Int) := by
  cases d with
  | int i =>
    unfold inR at h
    rw [Bool.and_eq_true, decide_eq_true_eq, decide_eq_true_eq] at h
    exact ⟨i.toNat, by omega, by rw [Int.toNat_of_nonneg h.1]⟩
  | _ => cases h
theorem all_inR {N : Nat} : ∀ {ds : List D}, ds.all (inR N) = true → ∃ l : List Nat, ds = natD l ∧ ∀ x ∈ l, x < N
  | [], _ => ⟨[], rfl, fun x hx => (nomatch hx)⟩
  | d :: ds, h => by
    rw [List.all_cons, Bool.and_eq_true] at h
    obtain ⟨k, hk, rfl⟩ := inR_nat h.1
    obtain ⟨l, rfl, hl⟩ := all_inR h.2
    exact ⟨k :: l, rfl, fun x hx => (List.mem_cons.mp hx).elim (fun e => e ▸ hk) (hl x)⟩
theorem elB_nat {N : Nat} {d : D} (h : elB N d = true) : ∃ l : List Nat, d = tupN l ∧ l.length = N ∧ ∀ x ∈ l, x < N := by
  cases d with
  | tuple ds =>
    unfold elB at h
    rw [Bool.and_eq_true, decide_eq_true_eq] at h
    obtain ⟨l, rfl, hl⟩ := all_inR h.2
    exact ⟨l, rfl, by rw [← h.1, natD_length], hl⟩
  | _ => cases h
theorem elB_of {N : Nat} {l : List Nat} (h1 : l.length = N) (h2 : ∀ x ∈ l, x < N) : elB N (tupN l) = true := by
  show (decide ((natD l).length = N) && (natD l).all (inR N)) = true
  rw [natD_length, decide_eq_true h1, Bool.true_and, List.all_eq_true]
  intro d hd
  obtain ⟨k, hk, rfl⟩ := natD_mem hd
  have := h2 k hk
  unfold inR
  rw [Bool.and_eq_true, decide_eq_true_eq, decide_eq_true_eq]
  omega
theorem all_elB {N : Nat} : ∀ {ds : List D}, ds.all (elB N) = true → ∃ rows : List (List Nat), ds = rows.map tupN ∧ ∀ r ∈ rows, r.length = N ∧ ∀ x ∈ r, x < N
  | [], _ => ⟨[], rfl, fun x hx => (nomatch hx)⟩
  | d :: ds, h => by
    rw [List.all_cons, Bool.and_eq_true] at h
    obtain ⟨l, rfl, h1, h2⟩ := elB_nat h.1
    obtain ⟨rows, rfl, hl⟩ := all_elB h.2
    exact ⟨l :: rows, rfl, fun x hx => (List.mem_cons.mp hx).elim (fun e => e ▸ ⟨h1, h2⟩) (hl x)⟩
theorem tblB_nat {N : Nat} {d : D} (h : tblB N d = true) : ∃ rows : List (List Nat), d = .tuple (rows.map tupN) ∧ rows.length = N ∧ ∀ r ∈ rows, r.length = N ∧ ∀ x ∈ r, x < N := by
  cases d with
  | tuple ds =>
    unfold tblB at h
    rw [Bool.and_eq_true, decide_eq_true_eq] at h
    obtain ⟨rows, rfl, hl⟩ := all_elB h.2
    exact ⟨rows, rfl, by rw [← h.1, List.length_map], hl⟩
  | _ => cases h
theorem tblB_of {N : Nat} {rows : List (List Nat)} (h1 : rows.length = N) (h2 : ∀ r ∈ rows, r.length = N ∧ ∀ x ∈ r, x < N) : tblB N (.tuple (rows.map tupN)) = true := by
  show (decide ((rows.map tupN).length = N) && (rows.map tupN).all (elB N)) = true
  rw [List.length_map, decide_eq_true h1, Bool.true_and, List.all_eq_true]
  intro d hd
  obtain ⟨r, hr, rfl⟩ := List.mem_map.mp hd
  exact elB_of (h2 r hr).1 (h2 r hr).2
/-! ### ortholattices -/
/-- a row -/
def rwN (rows : List (List Nat)) (x : Nat) : List Nat := rows.getD x []
def gM (rows : List (List Nat)) (x y : Nat) : Nat := (rwN rows x).getD y 0
def gT (ts : List Nat) (x : Nat) : Nat := ts.getD x 0
structure Ax (N : Nat) (M : Nat → Nat → Nat) (T : Nat → Nat) : Prop where
  idem : ∀ x, x < N → M x x = x ∧ T (T x) = x
  comm : ∀ x, x < N → ∀ y, y < N → M x y = M y x
  anti : ∀ x, x < N → ∀ y, y < N → M (T x) (T (M x y)) = T x
  assoc : ∀ x, x < N → ∀ y, y < N → ∀ z, z < N → M (M x y) z = M x (M y z)
  zero : ∀ x, x < N → ∀ y, y < N → M (M x (T x)) y = M x (T x)
/-- tables of numbers -/
structure LTab (N : Nat) (rows : List (List Nat)) (ts : List Nat) : Prop where
  lr : rows.length = N
  rw_ : ∀ r ∈ rows, r.length = N ∧ ∀ x ∈ r, x < N
  lt_ : ts.length = N
  tw : ∀ x ∈ ts, x < N
def tabD (N : Nat) (rows : List (List Nat)) (ts : List Nat) : D := .tuple [.int (N : Int), .tuple (rows.map tupN), tupN ts]
def latP (d : D) : Prop := ∃ (N : Nat) (rows : List (List Nat)) (ts : List Nat), d = tabD N rows ts ∧ 2 ≤ N ∧ N ≤ 64 ∧ LTab N rows ts ∧ Ax N (gM rows) (gT ts)
theorem getD_at {α : Type} {l : List α} {x : Nat} {d : α} (h : x < l.length) : l.getD x d = l[x] := by
  rw [List.getD_eq_getElem?_getD, List.getElem?_eq_getElem h]
  rfl
section
variable {N : Nat} {rows : List (List Nat)} {ts : List Nat}
theorem LTab.row (t : LTab N rows ts) {x : Nat} (h : x < N) : rwN rows x ∈ rows := by
  have h' : x < rows.length := by rw [t.lr]; exact h
  unfold rwN
  rw [getD_at h']
  exact List.getElem_mem h'
theorem LTab.at1 (t : LTab N rows ts) {x : Nat} (h : x < N) : atI (rows.map tupN) (x : Int) = some (.tuple (natD (rwN rows x))) := by
  have h' : x < rows.length := by rw [t.lr]; exact h
  refine atI_nat ?_
  unfold rwN
  rw [List.getElem?_map, List.getElem?_eq_getElem h', getD_at h']
  rfl
theorem atN {l : List Nat} {y : Nat} (h : y < l.length) : atI (natD l) (y : Int) = some (.int ((l.getD y 0 : Nat) : Int)) := by
  refine atI_nat ?_
  unfold natD
  rw [List.getElem?_map, List.getElem?_eq_getElem h, getD_at h]
  rfl
theorem LTab.at2 (t : LTab N rows ts) {x y : Nat} (h : x < N) (hy : y < N) : atI (natD (rwN rows x)) (y : Int) = some (.int (gM rows x y : Nat)) :=
  atN (by rw [(t.rw_ _ (t.row h)).1]; exact hy)
theorem LTab.at3 (t : LTab N rows ts) {y : Nat} (hy : y < N) : atI (natD ts) (y : Int) = some (.int (gT ts y : Nat)) := atN (by rw [t.lt_]; exact hy)
theorem LTab.ltM (t : LTab N rows ts) {x y : Nat} (h : x < N) (hy : y < N) : gM rows x y < N := by
  have r := t.rw_ _ (t.row h)
  have hy' : y < (rwN rows x).length := by rw [r.1]; exact hy
  unfold gM
  rw [getD_at hy']
  exact r.2 _ (List.getElem_mem hy')
theorem LTab.ltT (t : LTab N rows ts) {y : Nat} (hy : y < N) : gT ts y < N := by
  have hy' : y < ts.length := by rw [t.lt_]; exact hy
  unfold gT
  rw [getD_at hy']
  exact t.tw _ (List.getElem_mem hy')
end
/-! ### all over walks -/
theorem walk_bools {n B : Nat} {f : D → List D → (List D → Prop) → Prop} (L : Nat) (P : Nat → Prop) : ∀ (m lo : Nat) (bs : List Bool) (Q : List D → Prop), lo + m = n → bs.length ≤ B + lo * L →
    (∀ k, k < n → ∀ (bs : List Bool) (N : List D → Prop), bs.length ≤ B + k * L → (∀ bs' : List Bool, bs'.length ≤ bs.length + L → (bs'.all id = true ↔ bs.all id = true ∧ P k) → N (bs'.map .bool)) → f (.int (k : Int)) (bs.map .bool) N) →
    (∀ bs' : List Bool, bs'.length ≤ bs.length + m * L → (bs'.all id = true ↔ bs.all id = true ∧ ∀ k, lo ≤ k → k < n → P k) → Q (bs'.map .bool)) → walkL f (rngD (lo : Int) m) (bs.map .bool) Q
  | 0, lo, bs, Q, e, _, h, q => q bs (by omega) ⟨fun z => ⟨z, fun k h1 h2 => by omega⟩, fun z => z.1⟩
  | m + 1, lo, bs, Q, e, hb, h, q => by
    have er : rngD (lo : Int) (m + 1) = .int (lo : Int) :: rngD ((lo + 1 : Nat) : Int) m := by
      unfold rngD
      rw [List.range_succ_eq_map, List.map_cons, List.map_map]
      refine congr (congrArg List.cons (by simp)) (List.map_congr_left fun k _ => ?_)
      show PyData.int ((lo : Int) + ((k + 1 : Nat) : Int)) = .int (((lo + 1 : Nat) : Int) + (k : Int))
      congr 1
      omega
    rw [er]
    have hm : (lo + 1) * L = lo * L + L := Nat.succ_mul lo L
    refine h lo (by omega) bs _ hb fun bs' h1 h2 => walk_bools L P m (lo + 1) bs' Q (by omega) (by omega) h fun bs2 h3 h4 => q bs2 ?_ ?_
    · have : (m + 1) * L = m * L + L := Nat.succ_mul m L
      omega
    · rw [h4, h2]
      constructor
      · rintro ⟨⟨a, b⟩, c⟩
        refine ⟨a, fun k k1 k2 => ?_⟩
        by_cases z : k = lo
        · rw [z]; exact b
        · exact c k (by omega) k2
      · rintro ⟨a, b⟩
        exact ⟨⟨a, b lo (Nat.le_refl _) (by omega)⟩, fun k k1 k2 => b k (by omega) k2⟩
theorem walk_bools0 {n : Nat} (B : Nat) {f : D → List D → (List D → Prop) → Prop} {bs : List Bool} {Q : List D → Prop} (L : Nat) (P : Nat → Prop) (hb : bs.length ≤ B)
    (h : ∀ k, k < n → ∀ (bs : List Bool) (N : List D → Prop), bs.length ≤ B + k * L → (∀ bs' : List Bool, bs'.length ≤ bs.length + L → (bs'.all id = true ↔ bs.all id = true ∧ P k) → N (bs'.map .bool)) → f (.int (k : Int)) (bs.map .bool) N)
    (q : ∀ bs' : List Bool, bs'.length ≤ bs.length + n * L → (bs'.all id = true ↔ bs.all id = true ∧ ∀ k, k < n → P k) → Q (bs'.map .bool)) : walkL f (rngD 0 n) (bs.map .bool) Q := by
  have r := walk_bools (f := f) (B := B) L P n 0 bs Q (by omega) (by omega) h fun bs' h1 h2 => q bs' h1 (by rw [h2]; exact ⟨fun z => ⟨z.1, fun k hk => z.2 k (Nat.zero_le _) hk⟩, fun z => ⟨z.1, fun k _ hk => z.2 k hk⟩⟩)
  exact r
/-! ### promises -/
def spElB : SpD := fun ds Q => ∃ (d : D) (N : Nat), ds = [d, .int (N : Int)] ∧ tdD d = true ∧ Q (.v (.bool (elB N d)))
def spTblB : SpD := fun ds Q => ∃ (d : D) (N : Nat), ds = [d, .int (N : Int)] ∧ tdD d = true ∧ Q (.v (.bool (tblB N d)))
def spIsLat : SpD := fun ds Q => ∃ d : D, ds = [d] ∧ tdD d = true ∧ ∀ b : Bool, (b = true ↔ latP d) → Q (.v (.bool b))
end DL

/-! ORP: the places of lots; the ortholattice of a room is one. -/
namespace DL
open PySem L2
theorem walk_inv {α : Type} {f : D → α → (α → Prop) → Prop} (I : Nat → α → Prop) : ∀ (items : List D) (k : Nat) (acc : α) (Q : α → Prop), I k acc →
    (∀ j d acc, items[j]? = some d → I (k + j) acc → ∀ N : α → Prop, (∀ a, I (k + j + 1) a → N a) → f d acc N) → (∀ a, I (k + items.length) a → Q a) → walkL f items acc Q
  | [], k, acc, Q, i, _, q => q acc i
  | d :: ds, k, acc, Q, i, h, q => h 0 d acc rfl i _ fun a ha => walk_inv I ds (k + 1) a Q ha (fun j d' acc' e ij N hN => h (j + 1) d' acc' e (by rw [← Nat.add_assoc, Nat.add_right_comm]; exact ij) N fun a' ha' => hN a' (by
      have e : k + 1 + j + 1 = k + (j + 1) + 1 := by omega
      rw [e]; exact ha')) fun a ha' => q a (by
      have e : k + (d :: ds).length = k + 1 + ds.length := by rw [List.length_cons]; omega
      rw [e]; exact ha')
/-- the first k lots with their places -/
def kvP (S : List (List Nat)) (k : Nat) : List (D × D) := (List.range k).map fun j => (tupN (S.getD j []), .int (j : Int))
theorem kvP_length (S : List (List Nat)) (k : Nat) : (kvP S k).length = k := by unfold kvP; rw [List.length_map, List.length_range]
theorem setsD_at {S : List (List Nat)} {k : Nat} (h : k < S.length) : atI (setsD S) (k : Int) = some (.tuple (natD (S.getD k []))) := by
  refine atI_nat ?_
  unfold setsD
  rw [List.getElem?_map, List.getElem?_eq_getElem h, getD_at h]
  rfl
theorem putT_place {S : List (List Nat)} (nd : S.Nodup) {k : Nat} (h : k < S.length) : putT (kvP S k) (.tuple (natD (S.getD k []))) (.int (k : Int)) = kvP S (k + 1) := by
  have no : ((kvP S k).any fun kv => eqT kv.1 (.tuple (natD (S.getD k [])))) = false := by
    rw [List.any_eq_false]
    intro kv hkv
    unfold kvP at hkv
    obtain ⟨j, hj, rfl⟩ := List.mem_map.mp hkv
    have hj := List.mem_range.mp hj
    show ¬ eqT (tupN (S.getD j [])) (tupN (S.getD k [])) = true
    rw [eqT_tup, decide_eq_true_eq, getD_at (by omega), getD_at h]
    intro e
    have := (List.getElem_inj nd).mp e
    omega
  unfold putT
  rw [no]
  unfold kvP
  rw [List.range_succ, List.map_append]
  rfl
theorem getT_place {S : List (List Nat)} {t : List Nat} (h : t ∈ S) : getT (kvP S S.length) (.tuple (natD t)) = some (.int (ixT S t : Nat)) := by
  have hl : ixT S t < S.length := List.idxOf_lt_length_of_mem h
  have main : ∀ n k, n + k = S.length → k ≤ ixT S t → ((List.range' k n).map fun j => (tupN (S.getD j []), PyData.int (j : Int))).find? (fun kv => eqT kv.1 (tupN t)) = some (tupN t, .int (ixT S t : Nat)) := by
    intro n
    induction n with
    | zero => intro k e h; omega
    | succ n ih =>
      intro k e hk
      rw [List.range'_succ, List.map_cons, List.find?_cons]
      have hkl : k < S.length := by omega
      by_cases z : k = ixT S t
      · have e1 : S.getD k [] = t := by
          rw [getD_at hkl]
          subst z
          exact List.getElem_idxOf hkl
        have : eqT (tupN (S.getD k [])) (tupN t) = true := by rw [eqT_tup, e1]; simp
        simp only [this]
        rw [e1, z]
      · have : eqT (tupN (S.getD k [])) (tupN t) = false := by
          rw [eqT_tup, decide_eq_false_iff_not, getD_at hkl]
          intro e
          have := List.not_of_lt_findIdx (p := (· == t)) (show k < S.findIdx (· == t) from by
            have : ixT S t = S.findIdx (· == t) := rfl
            omega)
          simp [e] at this
        simp only [this]
        exact ih (k + 1) (by omega) (by omega)
  unfold getT kvP
  rw [List.range_eq_range', show (PyData.tuple (natD t)) = tupN t from rfl, main S.length 0 (by omega) (Nat.zero_le _)]
  rfl
def spLatOf : SpD := fun ds Q => ∃ (r : D) (n : Nat) (ps : List (Nat × Nat)), ds = [r] ∧ RmArg r n ps ∧ n ≤ 16 ∧ Q (.v (latD (clS (apart ps) n) (apart ps) n))
/-- what a room's lattice is as tables -/
def mRows (S : List (List Nat)) : List (List Nat) := S.map fun t => S.map fun u => ixT S (capN t u)
def tRow (S : List (List Nat)) (A : Nat → Nat → Bool) (n : Nat) : List Nat := S.map fun t => ixT S (oppN A n t)
theorem latD_tab (S : List (List Nat)) (A : Nat → Nat → Bool) (n : Nat) : latD S A n = tabD S.length (mRows S) (tRow S A n) := by
  have h1 : meetD S = .tuple ((mRows S).map tupN) := by
    unfold meetD mRows
    rw [List.map_map]
    refine congrArg PyData.tuple (List.map_congr_left fun t _ => ?_)
    show PyData.tuple (S.map _) = .tuple ((S.map _).map _)
    rw [List.map_map]
    rfl
  have h2 : turnD S A n = tupN (tRow S A n) := by
    unfold turnD tRow tupN natD
    rw [List.map_map]
    rfl
  unfold latD tabD
  rw [h1, h2]

def spJoin : SpD := fun ds Q => ∃ (N : Nat) (rows : List (List Nat)) (ts : List Nat) (x y : Nat), ds = [tabD N rows ts, .int (x : Int), .int (y : Int)] ∧ LTab N rows ts ∧ x < N ∧ y < N ∧ Q (.v (.int (gT ts (gM rows (gT ts x) (gT ts y)) : Nat)))
def spZero : SpD := fun ds Q => ∃ (N : Nat) (rows : List (List Nat)) (ts : List Nat), ds = [tabD N rows ts] ∧ LTab N rows ts ∧ 0 < N ∧ Q (.v (.int (gM rows 0 (gT ts 0) : Nat)))
end DL

/-! ORQ: the ortholattice of a room is one. -/
namespace DL
open PySem L2
section
variable {A : Nat → Nat → Bool} {n : Nat}
/-- the lot at a place -/
def stS (S : List (List Nat)) (x : Nat) : List Nat := S.getD x []
theorem st_mem {S : List (List Nat)} {x : Nat} (h : x < S.length) : stS S x ∈ S := by
  unfold stS
  rw [getD_at h]
  exact List.getElem_mem h
theorem ix_lt {S : List (List Nat)} {t : List Nat} (h : t ∈ S) : ixT S t < S.length := List.idxOf_lt_length_of_mem h
theorem st_ix {S : List (List Nat)} {t : List Nat} (h : t ∈ S) : stS S (ixT S t) = t := by
  unfold stS
  rw [getD_at (ix_lt h)]
  exact List.getElem_idxOf (ix_lt h)
theorem ix_st {S : List (List Nat)} (nd : S.Nodup) {x : Nat} (h : x < S.length) : ixT S (stS S x) = x := by
  have h1 := ix_lt (st_mem h)
  have h2 := st_ix (st_mem h)
  have h3 : S[ixT S (stS S x)] = S[x] := by
    rw [← getD_at h1 (d := []), ← getD_at h (d := [])]
    exact h2
  exact (List.getElem_inj nd).mp h3
theorem gM_at {S : List (List Nat)} {x y : Nat} (hx : x < S.length) (hy : y < S.length) : gM (mRows S) x y = ixT S (capN (stS S x) (stS S y)) := by
  have h1 : rwN (mRows S) x = S.map fun u => ixT S (capN (stS S x) u) := by
    unfold rwN mRows stS
    rw [getD_at (by rw [List.length_map]; exact hx), List.getElem_map, getD_at hx]
  unfold gM
  rw [h1, getD_at (by rw [List.length_map]; exact hy), List.getElem_map]
  unfold stS
  rw [getD_at hy]
theorem gT_at {S : List (List Nat)} {x : Nat} (hx : x < S.length) : gT (tRow S A n) x = ixT S (oppN A n (stS S x)) := by
  unfold gT tRow stS
  rw [getD_at (by rw [List.length_map]; exact hx), List.getElem_map, getD_at hx]
theorem cl_lt {t : List Nat} (h : t ∈ clS A n) : ∀ p ∈ t, p < n := (clS_mem.mp h).2.1
theorem capN_cl (sy : ∀ i j, A i j = A j i) {t u : List Nat} (ht : t ∈ clS A n) (hu : u ∈ clS A n) : capN t u ∈ clS A n := cap_closed sy ht hu
theorem capN_opp (s u : List Nat) : capN (oppN A n s) (oppN A n u) = oppN A n (s ++ u) := oppN_append.symm
theorem lat_tab (sy : ∀ i j, A i j = A j i) : LTab (clS A n).length (mRows (clS A n)) (tRow (clS A n) A n) where
  lr := by unfold mRows; rw [List.length_map]
  rw_ := fun r hr => by
    unfold mRows at hr
    obtain ⟨t, ht, rfl⟩ := List.mem_map.mp hr
    refine ⟨by rw [List.length_map], fun x hx => ?_⟩
    obtain ⟨u, hu, rfl⟩ := List.mem_map.mp hx
    exact ix_lt (capN_cl sy ht hu)
  lt_ := by unfold tRow; rw [List.length_map]
  tw := fun x hx => by
    unfold tRow at hx
    obtain ⟨t, ht, rfl⟩ := List.mem_map.mp hx
    exact ix_lt (opp_closed sy (cl_lt ht))
theorem capN_self (t : List Nat) : capN t t = t := by
  unfold capN
  rw [List.filter_eq_self]
  intro a ha
  exact decide_eq_true ha
theorem cap_opp (ir : ∀ i, A i i = false) {t : List Nat} : capN t (oppN A n t) = [] := by
  unfold capN
  rw [List.filter_eq_nil_iff]
  intro a ha h
  have := (mem_oppN.mp (of_decide_eq_true h)).2 a ha
  rw [ir a] at this
  cases this
theorem lat_ax_of (sy : ∀ i j, A i j = A j i) (ir : ∀ i, A i i = false) : Ax (clS A n).length (gM (mRows (clS A n))) (gT (tRow (clS A n) A n)) := by
  have nd := clS_nodup (A := A) (n := n)
  have oc : ∀ {t : List Nat}, t ∈ clS A n → oppN A n t ∈ clS A n := fun h => opp_closed sy (cl_lt h)
  have t := lat_tab (n := n) sy
  refine ⟨fun x hx => ?_, fun x hx y hy => ?_, fun x hx y hy => ?_, fun x hx y hy z hz => ?_, fun x hx y hy => ?_⟩
  · have mx := st_mem hx
    refine ⟨by rw [gM_at hx hx, capN_self, ix_st nd hx], ?_⟩
    have h1 := t.ltT hx
    rw [gT_at h1, gT_at hx, st_ix (oc mx), (clS_mem.mp mx).2.2, ix_st nd hx]
  · obtain ⟨s, _, es⟩ := cl_is_opp (st_mem hx)
    obtain ⟨u, _, eu⟩ := cl_is_opp (st_mem hy)
    rw [gM_at hx hy, gM_at hy hx, es, eu, capN_opp, capN_opp, oppN_congr (s := s ++ u) (u := u ++ s) fun x => by simp [or_comm]]
  · have h1 := t.ltT hx
    have h2 := t.ltM hx hy
    have h3 := t.ltT h2
    have mx := st_mem hx
    have my := st_mem hy
    have mc := capN_cl sy mx my
    rw [gM_at h1 h3, gT_at h2, gT_at hx, gM_at hx hy, st_ix (oc mx), st_ix mc, st_ix (oc mc), capN_opp, oppN_congr (s := stS (clS A n) x ++ capN (stS (clS A n) x) (stS (clS A n) y)) (u := stS (clS A n) x)]
    intro z
    rw [List.mem_append]
    exact ⟨fun h => h.elim id fun h => (List.mem_filter.mp h).1, .inl⟩
  · have mx := st_mem hx
    have my := st_mem hy
    have mz := st_mem hz
    have h1 := t.ltM hx hy
    have h2 := t.ltM hy hz
    rw [gM_at h1 hz, gM_at hx h2, gM_at hx hy, gM_at hy hz, st_ix (capN_cl sy mx my), st_ix (capN_cl sy my mz)]
    obtain ⟨s, _, es⟩ := cl_is_opp mx
    obtain ⟨u, _, eu⟩ := cl_is_opp my
    obtain ⟨w, _, ew⟩ := cl_is_opp mz
    rw [es, eu, ew, capN_opp, capN_opp, capN_opp, capN_opp, List.append_assoc]
  · have mx := st_mem hx
    have my := st_mem hy
    have h1 := t.ltT hx
    have h2 := t.ltM hx h1
    have mc := capN_cl sy mx (oc mx)
    rw [gM_at h2 hy, gM_at hx h1, gT_at hx, st_ix (oc mx), st_ix mc, cap_opp ir]
    rfl
theorem lat_nil (sy : ∀ i j, A i j = A j i) (ir : ∀ i, A i i = false) : [] ∈ clS A n := by
  have h := opp_closed (A := A) (n := n) sy (pts := List.range n) fun p hp => List.mem_range.mp hp
  have e : oppN A n (List.range n) = [] := by
    rw [List.eq_nil_iff_forall_not_mem]
    intro a ha
    obtain ⟨h1, h2⟩ := mem_oppN.mp ha
    have := h2 a (List.mem_range.mpr h1)
    rw [ir a] at this
    cases this
  rwa [e] at h
theorem lat_two (sy : ∀ i j, A i j = A j i) (ir : ∀ i, A i i = false) (h : 1 ≤ n) : 2 ≤ (clS A n).length := by
  have h1 := lat_nil (n := n) sy ir
  have h2 : List.range n ∈ clS A n := by
    have := opp_closed (A := A) (n := n) sy (pts := []) fun p hp => (nomatch hp)
    rwa [oppN_nil] at this
  have h3 := nodup_len (l := [[], List.range n]) (m := clS A n) (by
    rw [List.nodup_cons]
    refine ⟨fun e => ?_, by simp⟩
    have e := List.mem_singleton.mp e
    have := congrArg List.length e
    rw [List.length_range] at this
    simp at this
    omega) fun x hx => by
      rcases List.mem_cons.mp hx with rfl | hx
      · exact h1
      · rw [List.mem_singleton.mp hx]; exact h2
  exact h3
theorem lat_le (h : n ≤ 6) : (clS A n).length ≤ 64 := Nat.le_trans clS_len (show 2 ^ n ≤ 2 ^ 6 from Nat.pow_le_pow_right (by decide) h)
theorem lat_is (sy : ∀ i j, A i j = A j i) (ir : ∀ i, A i i = false) (h1 : 1 ≤ n) (h6 : n ≤ 6) : latP (latD (clS A n) A n) :=
  ⟨_, _, _, latD_tab _ _ _, lat_two sy ir h1, lat_le h6, lat_tab sy, lat_ax_of sy ir⟩
theorem lat_zero (sy : ∀ i j, A i j = A j i) (ir : ∀ i, A i i = false) (h : 0 < (clS A n).length) : gM (mRows (clS A n)) 0 (gT (tRow (clS A n) A n) 0) = ixT (clS A n) [] := by
  have t := lat_tab (n := n) sy
  rw [gM_at h (t.ltT h), gT_at h, st_ix (opp_closed sy (cl_lt (st_mem h))), cap_opp ir]
theorem lat_join (sy : ∀ i j, A i j = A j i) {x y : Nat} (hx : x < (clS A n).length) (hy : y < (clS A n).length) :
    gT (tRow (clS A n) A n) (gM (mRows (clS A n)) (gT (tRow (clS A n) A n) x) (gT (tRow (clS A n) A n) y)) = ixT (clS A n) (oppN A n (oppN A n (stS (clS A n) x ++ stS (clS A n) y))) := by
  have t := lat_tab (n := n) sy
  have h1 := t.ltT hx
  have h2 := t.ltT hy
  have mx := opp_closed sy (cl_lt (st_mem hx))
  have my := opp_closed sy (cl_lt (st_mem hy))
  rw [gT_at (t.ltM h1 h2), gM_at h1 h2, st_ix (capN_cl sy (st_mem h1) (st_mem h2)), gT_at hx, gT_at hy, st_ix mx, st_ix my, capN_opp]
end
end DL

/-! ORX: tables are papers. -/
namespace DL
open PySem L2
mutual
theorem pap_okD : ∀ d : D, papD d = true → okD d = true
  | .tuple ds, h => by
    obtain ⟨h1, h2⟩ := pap_tup.mp h
    rw [okD, decide_eq_true (show ds.length ≤ 1000000 by omega), paps_okD ds (papDs_mem.mpr h2)]
    rfl
  | .str s, h => by rw [okD]
  | .none, h => by rw [okD]
  | .int i, h => by rw [okD]
  | .bool _, h => by simp [papD] at h
  | .list _, h => by simp [papD] at h
  | .dict _, h => by simp [papD] at h
theorem paps_okD : ∀ ds : List D, papDs ds = true → okDs ds = true
  | [], _ => by rw [okDs]
  | d :: ds, h => by
    rw [papDs, Bool.and_eq_true] at h
    rw [okDs, pap_okD d h.1, paps_okD ds h.2]
    rfl
end
/-- a row put in -/
def putL {α : Type} (l : List α) (k : Nat) (x : α) : List α := l.take k ++ x :: l.drop (k + 1)
theorem putL_map {α β : Type} (f : α → β) (l : List α) (k : Nat) (x : α) : (l.map f).take k ++ f x :: (l.map f).drop (k + 1) = (putL l k x).map f := by
  unfold putL
  rw [List.map_append, List.map_cons, List.map_take, List.map_drop]
theorem putL_length {α : Type} {l : List α} {k : Nat} {x : α} (h : k < l.length) : (putL l k x).length = l.length := by
  unfold putL
  rw [List.length_append, List.length_cons, List.length_take, List.length_drop]
  omega
theorem putL_mem {α : Type} {l : List α} {k : Nat} {x y : α} (h : y ∈ putL l k x) : y ∈ l ∨ y = x := by
  unfold putL at h
  rcases List.mem_append.mp h with h | h
  · exact .inl (List.mem_of_mem_take h)
  · rcases List.mem_cons.mp h with h | h
    · exact .inr h
    · exact .inl (List.mem_of_mem_drop h)
theorem putN_row (l : List Nat) (k x : Nat) : (natD l).take k ++ .int (x : Int) :: (natD l).drop (k + 1) = natD (putL l k x) := putL_map (fun k : Nat => PyData.int (k : Int)) l k x
/-- small rows -/
def RowS (r : List Nat) : Prop := r.length ≤ 64 ∧ ∀ x ∈ r, x ≤ 700
def RowsS (rows : List (List Nat)) : Prop := rows.length ≤ 64 ∧ ∀ r ∈ rows, RowS r
theorem RowS.put {r : List Nat} (h : RowS r) {k x : Nat} (hk : k < r.length) (hx : x ≤ 700) : RowS (putL r k x) :=
  ⟨by rw [putL_length hk]; exact h.1, fun y hy => (putL_mem hy).elim (h.2 y) fun e => e ▸ hx⟩
theorem RowsS.put {rows : List (List Nat)} (h : RowsS rows) {k : Nat} {x : List Nat} (hk : k < rows.length) (hx : RowS x) : RowsS (putL rows k x) :=
  ⟨by rw [putL_length hk]; exact h.1, fun y hy => (putL_mem hy).elim (h.2 y) fun e => e ▸ hx⟩
theorem RowS.rev {r : List Nat} (h : RowS r) : RowS r.reverse := ⟨by rw [List.length_reverse]; exact h.1, fun x hx => h.2 x (List.mem_reverse.mp hx)⟩
theorem RowsS.rev {r : List (List Nat)} (h : RowsS r) : RowsS r.reverse := ⟨by rw [List.length_reverse]; exact h.1, fun x hx => h.2 x (List.mem_reverse.mp hx)⟩
theorem row_pap {r : List Nat} (h : RowS r) : papD (tupN r) = true ∧ (tupN r).depth ≤ 1 ∧ (tupN r).weight ≤ 704 := by
  have p := nat_part (n := 64) h.2 h.1
  exact p.tup (by omega) (n := 0) fun d hd => by
    obtain ⟨k, hk, rfl⟩ := natD_mem hd
    exact Nat.le_refl _
theorem rows_pap {rows : List (List Nat)} (h : RowsS rows) : papD (.tuple (rows.map tupN)) = true ∧ PyData.depth (.tuple (rows.map tupN)) ≤ 2 ∧ PyData.weight (.tuple (rows.map tupN)) ≤ 45120 := by
  have e : ∀ d ∈ rows.map tupN, papD d = true ∧ d.depth ≤ 1 ∧ d.weight ≤ 704 := fun d hd => by
    obtain ⟨r, hr, rfl⟩ := List.mem_map.mp hd
    exact row_pap (h.2 r hr)
  have l : (rows.map tupN).length ≤ 64 := by rw [List.length_map]; exact h.1
  refine ⟨pap_tup.mpr ⟨by omega, fun d hd => (e d hd).1⟩, ?_, ?_⟩
  · rw [PyData.depth]
    have := depthAll_le.mpr fun d hd => (e d hd).2.1
    omega
  · rw [PyData.weight]
    have a := weightAll_le fun d hd => (e d hd).2.2
    have b : (704 + 1) * (rows.map tupN).length ≤ (704 + 1) * 64 := Nat.mul_le_mul_left _ l
    omega
theorem tab_paper3 {i : Int} {rows : List (List Nat)} {ts : List Nat} (hi : i.natAbs ≤ 700) (hr : RowsS rows) (ht : RowS ts) : papD (.tuple [.int i, .tuple (rows.map tupN), tupN ts]) = true ∧ PyData.depth (.tuple [.int i, .tuple (rows.map tupN), tupN ts]) ≤ 3 ∧ PyData.weight (.tuple [.int i, .tuple (rows.map tupN), tupN ts]) ≤ 480000 := by
  obtain ⟨i1, i2, i3⟩ := int_pap hi
  obtain ⟨a1, a2, a3⟩ := rows_pap hr
  obtain ⟨b1, b2, b3⟩ := row_pap ht
  refine ⟨pap_tup.mpr ⟨by show 3 ≤ 40000; omega, fun d hd => ?_⟩, ?_, ?_⟩
  · simp only [List.mem_cons, List.not_mem_nil, or_false] at hd
    rcases hd with rfl | rfl | rfl
    · exact i1
    · exact a1
    · exact b1
  · rw [PyData.depth, PyData.depthAll, PyData.depthAll, PyData.depthAll, PyData.depthAll, i2]
    omega
  · rw [PyData.weight, PyData.weightAll, PyData.weightAll, PyData.weightAll, PyData.weightAll]
    omega
theorem tab_paper {i : Int} {rows : List (List Nat)} {ts : List Nat} (hi : i.natAbs ≤ 700) (hr : RowsS rows) (ht : RowS ts) : Paper (.tuple [.int i, .tuple (rows.map tupN), tupN ts]) := by
  obtain ⟨h1, h2, h3⟩ := tab_paper3 hi hr ht
  exact ⟨h1, by omega, h3⟩
theorem LTab.rowsS {N : Nat} {rows : List (List Nat)} {ts : List Nat} (t : LTab N rows ts) (h : N ≤ 64) : RowsS rows ∧ RowS ts :=
  ⟨⟨by rw [t.lr]; exact h, fun r hr => ⟨by rw [(t.rw_ r hr).1]; exact h, fun x hx => by have := (t.rw_ r hr).2 x hx; omega⟩⟩, ⟨by rw [t.lt_]; exact h, fun x hx => by have := t.tw x hx; omega⟩⟩

section
variable {N : Nat} {rows : List (List Nat)} {ts : List Nat}
theorem row_put {r : List Nat} (h : r.length = N ∧ ∀ x ∈ r, x < N) {k x : Nat} (hk : k < N) (hx : x < N) : (putL r k x).length = N ∧ ∀ y ∈ putL r k x, y < N :=
  ⟨by rw [putL_length (by rw [h.1]; exact hk)]; exact h.1, fun y hy => (putL_mem hy).elim (h.2 y) fun e => e ▸ hx⟩
theorem LTab.put (t : LTab N rows ts) {k : Nat} (hk : k < N) {r : List Nat} (h : r.length = N ∧ ∀ x ∈ r, x < N) : LTab N (putL rows k r) ts :=
  ⟨by rw [putL_length (by rw [t.lr]; exact hk)]; exact t.lr, fun s hs => (putL_mem hs).elim (t.rw_ s) fun e => e ▸ h, t.lt_, t.tw⟩
theorem LTab.putT (t : LTab N rows ts) {k x : Nat} (hk : k < N) (hx : x < N) : LTab N rows (putL ts k x) :=
  ⟨t.lr, t.rw_, (row_put ⟨t.lt_, t.tw⟩ hk hx).1, (row_put ⟨t.lt_, t.tw⟩ hk hx).2⟩
theorem LTab.paper (t : LTab N rows ts) (h : N ≤ 64) : Paper (.tuple [.int (N : Int), .tuple (rows.map tupN), tupN ts]) := by
  obtain ⟨a, b⟩ := t.rowsS h
  exact tab_paper (by omega) a b
end
end DL

namespace LW
open PySem L2 DL
def G0 : Gm := ⟨fun _ => none, fun _ => none⟩
theorem boolsD_map {α : Type} (f : α → Bool) : ∀ l : List α, boolsD (l.map fun x => .bool (f x)) = some (l.map f)
  | [] => rfl
  | x :: l => by
    show (boolsD (l.map fun x => PyData.bool (f x))).map (f x :: ·) = _
    rw [boolsD_map f l]
    rfl
def Grm : Gm := ⟨fun | 11 => some (spTable) | 13 => some (spOppT) | 16 => some (spDraw) | _ => none, fun _ => none⟩
@[simp] theorem Grm_11 : Grm.Φ 11 = some (spTable) := rfl
@[simp] theorem Grm_13 : Grm.Φ 13 = some (spOppT) := rfl
@[simp] theorem Grm_16 : Grm.Φ 16 = some (spDraw) := rfl
theorem lrow_all (A : Nat → Nat → Bool) (n k : Nat) (pts : List Nat) (pd : D) (hpd : pd = .list (natD pts) ∨ pd = .tuple (natD pts)) (hk : k < n) (hl : pts.length ≤ 1000000) (hp : ∀ p ∈ pts, p < n) (Q : List D → Prop) (h : PhC _ _ Q) (q : Q (natD (pts.filter fun p => !A k p))) :
    runC (wpTs G0 (.cons (.not (.ix (.ix (.var 0) (.var 2)) (.var 3))) .nil)) (wpE G0 (.var 3)) (.nm 3) [.val (.list (tblD A n)), .val pd, .val (.int (k : Int)), .no] (natD pts) Q h := by
  refine foldC_fm (fun d => match d with | .int i => !A k i.toNat | d => true) id (fun d hd Qt Qf q1 q2 => ?_) (by rw [natD_length, sizeLine_eq, List.length_nil]; omega) ?_
  · obtain ⟨p, hp1, rfl⟩ := natD_mem hd
    simp (decide := true) (dsimp := false) [tblD_at hk, row_at (hp p hp1), G0]
    cases e : A k p with
    | true =>
      simp (decide := true) (dsimp := false) []
      exact q2 (by show (!A k p) = false; rw [e]; rfl)
    | false =>
      simp (decide := true) (dsimp := false) []
      exact q1 (by show (!A k p) = true; rw [e]; rfl)
  · rw [List.nil_append, List.map_id]
    unfold natD
    rw [List.filter_map]
    exact q
theorem lopp_items (A : Nat → Nat → Bool) (n : Nat) (pts : List Nat) (pd : D) (hpd : pd = .list (natD pts) ∨ pd = .tuple (natD pts)) (hn : n ≤ 600) (hl : pts.length ≤ 1000000) (hp : ∀ p ∈ pts, p < n) (Q : List D → Prop) (h : PhC _ _ Q) (q : Q (natD (oppN A n pts))) :
    runC (wpTs G0 (.cons (.cmp .Eq (.b1 .len (.comp (.var 3) (.nm 3) (.val (.var 1)) (.cons (.not (.ix (.ix (.var 0) (.var 2)) (.var 3))) .nil) [3])) (.int 0)) .nil)) (wpE G0 (.var 2)) (.nm 2) [.val (.list (tblD A n)), .val pd, .no, .no] (rngD 0 n) Q h := by
  refine foldC_fm (fun d => match d with | .int i => pts.all fun p => A i.toNat p | _ => false) id (fun d hd Qt Qf q1 q2 => ?_) (by rw [rngD_length, sizeLine_eq, List.length_nil]; omega) ?_
  · obtain ⟨k, hk, rfl⟩ := rngD_mem hd
    have key : (if decide (((natD (pts.filter fun p => !A k p)).length : Int) = 0) = true then Qt (R.v (.int (k : Int))) else Qf) := by
      have e2 : decide (((natD (pts.filter fun p => !A k p)).length : Int) = 0) = pts.all fun p => A k p := by
        rw [natD_length, Bool.eq_iff_iff, decide_eq_true_eq, List.all_eq_true]
        refine ⟨fun z p hp => ?_, fun z => ?_⟩
        · have z' : (pts.filter fun p => !A k p) = [] := List.eq_nil_of_length_eq_zero (by omega)
          cases e : A k p with
          | true => rfl
          | false =>
            have m : p ∈ pts.filter fun p => !A k p := List.mem_filter.mpr ⟨hp, by rw [e]; rfl⟩
            rw [z'] at m
            cases m
        · rw [List.filter_eq_nil_iff.mpr fun p hp => by rw [z p hp]; decide]
          rfl
      rw [e2]
      split
      · rename_i e
        exact q1 e
      · rename_i e
        exact q2 (by simpa using e)
    rcases hpd with rfl | rfl
    · simp (decide := true) (dsimp := false) []
      refine lrow_all A n k pts _ (.inl rfl) hk hl hp _ _ ?_
      simp (decide := true) (dsimp := false) []
      simpa using key
    · simp (decide := true) (dsimp := false) []
      refine lrow_all A n k pts _ (.inr rfl) hk hl hp _ _ ?_
      simp (decide := true) (dsimp := false) []
      simpa using key
  · rw [rngD_nat, List.nil_append, List.map_id]
    unfold natD
    rw [List.filter_map]
    exact q
theorem w_law_opposite (ds : List D) (Q : R → Prop) (h : spOppT ds Q) : ds.length = 2 ∧ wpF G0 4 c_law_opposite ds Q := by
  obtain ⟨A, n, pts, pd, rfl, hpd, hn, hl, hp, q⟩ := h
  refine ⟨rfl, ?_⟩
  have hn1 : (n : Int) < 4611686018427387904 := by omega
  rcases hpd with rfl | rfl
  · simp (decide := true) (dsimp := false) [c_law_opposite, tblD_length, hn1]
    exact lopp_items A n pts _ (.inl rfl) hn hl hp _ _ q
  · simp (decide := true) (dsimp := false) [c_law_opposite, tblD_length, hn1]
    exact lopp_items A n pts _ (.inr rfl) hn hl hp _ _ q
/-- some of a range -/
theorem sub_nat {lo m : Nat} {sub : List D} (h : sub.Sublist (rngD (lo : Int) m)) : ∃ js : List Nat, sub = natD js ∧ js.length ≤ m ∧ (∀ j ∈ js, lo ≤ j ∧ j < lo + m) ∧ js.Pairwise (· < ·) := by
  unfold rngD at h
  rw [List.sublist_map_iff] at h
  obtain ⟨l, hl, rfl⟩ := h
  refine ⟨l.map (lo + ·), ?_, ?_, ?_, ?_⟩
  · unfold natD
    rw [List.map_map]
    refine List.map_congr_left fun k _ => ?_
    show PyData.int ((lo : Int) + (k : Int)) = .int ((lo + k : Nat) : Int)
    rw [Int.natCast_add]
  · rw [List.length_map]
    have := hl.length_le
    rwa [List.length_range] at this
  · intro j hj
    rw [List.mem_map] at hj
    obtain ⟨k, hk, rfl⟩ := hj
    have := List.mem_range.mp (hl.subset hk)
    omega
  · rw [List.pairwise_map]
    exact (List.pairwise_lt_range.sublist hl).imp fun h => by omega
/-- pairs of which the first ones lie below i -/
structure PrOk (n i : Nat) (ps : List (Nat × Nat)) : Prop where
  lt : ∀ p ∈ ps, p.1 < i ∧ p.1 < p.2 ∧ p.2 < n
  up : ps.Pairwise fun p q => p.1 < q.1 ∨ (p.1 = q.1 ∧ p.2 < q.2)
  len : ps.length ≤ i * n
theorem PrOk.step {n i : Nat} {ps : List (Nat × Nat)} {js : List Nat} (h : PrOk n i ps) (hl : js.length ≤ n) (hj : ∀ j ∈ js, i < j ∧ j < n) (hu : js.Pairwise (· < ·)) : PrOk n (i + 1) (ps ++ js.map fun j => (i, j)) where
  lt := fun p hp => by
    rw [List.mem_append] at hp
    rcases hp with hp | hp
    · have := h.lt p hp
      omega
    · rw [List.mem_map] at hp
      obtain ⟨j, hj1, rfl⟩ := hp
      have := hj j hj1
      exact ⟨Nat.lt_succ_self _, this.1, this.2⟩
  up := by
    rw [List.pairwise_append]
    refine ⟨h.up, ?_, fun p hp q hq => ?_⟩
    · rw [List.pairwise_map]
      exact hu.imp fun h => .inr ⟨rfl, h⟩
    · rw [List.mem_map] at hq
      obtain ⟨j, _, rfl⟩ := hq
      exact .inl (h.lt p hp).1
  len := by
    rw [List.length_append, List.length_map, Nat.add_mul, Nat.one_mul]
    have := h.len
    omega
theorem prsD_app (ps qs : List (Nat × Nat)) : prsD (ps ++ qs) = prsD ps ++ prsD qs := by unfold prsD; rw [List.map_append]
theorem prsD_length (ps : List (Nat × Nat)) : (prsD ps).length = ps.length := by unfold prsD; rw [List.length_map]
theorem prsD_row (i : Nat) (js : List Nat) : prsD (js.map fun j => (i, j)) = (natD js).map fun d => .tuple [.int (i : Int), d] := by
  unfold prsD natD
  rw [List.map_map, List.map_map]
  rfl
theorem w_law_room (ds : List D) (Q : R → Prop) (h : spRoom ds Q) : ds.length = 3 ∧ wpF Grm 13 c_law_room ds Q := by
  obtain ⟨most, names, rfl, m1, m2, nl, q⟩ := h
  refine ⟨rfl, ?_⟩
  simp (decide := true) (dsimp := false) [c_law_room]
  refine ⟨most, rfl, by omega, by omega, fun r r0 r1 => ?_⟩
  obtain ⟨n, hn⟩ : ∃ n : Nat, 1 + r = (n : Int) := ⟨(1 + r).toNat, by omega⟩
  have n1 : 1 ≤ n := by omega
  have n2 : n ≤ most := by omega
  simp (decide := true) (dsimp := false) [hn, sizeLine_eq]
  refine ⟨3, rfl, by omega, by omega, fun o o0 o1 => ?_⟩
  obtain ⟨of, hof⟩ : ∃ of : Nat, 2 + o = (of : Int) := ⟨(2 + o).toNat, by omega⟩
  have hn2 : (n : Int) < 4611686018427387904 := by omega
  have hn3 : -4611686018427387904 ≤ (n : Int) := by omega
  simp (decide := true) (dsimp := false) [hn, hof, hn2, hn3]
  refine foldF_inv (fun i env => ∃ ps x7, PrOk n i ps ∧ env = [.val poolD, .val (.int (most : Int)), .val (.list (names.map .str)), .val (.int (n : Int)), .own (prsD ps), .own [], .val (.int (of : Int)), x7, .no, .no, .no, .no, .no]) 0 ⟨[], .no, ⟨fun p hp => (nomatch hp), .nil, Nat.zero_le _⟩, rfl⟩ (fun k d env hk hi => ?_) fun env hi => ?_
  · obtain ⟨ps, x7, hps, rfl⟩ := hi
    rw [Nat.zero_add] at hps
    obtain ⟨k', hk', rfl⟩ := rngD_mem (List.mem_of_getElem? hk)
    have e1 := rngD_get (lo := 0) hk'
    have e2 : k = k' := by
      have l := (List.getElem?_eq_some_iff.mp hk).1
      rw [rngD_length] at l
      rw [rngD_get l] at hk
      have := PyData.int.inj (Option.some.inj hk)
      omega
    subst e2
    intro N hN
    simp (decide := true) (dsimp := false) [hn2, hn3]
    refine ⟨⟨by omega, by omega⟩, ?_⟩
    refine foldC_sub (fun d => .tuple [.int (k : Int), d]) (fun d hd Qt Qf q1 q2 => ?_) (by rw [rngD_length, sizeLine_eq, List.length_nil]; omega) fun sub hs => ?_
    · simp (decide := true) (dsimp := false) []
      refine ⟨(of : Int), rfl, by omega, by omega, fun z z0 z1 => ?_⟩
      simp (decide := true) (dsimp := false) [sizeLine_eq]
      split
      · exact q1
      · exact q2
    · have e3 : ((k : Int) + 1) = ((k + 1 : Nat) : Int) := by omega
      rw [e3] at hs
      obtain ⟨js, rfl, j1, j2, j3⟩ := sub_nat hs
      have j4 : js.length ≤ n := by omega
      have j5 : ∀ j ∈ js, k < j ∧ j < n := fun j hj => by
        have := j2 j hj
        omega
      have hlen := hps.len
      have hkn : k * n ≤ 600 * 600 := Nat.mul_le_mul (by omega) (by omega)
      rw [List.nil_append, ← prsD_row]
      simp (decide := true) (dsimp := false) [sizeLine_eq, prsD_length]
      refine ⟨by omega, ?_⟩
      rw [← prsD_app]
      refine hN _ ⟨_, _, ?_, rfl⟩
      rw [Nat.zero_add]
      exact hps.step j4 j5 j3
  · obtain ⟨ps, x7, hps, rfl⟩ := hi
    rw [rngD_length, Nat.zero_add] at hps
    simp (decide := true) (dsimp := false) [sizeLine_eq]
    refine ⟨n, ps, .list (prsD ps), .tuple [], rfl, .inl rfl, by omega, fun p hp => by have := hps.lt p hp; omega, ?_⟩
    simp (decide := true) (dsimp := false) [sizeLine_eq]
    refine foldF_inv (fun i env => ∃ vs t8 x9 x10 x11 x12, (t8 = .own (tblD (apart ps) n) ∨ t8 = .val (.list (tblD (apart ps) n))) ∧ (vs.map Prod.fst).Sublist (names.take i) ∧ (∀ v ∈ vs, ∃ some : List Nat, (∀ k ∈ some, k < n) ∧ v.2 = oppN (apart ps) n (oppN (apart ps) n some)) ∧
      env = [.val poolD, .val (.int (most : Int)), .val (.list (names.map .str)), .val (.int (n : Int)), .val (.list (prsD ps)), .own (valD vs), .val (.int (of : Int)), x7, t8, x9, x10, x11, x12]) 0
      ⟨[], _, .no, .no, .no, .no, .inl rfl, by simp, fun v hv => (nomatch hv), rfl⟩ (fun k d env hk hi => ?_) fun env hi => ?_
    · obtain ⟨vs, t8, x9, x10, x11, x12, ht8, hvs, hcl, rfl⟩ := hi
      rw [Nat.zero_add] at hvs
      rw [List.getElem?_map, Option.map_eq_some_iff] at hk
      obtain ⟨nm, hk, rfl⟩ := hk
      have kl := (List.getElem?_eq_some_iff.mp hk).1
      intro N hN
      simp (decide := true) (dsimp := false) []
      refine ⟨6, rfl, by omega, by omega, fun z z0 z1 => ?_⟩
      simp (decide := true) (dsimp := false) [hn2, hn3]
      have tk : names.take (k + 1) = names.take k ++ [nm] := by
        rw [List.take_add_one, hk]
        rfl
      have more : (vs.map Prod.fst).Sublist (names.take (0 + k + 1)) := by
        rw [Nat.zero_add, tk]
        exact hvs.trans (List.sublist_append_left _ _)
      split
      · refine foldC_sub id (fun d hd Qt Qf q1 q2 => ?_) (by rw [rngD_length, sizeLine_eq, List.length_nil]; omega) fun sub hs => ?_
        · simp (decide := true) (dsimp := false) []
          refine ⟨3, rfl, by omega, by omega, fun z z0 z1 => ?_⟩
          simp (decide := true) (dsimp := false) []
          split
          · exact q1
          · exact q2
        · rw [show (0 : Int) = ((0 : Nat) : Int) from rfl] at hs
          obtain ⟨js, rfl, j1, j2, j3⟩ := sub_nat hs
          rw [List.nil_append, List.map_id]
          have j5 : ∀ j ∈ js, j < n := fun j hj => by
            have := j2 j hj
            omega
          have vl : vs.length ≤ 1000 := by
            have := hvs.length_le
            rw [List.length_map, List.length_take] at this
            omega
          have go : ∀ (env : En), True := fun _ => trivial
          rcases ht8 with rfl | rfl
          · simp (decide := true) (dsimp := false) [sizeLine_eq]
            refine ⟨apart ps, n, js, _, rfl, .inl rfl, by omega, by omega, j5, ?_⟩
            simp (decide := true) (dsimp := false) [sizeLine_eq]
            refine ⟨apart ps, n, oppN (apart ps) n js, _, rfl, .inl rfl, by omega, Nat.le_trans oppN_length (by omega), oppN_lt, ?_⟩
            simp (decide := true) (dsimp := false) [sizeLine_eq]
            refine ⟨by unfold valD; rw [List.length_map]; omega, hN _ ⟨vs ++ [(nm, oppN (apart ps) n (oppN (apart ps) n js))], _, _, _, _, _, .inr rfl, ?_, fun v hv => ?_, by unfold valD; rw [List.map_append]; rfl⟩⟩
            · rw [Nat.zero_add, tk, List.map_append]
              exact hvs.append (List.Sublist.refl _)
            · rcases List.mem_append.mp hv with hv | hv
              · exact hcl v hv
              · rw [List.mem_singleton.mp hv]
                exact ⟨js, j5, rfl⟩
          · simp (decide := true) (dsimp := false) [sizeLine_eq]
            refine ⟨apart ps, n, js, _, rfl, .inl rfl, by omega, by omega, j5, ?_⟩
            simp (decide := true) (dsimp := false) [sizeLine_eq]
            refine ⟨apart ps, n, oppN (apart ps) n js, _, rfl, .inl rfl, by omega, Nat.le_trans oppN_length (by omega), oppN_lt, ?_⟩
            simp (decide := true) (dsimp := false) [sizeLine_eq]
            refine ⟨by unfold valD; rw [List.length_map]; omega, hN _ ⟨vs ++ [(nm, oppN (apart ps) n (oppN (apart ps) n js))], _, _, _, _, _, .inr rfl, ?_, fun v hv => ?_, by unfold valD; rw [List.map_append]; rfl⟩⟩
            · rw [Nat.zero_add, tk, List.map_append]
              exact hvs.append (List.Sublist.refl _)
            · rcases List.mem_append.mp hv with hv | hv
              · exact hcl v hv
              · rw [List.mem_singleton.mp hv]
                exact ⟨js, j5, rfl⟩
      · exact hN _ ⟨vs, _, _, _, _, _, ht8, more, hcl, rfl⟩
    · obtain ⟨vs, t8, x9, x10, x11, x12, ht8, hvs, hcl, rfl⟩ := hi
      rw [List.length_map, Nat.zero_add, List.take_length] at hvs
      simp (decide := true) (dsimp := false) [sizeLine_eq]
      exact q n ps vs ⟨n1, n2, fun p hp => by have := hps.lt p hp; omega, hps.up, hvs, hcl⟩
theorem w_law_spread (ds : List D) (Q : R → Prop) (h : spSpread ds Q) : ds.length = 1 ∧ wpF G0 4 c_law_spread ds Q := by
  obtain ⟨c, rfl, q⟩ := h
  refine ⟨rfl, ?_⟩
  simp (dsimp := false) [c_law_spread]
  refine foldF_inv (fun _ env => ∃ b w x, env = [.val (.int c), .val (.int b), .val (.int w), x]) 0 ⟨_, _, _, rfl⟩ (fun k d env hk hi => ?_) fun env hi => ?_
  · obtain ⟨b, w, x, rfl⟩ := hi
    obtain ⟨j, _, rfl⟩ := rngD_mem (List.mem_of_getElem? hk)
    intro N hN
    have cm : ∀ i j : Int, (-(2 ^ 64) < j ∧ j < 2 ^ 64) → CMul i j := fun i j h => .inr h
    simp (dsimp := false) [cm b 48271 (by decide), cm w 2147483647 (by decide)]
    exact hN _ ⟨_, _, _, rfl⟩
  · obtain ⟨b, w, x, rfl⟩ := hi
    simp (dsimp := false) []
    exact q _
def Gdr : Gm := ⟨fun | 16 => some (spDraw) | _ => none, fun _ => none⟩
@[simp] theorem Gdr_16 : Gdr.Φ 16 = some (spDraw) := rfl
theorem w_law_pick (ds : List D) (Q : R → Prop) (h : spPick ds Q) : ds.length = 2 ∧ wpF Gdr 2 c_law_pick ds Q := by
  obtain ⟨items, rfl, h1, h2, q⟩ := h
  refine ⟨rfl, ?_⟩
  simp (decide := true) (dsimp := false) [c_law_pick]
  refine ⟨items.length, rfl, by omega, by omega, fun r r0 r1 => ?_⟩
  obtain ⟨d, e, hd⟩ := atI_in r0 r1
  simp [e]
  exact q d hd
def Gsa (n : Nat) : Gm := ⟨fun | 19 => some (spSame n) | _ => none, fun _ => none⟩
@[simp] theorem Gsa_19 (n : Nat) : (Gsa n).Φ 19 = some (spSame n) := rfl
theorem same_items (n : Nat) (ds : List D) (x : D) (hx : x = .list ds ∨ x = .tuple ds) (hk : okDs ds = true) (hd : depDs ds < n) (hz : ds.length ≤ 1000000) (Q : List D → Prop) (h : PhC _ _ Q) (q : Q []) :
    runC (wpTs (Gsa n) (.cons (.not (.call 19 (.cons (.ix (.var 0) (.var 2)) (.cons (.ix (.var 1) (.var 2)) .nil)))) .nil)) (wpE (Gsa n) (.var 2)) (.nm 2) [.val x, .val x, .no] (rngD 0 ds.length) Q h := by
  refine foldC_none (fun d hd' Qt Qf qf => ?_) (by rw [rngD_length, sizeLine_eq]; omega) q
  obtain ⟨k, hk', rfl⟩ := rngD_mem hd'
  rcases hx with rfl | rfl
  · simp (decide := true) (dsimp := false) [atI_ix hk']
    refine ⟨ds[k], rfl, okDs_get hk (List.getElem?_eq_getElem hk'), Nat.lt_of_le_of_lt (depDs_get (List.getElem?_eq_getElem hk')) hd, ?_⟩
    exact qf
  · simp (decide := true) (dsimp := false) [atI_ix hk']
    refine ⟨ds[k], rfl, okDs_get hk (List.getElem?_eq_getElem hk'), Nat.lt_of_le_of_lt (depDs_get (List.getElem?_eq_getElem hk')) hd, ?_⟩
    exact qf
theorem w_law_same (n : Nat) (ds : List D) (Q : R → Prop) (h : spSame (n + 1) ds Q) : ds.length = 2 ∧ wpF (Gsa n) 3 c_law_same ds Q := by
  obtain ⟨d, rfl, hk, hd, q⟩ := h
  refine ⟨rfl, ?_⟩
  cases d with
  | list ds =>
    rw [okD, Bool.and_eq_true, decide_eq_true_eq] at hk
    rw [depD] at hd
    simp (decide := true) (dsimp := false) [c_law_same]
    refine ⟨by omega, same_items n ds (.list ds) (.inl rfl) hk.2 (by omega) hk.1 _ _ ?_⟩
    simp (decide := true) (dsimp := false) []
    exact q
  | tuple ds =>
    rw [okD, Bool.and_eq_true, decide_eq_true_eq] at hk
    rw [depD] at hd
    simp (decide := true) (dsimp := false) [c_law_same]
    refine ⟨by omega, same_items n ds (.tuple ds) (.inr rfl) hk.2 (by omega) hk.1 _ _ ?_⟩
    simp (decide := true) (dsimp := false) []
    exact q
  | dict kvs => simp [okD] at hk
  | _ =>
    simp (decide := true) (dsimp := false) [c_law_same]
    exact q
theorem w_law_spot (ds : List D) (Q : R → Prop) (h : spSpot ds Q) : ds.length = 2 ∧ wpF G0 3 c_law_spot ds Q := by
  obtain ⟨d, x, p, rfl, hx, q⟩ := h
  refine ⟨rfl, ?_⟩
  simp (decide := true) (dsimp := false) [c_law_spot]
  refine foldF_inv (fun i env => ∃ y x2, getP d (p.take i) = some y ∧ env = [.val y, .val (.list (natD p)), x2]) 0 ⟨d, .no, by rw [List.take_zero]; cases d <;> rfl, rfl⟩ (fun k e env hk hi => ?_) fun env hi => ?_
  · obtain ⟨y, x2, hy, rfl⟩ := hi
    rw [Nat.zero_add] at hy
    intro N hN
    unfold natD at hk
    rw [List.getElem?_map, Option.map_eq_some_iff] at hk
    obtain ⟨j, hj, rfl⟩ := hk
    have e1 : p = p.take k ++ j :: p.drop (k + 1) := by
      obtain ⟨l, e⟩ := List.getElem?_eq_some_iff.mp hj
      rw [← e, ← List.drop_eq_getElem_cons l, List.take_append_drop]
    rw [e1, getP_app, hy] at hx
    obtain ⟨es, z, rfl, hz, hzx⟩ := getP_cons (show getP y (j :: p.drop (k + 1)) = some x from hx)
    simp (decide := true) (dsimp := false) [atI_nat hz]
    refine hN _ ⟨z, _, ?_, rfl⟩
    rw [Nat.zero_add, List.take_add_one, hj, getP_app, hy]
    show getP (.tuple es) [j] = some z
    show (es[j]?).bind (fun x => getP x []) = some z
    rw [hz]
    cases z <;> rfl
  · obtain ⟨y, x2, hy, rfl⟩ := hi
    rw [natD_length, Nat.zero_add, List.take_length, hx] at hy
    simp (decide := true) (dsimp := false) []
    rw [← Option.some.inj hy]
    exact q
def Gpu (m : Nat) : Gm := ⟨fun | 22 => some (spPutP m) | _ => none, fun _ => none⟩
@[simp] theorem Gpu_12 (m : Nat) : (Gpu m).Φ 22 = some (spPutP m) := rfl
theorem w_law_spot_put (m : Nat) (ds : List D) (Q : R → Prop) (h : spPutP (m + 1) ds Q) : ds.length = 3 ∧ wpF (Gpu m) 3 c_law_spot_put ds Q := by
  obtain ⟨d, x, p, rfl, hm, ht, hp, q⟩ := h
  refine ⟨rfl, ?_⟩
  cases p with
  | nil =>
    simp (decide := true) (dsimp := false) [c_law_spot_put, natD]
    have e : putP d [] x = x := by cases d <;> rfl
    rw [e] at q
    exact q
  | cons k p =>
    obtain ⟨y, hy⟩ := Option.isSome_iff_exists.mp hp
    obtain ⟨es, z, rfl, hz, hzy⟩ := getP_cons hy
    obtain ⟨hl, hd⟩ := td_tup ht
    have e0 : atI (natD (k :: p)) 0 = some (.int (k : Int)) := atI_nat (j := 0) (rfl : (natD (k :: p))[0]? = some (.int (k : Int)))
    have ln : ¬ (((natD (k :: p)).length : Int) = 0) := by rw [natD_length, List.length_cons]; omega
    have ct : cutD (natD (k :: p)) (some 1) none = natD p := cut_drop (k := 1)
    have cd : cutD es (some ((k : Int) + 1)) none = es.drop (k + 1) := by
      rw [show ((k : Int) + 1) = ((k + 1 : Nat) : Int) by omega]
      exact cut_drop
    have kl : k < es.length := (List.getElem?_eq_some_iff.mp hz).1
    simp (decide := true) (dsimp := false) [c_law_spot_put, e0, ln, atI_nat hz, ct, cut_take]
    refine ⟨z, x, p, rfl, by simpa using hm, hd z (List.mem_of_getElem? hz), by rw [hzy]; rfl, ?_⟩
    simp (decide := true) (dsimp := false) [e0, sizeLine_eq, cd]
    have e : putP (.tuple es) (k :: p) x = .tuple (es.set k (putP z p x)) := by
      show (match es[k]? with | some d => PyData.tuple (es.set k (putP d p x)) | none => .tuple es) = _
      rw [hz]
    rw [e, List.set_eq_take_append_cons_drop, if_pos kl] at q
    rw [cut_take]
    have l1 : (es.take k).length ≤ 100000 := by rw [List.length_take]; omega
    refine ⟨by omega, by omega, ?_⟩
    simpa using q
def Gsp (m : Nat) : Gm := ⟨fun | 20 => some (spSpots m) | _ => none, fun _ => none⟩
@[simp] theorem Gsp_11 (m : Nat) : (Gsp m).Φ 20 = some (spSpots m) := rfl
theorem w_law_spots (m : Nat) (ds : List D) (Q : R → Prop) (h : spSpots (m + 1) ds Q) : ds.length = 2 ∧ wpF (Gsp m) 4 c_law_spots ds Q := by
  obtain ⟨d, pre, rfl, hm, ht, hpl, hl, q⟩ := h
  refine ⟨rfl, ?_⟩
  have hn := td_noDic ht
  cases d with
  | tuple es =>
    obtain ⟨hel, hed⟩ := td_tup ht
    have n1 : (es.length : Int) < 4611686018427387904 := by omega
    have n2 : -4611686018427387904 ≤ (es.length : Int) := by omega
    rw [spotsL, List.length_cons] at hl
    rw [depD] at hm hpl
    simp (decide := true) (dsimp := false) [c_law_spots, sizeLine_eq, n1, n2]
    refine foldF_inv (fun i env => ∃ x3, env = [.val (.tuple es), .val (.list (natD pre)), .own (pathsD (pre :: spotsLs (es.take i) 0 pre)), x3]) 0 ⟨.no, rfl⟩ (fun k e env hk hi => ?_) fun env hi => ?_
    · obtain ⟨x3, rfl⟩ := hi
      intro N hN
      have kl := (List.getElem?_eq_some_iff.mp hk).1
      rw [rngD_length] at kl
      have ek : e = .int (k : Int) := by
        have := rngD_get (lo := 0) kl
        rw [this] at hk
        rw [← Option.some.inj hk, Int.zero_add]
      subst ek
      have hz : es[k]? = some es[k] := List.getElem?_eq_getElem kl
      have pa : natD pre ++ [PyData.int (k : Int)] = natD (pre ++ [k]) := by
        unfold natD
        rw [List.map_append]
        rfl
      have sm := spotsL_mem es 0 pre es[k] k hz
      have st := spotsLs_take es k 0 pre es[k] hz
      have sl := spotsLs_le es (k + 1) 0 pre
      rw [Nat.zero_add] at sm st
      have dm : depD es[k] ≤ depDs es := depDs_get hz
      have pl2 : (natD pre).length + 1 ≤ 16777216 := by rw [natD_length]; omega
      simp (decide := true) (dsimp := false) [atI_nat hz, sizeLine_eq, pa, pl2]
      refine ⟨es[k], pre ++ [k], rfl, by omega, hed _ (List.getElem_mem kl), by rw [List.length_append, List.length_singleton]; omega, by omega, ?_⟩
      simp (decide := true) (dsimp := false) [sizeLine_eq]
      rw [st, List.length_append] at sl
      have e2 : pathsD (pre :: spotsLs (es.take k) 0 pre) ++ pathsD (spotsL es[k] (pre ++ [k])) = pathsD (pre :: spotsLs (es.take (0 + k + 1)) 0 pre) := by
        rw [Nat.zero_add, st]
        unfold pathsD
        rw [← List.map_append]
        rfl
      rw [e2]
      refine ⟨?_, hN _ ⟨_, rfl⟩⟩
      unfold pathsD
      rw [List.length_map, List.length_map, List.length_cons]
      rw [Nat.zero_add] at *
      omega
    · obtain ⟨x3, rfl⟩ := hi
      rw [rngD_length, Nat.zero_add, List.take_length]
      simp (decide := true) (dsimp := false) []
      rw [spotsL] at q
      exact q
  | dict kvs =>
    simp (decide := true) (dsimp := false) [c_law_spots, hn, sizeLine_eq]
    exact ⟨by simpa using hn, q⟩
  | _ =>
    simp (decide := true) (dsimp := false) [c_law_spots, sizeLine_eq]
    exact q
def Gbs : Gm := ⟨fun | 21 => some spPick | _ => none, fun _ => none⟩
@[simp] theorem Gbs_6 : Gbs.Φ 21 = some spPick := rfl
theorem w_law_odd_values (ds : List D) (Q : R → Prop) (h : spOdd ds Q) : ds.length = 0 ∧ wpF G0 0 c_law_odd_values ds Q := by
  obtain ⟨rfl, q⟩ := h
  refine ⟨rfl, ?_⟩
  simp (decide := true) (dsimp := false) [c_law_odd_values, sizeLine_eq]
  exact q
theorem w_law_bent_spot (ds : List D) (Q : R → Prop) (h : spBentSpot ds Q) : ds.length = 2 ∧ wpF Gbs 2 c_law_bent_spot ds Q := by
  obtain ⟨d, rfl, hb, q⟩ := h
  refine ⟨rfl, ?_⟩
  cases d with
  | tuple ds =>
    have h3 : ds.length ≤ 40000 := by simpa [bdD] using hb
    obtain ⟨c1, c2⟩ := cut_sub ds (some (-1)) none
    have cd : cutD ds (some 1) none = ds.drop 1 := cut_drop (k := 1)
    simp (decide := true) (dsimp := false) [c_law_bent_spot, sizeLine_eq, cd]
    refine ⟨by omega, by omega, ?_⟩
    exact ⟨_, rfl, by simp, by simp, fun x hx => q x (by simpa [bentL] using hx)⟩
  | str s =>
    simp (decide := true) (dsimp := false) [c_law_bent_spot, sizeLine_eq]
    exact ⟨_, rfl, by simp, by simp, fun x hx => q x hx⟩
  | none =>
    simp (decide := true) (dsimp := false) [c_law_bent_spot, sizeLine_eq]
    exact ⟨_, rfl, by simp, by simp, fun x hx => q x hx⟩
  | int i =>
    have hi : i.natAbs.log2 < 1920 := by
      have : i.natAbs.log2 < 1900 := by simpa [bdD] using hb
      omega
    simp (decide := true) (dsimp := false) [c_law_bent_spot, sizeLine_eq, hi]
    exact ⟨_, rfl, by simp, by simp, fun x hx => q x (by simpa [bentL] using hx)⟩
  | _ => cases hb
def Gbe (m : Nat) : Gm := ⟨fun | 21 => some spPick | 25 => some spOdd | 20 => some (spSpots m) | 22 => some (spPutP m) | 23 => some spBentSpot | 24 => some spSpot | _ => none, fun _ => none⟩
@[simp] theorem Gbe_6 (m : Nat) : (Gbe m).Φ 21 = some spPick := rfl
@[simp] theorem Gbe_7 (m : Nat) : (Gbe m).Φ 25 = some spOdd := rfl
@[simp] theorem Gbe_11 (m : Nat) : (Gbe m).Φ 20 = some (spSpots m) := rfl
@[simp] theorem Gbe_12 (m : Nat) : (Gbe m).Φ 22 = some (spPutP m) := rfl
@[simp] theorem Gbe_13 (m : Nat) : (Gbe m).Φ 23 = some spBentSpot := rfl
@[simp] theorem Gbe_14 (m : Nat) : (Gbe m).Φ 24 = some spSpot := rfl
theorem w_law_bent (m : Nat) (ds : List D) (Q : R → Prop) (h : spBent m ds Q) : ds.length = 3 ∧ wpF (Gbe m) 7 c_law_bent ds Q := by
  obtain ⟨es, many, rfl, hm, hm9, ht, hne, hel, hma, hsl, hsp, q⟩ := h
  refine ⟨rfl, ?_⟩
  obtain ⟨h, r, rfl⟩ : ∃ h r, es = h :: r := by
    cases es with
    | nil => exact absurd rfl hne
    | cons h r => exact ⟨h, r, rfl⟩
  have e0 : atI (h :: r) 0 = some h := atI_nat (j := 0) (rfl : (h :: r)[0]? = some h)
  have lr : (h :: r).length ≤ 40000 := hel
  rw [List.length_cons] at lr
  simp (decide := true) (dsimp := false) [c_law_bent, sizeLine_eq, e0]
  refine ⟨by omega, .tuple (h :: r), [], rfl, by rw [depD]; omega, ht, by rw [List.length_nil, depD]; omega, hsl, ?_⟩
  have n1 : (many : Int) < 4611686018427387904 := by omega
  have n2 : -4611686018427387904 ≤ (many : Int) := by omega
  simp (decide := true) (dsimp := false) [sizeLine_eq, n1, n2]
  refine foldF_inv (fun i env => ∃ vals x4 x5 x6, vals.length ≤ i + 5 ∧ (∀ v ∈ vals, NearB (.tuple (h :: r)) (h :: r) v) ∧ (x4 = .own (pathsD (spotsL (.tuple (h :: r)) [])) ∨ x4 = .val (.list (pathsD (spotsL (.tuple (h :: r)) [])))) ∧
    env = [.val poolD, .val (.tuple (h :: r)), .val (.int (many : Int)), .own vals, x4, x5, x6]) 0 ⟨_, _, _, _, ?_, ?_, .inl rfl, rfl⟩ (fun k e env hk hi => ?_) fun env hi => ?_
  · simp
  · intro v hv
    simp only [List.mem_cons, List.not_mem_nil, or_false] at hv
    rcases hv with rfl | rfl | rfl | rfl | rfl
    · exact .inl rfl
    · exact .inr (.inl rfl)
    · exact .inr (.inr (.inl (by simp)))
    · exact .inr (.inr (.inr (.inl ⟨h, rfl, rfl⟩)))
    · exact .inr (.inr (.inr (.inr (.inl (by simp)))))
  · obtain ⟨vals, x4, x5, x6, hv1, hv2, h4, rfl⟩ := hi
    intro N hN
    have pick : ∀ P : D → Prop, (∀ p ∈ spotsL (.tuple (h :: r)) [], P (.list (natD p))) → ∀ d ∈ pathsD (spotsL (.tuple (h :: r)) []), P d := fun P hP d hd => by
      obtain ⟨p, hp, rfl⟩ := List.mem_map.mp hd
      exact hP p hp
    have one : 1 ≤ (pathsD (spotsL (.tuple (h :: r)) [])).length := by
      unfold pathsD
      rw [List.length_map, spotsL, List.length_cons]
      omega
    have all : (pathsD (spotsL (.tuple (h :: r)) [])).length < 1000000 := by
      unfold pathsD
      rw [List.length_map]
      omega
    have kl : k < many := by
      have := (List.getElem?_eq_some_iff.mp hk).1
      rwa [rngD_length] at this
    rcases h4 with rfl | rfl <;> (
    simp (decide := true) (dsimp := false) [sizeLine_eq]
    refine ⟨_, rfl, one, all, pick _ fun p hp => ?_⟩
    obtain ⟨y, hy, by_, pl⟩ := hsp p hp
    simp (decide := true) (dsimp := false) [sizeLine_eq]
    refine ⟨_, y, p, rfl, hy, ?_⟩
    simp (decide := true) (dsimp := false) [sizeLine_eq]
    refine ⟨y, rfl, by_, fun x hx => ?_⟩
    simp (decide := true) (dsimp := false) [sizeLine_eq]
    refine ⟨_, x, p, rfl, pl, ht, by rw [hy]; rfl, ?_⟩
    simp (decide := true) (dsimp := false) [sizeLine_eq]
    refine ⟨by omega, hN _ ⟨_, _, _, _, ?_, ?_, .inr rfl, rfl⟩⟩
    · rw [List.length_append, List.length_singleton]
      omega
    · intro v hv
      rcases List.mem_append.mp hv with hv | hv
      · exact hv2 v hv
      · rw [List.mem_singleton.mp hv]
        exact .inr (.inr (.inr (.inr (.inr (.inr ⟨p, y, x, hy, hp, hx, rfl⟩))))))
  · obtain ⟨vals, x4, x5, x6, hv1, hv2, h4, rfl⟩ := hi
    rw [rngD_length] at hv1
    simp (decide := true) (dsimp := false) [sizeLine_eq]
    refine ⟨rfl, ?_⟩
    simp (decide := true) (dsimp := false) [sizeLine_eq]
    have ol : oddL.length = 23 := rfl
    refine ⟨by omega, q _ (by rw [List.length_append, ol]; omega) fun v hv => ?_⟩
    rcases List.mem_append.mp hv with hv | hv
    · exact hv2 v hv
    · exact .inr (.inr (.inr (.inr (.inr (.inl hv)))))
theorem isI_any (d : D) : (isT d .bint && !isT d .bbool) = isI d := by cases d <;> rfl
theorem w_is_integer (ds : List D) (Q : R → Prop) (h : spIsI ds Q) : ds.length = 1 ∧ wpF G0 1 c_is_integer ds Q := by
  obtain ⟨d, rfl, ht, q⟩ := h
  refine ⟨rfl, ?_⟩
  have hn := td_noDic ht
  cases d with
  | dict kvs =>
    simp (decide := true) (dsimp := false) [c_is_integer, hn]
    exact ⟨by simpa using hn, q⟩
  | _ =>
    simp (decide := true) (dsimp := false) [c_is_integer]
    exact q
theorem w_law_is_integer (ds : List D) (Q : R → Prop) (h : spIsI ds Q) : ds.length = 1 ∧ wpF G0 1 c_law_is_integer ds Q := by
  obtain ⟨d, rfl, ht, q⟩ := h
  refine ⟨rfl, ?_⟩
  have hn := td_noDic ht
  cases d with
  | dict kvs =>
    simp (decide := true) (dsimp := false) [c_law_is_integer, hn]
    exact ⟨by simpa using hn, q⟩
  | _ =>
    simp (decide := true) (dsimp := false) [c_law_is_integer]
    exact q
theorem cap_fold (G : Gm) {env : En} (a b : Nat) (t near : List Nat) (x : Sl) (Q : List D → Prop) (ht : t.length ≤ 1000000)
    (hx : x = .own (natD near) ∨ x = .val (.list (natD near)) ∨ x = .val (.tuple (natD near))) (hb : (env.set a (.val .none))[b]? = some x) (hab : a < env.length) (hne : a ≠ b) (q : Q (natD (capN t near))) :
    foldC (wpTs G (.cons (.cmp .In (.var a) (.var b)) .nil)) (wpE G (.var a)) (.nm a) env (natD t) [] Q := by
  unfold natD
  refine foldC_selL (fun (k : Nat) => PyData.int (k : Int)) (fun k => decide (k ∈ near)) (fun k hk Qt Qf h1 h2 => ?_) (by rw [sizeLine_eq]; omega) q
  have hb' : ∀ d : D, (env.set a (.val d))[b]? = some x := fun d => by
    rw [List.getElem?_set_ne hne] at hb ⊢
    exact hb
  have e := inV_nat k near
  have fin : (if decide (k ∈ near) = true then Qt (.v (.int (k : Int))) else Qf) := by
    by_cases hm : k ∈ near
    · rw [if_pos (decide_eq_true hm)]; exact h1 (decide_eq_true hm)
    · rw [if_neg (by simp [hm])]; exact h2 (decide_eq_false hm)
  have hf := natD_flat near
  rcases hx with rfl | rfl | rfl
  · simp (decide := true) (dsimp := false) only [tgD, wpTs, wpT, wpE, List.getElem?_set_self hab, hb', dCmp, dIn, R.d]
    refine .inl ⟨rfl, hf, ?_⟩
    show if inV (V.int (k : Int)) ((natD near).map toV) = true then _ else _
    rw [e]
    exact fin
  · simp (decide := true) (dsimp := false) only [tgD, wpTs, wpT, wpE, List.getElem?_set_self hab, hb', dCmp, dIn, R.d]
    refine .inl ⟨rfl, hf, ?_⟩
    show if inV (V.int (k : Int)) ((natD near).map toV) = true then _ else _
    rw [e]
    exact fin
  · simp (decide := true) (dsimp := false) only [tgD, wpTs, wpT, wpE, List.getElem?_set_self hab, hb', dCmp, dIn, R.d]
    refine ⟨rfl, hf, ?_⟩
    show if inV (V.int (k : Int)) ((natD near).map toV) = true then _ else _
    rw [e]
    exact fin
theorem rngD_tup (n : Nat) : PyData.tuple (rngD 0 n) = tupN (List.range n) := by
  rw [rngD_nat]
  rfl
theorem subsN_memlen : ∀ {n : Nat} {t : List Nat}, t ∈ subsN n → t.length ≤ n
  | 0, t, h => by
    unfold subsN at h
    rw [List.mem_singleton] at h
    subst h
    exact Nat.zero_le _
  | n + 1, t, h => by
    unfold subsN at h
    rcases List.mem_append.mp h with h | h
    · exact Nat.le_succ_of_le (subsN_memlen h)
    · obtain ⟨u, hu, rfl⟩ := List.mem_map.mp h
      have := subsN_memlen hu
      rw [List.length_append, List.length_singleton]
      omega
theorem pow16 {n : Nat} (h : n ≤ 16) : 2 ^ n ≤ 65536 := Nat.pow_le_pow_right (by decide) h
theorem w_law_subsets (ds : List D) (Q : R → Prop) (h : spSubs ds Q) : ds.length = 1 ∧ wpF G0 4 c_law_subsets ds Q := by
  obtain ⟨n, rfl, hn, q⟩ := h
  refine ⟨rfl, ?_⟩
  have hn2 : (n : Int) < 4611686018427387904 := by omega
  have hn3 : -4611686018427387904 ≤ (n : Int) := by omega
  simp (decide := true) (dsimp := false) [c_law_subsets, sizeLine_eq, hn2, hn3]
  refine foldF_inv (fun i env => ∃ x2 x3, env = [.val (.int (n : Int)), .own (setsD (subsN i)), x2, x3]) 0 ⟨.no, .no, rfl⟩ (fun k d env hk hi => ?_) fun env hi => ?_
  · obtain ⟨x2, x3, rfl⟩ := hi
    rw [Nat.zero_add]
    rw [rngD_nat] at hk
    have hk' : d = .int (k : Int) ∧ k < n := by
      unfold natD at hk
      rw [List.getElem?_map, Option.map_eq_some_iff] at hk
      obtain ⟨j, hj, rfl⟩ := hk
      obtain ⟨l, e⟩ := List.getElem?_eq_some_iff.mp hj
      rw [List.getElem_range] at e
      rw [List.length_range] at l
      exact ⟨by rw [e], l⟩
    obtain ⟨rfl, kn⟩ := hk'
    intro N hN
    have l1 : (subsN k).length ≤ 65536 := by rw [subsN_len]; exact pow16 (by omega)
    simp (decide := true) (dsimp := false) [sizeLine_eq]
    refine foldC_mapL tupN (fun t => tupN (t ++ [k])) (fun t ht Qt Qf q1 => ?_) (by rw [sizeLine_eq]; omega) ?_
    · have := subsN_memlen ht
      simp (decide := true) (dsimp := false) [tupN, sizeLine_eq]
      refine ⟨by rw [natD_length]; omega, ?_⟩
      unfold tupN natD at q1
      rw [List.map_append] at q1
      exact q1
    · simp (decide := true) (dsimp := false) [sizeLine_eq]
      refine ⟨by rw [setsD_length]; omega, ?_⟩
      refine hN _ ⟨.val (.int (k : Int)), x3, ?_⟩
      rw [subsN]
      unfold setsD
      rw [List.map_append, List.map_map]
      rfl
  · obtain ⟨x2, x3, rfl⟩ := hi
    rw [rngD_length, Nat.zero_add]
    simp (decide := true) (dsimp := false) []
    exact q
def Gla : Gm := ⟨fun | 11 => some (spTable) | 13 => some (spOppT) | 12 => some (spSubs) | _ => none, fun _ => none⟩
@[simp] theorem Gla_11 : Gla.Φ 11 = some (spTable) := rfl
@[simp] theorem Gla_13 : Gla.Φ 13 = some (spOppT) := rfl
@[simp] theorem Gla_12 : Gla.Φ 12 = some (spSubs) := rfl
theorem clT_of {A : Nat → Nat → Bool} {n : Nat} {t : List Nat} : clT A n t = decide (oppN A n (oppN A n t) = t) := rfl
theorem filter_perm {A : Nat → Nat → Bool} {n : Nat} : ((subsN n).filter (clT A n)).Perm (clS A n) := clS_perm.symm
theorem w_law_lattice (ds : List D) (Q : R → Prop) (h : spLat ds Q) : ds.length = 1 ∧ wpF Gla 8 c_law_lattice ds Q := by
  obtain ⟨r, n, ps, rfl, ⟨pd, v, rfl, hpd, hn6, hp⟩, hn, q⟩ := h
  refine ⟨rfl, ?_⟩
  have sy := apart_sy ps
  simp (decide := true) (dsimp := false) [c_law_lattice, atI, ixN, sizeLine_eq]
  refine ⟨n, ps, pd, v, rfl, hpd, hn6, hp, ?_⟩
  simp (decide := true) (dsimp := false) [atI, ixN, sizeLine_eq]
  refine ⟨n, rfl, hn, ?_⟩
  simp (decide := true) (dsimp := false) [atI, ixN, sizeLine_eq]
  refine foldF_inv (fun i env => ∃ x1 x3 x4 x5 x6 x7, (x1 = .own (tblD (apart ps) n) ∨ x1 = .val (.list (tblD (apart ps) n))) ∧ env = [.val (.tuple [.int (n : Int), pd, v]), x1, .own (setsD (((subsN n).take i).filter (clT (apart ps) n))), x3, x4, x5, x6, x7]) 0
    ⟨_, .no, .no, .no, .no, .no, .inl rfl, rfl⟩ (fun k d env hk hi => ?_) fun env hi => ?_
  · obtain ⟨x1, x3, x4, x5, x6, x7, hx1, rfl⟩ := hi
    rw [Nat.zero_add]
    unfold setsD at hk
    rw [List.getElem?_map, Option.map_eq_some_iff] at hk
    obtain ⟨t, hj, rfl⟩ := hk
    have ht := List.mem_of_getElem? hj
    have tl := subsN_memlen ht
    have tn := (subsN_mem.mp ht).2
    intro N hN
    have fin : (decide (oppN (apart ps) n (oppN (apart ps) n t) = t) = true → N [.val (.tuple [.int (n : Int), pd, v]), .val (.list (tblD (apart ps) n)), .own (setsD (((subsN n).take k).filter (clT (apart ps) n)) ++ [tupN t]), .val (tupN t), x4, x5, x6, x7]) ∧ (decide (oppN (apart ps) n (oppN (apart ps) n t) = t) = false → N [.val (.tuple [.int (n : Int), pd, v]), .val (.list (tblD (apart ps) n)), .own (setsD (((subsN n).take k).filter (clT (apart ps) n))), .val (tupN t), x4, x5, x6, x7]) := by
      have e : (subsN n).take (k + 1) = (subsN n).take k ++ [t] := by rw [List.take_add_one, hj]; rfl
      constructor
      · intro h
        refine hN _ ⟨.val (.list (tblD (apart ps) n)), .val (tupN t), x4, x5, x6, x7, .inr rfl, ?_⟩
        rw [e, List.filter_append, List.filter_cons, if_pos (show clT (apart ps) n t = true from h)]
        unfold setsD
        rw [List.map_append]
        rfl
      · intro h
        refine hN _ ⟨.val (.list (tblD (apart ps) n)), .val (tupN t), x4, x5, x6, x7, .inr rfl, ?_⟩
        rw [e, List.filter_append, List.filter_cons, if_neg (by rw [show clT (apart ps) n t = false from h]; decide), List.filter_nil, List.append_nil]
    have lenF : (setsD (((subsN n).take k).filter (clT (apart ps) n))).length < 16777216 := by
      rw [setsD_length]
      have h1 := List.length_filter_le (clT (apart ps) n) ((subsN n).take k)
      have h2 : ((subsN n).take k).length ≤ (subsN n).length := by rw [List.length_take]; omega
      have h3 := pow16 hn
      rw [subsN_len] at h2
      omega
    rcases hx1 with rfl | rfl
    all_goals
      simp (decide := true) (dsimp := false) [atI, ixN, sizeLine_eq, tupN]
      refine ⟨apart ps, n, t, _, rfl, .inr rfl, hn6, by omega, tn, ?_⟩
      simp (decide := true) (dsimp := false) [atI, ixN, sizeLine_eq]
      refine ⟨apart ps, n, _, _, rfl, .inl rfl, hn6, Nat.le_trans oppN_length (by omega), oppN_lt, ?_⟩
      simp (decide := true) (dsimp := false) [atI, ixN, sizeLine_eq, shaped_nat, PyData.eqv, eqvAll_nat, tupN]
      split
      · rename_i h
        exact ⟨by simpa using lenF, fin.1 (decide_eq_true h)⟩
      · rename_i h
        exact fin.2 (decide_eq_false h)
  · obtain ⟨x1, x3, x4, x5, x6, x7, hx1, rfl⟩ := hi
    rw [setsD_length, Nat.zero_add, List.take_length]
    simp (decide := true) (dsimp := false) [atI, ixN, sizeLine_eq, -dSort]
    refine dSort_sets (A := apart ps) (n := n) filter_perm ?_
    have cll : (clS (apart ps) n).length ≤ 65536 := Nat.le_trans clS_len (pow16 hn)
    have tlen : ∀ t, t ∈ clS (apart ps) n → t.length ≤ 1000000 ∧ ∀ x ∈ t, x < n := fun t h => by
      obtain ⟨s, _, rfl⟩ := cl_is_opp h
      have := oppN_length (A := apart ps) (n := n) (pts := s)
      exact ⟨by omega, oppN_lt⟩
    simp (decide := true) (dsimp := false) [atI, ixN, sizeLine_eq]
    refine foldC_mapL tupN (fun t => .tuple ((clS (apart ps) n).map fun u => .int (ixT (clS (apart ps) n) (capN t u) : Int))) (fun t ht Qt Qf q1 => ?_) (by rw [sizeLine_eq]; omega) ?_
    · simp (decide := true) (dsimp := false) [atI, ixN, sizeLine_eq]
      refine foldC_mapL tupN (fun u => .int (ixT (clS (apart ps) n) (capN t u) : Int)) (fun u hu Qt Qf q2 => ?_) (by rw [sizeLine_eq]; omega) ?_
      · simp (decide := true) (dsimp := false) [atI, ixN, sizeLine_eq, tupN]
        refine cap_fold Gla 7 6 t u _ _ (tlen t ht).1 (.inr (.inr rfl)) rfl (by simp) (by decide) ?_
        have hc := cap_closed sy ht hu
        obtain ⟨i1, i2⟩ := idx_sets hc
        simp (decide := true) (dsimp := false) [shaped_sets, shaped_tupN]
        exact ⟨_, i1, i2, q2⟩
      · simp (decide := true) (dsimp := false) [atI, ixN, sizeLine_eq]
        exact q1
    · rcases hx1 with rfl | rfl
      all_goals
        simp (decide := true) (dsimp := false) [atI, ixN, sizeLine_eq]
        refine foldC_mapL tupN (fun t => .int (ixT (clS (apart ps) n) (oppN (apart ps) n t) : Int)) (fun t ht Qt Qf q1 => ?_) (by rw [sizeLine_eq]; omega) ?_
        · have hc := opp_closed (n := n) sy (tlen t ht).2
          obtain ⟨i1, i2⟩ := idx_sets hc
          simp (decide := true) (dsimp := false) [atI, ixN, sizeLine_eq, tupN]
          refine ⟨apart ps, n, t, _, rfl, .inr rfl, hn6, (tlen t ht).1, (tlen t ht).2, ?_⟩
          simp (decide := true) (dsimp := false) [shaped_sets, shaped_tupN]
          exact ⟨_, i1, i2, q1⟩
        · simp (decide := true) (dsimp := false) [atI, ixN, sizeLine_eq, setsD_length]
          unfold latD meetD turnD at q
          exact q
end LW

namespace LW
open PySem L2 DL
def Gel : Gm := ⟨fun | 0 => some spIsI | 28 => some spIsI | _ => none, fun _ => none⟩
@[simp] theorem Gel_0 : Gel.Φ 0 = some spIsI := rfl
@[simp] theorem Gel_28 : Gel.Φ 28 = some spIsI := rfl
theorem el_no {N : Nat} {d : D} (h : ∀ ds, d ≠ .tuple ds) : elB N d = false := by
  cases d with
  | tuple ds => exact absurd rfl (h ds)
  | _ => rfl
theorem isI_inR {N : Nat} {d : D} (h : isI d = false) : inR N d = false := by
  cases d with
  | int i => cases h
  | _ => rfl
theorem w_is_list_of_elements (ds : List D) (Q : R → Prop) (h : spElB ds Q) : ds.length = 2 ∧ wpF Gel 3 c_is_list_of_elements ds Q := by
  obtain ⟨d, N, rfl, ht, q⟩ := h
  refine ⟨rfl, ?_⟩
  have hn := td_noDic ht
  cases d with
  | tuple es =>
    obtain ⟨hl, he⟩ := td_tup ht
    simp (decide := true) (dsimp := false) [c_is_list_of_elements]
    by_cases e : (es.length : Int) = (N : Int)
    · simp (decide := true) (dsimp := false) [e]
      refine foldC_map (fun d => .bool (inR N d)) (fun d hd Qt Qf q1 => ?_) (by rw [sizeLine_eq]; omega) ?_
      · simp (decide := true) (dsimp := false) []
        refine ⟨d, rfl, he d hd, ?_⟩
        cases hi : isI d with
        | false =>
          rw [isI_inR hi] at q1
          simp (decide := true) (dsimp := false) []
          exact q1
        | true =>
          obtain ⟨i, rfl⟩ := isI_int hi
          rw [inR_int] at q1
          simp (decide := true) (dsimp := false) []
          split
          · rename_i z
            rw [decide_eq_true z, Bool.true_and] at q1
            exact q1
          · rename_i z
            rw [decide_eq_false z, Bool.false_and] at q1
            exact q1
      · simp (decide := true) (dsimp := false) [boolsD_map, List.all_map]
        have e1 : es.length = N := by omega
        rw [elB_tup, decide_eq_true e1, Bool.true_and] at q
        exact q
    · simp (decide := true) (dsimp := false) [e]
      have e1 : ¬ es.length = N := by omega
      rw [elB_tup, decide_eq_false e1, Bool.false_and] at q
      exact q
  | dict kvs =>
    rw [el_no (fun ds h => by cases h)] at q
    simp (decide := true) (dsimp := false) [c_is_list_of_elements, hn]
    exact ⟨by simpa using hn, q⟩
  | _ =>
    rw [el_no (fun ds h => by cases h)] at q
    simp (decide := true) (dsimp := false) [c_is_list_of_elements]
    exact q
def Gtb : Gm := ⟨fun | 2 => some spElB | 1 => some spTblB | 0 => some spIsI | _ => none, fun | 0 => some (.int 64) | _ => none⟩
@[simp] theorem Gtb_2 : Gtb.Φ 2 = some spElB := rfl
@[simp] theorem Gtb_1 : Gtb.Φ 1 = some spTblB := rfl
@[simp] theorem Gtb_0 : Gtb.Φ 0 = some spIsI := rfl
@[simp] theorem Gtb_g0 : Gtb.Γ 0 = some (.int 64) := rfl
theorem tbl_no {N : Nat} {d : D} (h : ∀ ds, d ≠ .tuple ds) : tblB N d = false := by
  cases d with
  | tuple ds => exact absurd rfl (h ds)
  | _ => rfl
theorem w_is_table (ds : List D) (Q : R → Prop) (h : spTblB ds Q) : ds.length = 2 ∧ wpF Gtb 3 c_is_table ds Q := by
  obtain ⟨d, N, rfl, ht, q⟩ := h
  refine ⟨rfl, ?_⟩
  have hn := td_noDic ht
  cases d with
  | tuple es =>
    obtain ⟨hl, he⟩ := td_tup ht
    simp (decide := true) (dsimp := false) [c_is_table]
    by_cases e : (es.length : Int) = (N : Int)
    · simp (decide := true) (dsimp := false) [e]
      refine foldC_map (fun d => .bool (elB N d)) (fun d hd Qt Qf q1 => ?_) (by rw [sizeLine_eq]; omega) ?_
      · simp (decide := true) (dsimp := false) []
        exact ⟨d, N, rfl, he d hd, q1⟩
      · simp (decide := true) (dsimp := false) [boolsD_map, List.all_map]
        have e1 : es.length = N := by omega
        rw [tblB_tup, decide_eq_true e1, Bool.true_and] at q
        exact q
    · simp (decide := true) (dsimp := false) [e]
      have e1 : ¬ es.length = N := by omega
      rw [tblB_tup, decide_eq_false e1, Bool.false_and] at q
      exact q
  | dict kvs =>
    rw [tbl_no (fun ds h => by cases h)] at q
    simp (decide := true) (dsimp := false) [c_is_table, hn]
    exact ⟨by simpa using hn, q⟩
  | _ =>
    rw [tbl_no (fun ds h => by cases h)] at q
    simp (decide := true) (dsimp := false) [c_is_table]
    exact q
theorem all_bools (bs : List Bool) : boolsD (bs.map .bool) = some bs := by
  have := boolsD_map (fun b : Bool => b) bs
  simpa using this
/-- a walk over all pairs -/
theorem walk2 {N : Nat} (hN : N ≤ 64) {f : D → List D → (List D → Prop) → Prop} {g : Nat → D → List D → (List D → Prop) → Prop} {F : Nat → Nat → Bool} {Q : List D → Prop}
    (hf : ∀ x, x < N → ∀ acc R, walkL (g x) (rngD 0 N) acc R → f (.int (x : Int)) acc R)
    (hg : ∀ x, x < N → ∀ y, y < N → ∀ (bs : List Bool) (R : List D → Prop), bs.length ≤ 3000000 → R ((bs ++ [F x y]).map .bool) → g x (.int (y : Int)) (bs.map .bool) R)
    (q : ∀ bs : List Bool, (bs.all id = true ↔ ∀ x, x < N → ∀ y, y < N → F x y = true) → Q (bs.map .bool)) : walkL f (rngD 0 N) [] Q := by
  refine walk_bools0 0 (bs := []) N (fun x => ∀ y, y < N → F x y = true) (by simp) (fun x hx bs R hb hR => ?_) fun bs' h1 h2 => q bs' (by rw [h2]; simp)
  have hxN : x * N ≤ 64 * 64 := Nat.mul_le_mul (by omega) hN
  refine hf x hx _ _ (walk_bools0 4096 1 (fun y => F x y = true) (by omega) (fun y hy bs R hb hR => ?_) fun bs' h1 h2 => hR bs' (by omega) h2)
  refine hg x hx y hy bs _ (by omega) (hR (bs ++ [F x y]) (by simp) (by simp))
/-- .. over all triples -/
theorem walk3 {N : Nat} (hN : N ≤ 64) {f : D → List D → (List D → Prop) → Prop} {g : Nat → D → List D → (List D → Prop) → Prop} {h : Nat → Nat → D → List D → (List D → Prop) → Prop} {F : Nat → Nat → Nat → Bool} {Q : List D → Prop}
    (hf : ∀ x, x < N → ∀ acc R, walkL (g x) (rngD 0 N) acc R → f (.int (x : Int)) acc R)
    (hg : ∀ x, x < N → ∀ y, y < N → ∀ acc R, walkL (h x y) (rngD 0 N) acc R → g x (.int (y : Int)) acc R)
    (hh : ∀ x, x < N → ∀ y, y < N → ∀ z, z < N → ∀ (bs : List Bool) (R : List D → Prop), bs.length ≤ 3000000 → R ((bs ++ [F x y z]).map .bool) → h x y (.int (z : Int)) (bs.map .bool) R)
    (q : ∀ bs : List Bool, (bs.all id = true ↔ ∀ x, x < N → ∀ y, y < N → ∀ z, z < N → F x y z = true) → Q (bs.map .bool)) : walkL f (rngD 0 N) [] Q := by
  refine walk_bools0 0 (bs := []) (N * N) (fun x => ∀ y, y < N → ∀ z, z < N → F x y z = true) (by simp) (fun x hx bs R hb hR => ?_) fun bs' h1 h2 => q bs' (by rw [h2]; simp)
  have hxN : x * (N * N) ≤ 64 * (64 * 64) := Nat.mul_le_mul (by omega) (Nat.mul_le_mul hN hN)
  refine hf x hx _ _ (walk_bools0 262144 N (fun y => ∀ z, z < N → F x y z = true) (by omega) (fun y hy bs R hb hR => ?_) fun bs' h1 h2 => hR bs' (by omega) h2)
  have hyN : y * N ≤ 64 * 64 := Nat.mul_le_mul (by omega) hN
  refine hg x hx y hy _ _ (walk_bools0 270000 1 (fun z => F x y z = true) (by omega) (fun z hz bs R hb hR => ?_) fun bs' h1 h2 => hR bs' (by omega) h2)
  exact hh x hx y hy z hz bs _ (by omega) (hR (bs ++ [F x y z]) (by simp) (by simp))
theorem lat_no {d : D} (h : ∀ (a b c : D), d ≠ .tuple [a, b, c]) : ¬ latP d := fun ⟨N, rows, ts, e, _⟩ => h _ _ _ e
end LW

namespace LW
open PySem L2 DL
theorem all_mem (bs : List Bool) : bs.all id = true ↔ ¬ false ∈ bs := by
  rw [List.all_eq_true]
  exact ⟨fun h m => Bool.noConfusion (h _ m), fun h b hb => by cases b; exact absurd hb h; rfl⟩
theorem natD_inj : ∀ {a b : List Nat}, natD a = natD b → a = b
  | [], [], _ => rfl
  | [], _ :: _, h => by cases h
  | _ :: _, [], h => by cases h
  | x :: xs, y :: ys, h => by
    unfold natD at h
    rw [List.map_cons, List.map_cons] at h
    injection h with h1 h2
    injection h1 with h1
    rw [natD_inj (show natD xs = natD ys from h2), Int.ofNat.inj h1]
theorem tupN_eq (l : List Nat) : tupN l = .tuple (natD l) := rfl
theorem tupN_inj {a b : List Nat} (h : tupN a = tupN b) : a = b := natD_inj (by unfold tupN at h; injection h)
theorem rows_inj : ∀ {a b : List (List Nat)}, a.map tupN = b.map tupN → a = b
  | [], [], _ => rfl
  | [], _ :: _, h => by cases h
  | _ :: _, [], h => by cases h
  | x :: xs, y :: ys, h => by
    rw [List.map_cons, List.map_cons] at h
    injection h with h1 h2
    rw [tupN_inj h1, rows_inj h2]
theorem allB_rng {N : Nat} (F : Nat → Bool) : ((rngD 0 N).all (onI fun i => F i.toNat)) = true ↔ ∀ x, x < N → F x = true := by
  have := all_rng (fun i => F i.toNat) 0 N
  unfold allB at this
  rw [this, List.all_eq_true]
  exact ⟨fun h x hx => by simpa using h x (List.mem_range.mpr hx), fun h x hx => by simpa using h x (List.mem_range.mp hx)⟩
theorem lat_ax {N : Nat} {rows : List (List Nat)} {ts : List Nat} (h : latP (tabD N rows ts)) : Ax N (gM rows) (gT ts) := by
  obtain ⟨N', rows', ts', e, _, _, t', ax⟩ := h
  unfold tabD at e
  injection e with e
  injection e with e1 e
  injection e with e2 e
  injection e with e3 e
  injection e1 with e1
  injection e2 with e2
  have e1 := Int.ofNat.inj e1
  subst e1
  rw [← rows_inj e2, ← tupN_inj e3] at ax
  exact ax
theorem w_is_lattice (ds : List D) (Q : R → Prop) (h : spIsLat ds Q) : ds.length = 1 ∧ wpF Gtb 8 c_is_lattice ds Q := by
  obtain ⟨d, rfl, ht, q⟩ := h
  refine ⟨rfl, ?_⟩
  have hn := td_noDic ht
  have no : ¬ latP d → Q (.v (.bool false)) := fun h => q false ⟨fun z => (nomatch z), fun z => absurd z h⟩
  cases d with
  | tuple es =>
    obtain ⟨hl, he⟩ := td_tup ht
    by_cases e3 : es.length = 3
    · obtain ⟨a, b, c, rfl⟩ : ∃ a b c, es = [a, b, c] := by
        match es, e3 with
        | [a, b, c], _ => exact ⟨a, b, c, rfl⟩
      simp (decide := true) (dsimp := false) [c_is_lattice, atI, ixN]
      refine ⟨a, rfl, he a (by simp), ?_⟩
      cases hi : isI a with
      | false =>
        simp (decide := true) (dsimp := false) []
        refine no fun ⟨N, rows, ts, e, _⟩ => ?_
        unfold tabD at e
        cases e
        cases hi
      | true =>
        obtain ⟨i, rfl⟩ := isI_int hi
        simp (decide := true) (dsimp := false) [atI, ixN]
        by_cases r : 2 ≤ i ∧ i ≤ 64
        · have r2 : ¬ (2 ≤ i → 64 < i) := by omega
          obtain ⟨N, rfl⟩ : ∃ N : Nat, i = (N : Int) := ⟨i.toNat, by omega⟩
          have h64 : ¬ (64 < (N : Int)) := by omega
          simp (decide := true) (dsimp := false) [r.1, r.2, h64]
          refine ⟨b, N, rfl, he b (by simp), ?_⟩
          cases htb : tblB N b with
          | false =>
            simp (decide := true) (dsimp := false) []
            refine no fun ⟨N', rows, ts, e, _, _, t, _⟩ => ?_
            unfold tabD at e
            cases e
            rw [tblB_of t.lr t.rw_] at htb
            cases htb
          | true =>
            simp (decide := true) (dsimp := false) []
            refine ⟨c, N, rfl, he c (by simp), ?_⟩
            cases hel : elB N c with
            | false =>
              simp (decide := true) (dsimp := false) []
              refine no fun ⟨N', rows, ts, e, _, _, t, _⟩ => ?_
              unfold tabD at e
              cases e
              rw [elB_of t.lt_ t.tw] at hel
              cases hel
            | true =>
              obtain ⟨rows, rfl, lr, hr⟩ := tblB_nat htb
              obtain ⟨ts, rfl, lt, hts⟩ := elB_nat hel
              have t : LTab N rows ts := ⟨lr, hr, lt, hts⟩
              have no2 : ¬ Ax N (gM rows) (gT ts) → Q (.v (.bool false)) := fun h => no fun z => h (lat_ax z)
              have h2 : 2 ≤ N := by omega
              have h6 : N ≤ 64 := by omega
              simp (decide := true) (dsimp := false) []
              refine ⟨by omega, foldC_rng (fun i => (fun x => decide (gM rows x x = x) && decide (gT ts (gT ts x) = x)) i.toNat) (fun x hx Qt Qf q1 => ?_) (by rw [sizeLine_eq]; omega) ?_⟩
              · simp (decide := true) (dsimp := false) [tupN_eq, t.at1 hx, t.at2 hx hx, t.at3 hx, t.at3 (t.ltT hx)]
                rw [Int.zero_add, Int.toNat_natCast] at q1
                by_cases z : gM rows x x = x
                · have z1 : decide (((gT ts (gT ts x) : Nat) : Int) = (x : Int)) = decide (gT ts (gT ts x) = x) := by
                    rw [decide_eq_decide]
                    omega
                  rw [if_pos (by omega), z1]
                  simp only [z, decide_true, Bool.true_and] at q1
                  exact q1
                · have z' : ¬ ((gM rows x x : Int) = (x : Int)) := by omega
                  rw [if_neg z']
                  simp only [z, decide_false, Bool.false_and] at q1
                  exact q1
              · simp (decide := true) (dsimp := false) [boolsD_map]
                split
                · rename_i z
                  refine no2 fun ax => ?_
                  obtain ⟨d, hd, e⟩ := z
                  obtain ⟨k, hk, rfl⟩ := rngD_el hd
                  have := ax.idem k hk
                  unfold onI at e
                  simp [this.1, this.2] at e
                · rename_i z
                  have A0 : ∀ x, x < N → gM rows x x = x ∧ gT ts (gT ts x) = x := fun x hx => by
                    have w : (PyData.int ((x : Nat) : Int)) ∈ rngD 0 N := by
                      unfold rngD
                      exact List.mem_map.mpr ⟨x, List.mem_range.mpr hx, by rw [Int.zero_add]⟩
                    have := fun e => z ⟨_, w, e⟩
                    unfold onI at this
                    simpa using this
                  refine walk_bools0 0 (bs := []) N (fun x => ∀ y, y < N → gM rows x y = gM rows y x) (by simp) (fun x hx b1 R1 hb1 hR1 => ?_) fun bs _ hbs => ?_
                  · have hxN : x * N ≤ 64 * 64 := Nat.mul_le_mul (by omega) h6
                    simp (decide := true) (dsimp := false) []
                    refine walk_bools0 4096 1 (fun y => gM rows x y = gM rows y x) (by omega) (fun y hy bs R hb q1 => ?_) fun bs' h1 h2 => hR1 bs' (by omega) h2
                    simp (decide := true) (dsimp := false) [tupN_eq, t.at1 hx, t.at1 hy, t.at2 hx hy, t.at2 hy hx, t.at3 hx, t.at3 hy, t.at1 (t.ltT hx), t.at1 (t.ltM hx hy), t.at3 (t.ltM hx hy), t.at2 (t.ltT hx) (t.ltT (t.ltM hx hy)), t.at2 hx (t.ltT hx), t.at1 (t.ltM hx (t.ltT hx)), t.at2 (t.ltM hx (t.ltT hx)) hy]
                    refine ⟨by rw [sizeLine_eq]; omega, ?_⟩
                    have q2 := q1 (bs ++ [decide (gM rows x y = gM rows y x)]) (by simp) (by simp)
                    rw [List.map_append, List.map_cons, List.map_nil] at q2
                    have z1 : ∀ a b : Nat, decide ((a : Int) = (b : Int)) = decide (a = b) := fun a b => by
                      rw [decide_eq_decide]
                      omega
                    rw [z1]
                    exact q2
                  · simp (decide := true) (dsimp := false) [all_bools]
                    have A1 : (¬ false ∈ bs) ↔ _ := (all_mem bs).symm.trans (hbs.trans ⟨fun h => h.2, fun h => ⟨rfl, h⟩⟩)
                    split
                    · rename_i z
                      exact no2 fun ax => A1.mpr ax.comm z
                    · rename_i z
                      have A1 := A1.mp z
                      refine walk_bools0 0 (bs := []) N (fun x => ∀ y, y < N → gM rows (gT ts x) (gT ts (gM rows x y)) = gT ts x) (by simp) (fun x hx b1 R1 hb1 hR1 => ?_) fun bs _ hbs => ?_
                      · have hxN : x * N ≤ 64 * 64 := Nat.mul_le_mul (by omega) h6
                        simp (decide := true) (dsimp := false) []
                        refine walk_bools0 4096 1 (fun y => gM rows (gT ts x) (gT ts (gM rows x y)) = gT ts x) (by omega) (fun y hy bs R hb q1 => ?_) fun bs' h1 h2 => hR1 bs' (by omega) h2
                        simp (decide := true) (dsimp := false) [tupN_eq, t.at1 hx, t.at1 hy, t.at2 hx hy, t.at2 hy hx, t.at3 hx, t.at3 hy, t.at1 (t.ltT hx), t.at1 (t.ltM hx hy), t.at3 (t.ltM hx hy), t.at2 (t.ltT hx) (t.ltT (t.ltM hx hy)), t.at2 hx (t.ltT hx), t.at1 (t.ltM hx (t.ltT hx)), t.at2 (t.ltM hx (t.ltT hx)) hy]
                        refine ⟨by rw [sizeLine_eq]; omega, ?_⟩
                        have q2 := q1 (bs ++ [decide (gM rows (gT ts x) (gT ts (gM rows x y)) = gT ts x)]) (by simp) (by simp)
                        rw [List.map_append, List.map_cons, List.map_nil] at q2
                        have z1 : ∀ a b : Nat, decide ((a : Int) = (b : Int)) = decide (a = b) := fun a b => by
                          rw [decide_eq_decide]
                          omega
                        rw [z1]
                        exact q2
                      · simp (decide := true) (dsimp := false) [all_bools]
                        have A2 : (¬ false ∈ bs) ↔ _ := (all_mem bs).symm.trans (hbs.trans ⟨fun h => h.2, fun h => ⟨rfl, h⟩⟩)
                        split
                        · rename_i z
                          exact no2 fun ax => A2.mpr ax.anti z
                        · rename_i z
                          have A2 := A2.mp z
                          refine walk_bools0 0 (bs := []) (N * N) (fun x => ∀ y, y < N → ∀ z, z < N → gM rows (gM rows x y) z = gM rows x (gM rows y z)) (by simp) (fun x hx b1 R1 hb1 hR1 => ?_) fun bs _ hbs => ?_
                          · have hxN : x * (N * N) ≤ 64 * (64 * 64) := Nat.mul_le_mul (by omega) (Nat.mul_le_mul h6 h6)
                            simp (decide := true) (dsimp := false) []
                            refine walk_bools0 262144 N (fun y => ∀ z, z < N → gM rows (gM rows x y) z = gM rows x (gM rows y z)) (by omega) (fun y hy b2 R2 hb2 hR2 => ?_) fun bs' h1 h2 => hR1 bs' (by omega) h2
                            have hyN : y * N ≤ 64 * 64 := Nat.mul_le_mul (by omega) h6
                            simp (decide := true) (dsimp := false) []
                            refine walk_bools0 270000 1 (fun z => gM rows (gM rows x y) z = gM rows x (gM rows y z)) (by omega) (fun z hz bs R hb q1 => ?_) fun bs' h1 h2 => hR2 bs' (by omega) h2
                            simp (decide := true) (dsimp := false) [tupN_eq, t.at1 hx, t.at1 hy, t.at2 hx hy, t.at2 hy hx, t.at3 hx, t.at3 hy, t.at1 (t.ltT hx), t.at1 (t.ltM hx hy), t.at3 (t.ltM hx hy), t.at2 (t.ltT hx) (t.ltT (t.ltM hx hy)), t.at2 hx (t.ltT hx), t.at1 (t.ltM hx (t.ltT hx)), t.at2 (t.ltM hx (t.ltT hx)) hy, t.at1 hz, t.at2 hy hz, t.at2 (t.ltM hx hy) hz, t.at2 hx (t.ltM hy hz)]
                            refine ⟨by rw [sizeLine_eq]; omega, ?_⟩
                            have q2 := q1 (bs ++ [decide (gM rows (gM rows x y) z = gM rows x (gM rows y z))]) (by simp) (by simp)
                            rw [List.map_append, List.map_cons, List.map_nil] at q2
                            have z1 : ∀ a b : Nat, decide ((a : Int) = (b : Int)) = decide (a = b) := fun a b => by
                              rw [decide_eq_decide]
                              omega
                            rw [z1]
                            exact q2
                          · simp (decide := true) (dsimp := false) [all_bools]
                            have A3 : (¬ false ∈ bs) ↔ _ := (all_mem bs).symm.trans (hbs.trans ⟨fun h => h.2, fun h => ⟨rfl, h⟩⟩)
                            split
                            · rename_i z
                              exact no2 fun ax => A3.mpr ax.assoc z
                            · rename_i z
                              have A3 := A3.mp z
                              refine walk_bools0 0 (bs := []) N (fun x => ∀ y, y < N → gM rows (gM rows x (gT ts x)) y = gM rows x (gT ts x)) (by simp) (fun x hx b1 R1 hb1 hR1 => ?_) fun bs _ hbs => ?_
                              · have hxN : x * N ≤ 64 * 64 := Nat.mul_le_mul (by omega) h6
                                simp (decide := true) (dsimp := false) []
                                refine walk_bools0 4096 1 (fun y => gM rows (gM rows x (gT ts x)) y = gM rows x (gT ts x)) (by omega) (fun y hy bs R hb q1 => ?_) fun bs' h1 h2 => hR1 bs' (by omega) h2
                                simp (decide := true) (dsimp := false) [tupN_eq, t.at1 hx, t.at1 hy, t.at2 hx hy, t.at2 hy hx, t.at3 hx, t.at3 hy, t.at1 (t.ltT hx), t.at1 (t.ltM hx hy), t.at3 (t.ltM hx hy), t.at2 (t.ltT hx) (t.ltT (t.ltM hx hy)), t.at2 hx (t.ltT hx), t.at1 (t.ltM hx (t.ltT hx)), t.at2 (t.ltM hx (t.ltT hx)) hy]
                                refine ⟨by rw [sizeLine_eq]; omega, ?_⟩
                                have q2 := q1 (bs ++ [decide (gM rows (gM rows x (gT ts x)) y = gM rows x (gT ts x))]) (by simp) (by simp)
                                rw [List.map_append, List.map_cons, List.map_nil] at q2
                                have z1 : ∀ a b : Nat, decide ((a : Int) = (b : Int)) = decide (a = b) := fun a b => by
                                  rw [decide_eq_decide]
                                  omega
                                rw [z1]
                                exact q2
                              · simp (decide := true) (dsimp := false) [all_bools]
                                have A4 : (¬ false ∈ bs) ↔ _ := (all_mem bs).symm.trans (hbs.trans ⟨fun h => h.2, fun h => ⟨rfl, h⟩⟩)
                                refine q _ ?_
                                rw [all_mem, A4]
                                exact ⟨fun h => ⟨N, rows, ts, rfl, h2, h6, t, ⟨A0, A1, A2, A3, h⟩⟩, fun h => (lat_ax h).zero⟩
        · by_cases r1 : 2 ≤ i
          · have r2 : 64 < i := by omega
            simp (decide := true) (dsimp := false) [r1, r2]
            refine no fun ⟨N, rows, ts, e, l1, l2, _⟩ => ?_
            unfold tabD at e
            injection e with e
            injection e with e1 e
            injection e1 with e1
            omega
          · simp (decide := true) (dsimp := false) [r1]
            refine no fun ⟨N, rows, ts, e, l1, l2, _⟩ => ?_
            unfold tabD at e
            injection e with e
            injection e with e1 e
            injection e1 with e1
            omega
    · have e4 : ¬ ((es.length : Int) = 3) := by omega
      simp (decide := true) (dsimp := false) [c_is_lattice, e4]
      refine no (lat_no fun a b c e => ?_)
      injection e with e
      rw [e] at e3
      exact e3 rfl
  | dict kvs =>
    simp (decide := true) (dsimp := false) [c_is_lattice, hn]
    exact ⟨by simpa using hn, no (lat_no fun _ _ _ h => by cases h)⟩
  | _ =>
    simp (decide := true) (dsimp := false) [c_is_lattice]
    exact no (lat_no fun _ _ _ h => by cases h)
end LW

/-! OML: hexagons, commuting and the orthomodular law say the same of an ortholattice. -/
namespace DL
open PySem L2
structure OLat {α : Type} (m : α → α → α) (t : α → α) : Prop where
  idem : ∀ x, m x x = x
  inv : ∀ x, t (t x) = x
  comm : ∀ x y, m x y = m y x
  anti : ∀ x y, m (t x) (t (m x y)) = t x
  assoc : ∀ x y z, m (m x y) z = m x (m y z)
  zero : ∀ x y, m (m x (t x)) y = m x (t x)
section
variable {α : Type} {m : α → α → α} {t : α → α}
def jnO (m : α → α → α) (t : α → α) (x y : α) : α := t (m (t x) (t y))
def ComO (m : α → α → α) (t : α → α) (x y : α) : Prop := jnO m t (m x y) (m x (t y)) = x
theorem OLat.trans (L : OLat m t) {x y z : α} (h : m x y = x) (g : m y z = y) : m x z = x := by rw [← h, L.assoc, g]
theorem OLat.glb (L : OLat m t) {x y z : α} (h : m z x = z) (g : m z y = z) : m z (m x y) = z := by rw [← L.assoc, h, g]
theorem OLat.le1 (L : OLat m t) (x y : α) : m (m x y) x = m x y := by rw [L.comm, ← L.assoc, L.idem]
theorem OLat.le2 (L : OLat m t) (x y : α) : m (m x y) y = m x y := by rw [L.assoc, L.idem]
theorem OLat.tle (L : OLat m t) {x y : α} (h : m x y = x) : m (t y) (t x) = t y := by
  have := L.anti y x
  rwa [L.comm y x, h] at this
theorem OLat.jn_le (L : OLat m t) {x y z : α} (h : m x z = x) (g : m y z = y) : m (jnO m t x y) z = jnO m t x y := by
  have := L.tle (L.glb (L.tle h) (L.tle g))
  rwa [L.inv] at this
theorem OLat.jn_abs (L : OLat m t) {x w : α} (h : m w x = w) : jnO m t x w = x := by
  unfold jnO
  rw [L.tle h, L.inv]
theorem OLat.z_eq (L : OLat m t) (x y : α) : m x (t x) = m y (t y) := by
  rw [← L.zero x (m y (t y)), L.comm, L.zero y (m x (t x))]
theorem OLat.t_jn (L : OLat m t) (x y : α) : t (jnO m t x y) = m (t x) (t y) := L.inv _
/-- the orthomodular law -/
def OM (m : α → α → α) (t : α → α) : Prop := ∀ x y, m x y = x → jnO m t x (m y (t x)) = y
def HexO (m : α → α → α) (t : α → α) (x y : α) : Prop := x ≠ y ∧ m x y = x ∧ m y (t x) = m x (t x)
theorem OLat.om_hex (L : OLat m t) : OM m t ↔ ∀ x y, ¬ HexO m t x y := by
  constructor
  · rintro h x y ⟨h1, h2, h3⟩
    have e := h x y h2
    rw [h3, L.jn_abs (L.zero x x)] at e
    exact h1 e
  · intro h x y hxy
    have z1 : m (jnO m t x (m y (t x))) y = jnO m t x (m y (t x)) := L.jn_le hxy (L.le1 _ _)
    refine Classical.byContradiction fun ne => h _ _ ⟨ne, z1, ?_⟩
    rw [L.t_jn, ← L.assoc]
    exact (L.z_eq (m y (t x)) _).trans (by rw [L.t_jn])
theorem OLat.om_com (L : OLat m t) : OM m t ↔ ∀ x y, ComO m t x y ↔ ComO m t y x := by
  have go : OM m t → ∀ x y, ComO m t x y → ComO m t y x := by
    intro h x y c
    have tx : t x = m (t (m x y)) (t (m x (t y))) := by
      have := congrArg t c
      rw [L.t_jn] at this
      exact this.symm
    have yb : m y (t (m x (t y))) = y := by
      have := L.tle (L.le2 x (t y))
      rwa [L.inv] at this
    have e : m y (t x) = m y (t (m x y)) := by
      rw [tx, ← L.assoc]
      exact L.trans (L.le1 _ _) yb
    have o := h (m x y) y (L.le2 x y)
    unfold ComO
    rw [e, L.comm y x]
    exact o
  constructor
  · intro h x y
    exact ⟨go h x y, go h y x⟩
  · intro h x y hxy
    have c1 : ComO m t x y := by
      unfold ComO
      rw [hxy]
      exact L.jn_abs (L.le1 _ _)
    have c2 := (h x y).mp c1
    unfold ComO at c2
    rwa [L.comm y x, hxy] at c2
end
/-! ### of tables -/
section
variable {N : Nat} {M : Nat → Nat → Nat} {T : Nat → Nat}
def jnT (M : Nat → Nat → Nat) (T : Nat → Nat) (x y : Nat) : Nat := T (M (T x) (T y))
def comT (M : Nat → Nat → Nat) (T : Nat → Nat) (x y : Nat) : Bool := decide (jnT M T (M x y) (M x (T y)) = x)
def hexT (M : Nat → Nat → Nat) (T : Nat → Nat) (x y : Nat) : Bool := decide (x ≠ y) && (decide (M x y = x) && decide (M y (T x) = M 0 (T 0)))
structure ClOp (N : Nat) (M : Nat → Nat → Nat) (T : Nat → Nat) : Prop where
  m : ∀ x, x < N → ∀ y, y < N → M x y < N
  t : ∀ x, x < N → T x < N
theorem ClOp.olat (c : ClOp N M T) (a : Ax N M T) : OLat (α := {x : Nat // x < N}) (fun x y => ⟨M x.1 y.1, c.m _ x.2 _ y.2⟩) (fun x => ⟨T x.1, c.t _ x.2⟩) where
  idem := fun x => Subtype.ext (a.idem _ x.2).1
  inv := fun x => Subtype.ext (a.idem _ x.2).2
  comm := fun x y => Subtype.ext (a.comm _ x.2 _ y.2)
  anti := fun x y => Subtype.ext (a.anti _ x.2 _ y.2)
  assoc := fun x y z => Subtype.ext (a.assoc _ x.2 _ y.2 _ z.2)
  zero := fun x y => Subtype.ext (a.zero _ x.2 _ y.2)
theorem hex_all (c : ClOp N M T) (a : Ax N M T) (h0 : 0 < N) :
    ((∀ x, x < N → ∀ y, y < N → comT M T x y = comT M T y x) ↔ ∀ x, x < N → ∀ y, y < N → hexT M T x y = false) ∧
    ((∀ x, x < N → ∀ y, y < N → x ≠ y → M x y = x → jnT M T x (M y (T x)) = y) ↔ ∀ x, x < N → ∀ y, y < N → hexT M T x y = false) := by
  have L := c.olat a
  have e1 := L.om_hex
  have e2 := L.om_com
  have z := fun x : {x : Nat // x < N} => congrArg Subtype.val (L.z_eq x ⟨0, h0⟩)
  have hx : (∀ x, x < N → ∀ y, y < N → hexT M T x y = false) ↔ ∀ x y : {x : Nat // x < N}, ¬ HexO (fun x y => ⟨M x.1 y.1, c.m _ x.2 _ y.2⟩) (fun x => ⟨T x.1, c.t _ x.2⟩) x y := by
    constructor
    · rintro h x y ⟨h1, h2, h3⟩
      have q := h x.1 x.2 y.1 y.2
      unfold hexT at q
      have k1 : x.1 ≠ y.1 := fun e => h1 (Subtype.ext e)
      have k2 : M x.1 y.1 = x.1 := congrArg Subtype.val h2
      have k3 : M y.1 (T x.1) = M 0 (T 0) := (congrArg Subtype.val h3).trans (z x)
      rw [decide_eq_true k1, decide_eq_true k2, decide_eq_true k3] at q
      cases q
    · intro h x hx y hy
      cases q : hexT M T x y with
      | false => rfl
      | true =>
        unfold hexT at q
        rw [Bool.and_eq_true, Bool.and_eq_true, decide_eq_true_eq, decide_eq_true_eq, decide_eq_true_eq] at q
        exact absurd ⟨fun e => q.1 (congrArg Subtype.val e), Subtype.ext q.2.1, Subtype.ext (q.2.2.trans (z ⟨x, hx⟩).symm)⟩ (h ⟨x, hx⟩ ⟨y, hy⟩)
  refine ⟨?_, ?_⟩
  · rw [hx, ← e1, e2]
    constructor
    · intro h x y
      have q := h x.1 x.2 y.1 y.2
      unfold comT at q
      rw [decide_eq_decide] at q
      exact ⟨fun w => Subtype.ext (q.mp (congrArg Subtype.val w)), fun w => Subtype.ext (q.mpr (congrArg Subtype.val w))⟩
    · intro h x hx y hy
      unfold comT
      rw [decide_eq_decide]
      have q := h ⟨x, hx⟩ ⟨y, hy⟩
      exact ⟨fun w => congrArg Subtype.val (q.mp (Subtype.ext w)), fun w => congrArg Subtype.val (q.mpr (Subtype.ext w))⟩
  · rw [hx, ← e1]
    constructor
    · intro h x y hxy
      by_cases e : x = y
      · subst e
        exact L.jn_abs (L.zero _ _) |>.trans rfl
      · exact Subtype.ext (h x.1 x.2 y.1 y.2 (fun w => e (Subtype.ext w)) (congrArg Subtype.val hxy))
    · intro h x hx y hy _ hxy
      exact congrArg Subtype.val (h ⟨x, hx⟩ ⟨y, hy⟩ (Subtype.ext hxy))
end
end DL

/-! OMP: papers that a lattice has a hexagon or none: data, promises. -/
namespace DL
open PySem L2
def ModP (N : Nat) (M : Nat → Nat → Nat) (T : Nat → Nat) (d : D) : Prop :=
  (d = .tuple [.str "modular"] ∧ ∀ x, x < N → ∀ y, y < N → hexT M T x y = false) ∨ ∃ x y : Nat, x < N ∧ y < N ∧ hexT M T x y = true ∧ d = .tuple [.str "hexagon", .int (x : Int), .int (y : Int)]
def spCom : SpD := fun ds Q => ∃ (N : Nat) (rows : List (List Nat)) (ts : List Nat) (x y : Nat), ds = [tabD N rows ts, .int (x : Int), .int (y : Int)] ∧ LTab N rows ts ∧ x < N ∧ y < N ∧ Q (.v (.bool (comT (gM rows) (gT ts) x y)))
def spMod : SpD := fun ds Q => ∃ (N : Nat) (rows : List (List Nat)) (ts : List Nat), ds = [tabD N rows ts] ∧ LTab N rows ts ∧ 2 ≤ N ∧ N ≤ 64 ∧ ∀ d, ModP N (gM rows) (gT ts) d → Q (.v d)
def spIsHex : SpD := fun ds Q => ∃ (N : Nat) (rows : List (List Nat)) (ts : List Nat) (d0 d1 d2 : D), ds = [tabD N rows ts, .tuple [d0, d1, d2]] ∧ LTab N rows ts ∧ 2 ≤ N ∧ tdD d1 = true ∧ tdD d2 = true ∧
  ∀ b : Bool, (b = true ↔ ∃ x y : Nat, x < N ∧ y < N ∧ hexT (gM rows) (gT ts) x y = true ∧ d1 = .int (x : Int) ∧ d2 = .int (y : Int)) → Q (.v (.bool b))
def spIsMod : SpD := fun ds Q => ∃ (N : Nat) (rows : List (List Nat)) (ts : List Nat) (v : D), ds = [tabD N rows ts, v] ∧ LTab N rows ts ∧ 2 ≤ N ∧ N ≤ 64 ∧ tdD v = true ∧ ∀ b : Bool, (b = true ↔ ModP N (gM rows) (gT ts) v) → Q (.v (.bool b))
/-- begins with a word, so long -/
def wordB (w : Str) (n : Nat) : D → Bool
  | .tuple (.str s :: ds) => decide (ds.length + 1 = n) && decide (s = w)
  | _ => false
def spWordB : SpD := fun ds Q => ∃ (d : D) (w : Str) (n : Nat), ds = [d, .str w, .int (n : Int)] ∧ 1 ≤ n ∧ tdD d = true ∧ Q (.v (.bool (wordB w n d)))
/-- so many ints -/
def intsB (n : Nat) : D → Bool
  | .tuple ds => decide (ds.length = n) && ds.all isI
  | _ => false
def spIntsB : SpD := fun ds Q => ∃ (d : D) (n : Nat), ds = [d, .int (n : Int)] ∧ tdD d = true ∧ Q (.v (.bool (intsB n d)))

/-! ### hexagons found -/
def rowH (N : Nat) (M : Nat → Nat → Nat) (T : Nat → Nat) (x j : Nat) : List (List Nat) := ((List.range j).filter (hexT M T x)).map fun y => [x, y]
def foundN (N : Nat) (M : Nat → Nat → Nat) (T : Nat → Nat) : Nat → List (List Nat)
  | 0 => []
  | k + 1 => foundN N M T k ++ rowH N M T k N
section
variable {N : Nat} {M : Nat → Nat → Nat} {T : Nat → Nat}
theorem rowH_succ (x j : Nat) : rowH N M T x (j + 1) = rowH N M T x j ++ (if hexT M T x j = true then [[x, j]] else []) := by
  unfold rowH
  rw [List.range_succ, List.filter_append, List.map_append]
  congr 1
  by_cases h : hexT M T x j = true
  · rw [List.filter_cons, if_pos h, if_pos h]; rfl
  · rw [List.filter_cons, if_neg h, if_neg h]; rfl
theorem rowH_mem {x j : Nat} {t : List Nat} : t ∈ rowH N M T x j ↔ ∃ y, y < j ∧ hexT M T x y = true ∧ t = [x, y] := by
  unfold rowH
  rw [List.mem_map]
  constructor
  · rintro ⟨y, hy, rfl⟩
    obtain ⟨h1, h2⟩ := List.mem_filter.mp hy
    exact ⟨y, List.mem_range.mp h1, h2, rfl⟩
  · rintro ⟨y, h1, h2, rfl⟩
    exact ⟨y, List.mem_filter.mpr ⟨List.mem_range.mpr h1, h2⟩, rfl⟩
theorem rowH_len (x j : Nat) : (rowH N M T x j).length ≤ j := by
  unfold rowH
  rw [List.length_map]
  exact Nat.le_trans (List.length_filter_le _ _) (by rw [List.length_range]; exact Nat.le_refl _)
theorem foundN_mem : ∀ {k : Nat} {t : List Nat}, t ∈ foundN N M T k ↔ ∃ x y, x < k ∧ y < N ∧ hexT M T x y = true ∧ t = [x, y]
  | 0, t => by
    unfold foundN
    exact ⟨fun h => (nomatch h), fun ⟨x, y, h, _⟩ => absurd h (Nat.not_lt_zero _)⟩
  | k + 1, t => by
    unfold foundN
    rw [List.mem_append, foundN_mem, rowH_mem]
    constructor
    · rintro (⟨x, y, h1, h2⟩ | ⟨y, h1, h2, h3⟩)
      · exact ⟨x, y, by omega, h2⟩
      · exact ⟨k, y, by omega, h1, h2, h3⟩
    · rintro ⟨x, y, h1, h2, h3, h4⟩
      by_cases z : x = k
      · subst z
        exact .inr ⟨y, h2, h3, h4⟩
      · exact .inl ⟨x, y, by omega, h2, h3, h4⟩
theorem foundN_len : ∀ k : Nat, (foundN N M T k).length ≤ k * N
  | 0 => Nat.zero_le _
  | k + 1 => by
    unfold foundN
    rw [List.length_append, Nat.succ_mul]
    have h1 := foundN_len k
    have h2 := rowH_len (N := N) (M := M) (T := T) k N
    omega
theorem foundN_nil : foundN N M T N = [] ↔ ∀ x, x < N → ∀ y, y < N → hexT M T x y = false := by
  rw [List.eq_nil_iff_forall_not_mem]
  constructor
  · intro h x hx y hy
    cases e : hexT M T x y with
    | false => rfl
    | true => exact absurd (foundN_mem.mpr ⟨x, y, hx, hy, e, rfl⟩) (h _)
  · rintro h t ht
    obtain ⟨x, y, hx, hy, e, _⟩ := foundN_mem.mp ht
    rw [h x hx y hy] at e
    cases e
theorem setsD_app (a b : List (List Nat)) : setsD a ++ setsD b = setsD (a ++ b) := by
  unfold setsD
  rw [List.map_append]
end
theorem word3_pap {w : Str} {i j : Int} (hw : nmB w = true) (hi : i.natAbs ≤ 700) (hj : j.natAbs ≤ 700) : Paper (.tuple [.str w, .int i, .int j]) := by
  obtain ⟨s1, s2, s3⟩ := str_pap hw
  obtain ⟨i1, i2, i3⟩ := int_pap hi
  obtain ⟨j1, j2, j3⟩ := int_pap hj
  refine ⟨pap_tup.mpr ⟨by show 3 ≤ 40000; omega, fun d hd => ?_⟩, ?_, ?_⟩
  · simp only [List.mem_cons, List.not_mem_nil, or_false] at hd
    rcases hd with rfl | rfl | rfl
    · exact s1
    · exact i1
    · exact j1
  · rw [PyData.depth, PyData.depthAll, PyData.depthAll, PyData.depthAll, PyData.depthAll, s2, i2, j2]
    omega
  · rw [PyData.weight, PyData.weightAll, PyData.weightAll, PyData.weightAll, PyData.weightAll]
    omega
theorem word1_pap {w : Str} (hw : nmB w = true) : Paper (.tuple [.str w]) := by
  obtain ⟨s1, s2, s3⟩ := str_pap hw
  refine ⟨pap_tup.mpr ⟨by show 1 ≤ 40000; omega, fun d hd => ?_⟩, ?_, ?_⟩
  · rw [List.mem_singleton.mp hd]
    exact s1
  · rw [PyData.depth, PyData.depthAll, PyData.depthAll, s2]
    omega
  · rw [PyData.weight, PyData.weightAll, PyData.weightAll]
    omega
theorem ModP.paper {N : Nat} {M : Nat → Nat → Nat} {T : Nat → Nat} {d : D} (h : ModP N M T d) (hN : N ≤ 64) : ∃ es, d = .tuple es ∧ es ≠ [] ∧ Paper d := by
  rcases h with ⟨rfl, _⟩ | ⟨x, y, hx, hy, _, rfl⟩
  · exact ⟨_, rfl, by simp, word1_pap (by decide +kernel)⟩
  · exact ⟨_, rfl, by simp, word3_pap (by decide +kernel) (by omega) (by omega)⟩
/-- comparison with ("modular",) -/
theorem eqv_word {d : D} {w : Str} : PyData.eqv d (.tuple [.str w]) = true ↔ d = .tuple [.str w] := by
  constructor
  · intro h
    cases d with
    | tuple ds =>
      rw [PyData.eqv] at h
      match ds, h with
      | [], h => cases h
      | [a], h =>
        rw [PyData.eqvAll, Bool.and_eq_true] at h
        cases a with
        | str s =>
          have e : s = w := by simpa [PyData.eqv] using h.1
          rw [e]
        | _ => cases h.1
      | a :: b :: r, h =>
        rw [PyData.eqvAll, Bool.and_eq_true] at h
        cases h.2
    | _ => cases h
  · rintro rfl
    rw [PyData.eqv, PyData.eqvAll, PyData.eqvAll]
    simp [PyData.eqv]
theorem eqv_pair {x y : Nat} {i j : Int} : PyData.eqv (tupN [x, y]) (.tuple [.int i, .int j]) = (decide ((x : Int) = i) && decide ((y : Int) = j)) := by
  unfold tupN natD
  rw [List.map_cons, List.map_cons, List.map_nil, PyData.eqv, PyData.eqvAll, PyData.eqvAll, PyData.eqvAll, Bool.and_true, PyData.eqv, PyData.eqv]
  rw [Bool.eq_iff_iff]
  simp
end DL
namespace DL
open PySem L2
theorem dEq_word {v : D} {w : Str} {Q : Bool → Prop} (hv : SeqAt.shaped v = true ∨ v = .dict []) (hw : SeqAt.shaped (.tuple [.str w]) = true) (h : ∀ c : Bool, (c = true ↔ v = .tuple [.str w]) → Q c) : dEq v (.tuple [.str w]) Q := by
  rcases hv with hv | rfl
  · have q := h (PyData.eqv v (.tuple [.str w])) eqv_word
    cases v with
    | dict kvs => cases hv
    | none => exact ⟨hv, hw, q⟩
    | bool b => exact ⟨hv, hw, q⟩
    | int i => exact ⟨hv, hw, q⟩
    | str s => exact ⟨hv, hw, q⟩
    | list ds => exact ⟨hv, hw, q⟩
    | tuple ds => exact ⟨hv, hw, q⟩
  · exact ⟨hw, h false ⟨fun z => (nomatch z), fun z => (nomatch z)⟩⟩
theorem RprOk.shp {v : D} (h : RprOk v) : SeqAt.shaped v = true ∨ v = .dict [] := by
  rcases h with ⟨a, _, _, b⟩ | h
  · left
    unfold SeqAt.shaped
    rw [a, decide_eq_true b]
    rfl
  · exact .inr h
theorem wordB_3 {w : Str} {v : D} (h : wordB w 3 v = true) : ∃ a b, v = .tuple [.str w, a, b] := by
  cases v with
  | tuple ds =>
    cases ds with
    | nil => cases h
    | cons d ds =>
      cases d with
      | str s =>
        have h' : (decide (ds.length + 1 = 3) && decide (s = w)) = true := h
        rw [Bool.and_eq_true, decide_eq_true_eq, decide_eq_true_eq] at h'
        obtain ⟨h1, rfl⟩ := h'
        match ds, h1 with
        | [a, b], _ => exact ⟨a, b, rfl⟩
      | _ => cases h
  | _ => cases h
theorem td_two {a b : D} (ha : tdD a = true) (hb : tdD b = true) : tdD (.tuple [a, b]) = true := by
  simp [tdD, tdDs, ha, hb]
theorem shaped_two (i j : Int) : SeqAt.shaped (.tuple [.int i, .int j]) = true := rfl
end DL
namespace DL
open PySem L2
theorem modP_word {N : Nat} {M : Nat → Nat → Nat} {T : Nat → Nat} {v : D} (nm : ¬ (v = .tuple [.str "modular"] ∧ ∀ x, x < N → ∀ y, y < N → hexT M T x y = false)) (h : ModP N M T v) : ∃ x y : Nat, x < N ∧ y < N ∧ hexT M T x y = true ∧ v = .tuple [.str "hexagon", .int (x : Int), .int (y : Int)] := by
  rcases h with h | h
  · exact absurd h nm
  · exact h
theorem any_pair {L : List (List Nat)} {i j : Int} {P : Nat → Nat → Prop} (h : ∀ {t : List Nat}, t ∈ L ↔ ∃ x y, P x y ∧ t = [x, y]) : ((setsD L).any fun z => PyData.eqv z (.tuple [.int i, .int j])) = true ↔ ∃ x y : Nat, P x y ∧ i = (x : Int) ∧ j = (y : Int) := by
  rw [List.any_eq_true]
  constructor
  · rintro ⟨z, hz, e⟩
    unfold setsD at hz
    obtain ⟨t, ht, rfl⟩ := List.mem_map.mp hz
    obtain ⟨x, y, p, rfl⟩ := h.mp ht
    rw [eqv_pair, Bool.and_eq_true, decide_eq_true_eq, decide_eq_true_eq] at e
    exact ⟨x, y, p, e.1.symm, e.2.symm⟩
  · rintro ⟨x, y, p, rfl, rfl⟩
    refine ⟨tupN [x, y], List.mem_map_of_mem (h.mpr ⟨x, y, p, rfl⟩), ?_⟩
    rw [eqv_pair]
    simp
end DL

namespace LW
open PySem L2 DL
theorem at30 (a b c : D) : atI [a, b, c] 0 = some a := rfl
theorem at31 (a b c : D) : atI [a, b, c] 1 = some b := rfl
theorem at32 (a b c : D) : atI [a, b, c] 2 = some c := rfl
theorem w_join_in (ds : List D) (Q : R → Prop) (h : spJoin ds Q) : ds.length = 3 ∧ wpF G0 4 c_join_in ds Q := by
  obtain ⟨N, rows, ts, x, y, rfl, t, hx, hy, q⟩ := h
  refine ⟨rfl, ?_⟩
  simp (decide := true) (dsimp := false) [c_join_in, tabD, tupN_eq, at30, at31, at32, t.at3 hx, t.at3 hy, t.at1 (t.ltT hx), t.at2 (t.ltT hx) (t.ltT hy), t.at3 (t.ltM (t.ltT hx) (t.ltT hy))]
  exact q
theorem w_law_join (ds : List D) (Q : R → Prop) (h : spJoin ds Q) : ds.length = 3 ∧ wpF G0 4 c_law_join ds Q := w_join_in ds Q h
theorem w_zero_of (ds : List D) (Q : R → Prop) (h : spZero ds Q) : ds.length = 1 ∧ wpF G0 1 c_zero_of ds Q := by
  obtain ⟨N, rows, ts, rfl, t, hx, q⟩ := h
  refine ⟨rfl, ?_⟩
  have a1 : atI (rows.map tupN) 0 = _ := t.at1 hx
  have a2 : atI (natD ts) 0 = _ := t.at3 hx
  have a3 := t.at2 hx (t.ltT hx)
  simp (decide := true) (dsimp := false) [c_zero_of, tabD, tupN_eq, at30, at31, at32, a1, a2, a3]
  exact q
theorem dec_cast (a b : Nat) : decide ((a : Int) = (b : Int)) = decide (a = b) := by
  rw [decide_eq_decide]
  omega
def Gcm : Gm := ⟨fun | 4 => some spJoin | 5 => some spZero | 0 => some spIsI | 7 => some spMod | 8 => some spIsHex | _ => none, fun _ => none⟩
@[simp] theorem Gcm_4 : Gcm.Φ 4 = some spJoin := rfl
@[simp] theorem Gcm_5 : Gcm.Φ 5 = some spZero := rfl
@[simp] theorem Gcm_0 : Gcm.Φ 0 = some spIsI := rfl
@[simp] theorem Gcm_7 : Gcm.Φ 7 = some spMod := rfl
@[simp] theorem Gcm_8 : Gcm.Φ 8 = some spIsHex := rfl
theorem w_commutes (ds : List D) (Q : R → Prop) (h : spCom ds Q) : ds.length = 3 ∧ wpF Gcm 5 c_commutes ds Q := by
  obtain ⟨N, rows, ts, x, y, rfl, t, hx, hy, q⟩ := h
  refine ⟨rfl, ?_⟩
  simp (decide := true) (dsimp := false) [c_commutes, tabD, tupN_eq, at30, at31, at32, t.at1 hx, t.at2 hx hy, t.at3 hy, t.at2 hx (t.ltT hy)]
  refine ⟨N, rows, ts, _, _, rfl, t, t.ltM hx hy, t.ltM hx (t.ltT hy), ?_⟩
  simp (decide := true) (dsimp := false) []
  rw [dec_cast]
  exact q
theorem w_modular_paper (ds : List D) (Q : R → Prop) (h : spMod ds Q) : ds.length = 1 ∧ wpF Gcm 6 c_modular_paper ds Q := by
  obtain ⟨N, rows, ts, rfl, t, h2, h64, q⟩ := h
  refine ⟨rfl, ?_⟩
  have n0 : ∀ a b : Nat, ¬ a = b → ¬ ((a : Int) = (b : Int)) := fun a b h => by omega
  simp (decide := true) (dsimp := false) [c_modular_paper, tabD, tupN_eq, at30, at31, at32]
  refine ⟨N, rows, ts, rfl, t, by omega, ?_⟩
  simp (decide := true) (dsimp := false) [at30, at31, at32]
  refine ⟨by omega, ?_⟩
  refine foldF_inv (fun k env => ∃ x4 x5, (∀ x, x < k → ∀ y, y < N → hexT (gM rows) (gT ts) x y = false) ∧ env = [.val (.tuple [.int (N : Int), .tuple (rows.map tupN), tupN ts]), .val (.tuple (rows.map tupN)), .val (tupN ts), .val (.int (gM rows 0 (gT ts 0) : Nat)), x4, x5]) 0 ⟨_, _, fun x hx => absurd hx (Nat.not_lt_zero _), rfl⟩ (fun k d env hk hi => ?_) fun env hi => ?_
  · obtain ⟨x4, x5, t1, rfl⟩ := hi
    intro F hF
    have kl := (List.getElem?_eq_some_iff.mp hk).1
    rw [rngD_length] at kl
    have ek : d = .int (k : Int) := by
      have := rngD_get (lo := 0) kl
      rw [this] at hk
      rw [← Option.some.inj hk, Int.zero_add]
    subst ek
    rw [Nat.zero_add] at t1 hF
    simp (decide := true) (dsimp := false) [at30, at31, at32]
    refine ⟨by omega, ?_⟩
    refine foldF_inv (fun j env => ∃ x5, (∀ y, y < j → hexT (gM rows) (gT ts) k y = false) ∧ env = [.val (.tuple [.int (N : Int), .tuple (rows.map tupN), tupN ts]), .val (.tuple (rows.map tupN)), .val (tupN ts), .val (.int (gM rows 0 (gT ts 0) : Nat)), .val (.int (k : Int)), x5]) 0 ⟨_, fun x hx => absurd hx (Nat.not_lt_zero _), rfl⟩ (fun j d env hk hi => ?_) fun env hi => ?_
    · obtain ⟨x5, t2, rfl⟩ := hi
      intro F2 hF2
      have jl := (List.getElem?_eq_some_iff.mp hk).1
      rw [rngD_length] at jl
      have ek : d = .int (j : Int) := by
        have := rngD_get (lo := 0) jl
        rw [this] at hk
        rw [← Option.some.inj hk, Int.zero_add]
      subst ek
      rw [Nat.zero_add] at t2 hF2
      have fin : hexT (gM rows) (gT ts) k j = false → F2 [.val (.tuple [.int (N : Int), .tuple (rows.map tupN), tupN ts]), .val (.tuple (rows.map tupN)), .val (tupN ts), .val (.int (gM rows 0 (gT ts 0) : Nat)), .val (.int (k : Int)), .val (.int (j : Int))] := fun e => by
        refine hF2 _ ⟨_, fun y hy => ?_, rfl⟩
        by_cases z : y = j
        · rw [z]; exact e
        · exact t2 y (by omega)
      simp (decide := true) (dsimp := false) [tupN_eq, t.at1 kl, t.at1 jl, t.at2 kl jl, t.at3 kl, t.at2 jl (t.ltT kl)]
      by_cases c1 : k = j
      · rw [if_pos (by omega)]
        exact fin (by unfold hexT; rw [decide_eq_false (by omega)]; rfl)
      · rw [if_neg (n0 _ _ c1)]
        by_cases c2 : gM rows k j = k
        · rw [if_pos (by omega)]
          by_cases c3 : gM rows j (gT ts k) = gM rows 0 (gT ts 0)
          · rw [if_pos (by omega)]
            refine q _ (.inr ⟨k, j, kl, jl, ?_, rfl⟩)
            unfold hexT
            rw [decide_eq_true c1, decide_eq_true c2, decide_eq_true c3]
            rfl
          · rw [if_neg (n0 _ _ c3)]
            exact fin (by unfold hexT; rw [decide_eq_false c3, Bool.and_false, Bool.and_false])
        · rw [if_neg (n0 _ _ c2)]
          exact fin (by unfold hexT; rw [decide_eq_false c2, Bool.false_and, Bool.and_false])
    · obtain ⟨x5, t2, rfl⟩ := hi
      rw [rngD_length, Nat.zero_add] at t2
      refine hF _ ⟨_, _, fun x hx => ?_, rfl⟩
      by_cases z : x = k
      · rw [z]; exact t2
      · exact t1 x (by omega)
  · obtain ⟨x4, x5, t1, rfl⟩ := hi
    rw [rngD_length, Nat.zero_add] at t1
    simp (decide := true) (dsimp := false) []
    exact q _ (.inl ⟨rfl, t1⟩)
end LW

namespace LW
open PySem L2 DL
theorem w_is_hexagon (ds : List D) (Q : R → Prop) (h : spIsHex ds Q) : ds.length = 2 ∧ wpF Gcm 4 c_is_hexagon ds Q := by
  obtain ⟨N, rows, ts, d0, d1, d2, rfl, t, h2, t1, t2, q⟩ := h
  refine ⟨rfl, ?_⟩
  have n0 : ∀ a b : Nat, ¬ a = b → ¬ ((a : Int) = (b : Int)) := fun a b h => by omega
  have no : (¬ ∃ x y : Nat, x < N ∧ y < N ∧ hexT (gM rows) (gT ts) x y = true ∧ d1 = .int (x : Int) ∧ d2 = .int (y : Int)) → Q (.v (.bool false)) := fun h => q false ⟨fun z => (nomatch z), fun z => absurd z h⟩
  simp (decide := true) (dsimp := false) [c_is_hexagon, at30, at31, at32]
  refine ⟨d1, rfl, t1, ?_⟩
  cases i1 : isI d1 with
  | false =>
    simp (decide := true) (dsimp := false) []
    refine no fun ⟨x, y, _, _, _, e, _⟩ => ?_
    rw [e] at i1
    cases i1
  | true =>
    simp (decide := true) (dsimp := false) []
    refine ⟨d2, rfl, t2, ?_⟩
    cases i2 : isI d2 with
    | false =>
      simp (decide := true) (dsimp := false) []
      refine no fun ⟨x, y, _, _, _, _, e⟩ => ?_
      rw [e] at i2
      cases i2
    | true =>
      obtain ⟨i, rfl⟩ := isI_int i1
      obtain ⟨j, rfl⟩ := isI_int i2
      simp (decide := true) (dsimp := false) [tabD, at30, at31, at32]
      by_cases c : (0 ≤ i ∧ i < (N : Int)) ∧ 0 ≤ j ∧ j < (N : Int)
      · obtain ⟨x, rfl⟩ : ∃ x : Nat, i = (x : Int) := ⟨i.toNat, by omega⟩
        obtain ⟨y, rfl⟩ : ∃ x : Nat, j = (x : Int) := ⟨j.toNat, by omega⟩
        have hx : x < N := by omega
        have hy : y < N := by omega
        have hx' : ¬ N ≤ x := by omega
        have hy' : ¬ N ≤ y := by omega
        simp (decide := true) (dsimp := false) [at30, at31, at32, tupN_eq, hx, hy, hx', hy', t.at1 hx, t.at1 hy, t.at2 hx hy, t.at3 hx, t.at2 hy (t.ltT hx)]
        have fin : ∀ b : Bool, hexT (gM rows) (gT ts) x y = b → Q (.v (.bool b)) := fun b e => q b ⟨fun h => ⟨x, y, hx, hy, by rw [e, h], rfl, rfl⟩, fun ⟨x', y', _, _, e3, e1, e2⟩ => by
          injection e1 with e1
          injection e2 with e2
          have e1 := Int.ofNat.inj e1
          have e2 := Int.ofNat.inj e2
          subst e1 e2
          rw [← e, e3]⟩
        by_cases c1 : x = y
        · rw [if_pos (by omega)]
          exact fin _ (by unfold hexT; rw [decide_eq_false (by omega)]; rfl)
        · rw [if_neg (n0 _ _ c1)]
          by_cases c2 : gM rows x y = x
          · rw [if_pos (by omega)]
            refine ⟨N, rows, ts, rfl, t, by omega, ?_⟩
            simp (decide := true) (dsimp := false) []
            rw [dec_cast]
            exact fin _ (by unfold hexT; rw [decide_eq_true c1, decide_eq_true c2]; rfl)
          · rw [if_neg (n0 _ _ c2)]
            exact fin _ (by unfold hexT; rw [decide_eq_false c2, Bool.false_and, Bool.and_false])
      · have f : Q (.v (.bool false)) := no fun ⟨x, y, l1, l2, _, e1, e2⟩ => by
          injection e1 with e1
          injection e2 with e2
          omega
        by_cases c1 : 0 ≤ i
        · rw [if_pos c1]
          by_cases c2 : (N : Int) ≤ i
          · rw [if_pos c2]
            exact f
          · rw [if_neg c2]
            by_cases c3 : 0 ≤ j
            · rw [if_pos c3, if_pos (by omega)]
              exact f
            · rw [if_neg c3]
              exact f
        · rw [if_neg c1]
          exact f
theorem modP_no {N : Nat} {M : Nat → Nat → Nat} {T : Nat → Nat} {d : D} (h : ∀ (s : Str) (ds : List D), d ≠ .tuple (.str s :: ds)) : ¬ ModP N M T d := by
  rintro (⟨e, _⟩ | ⟨x, y, _, _, _, e⟩)
  · exact h _ _ e
  · exact h _ _ e
theorem w_is_modular_paper (ds : List D) (Q : R → Prop) (h : spIsMod ds Q) : ds.length = 2 ∧ wpF Gcm 2 c_is_modular_paper ds Q := by
  obtain ⟨N, rows, ts, v, rfl, t, h2, h64, tv, q⟩ := h
  refine ⟨rfl, ?_⟩
  have hn := td_noDic tv
  have no : ¬ ModP N (gM rows) (gT ts) v → Q (.v (.bool false)) := fun h => q false ⟨fun z => (nomatch z), fun z => absurd z h⟩
  cases v with
  | tuple es =>
    obtain ⟨hl, he⟩ := td_tup tv
    cases es with
    | nil =>
      simp (decide := true) (dsimp := false) [c_is_modular_paper]
      exact no (modP_no fun s ds e => by injection e with e; cases e)
    | cons a es =>
      have a0 : atI (a :: es) 0 = some a := by simp [atI, ixN]
      have l0 : ¬ (((a :: es).length : Int) = 0) := by rw [List.length_cons]; omega
      by_cases ha : ∃ s, a = .str s
      · obtain ⟨s, rfl⟩ := ha
        simp (decide := true) (dsimp := false) [c_is_modular_paper, a0, l0]
        have ne : ("hexagon" : Str) ≠ "modular" := by decide +kernel
        have e0 : ¬ (((es.length : Nat) : Int) + 1 = 0) := by omega
        rw [if_neg e0]
        by_cases c1 : s = ("modular" : Str)
        · rw [if_pos c1]
          subst c1
          by_cases c2 : ((es.length : Nat) : Int) + 1 = 1
          · have e2 : es = [] := List.eq_nil_of_length_eq_zero (by omega)
            subst e2
            rw [if_pos c2]
            refine ⟨N, rows, ts, rfl, t, h2, h64, fun d hd => ?_⟩
            rcases hd with ⟨rfl, hd⟩ | ⟨x, y, hx, hy, hh, rfl⟩
            · simp (decide := true) (dsimp := false) [atI, ixN]
              exact q true ⟨fun _ => .inl ⟨rfl, hd⟩, fun _ => rfl⟩
            · simp (decide := true) (dsimp := false) [atI, ixN]
              refine no ?_
              rintro (⟨_, z⟩ | ⟨_, _, _, _, _, e⟩)
              · rw [z x hx y hy] at hh
                cases hh
              · injection e with e
                cases e
          · rw [if_neg c2]
            refine no ?_
            rintro (⟨e, z⟩ | ⟨_, _, _, _, _, e⟩)
            · injection e with e
              injection e with e1 e2
              rw [e2] at c2
              exact c2 rfl
            · injection e with e
              injection e with e1 e2
              injection e1 with e1
              exact ne e1.symm
        · rw [if_neg c1]
          by_cases c2 : s = ("hexagon" : Str)
          · rw [if_pos c2]
            subst c2
            by_cases c3 : ((es.length : Nat) : Int) + 1 = 3
            · rw [if_pos c3]
              obtain ⟨a, b, rfl⟩ : ∃ a b, es = [a, b] := by
                match es, c3 with
                | [], h => simp at h
                | [a], h => simp at h
                | [a, b], _ => exact ⟨a, b, rfl⟩
                | a :: b :: c :: r, h =>
                  exfalso
                  simp only [List.length_cons] at h
                  omega
              refine ⟨N, rows, ts, _, a, b, rfl, t, h2, he a (by simp), he b (by simp), fun bb hb => ?_⟩
              simp (decide := true) (dsimp := false) []
              refine q bb (hb.trans ?_)
              constructor
              · rintro ⟨x, y, hx, hy, hh, rfl, rfl⟩
                exact .inr ⟨x, y, hx, hy, hh, rfl⟩
              · rintro (⟨e, _⟩ | ⟨x, y, hx, hy, hh, e⟩)
                · injection e with e
                  cases e
                · injection e with e
                  injection e with e1 e
                  injection e with e2 e
                  injection e with e3 e
                  exact ⟨x, y, hx, hy, hh, e2, e3⟩
            · rw [if_neg c3]
              refine no ?_
              rintro (⟨e, z⟩ | ⟨_, _, _, _, _, e⟩)
              · injection e with e
                injection e with e1 e2
                injection e1 with e1
                exact c1 e1
              · injection e with e
                injection e with e1 e2
                rw [e2] at c3
                exact c3 rfl
          · rw [if_neg c2]
            refine no ?_
            rintro (⟨e, z⟩ | ⟨_, _, _, _, _, e⟩)
            · injection e with e
              injection e with e1 e2
              injection e1 with e1
              exact c1 e1
            · injection e with e
              injection e with e1 e2
              injection e1 with e1
              exact c2 e1
      · have n1 : ¬ ModP N (gM rows) (gT ts) (.tuple (a :: es)) := modP_no fun s ds e => by
          injection e with e
          injection e with e1 e2
          exact ha ⟨s, e1⟩
        cases a with
        | str s => exact absurd ⟨s, rfl⟩ ha
        | dict kvs =>
          have hb := td_noDic (he (.dict kvs) (by simp))
          simp (decide := true) (dsimp := false) [c_is_modular_paper, a0, l0]
          rw [if_neg (by omega)]
          exact ⟨by simpa using hb, no n1⟩
        | _ =>
          simp (decide := true) (dsimp := false) [c_is_modular_paper, a0, l0]
          exact no n1
  | dict kvs =>
    simp (decide := true) (dsimp := false) [c_is_modular_paper, hn]
    exact ⟨by simpa using hn, no (modP_no fun _ _ h => by cases h)⟩
  | _ =>
    simp (decide := true) (dsimp := false) [c_is_modular_paper]
    exact no (modP_no fun _ _ h => by cases h)
theorem wordB_str (w s : Str) (n : Nat) (ds : List D) : wordB w n (.tuple (.str s :: ds)) = (decide (ds.length + 1 = n) && decide (s = w)) := rfl
theorem intsB_tup (n : Nat) (ds : List D) : intsB n (.tuple ds) = (decide (ds.length = n) && ds.all isI) := rfl
theorem w_law_is_worded (ds : List D) (Q : R → Prop) (h : spWordB ds Q) : ds.length = 3 ∧ wpF G0 3 c_law_is_worded ds Q := by
  obtain ⟨v, w, n, rfl, h1, tv, q⟩ := h
  refine ⟨rfl, ?_⟩
  have hn := td_noDic tv
  cases v with
  | tuple es =>
    obtain ⟨hl, he⟩ := td_tup tv
    cases es with
    | nil =>
      have e : ¬ ((0 : Int) = (n : Int)) := by omega
      simp (decide := true) (dsimp := false) [c_law_is_worded, e]
      exact q
    | cons a es =>
      have a0 : atI (a :: es) 0 = some a := by simp [atI, ixN]
      by_cases e : ((es.length : Nat) : Int) + 1 = (n : Int)
      · have e1 : es.length + 1 = n := by omega
        cases a with
        | str s =>
          rw [wordB_str, decide_eq_true e1, Bool.true_and] at q
          simp (decide := true) (dsimp := false) [c_law_is_worded, a0, e]
          exact q
        | dict kvs =>
          have hb := td_noDic (he (.dict kvs) (by simp))
          simp (decide := true) (dsimp := false) [c_law_is_worded, a0, e]
          exact ⟨by simpa using hb, q⟩
        | _ =>
          simp (decide := true) (dsimp := false) [c_law_is_worded, a0, e]
          exact q
      · have e1 : ¬ es.length + 1 = n := by omega
        have f : wordB w n (.tuple (a :: es)) = false := by
          cases a with
          | str s =>
            rw [wordB_str, decide_eq_false e1]
            rfl
          | _ => rfl
        rw [f] at q
        simp (decide := true) (dsimp := false) [c_law_is_worded, a0, e]
        exact q
  | dict kvs =>
    simp (decide := true) (dsimp := false) [c_law_is_worded, hn]
    exact ⟨by simpa using hn, q⟩
  | _ =>
    simp (decide := true) (dsimp := false) [c_law_is_worded]
    exact q
theorem w_law_is_row (ds : List D) (Q : R → Prop) (h : spIntsB ds Q) : ds.length = 2 ∧ wpF Gel 3 c_law_is_row ds Q := by
  obtain ⟨v, n, rfl, tv, q⟩ := h
  refine ⟨rfl, ?_⟩
  have hn := td_noDic tv
  cases v with
  | tuple es =>
    obtain ⟨hl, he⟩ := td_tup tv
    by_cases e : (es.length : Int) = (n : Int)
    · have e1 : es.length = n := by omega
      rw [intsB_tup, decide_eq_true e1, Bool.true_and] at q
      simp (decide := true) (dsimp := false) [c_law_is_row, e]
      refine foldC_fm (fun d => !isI d) id (fun d hd Qt Qf q1 q2 => ?_) (by rw [sizeLine_eq, List.length_nil]; omega) ?_
      · simp (decide := true) (dsimp := false) []
        refine ⟨d, rfl, he d hd, ?_⟩
        cases hi : isI d with
        | false =>
          simp (decide := true) (dsimp := false) []
          exact q1 (by rw [hi]; rfl)
        | true =>
          simp (decide := true) (dsimp := false) []
          exact q2 (by rw [hi]; rfl)
      · simp (decide := true) (dsimp := false) []
        have e2 : es.all isI = decide (∀ a : D, a ∈ es → isI a = true) := by
          rw [Bool.eq_iff_iff, List.all_eq_true, decide_eq_true_eq]
        rw [← e2]
        exact q
    · have e1 : ¬ es.length = n := by omega
      rw [intsB_tup, decide_eq_false e1, Bool.false_and] at q
      simp (decide := true) (dsimp := false) [c_law_is_row, e]
      exact q
  | dict kvs =>
    simp (decide := true) (dsimp := false) [c_law_is_row, hn]
    exact ⟨by simpa using hn, q⟩
  | _ =>
    simp (decide := true) (dsimp := false) [c_law_is_row]
    exact q
end LW

namespace LW
open PySem L2 DL
def Gl : Gm := ⟨fun | 17 => some spRoom | 14 => some spLat | 3 => some spIsLat | 18 => some spJoin | 6 => some spCom | 19 => some (spSame 8) | 7 => some spMod | 16 => some spDraw | 27 => some spWordB | 29 => some spIntsB | 9 => some spIsMod | 26 => some (spBent 20) | _ => none, fun _ => none⟩
@[simp] theorem Gl_17 : Gl.Φ 17 = some spRoom := rfl
@[simp] theorem Gl_14 : Gl.Φ 14 = some spLat := rfl
@[simp] theorem Gl_3 : Gl.Φ 3 = some spIsLat := rfl
@[simp] theorem Gl_18 : Gl.Φ 18 = some spJoin := rfl
@[simp] theorem Gl_6 : Gl.Φ 6 = some spCom := rfl
@[simp] theorem Gl_19 : Gl.Φ 19 = some (spSame 8) := rfl
@[simp] theorem Gl_7 : Gl.Φ 7 = some spMod := rfl
@[simp] theorem Gl_16 : Gl.Φ 16 = some spDraw := rfl
@[simp] theorem Gl_27 : Gl.Φ 27 = some spWordB := rfl
@[simp] theorem Gl_29 : Gl.Φ 29 = some spIntsB := rfl
@[simp] theorem Gl_9 : Gl.Φ 9 = some spIsMod := rfl
@[simp] theorem Gl_26 : Gl.Φ 26 = some (spBent 20) := rfl
theorem any_sets {S : List (List Nat)} {t : List Nat} (h : t ∈ S) : ((setsD S).any fun z => PyData.eqv z (.tuple (natD t))) = true := by
  rw [List.any_eq_true]
  refine ⟨tupN t, List.mem_map_of_mem h, ?_⟩
  show PyData.eqv (tupN t) (tupN t) = true
  rw [eqv_tupN]
  simp
theorem cut31 (a b c : D) : cutD [a, b, c] (some 1) none = [b, c] := rfl
theorem w_law : wpSs Gl c_law { nx := fun _ => False, rt := fun r => r = .v (.bool true) } (.no :: .val poolD :: List.replicate 19 .no) := by
  have hrep : List.replicate 19 Sl.no = [.no, .no, .no, .no, .no, .no, .no, .no, .no, .no, .no, .no, .no, .no, .no, .no, .no, .no, .no] := rfl
  rw [hrep]
  simp (decide := true) (dsimp := false) [c_law, sizeLine_eq]
  refine ⟨6, [], rfl, by omega, by omega, by simp, fun n ps vs hR => ?_⟩
  obtain ⟨hr, hc⟩ := hR.rmv (by omega) (by simp) (by decide)
  have sy := apart_sy ps
  have irr := apart_irr hr.2.2.2.1
  have hn := hr.2.1
  have hn6 := hR.le
  simp (decide := true) (dsimp := false) [sizeLine_eq]
  refine ⟨_, n, ps, rfl, hr.arg, by omega, ?_⟩
  have t := lat_tab (n := n) sy
  have N2 := lat_two (n := n) sy irr hR.pos
  have N6 := lat_le (A := apart ps) hn6
  have isl := lat_is (n := n) sy irr hR.pos hn6
  have ax := lat_ax_of (n := n) sy irr
  have td := (t.paper N6).ok.2
  have z0 := lat_zero (n := n) sy irr (by omega)
  have mn := lat_nil (n := n) sy irr
  have i0 := idx_sets mn
  have shS := shaped_sets (clS (apart ps) n)
  rw [latD_tab] at isl ⊢
  generalize hM : mRows (clS (apart ps) n) = M at *
  generalize hT : tRow (clS (apart ps) n) (apart ps) n = T at *
  generalize hN : (clS (apart ps) n).length = N at *
  simp (decide := true) (dsimp := false) [sizeLine_eq, tabD]
  by_cases big : 30 < N
  · rw [if_pos (by omega)]
    refine ⟨tabD N M T, rfl, td, fun b hb => ?_⟩
    rw [hb.mpr isl]
    have e : ((N : Nat) : Int) ≤ 64 := by omega
    simp (decide := true) (dsimp := false) [e]
  · rw [if_neg (by omega)]
    have hall := hex_all (N := N) (M := gM M) (T := gT T) ⟨fun x hx y hy => t.ltM hx hy, fun x hx => t.ltT hx⟩ ax (by omega)
    refine ⟨shS, _, i0.1, i0.2, ?_⟩
    rw [← z0]
    refine ⟨by omega, ?_⟩
    refine foldF_inv (fun k env => ∃ f8 b9 b10 x11 x12 x13 x14, (f8 = .own (setsD (foundN N (gM M) (gT T) k)) ∨ f8 = .val (.list (setsD (foundN N (gM M) (gT T) k)))) ∧ (b9 = true ↔ ∀ x, x < k → ∀ y, y < N → comT (gM M) (gT T) x y = comT (gM M) (gT T) y x) ∧ (b10 = true ↔ ∀ x, x < k → ∀ y, y < N → x ≠ y → gM M x y = x → jnT (gM M) (gT T) x (gM M y (gT T x)) = y) ∧ env = [.no, .val poolD, .val (.list (setsD (clS (apart ps) n))), .val (.tuple [.int (N : Int), .tuple (M.map tupN), tupN T]), .val (.int (N : Int)), .val (.tuple (M.map tupN)), .val (tupN T), .val (.int (gM M 0 (gT T 0) : Nat)), f8, .val (.bool b9), .val (.bool b10), x11, x12, x13, x14, .no, .no, .no, .no, .no, .no]) 0 ⟨_, true, true, _, _, _, _, .inr rfl, ⟨fun _ x hx => absurd hx (Nat.not_lt_zero _), fun _ => rfl⟩, ⟨fun _ x hx => absurd hx (Nat.not_lt_zero _), fun _ => rfl⟩, rfl⟩ (fun k d env hk hi => ?_) fun env hi => ?_
    · obtain ⟨f8, b9, b10, x11, x12, x13, x14, hf, h9, h10, rfl⟩ := hi
      intro F hF
      have kl := (List.getElem?_eq_some_iff.mp hk).1
      rw [rngD_length] at kl
      have ek : d = .int (k : Int) := by
        have := rngD_get (lo := 0) kl
        rw [this] at hk
        rw [← Option.some.inj hk, Int.zero_add]
      subst ek
      rw [Nat.zero_add] at hf h9 h10 hF
      simp (decide := true) (dsimp := false) []
      refine ⟨by omega, ?_⟩
      refine foldF_inv (fun j env => ∃ f8 b9 b10 x12 x13 x14, (f8 = .own (setsD (foundN N (gM M) (gT T) k ++ rowH N (gM M) (gT T) k j)) ∨ f8 = .val (.list (setsD (foundN N (gM M) (gT T) k ++ rowH N (gM M) (gT T) k j)))) ∧ (b9 = true ↔ (∀ x, x < k → ∀ y, y < N → comT (gM M) (gT T) x y = comT (gM M) (gT T) y x) ∧ ∀ y, y < j → comT (gM M) (gT T) k y = comT (gM M) (gT T) y k) ∧ (b10 = true ↔ (∀ x, x < k → ∀ y, y < N → x ≠ y → gM M x y = x → jnT (gM M) (gT T) x (gM M y (gT T x)) = y) ∧ ∀ y, y < j → k ≠ y → gM M k y = k → jnT (gM M) (gT T) k (gM M y (gT T k)) = y) ∧ env = [.no, .val poolD, .val (.list (setsD (clS (apart ps) n))), .val (.tuple [.int (N : Int), .tuple (M.map tupN), tupN T]), .val (.int (N : Int)), .val (.tuple (M.map tupN)), .val (tupN T), .val (.int (gM M 0 (gT T 0) : Nat)), f8, .val (.bool b9), .val (.bool b10), .val (.int (k : Int)), x12, x13, x14, .no, .no, .no, .no, .no, .no]) 0 ⟨_, b9, b10, _, _, _, ?_, ?_, ?_, rfl⟩ (fun j d env hk hi => ?_) fun env hi => ?_
      · have e : rowH N (gM M) (gT T) k 0 = [] := rfl
        rw [e, List.append_nil]
        exact hf
      · rw [h9]
        exact ⟨fun h => ⟨h, fun y hy => absurd hy (Nat.not_lt_zero _)⟩, fun h => h.1⟩
      · rw [h10]
        exact ⟨fun h => ⟨h, fun y hy => absurd hy (Nat.not_lt_zero _)⟩, fun h => h.1⟩
      · clear hf h9 h10
        obtain ⟨f8, b9, b10, x12, x13, x14, hf, h9, h10, rfl⟩ := hi
        intro F2 hF2
        have jl := (List.getElem?_eq_some_iff.mp hk).1
        rw [rngD_length] at jl
        have ek : d = .int (j : Int) := by
          have := rngD_get (lo := 0) jl
          rw [this] at hk
          rw [← Option.some.inj hk, Int.zero_add]
        subst ek
        rw [Nat.zero_add] at hf h9 h10 hF2
        have n0 : ∀ a b : Nat, ¬ a = b → ¬ ((a : Int) = (b : Int)) := fun a b h => by omega
        have g1 := t.ltM kl jl
        have g2 := t.ltT jl
        have g3 := t.ltM kl g2
        have g4 := t.ltM jl kl
        have g5 := t.ltT kl
        have g6 := t.ltM jl g5
        have fin : ∀ (c9 c10 : Bool) (f8' x13 x14 : Sl), (f8' = .own (setsD (foundN N (gM M) (gT T) k ++ rowH N (gM M) (gT T) k (j + 1))) ∨ f8' = .val (.list (setsD (foundN N (gM M) (gT T) k ++ rowH N (gM M) (gT T) k (j + 1))))) →
            (c9 = true ↔ b9 = true ∧ comT (gM M) (gT T) k j = comT (gM M) (gT T) j k) → (c10 = true ↔ b10 = true ∧ (k ≠ j → gM M k j = k → jnT (gM M) (gT T) k (gM M j (gT T k)) = j)) →
            F2 ([.no, .val poolD, .val (.list (setsD (clS (apart ps) n))), .val (.tuple [.int (N : Int), .tuple (M.map tupN), tupN T]), .val (.int (N : Int)), .val (.tuple (M.map tupN)), .val (tupN T), .val (.int (gM M 0 (gT T 0) : Nat)), f8', .val (.bool c9), .val (.bool c10), .val (.int (k : Int)), .val (.int (j : Int)), x13, x14, .no, .no, .no, .no, .no, .no]) := fun c9 c10 f8' x13 x14 e1 e2 e3 => by
          refine hF2 _ ⟨f8', c9, c10, _, _, _, e1, ?_, ?_, rfl⟩
          · rw [e2, h9]
            constructor
            · rintro ⟨⟨a, b⟩, c⟩
              refine ⟨a, fun y hy => ?_⟩
              by_cases z : y = j
              · rw [z]; exact c
              · exact b y (by omega)
            · rintro ⟨a, b⟩
              exact ⟨⟨a, fun y hy => b y (by omega)⟩, b j (by omega)⟩
          · rw [e3, h10]
            constructor
            · rintro ⟨⟨a, b⟩, c⟩
              refine ⟨a, fun y hy => ?_⟩
              by_cases z : y = j
              · rw [z]; exact c
              · exact b y (by omega)
            · rintro ⟨a, b⟩
              exact ⟨⟨a, fun y hy => b y (by omega)⟩, b j (by omega)⟩
        rw [rowH_succ, ← List.append_assoc] at fin
        simp (decide := true) (dsimp := false) [tupN_eq, t.at1 kl, t.at1 jl, t.at2 kl jl, t.at3 jl, t.at2 kl g2]
        refine ⟨N, M, T, _, _, rfl, t, g1, g3, ?_⟩
        have e1 : decide (((gT T (gM M (gT T (gM M k j)) (gT T (gM M k (gT T j)))) : Nat) : Int) = (k : Int)) = comT (gM M) (gT T) k j := dec_cast _ _
        have e2 : decide (((gT T (gM M (gT T (gM M j k)) (gT T (gM M j (gT T k)))) : Nat) : Int) = (j : Int)) = comT (gM M) (gT T) j k := dec_cast _ _
        simp (decide := true) (dsimp := false) [tupN_eq, t.at1 kl, t.at1 jl, t.at2 jl kl, t.at3 kl, t.at2 jl g5]
        rw [e1]
        refine ⟨N, M, T, _, _, rfl, t, g4, g6, ?_⟩
        simp (decide := true) (dsimp := false) []
        rw [e2]
        refine ⟨N, M, T, k, j, rfl, t, kl, jl, ?_⟩
        simp (decide := true) (dsimp := false) []
        refine ⟨.bool (comT (gM M) (gT T) k j), rfl, rfl, by simp [depD], ?_⟩
        have fl : foundN N (gM M) (gT T) k ++ rowH N (gM M) (gT T) k j = foundN N (gM M) (gT T) k ++ rowH N (gM M) (gT T) k j := rfl
        have ll : (foundN N (gM M) (gT T) k ++ rowH N (gM M) (gT T) k j).length ≤ 10000 := by
          rw [List.length_append]
          have a1 := foundN_len (N := N) (M := gM M) (T := gT T) k
          have a2 := rowH_len (N := N) (M := gM M) (T := gT T) k j
          have a3 : k * N ≤ 30 * 30 := Nat.mul_le_mul (by omega) (by omega)
          omega
        generalize foundN N (gM M) (gT T) k ++ rowH N (gM M) (gT T) k j = L at hf ll fin
        generalize hca : comT (gM M) (gT T) k j = ca at fin
        generalize hcb : comT (gM M) (gT T) j k = cb at fin
        have hxT : ∀ b : Bool, (decide (k ≠ j) && (decide (gM M k j = k) && decide (gM M j (gT T k) = gM M 0 (gT T 0)))) = b → hexT (gM M) (gT T) k j = b := fun b e => e
        rcases hf with rfl | rfl
        all_goals
          simp (decide := true) (dsimp := false) [tupN_eq, t.at1 kl, t.at1 jl, t.at2 kl jl, t.at3 kl, t.at2 jl g5]
          split
          all_goals
            rename_i h
            by_cases c1 : k = j
            · have hx := hxT false (by rw [decide_eq_false (by omega)]; rfl)
              rw [if_pos (by omega)]
              refine fin _ b10 _ _ _ ?_ (by simp [h]) ⟨fun z => ⟨z, fun n => absurd c1 n⟩, fun z => z.1⟩
              rw [hx]
              simp
            · rw [if_neg (n0 _ _ c1)]
              by_cases c2 : gM M k j = k
              · rw [if_pos (by omega)]
                split
                · rename_i hb
                  refine ⟨N, M, T, k, _, rfl, t, kl, g6, ?_⟩
                  simp (decide := true) (dsimp := false) [tupN_eq, t.at1 jl, t.at3 kl, t.at2 jl g5, sizeLine_eq, setsD_length]
                  by_cases c3 : gM M j (gT T k) = gM M 0 (gT T 0)
                  · rw [if_pos (by omega)]
                    have hx := hxT true (by rw [decide_eq_true c1, decide_eq_true c2, decide_eq_true c3]; rfl)
                    refine ⟨by omega, fin _ _ _ _ _ (.inl (by rw [hx, if_pos rfl, ← setsD_app]; rfl)) (by simp [h]) ⟨fun z => ⟨hb, fun _ _ => Int.ofNat.inj (of_decide_eq_true z)⟩, fun z => decide_eq_true (congrArg Int.ofNat (z.2 c1 c2))⟩⟩
                  · rw [if_neg (n0 _ _ c3)]
                    have hx := hxT false (by rw [decide_eq_false c3, Bool.and_false, Bool.and_false])
                    refine ⟨by omega, fin _ _ _ _ _ (.inl (by rw [hx]; simp)) (by simp [h]) ⟨fun z => ⟨hb, fun _ _ => Int.ofNat.inj (of_decide_eq_true z)⟩, fun z => decide_eq_true (congrArg Int.ofNat (z.2 c1 c2))⟩⟩
                · rename_i hb
                  simp (decide := true) (dsimp := false) [tupN_eq, t.at1 jl, t.at3 kl, t.at2 jl g5, sizeLine_eq, setsD_length]
                  by_cases c3 : gM M j (gT T k) = gM M 0 (gT T 0)
                  · rw [if_pos (by omega)]
                    have hx := hxT true (by rw [decide_eq_true c1, decide_eq_true c2, decide_eq_true c3]; rfl)
                    refine ⟨by omega, fin _ _ _ _ _ (.inl (by rw [hx, if_pos rfl, ← setsD_app]; rfl)) (by simp [h]) (by simp [hb])⟩
                  · rw [if_neg (n0 _ _ c3)]
                    have hx := hxT false (by rw [decide_eq_false c3, Bool.and_false, Bool.and_false])
                    refine ⟨by omega, fin _ _ _ _ _ (.inl (by rw [hx]; simp)) (by simp [h]) (by simp [hb])⟩
              · have hx := hxT false (by rw [decide_eq_false c2, Bool.false_and, Bool.and_false])
                rw [if_neg (n0 _ _ c2)]
                refine fin _ b10 _ _ _ ?_ (by simp [h]) ⟨fun z => ⟨z, fun _ n => absurd n c2⟩, fun z => z.1⟩
                rw [hx]
                simp
      · obtain ⟨f8', b9', b10', x12, x13, x14, hf', h9', h10', rfl⟩ := hi
        rw [rngD_length, Nat.zero_add] at hf' h9' h10'
        refine hF _ ⟨f8', b9', b10', _, _, _, _, hf', ?_, ?_, rfl⟩
        · rw [h9']
          constructor
          · rintro ⟨a, b⟩ x hx
            by_cases z : x = k
            · rw [z]; exact b
            · exact a x (by omega)
          · intro h
            exact ⟨fun x hx => h x (by omega), h k (by omega)⟩
        · rw [h10']
          constructor
          · rintro ⟨a, b⟩ x hx
            by_cases z : x = k
            · rw [z]; exact b
            · exact a x (by omega)
          · intro h
            exact ⟨fun x hx => h x (by omega), h k (by omega)⟩
    · obtain ⟨f8, b9, b10, x11, x12, x13, x14, hf, h9, h10, rfl⟩ := hi
      rw [rngD_length, Nat.zero_add] at hf h9 h10
      have e9 : b9 = true ↔ ∀ x, x < N → ∀ y, y < N → hexT (gM M) (gT T) x y = false := h9.trans hall.1
      have e10 : b10 = b9 := Bool.eq_iff_iff.mpr (h10.trans (hall.2.trans e9.symm))
      have eF : foundN N (gM M) (gT T) N = [] ↔ b9 = true := foundN_nil.trans e9.symm
      have mF : ∀ {t : List Nat}, t ∈ foundN N (gM M) (gT T) N ↔ ∃ x y, x < N ∧ y < N ∧ hexT (gM M) (gT T) x y = true ∧ t = [x, y] := foundN_mem
      have lF : (foundN N (gM M) (gT T) N).length ≤ 900 := Nat.le_trans (foundN_len N) (Nat.mul_le_mul (by omega) (by omega) : N * N ≤ 30 * 30)
      subst e10
      generalize foundN N (gM M) (gT T) N = L at hf eF mF lF
      have shL := shaped_sets L
      have shN : SeqAt.shaped (.list []) = true := by decide +kernel
      simp (decide := true) (dsimp := false) []
      refine ⟨N, M, T, rfl, t, N2, N6, fun d hd => ?_⟩
      obtain ⟨es, rfl, es0, P0⟩ := hd.paper N6
      cases b10 with
      | true =>
        have eL : L = [] := eF.mpr rfl
        have q0 : PyData.eqv (.list (setsD L)) (.list []) = true := by rw [eL]; rfl
        rcases hd with ⟨e, _⟩ | ⟨x, y, hx, hy, hh, _⟩
        · injection e with e
          subst e
          rcases hf with rfl | rfl
          all_goals
            simp (decide := true) (dsimp := false) [atI, ixN, sizeLine_eq, shL, shN, q0]
            refine ⟨_, rfl, rfl, by simp [depD], ?_⟩
            simp (decide := true) (dsimp := false) [sizeLine_eq]
            refine foldC_rel (fun k acc => acc.length ≤ k ∧ ∀ v ∈ acc, Paper v) 0 ⟨Nat.le_refl _, fun v hv => (nomatch hv)⟩ (by rw [rngD_length, sizeLine_eq]; decide) (fun k d acc e hi Qt Qf q1 q2 => ?_) fun tr htr => ?_
            · simp (decide := true) (dsimp := false) []
              refine ⟨(N : Int), rfl, by omega, by omega, fun i i0 i1 => ?_⟩
              simp (decide := true) (dsimp := false) []
              refine ⟨(N : Int), rfl, by omega, by omega, fun j j0 j1 => ?_⟩
              simp (decide := true) (dsimp := false) []
              refine q1 _ _ rfl ⟨by rw [List.length_append, List.length_singleton]; omega, fun v hv => ?_⟩
              rcases List.mem_append.mp hv with hv | hv
              · exact hi.2 v hv
              · rw [List.mem_singleton.mp hv]
                exact word3_pap (by decide +kernel) (by omega) (by omega)
            · obtain ⟨t1, t2⟩ := htr
              rw [rngD_length] at t1
              have c3 : cutD (setsD L) none (some 3) = (L.take 3).map tupN := (cut_take (ds := setsD L) (k := 3)).trans (by unfold setsD; rw [List.map_take])
              simp (decide := true) (dsimp := false) [sizeLine_eq, c3]
              rw [← List.map_take]
              refine ⟨by omega, ?_⟩
              have l3 : (L.take 3).length ≤ 3 := by rw [List.length_take]; omega
              refine foldC_mapL tupN (fun u => .tuple (.str "hexagon" :: natD u)) (fun u hu Qt Qf q1 => ?_) (by rw [sizeLine_eq]; omega) ?_
              · obtain ⟨x', y', _, _, _, rfl⟩ := mF.mp (List.mem_of_mem_take hu)
                simp (decide := true) (dsimp := false) [tupN_eq, sizeLine_eq, natD_length]
                exact q1
              · simp (decide := true) (dsimp := false) [sizeLine_eq]
                have l4 : min 3 L.length ≤ 3 := Nat.min_le_left _ _
                refine ⟨by omega, by omega, ?_⟩
                obtain ⟨s1, s2⟩ := P0.spots
                refine ⟨_, 5, rfl, by simp [depDs, depD], by omega, P0.td, by simp, by simp, by omega, s1, fun p hp => ?_, fun vals hvl hva => ?_⟩
                · obtain ⟨y, y1, y2, y3⟩ := s2 p hp
                  exact ⟨y, y1, y2, by omega⟩
                · simp (decide := true) (dsimp := false) [sizeLine_eq]
                  refine ⟨by omega, foldF_inv (fun _ env => ∃ f8' x15 x16 x17 x18, (f8' = .own (setsD L) ∨ f8' = .val (.list (setsD L))) ∧ env = [.no, .val poolD, .val (.list (setsD (clS (apart ps) n))), .val (.tuple [.int (N : Int), .tuple (M.map tupN), tupN T]), .val (.int (N : Int)), .val (.tuple (M.map tupN)), .val (tupN T), .val (.int (gM M 0 (gT T 0) : Nat)), f8', .val (.bool true), .val (.bool true), x11, x12, x13, x14, x15, x16, x17, x18, .no, .no]) 0 ⟨_, _, _, _, _, by first | exact .inl rfl | exact .inr rfl, rfl⟩ (fun k v env hk hi => ?_) fun env hi => ?_⟩
                  · obtain ⟨f8', x15, x16, x17, x18, hf', rfl⟩ := hi
                    intro F hF
                    obtain ⟨v1, v2⟩ : RprOk v ∧ tdD v = true := by
                      have m := List.mem_of_getElem? hk
                      simp only [List.mem_cons, List.mem_append] at m
                      rcases m with rfl | rfl | rfl | m | m | rfl | rfl | m
                      · exact P0.ok
                      · exact (word1_pap (by decide +kernel)).ok
                      · exact (word3_pap (by decide +kernel) (by omega) (by omega)).ok
                      · exact (t2 v m).ok
                      · obtain ⟨u, hu, rfl⟩ := List.mem_map.mp (List.mem_of_mem_take m)
                        obtain ⟨x', y', hx', hy', _, rfl⟩ := mF.mp hu
                        exact (word3_pap (i := (x' : Int)) (j := (y' : Int)) (by decide +kernel) (by omega) (by omega)).ok
                      · exact (word3_pap (by decide +kernel) (by omega) (by omega)).ok
                      · exact (word3_pap (by decide +kernel) (by omega) (by omega)).ok
                      · exact Paper.near P0 (hva v m)
                    rcases hf' with rfl | rfl
                    all_goals
                      simp (decide := true) (dsimp := false) [sizeLine_eq, -dEq]
                      refine dEq_word v1.shp (by decide +kernel) fun c hc => ?_
                      cases c with
                      | true =>
                        have ev := hc.mp rfl
                        try simp (decide := true) (dsimp := false) [sizeLine_eq]
                        refine ⟨N, M, T, _, rfl, t, N2, N6, v2, fun bb hbb => ?_⟩
                        simp (decide := true) (dsimp := false) [sizeLine_eq]
                        have eb : bb = true := Bool.eq_iff_iff.mpr (hbb.trans ⟨fun _ => rfl, fun _ => .inl ⟨ev, e9.mp rfl⟩⟩)
                        subst eb
                        refine ⟨_, rfl, rfl, by simp [depD], ?_⟩
                        simp (decide := true) (dsimp := false) [sizeLine_eq]
                        exact hF _ ⟨_, _, _, _, _, by first | exact .inl rfl | exact .inr rfl, rfl⟩
                      | false =>
                        have nm : ¬ (v = .tuple [.str "modular"] ∧ ∀ x, x < N → ∀ y, y < N → hexT (gM M) (gT T) x y = false) := fun h => (nomatch hc.mpr h.1)
                        try simp (decide := true) (dsimp := false) [sizeLine_eq]
                        refine ⟨v, "hexagon", 3, rfl, by omega, v2, ?_⟩
                        cases hw : wordB "hexagon" 3 v with
                        | false =>
                          simp (decide := true) (dsimp := false) [sizeLine_eq]
                          refine ⟨N, M, T, _, rfl, t, N2, N6, v2, fun bb hbb => ?_⟩
                          simp (decide := true) (dsimp := false) [sizeLine_eq]
                          have eb : bb = false := Bool.eq_iff_iff.mpr (hbb.trans ⟨fun h => (by obtain ⟨_, _, _, _, _, e⟩ := modP_word nm h; rw [e] at hw; rw [wordB_str] at hw; simp at hw), fun z => (nomatch z)⟩)
                          subst eb
                          refine ⟨_, rfl, rfl, by simp [depD], ?_⟩
                          simp (decide := true) (dsimp := false) [sizeLine_eq]
                          exact hF _ ⟨_, _, _, _, _, by first | exact .inl rfl | exact .inr rfl, rfl⟩
                        | true =>
                          obtain ⟨a, b, rfl⟩ := wordB_3 hw
                          obtain ⟨_, hab⟩ := td_tup v2
                          simp (decide := true) (dsimp := false) [sizeLine_eq, cut31]
                          refine ⟨.tuple [a, b], 2, rfl, td_two (hab a (by simp)) (hab b (by simp)), ?_⟩
                          cases hi2 : intsB 2 (.tuple [a, b]) with
                          | false =>
                            simp (decide := true) (dsimp := false) [sizeLine_eq]
                            refine ⟨N, M, T, _, rfl, t, N2, N6, v2, fun bb hbb => ?_⟩
                            simp (decide := true) (dsimp := false) [sizeLine_eq]
                            have eb : bb = false := Bool.eq_iff_iff.mpr (hbb.trans ⟨fun h => (by obtain ⟨_, _, _, _, _, e⟩ := modP_word nm h; injection e with e; injection e with _ e; injection e with ea e; injection e with eb _; rw [ea, eb] at hi2; cases hi2), fun z => (nomatch z)⟩)
                            subst eb
                            refine ⟨_, rfl, rfl, by simp [depD], ?_⟩
                            simp (decide := true) (dsimp := false) [sizeLine_eq]
                            exact hF _ ⟨_, _, _, _, _, by first | exact .inl rfl | exact .inr rfl, rfl⟩
                          | true =>
                            have hi3 : (decide ([a, b].length = 2) && [a, b].all isI) = true := hi2
                            simp only [List.length_cons, List.length_nil, List.all_cons, List.all_nil, Bool.and_true, Bool.and_eq_true] at hi3
                            obtain ⟨i, rfl⟩ := isI_int hi3.2.1
                            obtain ⟨j, rfl⟩ := isI_int hi3.2.2
                            simp (decide := true) (dsimp := false) [sizeLine_eq, cut31, shaped_two, shL]
                            have mP : ∀ {t : List Nat}, t ∈ L ↔ ∃ x y, (x < N ∧ y < N ∧ hexT (gM M) (gT T) x y = true) ∧ t = [x, y] := by
                              intro t
                              rw [mF]
                              simp only [and_assoc]
                            have pf : ModP N (gM M) (gT T) (.tuple [.str "hexagon", .int i, .int j]) ↔ ((setsD L).any fun z => PyData.eqv z (.tuple [.int i, .int j])) = true := ⟨fun h => by
                              obtain ⟨x', y', h1, h2, h3, e⟩ := modP_word nm h
                              injection e with e
                              injection e with _ e
                              injection e with ea e
                              injection e with eb _
                              injection ea with ea
                              injection eb with eb
                              exact (any_pair mP).mpr ⟨x', y', ⟨h1, h2, h3⟩, ea, eb⟩, fun h => by
                              obtain ⟨x', y', ⟨h1, h2, h3⟩, e1, e2⟩ := (any_pair mP).mp h
                              rw [e1, e2]
                              exact .inr ⟨x', y', h1, h2, h3, rfl⟩⟩
                            refine ⟨N, M, T, _, rfl, t, N2, N6, v2, fun bb hbb => ?_⟩
                            simp (decide := true) (dsimp := false) [sizeLine_eq]
                            have eb : bb = ((setsD L).any fun z => PyData.eqv z (.tuple [.int i, .int j])) := Bool.eq_iff_iff.mpr (hbb.trans pf)
                            subst eb
                            refine ⟨_, rfl, rfl, by simp [depD], ?_⟩
                            simp (decide := true) (dsimp := false) [sizeLine_eq]
                            exact hF _ ⟨_, _, _, _, _, by first | exact .inl rfl | exact .inr rfl, rfl⟩
                  · obtain ⟨f8', x15, x16, x17, x18, hf', rfl⟩ := hi
                    simp (decide := true) (dsimp := false) []
        · rw [e9.mp rfl x hx y hy] at hh
          cases hh
      | false =>
        have eL : L ≠ [] := fun e => absurd (eF.mp e) (by decide)
        have q0 : PyData.eqv (.list (setsD L)) (.list []) = false := by
          cases L with
          | nil => exact absurd rfl eL
          | cons a L => rfl
        rcases hd with ⟨_, z⟩ | ⟨x, y, hx, hy, hh, e⟩
        · exact absurd (e9.mpr z) (by decide)
        · injection e with e
          subst e
          have mL : [x, y] ∈ L := mF.mpr ⟨x, y, hx, hy, hh, rfl⟩
          have aL := any_sets mL
          have shP := shaped_tupN [x, y]
          rcases hf with rfl | rfl
          all_goals
            simp (decide := true) (dsimp := false) [atI, ixN, sizeLine_eq, shL, shN, q0]
            refine ⟨_, rfl, rfl, by simp [depD], ?_⟩
            simp (decide := true) (dsimp := false) [sizeLine_eq, cut31]
            refine ⟨shP, shL, List.any_eq_true.mp aL, ?_⟩
            refine foldC_rel (fun k acc => acc.length ≤ k ∧ ∀ v ∈ acc, Paper v) 0 ⟨Nat.le_refl _, fun v hv => (nomatch hv)⟩ (by rw [rngD_length, sizeLine_eq]; decide) (fun k d acc e hi Qt Qf q1 q2 => ?_) fun tr htr => ?_
            · simp (decide := true) (dsimp := false) []
              refine ⟨(N : Int), rfl, by omega, by omega, fun i i0 i1 => ?_⟩
              simp (decide := true) (dsimp := false) []
              refine ⟨(N : Int), rfl, by omega, by omega, fun j j0 j1 => ?_⟩
              simp (decide := true) (dsimp := false) []
              refine q1 _ _ rfl ⟨by rw [List.length_append, List.length_singleton]; omega, fun v hv => ?_⟩
              rcases List.mem_append.mp hv with hv | hv
              · exact hi.2 v hv
              · rw [List.mem_singleton.mp hv]
                exact word3_pap (by decide +kernel) (by omega) (by omega)
            · obtain ⟨t1, t2⟩ := htr
              rw [rngD_length] at t1
              have c3 : cutD (setsD L) none (some 3) = (L.take 3).map tupN := (cut_take (ds := setsD L) (k := 3)).trans (by unfold setsD; rw [List.map_take])
              simp (decide := true) (dsimp := false) [sizeLine_eq, c3]
              rw [← List.map_take]
              refine ⟨by omega, ?_⟩
              have l3 : (L.take 3).length ≤ 3 := by rw [List.length_take]; omega
              refine foldC_mapL tupN (fun u => .tuple (.str "hexagon" :: natD u)) (fun u hu Qt Qf q1 => ?_) (by rw [sizeLine_eq]; omega) ?_
              · obtain ⟨x', y', _, _, _, rfl⟩ := mF.mp (List.mem_of_mem_take hu)
                simp (decide := true) (dsimp := false) [tupN_eq, sizeLine_eq, natD_length]
                exact q1
              · simp (decide := true) (dsimp := false) [sizeLine_eq]
                have l4 : min 3 L.length ≤ 3 := Nat.min_le_left _ _
                refine ⟨by omega, by omega, ?_⟩
                obtain ⟨s1, s2⟩ := P0.spots
                refine ⟨_, 5, rfl, by simp [depDs, depD], by omega, P0.td, by simp, by simp, by omega, s1, fun p hp => ?_, fun vals hvl hva => ?_⟩
                · obtain ⟨y, y1, y2, y3⟩ := s2 p hp
                  exact ⟨y, y1, y2, by omega⟩
                · simp (decide := true) (dsimp := false) [sizeLine_eq]
                  refine ⟨by omega, foldF_inv (fun _ env => ∃ f8' x15 x16 x17 x18, (f8' = .own (setsD L) ∨ f8' = .val (.list (setsD L))) ∧ env = [.no, .val poolD, .val (.list (setsD (clS (apart ps) n))), .val (.tuple [.int (N : Int), .tuple (M.map tupN), tupN T]), .val (.int (N : Int)), .val (.tuple (M.map tupN)), .val (tupN T), .val (.int (gM M 0 (gT T 0) : Nat)), f8', .val (.bool false), .val (.bool false), x11, x12, x13, x14, x15, x16, x17, x18, .no, .no]) 0 ⟨_, _, _, _, _, by first | exact .inl rfl | exact .inr rfl, rfl⟩ (fun k v env hk hi => ?_) fun env hi => ?_⟩
                  · obtain ⟨f8', x15, x16, x17, x18, hf', rfl⟩ := hi
                    intro F hF
                    obtain ⟨v1, v2⟩ : RprOk v ∧ tdD v = true := by
                      have m := List.mem_of_getElem? hk
                      simp only [List.mem_cons, List.mem_append] at m
                      rcases m with rfl | rfl | rfl | m | m | rfl | rfl | m
                      · exact P0.ok
                      · exact (word1_pap (by decide +kernel)).ok
                      · exact (word3_pap (by decide +kernel) (by omega) (by omega)).ok
                      · exact (t2 v m).ok
                      · obtain ⟨u, hu, rfl⟩ := List.mem_map.mp (List.mem_of_mem_take m)
                        obtain ⟨x', y', hx', hy', _, rfl⟩ := mF.mp hu
                        exact (word3_pap (i := (x' : Int)) (j := (y' : Int)) (by decide +kernel) (by omega) (by omega)).ok
                      · exact (word3_pap (by decide +kernel) (by omega) (by omega)).ok
                      · exact (word3_pap (by decide +kernel) (by omega) (by omega)).ok
                      · exact Paper.near P0 (hva v m)
                    rcases hf' with rfl | rfl
                    all_goals
                      simp (decide := true) (dsimp := false) [sizeLine_eq, -dEq]
                      refine dEq_word v1.shp (by decide +kernel) fun c hc => ?_
                      cases c with
                      | true =>
                        have ev := hc.mp rfl
                        try simp (decide := true) (dsimp := false) [sizeLine_eq]
                        have nm : ¬ (v = .tuple [.str "modular"] ∧ ∀ x, x < N → ∀ y, y < N → hexT (gM M) (gT T) x y = false) := fun h => (nomatch e9.mpr h.2)
                        refine ⟨v, "hexagon", 3, rfl, by omega, v2, ?_⟩
                        cases hw : wordB "hexagon" 3 v with
                        | false =>
                          simp (decide := true) (dsimp := false) [sizeLine_eq]
                          refine ⟨N, M, T, _, rfl, t, N2, N6, v2, fun bb hbb => ?_⟩
                          simp (decide := true) (dsimp := false) [sizeLine_eq]
                          have eb : bb = false := Bool.eq_iff_iff.mpr (hbb.trans ⟨fun h => (by obtain ⟨_, _, _, _, _, e⟩ := modP_word nm h; rw [e] at hw; rw [wordB_str] at hw; simp at hw), fun z => (nomatch z)⟩)
                          subst eb
                          refine ⟨_, rfl, rfl, by simp [depD], ?_⟩
                          simp (decide := true) (dsimp := false) [sizeLine_eq]
                          exact hF _ ⟨_, _, _, _, _, by first | exact .inl rfl | exact .inr rfl, rfl⟩
                        | true =>
                          obtain ⟨a, b, rfl⟩ := wordB_3 hw
                          obtain ⟨_, hab⟩ := td_tup v2
                          simp (decide := true) (dsimp := false) [sizeLine_eq, cut31]
                          refine ⟨.tuple [a, b], 2, rfl, td_two (hab a (by simp)) (hab b (by simp)), ?_⟩
                          cases hi2 : intsB 2 (.tuple [a, b]) with
                          | false =>
                            simp (decide := true) (dsimp := false) [sizeLine_eq]
                            refine ⟨N, M, T, _, rfl, t, N2, N6, v2, fun bb hbb => ?_⟩
                            simp (decide := true) (dsimp := false) [sizeLine_eq]
                            have eb : bb = false := Bool.eq_iff_iff.mpr (hbb.trans ⟨fun h => (by obtain ⟨_, _, _, _, _, e⟩ := modP_word nm h; injection e with e; injection e with _ e; injection e with ea e; injection e with eb _; rw [ea, eb] at hi2; cases hi2), fun z => (nomatch z)⟩)
                            subst eb
                            refine ⟨_, rfl, rfl, by simp [depD], ?_⟩
                            simp (decide := true) (dsimp := false) [sizeLine_eq]
                            exact hF _ ⟨_, _, _, _, _, by first | exact .inl rfl | exact .inr rfl, rfl⟩
                          | true =>
                            have hi3 : (decide ([a, b].length = 2) && [a, b].all isI) = true := hi2
                            simp only [List.length_cons, List.length_nil, List.all_cons, List.all_nil, Bool.and_true, Bool.and_eq_true] at hi3
                            obtain ⟨i, rfl⟩ := isI_int hi3.2.1
                            obtain ⟨j, rfl⟩ := isI_int hi3.2.2
                            simp (decide := true) (dsimp := false) [sizeLine_eq, cut31, shaped_two, shL]
                            have mP : ∀ {t : List Nat}, t ∈ L ↔ ∃ x y, (x < N ∧ y < N ∧ hexT (gM M) (gT T) x y = true) ∧ t = [x, y] := by
                              intro t
                              rw [mF]
                              simp only [and_assoc]
                            have pf : ModP N (gM M) (gT T) (.tuple [.str "hexagon", .int i, .int j]) ↔ ((setsD L).any fun z => PyData.eqv z (.tuple [.int i, .int j])) = true := ⟨fun h => by
                              obtain ⟨x', y', h1, h2, h3, e⟩ := modP_word nm h
                              injection e with e
                              injection e with _ e
                              injection e with ea e
                              injection e with eb _
                              injection ea with ea
                              injection eb with eb
                              exact (any_pair mP).mpr ⟨x', y', ⟨h1, h2, h3⟩, ea, eb⟩, fun h => by
                              obtain ⟨x', y', ⟨h1, h2, h3⟩, e1, e2⟩ := (any_pair mP).mp h
                              rw [e1, e2]
                              exact .inr ⟨x', y', h1, h2, h3, rfl⟩⟩
                            refine ⟨N, M, T, _, rfl, t, N2, N6, v2, fun bb hbb => ?_⟩
                            simp (decide := true) (dsimp := false) [sizeLine_eq]
                            have eb : bb = ((setsD L).any fun z => PyData.eqv z (.tuple [.int i, .int j])) := Bool.eq_iff_iff.mpr (hbb.trans pf)
                            subst eb
                            refine ⟨_, rfl, rfl, by simp [depD], ?_⟩
                            simp (decide := true) (dsimp := false) [sizeLine_eq]
                            exact hF _ ⟨_, _, _, _, _, by first | exact .inl rfl | exact .inr rfl, rfl⟩
                      | false =>
                        have nm : ¬ (v = .tuple [.str "modular"] ∧ ∀ x, x < N → ∀ y, y < N → hexT (gM M) (gT T) x y = false) := fun h => (nomatch hc.mpr h.1)
                        try simp (decide := true) (dsimp := false) [sizeLine_eq]
                        refine ⟨v, "hexagon", 3, rfl, by omega, v2, ?_⟩
                        cases hw : wordB "hexagon" 3 v with
                        | false =>
                          simp (decide := true) (dsimp := false) [sizeLine_eq]
                          refine ⟨N, M, T, _, rfl, t, N2, N6, v2, fun bb hbb => ?_⟩
                          simp (decide := true) (dsimp := false) [sizeLine_eq]
                          have eb : bb = false := Bool.eq_iff_iff.mpr (hbb.trans ⟨fun h => (by obtain ⟨_, _, _, _, _, e⟩ := modP_word nm h; rw [e] at hw; rw [wordB_str] at hw; simp at hw), fun z => (nomatch z)⟩)
                          subst eb
                          refine ⟨_, rfl, rfl, by simp [depD], ?_⟩
                          simp (decide := true) (dsimp := false) [sizeLine_eq]
                          exact hF _ ⟨_, _, _, _, _, by first | exact .inl rfl | exact .inr rfl, rfl⟩
                        | true =>
                          obtain ⟨a, b, rfl⟩ := wordB_3 hw
                          obtain ⟨_, hab⟩ := td_tup v2
                          simp (decide := true) (dsimp := false) [sizeLine_eq, cut31]
                          refine ⟨.tuple [a, b], 2, rfl, td_two (hab a (by simp)) (hab b (by simp)), ?_⟩
                          cases hi2 : intsB 2 (.tuple [a, b]) with
                          | false =>
                            simp (decide := true) (dsimp := false) [sizeLine_eq]
                            refine ⟨N, M, T, _, rfl, t, N2, N6, v2, fun bb hbb => ?_⟩
                            simp (decide := true) (dsimp := false) [sizeLine_eq]
                            have eb : bb = false := Bool.eq_iff_iff.mpr (hbb.trans ⟨fun h => (by obtain ⟨_, _, _, _, _, e⟩ := modP_word nm h; injection e with e; injection e with _ e; injection e with ea e; injection e with eb _; rw [ea, eb] at hi2; cases hi2), fun z => (nomatch z)⟩)
                            subst eb
                            refine ⟨_, rfl, rfl, by simp [depD], ?_⟩
                            simp (decide := true) (dsimp := false) [sizeLine_eq]
                            exact hF _ ⟨_, _, _, _, _, by first | exact .inl rfl | exact .inr rfl, rfl⟩
                          | true =>
                            have hi3 : (decide ([a, b].length = 2) && [a, b].all isI) = true := hi2
                            simp only [List.length_cons, List.length_nil, List.all_cons, List.all_nil, Bool.and_true, Bool.and_eq_true] at hi3
                            obtain ⟨i, rfl⟩ := isI_int hi3.2.1
                            obtain ⟨j, rfl⟩ := isI_int hi3.2.2
                            simp (decide := true) (dsimp := false) [sizeLine_eq, cut31, shaped_two, shL]
                            have mP : ∀ {t : List Nat}, t ∈ L ↔ ∃ x y, (x < N ∧ y < N ∧ hexT (gM M) (gT T) x y = true) ∧ t = [x, y] := by
                              intro t
                              rw [mF]
                              simp only [and_assoc]
                            have pf : ModP N (gM M) (gT T) (.tuple [.str "hexagon", .int i, .int j]) ↔ ((setsD L).any fun z => PyData.eqv z (.tuple [.int i, .int j])) = true := ⟨fun h => by
                              obtain ⟨x', y', h1, h2, h3, e⟩ := modP_word nm h
                              injection e with e
                              injection e with _ e
                              injection e with ea e
                              injection e with eb _
                              injection ea with ea
                              injection eb with eb
                              exact (any_pair mP).mpr ⟨x', y', ⟨h1, h2, h3⟩, ea, eb⟩, fun h => by
                              obtain ⟨x', y', ⟨h1, h2, h3⟩, e1, e2⟩ := (any_pair mP).mp h
                              rw [e1, e2]
                              exact .inr ⟨x', y', h1, h2, h3, rfl⟩⟩
                            refine ⟨N, M, T, _, rfl, t, N2, N6, v2, fun bb hbb => ?_⟩
                            simp (decide := true) (dsimp := false) [sizeLine_eq]
                            have eb : bb = ((setsD L).any fun z => PyData.eqv z (.tuple [.int i, .int j])) := Bool.eq_iff_iff.mpr (hbb.trans pf)
                            subst eb
                            refine ⟨_, rfl, rfl, by simp [depD], ?_⟩
                            simp (decide := true) (dsimp := false) [sizeLine_eq]
                            exact hF _ ⟨_, _, _, _, _, by first | exact .inl rfl | exact .inr rfl, rfl⟩
                  · obtain ⟨f8', x15, x16, x17, x18, hf', rfl⟩ := hi
                    simp (decide := true) (dsimp := false) []
end LW

/-! GLB: constants of a module: texts, ints, tuples of texts. -/
namespace DL
open PySem PySem.Spec PyProof.Rows L2
section
variable {K : PySem.W.Frag} {h : Heap} {mg : Str → Option Value} {x : Str} {p a : Addr}
theorem glOk_str {s : Str} {t : Tok} (X : K.In h) (G : h.Ns mainGlobals mg) (ha : PySem.W.nsIn K mainGlobals x = some (some (.str s t))) : GlOk K mg p x (.str s) :=
  ⟨.str s t, .str s, PySem.W.mg_of X G ha, ⟨t, rfl⟩, fun H => rfl⟩
theorem glOk_int {i : Int} {t : Tok} (X : K.In h) (G : h.Ns mainGlobals mg) (ha : PySem.W.nsIn K mainGlobals x = some (some (.int i t))) : GlOk K mg p x (.int i) :=
  ⟨.int i t, .int i, PySem.W.mg_of X G ha, ⟨t, rfl⟩, fun H => rfl⟩
theorem vals_strs : ∀ {ss : List Str} {vs : List Value}, vs.length = ss.length → (∀ (j : Nat) (s : Str) (v : Value), ss[j]? = some s → vs[j]? = some v → ∃ t, v = .str s t) → Vals (ss.map V.str) vs
  | [], [], _, _ => .nil
  | [], _ :: _, h, _ => by cases h
  | _ :: _, [], h, _ => by cases h
  | s :: ss, v :: vs, h, f => by
    obtain ⟨t, e⟩ := f 0 s v rfl rfl
    exact .cons ⟨t, e⟩ (vals_strs (by simpa using h) fun j s' v' e1 e2 => f (j + 1) s' v' (by simpa using e1) (by simpa using e2))
theorem repL_strs {H : Hp} : ∀ ss : List Str, RepL K p H (ss.map PyData.str) (ss.map V.str)
  | [] => rfl
  | s :: ss => ⟨_, _, rfl, rfl, repL_strs ss⟩
theorem glOk_ts {ss : List Str} {its : Array Value} {n : Nat} {sl : Array (Option Value)} (X : K.In h) (G : h.Ns mainGlobals mg) (ha : PySem.W.nsIn K mainGlobals x = some (some (.ref a))) (l : K.lookup a = some ⟨.type "tuple", none, .seq its n, sl⟩) (hl : its.size ≤ sizeLine) (r : Vals (ss.map V.str) its.toList) : GlOk K mg p x (.tuple (ss.map PyData.str)) :=
  ⟨.ref a, .ref a, PySem.W.mg_of X G ha, rfl, fun H => ⟨a, ss.map V.str, rfl, ⟨.inr ⟨_, its, n, l, rfl, rfl, hl, r⟩, .inr ⟨_, l, rfl⟩⟩, repL_strs ss⟩⟩
end
end DL

namespace LW
open PySem PySem.Spec PyProof.Rows L2 DL
section
variable {Pr : Program} {w : World} {K : PySem.W.Frag} {mg : Str → Option Value} {base : Heap}
theorem scL : FnScope ["script", "pool", "sets", "lattice", "number", "meets", "turned", "zero", "found", "both", "least", "x", "y", "left", "right", "told", "tried", "value", "due", "k", "pair"] ["script"] (defScope s_law) := ⟨rfl, rfl, rfl, by decide +kernel, rfl, by decide +kernel, by decide +kernel⟩
def restL : List Stmt := (defBody s_law).drop 1
abbrev TL : Tb := ⟨[("_law_bent", 26), ("_law_same", 19), ("is_modular_paper", 9), ("_law_is_row", 29), ("_law_is_worded", 27), ("_law_draw", 16), ("modular_paper", 7), ("_law_join", 18), ("commutes", 6), ("is_lattice", 3), ("_law_lattice", 14), ("_law_room", 17)], []⟩
theorem t_law : cSL (cS TL ["script", "pool", "sets", "lattice", "number", "meets", "turned", "zero", "found", "both", "least", "x", "y", "left", "right", "told", "tried", "value", "due", "k", "pair"] 40 (defScope s_law) 40) restL = some c_law := by rfl
structure Defs (K : PySem.W.Frag) (mg : Str → Option Value) : Prop where
  is_integer_ : DefAt K mg "is_integer" s_is_integer ["value"]
  is_table_ : DefAt K mg "is_table" s_is_table ["value", "number"]
  is_list_of_elements_ : DefAt K mg "is_list_of_elements" s_is_list_of_elements ["value", "number"]
  is_lattice_ : DefAt K mg "is_lattice" s_is_lattice ["value"]
  join_in_ : DefAt K mg "join_in" s_join_in ["lattice", "x", "y"]
  zero_of_ : DefAt K mg "zero_of" s_zero_of ["lattice"]
  commutes_ : DefAt K mg "commutes" s_commutes ["lattice", "x", "y"]
  modular_paper_ : DefAt K mg "modular_paper" s_modular_paper ["lattice"]
  is_hexagon_ : DefAt K mg "is_hexagon" s_is_hexagon ["lattice", "value"]
  is_modular_paper_ : DefAt K mg "is_modular_paper" s_is_modular_paper ["lattice", "value"]
  law_pool_ : DefAt K mg "_law_pool" s_law_pool ["script"]
  law_table_ : DefAt K mg "_law_table" s_law_table ["room"]
  law_subsets_ : DefAt K mg "_law_subsets" s_law_subsets ["number"]
  law_opposite_ : DefAt K mg "_law_opposite" s_law_opposite ["table", "points"]
  law_lattice_ : DefAt K mg "_law_lattice" s_law_lattice ["room"]
  law_spread_ : DefAt K mg "_law_spread" s_law_spread ["cell"]
  law_draw_ : DefAt K mg "_law_draw" s_law_draw ["pool", "many"]
  law_room_ : DefAt K mg "_law_room" s_law_room ["pool", "most", "names"]
  law_join_ : DefAt K mg "_law_join" s_law_join ["lattice", "x", "y"]
  law_same_ : DefAt K mg "_law_same" s_law_same ["actual", "due"]
  law_spots_ : DefAt K mg "_law_spots" s_law_spots ["value", "path"]
  law_pick_ : DefAt K mg "_law_pick" s_law_pick ["pool", "items"]
  law_spot_put_ : DefAt K mg "_law_spot_put" s_law_spot_put ["value", "path", "item"]
  law_bent_spot_ : DefAt K mg "_law_bent_spot" s_law_bent_spot ["pool", "value"]
  law_spot_ : DefAt K mg "_law_spot" s_law_spot ["value", "path"]
  law_odd_values_ : DefAt K mg "_law_odd_values" s_law_odd_values []
  law_bent_ : DefAt K mg "_law_bent" s_law_bent ["pool", "paper", "many"]
  law_is_worded_ : DefAt K mg "_law_is_worded" s_law_is_worded ["value", "word", "length"]
  law_is_integer_ : DefAt K mg "_law_is_integer" s_law_is_integer ["actual"]
  law_is_row_ : DefAt K mg "_law_is_row" s_law_is_row ["value", "many"]
  blts : ∀ y ∈ bltNames, mg y = none
  gMOST_ELEMENTS : ∀ p, GlOk K mg p "MOST_ELEMENTS" (.int 64)
variable {p a0 : Addr}
theorem D_law_spread (A : Defs K mg) : DefOk Pr w K mg base p a0 "_law_spread" 1 spSpread := A.law_spread_.ok (G := G0) sc_law_spread t_law_spread A.blts calls_nil calls_nil w_law_spread
theorem D_law_draw (A : Defs K mg) : DefOk Pr w K mg base p a0 "_law_draw" 2 spDraw := A.law_draw_.hand fun F => ok_draw F (D_law_spread A) (A.blts _ (by decide)) (A.blts _ (by decide))
theorem D_law_table (A : Defs K mg) : DefOk Pr w K mg base p a0 "_law_table" 1 spTable := A.law_table_.hand fun F => ok_law_table F (A.blts _ (by decide))
theorem D_law_same (A : Defs K mg) : ∀ n, DefOk Pr w K mg base p a0 "_law_same" n (spSame n)
  | 0 => A.law_same_.none fun ds Q h => by
    obtain ⟨_, _, _, h, _⟩ := h
    exact Nat.not_lt_zero _ h
  | n + 1 => A.law_same_.ok (G := Gsa n) sc_law_same t_law_same A.blts (calls_cons ⟨_, rfl, D_law_same A n⟩ calls_nil) calls_nil (w_law_same n)
theorem D_law_pick (A : Defs K mg) : DefOk Pr w K mg base p a0 "_law_pick" 3 spPick := A.law_pick_.ok (G := Gdr) sc_law_pick t_law_pick A.blts (calls_cons ⟨_, rfl, (D_law_draw A).mono (by decide)⟩ calls_nil) calls_nil w_law_pick
theorem D_is_integer (A : Defs K mg) : DefOk Pr w K mg base p a0 "is_integer" 1 spIsI := A.is_integer_.ok (G := G0) sc_is_integer t_is_integer A.blts calls_nil calls_nil w_is_integer
theorem D_law_is_integer (A : Defs K mg) : DefOk Pr w K mg base p a0 "_law_is_integer" 1 spIsI := A.law_is_integer_.ok (G := G0) sc_law_is_integer t_law_is_integer A.blts calls_nil calls_nil w_law_is_integer
theorem D_law_opposite (A : Defs K mg) : DefOk Pr w K mg base p a0 "_law_opposite" 1 spOppT := A.law_opposite_.ok (G := G0) sc_law_opposite t_law_opposite A.blts calls_nil calls_nil w_law_opposite
theorem D_law_room (A : Defs K mg) : DefOk Pr w K mg base p a0 "_law_room" 3 spRoom := A.law_room_.ok (G := Grm) sc_law_room t_law_room A.blts (calls_cons ⟨_, rfl, (D_law_draw A).mono (by decide)⟩ (calls_cons ⟨_, rfl, (D_law_opposite A).mono (by decide)⟩ (calls_cons ⟨_, rfl, (D_law_table A).mono (by decide)⟩ calls_nil))) calls_nil w_law_room
theorem D_is_list_of_elements (A : Defs K mg) : DefOk Pr w K mg base p a0 "is_list_of_elements" 2 spElB := A.is_list_of_elements_.ok (G := Gel) sc_is_list_of_elements t_is_list_of_elements A.blts (calls_cons ⟨_, rfl, (D_is_integer A).mono (by decide)⟩ calls_nil) calls_nil w_is_list_of_elements
theorem D_is_table (A : Defs K mg) : DefOk Pr w K mg base p a0 "is_table" 3 spTblB := A.is_table_.ok (G := Gtb) sc_is_table t_is_table A.blts (calls_cons ⟨_, rfl, (D_is_list_of_elements A).mono (by decide)⟩ calls_nil) calls_nil w_is_table
theorem D_is_lattice (A : Defs K mg) : DefOk Pr w K mg base p a0 "is_lattice" 4 spIsLat := A.is_lattice_.ok (G := Gtb) sc_is_lattice t_is_lattice A.blts (calls_cons ⟨_, rfl, (D_is_list_of_elements A).mono (by decide)⟩ (calls_cons ⟨_, rfl, (D_is_table A).mono (by decide)⟩ (calls_cons ⟨_, rfl, (D_is_integer A).mono (by decide)⟩ calls_nil))) (calls_cons ⟨_, rfl, A.gMOST_ELEMENTS p⟩ calls_nil) w_is_lattice
theorem D_join_in (A : Defs K mg) : DefOk Pr w K mg base p a0 "join_in" 1 spJoin := A.join_in_.ok (G := G0) sc_join_in t_join_in A.blts calls_nil calls_nil w_join_in
theorem D_zero_of (A : Defs K mg) : DefOk Pr w K mg base p a0 "zero_of" 1 spZero := A.zero_of_.ok (G := G0) sc_zero_of t_zero_of A.blts calls_nil calls_nil w_zero_of
theorem D_commutes (A : Defs K mg) : DefOk Pr w K mg base p a0 "commutes" 2 spCom := A.commutes_.ok (G := Gcm) sc_commutes t_commutes A.blts (calls_cons ⟨_, rfl, (D_join_in A).mono (by decide)⟩ calls_nil) calls_nil w_commutes
theorem D_modular_paper (A : Defs K mg) : DefOk Pr w K mg base p a0 "modular_paper" 2 spMod := A.modular_paper_.ok (G := Gcm) sc_modular_paper t_modular_paper A.blts (calls_cons ⟨_, rfl, (D_zero_of A).mono (by decide)⟩ calls_nil) calls_nil w_modular_paper
theorem D_is_hexagon (A : Defs K mg) : DefOk Pr w K mg base p a0 "is_hexagon" 2 spIsHex := A.is_hexagon_.ok (G := Gcm) sc_is_hexagon t_is_hexagon A.blts (calls_cons ⟨_, rfl, (D_zero_of A).mono (by decide)⟩ (calls_cons ⟨_, rfl, (D_is_integer A).mono (by decide)⟩ calls_nil)) calls_nil w_is_hexagon
theorem D_is_modular_paper (A : Defs K mg) : DefOk Pr w K mg base p a0 "is_modular_paper" 3 spIsMod := A.is_modular_paper_.ok (G := Gcm) sc_is_modular_paper t_is_modular_paper A.blts (calls_cons ⟨_, rfl, (D_is_hexagon A).mono (by decide)⟩ (calls_cons ⟨_, rfl, (D_modular_paper A).mono (by decide)⟩ calls_nil)) calls_nil w_is_modular_paper
theorem D_law_subsets (A : Defs K mg) : DefOk Pr w K mg base p a0 "_law_subsets" 1 spSubs := A.law_subsets_.ok (G := G0) sc_law_subsets t_law_subsets A.blts calls_nil calls_nil w_law_subsets
theorem D_law_lattice (A : Defs K mg) : DefOk Pr w K mg base p a0 "_law_lattice" 2 spLat := A.law_lattice_.ok (G := Gla) sc_law_lattice t_law_lattice A.blts (calls_cons ⟨_, rfl, (D_law_opposite A).mono (by decide)⟩ (calls_cons ⟨_, rfl, (D_law_subsets A).mono (by decide)⟩ (calls_cons ⟨_, rfl, (D_law_table A).mono (by decide)⟩ calls_nil))) calls_nil w_law_lattice
theorem D_law_join (A : Defs K mg) : DefOk Pr w K mg base p a0 "_law_join" 1 spJoin := A.law_join_.ok (G := G0) sc_law_join t_law_join A.blts calls_nil calls_nil w_law_join
theorem D_law_is_worded (A : Defs K mg) : DefOk Pr w K mg base p a0 "_law_is_worded" 1 spWordB := A.law_is_worded_.ok (G := G0) sc_law_is_worded t_law_is_worded A.blts calls_nil calls_nil w_law_is_worded
theorem D_law_is_row (A : Defs K mg) : DefOk Pr w K mg base p a0 "_law_is_row" 2 spIntsB := A.law_is_row_.ok (G := Gel) sc_law_is_row t_law_is_row A.blts (calls_cons ⟨_, rfl, (D_law_is_integer A).mono (by decide)⟩ calls_nil) calls_nil w_law_is_row
theorem D_law_spots (A : Defs K mg) : ∀ n, DefOk Pr w K mg base p a0 "_law_spots" n (spSpots n)
  | 0 => A.law_spots_.none fun ds Q h => by
    obtain ⟨_, _, _, h, _⟩ := h
    exact Nat.not_lt_zero _ h
  | n + 1 => A.law_spots_.ok (G := Gsp n) sc_law_spots t_law_spots A.blts (calls_cons ⟨_, rfl, D_law_spots A n⟩ calls_nil) calls_nil (w_law_spots n)
theorem D_law_spot_put (A : Defs K mg) : ∀ n, DefOk Pr w K mg base p a0 "_law_spot_put" n (spPutP n)
  | 0 => A.law_spot_put_.none fun ds Q h => by
    obtain ⟨_, _, _, _, h, _⟩ := h
    exact Nat.not_lt_zero _ h
  | n + 1 => A.law_spot_put_.ok (G := Gpu n) sc_law_spot_put t_law_spot_put A.blts (calls_cons ⟨_, rfl, D_law_spot_put A n⟩ calls_nil) calls_nil (w_law_spot_put n)
theorem D_law_odd_values (A : Defs K mg) : DefOk Pr w K mg base p a0 "_law_odd_values" 1 spOdd := A.law_odd_values_.ok (G := G0) sc_law_odd_values t_law_odd_values A.blts calls_nil calls_nil w_law_odd_values
theorem D_law_bent_spot (A : Defs K mg) : DefOk Pr w K mg base p a0 "_law_bent_spot" 4 spBentSpot := A.law_bent_spot_.ok (G := Gbs) sc_law_bent_spot t_law_bent_spot A.blts (calls_cons ⟨_, rfl, (D_law_pick A).mono (by decide)⟩ calls_nil) calls_nil w_law_bent_spot
theorem D_law_spot (A : Defs K mg) : DefOk Pr w K mg base p a0 "_law_spot" 1 spSpot := A.law_spot_.ok (G := G0) sc_law_spot t_law_spot A.blts calls_nil calls_nil w_law_spot
theorem D_law_bent (A : Defs K mg) : DefOk Pr w K mg base p a0 "_law_bent" 21 (spBent 20) := A.law_bent_.ok (G := (Gbe 20)) sc_law_bent t_law_bent A.blts (calls_cons ⟨_, rfl, (D_law_odd_values A).mono (by decide)⟩ (calls_cons ⟨_, rfl, (D_law_spot_put A 20).mono (by decide)⟩ (calls_cons ⟨_, rfl, (D_law_bent_spot A).mono (by decide)⟩ (calls_cons ⟨_, rfl, (D_law_spot A).mono (by decide)⟩ (calls_cons ⟨_, rfl, (D_law_pick A).mono (by decide)⟩ (calls_cons ⟨_, rfl, (D_law_spots A 20).mono (by decide)⟩ calls_nil)))))) calls_nil (w_law_bent 20)
theorem ok_law {f : Addr} {fd : FuncData} (F : Fun K "law" "law" s_law f fd) (A : Defs K mg) : FnOk Pr w K mg base CX0 30 f fd ["script"] (spLaw K) := by
  obtain ⟨fP, fdP, FP, gP, bP⟩ := A.law_pool_
  have GP : FnOk Pr w K mg base CX0 1 fP fdP ["script"] (spPool K) := ok_pool FP (A.blts _ (by decide)) (A.blts _ (by decide))
  refine F.ok scL (fun vs H Q E h => ?_) (fun cdv A' outer s H vs Q E hr h => ?_)
  · obtain ⟨a, ns, rfl, _⟩ := h
    rfl
  · obtain ⟨a, ns, rfl, hS, hlen, q⟩ := h
    refine ⟨_, pss_cons (ps_set (i := 1) scL.nd rfl (by first | exact .inl rfl | exact .inr rfl) (pe_call GP (hr.mono (by decide)) rfl gP FP.kp bP .nil pass0 (pa_cons (pv 0) pa_nil))) (law_rest (rest := restL) t_law), ?_⟩
    refine ⟨_, rfl, a, ns, rfl, hS, hlen, fun p a0 H' sm np pk => ?_⟩
    exact law_go (a := a) (G := Gl) hr scL.nd rfl (by decide) (calls_cons ⟨_, rfl, (D_law_bent A).mono (by decide)⟩ (calls_cons ⟨_, rfl, (D_law_same A 8).mono (by decide)⟩ (calls_cons ⟨_, rfl, (D_is_modular_paper A).mono (by decide)⟩ (calls_cons ⟨_, rfl, (D_law_is_row A).mono (by decide)⟩ (calls_cons ⟨_, rfl, (D_law_is_worded A).mono (by decide)⟩ (calls_cons ⟨_, rfl, (D_law_draw A).mono (by decide)⟩ (calls_cons ⟨_, rfl, (D_modular_paper A).mono (by decide)⟩ (calls_cons ⟨_, rfl, (D_law_join A).mono (by decide)⟩ (calls_cons ⟨_, rfl, (D_commutes A).mono (by decide)⟩ (calls_cons ⟨_, rfl, (D_is_lattice A).mono (by decide)⟩ (calls_cons ⟨_, rfl, (D_law_lattice A).mono (by decide)⟩ (calls_cons ⟨_, rfl, (D_law_room A).mono (by decide)⟩ calls_nil)))))))))))) calls_nil A.blts pk w_law q
end
theorem all_mk {l : PySem.W.OpenLaw} {w : World} {K : PySem.W.Frag} {h : Heap} {mg : Str → Option Value} {fa : Addr} (X : K.In h) (G : h.Ns mainGlobals mg) (hfa : mg "law" = some (.ref fa))
    {f0 : Addr} {od0 an0 : Option Addr} {sl0 : Array (Option Value)} {oc0 kV0 dc0 pm0 cd0 ct0 : Value} (a0 : PySem.W.nsIn K mainGlobals "is_integer" = some (some (.ref f0))) (l0 : K.lookup f0 = some ⟨oc0, od0, .func (PySem.W.fnOf "is_integer" "is_integer" (defArgs s_is_integer) (defBody s_is_integer) (defScope s_is_integer) .none kV0 dc0 pm0 an0 cd0 ct0), sl0⟩) (c0 : PySem.W.codeIn K cd0 "is_integer" = true) (k0 : PySem.W.keepIn K (.ref f0) = true)
    {f1 : Addr} {od1 an1 : Option Addr} {sl1 : Array (Option Value)} {oc1 kV1 dc1 pm1 cd1 ct1 : Value} (a1 : PySem.W.nsIn K mainGlobals "is_table" = some (some (.ref f1))) (l1 : K.lookup f1 = some ⟨oc1, od1, .func (PySem.W.fnOf "is_table" "is_table" (defArgs s_is_table) (defBody s_is_table) (defScope s_is_table) .none kV1 dc1 pm1 an1 cd1 ct1), sl1⟩) (c1 : PySem.W.codeIn K cd1 "is_table" = true) (k1 : PySem.W.keepIn K (.ref f1) = true)
    {f2 : Addr} {od2 an2 : Option Addr} {sl2 : Array (Option Value)} {oc2 kV2 dc2 pm2 cd2 ct2 : Value} (a2 : PySem.W.nsIn K mainGlobals "is_list_of_elements" = some (some (.ref f2))) (l2 : K.lookup f2 = some ⟨oc2, od2, .func (PySem.W.fnOf "is_list_of_elements" "is_list_of_elements" (defArgs s_is_list_of_elements) (defBody s_is_list_of_elements) (defScope s_is_list_of_elements) .none kV2 dc2 pm2 an2 cd2 ct2), sl2⟩) (c2 : PySem.W.codeIn K cd2 "is_list_of_elements" = true) (k2 : PySem.W.keepIn K (.ref f2) = true)
    {f3 : Addr} {od3 an3 : Option Addr} {sl3 : Array (Option Value)} {oc3 kV3 dc3 pm3 cd3 ct3 : Value} (a3 : PySem.W.nsIn K mainGlobals "is_lattice" = some (some (.ref f3))) (l3 : K.lookup f3 = some ⟨oc3, od3, .func (PySem.W.fnOf "is_lattice" "is_lattice" (defArgs s_is_lattice) (defBody s_is_lattice) (defScope s_is_lattice) .none kV3 dc3 pm3 an3 cd3 ct3), sl3⟩) (c3 : PySem.W.codeIn K cd3 "is_lattice" = true) (k3 : PySem.W.keepIn K (.ref f3) = true)
    {f4 : Addr} {od4 an4 : Option Addr} {sl4 : Array (Option Value)} {oc4 kV4 dc4 pm4 cd4 ct4 : Value} (a4 : PySem.W.nsIn K mainGlobals "join_in" = some (some (.ref f4))) (l4 : K.lookup f4 = some ⟨oc4, od4, .func (PySem.W.fnOf "join_in" "join_in" (defArgs s_join_in) (defBody s_join_in) (defScope s_join_in) .none kV4 dc4 pm4 an4 cd4 ct4), sl4⟩) (c4 : PySem.W.codeIn K cd4 "join_in" = true) (k4 : PySem.W.keepIn K (.ref f4) = true)
    {f5 : Addr} {od5 an5 : Option Addr} {sl5 : Array (Option Value)} {oc5 kV5 dc5 pm5 cd5 ct5 : Value} (a5 : PySem.W.nsIn K mainGlobals "zero_of" = some (some (.ref f5))) (l5 : K.lookup f5 = some ⟨oc5, od5, .func (PySem.W.fnOf "zero_of" "zero_of" (defArgs s_zero_of) (defBody s_zero_of) (defScope s_zero_of) .none kV5 dc5 pm5 an5 cd5 ct5), sl5⟩) (c5 : PySem.W.codeIn K cd5 "zero_of" = true) (k5 : PySem.W.keepIn K (.ref f5) = true)
    {f6 : Addr} {od6 an6 : Option Addr} {sl6 : Array (Option Value)} {oc6 kV6 dc6 pm6 cd6 ct6 : Value} (a6 : PySem.W.nsIn K mainGlobals "commutes" = some (some (.ref f6))) (l6 : K.lookup f6 = some ⟨oc6, od6, .func (PySem.W.fnOf "commutes" "commutes" (defArgs s_commutes) (defBody s_commutes) (defScope s_commutes) .none kV6 dc6 pm6 an6 cd6 ct6), sl6⟩) (c6 : PySem.W.codeIn K cd6 "commutes" = true) (k6 : PySem.W.keepIn K (.ref f6) = true)
    {f7 : Addr} {od7 an7 : Option Addr} {sl7 : Array (Option Value)} {oc7 kV7 dc7 pm7 cd7 ct7 : Value} (a7 : PySem.W.nsIn K mainGlobals "modular_paper" = some (some (.ref f7))) (l7 : K.lookup f7 = some ⟨oc7, od7, .func (PySem.W.fnOf "modular_paper" "modular_paper" (defArgs s_modular_paper) (defBody s_modular_paper) (defScope s_modular_paper) .none kV7 dc7 pm7 an7 cd7 ct7), sl7⟩) (c7 : PySem.W.codeIn K cd7 "modular_paper" = true) (k7 : PySem.W.keepIn K (.ref f7) = true)
    {f8 : Addr} {od8 an8 : Option Addr} {sl8 : Array (Option Value)} {oc8 kV8 dc8 pm8 cd8 ct8 : Value} (a8 : PySem.W.nsIn K mainGlobals "is_hexagon" = some (some (.ref f8))) (l8 : K.lookup f8 = some ⟨oc8, od8, .func (PySem.W.fnOf "is_hexagon" "is_hexagon" (defArgs s_is_hexagon) (defBody s_is_hexagon) (defScope s_is_hexagon) .none kV8 dc8 pm8 an8 cd8 ct8), sl8⟩) (c8 : PySem.W.codeIn K cd8 "is_hexagon" = true) (k8 : PySem.W.keepIn K (.ref f8) = true)
    {f9 : Addr} {od9 an9 : Option Addr} {sl9 : Array (Option Value)} {oc9 kV9 dc9 pm9 cd9 ct9 : Value} (a9 : PySem.W.nsIn K mainGlobals "is_modular_paper" = some (some (.ref f9))) (l9 : K.lookup f9 = some ⟨oc9, od9, .func (PySem.W.fnOf "is_modular_paper" "is_modular_paper" (defArgs s_is_modular_paper) (defBody s_is_modular_paper) (defScope s_is_modular_paper) .none kV9 dc9 pm9 an9 cd9 ct9), sl9⟩) (c9 : PySem.W.codeIn K cd9 "is_modular_paper" = true) (k9 : PySem.W.keepIn K (.ref f9) = true)
    {f10 : Addr} {od10 an10 : Option Addr} {sl10 : Array (Option Value)} {oc10 kV10 dc10 pm10 cd10 ct10 : Value} (a10 : PySem.W.nsIn K mainGlobals "_law_pool" = some (some (.ref f10))) (l10 : K.lookup f10 = some ⟨oc10, od10, .func (PySem.W.fnOf "_law_pool" "_law_pool" (defArgs s_law_pool) (defBody s_law_pool) (defScope s_law_pool) .none kV10 dc10 pm10 an10 cd10 ct10), sl10⟩) (c10 : PySem.W.codeIn K cd10 "_law_pool" = true) (k10 : PySem.W.keepIn K (.ref f10) = true)
    {f11 : Addr} {od11 an11 : Option Addr} {sl11 : Array (Option Value)} {oc11 kV11 dc11 pm11 cd11 ct11 : Value} (a11 : PySem.W.nsIn K mainGlobals "_law_table" = some (some (.ref f11))) (l11 : K.lookup f11 = some ⟨oc11, od11, .func (PySem.W.fnOf "_law_table" "_law_table" (defArgs s_law_table) (defBody s_law_table) (defScope s_law_table) .none kV11 dc11 pm11 an11 cd11 ct11), sl11⟩) (c11 : PySem.W.codeIn K cd11 "_law_table" = true) (k11 : PySem.W.keepIn K (.ref f11) = true)
    {f12 : Addr} {od12 an12 : Option Addr} {sl12 : Array (Option Value)} {oc12 kV12 dc12 pm12 cd12 ct12 : Value} (a12 : PySem.W.nsIn K mainGlobals "_law_subsets" = some (some (.ref f12))) (l12 : K.lookup f12 = some ⟨oc12, od12, .func (PySem.W.fnOf "_law_subsets" "_law_subsets" (defArgs s_law_subsets) (defBody s_law_subsets) (defScope s_law_subsets) .none kV12 dc12 pm12 an12 cd12 ct12), sl12⟩) (c12 : PySem.W.codeIn K cd12 "_law_subsets" = true) (k12 : PySem.W.keepIn K (.ref f12) = true)
    {f13 : Addr} {od13 an13 : Option Addr} {sl13 : Array (Option Value)} {oc13 kV13 dc13 pm13 cd13 ct13 : Value} (a13 : PySem.W.nsIn K mainGlobals "_law_opposite" = some (some (.ref f13))) (l13 : K.lookup f13 = some ⟨oc13, od13, .func (PySem.W.fnOf "_law_opposite" "_law_opposite" (defArgs s_law_opposite) (defBody s_law_opposite) (defScope s_law_opposite) .none kV13 dc13 pm13 an13 cd13 ct13), sl13⟩) (c13 : PySem.W.codeIn K cd13 "_law_opposite" = true) (k13 : PySem.W.keepIn K (.ref f13) = true)
    {f14 : Addr} {od14 an14 : Option Addr} {sl14 : Array (Option Value)} {oc14 kV14 dc14 pm14 cd14 ct14 : Value} (a14 : PySem.W.nsIn K mainGlobals "_law_lattice" = some (some (.ref f14))) (l14 : K.lookup f14 = some ⟨oc14, od14, .func (PySem.W.fnOf "_law_lattice" "_law_lattice" (defArgs s_law_lattice) (defBody s_law_lattice) (defScope s_law_lattice) .none kV14 dc14 pm14 an14 cd14 ct14), sl14⟩) (c14 : PySem.W.codeIn K cd14 "_law_lattice" = true) (k14 : PySem.W.keepIn K (.ref f14) = true)
    {f15 : Addr} {od15 an15 : Option Addr} {sl15 : Array (Option Value)} {oc15 kV15 dc15 pm15 cd15 ct15 : Value} (a15 : PySem.W.nsIn K mainGlobals "_law_spread" = some (some (.ref f15))) (l15 : K.lookup f15 = some ⟨oc15, od15, .func (PySem.W.fnOf "_law_spread" "_law_spread" (defArgs s_law_spread) (defBody s_law_spread) (defScope s_law_spread) .none kV15 dc15 pm15 an15 cd15 ct15), sl15⟩) (c15 : PySem.W.codeIn K cd15 "_law_spread" = true) (k15 : PySem.W.keepIn K (.ref f15) = true)
    {f16 : Addr} {od16 an16 : Option Addr} {sl16 : Array (Option Value)} {oc16 kV16 dc16 pm16 cd16 ct16 : Value} (a16 : PySem.W.nsIn K mainGlobals "_law_draw" = some (some (.ref f16))) (l16 : K.lookup f16 = some ⟨oc16, od16, .func (PySem.W.fnOf "_law_draw" "_law_draw" (defArgs s_law_draw) (defBody s_law_draw) (defScope s_law_draw) .none kV16 dc16 pm16 an16 cd16 ct16), sl16⟩) (c16 : PySem.W.codeIn K cd16 "_law_draw" = true) (k16 : PySem.W.keepIn K (.ref f16) = true)
    {f17 : Addr} {od17 an17 : Option Addr} {sl17 : Array (Option Value)} {oc17 kV17 dc17 pm17 cd17 ct17 : Value} (a17 : PySem.W.nsIn K mainGlobals "_law_room" = some (some (.ref f17))) (l17 : K.lookup f17 = some ⟨oc17, od17, .func (PySem.W.fnOf "_law_room" "_law_room" (defArgs s_law_room) (defBody s_law_room) (defScope s_law_room) .none kV17 dc17 pm17 an17 cd17 ct17), sl17⟩) (c17 : PySem.W.codeIn K cd17 "_law_room" = true) (k17 : PySem.W.keepIn K (.ref f17) = true)
    {f18 : Addr} {od18 an18 : Option Addr} {sl18 : Array (Option Value)} {oc18 kV18 dc18 pm18 cd18 ct18 : Value} (a18 : PySem.W.nsIn K mainGlobals "_law_join" = some (some (.ref f18))) (l18 : K.lookup f18 = some ⟨oc18, od18, .func (PySem.W.fnOf "_law_join" "_law_join" (defArgs s_law_join) (defBody s_law_join) (defScope s_law_join) .none kV18 dc18 pm18 an18 cd18 ct18), sl18⟩) (c18 : PySem.W.codeIn K cd18 "_law_join" = true) (k18 : PySem.W.keepIn K (.ref f18) = true)
    {f19 : Addr} {od19 an19 : Option Addr} {sl19 : Array (Option Value)} {oc19 kV19 dc19 pm19 cd19 ct19 : Value} (a19 : PySem.W.nsIn K mainGlobals "_law_same" = some (some (.ref f19))) (l19 : K.lookup f19 = some ⟨oc19, od19, .func (PySem.W.fnOf "_law_same" "_law_same" (defArgs s_law_same) (defBody s_law_same) (defScope s_law_same) .none kV19 dc19 pm19 an19 cd19 ct19), sl19⟩) (c19 : PySem.W.codeIn K cd19 "_law_same" = true) (k19 : PySem.W.keepIn K (.ref f19) = true)
    {f20 : Addr} {od20 an20 : Option Addr} {sl20 : Array (Option Value)} {oc20 kV20 dc20 pm20 cd20 ct20 : Value} (a20 : PySem.W.nsIn K mainGlobals "_law_spots" = some (some (.ref f20))) (l20 : K.lookup f20 = some ⟨oc20, od20, .func (PySem.W.fnOf "_law_spots" "_law_spots" (defArgs s_law_spots) (defBody s_law_spots) (defScope s_law_spots) .none kV20 dc20 pm20 an20 cd20 ct20), sl20⟩) (c20 : PySem.W.codeIn K cd20 "_law_spots" = true) (k20 : PySem.W.keepIn K (.ref f20) = true)
    {f21 : Addr} {od21 an21 : Option Addr} {sl21 : Array (Option Value)} {oc21 kV21 dc21 pm21 cd21 ct21 : Value} (a21 : PySem.W.nsIn K mainGlobals "_law_pick" = some (some (.ref f21))) (l21 : K.lookup f21 = some ⟨oc21, od21, .func (PySem.W.fnOf "_law_pick" "_law_pick" (defArgs s_law_pick) (defBody s_law_pick) (defScope s_law_pick) .none kV21 dc21 pm21 an21 cd21 ct21), sl21⟩) (c21 : PySem.W.codeIn K cd21 "_law_pick" = true) (k21 : PySem.W.keepIn K (.ref f21) = true)
    {f22 : Addr} {od22 an22 : Option Addr} {sl22 : Array (Option Value)} {oc22 kV22 dc22 pm22 cd22 ct22 : Value} (a22 : PySem.W.nsIn K mainGlobals "_law_spot_put" = some (some (.ref f22))) (l22 : K.lookup f22 = some ⟨oc22, od22, .func (PySem.W.fnOf "_law_spot_put" "_law_spot_put" (defArgs s_law_spot_put) (defBody s_law_spot_put) (defScope s_law_spot_put) .none kV22 dc22 pm22 an22 cd22 ct22), sl22⟩) (c22 : PySem.W.codeIn K cd22 "_law_spot_put" = true) (k22 : PySem.W.keepIn K (.ref f22) = true)
    {f23 : Addr} {od23 an23 : Option Addr} {sl23 : Array (Option Value)} {oc23 kV23 dc23 pm23 cd23 ct23 : Value} (a23 : PySem.W.nsIn K mainGlobals "_law_bent_spot" = some (some (.ref f23))) (l23 : K.lookup f23 = some ⟨oc23, od23, .func (PySem.W.fnOf "_law_bent_spot" "_law_bent_spot" (defArgs s_law_bent_spot) (defBody s_law_bent_spot) (defScope s_law_bent_spot) .none kV23 dc23 pm23 an23 cd23 ct23), sl23⟩) (c23 : PySem.W.codeIn K cd23 "_law_bent_spot" = true) (k23 : PySem.W.keepIn K (.ref f23) = true)
    {f24 : Addr} {od24 an24 : Option Addr} {sl24 : Array (Option Value)} {oc24 kV24 dc24 pm24 cd24 ct24 : Value} (a24 : PySem.W.nsIn K mainGlobals "_law_spot" = some (some (.ref f24))) (l24 : K.lookup f24 = some ⟨oc24, od24, .func (PySem.W.fnOf "_law_spot" "_law_spot" (defArgs s_law_spot) (defBody s_law_spot) (defScope s_law_spot) .none kV24 dc24 pm24 an24 cd24 ct24), sl24⟩) (c24 : PySem.W.codeIn K cd24 "_law_spot" = true) (k24 : PySem.W.keepIn K (.ref f24) = true)
    {f25 : Addr} {od25 an25 : Option Addr} {sl25 : Array (Option Value)} {oc25 kV25 dc25 pm25 cd25 ct25 : Value} (a25 : PySem.W.nsIn K mainGlobals "_law_odd_values" = some (some (.ref f25))) (l25 : K.lookup f25 = some ⟨oc25, od25, .func (PySem.W.fnOf "_law_odd_values" "_law_odd_values" (defArgs s_law_odd_values) (defBody s_law_odd_values) (defScope s_law_odd_values) .none kV25 dc25 pm25 an25 cd25 ct25), sl25⟩) (c25 : PySem.W.codeIn K cd25 "_law_odd_values" = true) (k25 : PySem.W.keepIn K (.ref f25) = true)
    {f26 : Addr} {od26 an26 : Option Addr} {sl26 : Array (Option Value)} {oc26 kV26 dc26 pm26 cd26 ct26 : Value} (a26 : PySem.W.nsIn K mainGlobals "_law_bent" = some (some (.ref f26))) (l26 : K.lookup f26 = some ⟨oc26, od26, .func (PySem.W.fnOf "_law_bent" "_law_bent" (defArgs s_law_bent) (defBody s_law_bent) (defScope s_law_bent) .none kV26 dc26 pm26 an26 cd26 ct26), sl26⟩) (c26 : PySem.W.codeIn K cd26 "_law_bent" = true) (k26 : PySem.W.keepIn K (.ref f26) = true)
    {f27 : Addr} {od27 an27 : Option Addr} {sl27 : Array (Option Value)} {oc27 kV27 dc27 pm27 cd27 ct27 : Value} (a27 : PySem.W.nsIn K mainGlobals "_law_is_worded" = some (some (.ref f27))) (l27 : K.lookup f27 = some ⟨oc27, od27, .func (PySem.W.fnOf "_law_is_worded" "_law_is_worded" (defArgs s_law_is_worded) (defBody s_law_is_worded) (defScope s_law_is_worded) .none kV27 dc27 pm27 an27 cd27 ct27), sl27⟩) (c27 : PySem.W.codeIn K cd27 "_law_is_worded" = true) (k27 : PySem.W.keepIn K (.ref f27) = true)
    {f28 : Addr} {od28 an28 : Option Addr} {sl28 : Array (Option Value)} {oc28 kV28 dc28 pm28 cd28 ct28 : Value} (a28 : PySem.W.nsIn K mainGlobals "_law_is_integer" = some (some (.ref f28))) (l28 : K.lookup f28 = some ⟨oc28, od28, .func (PySem.W.fnOf "_law_is_integer" "_law_is_integer" (defArgs s_law_is_integer) (defBody s_law_is_integer) (defScope s_law_is_integer) .none kV28 dc28 pm28 an28 cd28 ct28), sl28⟩) (c28 : PySem.W.codeIn K cd28 "_law_is_integer" = true) (k28 : PySem.W.keepIn K (.ref f28) = true)
    {f29 : Addr} {od29 an29 : Option Addr} {sl29 : Array (Option Value)} {oc29 kV29 dc29 pm29 cd29 ct29 : Value} (a29 : PySem.W.nsIn K mainGlobals "_law_is_row" = some (some (.ref f29))) (l29 : K.lookup f29 = some ⟨oc29, od29, .func (PySem.W.fnOf "_law_is_row" "_law_is_row" (defArgs s_law_is_row) (defBody s_law_is_row) (defScope s_law_is_row) .none kV29 dc29 pm29 an29 cd29 ct29), sl29⟩) (c29 : PySem.W.codeIn K cd29 "_law_is_row" = true) (k29 : PySem.W.keepIn K (.ref f29) = true)
    {f30 : Addr} {od30 an30 : Option Addr} {sl30 : Array (Option Value)} {oc30 kV30 dc30 pm30 cd30 ct30 : Value} (a30 : PySem.W.nsIn K mainGlobals "law" = some (some (.ref f30))) (l30 : K.lookup f30 = some ⟨oc30, od30, .func (PySem.W.fnOf "law" "law" (defArgs s_law) (defBody s_law) (defScope s_law) .none kV30 dc30 pm30 an30 cd30 ct30), sl30⟩) (c30 : PySem.W.codeIn K cd30 "law" = true) (k30 : PySem.W.keepIn K (.ref f30) = true)
    {tg0 : Tok} (ga0h : PySem.W.nsIn K mainGlobals "MOST_ELEMENTS" = some (some (.int 64 tg0)))
    (z0 : PySem.W.nsIn K mainGlobals "len" = some none)
    (z1 : PySem.W.nsIn K mainGlobals "int" = some none)
    (z2 : PySem.W.nsIn K mainGlobals "tuple" = some none)
    (z3 : PySem.W.nsIn K mainGlobals "list" = some none)
    (z4 : PySem.W.nsIn K mainGlobals "sum" = some none)
    (z5 : PySem.W.nsIn K mainGlobals "all" = some none)
    (z6 : PySem.W.nsIn K mainGlobals "any" = some none)
    (z7 : PySem.W.nsIn K mainGlobals "isinstance" = some none)
    (z8 : PySem.W.nsIn K mainGlobals "bool" = some none)
    (z9 : PySem.W.nsIn K mainGlobals "str" = some none)
    (z10 : PySem.W.nsIn K mainGlobals "dict" = some none)
    (z11 : PySem.W.nsIn K mainGlobals "range" = some none)
    (z12 : PySem.W.nsIn K mainGlobals "sorted" = some none)
    (z13 : PySem.W.nsIn K mainGlobals "repr" = some none) :
    ∃ fd : FuncData, (∀ (s : Shared) (v : Value), BindsTo s fd ⟨[v], []⟩ [("script", v)]) ∧ ∀ base : Heap, K.In base → base.Ns mainGlobals mg → FnOk l.prog w K mg base CX0 30 fa fd ["script"] (spLaw K) := by
  have e := hfa.symm.trans (PySem.W.mg_of X G a30)
  cases e
  have A : Defs K mg := ⟨defAt_mk X G a0 l0 c0 k0 fun _ _ _ _ _ _ us hl => match us, hl with | [_], _ => rfl,
    defAt_mk X G a1 l1 c1 k1 fun _ _ _ _ _ _ us hl => match us, hl with | [_, _], _ => rfl,
    defAt_mk X G a2 l2 c2 k2 fun _ _ _ _ _ _ us hl => match us, hl with | [_, _], _ => rfl,
    defAt_mk X G a3 l3 c3 k3 fun _ _ _ _ _ _ us hl => match us, hl with | [_], _ => rfl,
    defAt_mk X G a4 l4 c4 k4 fun _ _ _ _ _ _ us hl => match us, hl with | [_, _, _], _ => rfl,
    defAt_mk X G a5 l5 c5 k5 fun _ _ _ _ _ _ us hl => match us, hl with | [_], _ => rfl,
    defAt_mk X G a6 l6 c6 k6 fun _ _ _ _ _ _ us hl => match us, hl with | [_, _, _], _ => rfl,
    defAt_mk X G a7 l7 c7 k7 fun _ _ _ _ _ _ us hl => match us, hl with | [_], _ => rfl,
    defAt_mk X G a8 l8 c8 k8 fun _ _ _ _ _ _ us hl => match us, hl with | [_, _], _ => rfl,
    defAt_mk X G a9 l9 c9 k9 fun _ _ _ _ _ _ us hl => match us, hl with | [_, _], _ => rfl,
    defAt_mk X G a10 l10 c10 k10 fun _ _ _ _ _ _ us hl => match us, hl with | [_], _ => rfl,
    defAt_mk X G a11 l11 c11 k11 fun _ _ _ _ _ _ us hl => match us, hl with | [_], _ => rfl,
    defAt_mk X G a12 l12 c12 k12 fun _ _ _ _ _ _ us hl => match us, hl with | [_], _ => rfl,
    defAt_mk X G a13 l13 c13 k13 fun _ _ _ _ _ _ us hl => match us, hl with | [_, _], _ => rfl,
    defAt_mk X G a14 l14 c14 k14 fun _ _ _ _ _ _ us hl => match us, hl with | [_], _ => rfl,
    defAt_mk X G a15 l15 c15 k15 fun _ _ _ _ _ _ us hl => match us, hl with | [_], _ => rfl,
    defAt_mk X G a16 l16 c16 k16 fun _ _ _ _ _ _ us hl => match us, hl with | [_, _], _ => rfl,
    defAt_mk X G a17 l17 c17 k17 fun _ _ _ _ _ _ us hl => match us, hl with | [_, _, _], _ => rfl,
    defAt_mk X G a18 l18 c18 k18 fun _ _ _ _ _ _ us hl => match us, hl with | [_, _, _], _ => rfl,
    defAt_mk X G a19 l19 c19 k19 fun _ _ _ _ _ _ us hl => match us, hl with | [_, _], _ => rfl,
    defAt_mk X G a20 l20 c20 k20 fun _ _ _ _ _ _ us hl => match us, hl with | [_, _], _ => rfl,
    defAt_mk X G a21 l21 c21 k21 fun _ _ _ _ _ _ us hl => match us, hl with | [_, _], _ => rfl,
    defAt_mk X G a22 l22 c22 k22 fun _ _ _ _ _ _ us hl => match us, hl with | [_, _, _], _ => rfl,
    defAt_mk X G a23 l23 c23 k23 fun _ _ _ _ _ _ us hl => match us, hl with | [_, _], _ => rfl,
    defAt_mk X G a24 l24 c24 k24 fun _ _ _ _ _ _ us hl => match us, hl with | [_, _], _ => rfl,
    defAt_mk X G a25 l25 c25 k25 fun _ _ _ _ _ _ us hl => match us, hl with | [], _ => rfl,
    defAt_mk X G a26 l26 c26 k26 fun _ _ _ _ _ _ us hl => match us, hl with | [_, _, _], _ => rfl,
    defAt_mk X G a27 l27 c27 k27 fun _ _ _ _ _ _ us hl => match us, hl with | [_, _, _], _ => rfl,
    defAt_mk X G a28 l28 c28 k28 fun _ _ _ _ _ _ us hl => match us, hl with | [_], _ => rfl,
    defAt_mk X G a29 l29 c29 k29 fun _ _ _ _ _ _ us hl => match us, hl with | [_, _], _ => rfl,
    blt_all (PySem.W.mg_none_of X G z0) (PySem.W.mg_none_of X G z1) (PySem.W.mg_none_of X G z2) (PySem.W.mg_none_of X G z3) (PySem.W.mg_none_of X G z4) (PySem.W.mg_none_of X G z5) (PySem.W.mg_none_of X G z6) (PySem.W.mg_none_of X G z7) (PySem.W.mg_none_of X G z8) (PySem.W.mg_none_of X G z9) (PySem.W.mg_none_of X G z10) (PySem.W.mg_none_of X G z11) (PySem.W.mg_none_of X G z12) (PySem.W.mg_none_of X G z13),
    fun p => glOk_int X G ga0h⟩
  exact ⟨_, fun s v => .of_eq rfl, fun base _ _ => ok_law (fun_mk l30 c30 k30) A⟩
end LW
open PySem PySem.W PyProof.Rows
set_option maxRecDepth 100000 in
set_option maxHeartbeats 0 in
theorem PySem.Challenge.cw_orthorooms_k23_whole_hexagons_holds : PySem.Challenge.rw_orthorooms_k23_whole_hexagons.Holds := by
  w_on; o_law; k_head; (case hw => w_witness2)
  k_fill
  refine L2.walk_of (l := PySem.Challenge.rw_orthorooms_k23_whole_hexagons) (n := 63) (k := 30) (x := "script") (CX := fun _ => L2.CX0) (sp := fun w => DL.spLaw _) rfl (by decide) rfl ⟨rfl, by decide, by decide⟩ (fun w h Y => PySem.W.kIn_of Y) ?F (fun _ _ a ns hl _ hS => ⟨a, ns, rfl, hS, hl, fun _ => rfl⟩) (fun _ _ _ _ _ h => h)
  case F =>
    intro w mg fa h KX G hmg
    refine' LW.all_mk KX G hmg ?a0 ?l0 ?c0 ?k0 ?a1 ?l1 ?c1 ?k1 ?a2 ?l2 ?c2 ?k2 ?a3 ?l3 ?c3 ?k3 ?a4 ?l4 ?c4 ?k4 ?a5 ?l5 ?c5 ?k5 ?a6 ?l6 ?c6 ?k6 ?a7 ?l7 ?c7 ?k7 ?a8 ?l8 ?c8 ?k8 ?a9 ?l9 ?c9 ?k9 ?a10 ?l10 ?c10 ?k10 ?a11 ?l11 ?c11 ?k11 ?a12 ?l12 ?c12 ?k12 ?a13 ?l13 ?c13 ?k13 ?a14 ?l14 ?c14 ?k14 ?a15 ?l15 ?c15 ?k15 ?a16 ?l16 ?c16 ?k16 ?a17 ?l17 ?c17 ?k17 ?a18 ?l18 ?c18 ?k18 ?a19 ?l19 ?c19 ?k19 ?a20 ?l20 ?c20 ?k20 ?a21 ?l21 ?c21 ?k21 ?a22 ?l22 ?c22 ?k22 ?a23 ?l23 ?c23 ?k23 ?a24 ?l24 ?c24 ?k24 ?a25 ?l25 ?c25 ?k25 ?a26 ?l26 ?c26 ?k26 ?a27 ?l27 ?c27 ?k27 ?a28 ?l28 ?c28 ?k28 ?a29 ?l29 ?c29 ?k29 ?a30 ?l30 ?c30 ?k30 ?ga0h ?z0 ?z1 ?z2 ?z3 ?z4 ?z5 ?z6 ?z7 ?z8 ?z9 ?z10 ?z11 ?z12 ?z13
    (case a0 => k_is)
    (case l0 => k_is)
    (case c0 => k_is)
    (case k0 => k_is)
    (case a1 => k_is)
    (case l1 => k_is)
    (case c1 => k_is)
    (case k1 => k_is)
    (case a2 => k_is)
    (case l2 => k_is)
    (case c2 => k_is)
    (case k2 => k_is)
    (case a3 => k_is)
    (case l3 => k_is)
    (case c3 => k_is)
    (case k3 => k_is)
    (case a4 => k_is)
    (case l4 => k_is)
    (case c4 => k_is)
    (case k4 => k_is)
    (case a5 => k_is)
    (case l5 => k_is)
    (case c5 => k_is)
    (case k5 => k_is)
    (case a6 => k_is)
    (case l6 => k_is)
    (case c6 => k_is)
    (case k6 => k_is)
    (case a7 => k_is)
    (case l7 => k_is)
    (case c7 => k_is)
    (case k7 => k_is)
    (case a8 => k_is)
    (case l8 => k_is)
    (case c8 => k_is)
    (case k8 => k_is)
    (case a9 => k_is)
    (case l9 => k_is)
    (case c9 => k_is)
    (case k9 => k_is)
    (case a10 => k_is)
    (case l10 => k_is)
    (case c10 => k_is)
    (case k10 => k_is)
    (case a11 => k_is)
    (case l11 => k_is)
    (case c11 => k_is)
    (case k11 => k_is)
    (case a12 => k_is)
    (case l12 => k_is)
    (case c12 => k_is)
    (case k12 => k_is)
    (case a13 => k_is)
    (case l13 => k_is)
    (case c13 => k_is)
    (case k13 => k_is)
    (case a14 => k_is)
    (case l14 => k_is)
    (case c14 => k_is)
    (case k14 => k_is)
    (case a15 => k_is)
    (case l15 => k_is)
    (case c15 => k_is)
    (case k15 => k_is)
    (case a16 => k_is)
    (case l16 => k_is)
    (case c16 => k_is)
    (case k16 => k_is)
    (case a17 => k_is)
    (case l17 => k_is)
    (case c17 => k_is)
    (case k17 => k_is)
    (case a18 => k_is)
    (case l18 => k_is)
    (case c18 => k_is)
    (case k18 => k_is)
    (case a19 => k_is)
    (case l19 => k_is)
    (case c19 => k_is)
    (case k19 => k_is)
    (case a20 => k_is)
    (case l20 => k_is)
    (case c20 => k_is)
    (case k20 => k_is)
    (case a21 => k_is)
    (case l21 => k_is)
    (case c21 => k_is)
    (case k21 => k_is)
    (case a22 => k_is)
    (case l22 => k_is)
    (case c22 => k_is)
    (case k22 => k_is)
    (case a23 => k_is)
    (case l23 => k_is)
    (case c23 => k_is)
    (case k23 => k_is)
    (case a24 => k_is)
    (case l24 => k_is)
    (case c24 => k_is)
    (case k24 => k_is)
    (case a25 => k_is)
    (case l25 => k_is)
    (case c25 => k_is)
    (case k25 => k_is)
    (case a26 => k_is)
    (case l26 => k_is)
    (case c26 => k_is)
    (case k26 => k_is)
    (case a27 => k_is)
    (case l27 => k_is)
    (case c27 => k_is)
    (case k27 => k_is)
    (case a28 => k_is)
    (case l28 => k_is)
    (case c28 => k_is)
    (case k28 => k_is)
    (case a29 => k_is)
    (case l29 => k_is)
    (case c29 => k_is)
    (case k29 => k_is)
    (case a30 => k_is)
    (case l30 => k_is)
    (case c30 => k_is)
    (case k30 => k_is)
    (case ga0h => k_is)
    (case z0 => k_is)
    (case z1 => k_is)
    (case z2 => k_is)
    (case z3 => k_is)
    (case z4 => k_is)
    (case z5 => k_is)
    (case z6 => k_is)
    (case z7 => k_is)
    (case z8 => k_is)
    (case z9 => k_is)
    (case z10 => k_is)
    (case z11 => k_is)
    (case z12 => k_is)
    (case z13 => k_is)
#print axioms PySem.Challenge.cw_orthorooms_k23_whole_hexagons_holds

