import PyProof.Rows.All
import Wide.All
import OpenK.AllK
import Wide.FinOn
import HandS.ForMost
import HandS.IsInst
import HandS.TupAny
import HandS.Deep
import HandS.Walk
import HandS.Evl
import HandS.SortInts
import HandS.Style
import HandS.Conv
import HandS.DictComp
import HandS.Text
import HandS.TupMul
import KE.DataCmp
import KE.KDictPairs
import PyProof.StrLawsIn
import PyProof.Rows.RegFStrParts
import PySem.Challenge.RW_orthorooms_k10_whole_derivations_judged
set_option Elab.async false
set_option linter.all false
set_option maxRecDepth 100000
set_option maxHeartbeats 4000000
/-! DL1: a small core language with slots in the place of names, and its weakest preconditions over plain data. -/
namespace DL
open PySem PySem.Spec PyProof.Rows L2
abbrev D := PyData
/-- the built-in classes that isinstance asks for -/
inductive BT where
  | bint | bbool | bstr | btuple | blist | bdict
  deriving DecidableEq
/-- built-ins of one argument -/
inductive BF where
  | len | int | tuple | list | sum | all | any | sorted | dict | str
  deriving DecidableEq
inductive CT where
  | nm (i : Nat)
  | tp (is : List Nat)
mutual
inductive CE where
  | var (i : Nat)
  | non | bl (b : Bool) | int (i : Int) | str (s : Str)
  | glb (k : Nat)
  | bin (op : Operator) (a b : CE)
  | cmp (op : CmpOp) (a b : CE)
  | chn (op op' : CmpOp) (a b c : CE)
  | neg (a : CE)
  | not (a : CE)
  | and (a b : CE)
  | or (a b : CE)
  | ite (c a b : CE)
  | tup (as : CEs)
  | lst (as : CEs)
  | ix (a i : CE)
  | sl (a : CE) (lo hi : CP)
  | call (k : Nat) (as : CEs)
  | b1 (f : BF) (a : CE)
  | rgl1 (t : Bool) (a : CE)
  | rgl2 (t : Bool) (a b : CE)
  | isi (a : CE) (ts : List BT)
  | comp (elt : CE) (tg : CT) (it : CI) (ifs : CEs) (own : List Nat)
  | dcomp (k v : CE) (tg : CT) (it : CI) (ifs : CEs) (own : List Nat)
  | dget (a k x : CE)
  | dnil
  | rev (a : CE)
  | join (a b : CE)
inductive CEs where
  | nil
  | cons (a : CE) (r : CEs)
inductive CP where
  | no
  | some (a : CE)
inductive CI where
  | val (a : CE)
  | rng1 (a : CE)
  | rng2 (a b : CE)
  | zip (a b : CE)
end
mutual
inductive CS where
  | pass | brk | cnt
  | asg (i : Nat) (e : CE)
  | par (i j : Nat) (a b : CE)
  | par3 (i j l : Nat) (a b c : CE)
  | unp (is : List Nat) (e : CE)
  | unp2 (i j l : Nat) (e : CE)
  | aug (i : Nat) (op : Operator) (e : CE)
  | ret (e : CE)
  | ite (c : CE) (a b : CSs)
  | for_ (tg : CT) (it : CI) (body : CSs)
  | whl (c : CE) (body : CSs)
  | app (i : Nat) (e : CE)
inductive CSs where
  | nil
  | cons (s : CS) (r : CSs)
end

/-! ### results, slots -/
inductive R where
  | v (d : D)
  | nw (ds : List D)
  | bw (ds : List D)
@[simp] def R.d : R → D
  | .v d => d
  | .nw ds => .list ds
  | .bw ds => .list ds
@[simp] def R.esc : R → Option D
  | .v d => some d
  | .nw ds => some (.list ds)
  | .bw _ => none
@[simp] def R.rt : R → R
  | .v d => .v d
  | .nw ds => .nw ds
  | .bw ds => .nw ds
inductive Sl where
  | no
  | val (d : D)
  | own (ds : List D)
abbrev En := List Sl
abbrev SpD := List D → (R → Prop) → Prop
/-- a def's promise asked for: simp looks at the promise alone -/
inductive Ph (Q : R → Prop) : Type where
  | mk
def callS (sp : SpD) (ds : List D) (Q : R → Prop) (_ : Ph Q) : Prop := sp ds Q
structure Gm where
  Φ : Nat → Option SpD
  Γ : Nat → Option D

/-! ### operations on data -/
/-- the handle that stands for the law's pool -/
def isPool : List (D × D) → Bool
  | [(.none, .none)] => true
  | _ => false
@[simp] def isK : D → Bool
  | .int _ => true
  | .str _ => true
  | _ => false
def eqK : D → D → Bool
  | .int a, .int b => decide (a = b)
  | .str a, .str b => decide (a = b)
  | _, _ => false
def getKV (kvs : List (D × D)) (k : D) : Option D := (kvs.find? fun kv => eqK kv.1 k).map (·.2)
def putKV (kvs : List (D × D)) (k v : D) : List (D × D) := if (kvs.any fun kv => eqK kv.1 k) = true then kvs.map (fun kv => if eqK kv.1 k = true then (kv.1, v) else kv) else kvs ++ [(k, v)]
def mergeKV (kvs more : List (D × D)) : List (D × D) := more.foldl (fun acc kv => putKV acc kv.1 kv.2) kvs
def pairsD : List D → Option (List (D × D))
  | [] => some []
  | .tuple [k, v] :: r => if isK k = true then (pairsD r).map ((k, v) :: ·) else none
  | _ => none
@[simp] def flatD : D → Bool
  | .none => true
  | .bool _ => true
  | .int _ => true
  | .str _ => true
  | _ => false
@[simp] def toV : D → V
  | .none => .non
  | .bool b => .bl b
  | .int i => .int i
  | .str s => .str s
  | _ => .non
@[simp] def itemsD : D → Option (List D)
  | .list ds => some ds
  | .tuple ds => some ds
  | .str s => some (s.cps.toList.map fun c => .str ⟨#[c]⟩)
  | _ => none
@[simp] def R.bor : R → Bool
  | .bw _ => true
  | _ => false
@[simp] def dBin (op : Operator) (x y : D) (Q : R → Prop) : Prop :=
  match op, x, y with
  | .Add, .int i, .int j => Q (.v (.int (i + j)))
  | .Sub, .int i, .int j => Q (.v (.int (i - j)))
  | .Mult, .int i, .int j => CMul i j ∧ Q (.v (.int (i * j)))
  | .Mod, .int i, .int j => j ≠ 0 ∧ Q (.v (.int (i.fmod j)))
  | .FloorDiv, .int i, .int j => CDivN i j ∧ Q (.v (.int (i.fdiv j)))
  | .Add, .str a, .str b => a.length + b.length ≤ sizeLine ∧ Q (.v (.str (a ++ b)))
  | .Add, .list a, .list b => a.length + b.length ≤ sizeLine ∧ Q (.nw (a ++ b))
  | .Add, .tuple a, .tuple b => a.length + b.length ≤ sizeLine ∧ Q (.v (.tuple (a ++ b)))
  | .Mult, .tuple a, .int k => (a ≠ [] ∧ 2 ≤ k ∧ k ≤ 1000 ∧ a.length ≤ 1000) ∧ Q (.v (.tuple (List.replicate k.toNat a).flatten))
  | .Mult, .list a, .int k => -(2 ^ 63) ≤ k ∧ k < 2 ^ 63 ∧ a.length * k.toNat ≤ sizeLine ∧ Q (.nw (List.replicate k.toNat a).flatten)
  | _, _, _ => False
/-- == -/
@[simp] def dEq (x y : D) (Q : Bool → Prop) : Prop :=
  match x, y with
  | .int i, .int j => Q (decide (i = j))
  | .str a, .str b => Q (decide (a = b))
  | .bool a, .bool b => Q (decide (a = b))
  | x, y => SeqAt.shaped x = true ∧ SeqAt.shaped y = true ∧ Q (PyData.eqv x y)
@[simp] def dIn (x y : D) (Q : Bool → Prop) : Prop :=
  match y with
  | .tuple ds => flatD x = true ∧ ds.all flatD = true ∧ Q (inV (toV x) (ds.map toV))
  | .list ds => (flatD x = true ∧ ds.all flatD = true ∧ Q (inV (toV x) (ds.map toV))) ∨ (SeqAt.shaped x = true ∧ SeqAt.shaped (.list ds) = true ∧ Q (ds.any fun z => PyData.eqv z x))
  | .str s => (match x with | .str a => Q (!(Builtin.Str.occurrences s a 0 s.length 1).isEmpty) | _ => False)
  | .dict kvs => isPool kvs = false ∧ isK x = true ∧ Q (getKV kvs x).isSome
  | _ => False
@[simp] def isN : D → Bool
  | .none => true
  | _ => false
/-- order of tuples that are alike -/
def dOrd (x y : D) (Q : Bool → Prop) : Prop := PySem.W.alike x y = true ∧ SeqAt.shaped x = true ∧ SeqAt.shaped y = true ∧ Q (PySem.W.dataLt x y)
@[simp] def dCmp (op : CmpOp) (x y : D) (Q : Bool → Prop) : Prop :=
  match op with
  | .Eq => dEq x y Q
  | .NotEq => dEq x y fun b => Q (!b)
  | .Lt => (match x, y with | .int i, .int j => Q (decide (i < j)) | .str a, .str b => Q (decide (a.cps.toList < b.cps.toList)) | .tuple a, .tuple b => dOrd (.tuple a) (.tuple b) Q | _, _ => False)
  | .LtE => (match x, y with | .int i, .int j => Q (decide (i ≤ j)) | .str a, .str b => Q (!decide (b.cps.toList < a.cps.toList)) | .tuple a, .tuple b => dOrd (.tuple b) (.tuple a) fun t => Q (!t) | _, _ => False)
  | .Gt => (match x, y with | .int i, .int j => Q (decide (j < i)) | .str a, .str b => Q (decide (b.cps.toList < a.cps.toList)) | .tuple a, .tuple b => dOrd (.tuple b) (.tuple a) Q | _, _ => False)
  | .GtE => (match x, y with | .int i, .int j => Q (decide (j ≤ i)) | .str a, .str b => Q (!decide (a.cps.toList < b.cps.toList)) | .tuple a, .tuple b => dOrd (.tuple a) (.tuple b) fun t => Q (!t) | _, _ => False)
  | .In => dIn x y Q
  | .NotIn => dIn x y fun b => Q (!b)
  | .Is => (match y with | .none => Q (isN x) | _ => False)
  | .IsNot => (match y with | .none => Q (!isN x) | _ => False)
@[simp] def dTru (x : D) (Q : Bool → Prop) : Prop :=
  match x with
  | .none => Q false
  | .bool b => Q b
  | .int i => Q (i != 0)
  | .str s => s.length ≤ sizeLine ∧ Q ((s.length : Int) != 0)
  | .list ds => Q (!ds.isEmpty)
  | .tuple ds => Q (!ds.isEmpty)
  | _ => False
@[simp] def dIx (x i : D) (Q : R → Prop) : Prop :=
  match i with
  | .str k => (match x with
    | .dict kvs => isPool kvs = false ∧ (match getKV kvs (.str k) with | some d => Q (.v d) | none => False)
    | _ => False)
  | .int k => (match x with
    | .dict kvs => isPool kvs = false ∧ (match getKV kvs (.int k) with | some d => Q (.v d) | none => False)
    | .list ds => (match atI ds k with | some d => Q (.v d) | none => False)
    | .tuple ds => (match atI ds k with | some d => Q (.v d) | none => False)
    | .str s => s.length ≤ sizeLine ∧ (match atI s.cps.toList k with | some c => Q (.v (.str ⟨#[c]⟩)) | none => False)
    | _ => False)
  | _ => False
/-- the items of xs[lo:hi] -/
def cutD (xs : List D) (lo hi : Option Int) : List D := (xs.drop (HT.sIx xs.length 0 lo)).take (HT.sIx xs.length xs.length hi - HT.sIx xs.length 0 lo)
@[simp] def dSl (x : D) (lo hi : Option Int) (Q : R → Prop) : Prop :=
  match x with
  | .list ds => Q (.nw (cutD ds lo hi))
  | .tuple ds => Q (.v (.tuple (cutD ds lo hi)))
  | _ => False
@[simp] def intsD : List D → Option (List Int)
  | [] => some []
  | .int i :: r => (intsD r).map (i :: ·)
  | _ => none
@[simp] def boolsD : List D → Option (List Bool)
  | [] => some []
  | .bool i :: r => (boolsD r).map (i :: ·)
  | _ => none
@[simp] def dB1 (f : BF) (x : D) (Q : R → Prop) : Prop :=
  match f, x with
  | .len, .list ds => Q (.v (.int ds.length))
  | .len, .tuple ds => Q (.v (.int ds.length))
  | .len, .str s => s.length ≤ sizeLine ∧ Q (.v (.int s.length))
  | .int, .int i => Q (.v (.int i))
  | .int, .bool b => Q (.v (.int (if b then 1 else 0)))
  | .tuple, .list ds => Q (.v (.tuple ds))
  | .tuple, .tuple ds => Q (.v (.tuple ds))
  | .list, .list ds => Q (.nw ds)
  | .list, .tuple ds => Q (.nw ds)
  | .list, .str s => s.length ≤ sizeLine ∧ Q (.nw (s.cps.toList.map fun c => .str ⟨#[c]⟩))
  | .sum, .list ds => (match intsD ds with | some ns => Q (.v (.int ns.sum)) | none => False)
  | .all, .list ds => (match boolsD ds with | some bs => Q (.v (.bool (bs.all id))) | none => False)
  | .any, .list ds => (match boolsD ds with | some bs => Q (.v (.bool (bs.any id))) | none => False)
  | .sorted, .list ds => (match intsD ds with | some ns => ∀ ms : List Int, ms.Perm ns → ms.Pairwise (· ≤ ·) → Q (.nw (ms.map .int)) | none => False)
  | .str, .int i => i.natAbs.log2 < 1920 ∧ Q (.v (.str (toString i)))
  | .dict, .list ds => (match pairsD ds with | some kvs => Q (.v (.dict (mergeKV [] kvs))) | none => False)
  | .dict, .tuple ds => (match pairsD ds with | some kvs => Q (.v (.dict (mergeKV [] kvs))) | none => False)
  | _, _ => False
inductive KD where
  | none | bool | int | str | list | tuple | dict
@[simp] def kd : D → KD
  | .none => .none
  | .bool _ => .bool
  | .int _ => .int
  | .str _ => .str
  | .list _ => .list
  | .tuple _ => .tuple
  | .dict _ => .dict
@[simp] def isKT : KD → BT → Bool
  | .bool, .bbool => true
  | .bool, .bint => true
  | .int, .bint => true
  | .str, .bstr => true
  | .tuple, .btuple => true
  | .list, .blist => true
  | .dict, .bdict => true
  | _, _ => false
@[simp] def isT (d : D) (t : BT) : Bool := isKT (kd d) t
/-- isinstance is asked of all but handles -/
@[simp] def noDic : D → Bool
  | .dict kvs => !isPool kvs
  | _ => true
def rngD (lo : Int) (n : Nat) : List D := (List.range n).map fun (i : Nat) => PyData.int (lo + (i : Int))
@[simp] def setAll : List Nat → List D → En → Option En
  | [], [], e => some e
  | i :: is, d :: ds, e => setAll is ds (e.set i (.val d))
  | _, _, _ => none
@[simp] def tgD (tg : CT) (d : D) (env : En) (Q : En → Prop) : Prop :=
  match tg with
  | .nm i => Q (env.set i (.val d))
  | .tp is => (match d with
    | .tuple ds => (match setAll is ds env with | some e => Q e | none => False)
    | _ => False)
@[simp] def wipeD (env : En) : List Nat → En
  | [] => env
  | v :: vs => (wipeD env vs).set v .no
@[simp] def rglR (t : Bool) (ds : List D) : R := if t = true then .v (.tuple ds) else .nw ds
@[simp] def strsD : List D → Option (List Str)
  | [] => some []
  | .str s :: r => (strsD r).map (s :: ·)
  | _ => none
/-- the comprehension's turns -/
def foldC (tst : En → (Bool → Prop) → Prop) (el : En → (R → Prop) → Prop) (tg : CT) (env : En) : List D → List D → (List D → Prop) → Prop
  | [], acc, Q => Q acc
  | d :: ds, acc, Q => tgD tg d env fun env1 => tst env1 fun b =>
      if b = true then el env1 fun r => (match r.esc with | some y => acc.length < sizeLine ∧ foldC tst el tg env ds (acc ++ [y]) Q | none => False)
      else foldC tst el tg env ds acc Q
inductive PhC (tst : En → (Bool → Prop) → Prop) (el : En → (R → Prop) → Prop) (Q : List D → Prop) : Type where
  | mk
/-- a comprehension from the start: simp leaves it -/
def runC (tst : En → (Bool → Prop) → Prop) (el : En → (R → Prop) → Prop) (tg : CT) (env : En) (items : List D) (Q : List D → Prop) (_ : PhC tst el Q) : Prop := foldC tst el tg env items [] Q
/-- a dict comprehension's turns -/
def foldDC (tst : En → (Bool → Prop) → Prop) (ek el : En → (R → Prop) → Prop) (tg : CT) (env : En) : List D → List (D × D) → (List (D × D) → Prop) → Prop
  | [], acc, Q => Q acc
  | d :: ds, acc, Q => tgD tg d env fun env1 => tst env1 fun b =>
      if b = true then ek env1 fun k => el env1 fun r => (match r.esc with | some y => isK k.d = true ∧ acc.length < sizeLine ∧ foldDC tst ek el tg env ds (putKV acc k.d y) Q | none => False)
      else foldDC tst ek el tg env ds acc Q
inductive PhD (tst : En → (Bool → Prop) → Prop) (ek el : En → (R → Prop) → Prop) (Q : List (D × D) → Prop) : Type where
  | mk
def runDC (tst : En → (Bool → Prop) → Prop) (ek el : En → (R → Prop) → Prop) (tg : CT) (env : En) (items : List D) (Q : List (D × D) → Prop) (_ : PhD tst ek el Q) : Prop := foldDC tst ek el tg env items [] Q
@[simp] def escs : List R → Option (List D)
  | [] => some []
  | r :: rs => (match r.esc with
    | some d => (match escs rs with | some ds => some (d :: ds) | none => none)
    | none => none)
def optI : D → Option Int
  | .int i => some i
  | _ => none

mutual
@[simp] def wpE (G : Gm) : CE → En → (R → Prop) → Prop
  | .var i, env, Q => (match env[i]? with
    | some (.val d) => Q (.v d)
    | some (.own ds) => Q (.bw ds)
    | _ => False)
  | .non, _, Q => Q (.v .none)
  | .bl b, _, Q => Q (.v (.bool b))
  | .int i, _, Q => Q (.v (.int i))
  | .str s, _, Q => Q (.v (.str s))
  | .glb k, _, Q => (match G.Γ k with | some d => Q (.v d) | none => False)
  | .bin op a b, env, Q => wpE G a env fun x => wpE G b env fun y => dBin op x.d y.d Q
  | .cmp op a b, env, Q => wpE G a env fun x => wpE G b env fun y => dCmp op x.d y.d fun t => Q (.v (.bool t))
  | .chn op op' a b c, env, Q => wpE G a env fun x => wpE G b env fun y => dCmp op x.d y.d fun t =>
      if t = true then wpE G c env fun z => dCmp op' y.d z.d fun u => Q (.v (.bool u)) else Q (.v (.bool false))
  | .neg a, env, Q => wpE G a env fun x => (match x.d with | .int i => Q (.v (.int (-i))) | _ => False)
  | .not a, env, Q => wpE G a env fun x => (match x.d with | .bool b => Q (.v (.bool (!b))) | _ => False)
  | .and a b, env, Q => wpE G a env fun x => (match x.d with | .bool t => if t = true then wpE G b env Q else Q (.v (.bool false)) | _ => False)
  | .or a b, env, Q => wpE G a env fun x => (match x.d with | .bool t => if t = true then Q (.v (.bool true)) else wpE G b env Q | _ => False)
  | .ite c a b, env, Q => wpT G c env fun t => if t = true then wpE G a env Q else wpE G b env Q
  | .tup as, env, Q => wpEs G as env fun rs => (match escs rs with | some ds => ds.length ≤ sizeLine ∧ Q (.v (.tuple ds)) | none => False)
  | .lst as, env, Q => wpEs G as env fun rs => (match escs rs with | some ds => ds.length ≤ sizeLine ∧ Q (.nw ds) | none => False)
  | .ix a i, env, Q => wpE G a env fun x => wpE G i env fun y => dIx x.d y.d Q
  | .sl a lo hi, env, Q => wpE G a env fun x => wpP G lo env fun l => wpP G hi env fun h => dSl x.d l h Q
  | .call k as, env, Q => wpEs G as env fun rs => (match escs rs, G.Φ k with | some ds, some sp => callS sp ds Q .mk | _, _ => False)
  | .b1 f a, env, Q => wpE G a env fun x => dB1 f x.d Q
  | .rgl1 t a, env, Q => wpE G a env fun x => (match x.d with | .int j => (-(2 ^ 62) ≤ j ∧ j ≤ 16777216) ∧ Q (rglR t (rngD 0 j.toNat)) | _ => False)
  | .rgl2 t a b, env, Q => wpE G a env fun x => wpE G b env fun y => (match x.d, y.d with
    | .int i, .int j => (0 ≤ i ∧ i ≤ 16777216 ∧ 0 ≤ j ∧ j ≤ 16777216) ∧ Q (rglR t (rngD i (j - i).toNat))
    | _, _ => False)
  | .isi a ts, env, Q => wpE G a env fun x => noDic x.d = true ∧ Q (.v (.bool (ts.any (isT x.d))))
  | .comp elt tg it ifs own, env, Q => wpI G it env fun _ items => runC (wpTs G ifs) (wpE G elt) tg (wipeD env own) items (fun acc => Q (.nw acc)) .mk
  | .dcomp k elt tg it ifs own, env, Q => wpI G it env fun _ items => runDC (wpTs G ifs) (wpE G k) (wpE G elt) tg (wipeD env own) items (fun acc => Q (.v (.dict acc))) .mk
  | .dnil, _, Q => Q (.v (.dict []))
  | .join a b, env, Q => wpE G a env fun x => (match x.d with
    | .str z => wpE G b env fun y => (match y.d with
      | .list ds => (match strsD ds with | some ys => (ys.map (·.length)).sum + ys.length * z.length ≤ 16777216 ∧ Q (.v (.str (Txt.join z ys))) | none => False)
      | _ => False)
    | _ => False)
  | .rev a, env, Q => wpE G a env fun x => (match x.d with
    | .list ds => Q (.nw ds.reverse)
    | .tuple ds => Q (.v (.tuple ds.reverse))
    | _ => False)
  | .dget a k x, env, Q => wpE G a env fun r => (match r.d with
    | .dict kvs => isPool kvs = false ∧ wpE G k env fun y => wpE G x env fun z => (match z.esc with
      | some zd => isK y.d = true ∧ Q (.v ((getKV kvs y.d).getD zd))
      | none => False)
    | _ => False)
@[simp] def wpEs (G : Gm) : CEs → En → (List R → Prop) → Prop
  | .nil, _, Q => Q []
  | .cons a r, env, Q => wpE G a env fun x => wpEs G r env fun xs => Q (x :: xs)
@[simp] def wpP (G : Gm) : CP → En → (Option Int → Prop) → Prop
  | .no, _, Q => Q none
  | .some a, env, Q => wpE G a env fun x => (match x.d with | .int i => Q (some i) | _ => False)
/-- what is walked -/
@[simp] def wpI (G : Gm) : CI → En → (Bool → List D → Prop) → Prop
  | .val a, env, Q => wpE G a env fun x => (match itemsD x.d with | some ds => Q x.bor ds | none => False)
  | .rng1 a, env, Q => wpE G a env fun x => (match x.d with | .int j => -(2 ^ 62) ≤ j ∧ j < 2 ^ 62 ∧ Q false (rngD 0 j.toNat) | _ => False)
  | .rng2 a b, env, Q => wpE G a env fun x => wpE G b env fun y => (match x.d, y.d with
    | .int i, .int j => (-(2 ^ 62) ≤ i ∧ i < 2 ^ 62 ∧ -(2 ^ 62) ≤ j ∧ j < 2 ^ 62) ∧ Q false (rngD i (j - i).toNat)
    | _, _ => False)
  | .zip _ _, _, _ => False
/-- as a test -/
@[simp] def wpT (G : Gm) : CE → En → (Bool → Prop) → Prop
  | .not a, env, Q => wpT G a env fun b => Q (!b)
  | .and a b, env, Q => wpT G a env fun t => if t = true then wpT G b env Q else Q false
  | .or a b, env, Q => wpT G a env fun t => if t = true then Q true else wpT G b env Q
  | .cmp op a b, env, Q => wpE G a env fun x => wpE G b env fun y => dCmp op x.d y.d Q
  | .chn op op' a b c, env, Q => wpE G a env fun x => wpE G b env fun y => dCmp op x.d y.d fun t =>
      if t = true then wpE G c env fun z => dCmp op' y.d z.d Q else Q false
  | .ite _ _ _, _, _ => False
  | .var i, env, Q => (match env[i]? with
    | some (.val d) => dTru d Q
    | some (.own ds) => dTru (.list ds) Q
    | _ => False)
  | .ix a i, env, Q => wpE G a env fun x => wpE G i env fun y => dIx x.d y.d fun r => dTru r.d Q
  | .call k as, env, Q => wpEs G as env fun rs => (match escs rs, G.Φ k with | some ds, some sp => callS sp ds (fun r => dTru r.d Q) .mk | _, _ => False)
  | .b1 f a, env, Q => wpE G a env fun x => dB1 f x.d fun r => dTru r.d Q
  | .isi a ts, env, Q => wpE G a env fun x => noDic x.d = true ∧ Q (ts.any (isT x.d))
  | _, _, _ => False
@[simp] def wpTs (G : Gm) : CEs → En → (Bool → Prop) → Prop
  | .nil, _, Q => Q true
  | .cons a .nil, env, Q => wpT G a env Q
  | .cons _ (.cons _ _), _, _ => False
end

/-! ### what escapes: own lists that a statement gives away are frozen ahead of it -/
mutual
@[simp] def esc : CE → List Nat
  | .var i => [i]
  | .ite c a b => nes c ++ esc a ++ esc b
  | e => nes e
/-- .. inside of an expression whose own value is only looked at -/
@[simp] def nes : CE → List Nat
  | .bin _ a b => nes a ++ nes b
  | .cmp _ a b => nes a ++ nes b
  | .chn _ _ a b c => nes a ++ nes b ++ nes c
  | .neg a => nes a
  | .not a => nes a
  | .and a b => nes a ++ nes b
  | .or a b => nes a ++ nes b
  | .ite c a b => nes c ++ nes a ++ nes b
  | .tup as => escL as
  | .lst as => escL as
  | .ix a i => nes a ++ nes i
  | .sl a lo hi => nes a ++ nesP lo ++ nesP hi
  | .call _ as => escL as
  | .b1 _ a => nes a
  | .rgl1 _ a => nes a
  | .rgl2 _ a b => nes a ++ nes b
  | .isi a _ => nes a
  | .comp elt _ it ifs own => (esc elt).filter (fun i => !own.contains i) ++ nesI it ++ nesL ifs
  | .dcomp k elt _ it ifs own => (nes k ++ esc elt).filter (fun i => !own.contains i) ++ nesI it ++ nesL ifs
  | .dget a k x => nes a ++ nes k ++ esc x
  | .rev a => nes a
  | .join a b => nes a ++ nes b
  | _ => []
@[simp] def escL : CEs → List Nat
  | .nil => []
  | .cons a r => esc a ++ escL r
@[simp] def nesL : CEs → List Nat
  | .nil => []
  | .cons a r => nes a ++ nesL r
@[simp] def nesP : CP → List Nat
  | .no => []
  | .some a => nes a
@[simp] def nesI : CI → List Nat
  | .val a => nes a
  | .rng1 a => nes a
  | .rng2 a b => nes a ++ nes b
  | .zip a b => nes a ++ nes b
end
@[simp] def escI : CI → List Nat
  | .val a => esc a
  | .rng1 a => nes a
  | .rng2 a b => nes a ++ nes b
  | .zip a b => esc a ++ esc b
@[simp] def frz1 (env : En) (i : Nat) : En :=
  match env[i]? with
  | some (.own ds) => env.set i (.val (.list ds))
  | _ => env
@[simp] def frz (env : En) (is : List Nat) : En := is.foldl frz1 env
/-- what a statement's own expressions give away -/
@[simp] def escS : CS → List Nat
  | .asg _ e => esc e
  | .par _ _ a b => esc a ++ esc b
  | .par3 _ _ _ a b c => esc a ++ esc b ++ esc c
  | .unp _ e => esc e
  | .unp2 _ _ _ e => esc e
  | .aug _ _ e => nes e
  | .ret e => nes e
  | .ite c _ _ => nes c
  | .for_ _ it _ => escI it
  | .app _ e => esc e
  | _ => []
structure DE where
  nx : En → Prop
  rt : R → Prop
  bk : En → Prop := fun _ => False
  ct : En → Prop := fun _ => False
def foldF (body : DE → En → Prop) (tg : CT) (D0 : DE) : List D → En → Prop
  | [], env => D0.nx env
  | d :: ds, env => tgD tg d env fun env1 => body { D0 with nx := foldF body tg D0 ds, ct := foldF body tg D0 ds, bk := D0.nx } env1
inductive PhF (body : DE → En → Prop) (D0 : DE) : Type where
  | mk
/-- a for from the start: simp leaves it -/
def runF (body : DE → En → Prop) (tg : CT) (D0 : DE) (items : List D) (env : En) (_ : PhF body D0) : Prop := foldF body tg D0 items env
@[simp] def augD (op : Operator) (a : Int) (y : D) (Q : Int → Prop) : Prop :=
  match op, y with
  | .Add, .int b => Q (a + b)
  | .Sub, .int b => Q (a - b)
  | _, _ => False
@[simp] def asgD (i : Nat) (r : R) (env : En) (Q : En → Prop) : Prop :=
  match r with
  | .v d => Q (env.set i (.val d))
  | .nw ds => Q (env.set i (.own ds))
  | .bw _ => False
mutual
@[simp] def wpS (G : Gm) : CS → DE → En → Prop
  | .pass, K, env => K.nx env
  | .brk, K, env => K.bk env
  | .cnt, K, env => K.ct env
  | .asg i e, K, env => wpE G e env fun r => asgD i r env K.nx
  | .par i j a b, K, env => wpE G a env fun x => wpE G b env fun y => asgD i x env fun e => asgD j y e K.nx
  | .par3 i j l a b c, K, env => wpE G a env fun x => wpE G b env fun y => wpE G c env fun z => asgD i x env fun e => asgD j y e fun e' => asgD l z e' K.nx
  | .unp is e, K, env => wpE G e env fun r => tgD (.tp is) r.d env K.nx
  | .unp2 i j l e, K, env => wpE G e env fun r => (match r.d with | .tuple [.tuple [a, b], c] => K.nx (((env.set i (.val a)).set j (.val b)).set l (.val c)) | _ => False)
  | .aug i op e, K, env => (match env[i]? with
    | some (.val (.int a)) => wpE G e env fun r => augD op a r.d fun z => K.nx (env.set i (.val (.int z)))
    | _ => False)
  | .ret e, K, env => wpE G e env fun r => K.rt r.rt
  | .ite c a b, K, env => wpT G c env fun t => if t = true then wpSs G a K env else wpSs G b K env
  | .for_ tg it body, K, env => wpI G it env fun b items => b = false ∧ runF (wpSs G body) tg K items env .mk
  | .whl c body, K, env => ∃ W : Nat → En → Prop, (∃ m, W m env) ∧ ∀ m env', W m env' → wpT G c env' fun t =>
      if t = true then wpSs G body { K with nx := fun e => ∃ m', m' < m ∧ W m' e, ct := fun e => ∃ m', m' < m ∧ W m' e, bk := K.nx } env' else K.nx env'
  | .app i e, K, env => (match env[i]? with
    | some (.own ds) => wpE G e env fun r => (match r.esc with
      | some d => ds.length < sizeLine ∧ K.nx (env.set i (.own (ds ++ [d])))
      | none => False)
    | _ => False)
@[simp] def wpSs (G : Gm) : CSs → DE → En → Prop
  | .nil, K, env => K.nx env
  | .cons s r, K, env => wpS G s { K with nx := wpSs G r K } (frz env (escS s))
end
/-- a def's body with its arguments -/
@[simp] def wpF (G : Gm) (n : Nat) (body : CSs) (ds : List D) (Q : R → Prop) : Prop :=
  wpSs G body { nx := fun _ => Q (.v .none), rt := Q } (ds.map Sl.val ++ List.replicate (n - ds.length) .no)
end DL

/-! DL2: how data lie in the abstract heap; the state's relation. -/
namespace DL
open PySem PySem.Spec PyProof.Rows L2
/-- the heap without the addresses of O -/
def hid (H : Hp) (O : Addr → Bool) : Hp := fun b => if O b = true then none else H b
theorem hid_some {H : Hp} {O : Addr → Bool} {a : Addr} {o : HO} (h : hid H O a = some o) : H a = some o ∧ O a = false := by
  unfold hid at h
  by_cases e : O a = true
  · rw [if_pos e] at h; cases h
  · rw [if_neg e] at h; exact ⟨h, by simpa using e⟩
theorem hid_of {H : Hp} {O : Addr → Bool} {a : Addr} {o : HO} (h : H a = some o) (e : O a = false) : hid H O a = some o := by
  unfold hid; rw [if_neg (by simp [e])]; exact h
/-- the handle that stands for the law's pool -/
def poolD : D := .dict [(.none, .none)]
/-- a tuple that has no dict of its own -/
def PlT (K : PySem.W.Frag) (H : Hp) (a : Addr) : Prop := (∃ o u, H a = some (.frz o u) ∧ o.dict = none) ∨ ∃ o, K.lookup a = some o ∧ o.dict = none
def SqP (K : PySem.W.Frag) (H : Hp) (a : Addr) (vs : List V) : Prop := SqT K H a vs ∧ PlT K H a
def kD : Key → D
  | .inl i => .int i
  | .inr s => .str s
mutual
def Rep (K : PySem.W.Frag) (p : Addr) (H : Hp) : D → V → Prop
  | .none, v => v = .non
  | .bool b, v => v = .bl b
  | .int i, v => v = .int i
  | .str s, v => v = .str s
  | .list ds, v => ∃ a vs, v = .ref a ∧ H a = some (.lst vs) ∧ RepL K p H ds vs
  | .tuple ds, v => ∃ a vs, v = .ref a ∧ SqP K H a vs ∧ RepL K p H ds vs
  | .dict kvs, v => (isPool kvs = true ∧ v = .ref p) ∨ (∃ a ks, v = .ref a ∧ H a = some (.dK ks) ∧ RepKV K p H kvs ks)
def RepL (K : PySem.W.Frag) (p : Addr) (H : Hp) : List D → List V → Prop
  | [], vs => vs = []
  | d :: ds, vs => ∃ x xs, vs = x :: xs ∧ Rep K p H d x ∧ RepL K p H ds xs
def RepKV (K : PySem.W.Frag) (p : Addr) (H : Hp) : List (D × D) → List (Key × V) → Prop
  | [], ks => ks = []
  | kv :: kvs, ks => ∃ k x xs, ks = (k, x) :: xs ∧ RepP K p H kv k x ∧ RepKV K p H kvs xs
def RepP (K : PySem.W.Frag) (p : Addr) (H : Hp) : D × D → Key → V → Prop
  | (k, d), kk, x => kD kk = k ∧ Rep K p H d x
end
section
variable {K : PySem.W.Frag} {p : Addr} {H H' : Hp}
theorem SqT.same {a : Addr} {vs : List V} (s : Same H H') (h : SqT K H a vs) : SqT K H' a vs := by
  rcases h with (h | ⟨o, h⟩) | h
  · exact .inl (.inl (s _ _ h))
  · exact .inl (.inr ⟨o, s _ _ h⟩)
  · exact .inr h
theorem PlT.same {a : Addr} (s : Same H H') (h : PlT K H a) : PlT K H' a := by
  rcases h with ⟨o, u, h, d⟩ | h
  · exact .inl ⟨o, u, s _ _ h, d⟩
  · exact .inr h
theorem SqP.same {a : Addr} {vs : List V} (s : Same H H') (h : SqP K H a vs) : SqP K H' a vs := ⟨SqT.same s h.1, h.2.same s⟩
theorem SqP.new {a : Addr} {vs : List V} {o : Obj} (h : H a = some (.frz o (.tup vs))) (d : o.dict = none) : SqP K H a vs := ⟨.inl (.inr ⟨o, h⟩), .inl ⟨o, _, h, d⟩⟩
mutual
theorem Rep.mono (s : Same H H') : ∀ {d : D} {v : V}, Rep K p H d v → Rep K p H' d v
  | .none, _, h => h
  | .bool _, _, h => h
  | .int _, _, h => h
  | .str _, _, h => h
  | .list ds, _, h => by
    obtain ⟨a, vs, e, h1, h2⟩ := h
    exact ⟨a, vs, e, s _ _ h1, RepL.mono s h2⟩
  | .tuple ds, _, h => by
    obtain ⟨a, vs, e, h1, h2⟩ := h
    exact ⟨a, vs, e, SqP.same s h1, RepL.mono s h2⟩
  | .dict kvs, _, h => by
    rcases h with h | ⟨a, ks, e, h1, h2⟩
    · exact .inl h
    · exact .inr ⟨a, ks, e, s _ _ h1, RepKV.mono s h2⟩
theorem RepL.mono (s : Same H H') : ∀ {ds : List D} {vs : List V}, RepL K p H ds vs → RepL K p H' ds vs
  | [], _, h => h
  | d :: ds, _, h => by
    obtain ⟨x, xs, e, h1, h2⟩ := h
    exact ⟨x, xs, e, Rep.mono s h1, RepL.mono s h2⟩
theorem RepKV.mono (s : Same H H') : ∀ {kvs : List (D × D)} {ks : List (Key × V)}, RepKV K p H kvs ks → RepKV K p H' kvs ks
  | [], _, h => h
  | kv :: kvs, _, h => by
    obtain ⟨k, x, xs, e, h1, h2⟩ := h
    exact ⟨k, x, xs, e, RepP.mono s h1, RepKV.mono s h2⟩
theorem RepP.mono (s : Same H H') : ∀ {kv : D × D} {k : Key} {x : V}, RepP K p H kv k x → RepP K p H' kv k x
  | (k, d), _, _, h => ⟨h.1, Rep.mono s h.2⟩
end
theorem RepL.length : ∀ {ds : List D} {vs : List V}, RepL K p H ds vs → vs.length = ds.length
  | [], _, h => by rw [show _ = [] from h]; rfl
  | d :: ds, _, h => by
    obtain ⟨x, xs, e, _, h2⟩ := h
    rw [e, List.length_cons, List.length_cons, RepL.length h2]
theorem RepL.get : ∀ {ds : List D} {vs : List V} {i : Nat} {d : D}, RepL K p H ds vs → ds[i]? = some d → ∃ v, vs[i]? = some v ∧ Rep K p H d v
  | [], _, _, _, _, h => by simp at h
  | d :: ds, _, 0, _, h, e => by
    obtain ⟨x, xs, rfl, h1, h2⟩ := h
    have e' : d = _ := Option.some.inj e
    subst e'
    exact ⟨x, rfl, h1⟩
  | d :: ds, _, i + 1, _, h, e => by
    obtain ⟨x, xs, rfl, h1, h2⟩ := h
    obtain ⟨v, q1, q2⟩ := RepL.get (i := i) h2 (by simpa using e)
    exact ⟨v, by simpa using q1, q2⟩
theorem RepL.get' : ∀ {ds : List D} {vs : List V} {i : Nat} {v : V}, RepL K p H ds vs → vs[i]? = some v → ∃ d, ds[i]? = some d ∧ Rep K p H d v
  | [], _, _, _, h, e => by
    rw [show _ = [] from h] at e
    simp at e
  | d :: ds, _, 0, _, h, e => by
    obtain ⟨x, xs, rfl, h1, h2⟩ := h
    have e' : x = _ := Option.some.inj e
    subst e'
    exact ⟨d, rfl, h1⟩
  | d :: ds, _, i + 1, _, h, e => by
    obtain ⟨x, xs, rfl, h1, h2⟩ := h
    obtain ⟨v, q1, q2⟩ := RepL.get' (i := i) h2 (by simpa using e)
    exact ⟨v, by simpa using q1, q2⟩
theorem RepL.append : ∀ {ds es : List D} {vs ws : List V}, RepL K p H ds vs → RepL K p H es ws → RepL K p H (ds ++ es) (vs ++ ws)
  | [], _, _, _, h, g => by
    rw [show _ = [] from h]
    exact g
  | d :: ds, _, _, _, h, g => by
    obtain ⟨x, xs, rfl, h1, h2⟩ := h
    exact ⟨x, _, rfl, h1, RepL.append h2 g⟩
theorem RepL.take : ∀ {ds : List D} {vs : List V} (n : Nat), RepL K p H ds vs → RepL K p H (ds.take n) (vs.take n)
  | _, _, 0, _ => by rw [List.take_zero, List.take_zero]; exact rfl
  | [], _, n + 1, h => by
    rw [show _ = [] from h]
    exact rfl
  | d :: ds, _, n + 1, h => by
    obtain ⟨x, xs, rfl, h1, h2⟩ := h
    exact ⟨x, _, rfl, h1, RepL.take n h2⟩
theorem RepL.drop : ∀ {ds : List D} {vs : List V} (n : Nat), RepL K p H ds vs → RepL K p H (ds.drop n) (vs.drop n)
  | _, _, 0, h => h
  | [], _, n + 1, h => by
    rw [show _ = [] from h]
    exact rfl
  | d :: ds, _, n + 1, h => by
    obtain ⟨x, xs, rfl, h1, h2⟩ := h
    exact RepL.drop n h2
theorem RepL.one {d : D} {v : V} (h : Rep K p H d v) : RepL K p H [d] [v] := ⟨v, [], rfl, h, rfl⟩
theorem Rep.flat {d : D} {v : V} (h : Rep K p H d v) (f : flatD d = true) : v = toV d ∧ flatV v = true := by
  cases d with
  | none => rw [show v = .non from h]; exact ⟨rfl, rfl⟩
  | bool b => rw [show v = .bl b from h]; exact ⟨rfl, rfl⟩
  | int b => rw [show v = .int b from h]; exact ⟨rfl, rfl⟩
  | str b => rw [show v = .str b from h]; exact ⟨rfl, rfl⟩
  | list b => cases f
  | tuple b => cases f
  | dict b => cases f
theorem RepL.flat : ∀ {ds : List D} {vs : List V}, RepL K p H ds vs → ds.all flatD = true → vs = ds.map toV ∧ vs.all flatV = true
  | [], _, h, _ => by
    rw [show _ = [] from h]
    exact ⟨rfl, rfl⟩
  | d :: ds, _, h, f => by
    obtain ⟨x, xs, rfl, h1, h2⟩ := h
    rw [List.all_cons, Bool.and_eq_true] at f
    obtain ⟨q1, q2⟩ := Rep.flat h1 f.1
    obtain ⟨q3, q4⟩ := RepL.flat h2 f.2
    refine ⟨by rw [q1, q3]; rfl, ?_⟩
    rw [List.all_cons, q2, q4]
    rfl
mutual
theorem Rep.dp : ∀ {d : D} {v : V}, Rep K p H d v → PyData.canLay0 d = true → Dp K H v d
  | .none, _, h, _ => by rw [show _ = _ from h]; exact .non
  | .bool _, _, h, _ => by rw [show _ = _ from h]; exact .bl _
  | .int _, _, h, _ => by rw [show _ = _ from h]; exact .int _
  | .str _, _, h, _ => by rw [show _ = _ from h]; exact .str _
  | .list ds, _, h, c => by
    obtain ⟨a, vs, e, h1, h2⟩ := h
    rw [e]
    exact .lst (SqL.of h1) (RepL.dp h2 (by simpa [PyData.canLay0] using c))
  | .tuple ds, _, h, c => by
    obtain ⟨a, vs, e, h1, h2⟩ := h
    rw [e]
    exact .tup h1.1 (RepL.dp h2 (by simpa [PyData.canLay0] using c))
  | .dict kvs, _, h, c => by simp [PyData.canLay0] at c
theorem RepL.dp : ∀ {ds : List D} {vs : List V}, RepL K p H ds vs → PyData.canLayAll0 ds = true → DpAll K H vs ds
  | [], _, h, _ => by rw [show _ = [] from h]; exact .nil
  | d :: ds, _, h, c => by
    obtain ⟨x, xs, rfl, h1, h2⟩ := h
    have c' : PyData.canLay0 d = true ∧ PyData.canLayAll0 ds = true := by simpa [PyData.canLayAll0] using c
    exact .cons (Rep.dp h1 c'.1) (RepL.dp h2 c'.2)
end
theorem RepL.ints : ∀ {ds : List D} {vs : List V} {ns : List Int}, RepL K p H ds vs → intsD ds = some ns → vs = ns.map V.int
  | [], _, _, h, e => by
    rw [show _ = [] from h]
    rw [← Option.some.inj (show some [] = some _ from e)]
    rfl
  | d :: ds, _, ns, h, e => by
    obtain ⟨x, xs, rfl, h1, h2⟩ := h
    cases d with
    | int i =>
      unfold intsD at e
      rw [Option.map_eq_some_iff] at e
      obtain ⟨ms, e1, e2⟩ := e
      subst e2
      rw [List.map_cons, RepL.ints h2 e1, show x = .int i from h1]
    | _ => cases e
theorem RepL.bools : ∀ {ds : List D} {vs : List V} {ns : List Bool}, RepL K p H ds vs → boolsD ds = some ns → vs = ns.map V.bl
  | [], _, _, h, e => by
    rw [show _ = [] from h]
    rw [← Option.some.inj (show some [] = some _ from e)]
    rfl
  | d :: ds, _, ns, h, e => by
    obtain ⟨x, xs, rfl, h1, h2⟩ := h
    cases d with
    | bool i =>
      unfold boolsD at e
      rw [Option.map_eq_some_iff] at e
      obtain ⟨ms, e1, e2⟩ := e
      subst e2
      rw [List.map_cons, RepL.bools h2 e1, show x = .bl i from h1]
    | _ => cases e
end

/-! ### the law's pool; the state -/
def PoolOk (p a0 : Addr) (H : Hp) : Prop :=
  ∃ k m c s : Int, H p = some (.lst [.ref a0, .int k, .int m, .int c, .int s]) ∧ (∃ ns : List Int, ns.length ≤ 63 ∧ H a0 = some (.lst (ns.map V.int))) ∧ 0 ≤ k ∧ 0 ≤ c ∧ 0 ≤ s ∧ s < 1000003
def SameP (p : Addr) (H H' : Hp) : Prop := ∀ b o, b ≠ p → H b = some o → H' b = some o
theorem SameP.refl {p : Addr} (H : Hp) : SameP p H H := fun _ _ _ h => h
theorem SameP.trans {p : Addr} {H H1 H2 : Hp} (a : SameP p H H1) (b : SameP p H1 H2) : SameP p H H2 := fun x o n h => b x o n (a x o n h)
theorem SameP.free {p : Addr} {H H' : Hp} (e : SameP p H H') {l : Addr} (n : l ≠ p) (h : H' l = none) : H l = none := by
  cases q : H l with
  | none => rfl
  | some o => rw [e l o n q] at h; cases h
theorem SameP.new {p a : Addr} {H : Hp} {o : HO} (h : H a = none) : SameP p H (upd H a o) := fun b u _ e => by
  rw [upd_ne (ne_of_none e h)]
  exact e
theorem PoolOk.ne {p a0 a : Addr} {H : Hp} (h : PoolOk p a0 H) (e : H a = none) : a ≠ p := fun z => by
  obtain ⟨_, _, _, _, q, _⟩ := h
  rw [z, q] at e
  cases e
theorem PoolOk.new {p a0 a : Addr} {H : Hp} {o : HO} (h : PoolOk p a0 H) (e : H a = none) : PoolOk p a0 (upd H a o) := by
  obtain ⟨k, m, c, s, q, ⟨ns, l, q0⟩, r⟩ := h
  exact ⟨k, m, c, s, by rw [upd_ne (ne_of_none q e)]; exact q, ⟨ns, l, by rw [upd_ne (ne_of_none q0 e)]; exact q0⟩, r⟩
/-- hidden from the data: the set widened by one -/
def addO (O : Addr → Bool) (a : Addr) : Addr → Bool := fun b => O b || decide (b = a)
def remO (O : Addr → Bool) (a : Addr) : Addr → Bool := fun b => O b && !decide (b = a)
theorem hid_same {p : Addr} {O : Addr → Bool} {H H' : Hp} (hp : O p = true) (s : SameP p H H') : Same (hid H O) (hid H' O) := fun b o h => by
  obtain ⟨h1, h2⟩ := hid_some h
  exact hid_of (s b o (fun z => by rw [z, hp] at h2; cases h2) h1) h2
theorem hid_sub {O O' : Addr → Bool} {H : Hp} (h : ∀ a, O' a = true → O a = true) : Same (hid H O) (hid H O') := fun b o e => by
  obtain ⟨h1, h2⟩ := hid_some e
  refine hid_of h1 ?_
  cases q : O' b with
  | false => rfl
  | true => rw [h b q] at h2; cases h2
theorem hid_add {O : Addr → Bool} {H : Hp} {a : Addr} (h : H a = none) : hid H (addO O a) = hid H O := by
  funext b
  unfold hid addO
  by_cases e : b = a
  · subst e
    rw [h]
    split <;> split <;> rfl
  · simp [e]
theorem hid_upd {O : Addr → Bool} {H : Hp} {a : Addr} {o : HO} (h : O a = true) : hid (upd H a o) O = hid H O := by
  funext b
  unfold hid
  by_cases e : b = a
  · subst e
    rw [if_pos h, if_pos h]
  · rw [upd_ne e]
structure Pm where
  K : PySem.W.Frag
  p : Addr
  a0 : Addr
  H0 : Hp
  O0 : Addr → Bool
  G : Gm
  trk0 : ∀ a, O0 a = true → ∃ o, H0 a = some o
def SlotR (P : Pm) (O : Addr → Bool) (σ : L2.St) (H : Hp) (i : Nat) : Sl → Prop
  | .no => True
  | .val d => ∃ v, σ[i]? = some (some v) ∧ Rep P.K P.p (hid H O) d v
  | .own ds => ∃ a vs, σ[i]? = some (some (.ref a)) ∧ H a = some (.lst vs) ∧ P.H0 a = none ∧ O a = true ∧ a ≠ P.p ∧ RepL P.K P.p (hid H O) ds vs
structure SR (P : Pm) (Gh : List (D × V)) (O : Addr → Bool) (σ : L2.St) (H : Hp) (env : En) : Prop where
  same : SameP P.p P.H0 H
  pool : PoolOk P.p P.a0 H
  pool0 : PoolOk P.p P.a0 P.H0
  op : O P.p = true
  trk : ∀ a, O a = true → ∃ o, H a = some o
  sub : ∀ a, P.O0 a = true → O a = true
  len : σ.length = env.length
  sl : ∀ (i : Nat) (s : Sl), env[i]? = some s → SlotR P O σ H i s
  inj : ∀ (i j : Nat) (a : Addr) (ds ds' : List D), env[i]? = some (Sl.own ds) → env[j]? = some (Sl.own ds') → σ[i]? = some (some (V.ref a)) → σ[j]? = some (some (V.ref a)) → i = j
  gh : ∀ g ∈ Gh, Rep P.K P.p (hid H O) g.1 g.2
/-- a result by the heaps ahead and behind -/
def RR (P : Pm) (O : Addr → Bool) (H H' : Hp) : R → V → Prop
  | .v d, v => Rep P.K P.p (hid H' O) d v
  | .nw ds, v => ∃ a vs, v = .ref a ∧ H a = none ∧ H' a = some (.lst vs) ∧ RepL P.K P.p (hid H' (addO O a)) ds vs
  | .bw ds, v => ∃ a vs, v = .ref a ∧ P.H0 a = none ∧ O a = true ∧ a ≠ P.p ∧ H' a = some (.lst vs) ∧ RepL P.K P.p (hid H' O) ds vs
section
variable {P : Pm} {Gh : List (D × V)} {O : Addr → Bool} {σ : L2.St} {H H' H1 H2 : Hp} {env : En}
theorem Rep.up (hp : O P.p = true) (s : SameP P.p H H') {d : D} {v : V} (h : Rep P.K P.p (hid H O) d v) : Rep P.K P.p (hid H' O) d v := Rep.mono (hid_same hp s) h
theorem RepL.up (hp : O P.p = true) (s : SameP P.p H H') {d : List D} {v : List V} (h : RepL P.K P.p (hid H O) d v) : RepL P.K P.p (hid H' O) d v := RepL.mono (hid_same hp s) h
theorem SR.mono (S : SR P Gh O σ H env) (s : SameP P.p H H') (q : PoolOk P.p P.a0 H') : SR P Gh O σ H' env where
  same := S.same.trans s
  pool := q
  pool0 := S.pool0
  op := S.op
  trk := fun a h => by
    by_cases e : a = P.p
    · obtain ⟨_, _, _, _, z, _⟩ := q
      exact ⟨_, by rw [e]; exact z⟩
    · obtain ⟨o, h1⟩ := S.trk a h
      exact ⟨o, s a o e h1⟩
  sub := S.sub
  len := S.len
  sl := fun i x e => by
    have h := S.sl i x e
    cases x with
    | no => exact trivial
    | val d =>
      obtain ⟨v, h1, h2⟩ := h
      exact ⟨v, h1, h2.up S.op s⟩
    | own ds =>
      obtain ⟨a, vs, h1, h2, h3, h4, h5, h6⟩ := h
      exact ⟨a, vs, h1, s a _ h5 h2, h3, h4, h5, h6.up S.op s⟩
  inj := S.inj
  gh := fun g hg => (S.gh g hg).up S.op s
/-- a new list may be hidden -/
theorem SR.hide {a : Addr} (S : SR P Gh O σ H env) (ha : H a = none) (s : SameP P.p H H') (q : PoolOk P.p P.a0 H') (ht : ∃ o, H' a = some o) : SR P Gh (addO O a) σ H' env := by
  have e : hid H (addO O a) = hid H O := hid_add ha
  have hp : (addO O a) P.p = true := by unfold addO; rw [S.op]; rfl
  have S1 := S.mono s q
  refine ⟨S1.same, S1.pool, S1.pool0, hp, fun b hb => ?_, fun b hb => ?_, S.len, fun i x ex => ?_, S.inj, fun g hg => ?_⟩
  · by_cases z : b = a
    · rw [z]; exact ht
    · refine S1.trk b ?_
      unfold addO at hb
      simpa [z] using hb
  · unfold addO
    rw [S.sub b hb]
    rfl
  · have h := S.sl i x ex
    cases x with
    | no => exact trivial
    | val d =>
      obtain ⟨v, h1, h2⟩ := h
      rw [← e] at h2
      exact ⟨v, h1, h2.up hp s⟩
    | own ds =>
      obtain ⟨b, vs, h1, h2, h3, h4, h5, h6⟩ := h
      rw [← e] at h6
      exact ⟨b, vs, h1, s b _ h5 h2, h3, by unfold addO; rw [h4]; rfl, h5, h6.up hp s⟩
  · have h2 := S.gh g hg
    rw [← e] at h2
    exact h2.up hp s
theorem RR.mono {r : R} {v : V} (hp : O P.p = true) (np : ∀ a, H a = none → a ≠ P.p) (h : RR P O H H1 r v) (s : SameP P.p H1 H2) : RR P O H H2 r v := by
  cases r with
  | v d => exact Rep.up hp s h
  | nw ds =>
    obtain ⟨a, vs, e, h1, h2, h3⟩ := h
    exact ⟨a, vs, e, h1, s a _ (np a h1) h2, h3.up (by unfold addO; rw [hp]; rfl) s⟩
  | bw ds =>
    obtain ⟨a, vs, e, h1, h2, h3, h4, h5⟩ := h
    exact ⟨a, vs, e, h1, h2, h3, s a _ h3 h4, h5.up hp s⟩
/-- relative to an earlier heap -/
theorem RR.from {r : R} {v : V} (np : ∀ a, H1 a = none → a ≠ P.p) (s : SameP P.p H H1) (h : RR P O H1 H2 r v) : RR P O H H2 r v := by
  cases r with
  | v d => exact h
  | nw ds =>
    obtain ⟨a, vs, e, h1, h2, h3⟩ := h
    exact ⟨a, vs, e, s.free (np a h1) h1, h2, h3⟩
  | bw ds => exact h
theorem addO_sub {a : Addr} : ∀ b, O b = true → addO O a b = true := fun b h => by unfold addO; rw [h]; rfl
/-- a result as a datum, if it isn't borrowed -/
theorem RR.esc {r : R} {v : V} {d : D} (tr : ∀ a, O a = true → ∃ o, H a = some o) (h : RR P O H H1 r v) (e : r.esc = some d) : Rep P.K P.p (hid H1 O) d v := by
  cases r with
  | v d' =>
    have e' : d' = d := Option.some.inj e
    subst e'
    exact h
  | nw ds =>
    have e' : PyData.list ds = d := Option.some.inj e
    subst e'
    obtain ⟨a, vs, ev, h1, h2, h3⟩ := h
    refine ⟨a, vs, ev, hid_of h2 ?_, RepL.mono (hid_sub addO_sub) h3⟩
    cases q : O a with
    | false => rfl
    | true =>
      obtain ⟨o, z⟩ := tr a q
      rw [h1] at z
      cases z
  | bw ds => cases e
/-- a result that is a list, to be read -/
def RdL (P : Pm) (O : Addr → Bool) (H : Hp) (ds : List D) (v : V) : Prop := ∃ a vs, v = .ref a ∧ a ≠ P.p ∧ H a = some (.lst vs) ∧ RepL P.K P.p (hid H O) ds vs
/-- .. to be looked at: lists need not be data that may be given away -/
def Lk (P : Pm) (O : Addr → Bool) (H : Hp) (d : D) (v : V) : Prop :=
  match d with
  | .list ds => RdL P O H ds v
  | d => Rep P.K P.p (hid H O) d v
theorem Rep.lk {d : D} {v : V} (hp : O P.p = true) (h : Rep P.K P.p (hid H O) d v) : Lk P O H d v := by
  cases d with
  | list ds =>
    obtain ⟨a, vs, e, h1, h2⟩ := h
    obtain ⟨h3, h4⟩ := hid_some h1
    exact ⟨a, vs, e, fun z => (by rw [z, hp] at h4; cases h4), h3, h2⟩
  | _ => exact h
theorem RR.lk {r : R} {v : V} (hp : O P.p = true) (np : ∀ a, H a = none → a ≠ P.p) (h : RR P O H H1 r v) : Lk P O H1 r.d v := by
  cases r with
  | v d => exact Rep.lk hp h
  | nw ds =>
    obtain ⟨a, vs, e, h1, h2, h3⟩ := h
    exact ⟨a, vs, e, np a h1, h2, RepL.mono (hid_sub addO_sub) h3⟩
  | bw ds =>
    obtain ⟨a, vs, e, h1, h2, h3, h4, h5⟩ := h
    exact ⟨a, vs, e, h3, h4, h5⟩
theorem Lk.up {d : D} {v : V} (hp : O P.p = true) (s : SameP P.p H H') (h : Lk P O H d v) : Lk P O H' d v := by
  cases d with
  | list ds =>
    obtain ⟨a, vs, e, n, h1, h2⟩ := h
    exact ⟨a, vs, e, n, s a _ n h1, h2.up hp s⟩
  | _ => exact Rep.up hp s h
theorem Lk.list {ds : List D} {v : V} (h : Lk P O H (.list ds) v) : RdL P O H ds v := h
/-- what can be compared: as the library's data -/
theorem Lk.dp {d : D} {v : V} (h : Lk P O H d v) (c : PyData.canLay0 d = true) : Dp P.K H v d := by
  have dm : ∀ {e : D} {u : V}, Rep P.K P.p (hid H O) e u → PyData.canLay0 e = true → Dp P.K H u e := fun {e u} r z => Rep.dp (Rep.mono (fun b o q => (hid_some q).1) r) z
  cases d with
  | list ds =>
    obtain ⟨a, vs, e, n, h1, h2⟩ := h
    rw [e]
    exact .lst (SqL.of h1) (RepL.dp (RepL.mono (fun b o q => (hid_some q).1) h2) (by simpa [PyData.canLay0] using c))
  | _ => exact dm h c
/-- a tuple to be read -/
theorem Lk.tup {ds : List D} {v : V} (h : Lk P O H (.tuple ds) v) : ∃ a vs, v = .ref a ∧ SqT P.K H a vs ∧ SqP P.K (hid H O) a vs ∧ RepL P.K P.p (hid H O) ds vs := by
  obtain ⟨a, vs, e, h1, h2⟩ := h
  exact ⟨a, vs, e, SqT.same (fun b o q => (hid_some q).1) h1.1, h1, h2⟩
end
end DL

/-! DLT: tuples made as known objects; dict(..) of pairs. -/
namespace DL
open PySem PySem.Spec PyProof.Rows L2
/-- a new tuple at q, its object known -/
def NewT (H : Hp) (vs : List V) (Q : VK) : Prop := ∀ (q : Addr) (o : Obj), H q = none → o.dict = none → Q (.ref q) (upd H q (.frz o (.tup vs)))
section
variable {X : Cx} {pins : List (Addr × Obj)} {s : Shared} {σ : L2.St} {H : Hp} {Q : VK} {xs : List V} {its : List Value}
theorem newT_ok {h' : Heap} {tk : Nat} (I : Inv X pins σ H { s with heap := h', toks := tk }) (hz : xs.length ≤ sizeLine) (r : Vals xs its) (q : NewT H xs Q) : EP X pins σ Q (.ref h'.objs.size) { s with heap := h'.push { cls := .type "tuple", data := .seq its.toArray }, toks := tk } := by
  have I2 : Inv X pins σ (upd H h'.objs.size (.frz { cls := .type "tuple", data := .seq its.toArray } (.tup xs))) { s with heap := h'.push { cls := .type "tuple", data := .seq its.toArray }, toks := tk } :=
    I.laid (t' := tk) (fun b o e => Heap.get?_push_of_some _ e) (Nat.le_refl _) ⟨Heap.get?_push_size _ rfl, hz, its, r, IsTup.new _ _⟩
  exact ⟨.ref h'.objs.size, _, I2, rfl, q _ _ (I.hok.fresh (Nat.le_refl _)) rfl⟩
end
section
variable {X : Cx} {pos : Pos}
def tTupF (t : TA) : TE := fun σ H Q => t σ H fun xs H1 => xs.length ≤ sizeLine ∧ NewT H1 xs Q
theorem pe_tupF {es : List Expr} {t : TA} {x1} (h : PA X es t) : PE X (.Tuple es x1 pos) (tTupF t) := by
  refine ⟨fun pins s σ H Q I hq => ?_⟩
  exact wpAny_Tuple_spliced (thn (h.run pos pins s σ H _ I hq) fun us s1 ⟨xs, H1, I1, r, z, q⟩ => ⟨by rw [← r.length]; exact z, newT_ok (tk := s1.toks) I1 z r q⟩)
def rCatF (K : PySem.W.Frag) : R2 := fun x y H Q => ∃ a b xs ys, x = .ref a ∧ y = .ref b ∧ SqT K H a xs ∧ SqT K H b ys ∧ xs.length + ys.length ≤ sizeLine ∧
  (xs = [] → Q (.ref b) H) ∧ (xs ≠ [] → ys = [] → Q (.ref a) H) ∧ (xs ≠ [] → ys ≠ [] → NewT H (xs ++ ys) Q)
theorem op_catF : OpR X (binaryOp .Add) (rCatF X.K) := by
  intro pins s σ H x y v u Q I rx ry h
  obtain ⟨a, b, xs, ys, rfl, rfl, ha, hb, hz, q0, q1, q2⟩ := h
  by_cases hx : xs = []
  · exact op_catA pins s σ H _ _ v u Q I rx ry ⟨a, b, xs, ys, rfl, rfl, ha, hb, hz, q0, q1, fun n => absurd hx n⟩
  · by_cases hy : ys = []
    · exact op_catA pins s σ H _ _ v u Q I rx ry ⟨a, b, xs, ys, rfl, rfl, ha, hb, hz, q0, q1, fun _ n => absurd hy n⟩
    · cases rx
      cases ry
      obtain ⟨its, r1, p1, _⟩ := I.tuple ha
      obtain ⟨its2, r2, p2, _⟩ := I.tuple hb
      refine HT.cat_tup p1 p2 (fun z => hx (r1.nil_iff.mp z)) (fun z => absurd (r2.nil_iff.mp z) hy) (fun z => ?_) (by rw [← r1.length, ← r2.length]; exact hz)
      exact newT_ok (tk := s.toks) (h' := s.heap) I (by rw [List.length_append]; exact hz) (r1.append r2) (q2 hx hy)
/-- tuple * int, the new object known -/
def rRepF (K : PySem.W.Frag) : R2 := fun x y H Q => ∃ a m xs, (x = .ref a ∧ y = .int m) ∧ SqT K H a xs ∧ (xs ≠ [] ∧ 2 ≤ m ∧ m ≤ 1000 ∧ xs.length ≤ 1000) ∧ NewT H (List.replicate m.toNat xs).flatten Q
theorem op_repF : OpR X (binaryOp .Mult) (rRepF X.K) := by
  intro pins s σ H x y v u Q I rx ry h
  obtain ⟨a, m, xs, ⟨rfl, rfl⟩, hT, ⟨ne, m1, m2, z⟩, q⟩ := h
  cases rx
  obtain ⟨tk, rfl⟩ := ry
  obtain ⟨us, r, ⟨⟨c, e, dt, sl⟩, ho, hc, n, hd⟩, _⟩ := I.tuple hT
  simp only at hc hd
  subst hc hd
  have ul : us.toArray.size = xs.length := by rw [List.size_toArray, r.length]
  have ue : us.toArray.isEmpty = false := by
    cases us with
    | nil => exact absurd (List.eq_nil_of_length_eq_zero (by rw [r.length]; rfl)) ne
    | cons _ _ => rfl
  have prod : m.toNat * xs.length ≤ 1000 * 1000 := Nat.mul_le_mul (by omega) z
  have fl : (List.replicate m.toNat xs).flatten.length ≤ sizeLine := by
    rw [PyProof.Rows.lm_len_rep_flat, sizeLine_eq]
    omega
  have pm : ((us.toArray.size : Nat) : Int) * m ≤ 1000 * m := by
    rw [ul]
    exact Int.mul_le_mul_of_nonneg_right (by omega) (by omega)
  have many : Builtin.Tuple.tupleTooMany (((us.toArray.size : Nat) : Int) * m) = false := by
    unfold Builtin.Tuple.tupleTooMany
    exact decide_eq_false (by rw [sizeLine_eq]; omega)
  have size : (List.foldl (fun p q => p ++ q) #[] (List.replicate m.toNat us.toArray)).size ≤ sizeLine := by
    rw [size_rep, List.size_toArray, PyProof.Rows.lm_len_rep_flat, ← r.length, ← PyProof.Rows.lm_len_rep_flat]
    exact fl
  have w := newT_ok (its := (List.replicate m.toNat us).flatten) (h' := s.heap) (tk := s.toks) I fl (r.rep m.toNat) q
  have step := tuple_mulW a us.toArray n e sl m tk (by rw [decide_eq_false (by omega), decide_eq_false (by omega)]; rfl)
    (by rw [ue, Bool.false_or]; exact beq_eq_false_iff_ne.mpr (by omega)) (by rw [ue, Bool.or_false]; exact decide_eq_false (by omega)) (by omega) many size
  rw [size_rep] at step
  exact wpAny_binaryOp_repeat_ref (U := "int") (T := "tuple") (by decide) ⟨_, ho, rfl⟩ (fun s' => typeIs_int s' m tk) noFill_tuple_mul F.fills_int_mul F.slot_int_rmul repeat_tuple
    F.slot_int_index.lookup (call_meets F.slot_int_rmul (typeIs_int s m tk) F.entry_int_rmul (F.args_int_rmul_2 _ _) (int_rmul_tuple m tk a us.toArray n e sl) ⟨ho, rfl, ⟨_, ho, rfl⟩,
    call_meets F.slot_tuple_mul ⟨_, ho, rfl⟩ F.entry_tuple_mul (F.args_tuple_mul_2 _ _) step ⟨ho, w⟩⟩)
def rSlF (K : PySem.W.Frag) : V → Option Int → Option Int → Hp → VK → Prop := fun x lo hi H Q => ∃ a xs, x = .ref a ∧ SqT K H a xs ∧
  (HT.sIx xs.length 0 lo = 0 ∧ HT.sIx xs.length xs.length hi = xs.length → Q (.ref a) H) ∧ (¬ (HT.sIx xs.length 0 lo = 0 ∧ HT.sIx xs.length xs.length hi = xs.length) → NewT H (cutV xs lo hi) Q)
theorem sl_tupF : SlR X (rSlF X.K) := by
  intro pins s σ H x v vl vu lo hi sl Q I rx hs pl pu h
  obtain ⟨a, xs, rfl, hx, q1, q2⟩ := h
  by_cases hw : HT.sIx xs.length 0 lo = 0 ∧ HT.sIx xs.length xs.length hi = xs.length
  · exact sl_tupA pins s σ H _ v vl vu lo hi sl Q I rx hs pl pu ⟨a, xs, rfl, hx, q1, fun n => absurd hw n⟩
  · cases rx
    obtain ⟨its, r, ht, hz⟩ := I.tuple hx
    have hlen : its.toArray.size = xs.length := by rw [List.size_toArray]; exact r.length.symm
    refine ⟨"tuple", _, PyProof.Rows.slot_tuple_getitem.lookup, ht.typeIs, ?_⟩
    refine HT.getItem_tuple_cut ht hs pl pu (by rw [hlen]; exact hw) ?_ (by rw [hlen]; exact hz)
    rw [hlen]
    exact newT_ok (tk := s.toks) (h' := s.heap) I (Nat.le_trans (cutV_length xs lo hi) hz) ((r.drop (HT.sIx xs.length 0 lo)).take (HT.sIx xs.length xs.length hi - HT.sIx xs.length 0 lo)) (q2 hw)
theorem call_tupleF : CallR X (.type "tuple") (fun xs H Q => ∃ p ys, xs = [.ref p] ∧ SqL X.K H p ys ∧ NewT H ys Q) := by
  intro pins s σ H xs us Q I r h
  obtain ⟨p, ys, rfl, hq, q⟩ := h
  obtain ⟨u, rfl, rx⟩ := vals1 r
  cases rx
  obtain ⟨its, r', pl, hz⟩ := I.list hq
  have hlen := r'.length
  refine call_tuple_list pl.isList (fun h' kp => ?_) (by simp only [List.size_toArray] <;> omega)
  have I1 : Inv X pins σ H { s with heap := h' } := I.kept (t' := s.toks) kp
  exact newT_ok (tk := s.toks) I1 hz r' q
def tTupRgF (te : L2.St → Hp → (Int → Int → Hp → Prop) → Prop) : TE := fun σ H Q => te σ H fun a b H1 => RgOk a b ∧ NewT H1 (rgV a b) Q
theorem pe_tupRgF {e : Expr} {te : L2.St → Hp → (Int → Int → Hp → Prop) → Prop} {p : Pos} (hc : X.calm = true) (hg : Gl X "tuple") (hm : X.mg "tuple" = none) (he : PRg X e te) (na : starEach [e] X.env = (false, eval e X.env) :: starEach [] X.env) : PE X (.Call (.Name "tuple" p) [e] [] pos) (tTupRgF te) := by
  refine ⟨fun pins s σ H Q I h => ?_⟩
  refine Call_ (ld_blt I hg hm boot_tuple (PyProof.Rows.callWith_type1 (args_cons (thn (he pins s σ H _ I h) fun x s1 ⟨r, a, b, t, u, v, H1, ex, hr, I1, ok, q⟩ => args_nil ?_) na) na))
  subst ex
  obtain ⟨b1, b2, b3, b4, b5⟩ := ok
  refine call_tuple_range (n := (b - a).toNat) (I1.ok.hd hc) hr (small_one b1 b2 b3 b4) (rangeSize_nat a b) b5 fun h' tk acc hk hi => ?_
  have I2 : Inv X pins σ H1 { s1 with heap := h', toks := tk } := I1.kept hk
  have z : (rgV a b).length ≤ sizeLine := by rw [rgV_length, sizeLine_eq]; omega
  have e := newT_ok (tk := tk) I2 z (vals_rg hi) q
  rwa [Array.toArray_toList] at e
/-! ### dict(..) of a list or a tuple of pairs -/
theorem call_dictT (hcalm : X.calm = true) : CallR X (.type "dict") (fun xs H Q => ∃ (a : Addr) (ps : List Addr) (kvs : List (Key × V)), xs = [.ref a] ∧ SqP X.K H a (ps.map V.ref) ∧ Paired (fun p kv => SqT X.K H p [kV kv.1, kv.2]) ps kvs ∧
    ∀ p, H p = none → Q (.ref p) (upd H p (.dK (mergeK [] kvs)))) := by
  intro pins s σ H xs us Q I r q
  obtain ⟨a, ps, kvs, ex, hq, hp, q⟩ := q
  subst ex
  obtain ⟨u, eu, rx⟩ := vals1 r
  subst eu
  cases rx
  obtain ⟨its, rv, pl, hz⟩ := I.tuple hq.1
  have ei := refs_at rv
  subst ei
  rw [List.length_map] at hz
  obtain ⟨prs, rel, hl, hpr⟩ := pairs_of I hp
  obtain ⟨o, ho, hcl, n, hdat⟩ := pl
  have hd : o.dict = none := by
    rcases hq.2 with ⟨o', u, h1, h2⟩ | ⟨o', h1, h2⟩
    · have e : s.heap.get? a = some o' := (I.hok a _ h1).1
      rw [ho] at e
      cases e
      exact h2
    · have e := I.kIn a o' h1
      rw [ho] at e
      cases e
      exact h2
  -- the pairs as they lie
  have pv : ∃ pvs : List (Value × Value), pvs.length = prs.length ∧ ∀ (j : Nat) (k v : Value), pvs[j]? = some (k, v) → ∃ (b : Addr) (q : Key × Value), prs[j]? = some q ∧ v = q.2 ∧ ps[j]? = some b ∧ IsTup s.heap b #[k, v] ∧ keyIs q.1 k = true := by
    have go : ∀ (l : List (Key × Value)) (as : List Addr), (∀ (j : Nat) (q : Key × Value), l[j]? = some q → ∃ (b : Addr) (u : Value), as[j]? = some b ∧ IsTup s.heap b #[u, q.2] ∧ keyIs q.1 u = true) → ∃ pvs : List (Value × Value), pvs.length = l.length ∧ ∀ (j : Nat) (k v : Value), pvs[j]? = some (k, v) → ∃ (b : Addr) (q : Key × Value), l[j]? = some q ∧ v = q.2 ∧ as[j]? = some b ∧ IsTup s.heap b #[k, v] ∧ keyIs q.1 k = true := fun l => by
      induction l with
      | nil => exact fun as _ => ⟨[], rfl, fun j k v e => by simp at e⟩
      | cons q l ih =>
        intro as hh
        obtain ⟨b, u, e1, e2, e3⟩ := hh 0 q rfl
        obtain ⟨pvs, l1, l2⟩ := ih as.tail fun j q' e => by
          obtain ⟨b', u', f1, f2⟩ := hh (j + 1) q' (by simpa using e)
          refine ⟨b', u', ?_, f2⟩
          cases as with
          | nil => simp at f1
          | cons x y => simpa using f1
        refine ⟨(u, q.2) :: pvs, by rw [List.length_cons, List.length_cons, l1], fun j k v e => ?_⟩
        cases j with
        | zero =>
          have e' : (u, q.2) = (k, v) := Option.some.inj e
          cases e'
          exact ⟨b, q, rfl, rfl, e1, e2, e3⟩
        | succ j =>
          obtain ⟨b', q', f1, f2, f3, f4⟩ := l2 j k v (by simpa using e)
          refine ⟨b', q', by simpa using f1, f2, ?_, f4⟩
          cases as with
          | nil => simp at f3
          | cons x y => simpa using f3
    exact go prs ps hpr
  obtain ⟨pvs, pl1, pl2⟩ := pv
  have hm : (s.heap.objs.size == sysModules) = false := beq_eq_false_iff_ne.mpr (Nat.ne_of_gt I.big)
  refine PySem.call_dict_pairs (knd := mixKind X.prog X.w) (kvs := prs) (PySem.PairArg.tuple a (ps.map Value.ref).toArray (fun j => ps.getD j 0) pvs) (I.ok.hd hcalm) ⟨⟨o, n, ho, hcl, hd, hdat⟩, by simp [pl1, hl], fun j k v e => ?_⟩ ⟨pl1.symm, fun i key v e => ?_⟩ (by rw [pl1, hl]; exact hz) fun h' tk hd' k => ?_
  · obtain ⟨b, q', f1, f2, f3, f4, _⟩ := pl2 j k v e
    refine ⟨by simp [f3], ?_⟩
    have eb : ps.getD j 0 = b := by rw [List.getD_eq_getElem?_getD, f3]; rfl
    show PairAt s.heap (ps.getD j 0) k v
    rw [eb]
    exact .inl f4
  · obtain ⟨b, q', f1, f2, f3, f4, f5⟩ := pl2 i key v e
    refine ⟨q'.1, by rw [f1, f2], ?_⟩
    exact f5
  · have hlen : (mergeK [] kvs).length ≤ sizeLine := by
      refine Nat.le_trans (length_mergeK kvs []) ?_
      rw [List.length_nil, Nat.zero_add, rel.length, hl]
      exact hz
    exact ⟨.ref s.heap.objs.size, upd H s.heap.objs.size (.dK (mergeK [] kvs)), I.laid (t' := tk) (fun b o e => k b o (fun z => nomatch z) e) (Nat.le_refl _) (show ObjOk X.prog X.w _ _ _ (.dK (mergeK [] kvs)) from ⟨hlen, hm, merged [] prs, KV.merge rel .nil, hd'⟩), rfl, q _ (I.hok.fresh (Nat.le_refl _))⟩
end
/-! ### t[::-1] -/
section
variable {prog : Program} {w : World} {A : Around} {E : Value → Shared → Prop} {s : Shared}
theorem fm_map {α β : Type} {f : α → Option β} {g : α → β} : ∀ (l : List α) (_ : Unit), (∀ m ∈ l, f m = some (g m)) → l.filterMap f = l.map g
  | [], _, _ => rfl
  | x :: l, u, h => by rw [List.filterMap_cons, h x List.mem_cons_self, List.map_cons, fm_map l u fun m hm => h m (List.mem_cons_of_mem _ hm)]
theorem pick_rev (xs : Array Value) : ((List.range xs.size).filterMap fun (m : Nat) => xs[(((xs.size : Int) - 1) + (m : Int) * (-1)).toNat]?).toArray = xs.toList.reverse.toArray := by
  congr 1
  refine List.ext_getElem? fun i => ?_
  have e : ((List.range xs.size).filterMap fun (m : Nat) => xs[(((xs.size : Int) - 1) + (m : Int) * (-1)).toNat]?) = (List.range xs.size).map fun m => xs.getD (xs.size - 1 - m) .none := by
    refine fm_map _ () fun m hm => ?_
    have hm := List.mem_range.mp hm
    have q : (((xs.size : Int) - 1) + (m : Int) * (-1)).toNat = xs.size - 1 - m := by omega
    rw [q]
    have l : xs.size - 1 - m < xs.size := by omega
    simp [l]
  rw [e]
  by_cases h : i < xs.size
  · rw [List.getElem?_map, List.getElem?_range h, List.getElem?_reverse (by simpa using h)]
    have l : xs.size - 1 - i < xs.size := by omega
    simp [l]
  · rw [List.getElem?_eq_none (by simp; omega), List.getElem?_eq_none (by simp; omega)]
theorem sliceApplied_rev {sl : Addr} {vl vu vs : Value} {n : Nat} {Q : Int × Int × Nat → Shared → Prop} (hs : s.heap.IsSliceOf sl vl vu vs) (pl : IsPart vl none) (pu : IsPart vu none) (ps : IsPart vs (some (-1)))
    (h : Q (((n : Int) - 1), -1, n) s) : wpAny (model prog w) A (Builtin.Slice.sliceApplied (.ref sl) (pure (n : Int))) Q E s := by
  obtain ⟨os, hos, hcs, hds⟩ := id hs
  unfold Builtin.Slice.sliceApplied Builtin.Slice.sliceFields
  refine wpAny_bind (wpAny_bind (wpAny_field hos hds (x := vl) rfl (wpAny_bind (wpAny_field hos hds (x := vu) rfl (wpAny_bind (wpAny_field hos hds (x := vs) rfl (wpAny_pure ?_)))))))
  refine wpAny_bind (HT.slicePart_ ps ?_)
  show wpAny _ _ (if ((-1 : Int) == 0) = true then _ else _) _ _ s
  rw [if_neg (by decide)]
  refine wpAny_bind (HT.slicePart_ pl (wpAny_bind (HT.slicePart_ pu (wpAny_bind (wpAny_pure ?_)))))
  have e : Builtin.Slice.sliceAdjust none none (-1) (n : Int) = ((n : Int) - 1, -1) := by
    unfold Builtin.Slice.sliceAdjust
    simp
  have e2 : Builtin.Slice.slicePlaces ((n : Int) - 1) (-1) (-1) = n := by
    unfold Builtin.Slice.slicePlaces
    by_cases q : n = 0
    · subst q; rfl
    · have q1 : ¬ ((-1 : Int) > 0) := by decide
      simp only [q1, if_false]
      split
      · rw [show (- -1 : Int) = 1 by decide, Int.ediv_one]
        omega
      · omega
  show wpAny _ _ (match Builtin.Slice.sliceAdjust none none (-1) (n : Int) with | (lo, hi) => pure (lo, (-1 : Int), Builtin.Slice.slicePlaces lo hi (-1))) _ _ s
  rw [e]
  show wpAny _ _ (pure (((n : Int) - 1), (-1 : Int), Builtin.Slice.slicePlaces ((n : Int) - 1) (-1) (-1))) _ _ s
  rw [e2]
  exact wpAny_pure h
theorem getItem_tuple_rev {t sl : Addr} {items : Array Value} {vl vu vs : Value} {Q : Value → Shared → Prop} (ht : IsTup s.heap t items) (hs : s.heap.IsSliceOf sl vl vu vs) (pl : IsPart vl none) (pu : IsPart vu none) (ps : IsPart vs (some (-1)))
    (h : Q (.ref s.heap.objs.size) { s with heap := s.heap.push { cls := .type "tuple", data := .seq items.toList.reverse.toArray } }) (hsz : items.size ≤ sizeLine) : wpAny (model prog w) A (getItem (.ref t) (.ref sl)) Q E s := by
  have htake : sizeOk (.seq items.toList.reverse.toArray) := by
    show items.toList.reverse.toArray.size ≤ sizeLine
    rw [List.size_toArray, List.length_reverse, Array.length_toList]
    exact hsz
  obtain ⟨os, hos, hcs, hds⟩ := id hs
  have hTs : s.TypeIs (.ref sl) "slice" := ⟨os, hos, hcs⟩
  unfold getItem
  try with_reducible refine wpAny_holding ?_
  first | refine wpAny_bind (wpAny_pure ?_) | skip
  refine wpAny_bind (wpAny_sequenceKey ht.typeIs (by decide) ?_)
  refine wpAny_bind (wpAny_callSpecial?_slot (name := Str.ofString "__getitem__") ht.typeIs PyProof.Rows.slot_tuple_getitem
    (wpAny_call_entry PyProof.Rows.slot_tuple_getitem ht.typeIs entry_tuple_getitem ?_ (args_tuple_getitem _ _)))
  show wpAny _ _ (Builtin.Tuple.tupleItemsOf (.ref t) >>= _) _ _ s
  refine wpAny_bind (tupleItemsOf_ ht ?_)
  refine wpAny_bind (wpAny_typeOf hTs ?_)
  rw [if_pos (by decide)]
  refine wpAny_bind (sliceApplied_rev hs pl pu ps ?_)
  have hno : ¬ ((((items.size : Int) - 1) == 0 && (-1 : Int) == 1 && items.size == items.size) = true) := by
    intro q
    rw [Bool.and_eq_true, Bool.and_eq_true] at q
    exact absurd q.1.2 (by decide)
  show wpAny _ _ (if (((items.size : Int) - 1) == 0 && (-1 : Int) == 1 && items.size == items.size) = true then _ else _) _ _ s
  rw [if_neg hno, pick_rev]
  first
    | exact wpAny_bind (m := Builtin.Tuple.tupleExact _) (wpAny_newObj_type (wpAny_pure ⟨_, rfl, wpAny_pure h⟩) htake)
    | exact wpAny_bind (m := Builtin.Tuple.tupleExact _) (wpAny_newObj_type (wpAny_bind (wpAny_pure (wpAny_pure ⟨_, rfl, wpAny_pure h⟩))) htake)
    | exact wpAny_bind (wpAny_bind (m := Builtin.Tuple.tupleExact _) (wpAny_newObj_type (wpAny_pure (wpAny_pure ⟨_, rfl, wpAny_pure h⟩)) htake))
    | exact wpAny_bind (wpAny_bind (m := Builtin.Tuple.tupleExact _) (wpAny_newObj_type (wpAny_pure ⟨_, rfl, wpAny_pure h⟩) htake))
end
section
variable {X : Cx}
def tRevA (K : PySem.W.Frag) (te : TE) : TE := fun σ H Q => te σ H fun x H1 => (∃ a xs, x = .ref a ∧ SqL K H1 a xs ∧ ∀ p, H1 p = none → Q (.ref p) (upd H1 p (.lst xs.reverse))) ∨ (∃ a xs, x = .ref a ∧ SqT K H1 a xs ∧ NewT H1 xs.reverse Q)
theorem pe_revA {e : Expr} {te : TE} {k : Nat} {p1 p2 p3 pos : Pos} (he : PE X e te) : PE X (.Subscript e (.Slice none none (some (.UnaryOp .USub (.Constant (.int 1) k p1) p2)) p3) pos) (tRevA X.K te) := by
  refine ⟨fun pins s σ H Q I h => ?_⟩
  refine Subscript_ (thn (he.run pins s σ H _ I h) fun v s1 ⟨x, H1, I1, r1, q1⟩ => ?_)
  have hst : PO X (some (.UnaryOp .USub (.Constant (.int 1) k p1) p2)) (tPart (tUn (rU fun i => .int (-i)) (tC (.int 1)))) := po_some (pe_un un_neg pe_int)
  refine wpAny_Slice (thn (po_none.run pins s1 σ H1 (fun o H2 => o = none ∧ H2 = H1) I1 ⟨rfl, rfl⟩) fun vl s2 ⟨l, H2, I2, pl, el, e2⟩ => ?_)
  subst el e2
  refine thn (po_none.run pins s2 σ H2 (fun o H3 => o = none ∧ H3 = H2) I2 ⟨rfl, rfl⟩) fun vu s3 ⟨u, H3, I3, pu, eu, e3⟩ => ?_
  subst eu e3
  refine thn (hst.run pins s3 σ H3 (fun o H4 => o = some (-1) ∧ H4 = H3) I3 ⟨1, rfl, -1, rfl, rfl, rfl⟩) fun vs s4 ⟨o, H4, I4, ps, eo, e4⟩ => ?_
  subst eo e4
  have I5 : Inv X pins σ H4 { s4 with heap := s4.heap.push { cls := .type "slice", data := .fields #[vl, vu, vs] } } := I4.kept (t' := s4.toks) fun b ob q => Heap.get?_push_of_some _ q
  rcases q1 with ⟨a, xs, ex, hx, q⟩ | ⟨a, xs, ex, hx, q⟩
  · subst ex
    cases r1
    obtain ⟨its, r, ht, hz⟩ := I5.list hx
    have hlen := r.length
    show wpAny (model X.prog X.w) X.A (subscriptTail e (.Slice none none (some (.UnaryOp .USub (.Constant (.int 1) k p1) p2)) p3) (.ref a) (.ref s4.heap.objs.size)) (EP X pins σ Q) X.xe { s4 with heap := s4.heap.push { cls := .type "slice", data := .fields #[vl, vu, vs] } }
    refine tail_any (ops := [.ref a, .ref s4.heap.objs.size]) ht.isList.typeIs (PySem.slot_list_getitem.lookup) ?_ (by with_unfolding_all rfl)
    refine wpAny_getItem_list_slice ht.isList (Heap.IsSliceOf.new _ vl vu vs) pl pu ps (by decide) ?_ (by rw [List.size_toArray]; omega)
    rw [PySem.W.krv_pick]
    refine ⟨.ref _, _, I5.laid (t' := s4.toks) (o := .lst xs.reverse) (fun b ob q => Heap.get?_push_of_some _ q) (Nat.le_refl _) ?_, rfl, q _ (I5.hok.fresh (Nat.le_refl _))⟩
    exact ⟨by rw [List.length_reverse]; exact hz, _, 0, r.reverse, Heap.get?_push_size _ rfl⟩
  · subst ex
    cases r1
    obtain ⟨its, r, ht, hz⟩ := I5.tuple hx
    have hlen := r.length
    show wpAny (model X.prog X.w) X.A (subscriptTail e (.Slice none none (some (.UnaryOp .USub (.Constant (.int 1) k p1) p2)) p3) (.ref a) (.ref s4.heap.objs.size)) (EP X pins σ Q) X.xe { s4 with heap := s4.heap.push { cls := .type "slice", data := .fields #[vl, vu, vs] } }
    refine tail_any (ops := [.ref a, .ref s4.heap.objs.size]) ht.typeIs PyProof.Rows.slot_tuple_getitem.lookup ?_ (by with_unfolding_all rfl)
    refine getItem_tuple_rev ht (Heap.IsSliceOf.new _ vl vu vs) pl pu ps ?_ (by rw [List.size_toArray]; omega)
    exact newT_ok (tk := s4.toks) I5 (by rw [List.length_reverse]; exact hz) r.reverse q
end
end DL

/-! DL3: the operations on values, told by data. -/
namespace DL
open PySem PySem.Spec PyProof.Rows L2
/-- what every state has -/
structure OC (P : Pm) (O : Addr → Bool) (H : Hp) : Prop where
  op : O P.p = true
  pool : PoolOk P.p P.a0 H
  trk : ∀ a, O a = true → ∃ o, H a = some o
theorem SR.oc {P : Pm} {Gh : List (D × V)} {O : Addr → Bool} {σ : L2.St} {H : Hp} {env : En} (S : SR P Gh O σ H env) : OC P O H := ⟨S.op, S.pool, S.trk⟩
section
variable {P : Pm} {O : Addr → Bool} {H : Hp}
theorem OC.np (c : OC P O H) : ∀ a, H a = none → a ≠ P.p := fun _ h => c.pool.ne h
theorem OC.out (c : OC P O H) {a : Addr} (h : H a = none) : O a = false := by
  cases q : O a with
  | false => rfl
  | true =>
    obtain ⟨o, z⟩ := c.trk a q
    rw [h] at z
    cases z
theorem RR.new (c : OC P O H) {a : Addr} {ds : List D} {vs : List V} (h : H a = none) (r : RepL P.K P.p (hid H O) ds vs) : RR P O H (upd H a (.lst vs)) (.nw ds) (.ref a) := by
  refine ⟨a, vs, rfl, h, upd_same, ?_⟩
  have q : addO O a a = true := by unfold addO; simp
  rw [hid_upd q, hid_add h]
  exact r
theorem RR.newT (c : OC P O H) {a : Addr} {ds : List D} {vs : List V} {o : Obj} (h : H a = none) (d : o.dict = none) (r : RepL P.K P.p (hid H O) ds vs) : RR P O H (upd H a (.frz o (.tup vs))) (.v (.tuple ds)) (.ref a) := by
  refine ⟨a, vs, rfl, SqP.new (hid_of upd_same (c.out h)) d, RepL.mono (hid_same c.op (SameP.new h)) r⟩
end
/-! ### dicts -/
section
variable {K : PySem.W.Frag} {p : Addr} {H : Hp}
theorem kD_inj {a b : Key} (h : kD a = kD b) : a = b := by
  cases a <;> cases b <;> first | (cases h; rfl) | cases h
theorem eqK_kD (a b : Key) : eqK (kD a) (kD b) = decide (a = b) := by
  cases a with
  | inl i =>
    cases b with
    | inl j =>
      show decide (i = j) = _
      by_cases e : i = j
      · subst e; simp
      · rw [decide_eq_false e, decide_eq_false (fun z => e (Sum.inl.inj z))]
    | inr t => rw [decide_eq_false (fun z => by cases z)]; rfl
  | inr i =>
    cases b with
    | inl j => rw [decide_eq_false (fun z => by cases z)]; rfl
    | inr j =>
      show decide (i = j) = _
      by_cases e : i = j
      · subst e; simp
      · rw [decide_eq_false e, decide_eq_false (fun z => e (Sum.inr.inj z))]
theorem RepKV.length : ∀ {kvs : List (D × D)} {ks : List (Key × V)}, RepKV K p H kvs ks → ks.length = kvs.length
  | [], _, h => by rw [show _ = [] from h]; rfl
  | kv :: kvs, _, h => by
    obtain ⟨k, x, xs, e, _, h2⟩ := h
    rw [e, List.length_cons, List.length_cons, RepKV.length h2]
theorem RepKV.get (kk : Key) : ∀ {kvs : List (D × D)} {ks : List (Key × V)}, RepKV K p H kvs ks → (getKV kvs (kD kk) = none ∧ valV ks kk = none) ∨ ∃ d x, getKV kvs (kD kk) = some d ∧ valV ks kk = some x ∧ Rep K p H d x
  | [], _, h => by
    rw [show _ = [] from h]
    exact .inl ⟨rfl, rfl⟩
  | (k, d) :: kvs, _, h => by
    obtain ⟨k', x, xs, rfl, ⟨h1, h3⟩, h2⟩ := h
    subst h1
    by_cases e : k' = kk
    · subst e
      refine .inr ⟨d, x, ?_, valV_pos rfl, h3⟩
      unfold getKV
      rw [List.find?_cons_of_pos (by rw [eqK_kD]; simp)]
      rfl
    · have e1 : getKV ((kD k', d) :: kvs) (kD kk) = getKV kvs (kD kk) := by
        unfold getKV
        rw [List.find?_cons_of_neg (by rw [eqK_kD]; simpa using e)]
      rw [e1, valV_neg (p := (k', x)) (r := xs) e]
      exact RepKV.get kk h2
theorem RepKV.any (kk : Key) : ∀ {kvs : List (D × D)} {ks : List (Key × V)}, RepKV K p H kvs ks → (kvs.any fun kv => eqK kv.1 (kD kk)) = ks.any fun kv => decide (kv.1 = kk)
  | [], _, h => by
    rw [show _ = [] from h]
    rfl
  | (k, d) :: kvs, _, h => by
    obtain ⟨k', x, xs, rfl, ⟨h1, h3⟩, h2⟩ := h
    subst h1
    rw [List.any_cons, List.any_cons, RepKV.any kk h2, eqK_kD]
theorem RepKV.repl (kk : Key) {y : D} {z : V} (hy : Rep K p H y z) : ∀ {kvs : List (D × D)} {ks : List (Key × V)}, RepKV K p H kvs ks → RepKV K p H (kvs.map fun kv => if eqK kv.1 (kD kk) = true then (kv.1, y) else kv) (ks.map fun kv => if kv.1 = kk then (kv.1, z) else kv)
  | [], _, h => by
    rw [show _ = [] from h]
    exact rfl
  | (k, d) :: kvs, _, h => by
    obtain ⟨k', x, xs, rfl, ⟨h1, h3⟩, h2⟩ := h
    subst h1
    rw [List.map_cons, List.map_cons]
    simp only [eqK_kD, decide_eq_true_eq]
    have ih := RepKV.repl kk hy h2
    by_cases e : k' = kk
    · rw [if_pos e, if_pos e]
      exact ⟨k', z, _, rfl, ⟨rfl, hy⟩, ih⟩
    · rw [if_neg e, if_neg e]
      exact ⟨k', x, _, rfl, ⟨rfl, h3⟩, ih⟩
theorem RepKV.snoc (kk : Key) {y : D} {z : V} (hy : Rep K p H y z) : ∀ {kvs : List (D × D)} {ks : List (Key × V)}, RepKV K p H kvs ks → RepKV K p H (kvs ++ [(kD kk, y)]) (ks ++ [(kk, z)])
  | [], _, h => by
    rw [show _ = [] from h]
    exact ⟨kk, z, [], rfl, ⟨rfl, hy⟩, rfl⟩
  | kv :: kvs, _, h => by
    obtain ⟨k', x, xs, rfl, h1, h2⟩ := h
    exact ⟨k', x, _, rfl, h1, RepKV.snoc kk hy h2⟩
theorem RepKV.put (kk : Key) {y : D} {z : V} (hy : Rep K p H y z) {kvs : List (D × D)} {ks : List (Key × V)} (h : RepKV K p H kvs ks) : RepKV K p H (putKV kvs (kD kk) y) (putK ks kk z) := by
  unfold putKV putK
  rw [h.any kk]
  split
  · exact h.repl kk hy
  · exact h.snoc kk hy
theorem RepKV.merge : ∀ {more : List (D × D)} {ms : List (Key × V)} {kvs : List (D × D)} {ks : List (Key × V)}, RepKV K p H more ms → RepKV K p H kvs ks → RepKV K p H (mergeKV kvs more) (mergeK ks ms)
  | [], _, _, _, h, g => by
    rw [show _ = [] from h]
    exact g
  | (k, d) :: more, _, _, _, h, g => by
    obtain ⟨k', x, xs, rfl, ⟨h1, h3⟩, h2⟩ := h
    subst h1
    have z := RepKV.merge (more := more) (ms := xs) h2 (g.put k' h3)
    exact z
theorem key_of_rep {d : D} {v : V} (hk : isK d = true) (h : Rep K p H d v) : ∃ kk : Key, d = kD kk ∧ v = kV kk := by
  cases d with
  | int i => exact ⟨.inl i, rfl, h⟩
  | str i => exact ⟨.inr i, rfl, h⟩
  | _ => cases hk
end
/-- a dict to be read -/
theorem Lk.dict {P : Pm} {O : Addr → Bool} {H : Hp} {kvs : List (D × D)} {v : V} (h : Lk P O H (.dict kvs) v) (n : isPool kvs = false) : ∃ a ks, v = .ref a ∧ H a = some (.dK ks) ∧ RepKV P.K P.p (hid H O) kvs ks := by
  rcases h with ⟨e, _⟩ | ⟨a, ks, e, h1, h2⟩
  · rw [n] at e; cases e
  · exact ⟨a, ks, e, (hid_some h1).1, h2⟩
theorem Lk.key {P : Pm} {O : Addr → Bool} {H : Hp} {d : D} {v : V} (h : Lk P O H d v) (hk : isK d = true) : ∃ kk : Key, d = kD kk ∧ v = kV kk := by
  cases d with
  | int i => exact ⟨.inl i, rfl, h⟩
  | str i => exact ⟨.inr i, rfl, h⟩
  | _ => cases hk
/-- the end of an operation: a result that answers Qr gives Q -/
def Fin (P : Pm) (O : Addr → Bool) (H : Hp) (Qr : R → Prop) (Q : VK) : Prop := ∀ r v H', SameP P.p H H' → PoolOk P.p P.a0 H' → RR P O H H' r v → Qr r → Q v H'
section
variable {P : Pm} {O : Addr → Bool} {H : Hp} {Qr : R → Prop} {Q : VK}
theorem Fin.val (c : OC P O H) (f : Fin P O H Qr Q) {d : D} {v : V} (r : Rep P.K P.p (hid H O) d v) (q : Qr (.v d)) : Q v H := f (.v d) v H (SameP.refl H) c.pool r q
theorem Fin.new (c : OC P O H) (f : Fin P O H Qr Q) {ds : List D} {vs : List V} {a : Addr} (h : H a = none) (r : RepL P.K P.p (hid H O) ds vs) (q : Qr (.nw ds)) : Q (.ref a) (upd H a (.lst vs)) :=
  f _ _ _ (SameP.new h) (c.pool.new h) (RR.new c h r) q
theorem Fin.tup (c : OC P O H) (f : Fin P O H Qr Q) {ds : List D} {vs : List V} (r : RepL P.K P.p (hid H O) ds vs) (q : Qr (.v (.tuple ds))) : NewT H vs Q := fun a o h d =>
  f _ _ _ (SameP.new h) (c.pool.new h) (RR.newT c h d r) q
end
theorem Fin.i {P : Pm} {O : Addr → Bool} {H : Hp} {Qr : R → Prop} {Q : VK} (c : OC P O H) (f : Fin P O H Qr Q) {i : Int} (q : Qr (.v (.int i))) : Q (.int i) H := f.val c (d := .int i) rfl q
theorem Fin.b {P : Pm} {O : Addr → Bool} {H : Hp} {Qr : R → Prop} {Q : VK} (c : OC P O H) (f : Fin P O H Qr Q) {i : Bool} (q : Qr (.v (.bool i))) : Q (.bl i) H := f.val c (d := .bool i) rfl q
theorem Fin.s {P : Pm} {O : Addr → Bool} {H : Hp} {Qr : R → Prop} {Q : VK} (c : OC P O H) (f : Fin P O H Qr Q) {i : Str} (q : Qr (.v (.str i))) : Q (.str i) H := f.val c (d := .str i) rfl q
theorem RepL.rep {K : PySem.W.Frag} {p : Addr} {H : Hp} {ds : List D} {vs : List V} (h : RepL K p H ds vs) : ∀ n : Nat, RepL K p H (List.replicate n ds).flatten (List.replicate n vs).flatten
  | 0 => rfl
  | n + 1 => by
    rw [List.replicate_succ, List.replicate_succ, List.flatten_cons, List.flatten_cons]
    exact h.append (RepL.rep h n)
/-- two-place operations -/
def rBinD (P : Pm) (op : Operator) : R2 := fun vx vy H Q => ∃ O x y Qr, OC P O H ∧ Lk P O H x vx ∧ Lk P O H y vy ∧ dBin op x y Qr ∧ Fin P O H Qr Q
section
variable {X : Cx} {P : Pm}
theorem op_binD (op : Operator) (hK : X.K = P.K) : OpR X (binaryOp op) (rBinD P op) := by
  intro pins s σ H vx vy v u Q I rx ry h
  obtain ⟨O, x, y, Qr, c, lx, ly, w, f⟩ := h
  unfold dBin at w
  split at w
  · exact op_add pins s σ H vx vy v u Q I rx ry ⟨_, _, lx, ly, f.i c w⟩
  · exact op_sub pins s σ H vx vy v u Q I rx ry ⟨_, _, lx, ly, f.i c w⟩
  · exact op_mul pins s σ H vx vy v u Q I rx ry ⟨_, _, lx, ly, w.1, f.i c w.2⟩
  · exact op_modN pins s σ H vx vy v u Q I rx ry ⟨_, _, lx, ly, w.1, f.i c w.2⟩
  · exact op_fdivN pins s σ H vx vy v u Q I rx ry ⟨_, _, lx, ly, w.1, f.i c w.2⟩
  · exact op_add_str pins s σ H vx vy v u Q I rx ry ⟨_, _, lx, ly, w.1, f.s c w.2⟩
  · obtain ⟨a, vs, rfl, n, h1, h2⟩ := lx
    obtain ⟨b, ws, rfl, m, h3, h4⟩ := ly
    exact op_cat pins s σ H _ _ v u Q I rx ry ⟨a, b, vs, ws, rfl, rfl, h1, h3, by rw [h2.length, h4.length]; exact w.1, fun p hp => f.new c hp (h2.append h4) w.2⟩
  · rename_i ta tb
    obtain ⟨a, vs, rfl, h1, g1, h2⟩ := lx.tup
    obtain ⟨b, ws, rfl, h3, g3, h4⟩ := ly.tup
    refine op_catF pins s σ H _ _ v u Q I rx ry ⟨a, b, vs, ws, rfl, rfl, by rw [hK]; exact h1, by rw [hK]; exact h3, by rw [h2.length, h4.length]; exact w.1, fun e => ?_, fun _ e => ?_, fun _ _ => f.tup c (h2.append h4) w.2⟩
    · have e' : ta = [] := by
        have q := h2.length
        rw [e] at q
        exact List.length_eq_zero_iff.mp q.symm
      have w2 := w.2
      rw [e'] at w2
      exact f.val c (d := .tuple tb) ⟨b, ws, rfl, g3, h4⟩ w2
    · have e' : tb = [] := by
        have q := h4.length
        rw [e] at q
        exact List.length_eq_zero_iff.mp q.symm
      have w2 := w.2
      rw [e', List.append_nil] at w2
      exact f.val c (d := .tuple ta) ⟨a, vs, rfl, g1, h2⟩ w2
  · obtain ⟨a, vs, rfl, h1, _, h2⟩ := lx.tup
    rename_i ta k
    refine op_repF pins s σ H _ _ v u Q I rx ry ⟨a, _, vs, ⟨rfl, ly⟩, by rw [hK]; exact h1, ⟨fun e => w.1.1 ?_, w.1.2.1, w.1.2.2.1, by rw [h2.length]; exact w.1.2.2.2⟩, f.tup c (h2.rep _) w.2⟩
    have q := h2.length
    rw [e] at q
    exact List.length_eq_zero_iff.mp q.symm
  · obtain ⟨a, vs, rfl, n, h1, h2⟩ := lx
    exact op_rep pins s σ H _ _ v u Q I rx ry ⟨a, _, vs, rfl, ly, h1, w.1, w.2.1, by rw [h2.length]; exact w.2.2.1, fun p hp => f.new c hp (h2.rep _) w.2.2.2⟩
  · exact False.elim w
end
/-- the end of a comparison -/
def FinB (P : Pm) (H : Hp) (Qr : Bool → Prop) (Q : VK) : Prop := ∀ b, Qr b → Q (.bl b) H
def rCmpD (P : Pm) (op : CmpOp) : R2 := fun vx vy H Q => ∃ O x y Qr, OC P O H ∧ Lk P O H x vx ∧ Lk P O H y vy ∧ dCmp op x y Qr ∧ FinB P H Qr Q
section
variable {X : Cx} {P : Pm} {O : Addr → Bool} {pins : List (Addr × Obj)} {s : Shared} {σ : L2.St} {H : Hp} {vx vy : V} {v u : Value} {Q : VK} {Qr : Bool → Prop} {x y : D}
theorem dec_i {i j : Int} : decide (V.int i = V.int j) = decide (i = j) := by rw [dec_int, Bool.beq_eq_decide_eq]
theorem dec_b {i j : Bool} : decide (V.bl i = V.bl j) = decide (i = j) := by rw [dec_bl, Bool.beq_eq_decide_eq]
theorem dec_s {i j : Str} : decide (V.str i = V.str j) = decide (i = j) := by
  by_cases h : i = j
  · subst h; simp
  · rw [decide_eq_false h, decide_eq_false (fun e => h (V.str.inj e))]
/-- == of any two data -/
theorem op_eqDD (hu : X.A.units + 64 < cLine) (hK : X.K = P.K) (I : Inv X pins σ H s) (rx : RelV vx v) (ry : RelV vy u) (lx : Lk P O H x vx) (ly : Lk P O H y vy) (w : dEq x y Qr) (f : FinB P H Qr Q) :
    wpAny (model X.prog X.w) X.A (compareOp .Eq v u) (EP X pins σ Q) X.xe s := by
  unfold dEq at w
  split at w
  · rw [show vx = _ from lx] at rx
    rw [show vy = _ from ly] at ry
    exact op_eq pins s σ H _ _ v u Q I rx ry ⟨rfl, f _ (by rw [dec_i]; exact w)⟩
  · rw [show vx = _ from lx] at rx
    rw [show vy = _ from ly] at ry
    exact op_eq pins s σ H _ _ v u Q I rx ry ⟨rfl, f _ (by rw [dec_s]; exact w)⟩
  · rw [show vx = _ from lx] at rx
    rw [show vy = _ from ly] at ry
    exact op_eq pins s σ H _ _ v u Q I rx ry ⟨rfl, f _ (by rw [dec_b]; exact w)⟩
  · obtain ⟨s1, s2, w⟩ := w
    exact op_eqD hu pins s σ H _ _ v u Q I rx ry ⟨_, _, by rw [hK]; exact lx.dp (SeqAt.canLay_of_shaped s1), by rw [hK]; exact ly.dp (SeqAt.canLay_of_shaped s2), s1, s2, f _ w⟩
theorem op_neDD (hu : X.A.units + 64 < cLine) (hK : X.K = P.K) (I : Inv X pins σ H s) (rx : RelV vx v) (ry : RelV vy u) (lx : Lk P O H x vx) (ly : Lk P O H y vy) (w : dEq x y fun b => Qr (!b)) (f : FinB P H Qr Q) :
    wpAny (model X.prog X.w) X.A (compareOp .NotEq v u) (EP X pins σ Q) X.xe s := by
  unfold dEq at w
  split at w
  · rw [show vx = _ from lx] at rx
    rw [show vy = _ from ly] at ry
    exact op_ne pins s σ H _ _ v u Q I rx ry ⟨rfl, f _ (by rw [dec_i]; exact w)⟩
  · rw [show vx = _ from lx] at rx
    rw [show vy = _ from ly] at ry
    exact op_ne pins s σ H _ _ v u Q I rx ry ⟨rfl, f _ (by rw [dec_s]; exact w)⟩
  · rw [show vx = _ from lx] at rx
    rw [show vy = _ from ly] at ry
    exact op_ne pins s σ H _ _ v u Q I rx ry ⟨rfl, f _ (by rw [dec_b]; exact w)⟩
  · obtain ⟨s1, s2, w⟩ := w
    exact op_neD hu pins s σ H _ _ v u Q I rx ry ⟨_, _, by rw [hK]; exact lx.dp (SeqAt.canLay_of_shaped s1), by rw [hK]; exact ly.dp (SeqAt.canLay_of_shaped s2), s1, s2, f _ w⟩
theorem Lk.flat {d : D} {z : V} (h : Lk P O H d z) (f : flatD d = true) : z = toV d ∧ flatV z = true := by
  cases d with
  | list ds => cases f
  | tuple ds => cases f
  | dict ds => cases f
  | none => exact Rep.flat (K := P.K) (p := P.p) (H := hid H O) (show Rep P.K P.p (hid H O) .none z from h) f
  | bool b => exact Rep.flat (K := P.K) (p := P.p) (H := hid H O) (show Rep P.K P.p (hid H O) (.bool b) z from h) f
  | int b => exact Rep.flat (K := P.K) (p := P.p) (H := hid H O) (show Rep P.K P.p (hid H O) (.int b) z from h) f
  | str b => exact Rep.flat (K := P.K) (p := P.p) (H := hid H O) (show Rep P.K P.p (hid H O) (.str b) z from h) f
theorem op_inDD (hu : X.A.units + 65 < cLine) (hK : X.K = P.K) (I : Inv X pins σ H s) (rx : RelV vx v) (ry : RelV vy u) (lx : Lk P O H x vx) (ly : Lk P O H y vy) (w : dIn x y Qr) (f : FinB P H Qr Q) :
    wpAny (model X.prog X.w) X.A (compareOp .In v u) (EP X pins σ Q) X.xe s := by
  unfold dIn at w
  split at w
  · obtain ⟨w1, w2, w3⟩ := w
    obtain ⟨a, vs, rfl, h1, _, h2⟩ := ly.tup
    obtain ⟨e1, f1⟩ := lx.flat w1
    obtain ⟨e2, f2⟩ := h2.flat w2
    refine op_in_seq pins s σ H _ _ v u Q I rx ry ⟨a, vs, rfl, .inr (by rw [hK]; exact h1), f1, f2, f _ ?_⟩
    rw [if_neg (by decide), e1, e2]
    exact w3
  · obtain ⟨a, vs, e, n, h1, h2⟩ := id ly
    rcases w with ⟨w1, w2, w3⟩ | ⟨w1, w2, w3⟩
    · subst e
      obtain ⟨e1, f1⟩ := lx.flat w1
      obtain ⟨e2, f2⟩ := h2.flat w2
      refine op_in_seq pins s σ H _ _ v u Q I rx ry ⟨a, vs, rfl, .inl (SqL.of h1), f1, f2, f _ ?_⟩
      rw [if_neg (by decide), e1, e2]
      exact w3
    · exact op_inD hu pins s σ H _ _ v u Q I rx ry ⟨_, _, by rw [hK]; exact lx.dp (SeqAt.canLay_of_shaped w1), by rw [hK]; exact ly.dp (SeqAt.canLay_of_shaped w2), w1, w2, f _ w3⟩
  · split at w
    · exact op_in_str pins s σ H _ _ v u Q I rx ry ⟨_, _, lx, ly, f _ w⟩
    · exact False.elim w
  · obtain ⟨w1, w2, w3⟩ := w
    obtain ⟨a, ks, rfl, h1, h2⟩ := ly.dict w1
    obtain ⟨kk, rfl, rfl⟩ := lx.key w2
    obtain rfl : u = Value.ref a := ry
    refine d_in (by omega) I (DGet.k h1) rx fun s1 I1 => ⟨.bl _, H, I1, rfl, f _ ?_⟩
    rcases h2.get kk with ⟨e1, e2⟩ | ⟨d, z, e1, e2, _⟩
    · rw [e1] at w3; rw [e2]; exact w3
    · rw [e1] at w3; rw [e2]; exact w3
  · exact False.elim w
theorem op_niDD (hu : X.A.units + 65 < cLine) (hK : X.K = P.K) (I : Inv X pins σ H s) (rx : RelV vx v) (ry : RelV vy u) (lx : Lk P O H x vx) (ly : Lk P O H y vy) (w : dIn x y fun b => Qr (!b)) (f : FinB P H Qr Q) :
    wpAny (model X.prog X.w) X.A (compareOp .NotIn v u) (EP X pins σ Q) X.xe s := by
  unfold dIn at w
  split at w
  · obtain ⟨w1, w2, w3⟩ := w
    obtain ⟨a, vs, rfl, h1, _, h2⟩ := ly.tup
    obtain ⟨e1, f1⟩ := lx.flat w1
    obtain ⟨e2, f2⟩ := h2.flat w2
    refine op_notIn_seq pins s σ H _ _ v u Q I rx ry ⟨a, vs, rfl, .inr (by rw [hK]; exact h1), f1, f2, f _ ?_⟩
    rw [if_pos rfl, e1, e2]
    exact w3
  · obtain ⟨a, vs, e, n, h1, h2⟩ := id ly
    rcases w with ⟨w1, w2, w3⟩ | ⟨w1, w2, w3⟩
    · subst e
      obtain ⟨e1, f1⟩ := lx.flat w1
      obtain ⟨e2, f2⟩ := h2.flat w2
      refine op_notIn_seq pins s σ H _ _ v u Q I rx ry ⟨a, vs, rfl, .inl (SqL.of h1), f1, f2, f _ ?_⟩
      rw [if_pos rfl, e1, e2]
      exact w3
    · exact op_notInD hu pins s σ H _ _ v u Q I rx ry ⟨_, _, by rw [hK]; exact lx.dp (SeqAt.canLay_of_shaped w1), by rw [hK]; exact ly.dp (SeqAt.canLay_of_shaped w2), w1, w2, f _ w3⟩
  · split at w
    · exact op_notIn_str pins s σ H _ _ v u Q I rx ry ⟨_, _, lx, ly, f _ w⟩
    · exact False.elim w
  · obtain ⟨w1, w2, w3⟩ := w
    obtain ⟨a, ks, rfl, h1, h2⟩ := ly.dict w1
    obtain ⟨kk, rfl, rfl⟩ := lx.key w2
    obtain rfl : u = Value.ref a := ry
    refine d_notIn (by omega) I (DGet.k h1) rx fun s1 I1 => ⟨.bl _, H, I1, rfl, f _ ?_⟩
    rcases h2.get kk with ⟨e1, e2⟩ | ⟨d, z, e1, e2, _⟩
    · rw [e1] at w3; rw [e2]; exact w3
    · rw [e1] at w3; rw [e2]; exact w3
  · exact False.elim w
theorem isN_of {z : V} (h : Lk P O H x z) : decide (z = V.non) = isN x := by
  cases x with
  | none => rw [show z = .non from h]; rfl
  | bool b => rw [show z = .bl b from h]; rfl
  | int b => rw [show z = .int b from h]; rfl
  | str b => rw [show z = .str b from h]; rfl
  | list b =>
    obtain ⟨a, vs, e, _⟩ := h
    rw [e]
    rfl
  | tuple b =>
    obtain ⟨a, vs, e, _⟩ := h
    rw [e]
    rfl
  | dict b =>
    have q : ∃ a, z = V.ref a := by
      rcases h with ⟨_, e⟩ | ⟨a, _, e, _⟩
      · exact ⟨_, e⟩
      · exact ⟨a, e⟩
    obtain ⟨a, e⟩ := q
    rw [e]
    rfl
theorem shaped_depth {d : D} (h : SeqAt.shaped d = true) : d.depth ≤ 64 := by
  unfold SeqAt.shaped at h
  rw [Bool.and_eq_true, decide_eq_true_eq] at h
  exact h.2
/-- order of tuples -/
theorem op_ordD {op : CmpOp} {a b : List D} (hu : X.A.units + 65 < cLine) (hK : X.K = P.K) (I : Inv X pins σ H s) (rx : RelV vx v) (ry : RelV vy u) (lx : Lk P O H (.tuple a) vx) (ly : Lk P O H (.tuple b) vy) (w : dCmp op (.tuple a) (.tuple b) Qr) (f : FinB P H Qr Q)
    (ho : op = .Lt ∨ op = .LtE ∨ op = .Gt ∨ op = .GtE) : wpAny (model X.prog X.w) X.A (compareOp op v u) (EP X pins σ Q) X.xe s := by
  have rd : ∀ {c : List D} {z : V} {y : Value}, SeqAt.shaped (.tuple c) = true → Lk P O H (.tuple c) z → RelV z y → ∃ as, Reads s.heap y (.tuple c) as := fun h1 h2 h3 => Dp.reads I _ _ _ (by rw [hK]; exact h2.dp (SeqAt.canLay_of_shaped h1)) h3
  have fin : ∀ t, Qr t → EP X pins σ Q (.bool t) s := fun t q => ⟨.bl t, H, I, rfl, f _ q⟩
  rcases ho with rfl | rfl | rfl | rfl
  all_goals
    obtain ⟨w1, w2, w3, w4⟩ := w
    have := shaped_depth w2
    have := shaped_depth w3
  · obtain ⟨as, r1⟩ := rd w2 lx rx
    obtain ⟨bs, r2⟩ := rd w3 ly ry
    exact PySem.W.lt_data r1 r2 w1 (fun e => nomatch e) (by omega) (fin _ w4)
  · obtain ⟨as, r1⟩ := rd w3 lx rx
    obtain ⟨bs, r2⟩ := rd w2 ly ry
    exact PySem.W.le_data r1 r2 (by rw [PySem.W.alike_comm]; exact w1) (fun e => nomatch e) (by omega) (fin _ w4)
  · obtain ⟨as, r1⟩ := rd w3 lx rx
    obtain ⟨bs, r2⟩ := rd w2 ly ry
    exact PySem.W.gt_data r1 r2 (by rw [PySem.W.alike_comm]; exact w1) (fun e => nomatch e) (by omega) (fin _ w4)
  · obtain ⟨as, r1⟩ := rd w2 lx rx
    obtain ⟨bs, r2⟩ := rd w3 ly ry
    exact PySem.W.ge_data r1 r2 w1 (fun e => nomatch e) (by omega) (fin _ w4)
theorem op_cmpD (op : CmpOp) (hu : X.A.units + 65 < cLine) (hK : X.K = P.K) : OpR X (compareOp op) (rCmpD P op) := by
  intro pins s σ H vx vy v u Q I rx ry h
  obtain ⟨O, x, y, Qr, c, lx, ly, w, f⟩ := h
  cases op with
  | Eq => exact op_eqDD (by omega) hK I rx ry lx ly w f
  | NotEq => exact op_neDD (by omega) hK I rx ry lx ly w f
  | In => exact op_inDD hu hK I rx ry lx ly w f
  | NotIn => exact op_niDD hu hK I rx ry lx ly w f
  | Lt =>
    unfold dCmp at w
    simp only at w
    split at w
    · exact op_lt pins s σ H _ _ v u Q I rx ry ⟨_, _, lx, ly, f _ w⟩
    · exact op_lt_str pins s σ H _ _ v u Q I rx ry ⟨_, _, lx, ly, f _ w⟩
    · exact op_ordD (op := .Lt) hu hK I rx ry lx ly w f (by simp)
    · exact False.elim w
  | LtE =>
    unfold dCmp at w
    simp only at w
    split at w
    · exact op_le pins s σ H _ _ v u Q I rx ry ⟨_, _, lx, ly, f _ w⟩
    · rw [show vx = _ from lx] at rx
      rw [show vy = _ from ly] at ry
      obtain ⟨t, rfl⟩ := rx
      obtain ⟨t', rfl⟩ := ry
      exact PySem.P.le_str ⟨.bl _, H, I, rfl, f _ w⟩
    · exact op_ordD (op := .LtE) hu hK I rx ry lx ly w f (by simp)
    · exact False.elim w
  | Gt =>
    unfold dCmp at w
    simp only at w
    split at w
    · exact op_gt pins s σ H _ _ v u Q I rx ry ⟨_, _, lx, ly, f _ w⟩
    · exact op_gt_str pins s σ H _ _ v u Q I rx ry ⟨_, _, lx, ly, f _ w⟩
    · exact op_ordD (op := .Gt) hu hK I rx ry lx ly w f (by simp)
    · exact False.elim w
  | GtE =>
    unfold dCmp at w
    simp only at w
    split at w
    · exact op_ge pins s σ H _ _ v u Q I rx ry ⟨_, _, lx, ly, f _ w⟩
    · rw [show vx = _ from lx] at rx
      rw [show vy = _ from ly] at ry
      obtain ⟨t, rfl⟩ := rx
      obtain ⟨t', rfl⟩ := ry
      exact PySem.P.ge_str ⟨.bl _, H, I, rfl, f _ w⟩
    · exact op_ordD (op := .GtE) hu hK I rx ry lx ly w f (by simp)
    · exact False.elim w
  | Is =>
    unfold dCmp at w
    simp only at w
    split at w
    · refine op_isN pins s σ H _ _ v u Q I rx ry ⟨ly, f _ ?_⟩
      rw [isN_of lx]
      exact w
    · exact False.elim w
  | IsNot =>
    unfold dCmp at w
    simp only at w
    split at w
    · refine op_notN pins s σ H _ _ v u Q I rx ry ⟨ly, f _ ?_⟩
      rw [isN_of lx]
      exact w
    · exact False.elim w
end
/-- a value's truth -/
theorem Lk.tru {P : Pm} {O : Addr → Bool} {H : Hp} {x : D} {z : V} {Q : Bool → Prop} (h : Lk P O H x z) (w : dTru x Q) : ∃ k, TruV P.K z H k ∧ Q k := by
  cases x with
  | none => rw [show z = .non from h]; exact ⟨_, rfl, w⟩
  | bool b => rw [show z = .bl b from h]; exact ⟨_, rfl, w⟩
  | int b => rw [show z = .int b from h]; exact ⟨_, rfl, w⟩
  | str b => rw [show z = .str b from h]; exact ⟨_, ⟨w.1, rfl⟩, w.2⟩
  | list ds =>
    obtain ⟨a, vs, e, n, h1, h2⟩ := h
    rw [e]
    refine ⟨_, .inl ⟨vs, SqL.of h1, rfl⟩, ?_⟩
    have q := h2.length
    have e2 : vs.isEmpty = ds.isEmpty := by
      cases vs <;> cases ds <;> first | rfl | cases q
    rw [e2]
    exact w
  | tuple ds =>
    obtain ⟨a, vs, e, h1, _, h2⟩ := Lk.tup h
    rw [e]
    refine ⟨_, .inr (.inl ⟨vs, h1, rfl⟩), ?_⟩
    have q := h2.length
    have e2 : vs.isEmpty = ds.isEmpty := by
      cases vs <;> cases ds <;> first | rfl | cases q
    rw [e2]
    exact w
  | dict b => exact False.elim w
/-! ### places, slices -/
theorem atI_some {α : Type} {xs : List α} {k : Int} {d : α} (h : atI xs k = some d) : ∃ j, ixN xs.length k = some j ∧ xs[j]? = some d := by
  unfold atI at h
  rw [Option.bind_eq_some_iff] at h
  exact h
theorem RepL.at {K : PySem.W.Frag} {p : Addr} {H : Hp} {ds : List D} {vs : List V} {k : Int} {d : D} (r : RepL K p H ds vs) (h : atI ds k = some d) : ∃ v, atI vs k = some v ∧ Rep K p H d v := by
  obtain ⟨j, h1, h2⟩ := atI_some h
  obtain ⟨v, h3, h4⟩ := r.get h2
  refine ⟨v, ?_, h4⟩
  unfold atI
  rw [r.length, h1]
  exact h3
def rIxD (P : Pm) : R2 := fun vx vy H Q => ∃ O x y Qr, OC P O H ∧ Lk P O H x vx ∧ Lk P O H y vy ∧ dIx x y Qr ∧ Fin P O H Qr Q
theorem ix_dict {X : Cx} {P : Pm} (hu : X.A.units + 65 < cLine) {value slice : Expr} {pins : List (Addr × Obj)} {s : Shared} {σ : L2.St} {O : Addr → Bool} {H : Hp} {vy : V} {u : Value} {Q : VK} {Qr : R → Prop} {a : Addr} {ks : List (Key × V)} {kvs : List (D × D)} {kk : Key} {d : D} (I : Inv X pins σ H s) (ry : RelV (kV kk) u)
    (hs : subscripted slice false (.ref a) u = operate [.ref a, u] (getItem (.ref a) u)) (h1 : H a = some (.dK ks)) (h2 : RepKV P.K P.p (hid H O) kvs ks) (c : OC P O H) (e : getKV kvs (kD kk) = some d) (f : Fin P O H Qr Q) (w : Qr (.v d)) :
    wpAny (model X.prog X.w) X.A (subscriptTail value slice (.ref a) u) (EP X pins σ Q) X.xe s := by
  rcases h2.get kk with ⟨e1, _⟩ | ⟨d', z, e1, e2, r⟩
  · rw [e] at e1; cases e1
  · rw [e] at e1
    cases e1
    have g : DGet H a (kV kk) (some z) := by rw [← e2]; exact DGet.k h1
    have hT := dict_typeIs I g
    unfold subscriptTail
    refine wpAny_bind ?_
    rw [getitemInPython_of_ne hT.not_modules]
    refine wpAny_bind (wpAny_specialOf hT PySem.F.slot_dict_getitem.lookup ?_)
    have fin : wpAny (model X.prog X.w) X.A (subscripted slice false (.ref a) u) (fun r s₃ => wpAny (model X.prog X.w) X.A (letTemporaryGo value (.ref a) r >>= fun _ => pure r) (EP X pins σ Q) X.xe s₃) X.xe s := by
      rw [hs]
      refine wpAny_operating (wpAny_mono (d_getItem (E := X.xe) (Q := EP X pins σ Q) (by omega) I g ry fun w' s' I' rw' => ⟨z, H, I', rw', f.val c r w⟩) (fun r s₃ h₃ => wpAny_bind (wpAny_letTemporaryGo (wpAny_pure h₃))) fun _ _ x => x)
    first
      | exact wpAny_pure (wpAny_bind fin)
      | exact wpAny_bind (wpAny_pure (wpAny_bind fin))
      | exact wpAny_bind fin
theorem ix_D {X : Cx} {P : Pm} (hu : X.A.units + 65 < cLine) (hK : X.K = P.K) : IxR X (rIxD P) := by
  intro value slice pins s σ H vx vy v u Q I rx ry h hs
  obtain ⟨O, x, y, Qr, c, lx, ly, w, f⟩ := h
  unfold dIx at w
  split at w
  · split at w
    · obtain ⟨w1, w2⟩ := w
      split at w2
      · rename_i k _ kvs _ d e
        obtain ⟨a, ks, rfl, h1, h2⟩ := lx.dict w1
        have ly' : vy = .str _ := ly
        subst ly'
        obtain rfl : v = Value.ref a := rx
        exact ix_dict (kk := .inr k) (vy := .str k) hu I ry hs h1 h2 c e f w2
      · exact False.elim w2
    · exact False.elim w
  · split at w
    · obtain ⟨w1, w2⟩ := w
      split at w2
      · rename_i k _ kvs _ d e
        obtain ⟨a, ks, rfl, h1, h2⟩ := lx.dict w1
        have ly' : vy = .int _ := ly
        subst ly'
        obtain rfl : v = Value.ref a := rx
        exact ix_dict (kk := .inl k) (vy := .int k) hu I ry hs h1 h2 c e f w2
      · exact False.elim w2
    · split at w
      · rename_i k ds d e
        obtain ⟨a, vs, rfl, n, h1, h2⟩ := lx
        obtain ⟨z, g1, g2⟩ := h2.at e
        exact ix_list value slice pins s σ H _ _ v u Q I rx ry ⟨a, vs, _, z, rfl, ly, SqL.of h1, g1, f.val c g2 w⟩ hs
      · exact False.elim w
    · split at w
      · rename_i k ds d e
        obtain ⟨a, vs, rfl, h1, _, h2⟩ := lx.tup
        obtain ⟨z, g1, g2⟩ := h2.at e
        exact ix_tup value slice pins s σ H _ _ v u Q I rx ry ⟨a, vs, _, z, rfl, ly, by rw [hK]; exact h1, g1, f.val c g2 w⟩ hs
      · exact False.elim w
    · obtain ⟨w0, w⟩ := w
      split at w
      · rename_i e
        exact ix_str value slice pins s σ H _ _ v u Q I rx ry ⟨_, _, _, lx, ly, w0, e, f.s c w⟩ hs
      · exact False.elim w
    · exact False.elim w
  · exact False.elim w
theorem cut_rep {K : PySem.W.Frag} {p : Addr} {H : Hp} {ds : List D} {vs : List V} {lo hi : Option Int} (r : RepL K p H ds vs) : RepL K p H (cutD ds lo hi) (cutV vs lo hi) := by
  unfold cutD cutV
  rw [r.length]
  exact (r.drop _).take _
def rSlD (P : Pm) : V → Option Int → Option Int → Hp → VK → Prop := fun vx lo hi H Q => ∃ O x Qr, OC P O H ∧ Lk P O H x vx ∧ dSl x lo hi Qr ∧ Fin P O H Qr Q
theorem sl_D {X : Cx} {P : Pm} (hK : X.K = P.K) : SlR X (rSlD P) := by
  intro pins s σ H vx v vl vu lo hi sl Q I rx hs pl pu h
  obtain ⟨O, x, Qr, c, lx, w, f⟩ := h
  unfold dSl at w
  split at w
  · obtain ⟨a, vs, rfl, n, h1, h2⟩ := lx
    exact sl_list pins s σ H _ v vl vu lo hi sl Q I rx hs pl pu ⟨a, vs, rfl, SqL.of h1, fun p hp => f.new c hp (cut_rep h2) w⟩
  · rename_i ds
    obtain ⟨a, vs, rfl, h1, g1, h2⟩ := lx.tup
    refine sl_tupF pins s σ H _ v vl vu lo hi sl Q I rx hs pl pu ⟨a, vs, rfl, by rw [hK]; exact h1, fun e => ?_, fun _ => f.tup c (cut_rep h2) w⟩
    have e' : cutD ds lo hi = ds := by
      rw [h2.length] at e
      unfold cutD
      rw [e.1, e.2, List.drop_zero, Nat.sub_zero]
      exact List.take_length
    rw [e'] at w
    exact f.val c (d := .tuple ds) ⟨a, vs, rfl, g1, h2⟩ w
  · exact False.elim w
theorem signs_vals (x : Str) {acc : Array Value} (h : ItemsOf (SignAt x) acc x.cps.size) : Vals (x.cps.toList.map fun c => V.str ⟨#[c]⟩) acc.toList := by
  have e : acc.toList.length = x.cps.size := by rw [Array.length_toList]; exact h.1
  have e2 : (x.cps.toList.map fun c => V.str ⟨#[c]⟩) = (List.range acc.toList.length).map fun i => V.str ⟨#[x.cps.getD i 0]⟩ := by
    rw [e]
    refine List.ext_getElem? fun i => ?_
    by_cases l : i < x.cps.size
    · rw [List.getElem?_map, List.getElem?_map, List.getElem?_range l]
      simp [l]
    · rw [List.getElem?_eq_none (by simp; omega), List.getElem?_eq_none (by simp; omega)]
  rw [e2]
  refine vals_of_get acc.toList _ fun j u hj => ?_
  obtain ⟨c, t, hc, rfl⟩ := h.2 j u (by rw [← hj, Array.getElem?_toList])
  refine ⟨t, ?_⟩
  have : x.cps.getD j 0 = c := by
    rw [Array.getD_eq_getD_getElem?, hc]
    rfl
  rw [this]
theorem call_listS {X : Cx} (hc : X.calm = true) : CallR X (.type "list") (fun xs H Q => ∃ x : Str, xs = [.str x] ∧ x.length ≤ sizeLine ∧ ∀ l, H l = none → Q (.ref l) (upd H l (.lst (x.cps.toList.map fun c => V.str ⟨#[c]⟩)))) := by
  intro pins s σ H xs us Q I r h
  obtain ⟨x, rfl, hz, q⟩ := h
  obtain ⟨u, rfl, t, rfl⟩ := vals1 r
  refine call_list_str (I.ok.hd hc) x t (fun h' tk acc c' k e it => ?_) hz
  refine ⟨.ref s.heap.objs.size, upd H s.heap.objs.size (.lst (x.cps.toList.map fun c => V.str ⟨#[c]⟩)), I.laid (t' := tk) k (Nat.le_refl _) (show ObjOk X.prog X.w _ _ _ (.lst _) from ⟨?_, acc.toList, c', signs_vals x it, ?_⟩), rfl, q _ (I.hok.fresh (Nat.le_refl _))⟩
  · rw [List.length_map, Array.length_toList]
    exact hz
  · rw [Array.toArray_toList]
    exact e
theorem RepL.signs {K : PySem.W.Frag} {p : Addr} {H : Hp} : ∀ l : List Nat, RepL K p H (l.map fun c => .str ⟨#[c]⟩) (l.map fun c => V.str ⟨#[c]⟩)
  | [] => rfl
  | c :: l => ⟨_, _, rfl, rfl, RepL.signs l⟩
theorem RepL.int {K : PySem.W.Frag} {p : Addr} {H : Hp} : ∀ ms : List Int, RepL K p H (ms.map .int) (ms.map V.int)
  | [] => rfl
  | m :: ms => ⟨_, _, rfl, rfl, RepL.int ms⟩
theorem pairedImp {α β : Type} {R S : α → β → Prop} (f : ∀ {a b}, R a b → S a b) : ∀ {as : List α} {bs : List β}, Paired R as bs → Paired S as bs
  | _, _, .nil => .nil
  | _, _, .cons h t => .cons (f h) (pairedImp f t)
theorem RepL.strs {K : PySem.W.Frag} {p : Addr} {H : Hp} : ∀ {ds : List D} {vs : List V} {ys : List Str}, RepL K p H ds vs → strsD ds = some ys → vs = ys.map V.str
  | [], vs, ys, h, e => by
    rw [show vs = [] from h]
    cases e
    rfl
  | d :: ds, vs, ys, h, e => by
    obtain ⟨x, xs, rfl, h1, h2⟩ := h
    cases d with
    | str s =>
      unfold strsD at e
      rw [Option.map_eq_some_iff] at e
      obtain ⟨zs, e1, rfl⟩ := e
      rw [List.map_cons, RepL.strs h2 e1, show x = .str s from h1]
    | _ => cases e
theorem RepL.pairs {K : PySem.W.Frag} {p : Addr} {H : Hp} : ∀ {ds : List D} {vs : List V} {kvs : List (D × D)}, RepL K p H ds vs → pairsD ds = some kvs → ∃ (ps : List Addr) (ks : List (Key × V)), vs = ps.map V.ref ∧ Paired (fun (p : Addr) (kv : Key × V) => SqT K H p [kV kv.1, kv.2]) ps ks ∧ RepKV K p H kvs ks
  | [], vs, kvs, h, e => by
    rw [show vs = [] from h]
    cases e
    exact ⟨[], [], rfl, .nil, rfl⟩
  | d :: ds, vs, kvs, h, e => by
    unfold pairsD at e
    split at e
    · rename_i e0
      cases e0
    · rename_i k v r e0
      cases e0
      split at e
      · rename_i hk
        rw [Option.map_eq_some_iff] at e
        obtain ⟨kvs', e1, rfl⟩ := e
        obtain ⟨x, xs, rfl, ⟨a, ws, rfl, h1, y, ys, rfl, hy, z, zs, rfl, hz, rfl⟩, h2⟩ := h
        obtain ⟨ps, ks, rfl, g1, g2⟩ := RepL.pairs h2 e1
        obtain ⟨kk, rfl, rfl⟩ := key_of_rep hk hy
        exact ⟨a :: ps, (kk, z) :: ks, rfl, .cons h1.1 g1, kk, z, ks, rfl, ⟨rfl, hz⟩, g2⟩
      · cases e
    · cases e
theorem RepL.reverse {K : PySem.W.Frag} {p : Addr} {H : Hp} : ∀ {ds : List D} {vs : List V}, RepL K p H ds vs → RepL K p H ds.reverse vs.reverse
  | [], vs, h => by
    rw [show vs = [] from h]
    exact rfl
  | d :: ds, vs, h => by
    obtain ⟨x, xs, rfl, h1, h2⟩ := h
    rw [List.reverse_cons, List.reverse_cons]
    exact h2.reverse.append (RepL.one h1)
theorem RR.newD {P : Pm} {O : Addr → Bool} {H : Hp} (c : OC P O H) {a : Addr} {kvs : List (D × D)} {ks : List (Key × V)} (h : H a = none) (r : RepKV P.K P.p (hid H O) kvs ks) : RR P O H (upd H a (.dK ks)) (.v (.dict kvs)) (.ref a) :=
  .inr ⟨a, ks, rfl, hid_of upd_same (c.out h), RepKV.mono (hid_same c.op (SameP.new h)) r⟩
/-! ### built-ins of one argument -/
def BF.id : BF → Value
  | .len => .builtin "len"
  | .int => .type "int"
  | .tuple => .type "tuple"
  | .list => .type "list"
  | .sum => .builtin "sum"
  | .all => .builtin "all"
  | .any => .builtin "any"
  | .sorted => .builtin "sorted"
  | .dict => .type "dict"
  | .str => .type "str"
def rB1 (P : Pm) (f : BF) : List V → Hp → VK → Prop := fun vs H Q => ∃ O x vx Qr, vs = [vx] ∧ OC P O H ∧ Lk P O H x vx ∧ dB1 f x Qr ∧ Fin P O H Qr Q
theorem call_b1 {X : Cx} {P : Pm} (b : BF) (hc : X.calm = true) (hK : X.K = P.K) : CallR X b.id (rB1 P b) := by
  intro pins s σ H xs us Q I r h
  obtain ⟨O, x, vx, Qr, rfl, c, lx, w, f⟩ := h
  unfold dB1 at w
  split at w
  · obtain ⟨a, vs, rfl, n, h1, h2⟩ := lx
    refine call_len_seq pins s σ H _ us Q I r ⟨a, vs, rfl, .inl (SqL.of h1), ?_⟩
    rw [h2.length]
    exact f.i c w
  · obtain ⟨a, vs, rfl, h1, _, h2⟩ := lx.tup
    refine call_len_seq pins s σ H _ us Q I r ⟨a, vs, rfl, .inr (by rw [hK]; exact h1), ?_⟩
    rw [h2.length]
    exact f.i c w
  · exact call_len_str pins s σ H _ us Q I r ⟨_, by rw [show vx = _ from lx], w.1, f.i c w.2⟩
  · exact call_int1 pins s σ H _ us Q I r (.inl ⟨_, by rw [show vx = _ from lx], f.i c w⟩)
  · exact call_int1 pins s σ H _ us Q I r (.inr ⟨_, by rw [show vx = _ from lx], f.i c w⟩)
  · obtain ⟨a, vs, rfl, n, h1, h2⟩ := lx
    exact call_tupleF pins s σ H _ us Q I r ⟨a, vs, rfl, SqL.of h1, f.tup c h2 w⟩
  · rename_i ds
    obtain ⟨a, vs, rfl, h1, g1, h2⟩ := lx.tup
    exact call_tuple_of pins s σ H _ us Q I r ⟨a, vs, rfl, .inr ⟨by rw [hK]; exact h1, f.val c (d := .tuple ds) ⟨a, vs, rfl, g1, h2⟩ w⟩⟩
  · obtain ⟨a, vs, rfl, n, h1, h2⟩ := lx
    exact call_list_of pins s σ H _ us Q I r ⟨a, vs, rfl, .inl (SqL.of h1), fun l hl => f.new c hl h2 w⟩
  · obtain ⟨a, vs, rfl, h1, _, h2⟩ := lx.tup
    exact call_list_of pins s σ H _ us Q I r ⟨a, vs, rfl, .inr (by rw [hK]; exact h1), fun l hl => f.new c hl h2 w⟩
  · exact call_listS hc pins s σ H _ us Q I r ⟨_, by rw [show vx = _ from lx], w.1, fun l hl => f.new c hl (RepL.signs _) w.2⟩
  · split at w
    · rename_i e
      obtain ⟨a, vs, rfl, n, h1, h2⟩ := lx
      rw [h2.ints e] at h1
      exact cr_sum hc pins s σ H _ us Q I r ⟨a, _, rfl, SqL.of h1, f.i c w⟩
    · exact False.elim w
  · split at w
    · rename_i e
      obtain ⟨a, vs, rfl, n, h1, h2⟩ := lx
      rw [h2.bools e] at h1
      exact cr_all hc pins s σ H _ us Q I r ⟨a, _, rfl, SqL.of h1, f.b c w⟩
    · exact False.elim w
  · split at w
    · rename_i e
      obtain ⟨a, vs, rfl, n, h1, h2⟩ := lx
      rw [h2.bools e] at h1
      exact cr_any hc pins s σ H _ us Q I r ⟨a, _, rfl, SqL.of h1, f.b c w⟩
    · exact False.elim w
  · split at w
    · rename_i e
      obtain ⟨a, vs, rfl, n, h1, h2⟩ := lx
      rw [h2.ints e] at h1
      exact cr_sortedI pins s σ H _ us Q I r ⟨a, _, rfl, SqL.of h1, fun ms p hp hs hq => f.new c hq (ds := ms.map .int) (RepL.int ms) (w ms hp hs)⟩
    · exact False.elim w
  · exact call_str_int pins s σ H _ us Q I r ⟨_, by rw [show vx = _ from lx], w.1, f.s c w.2⟩
  · split at w
    · rename_i e
      obtain ⟨a, vs, rfl, n, h1, h2⟩ := lx
      obtain ⟨ps, ks, rfl, hp, hk⟩ := h2.pairs e
      have hp' : Paired (fun (p : Addr) (kv : Key × V) => SqT X.K H p [kV kv.1, kv.2]) ps ks := by rw [hK]; exact pairedImp (fun h => SqT.same (fun b o q => (hid_some q).1) h) hp
      exact call_dictP hc pins s σ H _ us Q I r ⟨a, ps, ks, rfl, SqL.of h1, hp', fun q hq => f (.v (.dict _)) _ _ (SameP.new hq) (c.pool.new hq) (RR.newD c hq (RepKV.merge hk (kvs := []) (ks := []) rfl)) w⟩
    · exact False.elim w
  · split at w
    · rename_i e
      obtain ⟨a, vs, rfl, h1, g1, h2⟩ := lx.tup
      obtain ⟨ps, ks, rfl, hp, hk⟩ := h2.pairs e
      have hp' : Paired (fun (p : Addr) (kv : Key × V) => SqT X.K H p [kV kv.1, kv.2]) ps ks := by rw [hK]; exact pairedImp (fun h => SqT.same (fun b o q => (hid_some q).1) h) hp
      exact call_dictT hc pins s σ H _ us Q I r ⟨a, ps, ks, rfl, by rw [hK]; exact SqP.same (fun b o q => (hid_some q).1) g1, hp', fun q hq => f (.v (.dict _)) _ _ (SameP.new hq) (c.pool.new hq) (RR.newD c hq (RepKV.merge hk (kvs := []) (ks := []) rfl)) w⟩
    · exact False.elim w
  · exact False.elim w
/-! ### isinstance -/
def BT.nm : BT → String
  | .bint => "int"
  | .bbool => "bool"
  | .bstr => "str"
  | .btuple => "tuple"
  | .blist => "list"
  | .bdict => "dict"
def KD.nm : KD → String
  | .none => "NoneType"
  | .bool => "bool"
  | .int => "int"
  | .str => "str"
  | .tuple => "tuple"
  | .list => "list"
  | .dict => "dict"
def tyD (d : D) : String := (kd d).nm
theorem kit_KT (k : KD) (t : BT) : kitB k.nm t.nm = some (isKT k t) := by
  cases k <;> cases t <;> decide +kernel
theorem kit_isT (d : D) (t : BT) : kitB (tyD d) t.nm = some (isT d t) := kit_KT (kd d) t
theorem Lk.ty {P : Pm} {O : Addr → Bool} {H : Hp} {x : D} {z : V} (h : Lk P O H x z) (w : noDic x = true) : TyX P.K H z (.type (tyD x)) := by
  cases x with
  | none => rw [show z = .non from h]; exact .base .non
  | bool b => rw [show z = .bl b from h]; exact .base (.bl b)
  | int b => rw [show z = .int b from h]; exact .base (.int b)
  | str b => rw [show z = .str b from h]; exact .base (.str b)
  | list ds =>
    obtain ⟨a, vs, e, n, h1, h2⟩ := h
    rw [e]
    exact .base (.lst h1)
  | tuple ds =>
    obtain ⟨a, vs, e, h1, _, h2⟩ := Lk.tup h
    rw [e]
    rcases h1 with (h1 | ⟨o, h1⟩) | ⟨o, its, n, k1, k2, _⟩
    · exact .base (.tup h1)
    · exact .fTuple h1
    · exact .kTuple k1 k2
  | dict b =>
    have n : isPool b = false := by simpa using w
    obtain ⟨a, ks, e, h1, _⟩ := Lk.dict h n
    rw [e]
    exact .base (.dK h1)
def rIsD (P : Pm) (ts : List BT) : List V → Hp → VK → Prop := fun vs H Q => ∃ O x vx Qr, vs = [vx, .ty ((ts.headD .bint).nm)] ∧ OC P O H ∧ Lk P O H x vx ∧ noDic x = true ∧ Qr (.v (.bool (isT x (ts.headD .bint)))) ∧ Fin P O H Qr Q
theorem call_is1 {X : Cx} {P : Pm} (t : BT) (hK : X.K = P.K) : CallR X (.builtin "isinstance") (rIsD P [t]) := by
  intro pins s σ H xs us Q I r h
  obtain ⟨O, x, vx, Qr, rfl, c, lx, n, w, f⟩ := h
  exact call_isi pins s σ H _ us Q I r ⟨vx, .ty t.nm, _, _, isT x t, rfl, .ty _, by rw [hK]; exact lx.ty n, kit_ty (kit_isT x t), f.b c w⟩
end DL

/-! DLR: repr of data, where no repr is under way. -/
namespace DL
open PySem PySem.Spec PyProof.Rows L2
/-- what may be shown -/
def RprOk (d : D) : Prop := (PyData.canLay0 d = true ∧ PyData.showable d = true ∧ (PyData.shown d).length ≤ sizeLine ∧ PyData.depth d ≤ 64) ∨ d = .dict []
def spRepr : SpD := fun ds Q => ∃ d, ds = [d] ∧ RprOk d ∧ Q (.v (.str (PyData.shown d)))
def rRepr (P : Pm) : List V → Hp → VK → Prop := fun vs H Q => ∃ O d vx Qr, vs = [vx] ∧ OC P O H ∧ Lk P O H d vx ∧ RprOk d ∧ Qr (.v (.str (PyData.shown d))) ∧ Fin P O H Qr Q
theorem cr_repr {X : Cx} {P : Pm} (hK : X.K = P.K) (hg : X.A.guards = some []) (hu : X.A.units + 100 < cLine) : CallR X (.builtin "repr") (rRepr P) := by
  intro pins s σ H xs us Q I r h
  obtain ⟨O, d, vx, Qr, rfl, c, lx, ok, w, f⟩ := h
  obtain ⟨u, rfl, ru⟩ := vals1 r
  have fin : ∀ (h' : Heap) (t : Tok) (tk : Nat), (∀ b o, s.heap.get? b = some o → h'.get? b = some o) → EP X pins σ Q (.str (PyData.shown d) t) { s with heap := h', toks := tk } := fun h' t tk k =>
    ⟨.str _, H, I.kept (t' := tk) k, ⟨t, rfl⟩, f.s c w⟩
  have reads : ∀ as, PyData.showable d = true → (PyData.shown d).length ≤ sizeLine → PyData.depth d ≤ 64 → Reads s.heap u d as → (PyData.hasDict d = true → sysModules ∉ as) → (∃ a, u = .ref a) → wpAny (model X.prog X.w) X.A (call (.builtin "repr") [u]) (EP X pins σ Q) X.xe s := fun as c2 c3 c4 rd hs hr => by
    obtain ⟨a, rfl⟩ := hr
    exact repr_of_reads' rd c2 hs hg (by omega) (fun _ _ e => e) (fun h' u tk k => fin h' u tk k) c3
  rcases ok with ⟨c1, c2, c3, c4⟩ | rfl
  · obtain ⟨as, rd⟩ := Dp.reads I d vx u (by rw [hK]; exact lx.dp c1) ru
    cases d with
    | none =>
      cases rd
      exact PySem.P.repr_of_none (fin _ _ _ fun _ _ e => e)
    | bool b =>
      cases rd
      exact PySem.P.repr_of_bool (fin _ _ _ fun _ _ e => e)
    | int i =>
      cases rd
      exact PySem.P.repr_of_int (by simpa [PyData.showable] using c2) (fin _ _ _ fun _ _ e => e)
    | str x =>
      cases rd
      exact PySem.P.repr_of_str (fin _ _ _ fun _ _ e => e) (by simpa only [PyData.shown] using c3)
    | dict kvs => cases c1
    | list ds => exact reads as c2 c3 c4 rd (fun z => by rw [PyData.hasDict_of_canLay _ c1] at z; cases z) (by cases rd; exact ⟨_, rfl⟩)
    | tuple ds => exact reads as c2 c3 c4 rd (fun z => by rw [PyData.hasDict_of_canLay _ c1] at z; cases z) (by cases rd; exact ⟨_, rfl⟩)
  · obtain ⟨a, ks, rfl, h1, h2⟩ := lx.dict rfl
    have e : ks = [] := h2
    subst e
    obtain rfl : u = Value.ref a := ru
    obtain ⟨z, hd, vs, rel, dd⟩ := dk_rd I.hok (.inl h1)
    cases rel
    obtain ⟨o, es, ep, g1, g2, g3, _, g5, _⟩ := dd
    have e2 : es.toList = [] := by
      generalize es.toList = l at g5
      cases g5
      rfl
    have ns : a ≠ sysModules := beq_eq_false_iff_ne.mp hd
    have rd : Reads s.heap (.ref a) (.dict []) (a :: [] ++ []) := .dict g1 g2.1 g3 (by rw [e2]; exact .nil) (by rw [e2]; exact .nil)
    refine reads _ (by decide +kernel) (by decide +kernel) (by decide +kernel) rd (fun _ m => ?_) ⟨a, rfl⟩
    exact ns (List.mem_singleton.mp m).symm
end DL

/-! DL4: expressions of the core, told by their weakest preconditions. -/
namespace DL
open PySem PySem.Spec PyProof.Rows L2
theorem peImp {X : Cx} {e : Expr} {t t' : TE} (h : PE X e t) (f : ∀ σ H Q, t' σ H Q → t σ H Q) : PE X e t' := ⟨fun pins s σ H Q I q => h.run pins s σ H Q I (f σ H Q q)⟩
theorem ptImp {X : Cx} {e : Expr} {t t' : TT} (h : PT X e t) (f : ∀ σ H Q, t' σ H Q → t σ H Q) : PT X e t' := ⟨fun pins s σ H Q I q => h.run pins s σ H Q I (f σ H Q q)⟩
theorem paImp {X : Cx} {e : List Expr} {t t' : TA} (h : PA X e t) (f : ∀ σ H Q, t' σ H Q → t σ H Q) : PA X e t' := ⟨fun pos pins s σ H Q I q => h.run pos pins s σ H Q I (f σ H Q q)⟩
theorem poImp {X : Cx} {e : Option Expr} {t t' : TO} (h : PO X e t) (f : ∀ σ H Q, t' σ H Q → t σ H Q) : PO X e t' := ⟨fun pins s σ H Q I q => h.run pins s σ H Q I (f σ H Q q)⟩
/-! ### the readings -/
def tD (P : Pm) (c : CE) : TE := fun σ H Q => ∃ Gh O env Qd, SR P Gh O σ H env ∧ wpE P.G c env Qd ∧ Fin P O H Qd Q
def FinT (P : Pm) (H : Hp) (Qd : Bool → Prop) (Q : Bool → Hp → Prop) : Prop := ∀ b H', SameP P.p H H' → PoolOk P.p P.a0 H' → Qd b → Q b H'
def tT (P : Pm) (c : CE) : TT := fun σ H Q => ∃ Gh O env Qd, SR P Gh O σ H env ∧ wpT P.G c env Qd ∧ FinT P H Qd Q
def RRs (P : Pm) (O : Addr → Bool) (H H' : Hp) : List R → List V → Prop
  | [], vs => vs = []
  | r :: rs, vs => ∃ x xs, vs = x :: xs ∧ RR P O H H' r x ∧ RRs P O H H' rs xs
def FinA (P : Pm) (O : Addr → Bool) (H : Hp) (Qd : List R → Prop) (Q : List V → Hp → Prop) : Prop := ∀ rs vs H', SameP P.p H H' → PoolOk P.p P.a0 H' → RRs P O H H' rs vs → Qd rs → Q vs H'
def tAs (P : Pm) (cs : CEs) : TA := fun σ H Q => ∃ Gh O env Qd, SR P Gh O σ H env ∧ wpEs P.G cs env Qd ∧ FinA P O H Qd Q
def FinO (P : Pm) (H : Hp) (Qd : Option Int → Prop) (Q : Option Int → Hp → Prop) : Prop := ∀ o H', SameP P.p H H' → PoolOk P.p P.a0 H' → Qd o → Q o H'
def tPt (P : Pm) (c : CP) : TO := fun σ H Q => ∃ Gh O env Qd, SR P Gh O σ H env ∧ wpP P.G c env Qd ∧ FinO P H Qd Q
section
variable {P : Pm} {O : Addr → Bool} {H H1 H2 : Hp} {Gh : List (D × V)} {σ : L2.St} {env : En}
theorem RRs.mono (hp : O P.p = true) (np : ∀ a, H a = none → a ≠ P.p) (s : SameP P.p H1 H2) : ∀ {rs : List R} {vs : List V}, RRs P O H H1 rs vs → RRs P O H H2 rs vs
  | [], _, h => h
  | r :: rs, _, h => by
    obtain ⟨x, xs, e, h1, h2⟩ := h
    exact ⟨x, xs, e, h1.mono hp np s, RRs.mono hp np s h2⟩
theorem RRs.from (np : ∀ a, H1 a = none → a ≠ P.p) (s : SameP P.p H H1) : ∀ {rs : List R} {vs : List V}, RRs P O H1 H2 rs vs → RRs P O H H2 rs vs
  | [], _, h => h
  | r :: rs, _, h => by
    obtain ⟨x, xs, e, h1, h2⟩ := h
    exact ⟨x, xs, e, h1.from np s, RRs.from np s h2⟩
theorem RRs.esc (tr : ∀ a, O a = true → ∃ o, H a = some o) : ∀ {rs : List R} {vs : List V} {ds : List D}, RRs P O H H1 rs vs → escs rs = some ds → RepL P.K P.p (hid H1 O) ds vs
  | [], _, _, h, e => by
    have e' : [] = _ := Option.some.inj e
    subst e'
    exact h
  | r :: rs, _, ds, h, e => by
    obtain ⟨x, xs, ev, h1, h2⟩ := h
    unfold escs at e
    split at e
    · rename_i d he
      split at e
      · rename_i es hes
        have e' := Option.some.inj e
        subst e'
        exact ⟨x, xs, ev, h1.esc tr he, RRs.esc tr h2 hes⟩
      · cases e
    · cases e
theorem SR.np (S : SR P Gh O σ H env) : ∀ a, H a = none → a ≠ P.p := fun _ h => S.pool.ne h
end
section
variable {X : Cx} {P : Pm} {a b c : Expr} {ca cb cc : CE} {pos : Pos}
/-! ### names, constants -/
theorem pd_var {i : Nat} {x : Str} (hN : X.N[i]? = some x) (hv : Vis X.env.scope x) (hd : (x == ("__debug__" : Str)) = false) (hcd : (x == ("__classdict__" : Str)) = false) : PE X (.Name x pos) (tD P (.var i)) := by
  refine peImp (pe_var hN hv hd hcd) fun σ H Q h => ?_
  obtain ⟨Gh, O, env, Qd, S, w, f⟩ := h
  simp only [wpE] at w
  split at w
  · rename_i d e
    obtain ⟨v, h1, h2⟩ := S.sl i _ e
    exact ⟨v, h1, f (.v d) v H (SameP.refl H) S.pool h2 w⟩
  · rename_i ds e
    obtain ⟨q, vs, h1, h2, h3, h4, h5, h6⟩ := S.sl i _ e
    exact ⟨_, h1, f (.bw ds) _ H (SameP.refl H) S.pool ⟨q, vs, rfl, h3, h4, h5, h2, h6⟩ w⟩
  · exact False.elim w
theorem pd_cst {e : Expr} {cc : CE} {v : V} {d : D} (h : PE X e (tC v)) (hw : ∀ G env Q, wpE G cc env Q = Q (.v d)) (hr : ∀ K p H, Rep K p H d v) : PE X e (tD P cc) := by
  refine peImp h fun σ H Q h => ?_
  obtain ⟨Gh, O, env, Qd, S, w, f⟩ := h
  rw [hw] at w
  exact f (.v d) v H (SameP.refl H) S.pool (hr _ _ _) w
theorem pd_glb {k : Nat} {x : Str} {v : V} {u : Value} {d : D} (hg : Gl X x) (hm : X.mg x = some u) (r : RelV v u) (hk : P.G.Γ k = some d) (hr : ∀ H, Rep P.K P.p H d v) (hd : (x == ("__debug__" : Str)) = false) : PE X (.Name x pos) (tD P (.glb k)) := by
  refine peImp (pe_glob hg hm r hd) fun σ H Q h => ?_
  obtain ⟨Gh, O, env, Qd, S, w, f⟩ := h
  simp only [wpE, hk] at w
  exact f (.v d) v H (SameP.refl H) S.pool (hr _) w
/-! ### operators -/
theorem pd_bin {op : Operator} (hK : X.K = P.K) (ha : PE X a (tD P ca)) (hb : PE X b (tD P cb)) : PE X (.BinOp a op b pos) (tD P (.bin op ca cb)) := by
  refine peImp (pe_op (op_binD op hK) ha hb) fun σ H Q h => ?_
  obtain ⟨Gh, O, env, Qd, S, w, f⟩ := h
  refine ⟨Gh, O, env, _, S, w, fun x vx H1 s1 p1 r1 w1 => ⟨Gh, O, env, _, S.mono s1 p1, w1, fun y vy H2 s2 p2 r2 w2 => ?_⟩⟩
  have S2 := (S.mono s1 p1).mono s2 p2
  exact ⟨O, _, _, Qd, S2.oc, (r1.lk S.op S.np).up S.op s2, r2.lk S.op (S.mono s1 p1).np, w2, fun r v H' s p q => f r v H' ((s1.trans s2).trans s) p (q.from S2.np (s1.trans s2))⟩
theorem pd_cmp {op : CmpOp} (hu : X.A.units + 65 < cLine) (hK : X.K = P.K) (ha : PE X a (tD P ca)) (hb : PE X b (tD P cb)) (hm : behindInMarks op b = false) : PE X (.Compare a [op] [b] pos) (tD P (.cmp op ca cb)) := by
  refine peImp (pe_cmpR (op_cmpD op hu hK) ha hb hm) fun σ H Q h => ?_
  obtain ⟨Gh, O, env, Qd, S, w, f⟩ := h
  refine ⟨Gh, O, env, _, S, w, fun x vx H1 s1 p1 r1 w1 => ⟨Gh, O, env, _, S.mono s1 p1, w1, fun y vy H2 s2 p2 r2 w2 => ?_⟩⟩
  have S2 := (S.mono s1 p1).mono s2 p2
  exact ⟨O, _, _, _, S2.oc, (r1.lk S.op S.np).up S.op s2, r2.lk S.op (S.mono s1 p1).np, w2, fun t q => f (.v (.bool t)) _ H2 (s1.trans s2) p2 rfl q⟩
theorem pd_cmpT {op : CmpOp} (hu : X.A.units + 65 < cLine) (hK : X.K = P.K) (ha : PE X a (tD P ca)) (hb : PE X b (tD P cb)) (hm : behindInMarks op b = false) : PT X (.Compare a [op] [b] pos) (tT P (.cmp op ca cb)) := by
  refine ptImp (pt_cmpR (op_cmpD op hu hK) ha hb hm) fun σ H Q h => ?_
  obtain ⟨Gh, O, env, Qd, S, w, f⟩ := h
  refine ⟨Gh, O, env, _, S, w, fun x vx H1 s1 p1 r1 w1 => ⟨Gh, O, env, _, S.mono s1 p1, w1, fun y vy H2 s2 p2 r2 w2 => ?_⟩⟩
  have S2 := (S.mono s1 p1).mono s2 p2
  exact ⟨O, _, _, _, S2.oc, (r1.lk S.op S.np).up S.op s2, r2.lk S.op (S.mono s1 p1).np, w2, fun t q => ⟨t, rfl, f t H2 (s1.trans s2) p2 q⟩⟩
theorem pd_chn {op op' : CmpOp} (hu : X.A.units + 65 < cLine) (hK : X.K = P.K) (ha : PE X a (tD P ca)) (hb : PE X b (tD P cb)) (hc : PE X c (tD P cc)) (hm : lastMarks [op, op'] [b, c] = false) :
    PE X (.Compare a [op, op'] [b, c] pos) (tD P (.chn op op' ca cb cc)) := by
  refine peImp (pe_chain (op_cmpD op hu hK) (op_cmpD op' hu hK) ha hb hc hm) fun σ H Q h => ?_
  obtain ⟨Gh, O, env, Qd, S, w, f⟩ := h
  refine ⟨Gh, O, env, _, S, w, fun x vx H1 s1 p1 r1 w1 => ⟨Gh, O, env, _, S.mono s1 p1, w1, fun y vy H2 s2 p2 r2 w2 => ?_⟩⟩
  have S2 := (S.mono s1 p1).mono s2 p2
  refine ⟨O, _, _, _, S2.oc, (r1.lk S.op S.np).up S.op s2, r2.lk S.op (S.mono s1 p1).np, w2, fun t q => ⟨t, rfl, ?_⟩⟩
  cases t with
  | true =>
    exact ⟨Gh, O, env, _, S2, q, fun z vz H3 s3 p3 r3 w3 => ⟨O, _, _, _, (S2.mono s3 p3).oc, (r2.lk S.op (S.mono s1 p1).np).up S.op s3, r3.lk S.op S2.np, w3, fun t q => f (.v (.bool t)) _ H3 ((s1.trans s2).trans s3) p3 rfl q⟩⟩
  | false => exact f (.v (.bool false)) _ H2 (s1.trans s2) p2 rfl q
theorem pd_chnT {op op' : CmpOp} (hu : X.A.units + 65 < cLine) (hK : X.K = P.K) (ha : PE X a (tD P ca)) (hb : PE X b (tD P cb)) (hc : PE X c (tD P cc)) (hm : lastMarks [op, op'] [b, c] = false) :
    PT X (.Compare a [op, op'] [b, c] pos) (tT P (.chn op op' ca cb cc)) := by
  refine ptImp (pt_chain (op_cmpD op hu hK) (op_cmpD op' hu hK) ha hb hc hm) fun σ H Q h => ?_
  obtain ⟨Gh, O, env, Qd, S, w, f⟩ := h
  refine ⟨Gh, O, env, _, S, w, fun x vx H1 s1 p1 r1 w1 => ⟨Gh, O, env, _, S.mono s1 p1, w1, fun y vy H2 s2 p2 r2 w2 => ?_⟩⟩
  have S2 := (S.mono s1 p1).mono s2 p2
  refine ⟨O, _, _, _, S2.oc, (r1.lk S.op S.np).up S.op s2, r2.lk S.op (S.mono s1 p1).np, w2, fun t q => ⟨t, rfl, ?_⟩⟩
  cases t with
  | true =>
    exact ⟨Gh, O, env, _, S2, q, fun z vz H3 s3 p3 r3 w3 => ⟨O, _, _, _, (S2.mono s3 p3).oc, (r2.lk S.op (S.mono s1 p1).np).up S.op s3, r3.lk S.op S2.np, w3, fun t q => ⟨t, rfl, f t H3 ((s1.trans s2).trans s3) p3 q⟩⟩⟩
  | false => exact ⟨false, rfl, f false H2 (s1.trans s2) p2 q⟩
theorem lk_int {O : Addr → Bool} {H : Hp} {d : D} {v : V} {i : Int} (h : Lk P O H d v) (e : d = .int i) : v = .int i := by
  subst e
  exact h
theorem lk_bool {O : Addr → Bool} {H : Hp} {d : D} {v : V} {i : Bool} (h : Lk P O H d v) (e : d = .bool i) : v = .bl i := by
  subst e
  exact h
theorem pd_neg (ha : PE X a (tD P ca)) : PE X (.UnaryOp .USub a pos) (tD P (.neg ca)) := by
  refine peImp (pe_un un_neg ha) fun σ H Q h => ?_
  obtain ⟨Gh, O, env, Qd, S, w, f⟩ := h
  refine ⟨Gh, O, env, _, S, w, fun x vx H1 s1 p1 r1 w1 => ?_⟩
  split at w1
  · rename_i i e
    exact ⟨i, lk_int (r1.lk S.op S.np) e, f (.v (.int (-i))) _ H1 s1 p1 rfl w1⟩
  · exact False.elim w1
theorem pd_not (ha : PE X a (tD P ca)) : PE X (.UnaryOp .Not a pos) (tD P (.not ca)) := by
  refine peImp (pe_not ha) fun σ H Q h => ?_
  obtain ⟨Gh, O, env, Qd, S, w, f⟩ := h
  refine ⟨Gh, O, env, _, S, w, fun x vx H1 s1 p1 r1 w1 => ?_⟩
  split at w1
  · rename_i i e
    exact ⟨i, lk_bool (r1.lk S.op S.np) e, f (.v (.bool (!i))) _ H1 s1 p1 rfl w1⟩
  · exact False.elim w1
theorem pd_notT (ha : PT X a (tT P ca)) : PT X (.UnaryOp .Not a pos) (tT P (.not ca)) := by
  refine ptImp (pt_not ha) fun σ H Q h => ?_
  obtain ⟨Gh, O, env, Qd, S, w, f⟩ := h
  exact ⟨Gh, O, env, _, S, w, fun b H1 s1 p1 w1 => f (!b) H1 s1 p1 w1⟩
theorem pd_and {rest : List Expr} (ha : PE X a (tD P ca)) (hb : PE X (.BoolOp .And (b :: rest) pos) (tD P cb)) : PE X (.BoolOp .And (a :: b :: rest) pos) (tD P (.and ca cb)) := by
  refine peImp (pe_and ha hb) fun σ H Q h => ?_
  obtain ⟨Gh, O, env, Qd, S, w, f⟩ := h
  refine ⟨Gh, O, env, _, S, w, fun x vx H1 s1 p1 r1 w1 => ?_⟩
  split at w1
  · rename_i t e
    refine ⟨t, lk_bool (r1.lk S.op S.np) e, ?_⟩
    cases t with
    | true => exact ⟨Gh, O, env, _, S.mono s1 p1, w1, fun y vy H2 s2 p2 r2 w2 => f y vy H2 (s1.trans s2) p2 (r2.from (S.mono s1 p1).np s1) w2⟩
    | false => exact f (.v (.bool false)) _ H1 s1 p1 rfl w1
  · exact False.elim w1
theorem pd_or {rest : List Expr} (ha : PE X a (tD P ca)) (hb : PE X (.BoolOp .Or (b :: rest) pos) (tD P cb)) : PE X (.BoolOp .Or (a :: b :: rest) pos) (tD P (.or ca cb)) := by
  refine peImp (pe_or ha hb) fun σ H Q h => ?_
  obtain ⟨Gh, O, env, Qd, S, w, f⟩ := h
  refine ⟨Gh, O, env, _, S, w, fun x vx H1 s1 p1 r1 w1 => ?_⟩
  split at w1
  · rename_i t e
    refine ⟨t, lk_bool (r1.lk S.op S.np) e, ?_⟩
    cases t with
    | false => exact ⟨Gh, O, env, _, S.mono s1 p1, w1, fun y vy H2 s2 p2 r2 w2 => f y vy H2 (s1.trans s2) p2 (r2.from (S.mono s1 p1).np s1) w2⟩
    | true => exact f (.v (.bool true)) _ H1 s1 p1 rfl w1
  · exact False.elim w1
theorem pd_andT {rest : List Expr} (ha : PT X a (tT P ca)) (hb : PW X (.BoolOp .And (b :: rest) pos) (tT P cb)) : PW X (.BoolOp .And (a :: b :: rest) pos) (tT P (.and ca cb)) := by
  refine ⟨fun wh pins s σ H Q I h => (pw_and ha hb).run wh pins s σ H Q I ?_⟩
  obtain ⟨Gh, O, env, Qd, S, w, f⟩ := h
  refine ⟨Gh, O, env, _, S, w, fun t H1 s1 p1 w1 => ?_⟩
  cases t with
  | true => exact ⟨Gh, O, env, _, S.mono s1 p1, w1, fun y H2 s2 p2 w2 => f y H2 (s1.trans s2) p2 w2⟩
  | false => exact f false H1 s1 p1 w1
theorem pd_orT {rest : List Expr} (ha : PT X a (tT P ca)) (hb : PW X (.BoolOp .Or (b :: rest) pos) (tT P cb)) : PW X (.BoolOp .Or (a :: b :: rest) pos) (tT P (.or ca cb)) := by
  refine ⟨fun wh pins s σ H Q I h => (pw_or ha hb).run wh pins s σ H Q I ?_⟩
  obtain ⟨Gh, O, env, Qd, S, w, f⟩ := h
  refine ⟨Gh, O, env, _, S, w, fun t H1 s1 p1 w1 => ?_⟩
  cases t with
  | false => exact ⟨Gh, O, env, _, S.mono s1 p1, w1, fun y H2 s2 p2 w2 => f y H2 (s1.trans s2) p2 w2⟩
  | true => exact f true H1 s1 p1 w1
theorem pd_ite (hc : PT X c (tT P cc)) (ha : PE X a (tD P ca)) (hb : PE X b (tD P cb)) : PE X (.IfExp c a b pos) (tD P (.ite cc ca cb)) := by
  refine peImp (pe_ifExp hc ha hb) fun σ H Q h => ?_
  obtain ⟨Gh, O, env, Qd, S, w, f⟩ := h
  refine ⟨Gh, O, env, _, S, w, fun t H1 s1 p1 w1 => ?_⟩
  have g : Fin P O H1 Qd Q := fun y vy H2 s2 p2 r2 w2 => f y vy H2 (s1.trans s2) p2 (r2.from (S.mono s1 p1).np s1) w2
  cases t with
  | true => exact ⟨Gh, O, env, _, S.mono s1 p1, w1, g⟩
  | false => exact ⟨Gh, O, env, _, S.mono s1 p1, w1, g⟩
/-! ### lists of expressions, displays -/
theorem pd_nil : PA X [] (tAs P .nil) := by
  refine paImp pa_nil fun σ H Q h => ?_
  obtain ⟨Gh, O, env, Qd, S, w, f⟩ := h
  exact f [] [] H (SameP.refl H) S.pool rfl w
theorem pd_cons {es : List Expr} {cs : CEs} (ha : PE X a (tD P ca)) (hr : PA X es (tAs P cs)) (hs : starEach (a :: es) X.env = (false, eval a X.env) :: starEach es X.env) : PA X (a :: es) (tAs P (.cons ca cs)) := by
  refine paImp (pa_cons ha hr hs) fun σ H Q h => ?_
  obtain ⟨Gh, O, env, Qd, S, w, f⟩ := h
  refine ⟨Gh, O, env, _, S, w, fun x vx H1 s1 p1 r1 w1 => ⟨Gh, O, env, _, S.mono s1 p1, w1, fun rs vs H2 s2 p2 r2 w2 => ?_⟩⟩
  exact f (x :: rs) (vx :: vs) H2 (s1.trans s2) p2 ⟨vx, vs, rfl, r1.mono S.op S.np s2, r2.from (S.mono s1 p1).np s1⟩ w2
theorem pd_tup {es : List Expr} {cs : CEs} {x1} (h : PA X es (tAs P cs)) : PE X (.Tuple es x1 pos) (tD P (.tup cs)) := by
  refine peImp (pe_tupF h) fun σ H Q h => ?_
  obtain ⟨Gh, O, env, Qd, S, w, f⟩ := h
  refine ⟨Gh, O, env, _, S, w, fun rs vs H1 s1 p1 r1 w1 => ?_⟩
  split at w1
  · rename_i ds e
    have r := r1.esc S.trk e
    have S1 := S.mono s1 p1
    exact ⟨by rw [r.length]; exact w1.1, fun q o hq d => f _ _ _ (s1.trans (SameP.new hq)) (p1.new hq) ((RR.newT S1.oc hq d r).from S1.np s1) w1.2⟩
  · exact False.elim w1
theorem pd_lst {es : List Expr} {cs : CEs} (h : PA X es (tAs P cs)) : PE X (.List es pos) (tD P (.lst cs)) := by
  refine peImp (pe_lst h) fun σ H Q h => ?_
  obtain ⟨Gh, O, env, Qd, S, w, f⟩ := h
  refine ⟨Gh, O, env, _, S, w, fun rs vs H1 s1 p1 r1 w1 => ?_⟩
  split at w1
  · rename_i ds e
    have r := r1.esc S.trk e
    have S1 := S.mono s1 p1
    refine ⟨by rw [r.length]; exact w1.1, fun q hq => ?_⟩
    exact f _ _ _ (s1.trans (SameP.new hq)) (p1.new hq) ((RR.new S1.oc hq r).from S1.np s1) w1.2
  · exact False.elim w1
/-! ### places, slices -/
theorem pd_ix (hu : X.A.units + 65 < cLine) (hK : X.K = P.K) (ha : PE X a (tD P ca)) (hb : PE X b (tD P cb)) (hs : PlainIx b) : PE X (.Subscript a b pos) (tD P (.ix ca cb)) := by
  refine peImp (pe_ix (ix_D hu hK) ha hb hs) fun σ H Q h => ?_
  obtain ⟨Gh, O, env, Qd, S, w, f⟩ := h
  refine ⟨Gh, O, env, _, S, w, fun x vx H1 s1 p1 r1 w1 => ⟨Gh, O, env, _, S.mono s1 p1, w1, fun y vy H2 s2 p2 r2 w2 => ?_⟩⟩
  have S2 := (S.mono s1 p1).mono s2 p2
  exact ⟨O, _, _, Qd, S2.oc, (r1.lk S.op S.np).up S.op s2, r2.lk S.op (S.mono s1 p1).np, w2, fun r v H' s p q => f r v H' ((s1.trans s2).trans s) p (q.from S2.np (s1.trans s2))⟩
theorem pd_no : PO X none (tPt P .no) := by
  refine poImp po_none fun σ H Q h => ?_
  obtain ⟨Gh, O, env, Qd, S, w, f⟩ := h
  exact f none H (SameP.refl H) S.pool w
theorem pd_some (ha : PE X a (tD P ca)) : PO X (some a) (tPt P (.some ca)) := by
  refine poImp (po_some ha) fun σ H Q h => ?_
  obtain ⟨Gh, O, env, Qd, S, w, f⟩ := h
  refine ⟨Gh, O, env, _, S, w, fun x vx H1 s1 p1 r1 w1 => ?_⟩
  split at w1
  · rename_i i e
    exact ⟨i, lk_int (r1.lk S.op S.np) e, f (some i) H1 s1 p1 w1⟩
  · exact False.elim w1
theorem pd_sl {lo hi : Option Expr} {cl ch : CP} {p2 : Pos} (hK : X.K = P.K) (ha : PE X a (tD P ca)) (hl : PO X lo (tPt P cl)) (hh : PO X hi (tPt P ch)) : PE X (.Subscript a (.Slice lo hi none p2) pos) (tD P (.sl ca cl ch)) := by
  refine peImp (pe_slice (sl_D hK) ha hl hh) fun σ H Q h => ?_
  obtain ⟨Gh, O, env, Qd, S, w, f⟩ := h
  refine ⟨Gh, O, env, _, S, w, fun x vx H1 s1 p1 r1 w1 => ⟨Gh, O, env, _, S.mono s1 p1, w1, fun l H2 s2 p2 w2 => ⟨Gh, O, env, _, (S.mono s1 p1).mono s2 p2, w2, fun u H3 s3 p3 w3 => ?_⟩⟩⟩
  have S3 := ((S.mono s1 p1).mono s2 p2).mono s3 p3
  exact ⟨O, _, Qd, S3.oc, ((r1.lk S.op S.np).up S.op s2).up S.op s3, w3, fun r v H' s p q => f r v H' (((s1.trans s2).trans s3).trans s) p (q.from S3.np ((s1.trans s2).trans s3))⟩
theorem pd_join {ap cp : Pos} (hK : X.K = P.K) (ha : PE X a (tD P ca)) (hb : PE X b (tD P cb)) (hbase : attributeBase a "join" X.env (eval a X.env) = eval a X.env) (hs : starEach [b] X.env = (false, eval b X.env) :: starEach [] X.env) (hl : (ap.endLine == cp.line) = true) :
    PE X (.Call (.Attribute a "join" ap) [b] [] cp) (tD P (.join ca cb)) := by
  have hf : ((backTo cp (starEach [b] X.env)).all (fun x => !x.1) && (backToKw cp (keywordEach [] X.env)).all (fun x => x.1.isSome) && decide ([b].length + ([] : List Keyword).length + (if ([] : List Keyword).isEmpty then 0 else 1) < 30)) = true := by
    rw [hs]
    rfl
  refine peImp (pe_bm PySem.F.plainAttrs_str PySem.F.slot_str_join PySem.F.type_str_join mt_join ha (pa_cons hb pa_nil hs) hbase hf hl hs rfl) fun σ H Q h => ?_
  obtain ⟨Gh, O, env, Qd, S, w, f⟩ := h
  refine ⟨Gh, O, env, _, S, w, fun x vx H1 s1 p1 r1 w1 => ?_⟩
  have S1 := S.mono s1 p1
  have lx := r1.lk S.op S.np
  cases ex : x.d with
  | str z =>
    rw [ex] at lx w1
    obtain rfl : vx = .str z := lx
    refine ⟨rfl, Gh, O, env, _, S1, w1, fun y vy H2 s2 p2 r2 w2 => ?_⟩
    have S2 := S1.mono s2 p2
    have ly := r2.lk S.op S1.np
    cases ey : y.d with
    | list ds =>
      rw [ey] at ly w2
      obtain ⟨ad, vs, rfl, n, h1, h2⟩ := ly
      simp only at w2
      split at w2
      · rename_i ys e
        rw [h2.strs e] at h1
        exact ⟨z, ad, ys, rfl, rfl, .inl (SqL.of h1), w2.1, f (.v (.str _)) _ H2 (s1.trans s2) p2 rfl w2.2⟩
      · exact False.elim w2
    | _ => rw [ey] at w2; exact False.elim w2
  | _ => rw [ex] at w1; exact False.elim w1
theorem pd_rev {k : Nat} {p1 p2 p3 : Pos} (hK : X.K = P.K) (ha : PE X a (tD P ca)) : PE X (.Subscript a (.Slice none none (some (.UnaryOp .USub (.Constant (.int 1) k p1) p2)) p3) pos) (tD P (.rev ca)) := by
  refine peImp (pe_revA ha) fun σ H Q h => ?_
  obtain ⟨Gh, O, env, Qd, S, w, f⟩ := h
  refine ⟨Gh, O, env, _, S, w, fun x vx H1 s1 p1 r1 w1 => ?_⟩
  have S1 := S.mono s1 p1
  have lx := r1.lk S.op S.np
  split at w1
  · rename_i ds e
    rw [e] at lx
    obtain ⟨ad, vs, rfl, n, h1, h2⟩ := lx
    exact .inl ⟨ad, vs, rfl, SqL.of h1, fun q hq => f _ _ _ (s1.trans (SameP.new hq)) (p1.new hq) ((RR.new S1.oc hq h2.reverse).from S1.np s1) w1⟩
  · rename_i ds e
    rw [e] at lx
    obtain ⟨ad, vs, rfl, h1, _, h2⟩ := lx.tup
    exact .inr ⟨ad, vs, rfl, by rw [hK]; exact h1, fun q o hq d => f _ _ _ (s1.trans (SameP.new hq)) (p1.new hq) ((RR.newT S1.oc hq d h2.reverse).from S1.np s1) w1⟩
  · exact False.elim w1
theorem pd_dnil : PE X (.Dict [] [] pos) (tD P .dnil) := by
  refine peImp pe_dnewK fun σ H Q h => ?_
  obtain ⟨Gh, O, env, Qd, S, w, f⟩ := h
  exact fun q hq => f (.v (.dict [])) _ _ (SameP.new hq) (S.pool.new hq) (RR.newD S.oc hq (kvs := []) (ks := []) rfl) w
theorem pd_dget {m : Str} {ap cp : Pos} {c : Expr} {cc : CE} (hu : X.A.units + 65 < cLine) (ha : PE X a (tD P ca)) (hb : PE X b (tD P cb)) (hc : PE X c (tD P cc)) (m : M2 X a "get" ap b c cp) : PE X (.Call (.Attribute a "get" ap) [b, c] [] cp) (tD P (.dget ca cb cc)) := by
  refine peImp (pe_dget2 (by omega) ha hb hc m) fun σ H Q h => ?_
  obtain ⟨Gh, O, env, Qd, S, w, f⟩ := h
  refine ⟨Gh, O, env, _, S, w, fun r v H1 s1 p1 r1 w1 => ?_⟩
  have S1 := S.mono s1 p1
  have lx := r1.lk S.op S.np
  split at w1
  · rename_i kvs e
    rw [e] at lx
    obtain ⟨n, w1⟩ := w1
    obtain ⟨ad, ks, rfl, h1, h2⟩ := lx.dict n
    refine ⟨ad, rfl, .inl ⟨ks, .inl h1⟩, Gh, O, env, _, S1, w1, fun r' v' H2 s2 p2 r2 w2 => ?_⟩
    have S2 := S1.mono s2 p2
    refine ⟨Gh, O, env, _, S2, w2, fun r'' v'' H3 s3 p3 r3 w3 => ?_⟩
    have S3 := S2.mono s3 p3
    have ne : ad ≠ P.p := fun z => by
      obtain ⟨_, _, _, _, q, _⟩ := p1
      rw [z, q] at h1
      cases h1
    have h3 : H3 ad = some (.dK ks) := s3 _ _ ne (s2 _ _ ne h1)
    have R3 : RepKV P.K P.p (hid H3 O) kvs ks := RepKV.mono (hid_same S.op (s2.trans s3)) h2
    split at w3
    · rename_i zd ez
      obtain ⟨w3, w4⟩ := w3
      obtain ⟨kk, ek, rfl⟩ := (r2.lk S.op S1.np).key w3
      refine ⟨_, DGet.k h3, ?_⟩
      rw [ek] at w4
      rcases R3.get kk with ⟨e1, e2⟩ | ⟨d, z, e1, e2, rz⟩
      · rw [e1] at w4
        rw [e2]
        exact f (.v zd) _ H3 ((s1.trans s2).trans s3) p3 (r3.esc S2.trk ez) w4
      · rw [e1] at w4
        rw [e2]
        exact f (.v d) _ H3 ((s1.trans s2).trans s3) p3 rz w4
    · exact False.elim w3
  · exact False.elim w1
/-! ### calls -/
/-- a def's promise over data -/
def RRc (K : PySem.W.Frag) (p : Addr) (O : Addr → Bool) (H H' : Hp) : R → V → Prop
  | .v d, v => Rep K p (hid H' O) d v
  | .nw ds, v => ∃ a vs, v = .ref a ∧ H a = none ∧ H' a = some (.lst vs) ∧ RepL K p (hid H' (addO O a)) ds vs
  | .bw _, _ => False
def lift (K : PySem.W.Frag) (p a0 : Addr) (sp : SpD) : Sp := fun vs H Q _ => ∃ ds O Qd, O p = true ∧ PoolOk p a0 H ∧ (∀ a, O a = true → ∃ o, H a = some o) ∧ RepL K p (hid H O) ds vs ∧ sp ds Qd ∧
  ∀ r v H', SameP p H H' → PoolOk p a0 H' → RRc K p O H H' r v → Qd r → Q v H'
theorem RRc.rr {O : Addr → Bool} {H H' : Hp} {r : R} {v : V} (h : RRc P.K P.p O H H' r v) : RR P O H H' r v := by
  cases r with
  | v d => exact h
  | nw d => exact h
  | bw d => exact False.elim h
/-- where a def of data is called -/
def CallF (P : Pm) (X : Cx) (x : Str) (sp : SpD) : Prop :=
  ∃ f fd ps lvl, X.mg x = some (.ref f) ∧ PySem.W.keepIn X.K (.ref f) = true ∧ Binds X.K fd ps [] ∧ FnOk X.prog X.w X.K X.mg X.base CX0 lvl f fd ps (lift P.K P.p P.a0 sp) ∧ Room lvl X.A
/-- a def, or repr where it may be asked -/
def CallD (P : Pm) (X : Cx) (x : Str) (sp : SpD) : Prop := CallF P X x sp ∨ (x = "repr" ∧ X.mg "repr" = none ∧ X.A.guards = some [] ∧ X.A.units + 100 < cLine ∧ sp = spRepr)
theorem boot_repr : bootBuiltins "repr" = some (.builtin "repr") := by decide +kernel
theorem pd_repr {k : Nat} {p0 : Pos} (hK : X.K = P.K) (hg : Gl X "repr") (hm : X.mg "repr" = none) (hgd : X.A.guards = some []) (hu : X.A.units + 100 < cLine) (hk : P.G.Φ k = some spRepr) (ha : PE X a (tD P ca))
    (hs : starEach [a] X.env = (false, eval a X.env) :: starEach [] X.env) : PE X (.Call (.Name "repr" p0) [a] [] pos) (tD P (.call k (.cons ca .nil))) := by
  refine peImp (pe_callB (cr_repr (P := P) hK hgd hu) hg hm boot_repr (pa_cons ha pa_nil hs) (by decide) (by decide) hs rfl) fun σ H Q h => ?_
  obtain ⟨Gh, O, env, Qd, S, w, f⟩ := h
  simp only [wpE, wpEs] at w
  refine ⟨Gh, O, env, _, S, w, fun x vx H1 s1 p1 r1 w1 => ?_⟩
  have S1 := S.mono s1 p1
  rw [hk] at w1
  cases e : x.esc with
  | none =>
    simp only [escs, e] at w1
  | some d =>
    simp only [escs, e] at w1
    obtain ⟨d', e', ok, q⟩ := w1
    cases e'
    exact ⟨O, d, vx, Qd, rfl, S1.oc, Rep.lk S1.op (r1.esc S.trk e), ok, q, fun r v H' s p q => f r v H' (s1.trans s) p (q.from S1.np s1)⟩
theorem pd_call {k : Nat} {sp : SpD} {x : Str} {p0 : Pos} {es : List Expr} {cs : CEs} (hx : CallF P X x sp) (hk : P.G.Φ k = some sp) (hg : Gl X x) (ha : PA X (a :: es) (tAs P cs)) (hdb : (x == ("__debug__" : Str)) = false)
    (he : starEach (a :: es) X.env = (false, eval a X.env) :: starEach es X.env) (hpl : (backTo pos (starEach es X.env)).any (·.1) = false) : PE X (.Call (.Name x p0) (a :: es) [] pos) (tD P (.call k cs)) := by
  obtain ⟨fn, fd, ps, lvl, m, kp, bd, F, rm⟩ := hx
  refine peImp (pe_call F rm hg m kp bd .nil pass0 ha hdb he hpl) fun σ H Q h => ?_
  obtain ⟨Gh, O, env, Qd, S, w, f⟩ := h
  refine ⟨Gh, O, env, _, S, w, fun rs vs H1 s1 p1 r1 w1 => ?_⟩
  rw [hk] at w1
  split at w1
  · rename_i ds sp' e1 e2
    have e2' := Option.some.inj e2
    subst e2'
    have S1 := S.mono s1 p1
    rw [List.append_nil]
    exact ⟨ds, O, Qd, S.op, p1, S1.trk, r1.esc S.trk e1, w1, fun r v H' s p q => f r v H' (s1.trans s) p (q.rr.from S1.np s1)⟩
  · exact False.elim w1
theorem pd_call0 {k : Nat} {sp : SpD} {x : Str} {p0 : Pos} (hx : CallF P X x sp) (hk : P.G.Φ k = some sp) (hg : Gl X x) (hdb : (x == ("__debug__" : Str)) = false) : PE X (.Call (.Name x p0) [] [] pos) (tD P (.call k .nil)) := by
  obtain ⟨fn, fd, ps, lvl, m, kp, bd, F, rm⟩ := hx
  refine peImp (pe_call0 F rm hg m kp bd .nil pass0 hdb) fun σ H Q h => ?_
  obtain ⟨Gh, O, env, Qd, S, w, f⟩ := h
  simp only [wpE, wpEs, escs] at w
  rw [hk] at w
  exact ⟨[], O, Qd, S.op, S.pool, S.trk, rfl, w, fun r v H' s p q => f r v H' s p q.rr⟩
theorem pd_b1 {g : BF} {x : Str} {p0 : Pos} (hc : X.calm = true) (hK : X.K = P.K) (hg : Gl X x) (hm : X.mg x = none) (hv : bootBuiltins x = some g.id) (ha : PE X a (tD P ca)) (hn : x ≠ "__name__") (hdb : (x == ("__debug__" : Str)) = false)
    (hs : starEach [a] X.env = (false, eval a X.env) :: starEach [] X.env) : PE X (.Call (.Name x p0) [a] [] pos) (tD P (.b1 g ca)) := by
  have pa : PA X [a] (tCons (tD P ca) tNil) := pa_cons ha pa_nil hs
  have fin : ∀ σ H Q, tD P (.b1 g ca) σ H Q → tCB (rB1 P g) (tCons (tD P ca) tNil) σ H Q := fun σ H Q h => by
    obtain ⟨Gh, O, env, Qd, S, w, f⟩ := h
    refine ⟨Gh, O, env, _, S, w, fun x vx H1 s1 p1 r1 w1 => ?_⟩
    have S1 := S.mono s1 p1
    exact ⟨O, _, vx, Qd, rfl, S1.oc, r1.lk S.op S.np, w1, fun r v H' s p q => f r v H' (s1.trans s) p (q.from S1.np s1)⟩
  have cr := call_b1 (X := X) (P := P) g hc hK
  cases g with
  | len => exact peImp (pe_callB cr hg hm hv pa hn hdb hs rfl) fin
  | int => exact peImp (pe_callTy cr hg hm hv pa hn hdb hs rfl) fin
  | tuple => exact peImp (pe_callTy cr hg hm hv pa hn hdb hs rfl) fin
  | list => exact peImp (pe_callTy cr hg hm hv pa hn hdb hs rfl) fin
  | sum => exact peImp (pe_callB cr hg hm hv pa hn hdb hs rfl) fin
  | all => exact peImp (pe_callB cr hg hm hv pa hn hdb hs rfl) fin
  | any => exact peImp (pe_callB cr hg hm hv pa hn hdb hs rfl) fin
  | sorted => exact peImp (pe_callB cr hg hm hv pa hn hdb hs rfl) fin
  | dict => exact peImp (pe_callTy cr hg hm hv pa hn hdb hs rfl) fin
  | str => exact peImp (pe_callTy cr hg hm hv pa hn hdb hs rfl) fin
theorem rep_rg {K : PySem.W.Frag} {p : Addr} {H : Hp} (lo hi : Int) : RepL K p H (rngD lo (hi - lo).toNat) (rgV lo hi) := by
  have key : ∀ l : List Nat, RepL K p H (l.map fun (i : Nat) => PyData.int (lo + (i : Int))) (l.map fun (i : Nat) => V.int (lo + (i : Nat))) := fun l => by
    induction l with
    | nil => exact rfl
    | cons a l ih => exact ⟨_, _, rfl, rfl, ih⟩
  exact key _
theorem pd_rgl1 {t : Bool} {x y : Str} {p0 p1 p2 : Pos} (hs1 : starEach [.Call (.Name "range" p1) [a] [] p2] X.env = (false, eval (.Call (.Name "range" p1) [a] [] p2) X.env) :: starEach [] X.env) (hc : X.calm = true) (ht : x = (if t = true then "tuple" else "list")) (hx : Gl X x) (hxm : X.mg x = none) (hg : Gl X "range") (hm : X.mg "range" = none) (ha : PE X a (tD P ca)) (hs : starEach [a] X.env = (false, eval a X.env) :: starEach [] X.env) :
    PE X (.Call (.Name x p0) [.Call (.Name "range" p1) [a] [] p2] [] pos) (tD P (.rgl1 t ca)) := by
  have rg := prg_1 (p := p1) (pos := p2) hg hm ha hs
  cases t with
  | true =>
    subst ht
    refine peImp (pe_tupRgF hc hx hxm rg hs1) fun σ H Q h => ?_
    obtain ⟨Gh, O, env, Qd, S, w, f⟩ := h
    refine ⟨Gh, O, env, _, S, w, fun r v H1 s1 p1 r1 w1 => ?_⟩
    split at w1
    · rename_i j e
      obtain ⟨⟨w1, w2⟩, w3⟩ := w1
      have S1 := S.mono s1 p1
      refine ⟨j, lk_int (r1.lk S.op S.np) e, ⟨by decide, by decide, w1, by omega, by omega⟩, fun q o hq d => f _ _ _ (s1.trans (SameP.new hq)) (p1.new hq) ((RR.newT S1.oc hq d (rep_rg 0 j)).from S1.np s1) ?_⟩
      rw [Int.sub_zero]
      exact w3
    · exact False.elim w1
  | false =>
    subst ht
    refine peImp (pe_listRg hc hx hxm rg) fun σ H Q h => ?_
    obtain ⟨Gh, O, env, Qd, S, w, f⟩ := h
    refine ⟨Gh, O, env, _, S, w, fun r v H1 s1 p1 r1 w1 => ?_⟩
    split at w1
    · rename_i j e
      obtain ⟨⟨w1, w2⟩, w3⟩ := w1
      have S1 := S.mono s1 p1
      refine ⟨j, lk_int (r1.lk S.op S.np) e, ⟨by decide, by decide, w1, by omega, by omega⟩, fun q hq => f _ _ _ (s1.trans (SameP.new hq)) (p1.new hq) ((RR.new S1.oc hq (rep_rg 0 j)).from S1.np s1) ?_⟩
      rw [Int.sub_zero]
      exact w3
    · exact False.elim w1
theorem pd_rgl2 {t : Bool} {x y : Str} {p0 p1 p2 : Pos} (hs1 : starEach [.Call (.Name "range" p1) [a, b] [] p2] X.env = (false, eval (.Call (.Name "range" p1) [a, b] [] p2) X.env) :: starEach [] X.env) (hc : X.calm = true) (ht : x = (if t = true then "tuple" else "list")) (hx : Gl X x) (hxm : X.mg x = none) (hg : Gl X "range") (hm : X.mg "range" = none) (ha : PE X a (tD P ca)) (hb : PE X b (tD P cb)) (hs : starEach [a, b] X.env = (false, eval a X.env) :: starEach [b] X.env)
    (hs2 : starEach [b] X.env = (false, eval b X.env) :: starEach [] X.env) (hp : (backTo p2 (starEach [b] X.env)).any (·.1) = false) :
    PE X (.Call (.Name x p0) [.Call (.Name "range" p1) [a, b] [] p2] [] pos) (tD P (.rgl2 t ca cb)) := by
  have rg := prg_2 (p := p1) (pos := p2) hg hm ha hb hs hs2 hp
  cases t with
  | true =>
    subst ht
    refine peImp (pe_tupRgF hc hx hxm rg hs1) fun σ H Q h => ?_
    obtain ⟨Gh, O, env, Qd, S, w, f⟩ := h
    refine ⟨Gh, O, env, _, S, w, fun r v H1 s1 p1 r1 w1 => ⟨Gh, O, env, _, S.mono s1 p1, w1, fun r' v' H2 s2 p2 r2 w2 => ?_⟩⟩
    split at w2
    · rename_i i j e1 e2
      obtain ⟨⟨w1, w2, w3, w4⟩, w5⟩ := w2
      have S2 := (S.mono s1 p1).mono s2 p2
      exact ⟨i, j, lk_int (r1.lk S.op S.np) e1, lk_int (r2.lk S.op (S.mono s1 p1).np) e2, ⟨by omega, by omega, by omega, by omega, by omega⟩, fun q o hq d => f _ _ _ ((s1.trans s2).trans (SameP.new hq)) (p2.new hq) ((RR.newT S2.oc hq d (rep_rg i j)).from S2.np (s1.trans s2)) w5⟩
    · exact False.elim w2
  | false =>
    subst ht
    refine peImp (pe_listRg hc hx hxm rg) fun σ H Q h => ?_
    obtain ⟨Gh, O, env, Qd, S, w, f⟩ := h
    refine ⟨Gh, O, env, _, S, w, fun r v H1 s1 p1 r1 w1 => ⟨Gh, O, env, _, S.mono s1 p1, w1, fun r' v' H2 s2 p2 r2 w2 => ?_⟩⟩
    split at w2
    · rename_i i j e1 e2
      obtain ⟨⟨w1, w2, w3, w4⟩, w5⟩ := w2
      have S2 := (S.mono s1 p1).mono s2 p2
      exact ⟨i, j, lk_int (r1.lk S.op S.np) e1, lk_int (r2.lk S.op (S.mono s1 p1).np) e2, ⟨by omega, by omega, by omega, by omega, by omega⟩, fun q hq => f _ _ _ ((s1.trans s2).trans (SameP.new hq)) (p2.new hq) ((RR.new S2.oc hq (rep_rg i j)).from S2.np (s1.trans s2)) w5⟩
    · exact False.elim w2
theorem pd_isi {t : BT} {y : Str} {p0 p1 : Pos} (hK : X.K = P.K) (hg : Gl X "isinstance") (hm : X.mg "isinstance" = none) (hy : Gl X y) (hym : X.mg y = none) (hyv : bootBuiltins y = some (.type t.nm)) (hyn : y ≠ "__name__") (hyd : (y == ("__debug__" : Str)) = false) (ha : PE X a (tD P ca))
    (hs : starEach [a, .Name y p1] X.env = (false, eval a X.env) :: starEach [.Name y p1] X.env) : PE X (.Call (.Name "isinstance" p0) [a, .Name y p1] [] pos) (tD P (.isi ca [t])) := by
  refine peImp (pe_callB (call_is1 t hK) hg hm boot_isinstance (pa_cons ha (pa_cons (pe_bltn hy hym hyv (v := .ty t.nm) rfl hyn hyd) pa_nil) hs) (by decide) (by decide) hs rfl) fun σ H Q h => ?_
  obtain ⟨Gh, O, env, Qd, S, w, f⟩ := h
  refine ⟨Gh, O, env, _, S, w, fun x vx H1 s1 p1 r1 w1 => ?_⟩
  have S1 := S.mono s1 p1
  refine ⟨O, _, vx, Qd, rfl, S1.oc, r1.lk S.op S.np, w1.1, ?_, fun r v H' s p q => f r v H' (s1.trans s) p (q.from S1.np s1)⟩
  have w2 := w1.2
  have e : [t].any (isT x.d) = isT x.d t := by simp
  rw [e] at w2
  exact w2
/-- the truth of a value -/
theorem pd_tru {e : Expr} {ce : CE} (hK : X.K = P.K) (h : PE X e (tD P ce)) (hw : ∀ env Q, wpT P.G ce env Q → wpE P.G ce env fun r => dTru r.d Q) (he : ∀ whole, isTrue e X.env whole = (do let v ← whole; standAt e.pos; holding [v] (truthy v))) : PT X e (tT P ce) := by
  refine ptImp (pt_truth h he) fun σ H Q h => ?_
  obtain ⟨Gh, O, env, Qd, S, w, f⟩ := h
  refine ⟨Gh, O, env, _, S, hw _ _ w, fun x vx H1 s1 p1 r1 w1 => ?_⟩
  obtain ⟨k, h1, h2⟩ := (r1.lk S.op S.np).tru w1
  exact ⟨k, by rw [hK]; exact h1, f k H1 s1 p1 h2⟩
theorem pt_no {e : Expr} {ce : CE} (hw : ∀ env Q, wpT P.G ce env Q → False) : PT X e (tT P ce) := ⟨fun pins s σ H Q I h => by
  obtain ⟨Gh, O, env, Qd, S, w, f⟩ := h
  exact (hw _ _ w).elim⟩
end
end DL

/-! DL5: targets, what is walked, comprehensions. -/
namespace DL
open PySem PySem.Spec PyProof.Rows L2
section
variable {P : Pm} {O : Addr → Bool} {H H1 H2 : Hp} {Gh : List (D × V)} {σ : L2.St} {env : En}
theorem SR.put {i : Nat} {s : Sl} {x : Option V} (S : SR P Gh O σ H env) (hs : i < env.length → SlotR P O (σ.set i x) H i s)
    (hi : ∀ a ds, s = Sl.own ds → x = some (V.ref a) → ∀ (j : Nat) (ds' : List D), env[j]? = some (Sl.own ds') → σ[j]? = some (some (V.ref a)) → j = i) : SR P Gh O (σ.set i x) H (env.set i s) := by
  have at_ : ∀ {j : Nat} {u : Sl}, (env.set i s)[j]? = some u → (j = i ∧ u = s ∧ i < env.length) ∨ (j ≠ i ∧ env[j]? = some u) := fun {j u} e => by
    rw [List.getElem?_set] at e
    by_cases z : i = j
    · subst z
      rw [if_pos rfl] at e
      split at e
      · rename_i l
        exact .inl ⟨rfl, (Option.some.inj e).symm, l⟩
      · cases e
    · rw [if_neg z] at e
      exact .inr ⟨fun q => z q.symm, e⟩
  have far : ∀ {j : Nat}, j ≠ i → (σ.set i x)[j]? = σ[j]? := fun {j} n => List.getElem?_set_ne (Ne.symm n)
  refine ⟨S.same, S.pool, S.pool0, S.op, S.trk, S.sub, by rw [List.length_set, List.length_set]; exact S.len, fun j u e => ?_, fun j k a ds ds' e1 e2 e3 e4 => ?_, S.gh⟩
  · rcases at_ e with ⟨rfl, rfl, l⟩ | ⟨n, e⟩
    · exact hs l
    · have h := S.sl j u e
      cases u with
      | no => exact trivial
      | val d =>
        obtain ⟨v, h1, h2⟩ := h
        exact ⟨v, by rw [far n]; exact h1, h2⟩
      | own ds =>
        obtain ⟨a, vs, h1, h2⟩ := h
        exact ⟨a, vs, by rw [far n]; exact h1, h2⟩
  · rcases at_ e1 with ⟨rfl, q1, l1⟩ | ⟨n1, q1⟩
    · rcases at_ e2 with ⟨rfl, q2, l2⟩ | ⟨n2, q2⟩
      · rfl
      · rw [far n2] at e4
        rw [List.getElem?_set_self (by rw [S.len]; exact l1)] at e3
        exact (hi a ds q1.symm (Option.some.inj e3) k ds' q2 e4).symm
    · rw [far n1] at e3
      rcases at_ e2 with ⟨rfl, q2, l2⟩ | ⟨n2, q2⟩
      · rw [List.getElem?_set_self (by rw [S.len]; exact l2)] at e4
        exact hi a ds' q2.symm (Option.some.inj e4) j ds q1 e3
      · rw [far n2] at e4
        exact S.inj j k a ds ds' q1 q2 e3 e4
theorem SR.setV {i : Nat} {d : D} {v : V} (S : SR P Gh O σ H env) (r : Rep P.K P.p (hid H O) d v) : SR P Gh O (σ.set i (some v)) H (env.set i (.val d)) :=
  S.put (fun l => ⟨v, List.getElem?_set_self (by rw [S.len]; exact l), r⟩) fun a ds e => by cases e
theorem SR.setNo {i : Nat} (S : SR P Gh O σ H env) : SR P Gh O (σ.set i none) H (env.set i .no) :=
  S.put (fun _ => trivial) fun a ds e => by cases e
theorem SR.wipe : ∀ (vs : List Nat), SR P Gh O σ H env → SR P Gh O (wipe σ vs) H (wipeD env vs)
  | [], S => S
  | v :: vs, S => (SR.wipe vs S).setNo
theorem wipe_set {i : Nat} {x : Option V} : ∀ (vs : List Nat) (σ : L2.St), L2.wipe (σ.set i x) vs = if i ∈ vs then L2.wipe σ vs else (L2.wipe σ vs).set i x
  | [], σ => by simp [L2.wipe]
  | v :: vs, σ => by
    show (L2.wipe (σ.set i x) vs).set v none = if i ∈ v :: vs then (L2.wipe σ vs).set v none else ((L2.wipe σ vs).set v none).set i x
    rw [wipe_set vs σ]
    by_cases h : i ∈ vs
    · rw [if_pos h, if_pos (List.mem_cons_of_mem _ h)]
    · rw [if_neg h]
      by_cases e : i = v
      · subst e
        rw [if_pos List.mem_cons_self, List.set_set]
      · rw [if_neg (by simp [e, h]), List.set_comm _ _ e]
theorem wipe_wipe {vs : List Nat} : ∀ (ws : List Nat) (σ : L2.St), (∀ i ∈ ws, i ∈ vs) → L2.wipe (L2.wipe σ ws) vs = L2.wipe σ vs
  | [], _, _ => rfl
  | w :: ws, σ, h => by
    show L2.wipe ((L2.wipe σ ws).set w none) vs = L2.wipe σ vs
    rw [wipe_set, if_pos (h w List.mem_cons_self)]
    exact wipe_wipe ws σ fun i hi => h i (List.mem_cons_of_mem _ hi)
def CT.slots : CT → List Nat
  | .nm i => [i]
  | .tp is => is
/-- the slots of is alone have changed -/
def Only (is : List Nat) (σ σ' : L2.St) : Prop := ∀ vs : List Nat, (∀ i ∈ is, i ∈ vs) → L2.wipe σ' vs = L2.wipe σ vs
def tG (P : Pm) (tg : CT) : TG := fun v σ H Q => ∃ Gh O env d Qe, SR P Gh O σ H env ∧ Rep P.K P.p (hid H O) d v ∧ tgD tg d env Qe ∧ ∀ σ' env', SR P Gh O σ' H env' → Only tg.slots σ σ' → Qe env' → Q σ' H
def tGs (P : Pm) (is : List Nat) : TGs := fun vs σ H Q => ∃ Gh O env ds e, SR P Gh O σ H env ∧ RepL P.K P.p (hid H O) ds vs ∧ setAll is ds env = some e ∧ ∀ σ', SR P Gh O σ' H e → Only is σ σ' → Q σ' H
end
/-- a name that may be stored -/
structure NmOk (X : Cx) (i : Nat) (x : Str) : Prop where
  at_ : X.N[i]? = some x
  loc : Loc X.env.scope x
  fn : X.fn x = true ∨ X.env.scope.names.lookup x = some .local
section
variable {X : Cx} {P : Pm} {pos : Pos}
theorem pgImp {e : Expr} {t t' : TG} (h : PG X e t) (f : ∀ v σ H Q, t' v σ H Q → t v σ H Q) : PG X e t' := ⟨fun pins s σ H v u Q I r q => h.run pins s σ H v u Q I r (f v σ H Q q)⟩
theorem pgsImp {e : List Expr} {t t' : TGs} (h : PGs X e t) (f : ∀ v σ H Q, t' v σ H Q → t v σ H Q) : PGs X e t' := ⟨fun pins s σ H v u Q I r q => h.run pins s σ H v u Q I r (f v σ H Q q)⟩
theorem pgd_nm {i : Nat} {x : Str} (hN : X.N.Nodup) (h : NmOk X i x) : PG X (.Name x pos) (tG P (.nm i)) := by
  refine pgImp (pg_name hN h.at_ h.loc h.fn) fun v σ H Q q => ?_
  obtain ⟨Gh, O, env, d, Qe, S, r, w, f⟩ := q
  refine f _ _ (S.setV r) (fun vs hv => ?_) w
  rw [wipe_set, if_pos (hv i List.mem_cons_self)]
theorem pgd_nms (hN : X.N.Nodup) : ∀ (is : List Nat) (xs : List (Str × Pos)), is.length = xs.length → (∀ (k i : Nat) (y : Str × Pos), is[k]? = some i → xs[k]? = some y → NmOk X i y.1) → PGs X (xs.map fun y => .Name y.1 y.2) (tGs P is)
  | [], [], _, _ => pgsImp pgs_nil fun vs σ H Q q => by
    obtain ⟨Gh, O, env, ds, e, S, r, w, f⟩ := q
    cases ds with
    | nil =>
      have w' := Option.some.inj (show some env = some e from w)
      subst w'
      exact ⟨r, f σ S fun _ _ => rfl⟩
    | cons d ds => cases w
  | [], _ :: _, h, _ => by cases h
  | _ :: _, [], h, _ => by cases h
  | i :: is, y :: xs, hl, hk => by
    have h1 : NmOk X i y.1 := hk 0 i y rfl rfl
    have ih := pgd_nms hN is xs (by simpa using hl) (fun k j z e1 e2 => hk (k + 1) j z (by simpa using e1) (by simpa using e2))
    refine pgsImp (pgs_cons (pg_name hN h1.at_ h1.loc h1.fn) ih rfl) fun vs σ H Q q => ?_
    obtain ⟨Gh, O, env, ds, e, S, r, w, f⟩ := q
    cases ds with
    | nil => cases w
    | cons d ds =>
      obtain ⟨v, vr, rfl, r1, r2⟩ := r
      refine ⟨v, vr, rfl, Gh, O, _, ds, e, S.setV r1, r2, w, fun σ' S' o => f σ' S' fun vs hv => ?_⟩
      rw [o vs fun j hj => hv j (List.mem_cons_of_mem _ hj), wipe_set, if_pos (hv i List.mem_cons_self)]
theorem asg_names (env : Env) : ∀ (xs : List (Str × Pos)), (assignEach (xs.map fun y => Expr.Name y.1 y.2) env).length = xs.length ∧ (assignEach (xs.map fun y => Expr.Name y.1 y.2) env).findIdx? (·.1) = none
  | [] => ⟨rfl, rfl⟩
  | y :: xs => by
    obtain ⟨h1, h2⟩ := asg_names env xs
    have e : assignEach ((y :: xs).map fun y => Expr.Name y.1 y.2) env = (false, assign (.Name y.1 y.2) env) :: assignEach (xs.map fun y => Expr.Name y.1 y.2) env := rfl
    rw [e]
    refine ⟨by rw [List.length_cons, List.length_cons, h1], ?_⟩
    rw [List.findIdx?_cons]
    simp [h2]
theorem setAll_len : ∀ {is : List Nat} {ds : List D} {env e : En}, setAll is ds env = some e → ds.length = is.length
  | [], [], _, _, _ => rfl
  | [], _ :: _, _, _, h => by cases h
  | _ :: _, [], _, _, h => by cases h
  | i :: is, d :: ds, env, e, h => by
    have q := setAll_len (is := is) (ds := ds) h
    rw [List.length_cons, List.length_cons, q]
theorem pgd_tp {is : List Nat} {xs : List (Str × Pos)} {k : Nat} (hc : X.calm = true) (hK : X.K = P.K) (hN : X.N.Nodup) (hl : is.length = xs.length) (hk : ∀ (k i : Nat) (y : Str × Pos), is[k]? = some i → xs[k]? = some y → NmOk X i y.1) :
    PG X (.Tuple (xs.map fun y => .Name y.1 y.2) k pos) (tG P (.tp is)) := by
  refine pgImp (pg_tup hc (pgd_nms (P := P) hN is xs hl hk) (asg_names X.env xs).1 (asg_names X.env xs).2) fun v σ H Q q => ?_
  obtain ⟨Gh, O, env, d, Qe, S, r, w, f⟩ := q
  unfold tgD at w
  simp only at w
  split at w
  · rename_i ds
    split at w
    · rename_i e he
      obtain ⟨a, vs, rfl, h1, h2⟩ := r
      refine ⟨a, vs, rfl, by rw [hK]; exact SqT.same (fun b o q => (hid_some q).1) h1.1, by rw [h2.length, setAll_len he, hl], Gh, O, env, ds, e, S, h2, he, fun σ' S' o => f σ' e S' o w⟩
    · exact False.elim w
  · exact False.elim w
/-- ((x, y), z) = a pair of a pair and a value -/
def tGN (P : Pm) (i j l : Nat) : TG := fun v σ H Q => ∃ Gh O env a b c, SR P Gh O σ H env ∧ Rep P.K P.p (hid H O) (.tuple [.tuple [a, b], c]) v ∧ ∀ σ', SR P Gh O σ' H (((env.set i (.val a)).set j (.val b)).set l (.val c)) → Q σ' H
theorem pgd_nest {i j l : Nat} {x y z : Str} {px py pz p1 : Pos} {k1 k : Nat} (hc : X.calm = true) (hK : X.K = P.K) (hN : X.N.Nodup) (hx : NmOk X i x) (hy : NmOk X j y) (hz : NmOk X l z) :
    PG X (.Tuple [.Tuple [.Name x px, .Name y py] k1 p1, .Name z pz] k pos) (tGN P i j l) := by
  have inner := pg_tup (pos := p1) (k := k1) hc (pgs_cons (pg_name (pos := px) hN hx.at_ hx.loc hx.fn) (pgs_cons (pg_name (pos := py) hN hy.at_ hy.loc hy.fn) pgs_nil rfl) rfl) rfl rfl
  refine pgImp (pg_tup hc (pgs_cons inner (pgs_cons (pg_name (pos := pz) hN hz.at_ hz.loc hz.fn) pgs_nil rfl) rfl) rfl rfl) fun v σ H Q q => ?_
  obtain ⟨Gh, O, env, a, b, c, S, r, f⟩ := q
  obtain ⟨ad, vs, rfl, h1, h2⟩ := r
  obtain ⟨v1, vr, rfl, r1, v2, vr2, rfl, r2, rfl⟩ := h2
  obtain ⟨ad1, us, rfl, g1, g2⟩ := r1
  obtain ⟨u1, ur, rfl, s1, u2, ur2, rfl, s2, rfl⟩ := g2
  exact ⟨ad, _, rfl, by rw [hK]; exact SqT.same (fun b o q => (hid_some q).1) h1.1, rfl, _, _, rfl, ⟨ad1, _, rfl, by rw [hK]; exact SqT.same (fun b o q => (hid_some q).1) g1.1, rfl, _, _, rfl, _, _, rfl, rfl, _, _, rfl, rfl, f _ (((S.setV s1).setV s2).setV r2)⟩⟩
end
/-! ### what is walked -/
/-- a walk whose items stay while the heap only grows (a comprehension's) -/
def ItC (P : Pm) (O : Addr → Bool) (H0 : Hp) (items : List D) (J : It) : Prop := ∀ (O' : Addr → Bool) (H : Hp), SameP P.p H0 H → OC P O' H → Same (hid H0 O) (hid H O') →
  (∀ i, i < items.length → J.go i H) ∧ J.stop items.length H ∧ ∀ i x H', i < items.length → J.yld i H x H' → SameP P.p H H' ∧ PoolOk P.p P.a0 H' ∧ (∀ a o, H a = some o → H' a = some o) ∧ ∃ d, items[i]? = some d ∧ Rep P.K P.p (hid H' O') d x
/-- a walk whose items stay while the datum g stays -/
def ItG (P : Pm) (items : List D) (J : It) (g : D × V) : Prop := ∀ (O : Addr → Bool) (H : Hp), OC P O H → Rep P.K P.p (hid H O) g.1 g.2 →
  (∀ i, i < items.length → J.go i H) ∧ J.stop items.length H ∧ ∀ i x H', i < items.length → J.yld i H x H' → SameP P.p H H' ∧ PoolOk P.p P.a0 H' ∧ ∃ d, items[i]? = some d ∧ Rep P.K P.p (hid H' O) d x
def FinI (P : Pm) (O : Addr → Bool) (H : Hp) (Qd : Bool → List D → Prop) (Q : It → Hp → Prop) : Prop :=
  ∀ b items J H', SameP P.p H H' → PoolOk P.p P.a0 H' → ItC P O H' items J → (b = false → ∃ g, Rep P.K P.p (hid H' O) g.1 g.2 ∧ ItG P items J g) → Qd b items → Q J H'
def tI (P : Pm) (ci : CI) : TI := fun σ H Q => ∃ Gh O env Qd, SR P Gh O σ H env ∧ wpI P.G ci env Qd ∧ FinI P O H Qd Q
section
variable {P : Pm} {O : Addr → Bool} {H : Hp}
theorem SqL.inj {K : PySem.W.Frag} {a : Addr} {vs ws : List V} (h : H a = some (.lst vs)) (g : SqL K H a ws) (hk : K.lookup a = none) : vs = ws := by
  rcases g with (g | ⟨o, g⟩) | ⟨o, _, _, g, _⟩
  · rw [h] at g
    cases g
    rfl
  · rw [h] at g
    cases g
  · rw [hk] at g
    cases g
/-- the list at a walked, whatever the heap -/
theorem itl_list {a : Addr} {vs : List V} (h : H a = some (.lst vs)) : (∀ i, i < vs.length → (Itl P.K a).go i H) ∧ (Itl P.K a).stop vs.length H ∧ ∀ i x H', (Itl P.K a).yld i H x H' → H' = H ∧ vs[i]? = some x :=
  ⟨fun i hi => ⟨vs, vs[i], SqL.of h, by simp [hi]⟩, ⟨vs, SqL.of h, Nat.le_refl _⟩, fun i x H' y => ⟨y.1, y.2 vs (SqL.of h)⟩⟩
theorem itl_tup {a : Addr} {vs : List V} (h : SqT P.K H a vs) : (∀ i, i < vs.length → (Itt P.K a).go i H) ∧ (Itt P.K a).stop vs.length H ∧ ∀ i x H', (Itt P.K a).yld i H x H' → H' = H ∧ vs[i]? = some x :=
  ⟨fun i hi => ⟨vs, vs[i], h, by simp [hi]⟩, ⟨vs, h, Nat.le_refl _⟩, fun i x H' y => ⟨y.1, y.2 vs h⟩⟩
theorem ItC.list {a : Addr} {vs : List V} {ds : List D} (n : a ≠ P.p) (h : H a = some (.lst vs)) (r : RepL P.K P.p (hid H O) ds vs) : ItC P O H ds (Itl P.K a) := by
  intro O' H' s c sm
  obtain ⟨q1, q2, q3⟩ := itl_list (P := P) (s a _ n h)
  rw [r.length] at q1 q2
  refine ⟨q1, q2, fun i x H2 hi y => ?_⟩
  obtain ⟨rfl, e⟩ := q3 i x H2 y
  obtain ⟨d, e1, e2⟩ := r.get' e
  exact ⟨SameP.refl _, c.pool, fun _ _ q => q, d, e1, Rep.mono sm e2⟩
theorem ItC.tup {a : Addr} {vs : List V} {ds : List D} (h : SqT P.K (hid H O) a vs) (r : RepL P.K P.p (hid H O) ds vs) : ItC P O H ds (Itt P.K a) := by
  intro O' H' s c sm
  obtain ⟨q1, q2, q3⟩ := itl_tup (P := P) (SqT.same (fun b o q => (hid_some q).1) (SqT.same sm h))
  rw [r.length] at q1 q2
  refine ⟨q1, q2, fun i x H2 hi y => ?_⟩
  obtain ⟨rfl, e⟩ := q3 i x H2 y
  obtain ⟨d, e1, e2⟩ := r.get' e
  exact ⟨SameP.refl _, c.pool, fun _ _ q => q, d, e1, Rep.mono sm e2⟩
theorem rngD_get {lo : Int} {n i : Nat} (h : i < n) : (rngD lo n)[i]? = some (.int (lo + (i : Int))) := by
  unfold rngD
  rw [List.getElem?_map, List.getElem?_range h]
  rfl
theorem rngD_length {lo : Int} {n : Nat} : (rngD lo n).length = n := by
  unfold rngD
  rw [List.length_map, List.length_range]
theorem ItC.rng {lo : Int} {n : Nat} : ItC P O H (rngD lo n) (Itr lo n) := by
  intro O' H' s c sm
  rw [rngD_length]
  refine ⟨fun i hi => hi, Nat.le_refl n, fun i x H2 hi y => ?_⟩
  obtain ⟨rfl, rfl⟩ := y
  exact ⟨SameP.refl _, c.pool, fun _ _ q => q, _, rngD_get hi, rfl⟩
theorem ItG.rng {lo : Int} {n : Nat} {g : D × V} : ItG P (rngD lo n) (Itr lo n) g := by
  intro O' H' c _
  rw [rngD_length]
  refine ⟨fun i hi => hi, Nat.le_refl n, fun i x H2 hi y => ?_⟩
  obtain ⟨rfl, rfl⟩ := y
  exact ⟨SameP.refl _, c.pool, _, rngD_get hi, rfl⟩
def signsD (z : Str) : List D := z.cps.toList.map fun c => .str ⟨#[c]⟩
theorem its_str {z : Str} {i : Nat} {x : V} {K : PySem.W.Frag} {p : Addr} {H0 : Hp} (hi : i < (signsD z).length) (y : (Its z).yld i H x H) : ∃ d, (signsD z)[i]? = some d ∧ Rep K p H0 d x := by
  obtain ⟨_, c, e1, e2⟩ := y
  subst e2
  refine ⟨.str ⟨#[c]⟩, ?_, rfl⟩
  unfold signsD
  rw [List.getElem?_map]
  have e3 : z.cps.toList[i]? = some c := by
    rw [Array.getElem?_toList]
    exact e1
  rw [e3]
  rfl
theorem signs_len {z : Str} : (signsD z).length = z.cps.size := by
  unfold signsD
  rw [List.length_map, Array.length_toList]
theorem ItC.str {z : Str} : ItC P O H (signsD z) (Its z) := by
  intro O' H' s c sm
  refine ⟨fun i hi => by rw [signs_len] at hi; exact hi, by rw [signs_len]; exact Nat.le_refl _, fun i x H2 hi y => ?_⟩
  have e := y.1
  subst e
  obtain ⟨d, e1, e2⟩ := its_str (K := P.K) (p := P.p) (H0 := hid H2 O') hi y
  exact ⟨SameP.refl _, c.pool, fun _ _ q => q, d, e1, e2⟩
theorem ItG.str {z : Str} {g : D × V} : ItG P (signsD z) (Its z) g := by
  intro O' H' c _
  refine ⟨fun i hi => by rw [signs_len] at hi; exact hi, by rw [signs_len]; exact Nat.le_refl _, fun i x H2 hi y => ?_⟩
  have e := y.1
  subst e
  obtain ⟨d, e1, e2⟩ := its_str (K := P.K) (p := P.p) (H0 := hid H2 O') hi y
  exact ⟨SameP.refl _, c.pool, d, e1, e2⟩
theorem ItG.list {a : Addr} {ds : List D} : ItG P ds (Itl P.K a) (.list ds, .ref a) := by
  intro O' H' c r
  obtain ⟨a', vs, e, h1, h2⟩ := r
  have e' : a = a' := V.ref.inj e
  subst e'
  obtain ⟨q1, q2, q3⟩ := itl_list (P := P) (hid_some h1).1
  rw [h2.length] at q1 q2
  refine ⟨q1, q2, fun i x H2 hi y => ?_⟩
  obtain ⟨rfl, e⟩ := q3 i x H2 y
  obtain ⟨d, e1, e2⟩ := h2.get' e
  exact ⟨SameP.refl _, c.pool, d, e1, e2⟩
theorem ItG.tup {a : Addr} {ds : List D} : ItG P ds (Itt P.K a) (.tuple ds, .ref a) := by
  intro O' H' c r
  obtain ⟨a', vs, e, h1, h2⟩ := r
  have e' : a = a' := V.ref.inj e
  subst e'
  obtain ⟨q1, q2, q3⟩ := itl_tup (P := P) (SqT.same (fun b o q => (hid_some q).1) h1.1)
  rw [h2.length] at q1 q2
  refine ⟨q1, q2, fun i x H2 hi y => ?_⟩
  obtain ⟨rfl, e⟩ := q3 i x H2 y
  obtain ⟨d, e1, e2⟩ := h2.get' e
  exact ⟨SameP.refl _, c.pool, d, e1, e2⟩
end
section
variable {X : Cx} {P : Pm} {tg a b : Expr} {ca cb : CE} {pos : Pos}
theorem piImp {iter : Expr} {t t' : TI} (h : PI X tg iter t) (f : ∀ σ H Q, t' σ H Q → t σ H Q) : PI X tg iter t' := ⟨fun pins s σ H Q I q => h.run pins s σ H Q I (f σ H Q q)⟩
/-- a list, a tuple or a text, whichever comes -/
def iAny (K : PySem.W.Frag) (tl : TE) : TI := fun σ H Q => tl σ H fun x H1 => (∃ a, x = .ref a ∧ (∃ xs, SqL K H1 a xs) ∧ Q (Itl K a) H1) ∨ (∃ a, x = .ref a ∧ (∃ xs, SqT K H1 a xs) ∧ Q (Itt K a) H1) ∨ ∃ z, x = .str z ∧ Q (Its z) H1
/-- the walk of a value by a rule that evaluates -/
theorem pi_any {l : Expr} {tl : TE} (hl : PE X l tl) : PI X tg l (iAny X.K tl) := by
  refine ⟨fun pins s σ H Q I h => ?_⟩
  refine thn (hl.run pins s σ H _ I h) fun v s1 z => ?_
  obtain ⟨x, H1, I1, r1, q1⟩ := z
  have fp : ∀ (J : It) (tn : Nat → Heap → Prop) (ob : Obj) (tk : Nat), Turn X.prog X.w X.K tg J [s1.heap.objs.size] s1.heap.objs.size tn → tn 0 (s1.heap.push ob) → Q J H1 → PIE X pins σ tg Q (.ref s1.heap.objs.size) { s1 with heap := s1.heap.push ob, toks := tk } := fun J tn ob tk T st q => by
    refine ⟨s1.heap.objs.size, [s1.heap.objs.size], tn, J, H1, rfl, I1.kept (t' := tk) fun b o e => Heap.get?_push_of_some _ e, T, st, fun b hb => ?_, q⟩
    rw [List.mem_singleton.mp hb]
    exact I1.fpOk (Nat.le_refl _) (I1.hok.fresh (Nat.le_refl _))
  rcases q1 with ⟨a, e, ⟨xs, hq⟩, q⟩ | ⟨a, e, ⟨xs, hq⟩, q⟩ | ⟨z, e, q⟩
  · subst e
    cases r1
    obtain ⟨its, rv, pl, hz⟩ := I1.list hq
    exact wpAny_pyIter_list pl.isList (fp _ _ _ _ (turn_list a _) ⟨_, Heap.get?_push_size _ rfl, rfl, rfl⟩ q)
  · subst e
    cases r1
    obtain ⟨its, rv, pl, hz⟩ := I1.tuple hq
    exact wpAny_pyIter_tuple (show s1.heap.IsTuple a its.toArray from pl) (fp _ _ _ _ (turn_tuple a _) ⟨_, Heap.get?_push_size _ rfl, rfl, rfl⟩ q)
  · subst e
    obtain ⟨t, rfl⟩ := r1
    cases hw : z.cps.all (· < 128) with
    | false => exact wpAny_pyIter_wide hw (pi_one (tk := s1.toks) I1 _ (turn_str _ z t "str_iterator" (.inr rfl)) ⟨_, Heap.get?_push_size _ rfl, rfl, rfl⟩ q)
    | true => exact wpAny_pyIter_ascii hw (pi_one (tk := s1.toks) I1 _ (turn_str _ z t "str_ascii_iterator" (.inl rfl)) ⟨_, Heap.get?_push_size _ rfl, rfl, rfl⟩ q)
theorem pid_val (hK : X.K = P.K) (ha : PE X a (tD P ca)) : PI X tg a (tI P (.val ca)) := by
  refine piImp (pi_any ha) fun σ H Q h => ?_
  obtain ⟨Gh, O, env, Qd, S, w, f⟩ := h
  refine ⟨Gh, O, env, _, S, w, fun r v H1 s1 p1 r1 w1 => ?_⟩
  have S1 := S.mono s1 p1
  have lk := r1.lk S.op S.np
  split at w1
  · rename_i ds e
    cases hd : r.d with
    | list es =>
      rw [hd] at e lk
      have e' := Option.some.inj (show some es = some ds from e)
      subst e'
      obtain ⟨a, vs, rfl, n, h1, h2⟩ := lk
      refine .inl ⟨a, rfl, ⟨vs, SqL.of h1⟩, ?_⟩
      rw [hK]
      refine f _ _ _ H1 s1 p1 (ItC.list n h1 h2) (fun hb => ?_) w1
      refine ⟨(.list es, .ref a), ?_, ItG.list⟩
      cases r with
      | v d =>
        have hd' : d = .list es := hd
        subst hd'
        exact r1
      | nw d =>
        have hd' : PyData.list d = .list es := hd
        have q := r1.esc (d := .list d) S.trk rfl
        rw [hd'] at q
        exact q
      | bw d => cases hb
    | tuple es =>
      rw [hd] at e lk
      have e' := Option.some.inj (show some es = some ds from e)
      subst e'
      obtain ⟨a, vs, rfl, h1, g1, h2⟩ := lk.tup
      refine .inr (.inl ⟨a, rfl, ⟨vs, by rw [hK]; exact h1⟩, ?_⟩)
      rw [hK]
      exact f _ _ _ H1 s1 p1 (ItC.tup g1.1 h2) (fun hb => ⟨(.tuple es, .ref a), ⟨a, vs, rfl, g1, h2⟩, ItG.tup⟩) w1
    | str z =>
      rw [hd] at e lk
      have e' := Option.some.inj (show some (signsD z) = some ds from e)
      subst e'
      exact .inr (.inr ⟨z, lk, f _ _ _ H1 s1 p1 ItC.str (fun hb => ⟨(.none, .non), rfl, ItG.str⟩) w1⟩)
    | none => rw [hd] at e; cases e
    | bool q => rw [hd] at e; cases e
    | int q => rw [hd] at e; cases e
    | dict q => rw [hd] at e; cases e
  · exact False.elim w1
theorem pid_rng1 {p0 : Pos} (hg : Gl X "range") (hm : X.mg "range" = none) (ha : PE X a (tD P ca)) (hs : starEach [a] X.env = [(false, eval a X.env)]) : PI X tg (.Call (.Name "range" p0) [a] [] pos) (tI P (.rng1 ca)) := by
  refine piImp (pi_range1 hg hm (pa_cons ha pa_nil hs) hs) fun σ H Q h => ?_
  obtain ⟨Gh, O, env, Qd, S, w, f⟩ := h
  refine ⟨Gh, O, env, _, S, w, fun r v H1 s1 p1 r1 w1 => ?_⟩
  split at w1
  · rename_i j e
    exact ⟨j, by rw [lk_int (r1.lk S.op S.np) e], w1.1, w1.2.1, f _ _ _ H1 s1 p1 ItC.rng (fun hb => ⟨(.none, .non), rfl, ItG.rng⟩) w1.2.2⟩
  · exact False.elim w1
theorem pid_rng2 {p0 : Pos} (hg : Gl X "range") (hm : X.mg "range" = none) (ha : PE X a (tD P ca)) (hb : PE X b (tD P cb)) (hs : starEach [a, b] X.env = [(false, eval a X.env), (false, eval b X.env)]) (hs2 : starEach [b] X.env = [(false, eval b X.env)]) :
    PI X tg (.Call (.Name "range" p0) [a, b] [] pos) (tI P (.rng2 ca cb)) := by
  refine piImp (pi_range2 hg hm (pa_cons ha (pa_cons hb pa_nil hs2) (by rw [hs, hs2])) hs hs2) fun σ H Q h => ?_
  obtain ⟨Gh, O, env, Qd, S, w, f⟩ := h
  refine ⟨Gh, O, env, _, S, w, fun r v H1 s1 p1 r1 w1 => ⟨Gh, O, env, _, S.mono s1 p1, w1, fun r' v' H2 s2 p2 r2 w2 => ?_⟩⟩
  split at w2
  · rename_i i j e1 e2
    exact ⟨i, j, by rw [lk_int (r1.lk S.op S.np) e1, lk_int (r2.lk S.op (S.mono s1 p1).np) e2], w2.1, f _ _ _ H2 (s1.trans s2) p2 ItC.rng (fun hb => ⟨(.none, .non), rfl, ItG.rng⟩) w2.2⟩
  · exact False.elim w2
end
/-! ### comprehensions -/
def tTs (P : Pm) (c : CEs) : TT := fun σ H Q => ∃ Gh O env Qd, SR P Gh O σ H env ∧ wpTs P.G c env Qd ∧ FinT P H Qd Q
section
variable {X : Cx} {P : Pm} {pos : Pos}
theorem pdts_nil : PTs X [] (tTs P .nil) := ⟨fun pins s σ H Q I h => pts_nil.run pins s σ H Q I (by
  obtain ⟨Gh, O, env, Qd, S, w, f⟩ := h
  exact f true H (SameP.refl H) S.pool w)⟩
theorem pdts_one {c : Expr} {cc : CE} (h : PT X c (tT P cc)) : PTs X [c] (tTs P (.cons cc .nil)) := ⟨fun pins s σ H Q I q => (pts_one h).run pins s σ H Q I q⟩
theorem lc_read {ce : CE} {ct : CT} {ci : CI} {cf : CEs} {own : List Nat} {σ : L2.St} {H : Hp} {Q : VK} (hsl : ∀ i ∈ ct.slots, i ∈ own) (h : tD P (.comp ce ct ci cf own) σ H Q) : tLc (tI P ci) (tG P ct) (tTs P cf) (tD P ce) own σ H Q := by
  obtain ⟨Gh, O, env, Qd, S, w, f⟩ := h
  refine ⟨Gh, O, env, _, S, w, fun b items J H1 s1 p1 ic ig w1 Dl hD => ?_⟩
  have S1 := S.mono s1 p1
  have nD : Dl ≠ P.p := S1.np Dl hD
  let O1 := addO O Dl
  have op1 : O1 P.p = true := addO_sub _ S.op
  have oD : O1 Dl = true := by show (O Dl || decide (Dl = Dl)) = true; simp
  have hh : hid H1 O1 = hid H1 O := hid_add hD
  -- the state within
  have SS : ∀ {H' : Hp}, SameP P.p H1 H' → PoolOk P.p P.a0 H' → (∃ o, H' Dl = some o) → SR P Gh O1 σ H' env := fun {H'} s p t => S1.hide hD s p t
  have sm : ∀ {H' : Hp}, SameP P.p H1 H' → Same (hid H1 O) (hid H' O1) := fun {H'} s => by
    rw [← hh]
    exact hid_same op1 s
  have wk : Walk J items.length (fun H' => SameP P.p H1 H' ∧ PoolOk P.p P.a0 H' ∧ ∃ o, H' Dl = some o) (fun i H' x H'' => SameP P.p H' H'' ∧ PoolOk P.p P.a0 H'' ∧ (∀ a o, H' a = some o → H'' a = some o) ∧ ∃ d, items[i]? = some d ∧ Rep P.K P.p (hid H'' O1) d x) :=
    ⟨fun i H' hi g => (ic O1 H' g.1 (SS g.1 g.2.1 g.2.2).oc (sm g.1)).1 i hi, fun H' g => (ic O1 H' g.1 (SS g.1 g.2.1 g.2.2).oc (sm g.1)).2.1, fun i H' x H'' hi g y => (ic O1 H' g.1 (SS g.1 g.2.1 g.2.2).oc (sm g.1)).2.2 i x H'' hi y⟩
  refine lc_it wk (fun i H' => ∃ acc vs, SameP P.p H1 H' ∧ PoolOk P.p P.a0 H' ∧ H' Dl = some (.lst vs) ∧ RepL P.K P.p (hid H' O1) acc vs ∧ foldC (wpTs P.G cf) (wpE P.G ce) ct (wipeD env own) (items.drop i) acc fun acc => Qd (.nw acc))
    ⟨[], [], SameP.new hD, p1.new hD, upd_same, rfl, w1⟩ (fun i H' _ g => ?_) (fun i x H' H'' hi g y => ?_) (fun H' g => ?_)
  · obtain ⟨acc, vs, g1, g2, g3, _⟩ := g
    exact ⟨g1, g2, _, g3⟩
  · obtain ⟨acc, vs, g1, g2, g3, g4, g5⟩ := g
    obtain ⟨y1, y2, y3, d, y4, y5⟩ := y
    have ed : items.drop i = d :: items.drop (i + 1) := by
      obtain ⟨l, e⟩ := List.getElem?_eq_some_iff.mp y4
      rw [← e]
      exact List.drop_eq_getElem_cons l
    rw [ed] at g5
    have sA := g1.trans y1
    have S2 := (SS sA y2 ⟨_, y3 _ _ g3⟩).wipe own
    refine ⟨Gh, O1, _, d, _, S2, y5, g5, fun σ' env' S3 on w3 => ⟨(on own hsl).trans (wipe_wipe own σ fun i hi => hi), Gh, O1, env', _, S3, w3, fun t H3 s3 p3 w4 => ?_⟩⟩
    have D3 : H3 Dl = some (.lst vs) := s3 _ _ nD (y3 _ _ g3)
    have R3 : RepL P.K P.p (hid H3 O1) acc vs := (g4.up op1 y1).up op1 s3
    cases t with
    | true =>
      refine ⟨Gh, O1, env', _, S3.mono s3 p3, w4, fun r v H4 s4 p4 r4 w5 => ?_⟩
      split at w5
      · rename_i e he
        obtain ⟨w5, w6⟩ := w5
        have D4 : H4 Dl = some (.lst vs) := s4 _ _ nD D3
        have R4 := R3.up op1 s4
        refine ⟨vs, D4, by rw [R3.length]; exact w5, acc ++ [e], vs ++ [v], ?_, ?_, upd_same, ?_, w6⟩
        · intro b o nb hb
          by_cases z : b = Dl
          · rw [z, hD] at hb
            cases hb
          · rw [upd_ne z]
            exact ((sA.trans s3).trans s4) b o nb hb
        · obtain ⟨k, m, cc, ss, q, ⟨ns, l, q0⟩, rr⟩ := p4
          obtain ⟨_, _, _, _, qq, ⟨ns', _, qq0⟩, _⟩ := p1
          refine ⟨k, m, cc, ss, by rw [upd_ne nD.symm]; exact q, ⟨ns, l, ?_⟩, rr⟩
          rw [upd_ne fun z => by rw [z, hD] at qq0; cases qq0]
          exact q0
        · rw [hid_upd oD]
          exact R4.append (RepL.one (r4.esc (S3.mono s3 p3).trk he))
      · exact False.elim w5
    | false => exact ⟨acc, vs, sA.trans s3, p3, D3, R3, w4⟩
  · obtain ⟨acc, vs, g1, g2, g3, g4, g5⟩ := g
    rw [List.drop_length] at g5
    exact f (.nw acc) _ H' (s1.trans g1) g2 ⟨Dl, vs, rfl, s1.free nD hD, g3, g4⟩ g5
theorem pd_comp {elt tg it : Expr} {ifs : List Expr} {scope : Scope} {own : List (Str × Nat)} {ce : CE} {ct : CT} {ci : CI} {cf : CEs} (hc : X.calm = true) (hN : X.N.Nodup) (hi : PI X tg it (tI P ci)) (ok : BlkOk X.N X.env.scope scope own)
    (hg : ∀ (s : Shared) (H : Hp) (C : Addr) (cl : List (Str × Addr)) (fp : List Addr), PG (X.blk s H scope (compEnvC scope cl C X.env) fp) tg (tG P ct)) (ht : ∀ (s : Shared) (H : Hp) (C : Addr) (cl : List (Str × Addr)) (fp : List Addr), PTs (X.blk s H scope (compEnvC scope cl C X.env) fp) ifs (tTs P cf))
    (he : ∀ (s : Shared) (H : Hp) (C : Addr) (cl : List (Str × Addr)) (fp : List Addr), PE (X.blk s H scope (compEnvC scope cl C X.env) fp) elt (tD P ce)) (hs : ∀ x, foldedSetIterable it X.env x = pure x) (hsl : ∀ i ∈ ct.slots, i ∈ own.map (·.2)) :
    PE X (.ListComp elt [⟨tg, it, ifs, 0⟩] scope pos) (tD P (.comp ce ct ci cf (own.map (·.2)))) :=
  peImp (pe_lc hc hN hi ok hg ht he hs) fun σ H Q h => lc_read hsl h
/-- a dict comprehension over any walk -/
theorem dc_it {J : It} {n : Nat} {Gw : Hp → Prop} {Y : Nat → Hp → V → Hp → Prop} (w : Walk J n Gw Y) {g : TG} {tt : TT} {tk tv : TE} {vs : List Nat} {σ : L2.St} {H1 : Hp} {Dl : Addr} {Qd : Hp → Prop} (Pv : Nat → Hp → Prop) (h0 : Pv 0 (upd H1 Dl (.dK []))) (hG : ∀ i H, i ≤ n → Pv i H → Gw H)
    (hs : ∀ i x H H', i < n → Pv i H → Y i H x H' → g x (L2.wipe σ vs) H' fun σ2 H2 => L2.wipe σ2 vs = L2.wipe σ vs ∧ tt σ2 H2 fun b H3 =>
      if b = true then tk σ2 H3 fun y H4 => tv σ2 H4 fun z H5 => ∃ kvs k, y = kV k ∧ H5 Dl = some (.dK kvs) ∧ kvs.length < sizeLine ∧ Pv (i + 1) (upd H5 Dl (.dK (putK kvs k z))) else Pv (i + 1) H3) (hd : ∀ H, Pv n H → Qd H) :
    ∃ W : Nat → Nat → Hp → Prop, (∃ m, W 0 m (upd H1 Dl (.dK []))) ∧ ∀ i m H, W i m H →
      (J.stop i H ∧ Qd H) ∨ (J.go i H ∧ ∃ Nx : Hp → Prop, (∀ H', Nx H' → ∃ m', m' < m ∧ W (i + 1) m' H') ∧ ∀ x H', J.yld i H x H' → g x (L2.wipe σ vs) H' fun σ2 H2 => L2.wipe σ2 vs = L2.wipe σ vs ∧ tt σ2 H2 fun b H3 =>
        if b = true then tk σ2 H3 fun y H4 => tv σ2 H4 fun z H5 => ∃ kvs k, y = kV k ∧ H5 Dl = some (.dK kvs) ∧ kvs.length < sizeLine ∧ Nx (upd H5 Dl (.dK (putK kvs k z))) else Nx H3) := by
  refine ⟨fun i m H => m = n - i ∧ i ≤ n ∧ Pv i H, ⟨n, by simp, Nat.zero_le _, h0⟩, ?_⟩
  rintro i m H ⟨rfl, hi, p⟩
  have q := hG i H hi p
  by_cases hlt : i < n
  · exact .inr ⟨w.goes i H hlt q, Pv (i + 1), fun H' p' => ⟨n - (i + 1), by omega, rfl, hlt, p'⟩, fun x H' y => hs i x H H' hlt p (w.yields i H x H' hlt q y)⟩
  · have e : i = n := by omega
    subst e
    exact .inl ⟨w.stops H q, hd H p⟩
theorem dc_read {ck ce : CE} {ct : CT} {ci : CI} {cf : CEs} {own : List Nat} {σ : L2.St} {H : Hp} {Q : VK} (hsl : ∀ i ∈ ct.slots, i ∈ own) (h : tD P (.dcomp ck ce ct ci cf own) σ H Q) : tDc (tI P ci) (tG P ct) (tTs P cf) (tD P ck) (tD P ce) own σ H Q := by
  obtain ⟨Gh, O, env, Qd, S, w, f⟩ := h
  refine ⟨Gh, O, env, _, S, w, fun b items J H1 s1 p1 ic ig w1 Dl hD => ?_⟩
  have S1 := S.mono s1 p1
  have nD : Dl ≠ P.p := S1.np Dl hD
  let O1 := addO O Dl
  have op1 : O1 P.p = true := addO_sub _ S.op
  have oD : O1 Dl = true := by show (O Dl || decide (Dl = Dl)) = true; simp
  have hh : hid H1 O1 = hid H1 O := hid_add hD
  have SS : ∀ {H' : Hp}, SameP P.p H1 H' → PoolOk P.p P.a0 H' → (∃ o, H' Dl = some o) → SR P Gh O1 σ H' env := fun {H'} s p t => S1.hide hD s p t
  have sm : ∀ {H' : Hp}, SameP P.p H1 H' → Same (hid H1 O) (hid H' O1) := fun {H'} s => by
    rw [← hh]
    exact hid_same op1 s
  have wk : Walk J items.length (fun H' => SameP P.p H1 H' ∧ PoolOk P.p P.a0 H' ∧ ∃ o, H' Dl = some o) (fun i H' x H'' => SameP P.p H' H'' ∧ PoolOk P.p P.a0 H'' ∧ (∀ a o, H' a = some o → H'' a = some o) ∧ ∃ d, items[i]? = some d ∧ Rep P.K P.p (hid H'' O1) d x) :=
    ⟨fun i H' hi g => (ic O1 H' g.1 (SS g.1 g.2.1 g.2.2).oc (sm g.1)).1 i hi, fun H' g => (ic O1 H' g.1 (SS g.1 g.2.1 g.2.2).oc (sm g.1)).2.1, fun i H' x H'' hi g y => (ic O1 H' g.1 (SS g.1 g.2.1 g.2.2).oc (sm g.1)).2.2 i x H'' hi y⟩
  refine dc_it wk (fun i H' => ∃ acc ks, SameP P.p H1 H' ∧ PoolOk P.p P.a0 H' ∧ H' Dl = some (.dK ks) ∧ RepKV P.K P.p (hid H' O1) acc ks ∧ foldDC (wpTs P.G cf) (wpE P.G ck) (wpE P.G ce) ct (wipeD env own) (items.drop i) acc fun acc => Qd (.v (.dict acc)))
    ⟨[], [], SameP.new hD, p1.new hD, upd_same, rfl, w1⟩ (fun i H' _ g => ?_) (fun i x H' H'' hi g y => ?_) (fun H' g => ?_)
  · obtain ⟨acc, vs, g1, g2, g3, _⟩ := g
    exact ⟨g1, g2, _, g3⟩
  · obtain ⟨acc, ks, g1, g2, g3, g4, g5⟩ := g
    obtain ⟨y1, y2, y3, d, y4, y5⟩ := y
    have ed : items.drop i = d :: items.drop (i + 1) := by
      obtain ⟨l, e⟩ := List.getElem?_eq_some_iff.mp y4
      rw [← e]
      exact List.drop_eq_getElem_cons l
    rw [ed] at g5
    have sA := g1.trans y1
    have S2 := (SS sA y2 ⟨_, y3 _ _ g3⟩).wipe own
    refine ⟨Gh, O1, _, d, _, S2, y5, g5, fun σ' env' S3 on w3 => ⟨(on own hsl).trans (wipe_wipe own σ fun i hi => hi), Gh, O1, env', _, S3, w3, fun t H3 s3 p3 w4 => ?_⟩⟩
    have D3 : H3 Dl = some (.dK ks) := s3 _ _ nD (y3 _ _ g3)
    have R3 : RepKV P.K P.p (hid H3 O1) acc ks := RepKV.mono (hid_same op1 (y1.trans s3)) g4
    cases t with
    | true =>
      refine ⟨Gh, O1, env', _, S3.mono s3 p3, w4, fun rk vk H4 s4 p4 r4 w5 => ⟨Gh, O1, env', _, (S3.mono s3 p3).mono s4 p4, w5, fun r v H5 s5 p5 r5 w6 => ?_⟩⟩
      split at w6
      · rename_i e he
        obtain ⟨w6, w7, w8⟩ := w6
        have D5 : H5 Dl = some (.dK ks) := s5 _ _ nD (s4 _ _ nD D3)
        have R5 : RepKV P.K P.p (hid H5 O1) acc ks := RepKV.mono (hid_same op1 (s4.trans s5)) R3
        obtain ⟨kk, ek, ev⟩ := (r4.lk op1 (S3.mono s3 p3).np).key w6
        rw [ek] at w8
        refine ⟨ks, kk, ev, D5, by rw [R5.length]; exact w7, putKV acc (kD kk) e, putK ks kk v, ?_, ?_, upd_same, ?_, w8⟩
        · intro b o nb hb
          by_cases z : b = Dl
          · rw [z, hD] at hb
            cases hb
          · rw [upd_ne z]
            exact (((sA.trans s3).trans s4).trans s5) b o nb hb
        · obtain ⟨k, m, cc, ss, q, ⟨ns, l, q0⟩, rr⟩ := p5
          obtain ⟨_, _, _, _, qq, ⟨ns', _, qq0⟩, _⟩ := p1
          refine ⟨k, m, cc, ss, by rw [upd_ne nD.symm]; exact q, ⟨ns, l, ?_⟩, rr⟩
          rw [upd_ne fun z => by rw [z, hD] at qq0; cases qq0]
          exact q0
        · rw [hid_upd oD]
          exact R5.put kk (r5.esc ((S3.mono s3 p3).mono s4 p4).trk he)
      · exact False.elim w6
    | false => exact ⟨acc, ks, sA.trans s3, p3, D3, R3, w4⟩
  · obtain ⟨acc, ks, g1, g2, g3, g4, g5⟩ := g
    rw [List.drop_length] at g5
    have oDl : O Dl = false := by
      cases q : O Dl with
      | false => rfl
      | true =>
        obtain ⟨o, z⟩ := S1.trk Dl q
        rw [hD] at z
        cases z
    exact f (.v (.dict acc)) _ H' (s1.trans g1) g2 (.inr ⟨Dl, ks, rfl, hid_of g3 oDl, RepKV.mono (hid_sub addO_sub) g4⟩) g5
theorem pd_dcomp {kx elt tg it : Expr} {ifs : List Expr} {scope : Scope} {own : List (Str × Nat)} {ck ce : CE} {ct : CT} {ci : CI} {cf : CEs} (hc : X.calm = true) (hN : X.N.Nodup) (hi : PI X tg it (tI P ci)) (ok : BlkOk X.N X.env.scope scope own)
    (hg : ∀ (s : Shared) (H : Hp) (C : Addr) (cl : List (Str × Addr)) (fp : List Addr), PG (X.blk s H scope (compEnvC scope cl C X.env) fp) tg (tG P ct)) (ht : ∀ (s : Shared) (H : Hp) (C : Addr) (cl : List (Str × Addr)) (fp : List Addr), PTs (X.blk s H scope (compEnvC scope cl C X.env) fp) ifs (tTs P cf))
    (hk : ∀ (s : Shared) (H : Hp) (C : Addr) (cl : List (Str × Addr)) (fp : List Addr), PE (X.blk s H scope (compEnvC scope cl C X.env) fp) kx (tD P ck))
    (he : ∀ (s : Shared) (H : Hp) (C : Addr) (cl : List (Str × Addr)) (fp : List Addr), PE (X.blk s H scope (compEnvC scope cl C X.env) fp) elt (tD P ce)) (hs : ∀ x, foldedSetIterable it X.env x = pure x) (hsl : ∀ i ∈ ct.slots, i ∈ own.map (·.2)) :
    PE X (.DictComp kx elt [⟨tg, it, ifs, 0⟩] scope pos) (tD P (.dcomp ck ce ct ci cf (own.map (·.2)))) :=
  peImp (pe_dc hc hN hi ok hg ht hk he hs) fun σ H Q h => dc_read hsl h
end
end DL

/-! DL6: statements of the core. -/
namespace DL
open PySem PySem.Spec PyProof.Rows L2
structure FinS (P : Pm) (Gh : List (D × V)) (DD : DE) (D : Ends) : Prop where
  nx : ∀ O σ H env, SR P Gh O σ H env → DD.nx env → D.nx σ H
  bk : ∀ O σ H env, SR P Gh O σ H env → DD.bk env → D.bk σ H
  ct : ∀ O σ H env, SR P Gh O σ H env → DD.ct env → D.ct σ H
  rt : ∀ r v H', SameP P.p P.H0 H' → PoolOk P.p P.a0 H' → RRc P.K P.p P.O0 P.H0 H' r v → DD.rt r → D.rt v H'
def tS (P : Pm) (c : CS) : TS := fun D σ H => ∃ Gh O env DD, SR P Gh O σ H env ∧ wpS P.G c DD env ∧ FinS P Gh DD D
def tSs (P : Pm) (c : CSs) : TS := fun D σ H => ∃ Gh O env DD, SR P Gh O σ H env ∧ wpSs P.G c DD env ∧ FinS P Gh DD D
theorem psImp {X : Cx} {e : Stmt} {t t' : TS} (h : PS X e t) (f : ∀ D σ H, t' D σ H → t D σ H) : PS X e t' := ⟨fun pins s σ H D I q => h.run pins s σ H D I (f D σ H q)⟩
theorem pssImp {X : Cx} {e : List Stmt} {t t' : TS} (h : PSs X e t) (f : ∀ D σ H, t' D σ H → t D σ H) : PSs X e t' := ⟨fun pins s σ H D I q => h.run pins s σ H D I (f D σ H q)⟩
section
variable {P : Pm} {O : Addr → Bool} {H H1 : Hp} {Gh : List (D × V)} {σ : L2.St} {env : En}
/-! ### frozen lists -/
theorem remO_le {a : Addr} : ∀ b, remO O a b = true → O b = true := fun b h => by
  unfold remO at h
  rw [Bool.and_eq_true] at h
  exact h.1
theorem SR.frz1 (i : Nat) (S : SR P Gh O σ H env) : ∃ O', SR P Gh O' σ H (frz1 env i) := by
  unfold DL.frz1
  split
  · rename_i ds e
    obtain ⟨a, vs, h1, h2, h3, h4, h5, h6⟩ := S.sl i _ e
    have sm : Same (hid H O) (hid H (remO O a)) := hid_sub remO_le
    have ra : remO O a a = false := by unfold remO; simp
    have keep : ∀ b, b ≠ a → O b = true → remO O a b = true := fun b n h => by unfold remO; simp [h, n]
    have il : i < env.length := (List.getElem?_eq_some_iff.mp e).1
    refine ⟨remO O a, S.same, S.pool, S.pool0, keep _ h5.symm S.op, fun b hb => S.trk b (remO_le b hb), fun b hb => ?_, by rw [List.length_set]; exact S.len, fun j u ej => ?_, fun j k b es es' e1 e2 e3 e4 => ?_, fun g hg => Rep.mono sm (S.gh g hg)⟩
    · refine keep b (fun z => ?_) (S.sub b hb)
      obtain ⟨o, q⟩ := P.trk0 b hb
      rw [z, h3] at q
      cases q
    · rw [List.getElem?_set] at ej
      by_cases z : i = j
      · subst z
        rw [if_pos rfl, if_pos il] at ej
        have ej' := Option.some.inj ej
        subst ej'
        exact ⟨_, h1, a, vs, rfl, hid_of h2 ra, RepL.mono sm h6⟩
      · rw [if_neg z] at ej
        have q := S.sl j u ej
        cases u with
        | no => exact trivial
        | val d =>
          obtain ⟨v, q1, q2⟩ := q
          exact ⟨v, q1, Rep.mono sm q2⟩
        | own es =>
          obtain ⟨b, ws, q1, q2, q3, q4, q5, q6⟩ := q
          refine ⟨b, ws, q1, q2, q3, keep b (fun zz => ?_) q4, q5, RepL.mono sm q6⟩
          rw [zz] at q1
          exact z (S.inj i j a ds es e ej h1 q1)
    · rw [List.getElem?_set] at e1 e2
      by_cases z : i = j
      · rw [if_pos z, if_pos il] at e1
        cases e1
      · rw [if_neg z] at e1
        by_cases z' : i = k
        · rw [if_pos z', if_pos il] at e2
          cases e2
        · rw [if_neg z'] at e2
          exact S.inj j k b es es' e1 e2 e3 e4
  · exact ⟨O, S⟩
theorem SR.frz : ∀ (is : List Nat) {O : Addr → Bool} {env : En}, SR P Gh O σ H env → ∃ O', SR P Gh O' σ H (frz env is)
  | [], O, env, S => ⟨O, S⟩
  | i :: is, O, env, S => by
    obtain ⟨O1, S1⟩ := S.frz1 i
    exact SR.frz is S1
theorem SR.more (g : D × V) (S : SR P Gh O σ H env) (h : Rep P.K P.p (hid H O) g.1 g.2) : SR P (g :: Gh) O σ H env :=
  ⟨S.same, S.pool, S.pool0, S.op, S.trk, S.sub, S.len, S.sl, S.inj, fun x hx => (List.mem_cons.mp hx).elim (fun e => by rw [e]; exact h) (S.gh x)⟩
theorem SR.less {g : D × V} (S : SR P (g :: Gh) O σ H env) : SR P Gh O σ H env :=
  ⟨S.same, S.pool, S.pool0, S.op, S.trk, S.sub, S.len, S.sl, S.inj, fun x hx => S.gh x (List.mem_cons_of_mem _ hx)⟩
theorem SR.own_ne {a : Addr} (S : SR P Gh O σ H env) (ha : H a = none) {j : Nat} {ds : List D} (e : env[j]? = some (.own ds)) (q : σ[j]? = some (some (.ref a))) : False := by
  obtain ⟨b, vs, h1, h2, _⟩ := S.sl j _ e
  rw [h1] at q
  have q' := V.ref.inj (Option.some.inj (Option.some.inj q))
  rw [q', ha] at h2
  cases h2
/-- a new list at a, hidden, goes to slot i -/
theorem SR.setOwn {i : Nat} {a : Addr} {ds : List D} {vs : List V} (S : SR P Gh O σ H1 env) (oa : O a = true) (na : a ≠ P.p) (h0 : P.H0 a = none) (h2 : H1 a = some (.lst vs)) (r : RepL P.K P.p (hid H1 O) ds vs)
    (ho : ∀ (j : Nat) (es : List D), env[j]? = some (.own es) → σ[j]? = some (some (.ref a)) → False) : SR P Gh O (σ.set i (some (.ref a))) H1 (env.set i (.own ds)) :=
  S.put (fun l => ⟨a, vs, List.getElem?_set_self (by rw [S.len]; exact l), h2, h0, oa, na, r⟩) fun b es e1 e2 j es' e3 e4 => by
    have e2' := V.ref.inj (Option.some.inj e2)
    subst e2'
    exact (ho j es' e3 e4).elim
/-- name = value -/
theorem asg_read {i : Nat} {ce : CE} {DD : DE} {D : Ends} (S : SR P Gh O σ H env) (w : wpE P.G ce env fun r => asgD i r env DD.nx) (f : FinS P Gh DD D) : tD P ce σ H fun x H1 => D.nx (σ.set i (some x)) H1 := by
  refine ⟨Gh, O, env, _, S, w, fun r v H1 s1 p1 r1 w1 => ?_⟩
  have S1 := S.mono s1 p1
  cases r with
  | v d => exact f.nx O _ _ _ (S1.setV r1) w1
  | nw ds =>
    obtain ⟨a, vs, rfl, ha, h2, h3⟩ := r1
    exact f.nx (addO O a) _ _ _ ((S.hide ha s1 p1 ⟨_, h2⟩).setOwn (by unfold addO; simp) (S.np a ha) (S.same.free (S.np a ha) ha) h2 h3 fun j es e1 e2 => S.own_ne ha e1 e2) w1
  | bw ds => exact False.elim w1
theorem par_read {i j : Nat} {ca cb : CE} {DD : DE} {D : Ends} (hij : i ≠ j) (S : SR P Gh O σ H env) (w : wpE P.G ca env fun x => wpE P.G cb env fun y => asgD i x env fun e => asgD j y e DD.nx) (f : FinS P Gh DD D) :
    tPar i j (tCons (tD P ca) (tCons (tD P cb) tNil)) D σ H := by
  refine ⟨Gh, O, env, _, S, w, fun r v H1 s1 p1 r1 w1 => ?_⟩
  have S1 := S.mono s1 p1
  -- the second value's store, behind the first one's
  have two : ∀ (O1 : Addr → Bool) (H2 : Hp) (r' : R) (v' : V) (env1 : En) (σ1 : L2.St), SR P Gh O1 σ1 H1 env1 → SameP P.p H1 H2 → PoolOk P.p P.a0 H2 → RR P O1 H1 H2 r' v' → asgD j r' env1 DD.nx → D.nx (σ1.set j (some v')) H2 := fun O1 H2 r' v' env1 σ1 Sx s2 p2 r2 w2 => by
    cases r' with
    | v d => exact f.nx O1 _ _ _ ((Sx.mono s2 p2).setV r2) w2
    | nw ds =>
      obtain ⟨b, us, rfl, hb, k2, k3⟩ := r2
      exact f.nx (addO O1 b) _ _ _ ((Sx.hide hb s2 p2 ⟨_, k2⟩).setOwn (by unfold addO; simp) (Sx.np b hb) (Sx.same.free (Sx.np b hb) hb) k2 k3 fun j es e1 e2 => Sx.own_ne hb e1 e2) w2
    | bw ds => exact False.elim w2
  cases r with
  | v d =>
    refine ⟨Gh, O, env, _, S1, w1, fun r' v' H2 s2 p2 r2 w2 => ⟨v, v', rfl, ?_⟩⟩
    exact two O H2 r' v' _ _ (S1.setV r1) s2 p2 r2 w2
  | nw ds =>
    obtain ⟨a, vs, rfl, ha, h2, h3⟩ := r1
    have Sh := S.hide ha s1 p1 ⟨_, h2⟩
    refine ⟨Gh, addO O a, env, _, Sh, w1, fun r' v' H2 s2 p2 r2 w2 => ⟨_, v', rfl, ?_⟩⟩
    exact two (addO O a) H2 r' v' _ _ (Sh.setOwn (by unfold addO; simp) (S.np a ha) (S.same.free (S.np a ha) ha) h2 h3 fun j es e1 e2 => S.own_ne ha e1 e2) s2 p2 r2 w2
  | bw ds =>
    exact ⟨Gh, O, env, _, S1, w1, fun r' v' H2 s2 p2 r2 w2 => False.elim w2⟩
/-- a value that waits for its store -/
def Pend (P : Pm) (O : Addr → Bool) (σ : L2.St) (H : Hp) (env : En) : R → V → Prop
  | .v d, v => Rep P.K P.p (hid H O) d v
  | .nw ds, v => ∃ a vs, v = .ref a ∧ O a = true ∧ a ≠ P.p ∧ P.H0 a = none ∧ H a = some (.lst vs) ∧ RepL P.K P.p (hid H O) ds vs ∧ ∀ (j : Nat) (es : List D), env[j]? = some (.own es) → σ[j]? = some (some (.ref a)) → False
  | .bw _, _ => False
/-- the same address does not wait twice -/
def NoA (v v' : V) (r r' : R) : Prop := match r, r' with
  | .nw _, .nw _ => v ≠ v'
  | _, _ => True
theorem Pend.take {r : R} {v : V} (S : SR P Gh O σ H env) (s : SameP P.p H H1) (p : PoolOk P.p P.a0 H1) (h : RR P O H H1 r v) (nb : ∀ ds, r ≠ .bw ds) : ∃ O', SR P Gh O' σ H1 env ∧ Pend P O' σ H1 env r v ∧
    ∀ r0 v0, Pend P O σ H env r0 v0 → Pend P O' σ H1 env r0 v0 ∧ NoA v0 v r0 r := by
  cases r with
  | v d =>
    refine ⟨O, S.mono s p, h, fun r0 v0 q => ⟨?_, by cases r0 <;> exact trivial⟩⟩
    cases r0 with
    | v d => exact Rep.up S.op s q
    | nw ds =>
      obtain ⟨a, vs, e, q1, q2, q3, q4, q5, q6⟩ := q
      exact ⟨a, vs, e, q1, q2, q3, s a _ q2 q4, q5.up S.op s, q6⟩
    | bw ds => exact q
  | nw ds =>
    obtain ⟨a, vs, rfl, ha, h2, h3⟩ := h
    have hp : (addO O a) P.p = true := by unfold addO; rw [S.op]; rfl
    have e : hid H (addO O a) = hid H O := hid_add ha
    refine ⟨addO O a, S.hide ha s p ⟨_, h2⟩, ⟨a, vs, rfl, by unfold addO; simp, S.np a ha, S.same.free (S.np a ha) ha, h2, h3, fun j es e1 e2 => S.own_ne ha e1 e2⟩, fun r0 v0 q => ?_⟩
    cases r0 with
    | v d =>
      refine ⟨?_, trivial⟩
      have q' : Rep P.K P.p (hid H O) d v0 := q
      rw [← e] at q'
      exact q'.up hp s
    | nw es =>
      obtain ⟨b, ws, e0, q1, q2, q3, q4, q5, q6⟩ := q
      rw [← e] at q5
      refine ⟨⟨b, ws, e0, by unfold addO; rw [q1]; rfl, q2, q3, s b _ q2 q4, q5.up hp s, q6⟩, fun z => ?_⟩
      rw [e0] at z
      have z' := V.ref.inj z
      rw [z', ha] at q4
      cases q4
    | bw es => exact q.elim
  | bw ds => exact absurd rfl (nb ds)
theorem Pend.store {r : R} {v : V} {i : Nat} {N : En → Prop} (S : SR P Gh O σ H env) (h : Pend P O σ H env r v) (w : asgD i r env N) : ∃ env', SR P Gh O (σ.set i (some v)) H env' ∧ N env' ∧
    ∀ r0 v0, Pend P O σ H env r0 v0 → NoA v v0 r r0 → Pend P O (σ.set i (some v)) H env' r0 v0 := by
  have keep : ∀ (u : Sl) (r0 : R) (v0 : V), Pend P O σ H env r0 v0 → (∀ es, u = .own es → ∀ ds, r0 = .nw ds → v ≠ v0) → Pend P O (σ.set i (some v)) H (env.set i u) r0 v0 := fun u r0 v0 q n => by
    cases r0 with
    | v d => exact q
    | nw ds =>
      obtain ⟨b, ws, e0, q1, q2, q3, q4, q5, q6⟩ := q
      refine ⟨b, ws, e0, q1, q2, q3, q4, q5, fun j es e1 e2 => ?_⟩
      rw [List.getElem?_set] at e1 e2
      by_cases z : i = j
      · subst z
        rw [if_pos rfl] at e1 e2
        split at e1
        · split at e2
          · have e1' := Option.some.inj e1
            have e2' := Option.some.inj (Option.some.inj e2)
            exact n es e1' ds rfl (by rw [e2', e0])
          · cases e2
        · cases e1
      · rw [if_neg z] at e1 e2
        exact q6 j es e1 e2
    | bw ds => exact q
  cases r with
  | v d => exact ⟨_, S.setV h, w, fun r0 v0 q _ => keep _ r0 v0 q fun es e => by cases e⟩
  | nw ds =>
    obtain ⟨a, vs, rfl, q1, q2, q3, q4, q5, q6⟩ := h
    exact ⟨_, S.setOwn q1 q2 q3 q4 q5 q6, w, fun r0 v0 q n => keep _ r0 v0 q fun es _ ds' e => by subst e; exact n⟩
  | bw ds => exact w.elim
theorem asgD_nb {i : Nat} {r : R} {env : En} {N : En → Prop} (w : asgD i r env N) : ∀ ds, r ≠ .bw ds := fun ds e => by
  rw [e] at w
  exact w
theorem asgD_imp {i : Nat} {r : R} {env : En} {N M : En → Prop} (w : asgD i r env N) (f : ∀ e, N e → M e) : asgD i r env M := by
  cases r with
  | v d => exact f _ w
  | nw d => exact f _ w
  | bw d => exact w.elim
/-- whether a store is there at all hangs on the value alone -/
theorem asgD_some {i : Nat} {r : R} {env : En} {N : En → Prop} (w : asgD i r env N) : ∃ e, N e := by
  cases r with
  | v d => exact ⟨_, w⟩
  | nw d => exact ⟨_, w⟩
  | bw d => exact w.elim
theorem par3_read {i j l : Nat} {ca cb cc : CE} {DD : DE} {D : Ends} (S : SR P Gh O σ H env) (w : wpE P.G ca env fun x => wpE P.G cb env fun y => wpE P.G cc env fun z => asgD i x env fun e => asgD j y e fun e' => asgD l z e' DD.nx) (f : FinS P Gh DD D) :
    tPar3 i j l (tCons (tD P ca) (tCons (tD P cb) (tCons (tD P cc) tNil))) D σ H := by
  -- an owned slot handed to a name is refused only at the stores: so it is asked ahead of each take
  refine ⟨Gh, O, env, _, S, w, fun r v H1 s1 p1 r1 w1 => ?_⟩
  by_cases nb1 : ∀ ds, r ≠ .bw ds
  · obtain ⟨O1, S1, q1, k1⟩ := Pend.take S s1 p1 r1 nb1
    refine ⟨Gh, O1, env, _, S1, w1, fun r' v' H2 s2 p2 r2 w2 => ?_⟩
    by_cases nb2 : ∀ ds, r' ≠ .bw ds
    · obtain ⟨O2, S2, q2, k2⟩ := Pend.take S1 s2 p2 r2 nb2
      refine ⟨Gh, O2, env, _, S2, w2, fun r'' v'' H3 s3 p3 r3 w3 => ⟨v, v', v'', rfl, ?_⟩⟩
      have nb3 : ∀ ds, r'' ≠ .bw ds := by
        obtain ⟨e1, w4⟩ := asgD_some w3
        obtain ⟨e2, w5⟩ := asgD_some w4
        exact asgD_nb w5
      obtain ⟨O3, S3, q3, k3⟩ := Pend.take S2 s3 p3 r3 nb3
      obtain ⟨a1, a2⟩ := k2 r v q1
      obtain ⟨b1, b2⟩ := k3 r v a1
      obtain ⟨c1, c2⟩ := k3 r' v' q2
      obtain ⟨e1, T1, w4, m1⟩ := Pend.store S3 b1 w3
      have d1 := m1 r' v' c1 a2
      have d2 := m1 r'' v'' q3 b2
      obtain ⟨e2, T2, w5, m2⟩ := Pend.store T1 d1 w4
      have d3 := m2 r'' v'' d2 c2
      obtain ⟨e3, T3, w6, _⟩ := Pend.store T2 d3 w5
      exact f.nx O3 _ _ _ T3 w6
    · have ⟨ds, e⟩ : ∃ ds, r' = .bw ds := by
        cases r' with
        | bw ds => exact ⟨ds, rfl⟩
        | v d => exact (nb2 fun ds e => by cases e).elim
        | nw d => exact (nb2 fun ds e => by cases e).elim
      subst e
      refine ⟨Gh, O1, env, _, S1.mono s2 p2, w2, fun r'' v'' H3 s3 p3 r3 w3 => ?_⟩
      obtain ⟨e1, w4⟩ := asgD_some w3
      exact w4.elim
  · have ⟨ds, e⟩ : ∃ ds, r = .bw ds := by
      cases r with
      | bw ds => exact ⟨ds, rfl⟩
      | v d => exact (nb1 fun ds e => by cases e).elim
      | nw d => exact (nb1 fun ds e => by cases e).elim
    subst e
    exact ⟨Gh, O, env, _, S.mono s1 p1, w1, fun r' v' H2 s2 p2 r2 w2 => ⟨Gh, O, env, _, (S.mono s1 p1).mono s2 p2, w2, fun r'' v'' H3 s3 p3 r3 w3 => w3.elim⟩⟩
theorem RR.ret {r : R} {v : V} (S : SR P Gh O σ H env) (s : SameP P.p H H1) (h : RR P O H H1 r v) : RRc P.K P.p P.O0 P.H0 H1 r.rt v := by
  cases r with
  | v d => exact Rep.mono (hid_sub S.sub) h
  | nw ds =>
    obtain ⟨a, vs, rfl, ha, h2, h3⟩ := h
    refine ⟨a, vs, rfl, S.same.free (S.np a ha) ha, h2, RepL.mono (hid_sub fun b hb => ?_) h3⟩
    unfold addO at hb ⊢
    rw [Bool.or_eq_true] at hb ⊢
    exact hb.imp (S.sub b) id
  | bw ds =>
    obtain ⟨a, vs, rfl, h0, oa, na, h2, h3⟩ := h
    refine ⟨a, vs, rfl, h0, h2, RepL.mono (hid_sub fun b hb => ?_) h3⟩
    unfold addO at hb
    rw [Bool.or_eq_true] at hb
    rcases hb with hb | hb
    · exact S.sub b hb
    · rw [of_decide_eq_true hb]
      exact oa
end
section
variable {X : Cx} {P : Pm} {pos : Pos}
theorem sd_nil : PSs X [] (tSs P .nil) := pssImp pss_nil fun D σ H h => by
  obtain ⟨Gh, O, env, DD, S, w, f⟩ := h
  exact f.nx O σ H env S w
theorem sd_cons {st : Stmt} {rest : List Stmt} {c : CS} {r : CSs} (h1 : PS X st (tS P c)) (h2 : PSs X rest (tSs P r)) : PSs X (st :: rest) (tSs P (.cons c r)) := pssImp (pss_cons h1 h2) fun D σ H h => by
  obtain ⟨Gh, O, env, DD, S, w, f⟩ := h
  obtain ⟨O', S'⟩ := S.frz (escS c)
  exact ⟨Gh, O', _, _, S', w, ⟨fun O σ H env S q => ⟨Gh, O, env, DD, S, q, f⟩, f.bk, f.ct, f.rt⟩⟩
theorem sd_pass : PS X (.Pass pos) (tS P .pass) := psImp ps_pass fun D σ H h => by
  obtain ⟨Gh, O, env, DD, S, w, f⟩ := h
  exact f.nx O σ H env S w
theorem sd_brk : PS X (.Break pos) (tS P .brk) := psImp ps_break fun D σ H h => by
  obtain ⟨Gh, O, env, DD, S, w, f⟩ := h
  exact f.bk O σ H env S w
theorem sd_cnt : PS X (.Continue pos) (tS P .cnt) := psImp ps_continue fun D σ H h => by
  obtain ⟨Gh, O, env, DD, S, w, f⟩ := h
  exact f.ct O σ H env S w
theorem sd_asg {i : Nat} {x : Str} {e : Expr} {ce : CE} {p' : Pos} (hN : X.N.Nodup) (h : NmOk X i x) (he : PE X e (tD P ce)) (hs : swapsWith e (some (.Name x p')) pos.line X.env = pure false) : PS X (.Assign [.Name x p'] e pos) (tS P (.asg i ce)) :=
  psImp (ps_set hN h.at_ h.loc he hs h.fn) fun D σ H h => by
    obtain ⟨Gh, O, env, DD, S, w, f⟩ := h
    exact asg_read S w f
theorem sd_par {i j : Nat} {x y : Str} {a b : Expr} {ca cb : CE} {px py pt : Pos} {kt k2 pt2} (hc : X.calm = true) (hN : X.N.Nodup) (hi : X.N[i]? = some x) (hj : X.N[j]? = some y) (hij : i ≠ j)
    (hx : X.env.scope.names.lookup x = some .local) (hy : X.env.scope.names.lookup y = some .local) (ha : PE X a (tD P ca)) (hb : PE X b (tD P cb)) (h1 : starEach [a, b] X.env = (false, eval a X.env) :: starEach [b] X.env) (h2 : starEach [b] X.env = (false, eval b X.env) :: starEach [] X.env)
    (hw : swappedStores [.Tuple [.Name x px, .Name y py] kt pt] (.Tuple [a, b] k2 pt2) X.env = pure (some [x, y])) (hs : swapsWithSole [.Tuple [.Name x px, .Name y py] kt pt] (.Tuple [a, b] k2 pt2) pos.line X.env = pure false) :
    PS X (.Assign [.Tuple [.Name x px, .Name y py] kt pt] (.Tuple [a, b] k2 pt2) pos) (tS P (.par i j ca cb)) :=
  psImp (ps_par hc hN hi hj hij hx hy (pa_cons ha (pa_cons hb pa_nil h2) h1) hw hs) fun D σ H h => by
    obtain ⟨Gh, O, env, DD, S, w, f⟩ := h
    exact par_read hij S w f
theorem sd_par3 {i j l : Nat} {x y z : Str} {a b c : Expr} {ca cb cc : CE} {px py pz pt : Pos} {kt k2 pt2} (hc : X.calm = true) (hN : X.N.Nodup) (hi : X.N[i]? = some x) (hj : X.N[j]? = some y) (hl : X.N[l]? = some z) (hij : i ≠ j) (hil : i ≠ l) (hjl : j ≠ l)
    (hx : X.env.scope.names.lookup x = some .local) (hy : X.env.scope.names.lookup y = some .local) (hz : X.env.scope.names.lookup z = some .local) (ha : PE X a (tD P ca)) (hb : PE X b (tD P cb)) (hcc : PE X c (tD P cc)) (h1 : starEach [a, b, c] X.env = (false, eval a X.env) :: starEach [b, c] X.env) (h2 : starEach [b, c] X.env = (false, eval b X.env) :: starEach [c] X.env) (h3 : starEach [c] X.env = (false, eval c X.env) :: starEach [] X.env)
    (hw : swappedStores [.Tuple [.Name x px, .Name y py, .Name z pz] kt pt] (.Tuple [a, b, c] k2 pt2) X.env = pure (some [x, y, z])) (hs : swapsWithSole [.Tuple [.Name x px, .Name y py, .Name z pz] kt pt] (.Tuple [a, b, c] k2 pt2) pos.line X.env = pure false) :
    PS X (.Assign [.Tuple [.Name x px, .Name y py, .Name z pz] kt pt] (.Tuple [a, b, c] k2 pt2) pos) (tS P (.par3 i j l ca cb cc)) :=
  psImp (ps_par3 hc hN hi hj hl hij hil hjl hx hy hz (pa_cons ha (pa_cons hb (pa_cons hcc pa_nil h3) h2) h1) hw hs) fun D σ H h => by
    obtain ⟨Gh, O, env, DD, S, w, f⟩ := h
    exact par3_read S w f
theorem sd_unp {is : List Nat} {tg e : Expr} {ce : CE} (he : PE X e (tD P ce)) (hg : PG X tg (tG P (.tp is))) (hs : swapsWithSole [tg] e pos.line X.env = pure false) (hw : swappedStores [tg] e X.env = pure none) (h1 : (assignEach [tg] X.env).map (·.2) = [assign tg X.env]) :
    PS X (.Assign [tg] e pos) (tS P (.unp is ce)) :=
  psImp (ps_asg he hg hs hw h1) fun D σ H h => by
    obtain ⟨Gh, O, env, DD, S, w, f⟩ := h
    refine ⟨Gh, O, env, _, S, w, fun r v H1 s1 p1 r1 w1 => ?_⟩
    have S1 := S.mono s1 p1
    have rp : Rep P.K P.p (hid H1 O) r.d v := by
      cases r with
      | v d => exact r1
      | nw ds => exact r1.esc S.trk rfl
      | bw ds => exact False.elim w1
    exact ⟨Gh, O, env, _, _, S1, rp, w1, fun σ' env' S' _ q => f.nx O σ' H1 env' S' q⟩
theorem sd_unp2 {i j l : Nat} {tg e : Expr} {ce : CE} (he : PE X e (tD P ce)) (hg : PG X tg (tGN P i j l)) (hs : swapsWithSole [tg] e pos.line X.env = pure false) (hw : swappedStores [tg] e X.env = pure none) (h1 : (assignEach [tg] X.env).map (·.2) = [assign tg X.env]) :
    PS X (.Assign [tg] e pos) (tS P (.unp2 i j l ce)) :=
  psImp (ps_asg he hg hs hw h1) fun D σ H h => by
    obtain ⟨Gh, O, env, DD, S, w, f⟩ := h
    refine ⟨Gh, O, env, _, S, w, fun r v H1 s1 p1 r1 w1 => ?_⟩
    have S1 := S.mono s1 p1
    have rp : Rep P.K P.p (hid H1 O) r.d v := by
      cases r with
      | v d => exact r1
      | nw ds => exact r1.esc S.trk rfl
      | bw ds => exact False.elim w1
    split at w1
    · rename_i a b c e2
      rw [e2] at rp
      exact ⟨Gh, O, env, a, b, c, S1, rp, fun σ' S' => f.nx O σ' H1 _ S' w1⟩
    · exact False.elim w1
theorem sd_ret {e : Expr} {ce : CE} (he : PE X e (tD P ce)) : PS X (.Return (some e) pos) (tS P (.ret ce)) := psImp (ps_ret he) fun D σ H h => by
  obtain ⟨Gh, O, env, DD, S, w, f⟩ := h
  exact ⟨Gh, O, env, _, S, w, fun r v H1 s1 p1 r1 w1 => f.rt _ _ _ (S.same.trans s1) p1 (r1.ret S s1) w1⟩
theorem sd_retN : PS X (.Return none pos) (tS P (.ret .non)) := psImp ps_retN fun D σ H h => by
  obtain ⟨Gh, O, env, DD, S, w, f⟩ := h
  exact f.rt (.v .none) .non H S.same S.pool rfl w
theorem sd_ite {c : Expr} {a b : List Stmt} {cc : CE} {ca cb : CSs} (hc : PT X c (tT P cc)) (ha : PSs X a (tSs P ca)) (hb : PSs X b (tSs P cb)) : PS X (.If c a b pos) (tS P (.ite cc ca cb)) := psImp (ps_if hc ha hb) fun D σ H h => by
  obtain ⟨Gh, O, env, DD, S, w, f⟩ := h
  refine ⟨Gh, O, env, _, S, w, fun t H1 s1 p1 w1 => ?_⟩
  cases t with
  | true => exact ⟨Gh, O, env, DD, S.mono s1 p1, w1, f⟩
  | false => exact ⟨Gh, O, env, DD, S.mono s1 p1, w1, f⟩
theorem sd_aug {i : Nat} {x : Str} {op : Operator} {e : Expr} {ce : CE} {p' : Pos} (hN : X.N.Nodup) (h : NmOk X i x) (he : PE X e (tD P ce)) (ho : op = .Add ∨ op = .Sub) : PS X (.AugAssign (.Name x p') op e pos) (tS P (.aug i op ce)) := by
  have key : ∀ (g : Int → Int → Int), PIp X op (ipI g) → (∀ (a : Int) (y : D) (Q : Int → Prop), augD op a y Q → ∃ b, y = .int b ∧ Q (g a b)) → PS X (.AugAssign (.Name x p') op e pos) (tS P (.aug i op ce)) := fun g hp hg => psImp (ps_aug hN h.at_ h.loc he hp h.fn) fun D σ H h => by
    obtain ⟨Gh, O, env, DD, S, w, f⟩ := h
    simp only [wpS] at w
    split at w
    · rename_i a e0
      obtain ⟨v, h1, h2⟩ := S.sl i _ e0
      refine ⟨v, h1, Gh, O, env, _, S, w, fun r u H1 s1 p1 r1 w1 => ?_⟩
      obtain ⟨b, eb, w2⟩ := hg a r.d _ w1
      exact ⟨a, b, h2, lk_int (r1.lk S.op S.np) eb, f.nx O _ H1 _ ((S.mono s1 p1).setV (d := .int (g a b)) rfl) w2⟩
    · exact False.elim w
  rcases ho with rfl | rfl
  · refine key _ ip_add fun a y Q w => ?_
    cases y with
    | int b => exact ⟨b, rfl, w⟩
    | _ => exact False.elim w
  · refine key _ ip_sub fun a y Q w => ?_
    cases y with
    | int b => exact ⟨b, rfl, w⟩
    | _ => exact False.elim w
theorem sd_whl {c : Expr} {body : List Stmt} {cc : CE} {cb : CSs} (hp : PassesOwn (model X.prog X.w) X.A X.env X.xe) (hc : PT X c (tT P cc)) (hb : PSs X body (tSs P cb)) : PS X (.While c body [] pos) (tS P (.whl cc cb)) := psImp (ps_while hp hc hb) fun D σ H h => by
  obtain ⟨Gh, O, env, DD, S, w, f⟩ := h
  obtain ⟨W, ⟨m, w0⟩, step⟩ := w
  refine ⟨fun m σ H => ∃ O env, SR P Gh O σ H env ∧ W m env, ⟨m, O, env, S, w0⟩, fun m σ H h => ?_⟩
  obtain ⟨O, env, S, wm⟩ := h
  refine ⟨Gh, O, env, _, S, step m env wm, fun t H1 s1 p1 w1 => ?_⟩
  have S1 := S.mono s1 p1
  cases t with
  | true =>
    refine ⟨fun σ' H' => ∃ m', m' < m ∧ ∃ O env, SR P Gh O σ' H' env ∧ W m' env, fun σ' H' q => q, Gh, O, env, _, S1, w1, ⟨fun O σ H env S q => ?_, fun O σ H env S q => f.nx O σ H env S q, fun O σ H env S q => ?_, f.rt⟩⟩
    · obtain ⟨m', hm, q⟩ := q
      exact ⟨m', hm, O, env, S, q⟩
    · obtain ⟨m', hm, q⟩ := q
      exact ⟨m', hm, O, env, S, q⟩
  | false => exact f.nx O σ H1 env S1 w1
theorem sd_for {tg it : Expr} {body : List Stmt} {ct : CT} {ci : CI} {cb : CSs} (hp : PassesOwn (model X.prog X.w) X.A X.env X.xe) (hc : X.calm = true) (hi : PI X tg it (tI P ci)) (hg : PG X tg (tG P ct)) (hb : PSs X body (tSs P cb)) (hs : ∀ x, foldedSetIterable it X.env x = pure x) :
    PS X (.For tg it body [] pos) (tS P (.for_ ct ci cb)) := psImp (ps_for hp hc hi hg hb hs) fun D σ H h => by
  obtain ⟨Gh, O, env, DD, S, w, f⟩ := h
  refine ⟨Gh, O, env, _, S, w, fun b items J H1 s1 p1 ic ig w1 => ?_⟩
  obtain ⟨hb, w1⟩ := w1
  obtain ⟨g, rg, wg⟩ := ig hb
  have S1 := (S.mono s1 p1).more g rg
  have wk : Walk J items.length (fun H => ∃ O σ env, SR P (g :: Gh) O σ H env) (fun i H x H' => ∀ O, OC P O H → Rep P.K P.p (hid H O) g.1 g.2 → SameP P.p H H' ∧ PoolOk P.p P.a0 H' ∧ ∃ d, items[i]? = some d ∧ Rep P.K P.p (hid H' O) d x) := by
    refine ⟨fun i H hi q => ?_, fun H q => ?_, fun i H x H' hi q y O c r => (wg O H c r).2.2 i x H' hi y⟩
    · obtain ⟨O, σ, env, Sx⟩ := q
      exact (wg O H Sx.oc (Sx.gh g List.mem_cons_self)).1 i hi
    · obtain ⟨O, σ, env, Sx⟩ := q
      exact (wg O H Sx.oc (Sx.gh g List.mem_cons_self)).2.1
  refine for_it wk (fun i σ H => ∃ O env, SR P (g :: Gh) O σ H env ∧ foldF (wpSs P.G cb) ct DD (items.drop i) env) ⟨O, env, S1, w1⟩ (fun i σ H _ q => ?_) (fun i x σ H H' hi q y => ?_) (fun σ H q => ?_)
  · obtain ⟨O, env, Sx, _⟩ := q
    exact ⟨O, σ, env, Sx⟩
  · obtain ⟨O, env, Sx, wx⟩ := q
    obtain ⟨y1, y2, d, y3, y4⟩ := y O Sx.oc (Sx.gh g List.mem_cons_self)
    have ed : items.drop i = d :: items.drop (i + 1) := by
      obtain ⟨l, e⟩ := List.getElem?_eq_some_iff.mp y3
      rw [← e]
      exact List.drop_eq_getElem_cons l
    rw [ed] at wx
    refine ⟨g :: Gh, O, env, d, _, Sx.mono y1 y2, y4, wx, fun σ' env' S' _ w' => ⟨g :: Gh, O, env', _, S', w', ⟨fun O σ H env S q => ⟨O, env, S, q⟩, fun O σ H env S q => f.nx O σ H env S.less q, fun O σ H env S q => ⟨O, env, S, q⟩, f.rt⟩⟩⟩
  · obtain ⟨O, env, Sx, wx⟩ := q
    rw [List.drop_length] at wx
    exact f.nx O σ H env Sx.less wx
end
/-- an own list grows -/
theorem SR.appd {P : Pm} {O : Addr → Bool} {H : Hp} {Gh : List (D × V)} {σ : L2.St} {env : En} (S : SR P Gh O σ H env) {i : Nat} {ds es : List D} {a : Addr} {vs ws : List V} (e : env[i]? = some (.own ds)) (h1 : σ[i]? = some (some (.ref a))) (h2 : H a = some (.lst vs)) (h3 : P.H0 a = none) (h4 : O a = true) (h5 : a ≠ P.p)
    (r : RepL P.K P.p (hid H O) es ws) : SR P Gh O σ (upd H a (.lst ws)) (env.set i (.own es)) := by
  have hh : hid (upd H a (.lst ws)) O = hid H O := hid_upd h4
  have il : i < env.length := (List.getElem?_eq_some_iff.mp e).1
  have pl : PoolOk P.p P.a0 (upd H a (.lst ws)) := by
    obtain ⟨k, m, c, z, q, ⟨ns, l, q0⟩, rr⟩ := S.pool
    obtain ⟨_, _, _, _, _, ⟨ns', _, qq0⟩, _⟩ := S.pool0
    refine ⟨k, m, c, z, by rw [upd_ne h5.symm]; exact q, ⟨ns, l, ?_⟩, rr⟩
    rw [upd_ne fun y => by rw [y, h3] at qq0; cases qq0]
    exact q0
  refine ⟨fun b o nb hb => ?_, pl, S.pool0, S.op, fun b hb => ?_, S.sub, by rw [List.length_set]; exact S.len, fun j u ej => ?_, fun j k b fs fs' e1 e2 e3 e4 => ?_, fun g hg => by rw [hh]; exact S.gh g hg⟩
  · rw [upd_ne fun z => by rw [z, h3] at hb; cases hb]
    exact S.same b o nb hb
  · by_cases z : b = a
    · rw [z]
      exact ⟨_, upd_same⟩
    · rw [upd_ne z]
      exact S.trk b hb
  · rw [List.getElem?_set] at ej
    by_cases z : i = j
    · subst z
      rw [if_pos rfl, if_pos il] at ej
      have ej' := Option.some.inj ej
      subst ej'
      exact ⟨a, ws, h1, upd_same, h3, h4, h5, by rw [hh]; exact r⟩
    · rw [if_neg z] at ej
      have q := S.sl j u ej
      cases u with
      | no => exact trivial
      | val d =>
        obtain ⟨v, q1, q2⟩ := q
        exact ⟨v, q1, by rw [hh]; exact q2⟩
      | own fs =>
        obtain ⟨b, us, q1, q2, q3, q4, q5, q6⟩ := q
        refine ⟨b, us, q1, ?_, q3, q4, q5, by rw [hh]; exact q6⟩
        rw [upd_ne fun zz => z (S.inj i j a ds fs e ej h1 (by rw [← zz]; exact q1))]
        exact q2
  · have back : ∀ {j : Nat} {fs : List D}, (env.set i (.own es))[j]? = some (.own fs) → ∃ gs, env[j]? = some (.own gs) := fun {j fs} q => by
      rw [List.getElem?_set] at q
      by_cases z : i = j
      · subst z
        exact ⟨ds, e⟩
      · rw [if_neg z] at q
        exact ⟨fs, q⟩
    obtain ⟨g1, k1⟩ := back e1
    obtain ⟨g2, k2⟩ := back e2
    exact S.inj j k b g1 g2 k1 k2 e3 e4
section
variable {X : Cx} {P : Pm} {pos : Pos}
/-- name = [..] -/
theorem sd_asgLc {i : Nat} {y : Str} {py : Pos} {elt tg it : Expr} {ifs : List Expr} {scope : Scope} {own : List (Str × Nat)} {spos : Pos} {ce : CE} {ct : CT} {ci : CI} {cf : CEs} (hc : X.calm = true) (hN : X.N.Nodup) (hy : X.N[i]? = some y) (hyl : X.env.scope.names.lookup y = some .local)
    (hsw : swapsWith (.ListComp elt [⟨tg, it, ifs, 0⟩] scope pos) (some (.Name y py)) spos.line X.env = pure true) (hi : PI X tg it (tI P ci)) (ok : BlkOk X.N X.env.scope scope own)
    (hg : ∀ (s : Shared) (H : Hp) (C : Addr) (cl : List (Str × Addr)) (fp : List Addr), PG (X.blk s H scope (compEnvC scope cl C X.env) fp) tg (tG P ct)) (ht : ∀ (s : Shared) (H : Hp) (C : Addr) (cl : List (Str × Addr)) (fp : List Addr), PTs (X.blk s H scope (compEnvC scope cl C X.env) fp) ifs (tTs P cf))
    (he : ∀ (s : Shared) (H : Hp) (C : Addr) (cl : List (Str × Addr)) (fp : List Addr), PE (X.blk s H scope (compEnvC scope cl C X.env) fp) elt (tD P ce)) (hs : ∀ x, foldedSetIterable it X.env x = pure x) (hsl : ∀ i ∈ ct.slots, i ∈ own.map (·.2)) :
    PS X (.Assign [.Name y py] (.ListComp elt [⟨tg, it, ifs, 0⟩] scope pos) spos) (tS P (.asg i (.comp ce ct ci cf (own.map (·.2))))) :=
  psImp (ps_setLc hc hN hy hyl hsw hi ok hg ht he hs) fun D σ H h => by
    obtain ⟨Gh, O, env, DD, S, w, f⟩ := h
    exact lc_read hsl (asg_read S w f)
/-- x.append(e) -/
theorem sd_app {i : Nat} {x : Str} {e : Expr} {ce : CE} {p1 ap cp : Pos} (h : X.N[i]? = some x) (hv : Vis X.env.scope x) (hd : (x == ("__debug__" : Str)) = false) (hcd : (x == ("__classdict__" : Str)) = false) (he : PE X e (tD P ce))
    (hs : starEach [e] X.env = (false, eval e X.env) :: starEach [] X.env) (hl : (ap.endLine == cp.line) = true) : PS X (.Expr (.Call (.Attribute (.Name x p1) "append" ap) [e] [] cp) pos) (tS P (.app i ce)) := by
  have hf : ((backTo cp (starEach [e] X.env)).all (fun x => !x.1) && (backToKw cp (keywordEach [] X.env)).all (fun x => x.1.isSome) && decide ([e].length + ([] : List Keyword).length + (if ([] : List Keyword).isEmpty then 0 else 1) < 30)) = true := by
    rw [hs]
    rfl
  refine psImp (ps_expr (pe_bm PySem.F.plainAttrs_list PySem.F.slot_list_append PySem.F.type_list_append mt_append (pe_var h hv hd hcd) (pa_cons he pa_nil hs) rfl hf hl hs rfl) rfl) fun D σ H q => ?_
  obtain ⟨Gh, O, env, DD, S, w, f⟩ := q
  simp only [wpS] at w
  split at w
  · rename_i ds ei
    obtain ⟨a, vs, h1, h2, h3, h4, h5, h6⟩ := S.sl i _ ei
    refine ⟨_, h1, .inl ⟨rfl, vs, SqL.of h2⟩, Gh, O, env, _, S, w, fun r v H1 s1 p1 r1 w1 => ?_⟩
    split at w1
    · rename_i d ed
      have S1 := S.mono s1 p1
      have R1 := h6.up S.op s1
      have g2 := s1 a _ h5 h2
      exact ⟨a, vs, v, rfl, rfl, g2, by rw [R1.length]; exact w1.1, f.nx O _ _ _ (S1.appd ei h1 g2 h3 h4 h5 (R1.append (RepL.one (r1.esc S.trk ed)))) w1.2⟩
    · exact False.elim w1
  · exact False.elim w
end
end DL

/-! DL7: from the text to the core, and the theorem that this is right. -/
namespace DL
open PySem PySem.Spec PyProof.Rows L2
/-- the names of defs and of constants that are known, by their places -/
structure Tb where
  fn : List (Str × Nat)
  gl : List (Str × Nat)
def ixS (x : Str) : List Str → Option Nat
  | [] => none
  | y :: ys => if x = y then some 0 else (ixS x ys).map (· + 1)
theorem ixS_get : ∀ {x : Str} {l : List Str} {i : Nat}, ixS x l = some i → l[i]? = some x
  | x, [], i, h => by cases h
  | x, y :: ys, i, h => by
    unfold ixS at h
    split at h
    · rename_i e
      have h' := Option.some.inj h
      subst h'
      rw [e]
      rfl
    · rw [Option.map_eq_some_iff] at h
      obtain ⟨j, h1, h2⟩ := h
      subst h2
      simpa using ixS_get h1
def okNm (x : Str) : Bool := !(x == ("__debug__" : Str)) && !(x == ("__classdict__" : Str)) && !decide (x = ("__name__" : Str))
theorem okNm1 {x : Str} (h : okNm x = true) : (x == ("__debug__" : Str)) = false := by
  unfold okNm at h
  simp only [Bool.and_eq_true, Bool.not_eq_true'] at h
  exact h.1.1
theorem okNm2 {x : Str} (h : okNm x = true) : (x == ("__classdict__" : Str)) = false := by
  unfold okNm at h
  simp only [Bool.and_eq_true, Bool.not_eq_true'] at h
  exact h.1.2
theorem okNm3 {x : Str} (h : okNm x = true) : x ≠ "__name__" := by
  unfold okNm at h
  simp only [Bool.and_eq_true, Bool.not_eq_true', decide_eq_false_iff_not] at h
  exact h.2
def visC (sc : Scope) (x : Str) : Bool := match sc.names.lookup x with
  | some .local => true
  | some .cell => true
  | some .free => true
  | _ => false
def glC (sc : Scope) (x : Str) : Bool := match sc.names.lookup x with
  | some .globalImplicit => true
  | _ => false
theorem visC_ok {sc : Scope} {x : Str} (h : visC sc x = true) : Vis sc x := by
  unfold visC at h
  split at h
  · rename_i e; exact .inl e
  · rename_i e; exact .inr (.inl e)
  · rename_i e; exact .inr (.inr e)
  · cases h
theorem glC_ok {sc : Scope} {x : Str} (h : glC sc x = true) : sc.names.lookup x = some .globalImplicit := by
  unfold glC at h
  split at h
  · assumption
  · cases h
def bltOf (x : Str) : Option BF :=
  if x = "len" then some .len else if x = "int" then some .int else if x = "tuple" then some .tuple else if x = "list" then some .list else if x = "sum" then some .sum
  else if x = "all" then some .all else if x = "any" then some .any else if x = "sorted" then some .sorted else if x = "dict" then some .dict else if x = "str" then some .str else none
def btOf (x : Str) : Option BT :=
  if x = "int" then some .bint else if x = "bool" then some .bbool else if x = "str" then some .bstr else if x = "tuple" then some .btuple else if x = "list" then some .blist else if x = "dict" then some .bdict else none
/-- the built-ins' names that the text must not hide -/
def bltNames : List Str := ["len", "int", "tuple", "list", "sum", "all", "any", "isinstance", "bool", "str", "dict", "range", "sorted", "repr"]
theorem bltOf_ok {x : Str} {f : BF} (h : bltOf x = some f) : x ∈ bltNames ∧ bootBuiltins x = some f.id := by
  unfold bltOf at h
  split at h
  · rename_i e; cases h; subst e; exact ⟨by decide, PySem.boot_len⟩
  split at h
  · rename_i e; cases h; subst e; exact ⟨by decide, by decide +kernel⟩
  split at h
  · rename_i e; cases h; subst e; exact ⟨by decide, by decide +kernel⟩
  split at h
  · rename_i e; cases h; subst e; exact ⟨by decide, by decide +kernel⟩
  split at h
  · rename_i e; cases h; subst e; exact ⟨by decide, by decide +kernel⟩
  split at h
  · rename_i e; cases h; subst e; exact ⟨by decide, by decide +kernel⟩
  split at h
  · rename_i e; cases h; subst e; exact ⟨by decide, by decide +kernel⟩
  split at h
  · rename_i e; cases h; subst e; exact ⟨by decide, by decide +kernel⟩
  split at h
  · rename_i e; cases h; subst e; exact ⟨by decide, by decide +kernel⟩
  split at h
  · rename_i e; cases h; subst e; exact ⟨by decide, by decide +kernel⟩
  cases h
theorem btOf_ok {x : Str} {f : BT} (h : btOf x = some f) : x ∈ bltNames ∧ bootBuiltins x = some (.type f.nm) := by
  unfold btOf at h
  split at h
  · rename_i e; cases h; subst e; exact ⟨by decide, by decide +kernel⟩
  split at h
  · rename_i e; cases h; subst e; exact ⟨by decide, by decide +kernel⟩
  split at h
  · rename_i e; cases h; subst e; exact ⟨by decide, by decide +kernel⟩
  split at h
  · rename_i e; cases h; subst e; exact ⟨by decide, by decide +kernel⟩
  split at h
  · rename_i e; cases h; subst e; exact ⟨by decide, by decide +kernel⟩
  split at h
  · rename_i e; cases h; subst e; exact ⟨by decide, by decide +kernel⟩
  cases h
/-- tuple(..), list(..) -/
def isTL (x : Str) : Option Bool := if x = "tuple" then some true else if x = "list" then some false else none
theorem isTL_ok {x : Str} {t : Bool} (h : isTL x = some t) : x = (if t = true then "tuple" else "list") ∧ x ∈ bltNames := by
  unfold isTL at h
  split at h
  · rename_i e; cases h; subst e; exact ⟨rfl, by decide⟩
  split at h
  · rename_i e; cases h; subst e; exact ⟨rfl, by decide⟩
  cases h
def noStar : Expr → Bool
  | .Starred _ _ => false
  | _ => true
theorem noStar_each {e : Expr} {es : List Expr} {env : Env} (h : noStar e = true) : starEach (e :: es) env = (false, eval e env) :: starEach es env := by
  cases e <;> first | rfl | cases h
theorem back_any {pos : Pos} {env : Env} : ∀ {es : List Expr}, es.all noStar = true → (backTo pos (starEach es env)).any (·.1) = false
  | [], _ => rfl
  | e :: es, h => by
    rw [List.all_cons, Bool.and_eq_true] at h
    rw [noStar_each h.1]
    have ih := back_any (pos := pos) (env := env) h.2
    unfold backTo at ih ⊢
    rw [List.map_cons, List.any_cons, ih]
    rfl
/-- an expression that no rule about sets, stars, comprehensions stops -/
def plainX : Expr → Bool
  | .ListComp _ _ _ _ => false
  | .SetComp _ _ _ _ => false
  | .DictComp _ _ _ _ _ => false
  | .Set _ _ _ => false
  | .Starred _ _ => false
  | .Slice _ _ _ _ => false
  | .Tuple _ _ _ => false
  | _ => true
theorem swaps_plain {e : Expr} {t : Option Expr} {l : Nat} {env : Env} (h : plainX e = true ∨ ∃ es k p, e = .Tuple es k p) : swapsWith e t l env = pure false := by
  rcases h with h | ⟨es, k, p, rfl⟩
  · cases e <;> first | rfl | cases h
  · rfl
def noSet : Expr → Bool
  | .Set _ _ _ => false
  | _ => true
theorem fold_noSet {e : Expr} {env : Env} (h : noSet e = true) : ∀ x, foldedSetIterable e env x = pure x := by
  intro x
  cases e <;> first | rfl | cases h
theorem behind_noSet {e : Expr} {op : CmpOp} (h : noSet e = true) : behindInMarks op e = false := by
  cases e <;> first | rfl | cases h
theorem last_noSet {b c : Expr} {op op' : CmpOp} (h : noSet c = true) : lastMarks [op, op'] [b, c] = false := by
  show behindInMarks op' c = false
  exact behind_noSet h
def plainIxB : Expr → Bool
  | .Slice _ _ _ _ => false
  | .Tuple _ _ _ => false
  | _ => true
theorem plainIx_ok {e : Expr} (h : plainIxB e = true) : PlainIx e := by
  intro o i
  cases e <;> first | rfl | cases h
/-! ### the translation -/
def b2 (a b : Option CE) (f : CE → CE → CE) : Option CE := a.bind fun x => b.map (f x)
def b3 (a b c : Option CE) (f : CE → CE → CE → CE) : Option CE := a.bind fun x => b.bind fun y => c.map (f x y)
def cL : List (Option CE) → Option CEs
  | [] => some .nil
  | a :: r => a.bind fun x => (cL r).map (.cons x)
def boolF : BoolOp → CE → CE → CE
  | .And => .and
  | .Or => .or
def cBoolL (op : BoolOp) : List (Option CE) → Option CE
  | [] => none
  | [a] => a
  | a :: r => b2 a (cBoolL op r) (boolF op)
def cConst : Const → Option CE
  | .none => some .non
  | .bool b => some (.bl b)
  | .int i => some (.int i)
  | .str s => some (.str s)
  | _ => none
def cName (T : Tb) (N : List Str) (sc : Scope) (x : Str) : Option CE :=
  if okNm x = true then
    if visC sc x = true then (ixS x N).map .var
    else if glC sc x = true then (T.gl.lookup x).map .glb else none
  else none
def cNm : Expr → Option (Str × Pos)
  | .Name x p => some (x, p)
  | _ => none
def cNms : List Expr → Option (List (Str × Pos))
  | [] => some []
  | e :: es => (cNm e).bind fun x => (cNms es).map (x :: ·)
theorem cNms_ok : ∀ {es : List Expr} {xs : List (Str × Pos)}, cNms es = some xs → es = xs.map fun y => .Name y.1 y.2
  | [], xs, h => by
    have h' := Option.some.inj h
    subst h'
    rfl
  | e :: es, xs, h => by
    unfold cNms at h
    rw [Option.bind_eq_some_iff] at h
    obtain ⟨x, h1, h2⟩ := h
    rw [Option.map_eq_some_iff] at h2
    obtain ⟨ys, h3, h4⟩ := h2
    subst h4
    rw [List.map_cons, cNms_ok h3]
    cases e <;> first | (cases h1; rfl) | cases h1
/-- the slots of names that may be stored: local, or a cell of the scope itself -/
def stC (names : List (Str × NameKind)) (x : Str) : Bool := match names.lookup x with
  | some .local => true
  | some .cell => true
  | _ => false
def cSlots (N : List Str) (names : List (Str × NameKind)) : List (Str × Pos) → Option (List Nat)
  | [] => some []
  | y :: ys => if stC names y.1 = true then (ixS y.1 N).bind fun i => (cSlots N names ys).map (i :: ·) else none
def cTg (N : List Str) (names : List (Str × NameKind)) : Expr → Option CT
  | .Name x p => (match cSlots N names [(x, p)] with | some [i] => some (.nm i) | _ => none)
  | .Tuple es _ _ => (cNms es).bind fun xs => (cSlots N names xs).map .tp
  | _ => none
def ownOf (N : List Str) : List (Str × NameKind) → List (Str × Nat)
  | [] => []
  | (x, k) :: r => (match k with
    | .local => (match ixS x N with | some i => [(x, i)] | none => [])
    | .cell => (match ixS x N with | some i => [(x, i)] | none => [])
    | _ => []) ++ ownOf N r
/-- range(..) as an argument -/
def rgOf (sc : Scope) : Expr → Option (List Expr)
  | .Call (.Name y _) as [] _ => if y = "range" ∧ glC sc y = true ∧ as.all noStar = true then some as else none
  | _ => none
theorem rgOf_ok {sc : Scope} {e : Expr} {as : List Expr} (h : rgOf sc e = some as) : ∃ p q, e = .Call (.Name "range" p) as [] q ∧ glC sc "range" = true ∧ as.all noStar = true := by
  unfold rgOf at h
  split at h
  · split at h
    · rename_i z
      cases h
      obtain ⟨z1, z2, z3⟩ := z
      subst z1
      exact ⟨_, _, rfl, z2, z3⟩
    · cases h
  · cases h
def cIt (g : Expr → Option CE) (sc : Scope) (it : Expr) : Option CI := match it with
  | .Call f as kw _ => (match f, as, kw with
    | .Name x _, [a], [] => if x = "range" then (if glC sc x = true ∧ noStar a = true then (g a).map .rng1 else none) else (g it).map .val
    | .Name x _, [a, b], [] => if x = "range" then (if glC sc x = true ∧ noStar a = true ∧ noStar b = true then (g a).bind fun c => (g b).map (.rng2 c) else none) else (g it).map .val
    | _, _, _ => (g it).map .val)
  | _ => (g it).map .val
def cE (T : Tb) (N : List Str) : Nat → Scope → Expr → Option CE
  | 0, _, _ => none
  | n + 1, sc, e => match e with
    | .Name x _ => cName T N sc x
    | .Constant v _ _ => cConst v
    | .BinOp a op b _ => b2 (cE T N n sc a) (cE T N n sc b) (.bin op)
    | .UnaryOp op a _ => (match op with
      | .Not => (cE T N n sc a).map .not
      | .USub => (cE T N n sc a).map .neg
      | _ => none)
    | .BoolOp op vs _ => cBoolL op (vs.map (cE T N n sc))
    | .Compare a ops bs _ => (match ops, bs with
      | [op], [b] => if noSet b = true then b2 (cE T N n sc a) (cE T N n sc b) (.cmp op) else none
      | [op, op'], [b, c] => if noSet c = true then b3 (cE T N n sc a) (cE T N n sc b) (cE T N n sc c) (.chn op op') else none
      | _, _ => none)
    | .IfExp c a b _ => b3 (cE T N n sc c) (cE T N n sc a) (cE T N n sc b) .ite
    | .Tuple es _ _ => if es.all noStar = true then (cL (es.map (cE T N n sc))).map .tup else none
    | .List es _ => if es.all noStar = true then (cL (es.map (cE T N n sc))).map .lst else none
    | .Subscript a i _ => (match i with
      | .Slice lo hi st _ => (match st with
        | none => (cE T N n sc a).bind fun x => (match lo with | none => some CP.no | some e => (cE T N n sc e).map CP.some).bind fun l => (match hi with | none => some CP.no | some e => (cE T N n sc e).map CP.some).map fun h => .sl x l h
        | some st => (match lo, hi, st with
          | none, none, .UnaryOp .USub (.Constant (.int 1) _ _) _ => (cE T N n sc a).map .rev
          | _, _, _ => none))
      | i => if plainIxB i = true then b2 (cE T N n sc a) (cE T N n sc i) .ix else none)
    | .Call f as kw pos => (match f, as, kw with
      | .Name x _, a :: es, [] =>
        if glC sc x = true ∧ okNm x = true ∧ noStar a = true ∧ es.all noStar = true then
          (match bltOf x, es with
          | some g, [] => (match rgOf sc a with
            | none => (cE T N n sc a).map (.b1 g)
            | some us => (match isTL x, us with
              | some t, [u] => (cE T N n sc u).map (.rgl1 t)
              | some t, [u, v] => b2 (cE T N n sc u) (cE T N n sc v) (.rgl2 t)
              | _, _ => none))
          | some _, _ => none
          | none, es =>
            if x = "isinstance" then
              (match es with
              | [.Name y _] => if glC sc y = true ∧ okNm y = true then (btOf y).bind fun t => (cE T N n sc a).map fun c => .isi c [t] else none
              | _ => none)
            else if x = "repr" ∧ es.isEmpty = false then none else (T.fn.lookup x).bind fun k => (cE T N n sc a).bind fun c => (cL (es.map (cE T N n sc))).map fun cs => .call k (.cons c cs))
        else none
      | .Name x _, [], [] => if glC sc x = true ∧ okNm x = true ∧ x ≠ "repr" then (T.fn.lookup x).map fun k => .call k .nil else none
      | .Attribute (.Name x px) at_ ap, [a, b], [] => if at_ = "get" ∧ noStar a = true ∧ noStar b = true ∧ (ap.endLine == pos.line) = true then b3 (cName T N sc x) (cE T N n sc a) (cE T N n sc b) .dget else none
      | .Attribute (.Constant (.str z) kc pc) at_ ap, [a], [] => if at_ = "join" ∧ noStar a = true ∧ (ap.endLine == pos.line) = true then (cE T N n sc a).map (.join (.str z)) else none
      | _, _, _ => none)
    | .ListComp elt gens scope _ => (match gens with
      | [⟨tg, it, ifs, as⟩] =>
        if as = 0 ∧ noSet it = true ∧ blkC N sc scope (ownOf N scope.names) = true then
          (cTg N scope.names tg).bind fun ct => if (ct.slots.all fun i => (List.map Prod.snd (ownOf N scope.names)).contains i) = true then
            (cIt (cE T N n sc) sc it).bind fun ci => (match ifs with | [] => some CEs.nil | [c] => (cE T N n (relS scope sc) c).map fun x => CEs.cons x .nil | _ => none).bind fun cf =>
              (cE T N n (relS scope sc) elt).map fun x => .comp x ct ci cf (List.map Prod.snd (ownOf N scope.names)) else none
        else none
      | _ => none)
    | .Dict ks vs _ => (match ks, vs with | [], [] => some .dnil | _, _ => none)
    | .DictComp kx elt gens scope _ => (match gens with
      | [⟨tg, it, ifs, as⟩] =>
        if as = 0 ∧ noSet it = true ∧ blkC N sc scope (ownOf N scope.names) = true then
          (cTg N scope.names tg).bind fun ct => if (ct.slots.all fun i => (List.map Prod.snd (ownOf N scope.names)).contains i) = true then
            (cIt (cE T N n sc) sc it).bind fun ci => (match ifs with | [] => some CEs.nil | [c] => (cE T N n (relS scope sc) c).map fun x => CEs.cons x .nil | _ => none).bind fun cf =>
              (cE T N n (relS scope sc) kx).bind fun y => (cE T N n (relS scope sc) elt).map fun x => .dcomp y x ct ci cf (List.map Prod.snd (ownOf N scope.names)) else none
        else none
      | _ => none)
    | _ => none
end DL

/-! DL8: the translation is right. -/
namespace DL
open PySem PySem.Spec PyProof.Rows L2
structure Gd (T : Tb) (P : Pm) (N : List Str) (sc : Scope) (X : Cx) : Prop where
  hK : X.K = P.K
  hN : X.N = N
  hsc : X.env.scope = sc
  nd : N.Nodup
  calm : X.calm = true
  hu : X.A.units + 65 < cLine
  call : ∀ x k, (x, k) ∈ T.fn → ∃ sp, P.G.Φ k = some sp ∧ CallD P X x sp
  glb : ∀ x k, (x, k) ∈ T.gl → ∃ d u v, P.G.Γ k = some d ∧ X.mg x = some u ∧ RelV v u ∧ ∀ H, Rep P.K P.p H d v
  blt : ∀ x ∈ bltNames, X.mg x = none
section
variable {T : Tb} {P : Pm} {N : List Str} {sc : Scope} {X : Cx}
theorem Gd.nd' (g : Gd T P N sc X) : X.N.Nodup := by rw [g.hN]; exact g.nd
theorem Gd.blk (g : Gd T P N sc X) (s : Shared) (H : Hp) (scope : Scope) (C : Addr) (cl : List (Str × Addr)) (fp : List Addr) : Gd T P N (relS scope sc) (X.blk s H scope (compEnvC scope cl C X.env) fp) := by
  refine ⟨g.hK, g.hN, ?_, g.nd, g.calm, g.hu, g.call, g.glb, g.blt⟩
  show relS scope X.env.scope = relS scope sc
  rw [g.hsc]
theorem Gd.gl (g : Gd T P N sc X) {x : Str} (h : glC sc x = true) : Gl X x := by
  show X.env.scope.names.lookup x = _
  rw [g.hsc]
  exact glC_ok h
theorem cSlots_ok {names : List (Str × NameKind)} : ∀ {ys : List (Str × Pos)} {is : List Nat}, cSlots N names ys = some is → is.length = ys.length ∧ ∀ (k i : Nat) (y : Str × Pos), is[k]? = some i → ys[k]? = some y → stC names y.1 = true ∧ ixS y.1 N = some i
  | [], is, h => by
    have h' := Option.some.inj h
    subst h'
    exact ⟨rfl, fun k i y e => by simp at e⟩
  | y :: ys, is, h => by
    unfold cSlots at h
    split at h
    · rename_i hs
      rw [Option.bind_eq_some_iff] at h
      obtain ⟨i, h1, h2⟩ := h
      rw [Option.map_eq_some_iff] at h2
      obtain ⟨js, h3, h4⟩ := h2
      subst h4
      obtain ⟨q1, q2⟩ := cSlots_ok h3
      refine ⟨by rw [List.length_cons, List.length_cons, q1], fun k j z e1 e2 => ?_⟩
      cases k with
      | zero =>
        have e1' : i = j := Option.some.inj e1
        have e2' : y = z := Option.some.inj e2
        subst e1' e2'
        exact ⟨hs, h1⟩
      | succ k => exact q2 k j z (by simpa using e1) (by simpa using e2)
    · cases h
theorem cTg_ok {names : List (Str × NameKind)} {tg : Expr} {ct : CT} (hnm : ∀ x i, stC names x = true → ixS x N = some i → NmOk X i x) (hc : X.calm = true) (hK : X.K = P.K) (hN : X.N.Nodup) (h : cTg N names tg = some ct) : PG X tg (tG P ct) := by
  cases tg with
  | Name x p =>
    simp only [cTg] at h
    split at h
    · rename_i i e
      cases h
      obtain ⟨q1, q2⟩ := cSlots_ok e
      obtain ⟨q3, q4⟩ := q2 0 i (x, p) rfl rfl
      exact pgd_nm hN (hnm x i q3 q4)
    · cases h
  | Tuple es k p =>
    simp only [cTg] at h
    rw [Option.bind_eq_some_iff] at h
    obtain ⟨xs, h1, h2⟩ := h
    rw [Option.map_eq_some_iff] at h2
    obtain ⟨is, h3, h4⟩ := h2
    subst h4
    rw [cNms_ok h1]
    obtain ⟨q1, q2⟩ := cSlots_ok h3
    exact pgd_tp hc hK hN q1 fun k i y e1 e2 => hnm _ _ (q2 k i y e1 e2).1 (q2 k i y e1 e2).2
  | _ => cases h
/-- what is shown of each expression -/
abbrev Good (P : Pm) (X : Cx) (e : Expr) (c : CE) : Prop := PE X e (tD P c) ∧ PT X e (tT P c)
theorem cL_ok {g : Expr → Option CE} (hg : ∀ e c, g e = some c → PE X e (tD P c)) : ∀ {es : List Expr} {cs : CEs}, es.all noStar = true → cL (es.map g) = some cs → PA X es (tAs P cs)
  | [], cs, _, h => by
    have h' := Option.some.inj h
    subst h'
    exact pd_nil
  | e :: es, cs, hs, h => by
    rw [List.all_cons, Bool.and_eq_true] at hs
    rw [List.map_cons, cL, Option.bind_eq_some_iff] at h
    obtain ⟨c, h1, h2⟩ := h
    rw [Option.map_eq_some_iff] at h2
    obtain ⟨ds, h3, h4⟩ := h2
    subst h4
    exact pd_cons (hg e c h1) (cL_ok hg hs.2 h3) (noStar_each hs.1)
theorem cBool_ok {g : Expr → Option CE} {pos : Pos} (op : BoolOp) (hg : ∀ e c, g e = some c → Good P X e c) : ∀ {es : List Expr} {c : CE}, cBoolL op (es.map g) = some c → PE X (.BoolOp op es pos) (tD P c) ∧ PW X (.BoolOp op es pos) (tT P c)
  | [], c, h => by cases h
  | [e], c, h => by
    have q := hg e c h
    refine ⟨pe_one q.1, ?_⟩
    cases op with
    | And => exact pw_and1 q.2
    | Or => exact pw_or1 q.2
  | e :: b :: es, c, h => by
    have h' : b2 (g e) (cBoolL op ((b :: es).map g)) (boolF op) = some c := h
    unfold b2 at h'
    rw [Option.bind_eq_some_iff] at h'
    obtain ⟨x, h1, h2⟩ := h'
    rw [Option.map_eq_some_iff] at h2
    obtain ⟨y, h3, h4⟩ := h2
    have q := hg e x h1
    have ih := cBool_ok (pos := pos) op hg (es := b :: es) h3
    cases op with
    | And =>
      subst h4
      exact ⟨pd_and q.1 ih.1, pd_andT q.2 ih.2⟩
    | Or =>
      subst h4
      exact ⟨pd_or q.1 ih.1, pd_orT q.2 ih.2⟩
theorem b2_some {a b : Option CE} {f : CE → CE → CE} {c : CE} (h : b2 a b f = some c) : ∃ x y, a = some x ∧ b = some y ∧ c = f x y := by
  unfold b2 at h
  rw [Option.bind_eq_some_iff] at h
  obtain ⟨x, h1, h2⟩ := h
  rw [Option.map_eq_some_iff] at h2
  obtain ⟨y, h3, h4⟩ := h2
  exact ⟨x, y, h1, h3, h4.symm⟩
theorem b3_some {a b d : Option CE} {f : CE → CE → CE → CE} {c : CE} (h : b3 a b d f = some c) : ∃ x y z, a = some x ∧ b = some y ∧ d = some z ∧ c = f x y z := by
  unfold b3 at h
  rw [Option.bind_eq_some_iff] at h
  obtain ⟨x, h1, h2⟩ := h
  rw [Option.bind_eq_some_iff] at h2
  obtain ⟨y, h3, h4⟩ := h2
  rw [Option.map_eq_some_iff] at h4
  obtain ⟨z, h5, h6⟩ := h4
  exact ⟨x, y, z, h1, h3, h5, h6.symm⟩
theorem cName_ok {x : Str} {pos : Pos} {c : CE} (g : Gd T P N sc X) (h : cName T N sc x = some c) : Good P X (.Name x pos) c := by
  unfold cName at h
  split at h
  · rename_i ho
    split at h
    · rename_i hv
      rw [Option.map_eq_some_iff] at h
      obtain ⟨i, h1, h2⟩ := h
      subst h2
      have e : PE X (.Name x pos) (tD P (.var i)) := pd_var (by rw [g.hN]; exact ixS_get h1) (by rw [g.hsc]; exact visC_ok hv) (okNm1 ho) (okNm2 ho)
      refine ⟨e, pd_tru g.hK e (fun env Q w => ?_) fun _ => rfl⟩
      simp only [wpT] at w
      simp only [wpE]
      split at w
      · exact w
      · exact w
      · exact False.elim w
    · split at h
      · rename_i hv
        rw [Option.map_eq_some_iff] at h
        obtain ⟨k, h1, h2⟩ := h
        subst h2
        obtain ⟨d, u, v, hk, m1, m2, m3⟩ := g.glb x k (PySem.mem_of_lookup h1)
        exact ⟨pd_glb (g.gl hv) m1 m2 hk m3 (okNm1 ho), pt_no fun env Q w => by simp only [wpT] at w⟩
      · cases h
  · cases h
theorem cConst_ok {v : Const} {k : Nat} {pos : Pos} {c : CE} (h : cConst v = some c) : Good P X (.Constant v k pos) c := by
  unfold cConst at h
  split at h
  · cases h
    exact ⟨pd_cst (d := .none) pe_non (fun _ _ _ => by simp only [wpE]) fun _ _ _ => rfl, pt_no fun env Q w => by simp only [wpT] at w⟩
  · cases h
    exact ⟨pd_cst (d := .bool _) pe_bl (fun _ _ _ => by simp only [wpE]) fun _ _ _ => rfl, pt_no fun env Q w => by simp only [wpT] at w⟩
  · cases h
    exact ⟨pd_cst (d := .int _) pe_int (fun _ _ _ => by simp only [wpE]) fun _ _ _ => rfl, pt_no fun env Q w => by simp only [wpT] at w⟩
  · cases h
    exact ⟨pd_cst (d := .str _) pe_str (fun _ _ _ => by simp only [wpE]) fun _ _ _ => rfl, pt_no fun env Q w => by simp only [wpT] at w⟩
  · cases h
theorem cIt_ok {gE : Expr → Option CE} {tg it : Expr} {ci : CI} (g : Gd T P N sc X) (hg : ∀ e c, gE e = some c → PE X e (tD P c)) (h : cIt gE sc it = some ci) : PI X tg it (tI P ci) := by
  have dflt : ∀ {it : Expr}, (gE it).map CI.val = some ci → PI X tg it (tI P ci) := fun {it} h => by
    rw [Option.map_eq_some_iff] at h
    obtain ⟨c, h1, h2⟩ := h
    subst h2
    exact pid_val g.hK (hg _ _ h1)
  have rg : ∀ {x : Str}, x = "range" → glC sc x = true → Gl X "range" ∧ X.mg "range" = none := fun {x} e q => by
    subst e
    exact ⟨g.gl q, g.blt _ (by decide)⟩
  unfold cIt at h
  split at h
  · split at h
    · split at h
      · rename_i e
        split at h
        · rename_i q
          rw [Option.map_eq_some_iff] at h
          obtain ⟨c, h1, h2⟩ := h
          subst h2 e
          exact pid_rng1 (rg rfl q.1).1 (rg rfl q.1).2 (hg _ _ h1) (noStar_each q.2)
        · cases h
      · exact dflt h
    · split at h
      · rename_i e
        split at h
        · rename_i q
          rw [Option.bind_eq_some_iff] at h
          obtain ⟨c, h1, h2⟩ := h
          rw [Option.map_eq_some_iff] at h2
          obtain ⟨d, h3, h4⟩ := h2
          subst h4 e
          exact pid_rng2 (rg rfl q.1).1 (rg rfl q.1).2 (hg _ _ h1) (hg _ _ h3) (by rw [noStar_each q.2.1, noStar_each q.2.2]; rfl) (noStar_each q.2.2)
        · cases h
      · exact dflt h
    · exact dflt h
  · exact dflt h
theorem blk_nm (g : Gd T P N sc X) {scope : Scope} (s : Shared) (H : Hp) (C : Addr) (cl : List (Str × Addr)) (fp : List Addr) {x : Str} {i : Nat} (h : stC scope.names x = true) (h1 : ixS x N = some i) : NmOk (X.blk s H scope (compEnvC scope cl C X.env) fp) i x := by
  have hn : X.N[i]? = some x := by rw [g.hN]; exact ixS_get h1
  unfold stC at h
  split at h
  · rename_i e
    have q : (relS scope X.env.scope).names.lookup x = some .local := lookup_relS_keep (by decide) e
    exact ⟨hn, .inl q, .inr q⟩
  · rename_i e
    have q : (relS scope X.env.scope).names.lookup x = some .cell := lookup_relS_keep (by decide) e
    refine ⟨hn, .inr q, .inl ?_⟩
    show (scope.names.lookup x == some NameKind.cell) = true
    rw [e]
    rfl
  · cases h
/-- what a comprehension needs -/
structure LcOk (P : Pm) (X : Cx) (elt tg it : Expr) (ifs : List Expr) (scope : Scope) (own : List (Str × Nat)) (ce : CE) (ct : CT) (ci : CI) (cf : CEs) : Prop where
  hit : PI X tg it (tI P ci)
  ok : BlkOk X.N X.env.scope scope own
  tg : ∀ (s : Shared) (H : Hp) (C : Addr) (cl : List (Str × Addr)) (fp : List Addr), PG (X.blk s H scope (compEnvC scope cl C X.env) fp) tg (tG P ct)
  ifs : ∀ (s : Shared) (H : Hp) (C : Addr) (cl : List (Str × Addr)) (fp : List Addr), PTs (X.blk s H scope (compEnvC scope cl C X.env) fp) ifs (tTs P cf)
  elt : ∀ (s : Shared) (H : Hp) (C : Addr) (cl : List (Str × Addr)) (fp : List Addr), PE (X.blk s H scope (compEnvC scope cl C X.env) fp) elt (tD P ce)
  fold : ∀ x, foldedSetIterable it X.env x = pure x
  sl : ∀ i ∈ ct.slots, i ∈ own.map (·.2)
theorem cE_lc {n : Nat} (ih : ∀ sc e c, cE T N n sc e = some c → ∀ X, Gd T P N sc X → Good P X e c) (g : Gd T P N sc X) {elt : Expr} {gens : List Comprehension} {scope : Scope} {pos : Pos} {c : CE} (h : cE T N (n + 1) sc (.ListComp elt gens scope pos) = some c) :
    ∃ tg it ifs own ce ct ci cf, gens = [⟨tg, it, ifs, 0⟩] ∧ c = .comp ce ct ci cf (own.map (·.2)) ∧ LcOk P X elt tg it ifs scope own ce ct ci cf := by
  simp only [cE] at h
  split at h
  · rename_i tg it ifs as
    split at h
    · rename_i q
      obtain ⟨q1, q2, q3⟩ := q
      subst q1
      rw [Option.bind_eq_some_iff] at h
      obtain ⟨ct, h1, h⟩ := h
      split at h
      · rename_i q4
        rw [Option.bind_eq_some_iff] at h
        obtain ⟨ci, h2, h⟩ := h
        rw [Option.bind_eq_some_iff] at h
        obtain ⟨cf, h3, h⟩ := h
        rw [Option.map_eq_some_iff] at h
        obtain ⟨ce, h4, h5⟩ := h
        refine ⟨tg, it, ifs, ownOf N scope.names, ce, ct, ci, cf, rfl, h5.symm, ?_⟩
        refine ⟨cIt_ok g (fun e c q => (ih sc e c q X g).1) h2, by rw [g.hN, g.hsc]; exact blkOk_by q3, fun s H C cl fp => ?_, fun s H C cl fp => ?_, fun s H C cl fp => (ih _ _ _ h4 _ (g.blk s H scope C cl fp)).1, fold_noSet q2, fun i hi => ?_⟩
        · exact cTg_ok (fun x i a b => blk_nm g s H C cl fp a b) g.calm g.hK g.nd' h1
        · split at h3
          · cases h3
            exact pdts_nil
          · rw [Option.map_eq_some_iff] at h3
            obtain ⟨x, h6, h7⟩ := h3
            subst h7
            exact pdts_one (ih _ _ _ h6 _ (g.blk s H scope C cl fp)).2
          · cases h3
        · have q5 := List.all_eq_true.mp q4 i hi
          simpa using q5
      · cases h
    · cases h
  · cases h
theorem cE_ok (T : Tb) (P : Pm) (N : List Str) : ∀ (n : Nat) (sc : Scope) (e : Expr) (c : CE), cE T N n sc e = some c → ∀ X, Gd T P N sc X → Good P X e c
  | 0, _, _, _, h, _, _ => by cases h
  | n + 1, sc, e, c, h, X, g => by
    have ih := cE_ok T P N n
    have ihX : ∀ e c, cE T N n sc e = some c → Good P X e c := fun e c q => ih sc e c q X g
    cases e with
    | Name x pos =>
      simp only [cE] at h
      exact cName_ok g h
    | Constant v k pos =>
      simp only [cE] at h
      exact cConst_ok h
    | BinOp a op b pos =>
      simp only [cE] at h
      obtain ⟨x, y, h1, h2, rfl⟩ := b2_some h
      exact ⟨pd_bin g.hK (ihX _ _ h1).1 (ihX _ _ h2).1, pt_no fun env Q w => by simp only [wpT] at w⟩
    | UnaryOp op a pos =>
      simp only [cE] at h
      split at h
      · rw [Option.map_eq_some_iff] at h
        obtain ⟨x, h1, rfl⟩ := h
        exact ⟨pd_not (ihX _ _ h1).1, pd_notT (ihX _ _ h1).2⟩
      · rw [Option.map_eq_some_iff] at h
        obtain ⟨x, h1, rfl⟩ := h
        exact ⟨pd_neg (ihX _ _ h1).1, pt_no fun env Q w => by simp only [wpT] at w⟩
      · cases h
    | BoolOp op vs pos =>
      simp only [cE] at h
      obtain ⟨q1, q2⟩ := cBool_ok (pos := pos) op ihX h
      exact ⟨q1, q2.pt⟩
    | Compare a ops bs pos =>
      simp only [cE] at h
      split at h
      · split at h
        · rename_i hn
          obtain ⟨x, y, h1, h2, rfl⟩ := b2_some h
          exact ⟨pd_cmp g.hu g.hK (ihX _ _ h1).1 (ihX _ _ h2).1 (behind_noSet hn), pd_cmpT g.hu g.hK (ihX _ _ h1).1 (ihX _ _ h2).1 (behind_noSet hn)⟩
        · cases h
      · split at h
        · rename_i hn
          obtain ⟨x, y, z, h1, h2, h3, rfl⟩ := b3_some h
          exact ⟨pd_chn g.hu g.hK (ihX _ _ h1).1 (ihX _ _ h2).1 (ihX _ _ h3).1 (last_noSet hn), pd_chnT g.hu g.hK (ihX _ _ h1).1 (ihX _ _ h2).1 (ihX _ _ h3).1 (last_noSet hn)⟩
        · cases h
      · cases h
    | IfExp a b d pos =>
      simp only [cE] at h
      obtain ⟨x, y, z, h1, h2, h3, rfl⟩ := b3_some h
      exact ⟨pd_ite (ihX _ _ h1).2 (ihX _ _ h2).1 (ihX _ _ h3).1, pt_no fun env Q w => by simp only [wpT] at w⟩
    | Tuple es k pos =>
      simp only [cE] at h
      split at h
      · rename_i hs
        rw [Option.map_eq_some_iff] at h
        obtain ⟨cs, h1, rfl⟩ := h
        exact ⟨pd_tup (cL_ok (fun e c q => (ihX e c q).1) hs h1), pt_no fun env Q w => by simp only [wpT] at w⟩
      · cases h
    | List es pos =>
      simp only [cE] at h
      split at h
      · rename_i hs
        rw [Option.map_eq_some_iff] at h
        obtain ⟨cs, h1, rfl⟩ := h
        exact ⟨pd_lst (cL_ok (fun e c q => (ihX e c q).1) hs h1), pt_no fun env Q w => by simp only [wpT] at w⟩
      · cases h
    | Subscript a i pos =>
      simp only [cE] at h
      split at h
      · rename_i lo hi st p2
        split at h
        · rw [Option.bind_eq_some_iff] at h
          obtain ⟨x, h1, h⟩ := h
          rw [Option.bind_eq_some_iff] at h
          obtain ⟨l, h2, h⟩ := h
          rw [Option.map_eq_some_iff] at h
          obtain ⟨u, h3, rfl⟩ := h
          have part : ∀ {o : Option Expr} {q : CP}, (match o with | none => some CP.no | some e => (cE T N n sc e).map CP.some) = some q → PO X o (tPt P q) := fun {o q} z => by
            cases o with
            | none =>
              cases z
              exact pd_no
            | some e =>
              have z' : (cE T N n sc e).map CP.some = some q := z
              rw [Option.map_eq_some_iff] at z'
              obtain ⟨y, z1, rfl⟩ := z'
              exact pd_some (ihX _ _ z1).1
          exact ⟨pd_sl g.hK (ihX _ _ h1).1 (part h2) (part h3), pt_no fun env Q w => by simp only [wpT] at w⟩
        · split at h
          · rw [Option.map_eq_some_iff] at h
            obtain ⟨x, h1, rfl⟩ := h
            exact ⟨pd_rev g.hK (ihX _ _ h1).1, pt_no fun env Q w => by simp only [wpT] at w⟩
          · cases h
      · split at h
        · rename_i hp
          obtain ⟨x, y, h1, h2, rfl⟩ := b2_some h
          have e := pd_ix (pos := pos) g.hu g.hK (ihX _ _ h1).1 (ihX _ _ h2).1 (plainIx_ok hp)
          exact ⟨e, pd_tru g.hK e (fun env Q w => by simp only [wpT] at w; simp only [wpE]; exact w) fun _ => rfl⟩
        · cases h
    | Call fe as kw pos =>
      simp only [cE] at h
      split at h
      · rename_i x p0 a es
        split at h
        · rename_i q
          obtain ⟨q1, q2, q3, q4⟩ := q
          cases hb : bltOf x with
          | some b =>
            simp only [hb] at h
            cases es with
            | nil =>
              cases hr : rgOf sc a with
              | none =>
                simp only [hr] at h
                rw [Option.map_eq_some_iff] at h
                obtain ⟨y, h1, rfl⟩ := h
                obtain ⟨m1, m2⟩ := bltOf_ok hb
                have e := pd_b1 (P := P) (p0 := p0) (pos := pos) g.calm g.hK (g.gl q1) (g.blt _ m1) m2 (ihX _ _ h1).1 (okNm3 q2) (okNm1 q2) (noStar_each q3)
                exact ⟨e, pd_tru g.hK e (fun env Q w => by simp only [wpT] at w; simp only [wpE]; exact w) fun _ => rfl⟩
              | some us =>
                simp only [hr] at h
                obtain ⟨pr, qr, rfl, r1, r2⟩ := rgOf_ok hr
                split at h
                · rename_i t u ht
                  obtain ⟨t1, t2⟩ := isTL_ok ht
                  rw [Option.map_eq_some_iff] at h
                  obtain ⟨y, h1, rfl⟩ := h
                  have e := pd_rgl1 (P := P) (y := x) (p0 := p0) (p1 := pr) (p2 := qr) (pos := pos) (noStar_each rfl) g.calm t1 (g.gl q1) (g.blt _ t2) (g.gl r1) (g.blt _ (by decide)) (ihX _ _ h1).1 (noStar_each (by simpa using r2))
                  exact ⟨e, pt_no fun env Q w => by simp only [wpT] at w⟩
                · rename_i t u v ht
                  obtain ⟨t1, t2⟩ := isTL_ok ht
                  obtain ⟨y, z, h1, h2, rfl⟩ := b2_some h
                  have r3 : noStar u = true ∧ noStar v = true := by simpa using r2
                  have e := pd_rgl2 (P := P) (y := x) (p0 := p0) (p1 := pr) (p2 := qr) (pos := pos) (noStar_each rfl) g.calm t1 (g.gl q1) (g.blt _ t2) (g.gl r1) (g.blt _ (by decide)) (ihX _ _ h1).1 (ihX _ _ h2).1 (noStar_each r3.1) (noStar_each r3.2) (back_any (by simp [r3.2]))
                  exact ⟨e, pt_no fun env Q w => by simp only [wpT] at w⟩
                · cases h
            | cons _ _ => cases h
          | none =>
            simp only [hb] at h
            by_cases ex : x = "isinstance"
            · rw [if_pos ex] at h
              split at h
              · rename_i y p1
                split at h
                · rename_i q5
                  rw [Option.bind_eq_some_iff] at h
                  obtain ⟨t, h1, h⟩ := h
                  rw [Option.map_eq_some_iff] at h
                  obtain ⟨z, h2, rfl⟩ := h
                  obtain ⟨m1, m2⟩ := btOf_ok h1
                  subst ex
                  have e := pd_isi (P := P) (p0 := p0) (p1 := p1) (pos := pos) g.hK (g.gl q1) (g.blt _ (by decide)) (g.gl q5.1) (g.blt _ m1) m2 (okNm3 q5.2) (okNm1 q5.2) (ihX _ _ h2).1 (noStar_each q3)
                  exact ⟨e, pd_tru g.hK e (fun env Q w => by simp only [wpT] at w; simp only [wpE]; exact w) fun _ => rfl⟩
                · cases h
              · cases h
            · rw [if_neg ex] at h
              split at h
              · cases h
              rename_i nr
              rw [Option.bind_eq_some_iff] at h
              obtain ⟨k, h1, h⟩ := h
              rw [Option.bind_eq_some_iff] at h
              obtain ⟨ca, h2, h⟩ := h
              rw [Option.map_eq_some_iff] at h
              obtain ⟨cs, h3, rfl⟩ := h
              obtain ⟨sp, hk, hc⟩ := g.call x k (PySem.mem_of_lookup h1)
              have e : PE X (.Call (.Name x p0) (a :: es) [] pos) (tD P (.call k (.cons ca cs))) := by
                rcases hc with hc | ⟨rfl, r1, r2, r3, rfl⟩
                rotate_left
                · cases es with
                  | nil =>
                    cases h3
                    exact pd_repr g.hK (g.gl q1) r1 r2 r3 hk (ihX _ _ h2).1 (noStar_each q3)
                  | cons b es => exact absurd ⟨rfl, rfl⟩ nr
                exact pd_call hc hk (g.gl q1) (pd_cons (ihX _ _ h2).1 (cL_ok (fun e c q => (ihX e c q).1) q4 h3) (noStar_each q3)) (okNm1 q2) (noStar_each q3) (back_any q4)
              exact ⟨e, pd_tru g.hK e (fun env Q w => by simp only [wpT] at w; simp only [wpE]; exact w) fun _ => rfl⟩
        · cases h
      · rename_i x p0
        split at h
        · rename_i q
          rw [Option.map_eq_some_iff] at h
          obtain ⟨k, h1, rfl⟩ := h
          obtain ⟨sp, hk, hc⟩ := g.call x k (PySem.mem_of_lookup h1)
          have hc' : CallF P X x sp := hc.resolve_right fun z => q.2.2 z.1
          have e : PE X (.Call (.Name x p0) [] [] pos) (tD P (.call k .nil)) := pd_call0 hc' hk (g.gl q.1) (okNm1 q.2.1)
          exact ⟨e, pd_tru g.hK e (fun env Q w => by simp only [wpT] at w; simp only [wpE]; exact w) fun _ => rfl⟩
        · cases h
      · rename_i x px at_ ap a b
        split at h
        · rename_i q
          obtain ⟨rfl, q1, q2, q3⟩ := q
          obtain ⟨y, z, u, h1, h2, h3, rfl⟩ := b3_some h
          refine ⟨pd_dget (m := "get") g.hu (cName_ok g h1).1 (ihX _ _ h2).1 (ihX _ _ h3).1 ⟨rfl, ?_, q3, ?_⟩, pt_no fun env Q w => by simp only [wpT] at w⟩
          · rw [noStar_each q1, noStar_each q2]
            rfl
          · rw [noStar_each q1, noStar_each q2]
            rfl
        · cases h
      · rename_i z kc pc at_ ap a
        split at h
        · rename_i q
          obtain ⟨rfl, q1, q2⟩ := q
          rw [Option.map_eq_some_iff] at h
          obtain ⟨y, h1, rfl⟩ := h
          have es : PE X (.Constant (.str z) kc pc) (tD P (.str z)) := pd_cst (d := .str _) pe_str (fun _ _ _ => by simp only [wpE]) fun _ _ _ => rfl
          exact ⟨pd_join g.hK es (ihX _ _ h1).1 rfl (noStar_each q1) q2, pt_no fun env Q w => by simp only [wpT] at w⟩
        · cases h
      · cases h
    | Dict ks vs pos =>
      simp only [cE] at h
      split at h
      · cases h
        exact ⟨pd_dnil, pt_no fun env Q w => by simp only [wpT] at w⟩
      · cases h
    | DictComp kx elt gens scope pos =>
      simp only [cE] at h
      split at h
      · rename_i tg it ifs as
        split at h
        · rename_i q
          obtain ⟨q1, q2, q3⟩ := q
          subst q1
          rw [Option.bind_eq_some_iff] at h
          obtain ⟨ct, h1, h⟩ := h
          split at h
          · rename_i q4
            rw [Option.bind_eq_some_iff] at h
            obtain ⟨ci, h2, h⟩ := h
            rw [Option.bind_eq_some_iff] at h
            obtain ⟨cf, h3, h⟩ := h
            rw [Option.bind_eq_some_iff] at h
            obtain ⟨ck, h4, h⟩ := h
            rw [Option.map_eq_some_iff] at h
            obtain ⟨ce, h5, rfl⟩ := h
            refine ⟨pd_dcomp g.calm g.nd' (cIt_ok g (fun e c q => (ihX e c q).1) h2) (by rw [g.hN, g.hsc]; exact blkOk_by q3) (fun s H C cl fp => ?_) (fun s H C cl fp => ?_) (fun s H C cl fp => (ih _ _ _ h4 _ (g.blk s H scope C cl fp)).1) (fun s H C cl fp => (ih _ _ _ h5 _ (g.blk s H scope C cl fp)).1) (fold_noSet q2) (fun i hi => ?_), pt_no fun env Q w => by simp only [wpT] at w⟩
            · exact cTg_ok (fun x i a b => blk_nm g s H C cl fp a b) g.calm g.hK g.nd' h1
            · split at h3
              · cases h3
                exact pdts_nil
              · rw [Option.map_eq_some_iff] at h3
                obtain ⟨x, h6, h7⟩ := h3
                subst h7
                exact pdts_one (ih _ _ _ h6 _ (g.blk s H scope C cl fp)).2
              · cases h3
            · have q5 := List.all_eq_true.mp q4 i hi
              simpa using q5
          · cases h
        · cases h
      · cases h
    | ListComp elt gens scope pos =>
      obtain ⟨tg, it, ifs, own, ce, ct, ci, cf, rfl, rfl, L⟩ := cE_lc ih g h
      exact ⟨pd_comp g.calm g.nd' L.hit L.ok L.tg L.ifs L.elt L.fold L.sl, pt_no fun env Q w => by simp only [wpT] at w⟩
    | _ => simp only [cE] at h; cases h
end
end DL

/-! DL9: statements, defs. -/
namespace DL
open PySem PySem.Spec PyProof.Rows L2
theorem swapped2 {env : Env} {x y : Str} {px py pt pt2 : Pos} {kt k2 : Nat} {a b : Expr} (hk : env.blockKind = .function) (hx : env.kindOf x = some .local) (hy : env.kindOf y = some .local) (hl : (py.line == px.line) = true) (hne : x ≠ y) (ha : noStar a = true) (hb : noStar b = true)
    (hf : [a, b].all (foldedForSure 8) = false) (hc : [a, b].all (constantsAlone 8) = false) : swappedStores [.Tuple [.Name x px, .Name y py] kt pt] (.Tuple [a, b] k2 pt2) env = pure (some [x, y]) := by
  have h2 : (y == x) = false := by
    rw [beq_eq_false_iff_ne]
    exact fun e => hne e.symm
  have hl' : py.line = px.line := by simpa using hl
  have nm : ∀ (l : List Expr) (g : Expr → Option Str), l = [.Name x px, .Name y py] → g (.Name x px) = some x → g (.Name y py) = some y → l.filterMap g = [x, y] := fun l g e g1 g2 => by
    rw [e, List.filterMap_cons, g1, List.filterMap_cons, g2]
    rfl
  unfold swappedStores
  simp only [List.length_cons, List.length_nil, hk, hf, hc, List.any_cons, List.any_nil]
  split
  · rename_i q
    exact absurd q (by decide)
  · split
    · cases ha
    · split
      · cases hb
      · rw [nm _ _ rfl (by simp [hx, Expr.pos]) (by simp [hy, Expr.pos, hl'])]
        simp [List.eraseDups, List.eraseDupsBy, List.eraseDupsBy.loop, h2]
/-- where a name of the two is no plain local, the pair is made -/
theorem swappedNo2 {env : Env} {x y : Str} {px py pt pt2 : Pos} {kt k2 : Nat} {a b : Expr} (hk : env.blockKind = .function) (h : env.kindOf x ≠ some .local ∨ env.kindOf y ≠ some .local) :
    swappedStores [.Tuple [.Name x px, .Name y py] kt pt] (.Tuple [a, b] k2 pt2) env = pure none := by
  have nm : ∀ (g : Expr → Option Str), (g (.Name x px) = none ∨ g (.Name y py) = none) → ([.Name x px, .Name y py].filterMap g).length ≠ 2 := fun g hg => by
    rcases hg with hg | hg
    · rw [List.filterMap_cons, hg]
      have := List.length_filterMap_le g [.Name y py]
      simp at this ⊢
      omega
    · cases e : g (.Name x px) with
      | none => rw [List.filterMap_cons, e, List.filterMap_cons, hg]; simp
      | some z => rw [List.filterMap_cons, e, List.filterMap_cons, hg]; simp
  unfold swappedStores
  simp only [List.length_cons, List.length_nil, hk]
  split
  · rfl
  · split
    · rfl
    · rw [if_pos]
      rw [Bool.or_eq_true]
      left
      rw [bne_iff_ne]
      refine nm _ ?_
      rcases h with h | h
      · left
        simp only
        rw [if_neg]
        simp [h]
      · right
        simp only
        rw [if_neg]
        simp [h]
theorem swapped3 {env : Env} {x y z : Str} {px py pz pt pt2 : Pos} {kt k2 : Nat} {a b c : Expr} (hk : env.blockKind = .function) (hx : env.kindOf x = some .local) (hy : env.kindOf y = some .local) (hz : env.kindOf z = some .local) (hl : (py.line == px.line) = true) (hl2 : (pz.line == px.line) = true)
    (hne : x ≠ y) (hne2 : x ≠ z) (hne3 : y ≠ z) (ha : noStar a = true) (hb : noStar b = true) (hcs : noStar c = true)
    (hf : [a, b, c].all (foldedForSure 8) = false) (hc : [a, b, c].all (constantsAlone 8) = false) : swappedStores [.Tuple [.Name x px, .Name y py, .Name z pz] kt pt] (.Tuple [a, b, c] k2 pt2) env = pure (some [x, y, z]) := by
  have h2 : (y == x) = false := by
    rw [beq_eq_false_iff_ne]
    exact fun e => hne e.symm
  have h3 : (z == x) = false := by
    rw [beq_eq_false_iff_ne]
    exact fun e => hne2 e.symm
  have h4 : (z == y) = false := by
    rw [beq_eq_false_iff_ne]
    exact fun e => hne3 e.symm
  have hl' : py.line = px.line := by simpa using hl
  have hl2' : pz.line = px.line := by simpa using hl2
  have nm : ∀ (l : List Expr) (g : Expr → Option Str), l = [.Name x px, .Name y py, .Name z pz] → g (.Name x px) = some x → g (.Name y py) = some y → g (.Name z pz) = some z → l.filterMap g = [x, y, z] := fun l g e g1 g2 g3 => by
    rw [e, List.filterMap_cons, g1, List.filterMap_cons, g2, List.filterMap_cons, g3]
    rfl
  unfold swappedStores
  simp only [List.length_cons, List.length_nil, hk, hf, hc, List.any_cons, List.any_nil]
  split
  · rename_i q
    exact absurd q (by decide)
  · split
    · cases ha
    · split
      · cases hb
      · split
        · cases hcs
        · rw [nm _ _ rfl (by simp [hx, Expr.pos]) (by simp [hy, Expr.pos, hl']) (by simp [hz, Expr.pos, hl2'])]
          simp [List.eraseDups, List.eraseDupsBy, List.eraseDupsBy.loop, h2, h3, h4]
/-! ### the translation of statements -/
def cSL (g : Stmt → Option CS) : List Stmt → Option CSs
  | [] => some .nil
  | s :: r => (g s).bind fun x => (cSL g r).map (.cons x)
theorem swappedNest {env : Env} {x y z : Str} {px py pz p1 pt pt2 : Pos} {k1 kt k2 : Nat} {a b : Expr} (hk : env.blockKind = .function) :
    swappedStores [.Tuple [.Tuple [.Name x px, .Name y py] k1 p1, .Name z pz] kt pt] (.Tuple [a, b] k2 pt2) env = pure none := by
  have nm : ∀ (g : Expr → Option Str), g (.Tuple [.Name x px, .Name y py] k1 p1) = none → ([.Tuple [.Name x px, .Name y py] k1 p1, .Name z pz].filterMap g).length ≠ 2 := fun g hg => by
    rw [List.filterMap_cons, hg]
    have := List.length_filterMap_le g [.Name z pz]
    simp at this ⊢
    omega
  unfold swappedStores
  simp only [List.length_cons, List.length_nil, hk]
  split
  · rfl
  · split
    · rfl
    · rw [if_pos]
      rw [Bool.or_eq_true]
      left
      rw [bne_iff_ne]
      exact nm _ rfl
def loC (sc : Scope) (x : Str) : Bool := match sc.names.lookup x with
  | some .local => true
  | _ => false
def isTup : Expr → Bool
  | .Tuple _ _ _ => true
  | _ => false
def isLc : Expr → Bool
  | .ListComp _ _ _ _ => true
  | _ => false
def lcOkB (x : Str) (p : Pos) : Expr → Bool
  | .ListComp _ _ scope pos => (p.line == pos.line) && !(scope.names.any fun (n, k) => n == x && (k == .local || k == .cell))
  | _ => false
def fnC (sc : Scope) : Bool := match sc.kind with
  | .function => true
  | _ => false
def cS (T : Tb) (N : List Str) (m : Nat) (sc : Scope) : Nat → Stmt → Option CS
  | 0, _ => none
  | n + 1, st => match st with
    | .Pass _ => some .pass
    | .Break _ => some .brk
    | .Continue _ => some .cnt
    | .Return v _ => (match v with
      | none => some (.ret .non)
      | some e => (cE T N m sc e).map .ret)
    | .Assign ts e pos => (match ts with
      | [.Name x p] =>
        if stC sc.names x = true then
          if plainX e = true ∨ isTup e = true then (ixS x N).bind fun i => (cE T N m sc e).map (.asg i)
          else if isLc e = true ∧ loC sc x = true ∧ lcOkB x p e = true then (ixS x N).bind fun i => (cE T N (m + 1) sc e).map (.asg i)
          else none
        else none
      | [.Tuple es k q] =>
        if isTup e = true then
          (match es, e with
          | [.Name x px, .Name y py], .Tuple [a, b] _ _ =>
            if loC sc x = true ∧ loC sc y = true ∧ (py.line == px.line) = true ∧ x ≠ y ∧ noStar a = true ∧ noStar b = true ∧ [a, b].all (foldedForSure 8) = false ∧ [a, b].all (constantsAlone 8) = false then
              (ixS x N).bind fun i => (ixS y N).bind fun j => (cE T N m sc a).bind fun ca => (cE T N m sc b).map fun cb => .par i j ca cb
            else if loC sc x = false ∨ loC sc y = false then
              (match cTg N sc.names (.Tuple es k q) with
              | some (.tp is) => (cE T N m sc e).map (.unp is)
              | _ => none)
            else none
          | [.Name x px, .Name y py, .Name z pz], .Tuple [a, b, c] _ _ =>
            if loC sc x = true ∧ loC sc y = true ∧ loC sc z = true ∧ (py.line == px.line) = true ∧ (pz.line == px.line) = true ∧ (x ≠ y ∧ x ≠ z ∧ y ≠ z) ∧ noStar a = true ∧ noStar b = true ∧ noStar c = true ∧ [a, b, c].all (foldedForSure 8) = false ∧ [a, b, c].all (constantsAlone 8) = false then
              (ixS x N).bind fun i => (ixS y N).bind fun j => (ixS z N).bind fun l => (cE T N m sc a).bind fun ca => (cE T N m sc b).bind fun cb => (cE T N m sc c).map fun cc => .par3 i j l ca cb cc
            else none
          | [.Tuple [.Name x _, .Name y _] _ _, .Name z _], .Tuple [_, _] _ _ =>
            if stC sc.names x = true ∧ stC sc.names y = true ∧ stC sc.names z = true then
              (ixS x N).bind fun i => (ixS y N).bind fun j => (ixS z N).bind fun l => (cE T N m sc e).map (.unp2 i j l)
            else none
          | _, _ => none)
        else if plainX e = true then
          (match cTg N sc.names (.Tuple es k q) with
          | some (.tp is) => (cE T N m sc e).map (.unp is)
          | _ => none)
        else none
      | _ => none)
    | .AugAssign t op e _ => (match t with
      | .Name x _ => if stC sc.names x = true ∧ (op = .Add ∨ op = .Sub) then (ixS x N).bind fun i => (cE T N m sc e).map (.aug i op) else none
      | _ => none)
    | .If c a b _ => (cE T N m sc c).bind fun x => (cSL (cS T N m sc n) a).bind fun y => (cSL (cS T N m sc n) b).map (.ite x y)
    | .For tg it body els _ => (match els with
      | [] => if noSet it = true then (cTg N sc.names tg).bind fun x => (cIt (cE T N m sc) sc it).bind fun y => (cSL (cS T N m sc n) body).map (.for_ x y) else none
      | _ => none)
    | .While c body els _ => (match els with
      | [] => (cE T N m sc c).bind fun x => (cSL (cS T N m sc n) body).map (.whl x)
      | _ => none)
    | .Expr e _ => (match e with
      | .Call (.Attribute (.Name x _) at_ ap) [a] [] cp => if at_ = "append" ∧ visC sc x = true ∧ okNm x = true ∧ noStar a = true ∧ (ap.endLine == cp.line) = true then (ixS x N).bind fun i => (cE T N m sc a).map (.app i) else none
      | _ => none)
    | _ => none
section
variable {T : Tb} {P : Pm} {N : List Str} {sc : Scope} {X : Cx}
structure GdS (T : Tb) (P : Pm) (N : List Str) (sc : Scope) (X : Cx) : Prop where
  g : Gd T P N sc X
  fn : ∀ x, X.fn x = true
  hp : PassesOwn (model X.prog X.w) X.A X.env X.xe
  kind : sc.kind = .function
theorem GdS.nm (g : GdS T P N sc X) {x : Str} {i : Nat} (h : stC sc.names x = true) (h1 : ixS x N = some i) : NmOk X i x := by
  refine ⟨by rw [g.g.hN]; exact ixS_get h1, ?_, .inl (g.fn x)⟩
  rw [g.g.hsc]
  unfold stC at h
  split at h
  · rename_i e; exact .inl e
  · rename_i e; exact .inr e
  · cases h
theorem loC_ok {x : Str} (h : loC sc x = true) : sc.names.lookup x = some .local := by
  unfold loC at h
  split at h
  · assumption
  · cases h
theorem cSL_ok {g : Stmt → Option CS} (hg : ∀ s c, g s = some c → PS X s (tS P c)) : ∀ {ss : List Stmt} {cs : CSs}, cSL g ss = some cs → PSs X ss (tSs P cs)
  | [], cs, h => by
    have h' := Option.some.inj h
    subst h'
    exact sd_nil
  | s :: ss, cs, h => by
    unfold cSL at h
    rw [Option.bind_eq_some_iff] at h
    obtain ⟨c, h1, h2⟩ := h
    rw [Option.map_eq_some_iff] at h2
    obtain ⟨ds, h3, rfl⟩ := h2
    exact sd_cons (hg s c h1) (cSL_ok hg h3)
theorem cS_ok (m : Nat) (g : GdS T P N sc X) : ∀ (n : Nat) (s : Stmt) (c : CS), cS T N m sc n s = some c → PS X s (tS P c)
  | 0, _, _, h => by cases h
  | n + 1, s, c, h => by
    have ih := cS_ok m g n
    have ex : ∀ {e : Expr} {c : CE}, cE T N m sc e = some c → Good P X e c := fun {e c} q => cE_ok T P N m sc e c q X g.g
    have hb : X.env.blockKind = .function := by
      unfold Env.blockKind
      rw [g.g.hsc, g.kind]
      rfl
    cases s with
    | Pass pos => simp only [cS] at h; cases h; exact sd_pass
    | Break pos => simp only [cS] at h; cases h; exact sd_brk
    | Continue pos => simp only [cS] at h; cases h; exact sd_cnt
    | Return v pos =>
      simp only [cS] at h
      cases v with
      | none => cases h; exact sd_retN
      | some e =>
        simp only at h
        rw [Option.map_eq_some_iff] at h
        obtain ⟨x, h1, rfl⟩ := h
        exact sd_ret (ex h1).1
    | Assign ts e pos =>
      simp only [cS] at h
      split at h
      · rename_i x p
        split at h
        · rename_i hs
          split at h
          · rename_i hp
            rw [Option.bind_eq_some_iff] at h
            obtain ⟨i, h1, h⟩ := h
            rw [Option.map_eq_some_iff] at h
            obtain ⟨y, h2, rfl⟩ := h
            refine sd_asg g.g.nd' (g.nm hs h1) (ex h2).1 (swaps_plain (hp.imp id fun q => ?_))
            cases e <;> first | exact ⟨_, _, _, rfl⟩ | cases q
          · split at h
            · rename_i hl
              rw [Option.bind_eq_some_iff] at h
              obtain ⟨i, h1, h⟩ := h
              rw [Option.map_eq_some_iff] at h
              obtain ⟨y, h2, rfl⟩ := h
              cases e with
              | ListComp elt gens scope lp =>
                obtain ⟨tg, it, ifs, own, ce, ct, ci, cf, rfl, rfl, L⟩ := cE_lc (fun sc e c q X g => cE_ok T P N m sc e c q X g) g.g h2
                have hl2 := hl.2.2
                unfold lcOkB at hl2
                rw [Bool.and_eq_true, Bool.not_eq_true'] at hl2
                have yl : X.env.scope.names.lookup x = some .local := by rw [g.g.hsc]; exact loC_ok hl.2.1
                exact sd_asgLc g.g.calm g.g.nd' (by rw [g.g.hN]; exact ixS_get h1) yl (sw_true (by rw [g.g.hsc]; exact g.kind) yl hl2.1 hl2.2) L.hit L.ok L.tg L.ifs L.elt L.fold L.sl
              | _ => cases hl.1
            · cases h
        · cases h
      · rename_i es k q
        split at h
        · split at h
          · rename_i x px y py a b k2 pt2 _
            split at h
            · rename_i q
              obtain ⟨q1, q2, q3, q4, q5, q6, q7, q8⟩ := q
              rw [Option.bind_eq_some_iff] at h
              obtain ⟨i, h1, h⟩ := h
              rw [Option.bind_eq_some_iff] at h
              obtain ⟨j, h2, h⟩ := h
              rw [Option.bind_eq_some_iff] at h
              obtain ⟨ca, h3, h⟩ := h
              rw [Option.map_eq_some_iff] at h
              obtain ⟨cb, h4, rfl⟩ := h
              have i1 : N[i]? = some x := ixS_get h1
              have i2 : N[j]? = some y := ixS_get h2
              have lx : X.env.scope.names.lookup x = some .local := by rw [g.g.hsc]; exact loC_ok q1
              have ly : X.env.scope.names.lookup y = some .local := by rw [g.g.hsc]; exact loC_ok q2
              refine sd_par g.g.calm g.g.nd' (by rw [g.g.hN]; exact i1) (by rw [g.g.hN]; exact i2) (fun z => ?_) lx ly (ex h3).1 (ex h4).1 (noStar_each q5) (noStar_each q6) (swapped2 hb lx ly q3 q4 q5 q6 q7 q8) rfl
              rw [z, i2] at i1
              exact q4 (Option.some.inj i1).symm
            · split at h
              · rename_i hl
                split at h
                · rename_i is ht
                  rw [Option.map_eq_some_iff] at h
                  obtain ⟨u, h2, rfl⟩ := h
                  have tg := cTg_ok (P := P) (fun x i a b => g.nm a b) g.g.calm g.g.hK g.g.nd' ht
                  have nl : ∀ {z : Str}, loC sc z = false → X.env.scope.names.lookup z ≠ some .local := fun {z} hz e => by
                    rw [g.g.hsc] at e
                    unfold loC at hz
                    rw [e] at hz
                    cases hz
                  exact sd_unp (ex h2).1 tg rfl (swappedNo2 hb (hl.imp nl nl)) rfl
                · cases h
              · cases h
          · rename_i x px y py z pz a b d k2 pt2 _
            split at h
            · rename_i q
              obtain ⟨q1, q2, q3, q4, q5, ⟨n1, n2, n3⟩, q6, q7, q8, q9, q10⟩ := q
              rw [Option.bind_eq_some_iff] at h
              obtain ⟨i, h1, h⟩ := h
              rw [Option.bind_eq_some_iff] at h
              obtain ⟨j, h2, h⟩ := h
              rw [Option.bind_eq_some_iff] at h
              obtain ⟨l, h3, h⟩ := h
              rw [Option.bind_eq_some_iff] at h
              obtain ⟨ca, h4, h⟩ := h
              rw [Option.bind_eq_some_iff] at h
              obtain ⟨cb, h5, h⟩ := h
              rw [Option.map_eq_some_iff] at h
              obtain ⟨cc, h6, rfl⟩ := h
              have i1 : N[i]? = some x := ixS_get h1
              have i2 : N[j]? = some y := ixS_get h2
              have i3 : N[l]? = some z := ixS_get h3
              have ne : ∀ {i j : Nat} {x y : Str}, N[i]? = some x → N[j]? = some y → x ≠ y → i ≠ j := fun {i j x y} e1 e2 n e => by
                rw [e, e2] at e1
                exact n (Option.some.inj e1).symm
              have lx : X.env.scope.names.lookup x = some .local := by rw [g.g.hsc]; exact loC_ok q1
              have ly : X.env.scope.names.lookup y = some .local := by rw [g.g.hsc]; exact loC_ok q2
              have lz : X.env.scope.names.lookup z = some .local := by rw [g.g.hsc]; exact loC_ok q3
              exact sd_par3 g.g.calm g.g.nd' (by rw [g.g.hN]; exact i1) (by rw [g.g.hN]; exact i2) (by rw [g.g.hN]; exact i3) (ne i1 i2 n1) (ne i1 i3 n2) (ne i2 i3 n3) lx ly lz (ex h4).1 (ex h5).1 (ex h6).1 (noStar_each q6) (noStar_each q7) (noStar_each q8) (swapped3 hb lx ly lz q4 q5 n1 n2 n3 q6 q7 q8 q9 q10) rfl
            · cases h
          · rename_i x px y py k1 p1 z pz a b k2 pt2 _
            split at h
            · rename_i q
              obtain ⟨q1, q2, q3⟩ := q
              rw [Option.bind_eq_some_iff] at h
              obtain ⟨i, h1, h⟩ := h
              rw [Option.bind_eq_some_iff] at h
              obtain ⟨j, h2, h⟩ := h
              rw [Option.bind_eq_some_iff] at h
              obtain ⟨l, h3, h⟩ := h
              rw [Option.map_eq_some_iff] at h
              obtain ⟨u, h4, rfl⟩ := h
              exact sd_unp2 (ex h4).1 (pgd_nest g.g.calm g.g.hK g.g.nd' (g.nm q1 h1) (g.nm q2 h2) (g.nm q3 h3)) rfl (swappedNest hb) rfl
            · cases h
          · cases h
        · split at h
          · rename_i hnt hp
            split at h
            · rename_i is ht
              rw [Option.map_eq_some_iff] at h
              obtain ⟨y, h2, rfl⟩ := h
              have tg := cTg_ok (P := P) (fun x i a b => g.nm a b) g.g.calm g.g.hK g.g.nd' ht
              have sw : swapsWith e (some (.Tuple es k q)) pos.line X.env = pure false := swaps_plain (.inl hp)
              refine sd_unp (ex h2).1 tg sw ?_ rfl
              cases e <;> first | rfl | cases hp
            · cases h
          · cases h
      · cases h
    | AugAssign t op e pos =>
      simp only [cS] at h
      split at h
      · split at h
        · rename_i q
          rw [Option.bind_eq_some_iff] at h
          obtain ⟨i, h1, h⟩ := h
          rw [Option.map_eq_some_iff] at h
          obtain ⟨y, h2, rfl⟩ := h
          exact sd_aug g.g.nd' (g.nm q.1 h1) (ex h2).1 q.2
        · cases h
      · cases h
    | If c a b pos =>
      simp only [cS] at h
      rw [Option.bind_eq_some_iff] at h
      obtain ⟨x, h1, h⟩ := h
      rw [Option.bind_eq_some_iff] at h
      obtain ⟨y, h2, h⟩ := h
      rw [Option.map_eq_some_iff] at h
      obtain ⟨z, h3, rfl⟩ := h
      exact sd_ite (ex h1).2 (cSL_ok ih h2) (cSL_ok ih h3)
    | For tg it body els pos =>
      simp only [cS] at h
      split at h
      · split at h
        · rename_i hn
          rw [Option.bind_eq_some_iff] at h
          obtain ⟨x, h1, h⟩ := h
          rw [Option.bind_eq_some_iff] at h
          obtain ⟨y, h2, h⟩ := h
          rw [Option.map_eq_some_iff] at h
          obtain ⟨z, h3, rfl⟩ := h
          exact sd_for g.hp g.g.calm (cIt_ok g.g (fun e c q => (ex q).1) h2) (cTg_ok (fun x i a b => g.nm a b) g.g.calm g.g.hK g.g.nd' h1) (cSL_ok ih h3) (fold_noSet hn)
        · cases h
      · cases h
    | While c body els pos =>
      simp only [cS] at h
      split at h
      · rw [Option.bind_eq_some_iff] at h
        obtain ⟨x, h1, h⟩ := h
        rw [Option.map_eq_some_iff] at h
        obtain ⟨z, h3, rfl⟩ := h
        exact sd_whl g.hp (ex h1).2 (cSL_ok ih h3)
      · cases h
    | Expr e pos =>
      simp only [cS] at h
      split at h
      · split at h
        · rename_i q
          obtain ⟨rfl, q1, q2, q3, q4⟩ := q
          rw [Option.bind_eq_some_iff] at h
          obtain ⟨i, h1, h⟩ := h
          rw [Option.map_eq_some_iff] at h
          obtain ⟨y, h2, rfl⟩ := h
          exact sd_app (by rw [g.g.hN]; exact ixS_get h1) (by rw [g.g.hsc]; exact visC_ok q1) (okNm1 q2) (okNm2 q2) (ex h2).1 (noStar_each q3) q4
        · cases h
      · cases h
    | _ => simp only [cS] at h; cases h
end
/-- the whole body -/
def cB (T : Tb) (N : List Str) (st : Stmt) : Option CSs := if fnC (defScope st) = true then cSL (cS T N 40 (defScope st) 40) (defBody st) else none
/-! ### defs -/
section
variable {Pr : Program} {w : World} {K : PySem.W.Frag} {mg : Str → Option Value} {base : Heap}
/-- a def that keeps a promise over data, at a level -/
def DefOk (Pr : Program) (w : World) (K : PySem.W.Frag) (mg : Str → Option Value) (base : Heap) (p a0 : Addr) (x : Str) (lvl : Nat) (sp : SpD) : Prop :=
  ∃ f fd ps, mg x = some (.ref f) ∧ PySem.W.keepIn K (.ref f) = true ∧ Binds K fd ps [] ∧ FnOk Pr w K mg base CX0 lvl f fd ps (lift K p a0 sp)
theorem DefOk.mono {p a0 : Addr} {x : Str} {j k : Nat} {sp : SpD} (h : DefOk Pr w K mg base p a0 x j sp) (l : j ≤ k) : DefOk Pr w K mg base p a0 x k sp := by
  obtain ⟨f, fd, ps, h1, h2, h3, h4⟩ := h
  exact ⟨f, fd, ps, h1, h2, h3, h4.mono l⟩
theorem DefOk.imp {p a0 : Addr} {x : Str} {j : Nat} {sp sp' : SpD} (h : DefOk Pr w K mg base p a0 x j sp) (l : ∀ ds Q, sp' ds Q → sp ds Q) : DefOk Pr w K mg base p a0 x j sp' := by
  obtain ⟨f, fd, ps, h1, h2, h3, h4⟩ := h
  refine ⟨f, fd, ps, h1, h2, h3, h4.imp fun vs H Q E q => ?_⟩
  obtain ⟨ds, O, Qd, q1, q2, q3, q4, q5, q6⟩ := q
  exact ⟨ds, O, Qd, q1, q2, q3, q4, l ds Qd q5, q6⟩
/-- how a constant of the module stands -/
def GlOk (K : PySem.W.Frag) (mg : Str → Option Value) (p : Addr) (x : Str) (d : D) : Prop := ∃ u v, mg x = some u ∧ RelV v u ∧ ∀ H, Rep K p H d v
theorem start_sr {K : PySem.W.Frag} {p a0 : Addr} {H : Hp} {O : Addr → Bool} {G : Gm} {N : List Str} {ds : List D} {vs : List V} (hp : O p = true) (hq : PoolOk p a0 H) (tr : ∀ a, O a = true → ∃ o, H a = some o) (r : RepL K p (hid H O) ds vs) :
    SR ⟨K, p, a0, H, O, G, tr⟩ [] O (L2.start N vs) H (ds.map Sl.val ++ List.replicate (N.length - ds.length) .no) := by
  have hl := r.length
  refine ⟨SameP.refl H, hq, hq, hp, tr, fun _ h => h, ?_, fun i s e => ?_, fun i j a es es' e1 => ?_, fun g hg => nomatch hg⟩
  · unfold L2.start
    simp [hl]
  · rw [List.getElem?_append] at e
    split at e
    · rename_i hi
      rw [List.getElem?_map, Option.map_eq_some_iff] at e
      obtain ⟨d, e1, rfl⟩ := e
      obtain ⟨v, e2, e3⟩ := r.get e1
      refine ⟨v, ?_, e3⟩
      unfold L2.start
      rw [List.getElem?_append_left (by rw [List.length_map, hl]; simpa using hi), List.getElem?_map, e2]
      rfl
    · rw [List.getElem?_replicate] at e
      split at e
      · cases e
        exact trivial
      · cases e
  · exfalso
    rw [List.getElem?_append] at e1
    split at e1
    · rw [List.getElem?_map, Option.map_eq_some_iff] at e1
      obtain ⟨d, _, e2⟩ := e1
      cases e2
    · rw [List.getElem?_replicate] at e1
      split at e1
      · cases e1
      · cases e1
/-- THE RULE -/
theorem def_ok {x : Str} {st : Stmt} {f : Addr} {fd : FuncData} {N ps : List Str} {k : Nat} {p a0 : Addr} {sp : SpD} {T : Tb} {G : Gm} {body : CSs} (F : Fun K x x st f fd) (m : mg x = some (.ref f)) (b : Binds K fd ps []) (S : FnScope N ps (defScope st)) (hc : cB T N st = some body)
    (calls : ∀ y id, (y, id) ∈ T.fn → ∃ sp, G.Φ id = some sp ∧ DefOk Pr w K mg base p a0 y k sp) (glbs : ∀ y id, (y, id) ∈ T.gl → ∃ d, G.Γ id = some d ∧ GlOk K mg p y d) (blts : ∀ y ∈ bltNames, mg y = none)
    (hw : ∀ ds Q, sp ds Q → ds.length = ps.length ∧ wpF G N.length body ds Q) : DefOk Pr w K mg base p a0 x (k + 1) sp := by
  refine ⟨f, fd, ps, m, F.kp, b, F.ok S (fun vs H Q E h => ?_) (fun cdv A outer s H vs Q E hr h => ?_)⟩
  · obtain ⟨ds, O, Qd, h1, h2, h3, h4, h5, h6⟩ := h
    rw [h4.length]
    exact (hw ds Qd h5).1
  · obtain ⟨ds, O, Qd, h1, h2, h3, h4, h5, h6⟩ := h
    unfold cB at hc
    split at hc
    · rename_i hk
      have hkind : (defScope st).kind = .function := by
        unfold fnC at hk
        split at hk
        · assumption
        · cases hk
      let P : Pm := ⟨K, p, a0, H, O, G, h3⟩
      have un := hr.un
      have gs : GdS T P N (defScope st) (cxOf CX0 Pr w K mg base N x (defScope st) f cdv A outer s H E).nox := by
        refine ⟨⟨rfl, rfl, rfl, S.nd, rfl, ?_, fun y id hy => ?_, fun y id hy => ?_, blts⟩, fun _ => rfl, PassesOwn.never, hkind⟩
        · show (A.deeper (envOfC x (defScope st) s.heap.objs.size f cdv)).units + 65 < cLine
          omega
        · obtain ⟨sp', q1, f', fd', ps', q2, q3, q4, q5⟩ := calls y id hy
          exact ⟨sp', q1, .inl ⟨f', fd', ps', k, q2, q3, q4, q5, hr⟩⟩
        · obtain ⟨d, q1, u, v, q2, q3, q4⟩ := glbs y id hy
          exact ⟨d, u, v, q1, q2, q3, q4⟩
      refine ⟨_, cSL_ok (cS_ok 40 gs 40) hc, [], O, _, _, start_sr h1 h2 h3 h4, (hw ds Qd h5).2, ⟨fun O' σ H' env S' q => ?_, fun _ _ _ _ _ q => q, fun _ _ _ _ _ q => q, fun r v H' s1 p1 r1 q => h6 r v H' s1 p1 r1 q⟩⟩
      exact h6 (.v .none) .non H' S'.same S'.pool rfl q
    · cases hc
end
end DL

/-! DLA: the law's frame, general words over data. -/
namespace DL
open PySem PySem.Spec PyProof.Rows L2
/-! ### the pool's cells -/
def spPool (K : PySem.W.Frag) : Sp := fun vs H Q _ => ∃ (a : Addr) (ns : List Int), vs = [.ref a] ∧ SqL K H a (ns.map V.int) ∧ ns.length ≤ 63 ∧ ∀ p a0 H', Same H H' → H p = none → PoolOk p a0 H' → Q (.ref p) H'
theorem cut63 (ns : List Int) : ∃ ms : List Int, cutV (ns.map V.int) none (some 63) = ms.map V.int ∧ ms.length ≤ 63 := by
  refine ⟨(ns.drop (HT.sIx ns.length 0 none)).take (HT.sIx ns.length ns.length (some 63) - HT.sIx ns.length 0 none), ?_, ?_⟩
  · unfold cutV
    rw [List.length_map, List.map_take, List.map_drop]
  · rw [List.length_take, show (63 : Int) = ((63 : Nat) : Int) from rfl, HT.sIx_nat]
    omega
theorem same_new {H : Hp} {p : Addr} {o : HO} (h : H p = none) : Same H (upd H p o) := fun b x e => by
  rw [upd_ne (ne_of_none e h)]
  exact e
def spDraw : SpD := fun ds Q => ∃ many : Int, ds = [poolD, .int many] ∧ 1 ≤ many ∧ many < 1073741824 ∧ ∀ r : Int, 0 ≤ r → r < many → Q (.v (.int r))
def spSpread : SpD := fun ds Q => ∃ c : Int, ds = [.int c] ∧ ∀ r : Int, Q (.v (.int r))
theorem rep_pool {K : PySem.W.Frag} {p : Addr} {H : Hp} {v : V} (h : Rep K p H poolD v) : v = .ref p := by
  rcases h with ⟨_, e⟩ | ⟨_, _, _, _, k, x, xs, _, h1, _⟩
  · exact e
  · have h2 : kD k = .none := h1.1
    cases k <;> cases h2
/-- the pool's five cells -/
def Cells (p a0 : Addr) (ns : List Int) (k m c s : Int) (H0 H : Hp) : Prop :=
  H p = some (.lst [.ref a0, .int k, .int m, .int c, .int s]) ∧ SameP p H0 H ∧ H0 a0 = some (.lst (ns.map V.int)) ∧ a0 ≠ p
theorem Cells.a0 {p a0 : Addr} {ns : List Int} {k m c s : Int} {H0 H : Hp} (h : Cells p a0 ns k m c s H0 H) : H a0 = some (.lst (ns.map V.int)) := h.2.1 a0 _ h.2.2.2 h.2.2.1
theorem Cells.put {p a0 : Addr} {ns : List Int} {k m c s k' m' c' s' : Int} {H0 H : Hp} (h : Cells p a0 ns k m c s H0 H) : Cells p a0 ns k' m' c' s' H0 (upd H p (.lst [.ref a0, .int k', .int m', .int c', .int s'])) :=
  ⟨upd_same, fun b o n e => by rw [upd_ne n]; exact h.2.1 b o n e, h.2.2.1, h.2.2.2⟩
theorem Cells.pool {p a0 : Addr} {ns : List Int} {k m c s : Int} {H0 H : Hp} (h : Cells p a0 ns k m c s H0 H) (l : ns.length ≤ 63) (k0 : 0 ≤ k) (c0 : 0 ≤ c) (s0 : 0 ≤ s) (s1 : s < 1000003) : PoolOk p a0 H :=
  ⟨k, m, c, s, h.1, ⟨ns, l, h.a0⟩, k0, c0, s0, s1⟩
/-! ### a def of the text as it stands -/
def DefAt (K : PySem.W.Frag) (mg : Str → Option Value) (x : Str) (st : Stmt) (ps : List Str) : Prop := ∃ f fd, Fun K x x st f fd ∧ mg x = some (.ref f) ∧ Binds K fd ps []
section
variable {Pr : Program} {w : World} {K : PySem.W.Frag} {mg : Str → Option Value} {base : Heap} {p a0 : Addr}
theorem DefAt.ok {x : Str} {st : Stmt} {N ps : List Str} {k : Nat} {sp : SpD} {T : Tb} {G : Gm} {body : CSs} (A : DefAt K mg x st ps) (S : FnScope N ps (defScope st)) (hc : cB T N st = some body)
    (blts : ∀ y ∈ bltNames, mg y = none) (calls : ∀ y id, (y, id) ∈ T.fn → ∃ sp, G.Φ id = some sp ∧ DefOk Pr w K mg base p a0 y k sp) (glbs : ∀ y id, (y, id) ∈ T.gl → ∃ d, G.Γ id = some d ∧ GlOk K mg p y d)
    (hw : ∀ ds Q, sp ds Q → ds.length = ps.length ∧ wpF G N.length body ds Q) : DefOk Pr w K mg base p a0 x (k + 1) sp := by
  obtain ⟨f, fd, F, m, b⟩ := A
  exact def_ok F m b S hc calls glbs blts hw
theorem DefAt.none {x : Str} {st : Stmt} {ps : List Str} {k : Nat} {sp : SpD} (A : DefAt K mg x st ps) (h : ∀ ds Q, ¬ sp ds Q) : DefOk Pr w K mg base p a0 x k sp := by
  obtain ⟨f, fd, F, m, b⟩ := A
  have no : ∀ vs H Q E, ¬ lift K p a0 sp vs H Q E := fun vs H Q E q => by
    obtain ⟨ds, O, Qd, _, _, _, _, q, _⟩ := q
    exact h ds Qd q
  exact ⟨f, fd, ps, m, F.kp, b, ⟨fun vs H Q E q => absurd q (no vs H Q E), fun A outer s H args us vs Q E _ _ _ _ q => absurd q (no vs H Q E)⟩⟩
theorem DefAt.hand {x : Str} {st : Stmt} {ps : List Str} {k : Nat} {sp : SpD} (A : DefAt K mg x st ps) (h : ∀ {f : Addr} {fd : FuncData}, Fun K x x st f fd → FnOk Pr w K mg base CX0 k f fd ps (lift K p a0 sp)) : DefOk Pr w K mg base p a0 x k sp := by
  obtain ⟨f, fd, F, m, b⟩ := A
  exact ⟨f, fd, ps, m, F.kp, b, h F⟩
end
/-! ### the law -/
def spLaw (K : PySem.W.Frag) : Sp := fun vs H Q _ => ∃ (a : Addr) (ns : List Int), vs = [.ref a] ∧ SqL K H a (ns.map V.int) ∧ ns.length ≤ 63 ∧ ∀ H', Q (.bl true) H'
def tRest (T : Tb) (N : List Str) (sc : Scope) (X : Cx) (body : CSs) : TS := fun D σ H => ∃ P, GdS T P N sc X ∧ tSs P body D σ H
theorem law_rest {T : Tb} {N : List Str} {sc : Scope} {X : Cx} {body : CSs} {rest : List Stmt} (hc : cSL (cS T N 40 sc 40) rest = some body) : PSs X rest (tRest T N sc X body) := ⟨fun pins s σ H D I h => by
  obtain ⟨P, g, h⟩ := h
  exact (cSL_ok (cS_ok 40 g 40) hc).run pins s σ H D I h⟩
section
variable {Pr : Program} {w : World} {K : PySem.W.Frag} {mg : Str → Option Value} {base : Heap}
theorem law_go {T : Tb} {G : Gm} {N : List Str} {sc : Scope} {body : CSs} {k : Nat} {x : Str} {f : Addr} {cdv : Value} {A : Around} {outer : List Env} {s : Shared} {H H' : Hp} {E : XK} {Q : VK} {a p a0 : Addr}
    (hr : Room k (A.deeper (envOfC x sc s.heap.objs.size f cdv))) (nd : N.Nodup) (hk : fnC sc = true) (hn : 2 ≤ N.length)
    (calls : ∀ y id, (y, id) ∈ T.fn → ∃ sp, G.Φ id = some sp ∧ DefOk Pr w K mg base p a0 y k sp) (glbs : ∀ y id, (y, id) ∈ T.gl → ∃ d, G.Γ id = some d ∧ GlOk K mg p y d) (blts : ∀ y ∈ bltNames, mg y = none)
    (pk : PoolOk p a0 H') (hw : wpSs G body { nx := fun _ => False, rt := fun r => r = .v (.bool true) } (.no :: .val poolD :: List.replicate (N.length - 2) .no)) (hq : ∀ H', Q (.bl true) H') :
    tRest T N sc (cxOf CX0 Pr w K mg base N x sc f cdv A outer s H E).nox body { nx := fun _ H' => Q .non H', rt := Q } ((L2.start N [.ref a]).set 1 (some (.ref p))) H' := by
  have hkind : sc.kind = .function := by
    unfold fnC at hk
    split at hk
    · assumption
    · cases hk
  have un := hr.un
  have tr : ∀ b, decide (b = p) = true → ∃ o, H' b = some o := fun b hb => by
    obtain ⟨_, _, _, _, q, _⟩ := pk
    exact ⟨_, by rw [of_decide_eq_true hb]; exact q⟩
  let P : Pm := ⟨K, p, a0, H', fun b => decide (b = p), G, tr⟩
  refine ⟨P, ⟨⟨rfl, rfl, rfl, nd, rfl, ?_, fun y id hy => ?_, fun y id hy => ?_, blts⟩, fun _ => rfl, PassesOwn.never, hkind⟩, [], P.O0, _, _, ?_, hw, ⟨fun _ _ _ _ _ q => False.elim q, fun _ _ _ _ _ q => q, fun _ _ _ _ _ q => q, fun r v H' s1 p1 r1 q => ?_⟩⟩
  · show (A.deeper (envOfC x sc s.heap.objs.size f cdv)).units + 65 < cLine
    omega
  · obtain ⟨sp', q1, f', fd', ps', q2, q3, q4, q5⟩ := calls y id hy
    exact ⟨sp', q1, .inl ⟨f', fd', ps', k, q2, q3, q4, q5, hr⟩⟩
  · obtain ⟨d, q1, u, v, q2, q3, q4⟩ := glbs y id hy
    exact ⟨d, u, v, q1, q2, q3, q4⟩
  · refine ⟨SameP.refl H', pk, pk, by show decide (p = p) = true; simp, tr, fun _ h => h, ?_, fun i u e => ?_, fun i j b es es' e1 => ?_, fun g hg => nomatch hg⟩
    · unfold L2.start
      simp
      omega
    · cases i with
      | zero =>
        have e' := Option.some.inj e
        subst e'
        exact trivial
      | succ i =>
        cases i with
        | zero =>
          have e' := Option.some.inj e
          subst e'
          refine ⟨.ref p, ?_, .inl ⟨rfl, rfl⟩⟩
          rw [List.getElem?_set_self]
          unfold L2.start
          simp
          omega
        | succ i =>
          have e1 : (List.replicate (N.length - 2) Sl.no)[i]? = some u := e
          rw [List.getElem?_replicate] at e1
          split at e1
          · cases e1
            exact trivial
          · cases e1
    · exfalso
      cases i with
      | zero => cases e1
      | succ i =>
        cases i with
        | zero => cases e1
        | succ i =>
          have e2 : (List.replicate (N.length - 2) Sl.no)[i]? = some (Sl.own es) := e1
          rw [List.getElem?_replicate] at e2
          split at e2
          · cases e2
          · cases e2
  · subst q
    rw [show v = .bl true from r1]
    exact hq _
end
/-! ### words over data -/
/-- a comprehension: items that pass p, made to g -/
theorem foldC_fm {tst : En → (Bool → Prop) → Prop} {el : En → (R → Prop) → Prop} {tg : CT} {env : En} (p : D → Bool) (g : D → D) : ∀ {items acc : List D} {Q : List D → Prop},
    (∀ d ∈ items, ∀ (Qt : R → Prop) (Qf : Prop), (p d = true → Qt (.v (g d))) → (p d = false → Qf) → tgD tg d env fun e => tst e fun b => if b = true then el e Qt else Qf) →
    acc.length + items.length ≤ sizeLine → Q (acc ++ (items.filter p).map g) → foldC tst el tg env items acc Q
  | [], acc, Q, _, _, q => by
    rw [List.filter_nil, List.map_nil, List.append_nil] at q
    exact q
  | d :: ds, acc, Q, h, l, q => by
    rw [List.length_cons] at l
    refine h d List.mem_cons_self _ _ (fun e => ?_) (fun e => ?_)
    · refine ⟨by omega, foldC_fm p g (fun x hx => h x (List.mem_cons_of_mem _ hx)) (by rw [List.length_append, List.length_singleton]; omega) ?_⟩
      rw [List.filter_cons, if_pos e, List.map_cons] at q
      rw [List.append_assoc]
      exact q
    · refine foldC_fm p g (fun x hx => h x (List.mem_cons_of_mem _ hx)) (by omega) ?_
      rw [List.filter_cons, if_neg (by rw [e]; decide)] at q
      exact q
theorem foldC_map {tst : En → (Bool → Prop) → Prop} {el : En → (R → Prop) → Prop} {tg : CT} {env : En} (g : D → D) {items : List D} {Q : List D → Prop}
    (h : ∀ d ∈ items, ∀ (Qt : R → Prop) (Qf : Prop), Qt (.v (g d)) → tgD tg d env fun e => tst e fun b => if b = true then el e Qt else Qf) (l : items.length ≤ sizeLine) (q : Q (items.map g)) : foldC tst el tg env items [] Q := by
  refine foldC_fm (fun _ => true) g (fun d hd Qt Qf h1 _ => h d hd Qt Qf (h1 rfl)) (by simpa using l) ?_
  rw [List.nil_append, List.filter_eq_self.mpr fun _ _ => rfl]
  exact q
theorem foldC_none {tst : En → (Bool → Prop) → Prop} {el : En → (R → Prop) → Prop} {tg : CT} {env : En} {items : List D} {Q : List D → Prop} (h : ∀ d ∈ items, ∀ (Qt : R → Prop) (Qf : Prop), Qf → tgD tg d env fun e => tst e fun b => if b = true then el e Qt else Qf)
    (l : items.length ≤ sizeLine) (q : Q []) : foldC tst el tg env items [] Q := by
  refine foldC_fm (fun _ => false) id (fun d hd Qt Qf _ h2 => h d hd Qt Qf (h2 rfl)) (by simpa using l) ?_
  rw [List.filter_eq_nil_iff.mpr fun _ _ => by decide]
  exact q
/-- a for by what holds between the turns -/
theorem foldF_inv {body : DE → En → Prop} {tg : CT} {D0 : DE} (I : Nat → En → Prop) : ∀ {items : List D} {env : En} (n : Nat), I n env →
    (∀ k d env, items[k]? = some d → I (n + k) env → tgD tg d env fun e => ∀ N : En → Prop, (∀ e', I (n + k + 1) e' → N e') → body { D0 with nx := N, ct := N, bk := D0.nx } e) → (∀ env, I (n + items.length) env → D0.nx env) → foldF body tg D0 items env
  | [], env, n, h, _, q => q env h
  | d :: ds, env, n, h, st, q => by
    unfold foldF
    have h1 := st 0 d env rfl h
    have mono : ∀ {A B : En → Prop}, (∀ e, A e → B e) → tgD tg d env A → tgD tg d env B := fun {A B} ab t => by
      cases tg with
      | nm i => exact ab _ t
      | tp is =>
        unfold tgD at t ⊢
        simp only at t ⊢
        split at t
        · split at t
          · exact ab _ t
          · exact t
        · exact t
    refine mono (fun e t => t _ fun e' i => ?_) h1
    exact foldF_inv I (n + 1) i (fun k x env' hk hi => by
      have q2 := st (k + 1) x env' (by simpa using hk) (by rw [show n + (k + 1) = n + 1 + k by omega]; exact hi)
      rw [show n + (k + 1) + 1 = n + 1 + k + 1 by omega] at q2
      exact q2) fun env' hi => q env' (by rw [List.length_cons, show n + (ds.length + 1) = n + 1 + ds.length by omega]; exact hi)
end DL
namespace DL
open PySem PySem.Spec PyProof.Rows L2
/-! ### lists of facts -/
theorem calls_nil {C : Str → Nat → Prop} : ∀ y id, (y, id) ∈ ([] : List (Str × Nat)) → C y id := fun _ _ h => nomatch h
theorem calls_cons {C : Str → Nat → Prop} {x : Str} {k : Nat} {l : List (Str × Nat)} (h : C x k) (r : ∀ y id, (y, id) ∈ l → C y id) : ∀ y id, (y, id) ∈ (x, k) :: l → C y id := fun y id m => by
  rcases List.mem_cons.mp m with e | m
  · cases e
    exact h
  · exact r y id m
theorem blt_all {mg : Str → Option Value} (h1 : mg "len" = none) (h2 : mg "int" = none) (h3 : mg "tuple" = none) (h4 : mg "list" = none) (h5 : mg "sum" = none) (h6 : mg "all" = none) (h7 : mg "any" = none) (h8 : mg "isinstance" = none) (h9 : mg "bool" = none) (h10 : mg "str" = none) (h11 : mg "dict" = none) (h12 : mg "range" = none) (h13 : mg "sorted" = none) (h14 : mg "repr" = none) :
    ∀ y ∈ bltNames, mg y = none := by
  intro y h
  unfold bltNames at h
  rcases List.mem_cons.mp h with rfl | h
  · exact h1
  rcases List.mem_cons.mp h with rfl | h
  · exact h2
  rcases List.mem_cons.mp h with rfl | h
  · exact h3
  rcases List.mem_cons.mp h with rfl | h
  · exact h4
  rcases List.mem_cons.mp h with rfl | h
  · exact h5
  rcases List.mem_cons.mp h with rfl | h
  · exact h6
  rcases List.mem_cons.mp h with rfl | h
  · exact h7
  rcases List.mem_cons.mp h with rfl | h
  · exact h8
  rcases List.mem_cons.mp h with rfl | h
  · exact h9
  rcases List.mem_cons.mp h with rfl | h
  · exact h10
  rcases List.mem_cons.mp h with rfl | h
  · exact h11
  rcases List.mem_cons.mp h with rfl | h
  · exact h12
  rcases List.mem_cons.mp h with rfl | h
  · exact h13
  rcases List.mem_cons.mp h with rfl | h
  · exact h14
  · cases h
/-- a def as the top has left it -/
theorem defAt_mk {K : PySem.W.Frag} {h : Heap} {mg : Str → Option Value} {x : Str} {st : Stmt} {ps : List Str} {f : Addr} {od an : Option Addr} {sl : Array (Option Value)} {oc kV dc pm cd ct : Value} (X : K.In h) (G : h.Ns mainGlobals mg)
    (a : PySem.W.nsIn K mainGlobals x = some (some (.ref f))) (l : K.lookup f = some ⟨oc, od, .func (PySem.W.fnOf x x (defArgs st) (defBody st) (defScope st) .none kV dc pm an cd ct), sl⟩) (c : PySem.W.codeIn K cd x = true) (k : PySem.W.keepIn K (.ref f) = true)
    (hb : ∀ (kV doc pm : Value) (an : Option Addr) (cdv ct : Value) (us : List Value), us.length = ps.length → bindArgs (PySem.W.fnOf x x (defArgs st) (defBody st) (defScope st) .none kV doc pm an cdv ct) ⟨us, []⟩ = pure (ps.zip us)) : DefAt K mg x st ps :=
  ⟨f, _, fun_mk l c k, PySem.W.mg_of X G a, (fun_mk l c k).binds hb⟩
/-- a constant tuple of one text -/
theorem glOk_t1 {K : PySem.W.Frag} {h : Heap} {mg : Str → Option Value} {x s : Str} {p a : Addr} {tk : Tok} {n : Nat} {sl : Array (Option Value)} (X : K.In h) (G : h.Ns mainGlobals mg) (ha : PySem.W.nsIn K mainGlobals x = some (some (.ref a)))
    (l : K.lookup a = some ⟨.type "tuple", none, .seq #[.str s tk] n, sl⟩) : GlOk K mg p x (.tuple [.str s]) :=
  ⟨.ref a, .ref a, PySem.W.mg_of X G ha, rfl, fun H => ⟨a, [.str s], rfl, ⟨.inr ⟨_, #[.str s tk], n, l, rfl, rfl, (by show 1 ≤ sizeLine; decide), .cons ⟨tk, rfl⟩ .nil⟩, .inr ⟨_, l, rfl⟩⟩, .str s, [], rfl, rfl, rfl⟩⟩
end DL

/-! FM: formulas as plain Lean. -/
namespace DL
open PySem PySem.Spec PyProof.Rows L2
inductive Fm where
  | all | none
  | name (s : Str)
  | not (a : Fm)
  | both (a b : Fm)
  | either (a b : Fm)
def Fm.d : Fm → D
  | .all => .tuple [.str "all"]
  | .none => .tuple [.str "none"]
  | .name s => .tuple [.str "name", .str s]
  | .not a => .tuple [.str "not", a.d]
  | .both a b => .tuple [.str "both", a.d, b.d]
  | .either a b => .tuple [.str "either", a.d, b.d]
def Fm.dep : Fm → Nat
  | .not a => a.dep + 1
  | .both a b => max a.dep b.dep + 1
  | .either a b => max a.dep b.dep + 1
  | _ => 0
mutual
def Fm.push : Fm → Fm
  | .all => .all
  | .none => .none
  | .name s => .name s
  | .not a => a.opp
  | .both a b => .both a.push b.push
  | .either a b => .either a.push b.push
def Fm.opp : Fm → Fm
  | .all => .none
  | .none => .all
  | .name s => .not (.name s)
  | .not a => a.push
  | .both a b => .either a.opp b.opp
  | .either a b => .both a.opp b.opp
end
def putF (w : Str) (o : Fm) : Fm → Fm
  | .all => .all
  | .none => .none
  | .name s => if s = w then o else .name s
  | .not a => .not (putF w o a)
  | .both a b => .both (putF w o a) (putF w o b)
  | .either a b => .either (putF w o a) (putF w o b)
theorem Fm.dep_push : ∀ f : Fm, f.push.dep ≤ f.dep ∧ f.opp.dep ≤ f.dep + 1
  | .all => ⟨Nat.le_refl _, by simp [Fm.opp, Fm.dep]⟩
  | .none => ⟨Nat.le_refl _, by simp [Fm.opp, Fm.dep]⟩
  | .name s => ⟨Nat.le_refl _, by simp [Fm.opp, Fm.dep]⟩
  | .not a => by
    have h := Fm.dep_push a
    simp only [Fm.push, Fm.opp, Fm.dep]
    omega
  | .both a b => by
    have h := Fm.dep_push a
    have h' := Fm.dep_push b
    simp only [Fm.push, Fm.opp, Fm.dep]
    omega
  | .either a b => by
    have h := Fm.dep_push a
    have h' := Fm.dep_push b
    simp only [Fm.push, Fm.opp, Fm.dep]
    omega
theorem Fm.push_push : ∀ f : Fm, f.push.push = f.push ∧ f.push.opp = f.opp ∧ f.opp.push = f.opp ∧ f.opp.opp = f.push
  | .all => ⟨rfl, rfl, rfl, rfl⟩
  | .none => ⟨rfl, rfl, rfl, rfl⟩
  | .name s => ⟨rfl, rfl, rfl, rfl⟩
  | .not a => by
    obtain ⟨h1, h2, h3, h4⟩ := Fm.push_push a
    exact ⟨h3, h4, h1, h2⟩
  | .both a b => by
    obtain ⟨h1, h2, h3, h4⟩ := Fm.push_push a
    obtain ⟨g1, g2, g3, g4⟩ := Fm.push_push b
    simp only [Fm.push, Fm.opp, h1, h2, h3, h4, g1, g2, g3, g4, and_self]
  | .either a b => by
    obtain ⟨h1, h2, h3, h4⟩ := Fm.push_push a
    obtain ⟨g1, g2, g3, g4⟩ := Fm.push_push b
    simp only [Fm.push, Fm.opp, h1, h2, h3, h4, g1, g2, g3, g4, and_self]
theorem dep_putF (w : Str) (o : Fm) : ∀ f : Fm, (putF w o f).dep ≤ f.dep + o.dep
  | .all => by simp [putF, Fm.dep]
  | .none => by simp [putF, Fm.dep]
  | .name s => by
    unfold putF
    split
    · omega
    · simp [Fm.dep]
  | .not a => by
    have h := dep_putF w o a
    simp only [putF, Fm.dep]
    omega
  | .both a b => by
    have h := dep_putF w o a
    have h' := dep_putF w o b
    simp only [putF, Fm.dep]
    omega
  | .either a b => by
    have h := dep_putF w o a
    have h' := dep_putF w o b
    simp only [putF, Fm.dep]
    omega
end DL

/-! FN: promises of the laws' helpers and of the program's small defs, over data. -/
namespace DL
open PySem L2
/-! ### data -/
mutual
def okD : D → Bool
  | .list ds => decide (ds.length ≤ 1000000) && okDs ds
  | .tuple ds => decide (ds.length ≤ 1000000) && okDs ds
  | .dict _ => false
  | .none => true
  | .bool _ => true
  | .int _ => true
  | .str _ => true
def okDs : List D → Bool
  | [] => true
  | d :: ds => okD d && okDs ds
end
mutual
def depD : D → Nat
  | .list ds => depDs ds + 1
  | .tuple ds => depDs ds + 1
  | _ => 0
def depDs : List D → Nat
  | [] => 0
  | d :: ds => max (depD d) (depDs ds)
end
theorem okDs_get : ∀ {ds : List D} {i : Nat} {d : D}, okDs ds = true → ds[i]? = some d → okD d = true
  | [], _, _, _, h => by simp at h
  | x :: ds, 0, d, h, e => by
    rw [okDs, Bool.and_eq_true] at h
    rw [← Option.some.inj e]
    exact h.1
  | x :: ds, i + 1, d, h, e => by
    rw [okDs, Bool.and_eq_true] at h
    exact okDs_get h.2 (by simpa using e)
theorem depDs_get : ∀ {ds : List D} {i : Nat} {d : D}, ds[i]? = some d → depD d ≤ depDs ds
  | [], _, _, h => by simp at h
  | x :: ds, 0, d, e => by
    rw [← Option.some.inj e, depDs]
    exact Nat.le_max_left _ _
  | x :: ds, i + 1, d, e => by
    have h := depDs_get (ds := ds) (i := i) (d := d) (by simpa using e)
    rw [depDs]
    exact Nat.le_trans h (Nat.le_max_right _ _)
theorem atI_ix {ds : List D} {k : Nat} (h : k < ds.length) : atI ds (k : Int) = some ds[k] := atI_nat (List.getElem?_eq_getElem h)
theorem atI_in {ds : List D} {r : Int} (h0 : 0 ≤ r) (h1 : r < ds.length) : ∃ d, atI ds r = some d ∧ d ∈ ds := by
  have e : r = ((r.toNat : Nat) : Int) := by omega
  have l : r.toNat < ds.length := by omega
  have q : atI ds ((r.toNat : Nat) : Int) = some ds[r.toNat] := atI_nat (List.getElem?_eq_getElem l)
  rw [← e] at q
  exact ⟨_, q, List.getElem_mem l⟩
theorem rngD_mem {n : Nat} {d : D} (h : d ∈ rngD 0 n) : ∃ k : Nat, k < n ∧ d = .int (k : Int) := by
  unfold rngD at h
  rw [List.mem_map] at h
  obtain ⟨k, h1, h2⟩ := h
  exact ⟨k, List.mem_range.mp h1, by rw [← h2, Int.zero_add]⟩
/-! ### what is kept -/
def spPush (n : Nat) : SpD := fun ds Q => ∃ f : Fm, ds = [f.d] ∧ f.dep < n ∧ Q (.v f.push.d)
def spOpp (n : Nat) : SpD := fun ds Q => ∃ f : Fm, ds = [f.d] ∧ f.dep < n ∧ Q (.v f.opp.d)
def spPut (n : Nat) : SpD := fun ds Q => ∃ (f o : Fm) (w : Str), ds = [f.d, .str w, o.d] ∧ f.dep < n ∧ Q (.v (putF w o f).d)
def spPick : SpD := fun ds Q => ∃ items : List D, ds = [poolD, .list items] ∧ 1 ≤ items.length ∧ items.length < 1000000 ∧ ∀ d ∈ items, Q (.v d)
def Fm.nms : Fm → List Str
  | .name s => [s]
  | .not a => a.nms
  | .both a b => a.nms ++ b.nms
  | .either a b => a.nms ++ b.nms
  | _ => []
def spForm (n : Nat) : SpD := fun ds Q => ∃ (names : List Str) (deep : Nat), ds = [poolD, .list (names.map .str), .int deep] ∧ 1 ≤ names.length ∧ names.length < 1000000 ∧ deep < n ∧ ∀ f : Fm, f.dep ≤ deep → (∀ s ∈ f.nms, s ∈ names) → Q (.v f.d)
def spLPush (n : Nat) : SpD := fun ds Q => ∃ (f : Fm) (t : Bool), ds = [f.d, .bool t] ∧ f.dep < n ∧ Q (.v (if t then f.opp else f.push).d)
def spSame (n : Nat) : SpD := fun ds Q => ∃ d : D, ds = [d, d] ∧ okD d = true ∧ depD d < n ∧ Q (.v (.bool true))
theorem okD_fm : ∀ f : Fm, okD f.d = true
  | .all => by simp [Fm.d, okD, okDs]
  | .none => by simp [Fm.d, okD, okDs]
  | .name s => by simp [Fm.d, okD, okDs]
  | .not a => by simp [Fm.d, okD, okDs, okD_fm a]
  | .both a b => by simp [Fm.d, okD, okDs, okD_fm a, okD_fm b]
  | .either a b => by simp [Fm.d, okD, okDs, okD_fm a, okD_fm b]
theorem depD_fm : ∀ f : Fm, depD f.d = f.dep + 1
  | .all => by simp [Fm.d, depD, depDs, Fm.dep]
  | .none => by simp [Fm.d, depD, depDs, Fm.dep]
  | .name s => by simp [Fm.d, depD, depDs, Fm.dep]
  | .not a => by simp [Fm.d, depD, depDs, Fm.dep, depD_fm a]
  | .both a b => by
    simp [Fm.d, depD, depDs, Fm.dep, depD_fm a, depD_fm b] <;> omega
  | .either a b => by
    simp [Fm.d, depD, depDs, Fm.dep, depD_fm a, depD_fm b] <;> omega
end DL

/-! TD: any data that a law may hand to the program; what is a word, a formula. -/
namespace DL
open PySem L2
mutual
def tdD : D → Bool
  | .list ds => decide (ds.length ≤ 100000) && tdDs ds
  | .tuple ds => decide (ds.length ≤ 100000) && tdDs ds
  | .dict kvs => kvs.isEmpty
  | .str s => decide (s.length ≤ 100000)
  | .none => true
  | .bool _ => true
  | .int _ => true
def tdDs : List D → Bool
  | [] => true
  | d :: ds => tdD d && tdDs ds
end
theorem tdDs_mem : ∀ {ds : List D}, tdDs ds = true ↔ ∀ d ∈ ds, tdD d = true
  | [] => ⟨fun _ d h => (nomatch h), fun _ => by simp only [tdDs]⟩
  | d :: ds => by
    rw [tdDs, Bool.and_eq_true, tdDs_mem]
    simp
theorem td_noDic {d : D} (h : tdD d = true) : noDic d = true := by
  cases d with
  | dict kvs =>
    cases kvs with
    | nil => rfl
    | cons a b => simp [tdD] at h
  | _ => rfl
theorem td_list {ds : List D} (h : tdD (.list ds) = true) : ds.length ≤ 100000 ∧ ∀ d ∈ ds, tdD d = true := by
  rw [tdD, Bool.and_eq_true, decide_eq_true_eq, tdDs_mem] at h
  exact h
theorem td_tup {ds : List D} (h : tdD (.tuple ds) = true) : ds.length ≤ 100000 ∧ ∀ d ∈ ds, tdD d = true := by
  rw [tdD, Bool.and_eq_true, decide_eq_true_eq, tdDs_mem] at h
  exact h
theorem td_str {s : Str} (h : tdD (.str s) = true) : s.length ≤ 100000 := by
  rw [tdD, decide_eq_true_eq] at h
  exact h
/-! ### words, formulas -/
def takenL : List Str := ["all", "and", "below", "none", "not", "or"]
def letterB (c : Nat) : Bool := decide (97 ≤ c) && decide (c ≤ 122)
def isW (s : Str) : Bool := !takenL.contains s && (decide (1 ≤ s.length) && decide (s.length ≤ 12)) && s.cps.toList.all letterB
def isWD : D → Bool
  | .str s => isW s
  | _ => false
def isFm : Nat → D → Bool
  | 0, _ => false
  | n + 1, .tuple (.str w :: r) =>
    if w = "all" ∨ w = "none" then r.isEmpty
    else if w = "name" then (match r with | [x] => isWD x | _ => false)
    else if w = "not" then (match r with | [x] => isFm n x | _ => false)
    else if w = "both" ∨ w = "either" then (match r with | [x, y] => isFm n x && isFm n y | _ => false)
    else false
  | _, _ => false
theorem letter_in (c : Nat) : decide (c ∈ ("abcdefghijklmnopqrstuvwxyz" : Str).cps.toList) = letterB c := by
  have e : ("abcdefghijklmnopqrstuvwxyz" : Str).cps.toList = (List.range 26).map (97 + ·) := by decide +kernel
  rw [e]
  unfold letterB
  rw [Bool.eq_iff_iff]
  simp only [decide_eq_true_eq, Bool.and_eq_true, List.mem_map, List.mem_range]
  constructor
  · rintro ⟨k, h1, h2⟩
    omega
  · rintro ⟨h1, h2⟩
    exact ⟨c - 97, by omega, by omega⟩
theorem letter_lt (c : Nat) : (decide (([c] : List Nat) < ("a" : Str).cps.toList) || decide (("z" : Str).cps.toList < [c])) = !letterB c := by
  have e1 : ("a" : Str).cps.toList = [97] := by decide +kernel
  have e2 : ("z" : Str).cps.toList = [122] := by decide +kernel
  rw [e1, e2]
  unfold letterB
  have l : ∀ a b : Nat, decide (([a] : List Nat) < [b]) = decide (a < b) := fun a b => by
    rw [decide_eq_decide]
    constructor
    · intro h
      cases h with
      | rel h => exact h
      | cons h => cases h
    · exact fun h => .rel h
  rw [l, l, Bool.eq_iff_iff]
  simp only [Bool.or_eq_true, Bool.not_eq_true', Bool.and_eq_false_iff, decide_eq_true_eq, decide_eq_false_iff_not]
  omega
/-! ### promises -/
def spIsW : SpD := fun ds Q => ∃ d : D, ds = [d] ∧ tdD d = true ∧ Q (.v (.bool (isWD d)))
def spIsFm (m : Nat) : SpD := fun ds Q => ∃ (n : Nat) (d : D), ds = [d, .int ((n : Int) - 1)] ∧ n < m ∧ tdD d = true ∧ Q (.v (.bool (isFm n d)))
end DL

/-! RM: rooms as plain Lean. -/
namespace DL
open PySem PySem.Spec PyProof.Rows L2
/-! ### more about comprehensions -/
theorem foldC_rel {tst : En → (Bool → Prop) → Prop} {el : En → (R → Prop) → Prop} {tg : CT} {env : En} (I : Nat → List D → Prop) : ∀ {items acc : List D} (n : Nat) {Q : List D → Prop}, I n acc → acc.length + items.length ≤ sizeLine →
    (∀ k d acc, items[k]? = some d → I (n + k) acc → ∀ (Qt : R → Prop) (Qf : Prop), (∀ r y, r.esc = some y → I (n + k + 1) (acc ++ [y]) → Qt r) → (I (n + k + 1) acc → Qf) → tgD tg d env fun e => tst e fun b => if b = true then el e Qt else Qf) →
    (∀ acc, I (n + items.length) acc → Q acc) → foldC tst el tg env items acc Q
  | [], acc, n, Q, i, _, _, q => q acc i
  | d :: ds, acc, n, Q, i, l, h, q => by
    rw [List.length_cons] at l
    have next : ∀ acc' : List D, acc'.length ≤ acc.length + 1 → I (n + 1) acc' → foldC tst el tg env ds acc' Q := fun acc' la i' => by
      refine foldC_rel I (n + 1) i' (by omega) (fun k d' a e i2 Qt Qf h1 h2 => ?_) (fun a ia => q a (by rw [List.length_cons, show n + (ds.length + 1) = n + 1 + ds.length by omega]; exact ia))
      have e1 : n + 1 + k = n + (k + 1) := by omega
      rw [e1] at i2 h1 h2
      exact h (k + 1) d' a (by simpa using e) i2 Qt Qf h1 h2
    refine h 0 d acc rfl i _ _ (fun r y er i' => ?_) (fun i' => next acc (by omega) i')
    rw [er]
    exact ⟨by omega, next _ (by simp) i'⟩
/-- whatever passes: a part of the items, in their order -/
theorem foldC_sub {tst : En → (Bool → Prop) → Prop} {el : En → (R → Prop) → Prop} {tg : CT} {env : En} (f : D → D) : ∀ {items acc : List D} {Q : List D → Prop},
    (∀ d ∈ items, ∀ (Qt : R → Prop) (Qf : Prop), Qt (.v (f d)) → Qf → tgD tg d env fun e => tst e fun b => if b = true then el e Qt else Qf) →
    acc.length + items.length ≤ sizeLine → (∀ sub : List D, sub.Sublist items → Q (acc ++ sub.map f)) → foldC tst el tg env items acc Q
  | [], acc, Q, _, _, q => by
    have h := q [] (List.Sublist.refl _)
    rw [List.map_nil, List.append_nil] at h
    exact h
  | d :: ds, acc, Q, h, l, q => by
    rw [List.length_cons] at l
    refine h d List.mem_cons_self _ _ ?_ ?_
    · refine ⟨by omega, foldC_sub f (fun x hx => h x (List.mem_cons_of_mem _ hx)) (by rw [List.length_append, List.length_singleton]; omega) fun sub hs => ?_⟩
      have q' := q (d :: sub) (hs.cons_cons d)
      rw [List.append_assoc]
      exact q'
    · exact foldC_sub f (fun x hx => h x (List.mem_cons_of_mem _ hx)) (by omega) fun sub hs => q sub (hs.cons d)
/-! ### numbers as data -/
def natD (l : List Nat) : List D := l.map fun (k : Nat) => PyData.int (k : Int)
theorem natD_length {l : List Nat} : (natD l).length = l.length := by unfold natD; rw [List.length_map]
theorem rngD_nat (n : Nat) : rngD 0 n = natD (List.range n) := by
  unfold rngD natD
  refine List.map_congr_left fun k _ => ?_
  rw [Int.zero_add]
theorem natD_mem {l : List Nat} {d : D} (h : d ∈ natD l) : ∃ k ∈ l, d = .int (k : Int) := by
  unfold natD at h
  rw [List.mem_map] at h
  obtain ⟨k, h1, h2⟩ := h
  exact ⟨k, h1, h2.symm⟩
theorem natD_flat : ∀ l : List Nat, (natD l).all flatD = true
  | [] => rfl
  | k :: l => by
    show (flatD _ && (natD l).all flatD) = true
    rw [natD_flat l]
    rfl
theorem inV_nat (k : Nat) : ∀ l : List Nat, inV (V.int (k : Int)) ((natD l).map toV) = decide (k ∈ l)
  | [] => rfl
  | a :: l => by
    have ih := inV_nat k l
    unfold inV at ih
    show (((a : Int) == (k : Int)) || ((natD l).map toV).any fun y => eqV y (V.int (k : Int))) = _
    rw [ih]
    by_cases e : a = k
    · subst e
      simp
    · have e' : k ≠ a := fun z => e z.symm
      have e2 : ((a : Int) == (k : Int)) = false := by
        rw [beq_eq_false_iff_ne]
        omega
      rw [e2]
      simp [e']
theorem okDs_nat : ∀ l : List Nat, okDs (natD l) = true
  | [] => rfl
  | k :: l => by
    show (okD (.int (k : Int)) && okDs (natD l)) = true
    rw [okDs_nat l]
    rfl
theorem depDs_nat : ∀ l : List Nat, depDs (natD l) = 0
  | [] => rfl
  | k :: l => by
    show max (depD (.int (k : Int))) (depDs (natD l)) = 0
    rw [depDs_nat l]
    rfl
theorem intsD_nat : ∀ l : List Nat, intsD (natD l) = some (l.map fun (k : Nat) => (k : Int))
  | [] => rfl
  | k :: l => by
    show (intsD (natD l)).map (((k : Nat) : Int) :: ·) = _
    rw [intsD_nat l]
    rfl
theorem eqvAll_nat : ∀ a b : List Nat, PyData.eqvAll (natD a) (natD b) = decide (a = b)
  | [], [] => rfl
  | [], _ :: _ => rfl
  | _ :: _, [] => rfl
  | x :: a, y :: b => by
    show (((x : Int) == (y : Int)) && PyData.eqvAll (natD a) (natD b)) = _
    rw [eqvAll_nat a b]
    by_cases e : x = y
    · subst e
      simp
    · have e2 : ((x : Int) == (y : Int)) = false := by
        rw [beq_eq_false_iff_ne]
        omega
      rw [e2]
      simp [e]
theorem canLay_nat : ∀ l : List Nat, PyData.canLayAll0 (natD l) = true
  | [] => by simp only [natD, List.map_nil, PyData.canLayAll0]
  | k :: l => by
    have e : natD (k :: l) = PyData.int (k : Int) :: natD l := rfl
    rw [e, PyData.canLayAll0, canLay_nat l]
    simp only [PyData.canLay0, Bool.and_self]
theorem depth_nat : ∀ l : List Nat, PyData.depthAll (natD l) = 0
  | [] => by simp only [natD, List.map_nil, PyData.depthAll]
  | k :: l => by
    have e : natD (k :: l) = PyData.int (k : Int) :: natD l := rfl
    rw [e, PyData.depthAll, depth_nat l]
    simp only [PyData.depth, Nat.max_self]
theorem shaped_nat (l : List Nat) : SeqAt.shaped (.list (natD l)) = true := by
  unfold SeqAt.shaped
  rw [PyData.canLay0, canLay_nat l, PyData.depth, depth_nat l]
  rfl
/-! ### points -/
def tblD (A : Nat → Nat → Bool) (n : Nat) : List D := (List.range n).map fun i => .list ((List.range n).map fun j => .bool (A i j))
theorem tblD_length {A : Nat → Nat → Bool} {n : Nat} : (tblD A n).length = n := by unfold tblD; rw [List.length_map, List.length_range]
theorem tblD_at {A : Nat → Nat → Bool} {n i : Nat} (h : i < n) : atI (tblD A n) (i : Int) = some (.list ((List.range n).map fun j => .bool (A i j))) := by
  refine atI_nat ?_
  unfold tblD
  rw [List.getElem?_map, List.getElem?_range h]
  rfl
theorem row_at {A : Nat → Nat → Bool} {n i j : Nat} (h : j < n) : atI ((List.range n).map fun j => PyData.bool (A i j)) (j : Int) = some (.bool (A i j)) := by
  refine atI_nat ?_
  rw [List.getElem?_map, List.getElem?_range h]
  rfl
def oppN (A : Nat → Nat → Bool) (n : Nat) (pts : List Nat) : List Nat := (List.range n).filter fun k => pts.all fun p => A k p
theorem oppN_lt {A : Nat → Nat → Bool} {n : Nat} {pts : List Nat} : ∀ k ∈ oppN A n pts, k < n := fun k h => by
  unfold oppN at h
  rw [List.mem_filter, List.mem_range] at h
  exact h.1
theorem mem_oppN {A : Nat → Nat → Bool} {n k : Nat} {pts : List Nat} : k ∈ oppN A n pts ↔ k < n ∧ ∀ p ∈ pts, A k p = true := by
  unfold oppN
  rw [List.mem_filter, List.mem_range, List.all_eq_true]
theorem oppN_up {A : Nat → Nat → Bool} {n : Nat} {pts : List Nat} : (oppN A n pts).Pairwise (· < ·) := by
  unfold oppN
  exact List.pairwise_lt_range.filter _
theorem oppN_length {A : Nat → Nat → Bool} {n : Nat} {pts : List Nat} : (oppN A n pts).length ≤ n := by
  unfold oppN
  exact Nat.le_trans (List.length_filter_le _ _) (by rw [List.length_range]; exact Nat.le_refl n)
/-- pts lies in the closure -/
theorem sub_close {A : Nat → Nat → Bool} {n : Nat} {pts : List Nat} (sy : ∀ i j, A i j = A j i) (h : ∀ p ∈ pts, p < n) : ∀ p ∈ pts, p ∈ oppN A n (oppN A n pts) := fun p hp => by
  rw [mem_oppN]
  refine ⟨h p hp, fun q hq => ?_⟩
  rw [mem_oppN] at hq
  rw [sy]
  exact hq.2 p hp
theorem opp3 {A : Nat → Nat → Bool} {n : Nat} {pts : List Nat} (sy : ∀ i j, A i j = A j i) (h : ∀ p ∈ pts, p < n) : oppN A n (oppN A n (oppN A n pts)) = oppN A n pts := by
  have e : oppN A n (oppN A n (oppN A n pts)) = (List.range n).filter fun k => (oppN A n (oppN A n pts)).all fun p => A k p := rfl
  rw [e]
  show _ = (List.range n).filter fun k => pts.all fun p => A k p
  refine List.filter_congr fun k hk => ?_
  rw [Bool.eq_iff_iff, List.all_eq_true, List.all_eq_true]
  refine ⟨fun q p hp => q p (sub_close sy h p hp), fun q p hp => ?_⟩
  rw [mem_oppN] at hp
  rw [sy]
  exact hp.2 k (mem_oppN.mpr ⟨List.mem_range.mp hk, q⟩)
/-- sorting what ascends -/
theorem sorted_up {l : List Nat} {ms : List Int} (u : l.Pairwise (· ≤ ·)) (p : ms.Perm (l.map fun (k : Nat) => (k : Int))) (s : ms.Pairwise (· ≤ ·)) : ms.map PyData.int = natD l := by
  have e : ms = l.map fun (k : Nat) => (k : Int) := by
    refine List.Perm.eq_of_pairwise (le := (· ≤ ·)) (fun a b _ _ h1 h2 => Int.le_antisymm h1 h2) s ?_ p
    rw [List.pairwise_map]
    exact u.imp fun h => by omega
  rw [e]
  unfold natD
  rw [List.map_map]
  rfl
/-! ### rooms -/
def prsD (ps : List (Nat × Nat)) : List D := ps.map fun p => .tuple [.int (p.1 : Int), .int (p.2 : Int)]
def apart (ps : List (Nat × Nat)) (i j : Nat) : Bool := ps.any fun p => (p.1 == i && p.2 == j) || (p.1 == j && p.2 == i)
theorem apart_sy (ps : List (Nat × Nat)) (i j : Nat) : apart ps i j = apart ps j i := by
  unfold apart
  congr 1
  funext p
  rw [Bool.or_comm]
def valD (vs : List (Str × List Nat)) : List D := vs.map fun v => .tuple [.str v.1, .tuple (natD v.2)]
def roomD (n : Nat) (ps : List (Nat × Nat)) (vs : List (Str × List Nat)) : D := .tuple [.int (n : Int), .tuple (prsD ps), .tuple (valD vs)]
structure RoomOk (names : List Str) (most n : Nat) (ps : List (Nat × Nat)) (vs : List (Str × List Nat)) : Prop where
  pos : 1 ≤ n
  le : n ≤ most
  prs : ∀ p ∈ ps, p.1 < p.2 ∧ p.2 < n
  up : ps.Pairwise fun p q => p.1 < q.1 ∨ (p.1 = q.1 ∧ p.2 < q.2)
  nms : (vs.map Prod.fst).Sublist names
  cl : ∀ v ∈ vs, ∃ some : List Nat, (∀ k ∈ some, k < n) ∧ v.2 = oppN (apart ps) n (oppN (apart ps) n some)
/-! ### promises -/
/-- a table of a room's pairs -/
def spTable : SpD := fun ds Q => ∃ (n : Nat) (ps : List (Nat × Nat)) (pd v : D), ds = [.tuple [.int (n : Int), pd, v]] ∧ (pd = .list (prsD ps) ∨ pd = .tuple (prsD ps)) ∧ n ≤ 600 ∧ (∀ p ∈ ps, p.1 < n ∧ p.2 < n) ∧ Q (.nw (tblD (apart ps) n))
def spOppT : SpD := fun ds Q => ∃ (A : Nat → Nat → Bool) (n : Nat) (pts : List Nat) (pd : D), ds = [.list (tblD A n), pd] ∧ (pd = .list (natD pts) ∨ pd = .tuple (natD pts)) ∧ n ≤ 600 ∧ pts.length ≤ 1000000 ∧ (∀ p ∈ pts, p < n) ∧ Q (.nw (natD (oppN A n pts)))
/-- what the room's pairs and points must be for opposite_of and its kin -/
def RmArg (r : D) (n : Nat) (ps : List (Nat × Nat)) : Prop := ∃ pd v, r = .tuple [.int (n : Int), pd, v] ∧ (pd = .list (prsD ps) ∨ pd = .tuple (prsD ps)) ∧ n ≤ 600 ∧ ∀ p ∈ ps, p.1 < n ∧ p.2 < n
def PtArg (d : D) (n : Nat) (pts : List Nat) : Prop := (d = .list (natD pts) ∨ d = .tuple (natD pts)) ∧ pts.length ≤ 1000000 ∧ ∀ p ∈ pts, p < n
def spOpOf : SpD := fun ds Q => ∃ (r d : D) (n : Nat) (ps : List (Nat × Nat)) (pts : List Nat), ds = [r, d] ∧ RmArg r n ps ∧ PtArg d n pts ∧ Q (.nw (natD (oppN (apart ps) n pts)))
def spClOf : SpD := fun ds Q => ∃ (r d : D) (n : Nat) (ps : List (Nat × Nat)) (pts : List Nat), ds = [r, d] ∧ RmArg r n ps ∧ PtArg d n pts ∧ Q (.nw (natD (oppN (apart ps) n (oppN (apart ps) n pts))))
/-- asked of ascending points alone -/
def spIsCl : SpD := fun ds Q => ∃ (r : D) (n : Nat) (ps : List (Nat × Nat)) (pts : List Nat), ds = [r, .list (natD pts)] ∧ RmArg r n ps ∧ pts.length ≤ 1000000 ∧ (∀ p ∈ pts, p < n) ∧ pts.Pairwise (· ≤ ·) ∧ Q (.v (.bool (decide (oppN (apart ps) n (oppN (apart ps) n pts) = pts))))
def spRoom : SpD := fun ds Q => ∃ (most : Nat) (names : List Str), ds = [poolD, .int (most : Int), .list (names.map .str)] ∧ 1 ≤ most ∧ most ≤ 600 ∧ names.length ≤ 1000 ∧ ∀ n ps vs, RoomOk names most n ps vs → Q (.v (roomD n ps vs))
end DL

/-! RT: what is a room, told of any data. -/
namespace DL
open PySem L2
/-! ### words over comprehensions -/
theorem foldC_sel {tst : En → (Bool → Prop) → Prop} {el : En → (R → Prop) → Prop} {tg : CT} {env : En} (p : D → Bool) {items : List D} {Q : List D → Prop}
    (h : ∀ d ∈ items, ∀ (Qt : R → Prop) (Qf : Prop), (p d = true → Qt (.v d)) → (p d = false → Qf) → tgD tg d env fun e => tst e fun b => if b = true then el e Qt else Qf) (l : items.length ≤ sizeLine) (q : Q (items.filter p)) : foldC tst el tg env items [] Q := by
  refine foldC_fm p id h (by simpa using l) ?_
  rw [List.nil_append, List.map_id]
  exact q
theorem boolsD_mp {α : Type} (f : α → Bool) : ∀ l : List α, boolsD (l.map fun x => .bool (f x)) = some (l.map f)
  | [] => rfl
  | x :: l => by
    show (boolsD (l.map fun x => PyData.bool (f x))).map (f x :: ·) = _
    rw [boolsD_mp f l]
    rfl
theorem all_mp {α : Type} (f : α → Bool) (l : List α) : (l.map f).all id = l.all f := by rw [List.all_map]; rfl
theorem len_eq0 {α : Type} (p : α → Bool) (l : List α) : decide (((l.filter p).length : Int) = 0) = !(l.any p) := by
  rw [Bool.eq_iff_iff, decide_eq_true_eq, Bool.not_eq_true', List.any_eq_false]
  constructor
  · intro h x hx
    have z : l.filter p = [] := List.eq_nil_of_length_eq_zero (by omega)
    exact List.filter_eq_nil_iff.mp z x hx
  · intro h
    rw [List.filter_eq_nil_iff.mpr h]
    rfl
theorem len_pos {α : Type} (p : α → Bool) (l : List α) : decide (0 < ((l.filter p).length : Int)) = l.any p := by
  have h := len_eq0 p l
  have e : decide (0 < ((l.filter p).length : Int)) = !decide (((l.filter p).length : Int) = 0) := by
    rw [← decide_not, decide_eq_decide]
    omega
  rw [e, h, Bool.not_not]
/-- all, any: simp leaves them -/
def allB {α : Type} (f : α → Bool) (l : List α) : Bool := l.all f
def anyB {α : Type} (f : α → Bool) (l : List α) : Bool := l.any f
theorem allB_eq {α : Type} (f : α → Bool) (l : List α) : allB f l = l.all f := rfl
theorem anyB_eq {α : Type} (f : α → Bool) (l : List α) : anyB f l = l.any f := rfl
theorem all_of {α : Type} {f : α → Bool} {l : List α} {Q : R → Prop} (q : Q (.v (.bool (allB f l)))) : dB1 .all (R.nw (l.map fun x => .bool (f x))).d Q := by
  unfold dB1
  simp only [R.d, boolsD_mp, all_mp]
  exact q
theorem eq0_of {G : Gm} {env : En} {p : D → Bool} {l : List D} {Q : Bool → Prop} (q : Q (!anyB p l)) : dB1 .len (R.nw (l.filter p)).d fun x => wpE G (.int 0) env fun y => dCmp .Eq x.d y.d Q := by
  simp only [dB1, R.d, wpE, dCmp, dEq]
  rw [len_eq0]
  exact q
theorem gt0_of {G : Gm} {env : En} {p : D → Bool} {l : List D} {Q : Bool → Prop} (q : Q (anyB p l)) : dB1 .len (R.nw (l.filter p)).d fun x => wpE G (.int 0) env fun y => dCmp .Gt x.d y.d Q := by
  simp only [dB1, R.d, wpE, dCmp]
  rw [len_pos]
  exact q
/-- items that stand for others -/
theorem foldC_fmL {α : Type} {tst : En → (Bool → Prop) → Prop} {el : En → (R → Prop) → Prop} {tg : CT} {env : En} (f : α → D) (p : α → Bool) (g : α → D) : ∀ {l : List α} {acc : List D} {Q : List D → Prop},
    (∀ a ∈ l, ∀ (Qt : R → Prop) (Qf : Prop), (p a = true → Qt (.v (g a))) → (p a = false → Qf) → tgD tg (f a) env fun e => tst e fun b => if b = true then el e Qt else Qf) →
    acc.length + l.length ≤ sizeLine → Q (acc ++ (l.filter p).map g) → foldC tst el tg env (l.map f) acc Q
  | [], acc, Q, _, _, q => by
    rw [List.filter_nil, List.map_nil, List.append_nil] at q
    exact q
  | a :: l, acc, Q, h, z, q => by
    rw [List.length_cons] at z
    refine h a List.mem_cons_self _ _ (fun e => ?_) (fun e => ?_)
    · refine ⟨by omega, foldC_fmL f p g (fun x hx => h x (List.mem_cons_of_mem _ hx)) (by rw [List.length_append, List.length_singleton]; omega) ?_⟩
      rw [List.filter_cons, if_pos e, List.map_cons] at q
      rw [List.append_assoc]
      exact q
    · refine foldC_fmL f p g (fun x hx => h x (List.mem_cons_of_mem _ hx)) (by omega) ?_
      rw [List.filter_cons, if_neg (by rw [e]; decide)] at q
      exact q
theorem foldC_mapL {α : Type} {tst : En → (Bool → Prop) → Prop} {el : En → (R → Prop) → Prop} {tg : CT} {env : En} (f g : α → D) {l : List α} {Q : List D → Prop}
    (h : ∀ a ∈ l, ∀ (Qt : R → Prop) (Qf : Prop), Qt (.v (g a)) → tgD tg (f a) env fun e => tst e fun b => if b = true then el e Qt else Qf) (z : l.length ≤ sizeLine) (q : Q (l.map g)) : foldC tst el tg env (l.map f) [] Q := by
  refine foldC_fmL f (fun _ => true) g (fun a ha Qt Qf h1 _ => h a ha Qt Qf (h1 rfl)) (by simpa using z) ?_
  rw [List.nil_append, List.filter_eq_self.mpr fun _ _ => rfl]
  exact q
theorem foldC_selL {α : Type} {tst : En → (Bool → Prop) → Prop} {el : En → (R → Prop) → Prop} {tg : CT} {env : En} (f : α → D) (p : α → Bool) {l : List α} {Q : List D → Prop}
    (h : ∀ a ∈ l, ∀ (Qt : R → Prop) (Qf : Prop), (p a = true → Qt (.v (f a))) → (p a = false → Qf) → tgD tg (f a) env fun e => tst e fun b => if b = true then el e Qt else Qf) (z : l.length ≤ sizeLine) (q : Q ((l.filter p).map f)) : foldC tst el tg env (l.map f) [] Q := by
  refine foldC_fmL f p f h (by simpa using z) ?_
  rw [List.nil_append]
  exact q
theorem eq0_ofL {α : Type} {G : Gm} {env : En} {f : α → D} {p : α → Bool} {l : List α} {Q : Bool → Prop} (q : Q (!anyB p l)) : dB1 .len (R.nw ((l.filter p).map f)).d fun x => wpE G (.int 0) env fun y => dCmp .Eq x.d y.d Q := by
  simp only [dB1, R.d, wpE, dCmp, dEq, List.length_map]
  rw [len_eq0]
  exact q
def onI (F : Int → Bool) : D → Bool
  | .int i => F i
  | _ => false
theorem rngD_el {lo : Int} {n : Nat} {d : D} (h : d ∈ rngD lo n) : ∃ k : Nat, k < n ∧ d = .int (lo + (k : Int)) := by
  unfold rngD at h
  rw [List.mem_map] at h
  obtain ⟨k, h1, h2⟩ := h
  exact ⟨k, List.mem_range.mp h1, h2.symm⟩
theorem all_rng (F : Int → Bool) (lo : Int) (n : Nat) : allB (onI F) (rngD lo n) = (List.range n).all fun k => F (lo + (k : Int)) := by
  unfold allB rngD
  rw [List.all_map]
  rfl
theorem any_rng (F : Int → Bool) (lo : Int) (n : Nat) : anyB (onI F) (rngD lo n) = (List.range n).any fun k => F (lo + (k : Int)) := by
  unfold anyB rngD
  rw [List.any_map]
  rfl
theorem foldC_rng {tst : En → (Bool → Prop) → Prop} {el : En → (R → Prop) → Prop} {tg : CT} {env : En} {lo : Int} {n : Nat} {Q : List D → Prop} (F : Int → Bool)
    (h : ∀ k : Nat, k < n → ∀ (Qt : R → Prop) (Qf : Prop), Qt (.v (.bool (F (lo + (k : Int))))) → tgD tg (.int (lo + (k : Int))) env fun e => tst e fun b => if b = true then el e Qt else Qf) (l : n ≤ sizeLine) (q : Q ((rngD lo n).map fun d => .bool (onI F d))) : foldC tst el tg env (rngD lo n) [] Q :=
  foldC_map (fun d => .bool (onI F d)) (fun d hd Qt Qf q1 => by
    obtain ⟨k, hk, rfl⟩ := rngD_el hd
    exact h k hk Qt Qf q1) (by rw [rngD_length]; exact l) q
theorem foldC_rngS {tst : En → (Bool → Prop) → Prop} {el : En → (R → Prop) → Prop} {tg : CT} {env : En} {lo : Int} {n : Nat} {Q : List D → Prop} (F : Int → Bool)
    (h : ∀ k : Nat, k < n → ∀ (Qt : R → Prop) (Qf : Prop), (F (lo + (k : Int)) = true → Qt (.v (.int (lo + (k : Int))))) → (F (lo + (k : Int)) = false → Qf) → tgD tg (.int (lo + (k : Int))) env fun e => tst e fun b => if b = true then el e Qt else Qf) (l : n ≤ sizeLine) (q : Q ((rngD lo n).filter (onI F))) : foldC tst el tg env (rngD lo n) [] Q :=
  foldC_sel (onI F) (fun d hd Qt Qf q1 q2 => by
    obtain ⟨k, hk, rfl⟩ := rngD_el hd
    exact h k hk Qt Qf q1 q2) (by rw [rngD_length]; exact l) q
/-! ### ints -/
def isI : D → Bool
  | .int _ => true
  | _ => false
theorem isI_int {d : D} (h : isI d = true) : ∃ i, d = .int i := by
  cases d with
  | int i => exact ⟨i, rfl⟩
  | _ => cases h
theorem intsD_map : ∀ ns : List Int, intsD (ns.map .int) = some ns
  | [] => rfl
  | n :: ns => by
    show (intsD (ns.map .int)).map (n :: ·) = _
    rw [intsD_map ns]
    rfl
theorem ints_cases : ∀ ds : List D, (∃ ns : List Int, ds = ns.map .int) ∨ (ds.all isI = false ∧ intsD ds = none)
  | [] => .inl ⟨[], rfl⟩
  | d :: ds => by
    cases e : isI d with
    | false =>
      refine .inr ⟨by rw [List.all_cons, e]; rfl, ?_⟩
      cases d with
      | int i => cases e
      | _ => rfl
    | true =>
      obtain ⟨i, rfl⟩ := isI_int e
      rcases ints_cases ds with ⟨ns, rfl⟩ | ⟨h1, h2⟩
      · exact .inl ⟨i :: ns, rfl⟩
      · refine .inr ⟨by rw [List.all_cons, h1, Bool.and_false], ?_⟩
        show (intsD ds).map (i :: ·) = none
        rw [h2]
        rfl
theorem all_isI : ∀ ns : List Int, (ns.map PyData.int).all isI = true
  | [] => rfl
  | n :: ns => by
    rw [List.map_cons, List.all_cons, all_isI ns]
    rfl
theorem int_at {ns : List Int} {k : Nat} (h : k < ns.length) : atI (ns.map PyData.int) (k : Int) = some (.int (ns.getD k 0)) := by
  refine atI_nat ?_
  rw [List.getElem?_map, List.getElem?_eq_getElem h, List.getD_eq_getElem?_getD, List.getElem?_eq_getElem h]
  rfl
/-! ### ascending points -/
def rises (b : Int) (ns : List Int) : Bool := (List.range ns.length).all fun k => decide (0 ≤ ns.getD k 0) && (decide (ns.getD k 0 < b) && (decide (k = 0) || decide (ns.getD (k - 1) 0 < ns.getD k 0)))
def riseB (b : Int) : D → Bool
  | .tuple ds => (match intsD ds with | some ns => rises b ns | none => false)
  | _ => false
theorem rises_spec {b : Int} {ns : List Int} : rises b ns = true ↔ ∀ k, k < ns.length → 0 ≤ ns.getD k 0 ∧ ns.getD k 0 < b ∧ (k = 0 ∨ ns.getD (k - 1) 0 < ns.getD k 0) := by
  unfold rises
  simp only [List.all_eq_true, List.mem_range, Bool.and_eq_true, Bool.or_eq_true, decide_eq_true_eq]
theorem rises_prog (b : Int) (ns : List Int) : (((List.range (ns.length - 1)).all fun k => decide (ns.getD k 0 < ns.getD (k + 1) 0)) && (decide (ns.length = 0) || (decide (0 ≤ ns.getD 0 0) && decide (ns.getD (ns.length - 1) 0 < b)))) = rises b ns := by
  rw [Bool.eq_iff_iff, rises_spec]
  simp only [List.all_eq_true, List.mem_range, Bool.and_eq_true, Bool.or_eq_true, decide_eq_true_eq]
  constructor
  · rintro ⟨h1, h2⟩ k hk
    have up : ∀ j, k + j < ns.length → ns.getD k 0 ≤ ns.getD (k + j) 0 := fun j => by
      induction j with
      | zero => intro _; exact Int.le_refl _
      | succ j ih =>
        intro hj
        have := ih (by omega)
        have := h1 (k + j) (by omega)
        rw [show k + (j + 1) = k + j + 1 by omega]
        omega
    have dn : ∀ j, j ≤ k → ns.getD 0 0 ≤ ns.getD j 0 := fun j => by
      induction j with
      | zero => intro _; exact Int.le_refl _
      | succ j ih =>
        intro hj
        have := ih (by omega)
        have := h1 j (by omega)
        omega
    rcases h2 with h2 | ⟨h2, h3⟩
    · omega
    · have a1 := dn k (Nat.le_refl _)
      have a2 := up (ns.length - 1 - k) (by omega)
      rw [show k + (ns.length - 1 - k) = ns.length - 1 by omega] at a2
      refine ⟨by omega, by omega, ?_⟩
      cases k with
      | zero => exact .inl rfl
      | succ k => exact .inr (h1 k (by omega))
  · intro h
    refine ⟨fun k hk => ?_, ?_⟩
    · have := (h (k + 1) (by omega)).2.2
      rcases this with e | e
      · omega
      · exact e
    · by_cases e : ns.length = 0
      · exact .inl e
      · exact .inr ⟨(h 0 (by omega)).1, (h (ns.length - 1) (by omega)).2.1⟩
/-- what rises are points -/
theorem rises_nat {b : Nat} {ns : List Int} (h : rises b ns = true) : ∃ l : List Nat, ns = l.map (fun (k : Nat) => (k : Int)) ∧ (∀ k ∈ l, k < b) ∧ l.Pairwise (· < ·) := by
  rw [rises_spec] at h
  refine ⟨ns.map Int.toNat, ?_, fun k hk => ?_, ?_⟩
  · rw [List.map_map]
    refine List.ext_getElem (by rw [List.length_map]) fun i h1 h2 => ?_
    have := (h i h1).1
    rw [List.getD_eq_getElem?_getD, List.getElem?_eq_getElem h1] at this
    have t : 0 ≤ ns[i] := this
    rw [List.getElem_map]
    show ns[i] = ((ns[i].toNat : Nat) : Int)
    omega
  · obtain ⟨x, hx, rfl⟩ := List.mem_map.mp hk
    obtain ⟨i, hi, rfl⟩ := List.getElem_of_mem hx
    obtain ⟨t1, t2, _⟩ := h i hi
    rw [List.getD_eq_getElem?_getD, List.getElem?_eq_getElem hi] at t1 t2
    have t1' : 0 ≤ ns[i] := t1
    have t2' : ns[i] < (b : Int) := t2
    omega
  · have step : ∀ j i, i + j + 1 < ns.length → ns.getD i 0 < ns.getD (i + j + 1) 0 := fun j => by
      induction j with
      | zero =>
        intro i hi
        rcases (h (i + 1) hi).2.2 with e | e
        · omega
        · exact e
      | succ j ih =>
        intro i hi
        have a1 := ih i (by omega)
        rcases (h (i + j + 1 + 1) (by omega)).2.2 with e | e
        · omega
        · rw [Nat.add_sub_cancel] at e
          rw [show i + (j + 1) + 1 = i + j + 1 + 1 by omega]
          omega
    rw [List.pairwise_map, List.pairwise_iff_getElem]
    intro i j hi hj hij
    have a := step (j - i - 1) i (by omega)
    rw [show i + (j - i - 1) + 1 = j by omega] at a
    have b0 := (h i hi).1
    rw [List.getD_eq_getElem?_getD, List.getElem?_eq_getElem hi] at a b0
    rw [List.getD_eq_getElem?_getD, List.getElem?_eq_getElem hj] at a
    have a' : ns[i] < ns[j] := a
    have b' : 0 ≤ ns[i] := b0
    omega
theorem riseB_nat {b : Nat} {d : D} (h : riseB b d = true) : ∃ l : List Nat, d = .tuple (natD l) ∧ (∀ k ∈ l, k < b) ∧ l.Pairwise (· < ·) := by
  cases d with
  | tuple ds =>
    rcases ints_cases ds with ⟨ns, rfl⟩ | ⟨_, h2⟩
    · have e : riseB b (.tuple (ns.map .int)) = rises b ns := by
        show (match intsD (ns.map .int) with | some ns => rises b ns | none => false) = _
        rw [intsD_map]
      rw [e] at h
      obtain ⟨l, rfl, h1, h2⟩ := rises_nat h
      exact ⟨l, by unfold natD; rw [List.map_map]; rfl, h1, h2⟩
    · have e : riseB b (.tuple ds) = false := by
        show (match intsD ds with | some ns => rises b ns | none => false) = _
        rw [h2]
      rw [e] at h
      cases h
  | _ => cases h
/-! ### pairs, values, rooms -/
def pairB (n : Int) : D → Bool
  | .tuple [a, b] => riseB n (.tuple [a, b])
  | _ => false
/-- each is less than the next -/
def consec (f : D → D → Bool) (ds : List D) : Bool := (List.range (ds.length - 1)).all fun k => f (ds.getD k .none) (ds.getD (k + 1) .none)
def prsB (n : Int) : D → Bool
  | .tuple ds => ds.all (pairB n) && consec PySem.W.dataLt ds
  | _ => false
def two : D → Bool
  | .tuple [_, _] => true
  | _ => false
def valB (n : Int) : D → Bool
  | .tuple [w, t] => isWD w && riseB n t
  | _ => false
def fst1 : D → D
  | .tuple (w :: _) => w
  | _ => .none
def snd1 : D → D
  | .tuple (_ :: w :: _) => w
  | _ => .none
def strLt : D → D → Bool
  | .str a, .str b => decide (a.cps.toList < b.cps.toList)
  | _, _ => false
def valsB (n : Int) : D → Bool
  | .tuple ds => ds.all (valB n) && consec (fun x y => strLt (fst1 x) (fst1 y)) ds
  | _ => false
/-- pairs of points out of data -/
def natOf : D → Nat
  | .int i => i.toNat
  | _ => 0
def prOf (d : D) : Nat × Nat := (natOf (fst1 d), natOf (snd1 d))
def itemsT : D → List D
  | .tuple ds => ds
  | _ => []
def closedB (n : Nat) (ps : List (Nat × Nat)) (d : D) : Bool := decide (oppN (apart ps) n (oppN (apart ps) n ((itemsT (snd1 d)).map natOf)) = (itemsT (snd1 d)).map natOf)
def roomB : D → Bool
  | .tuple [.int n, a, b] => (decide (1 ≤ n) && decide (n ≤ 600)) && (prsB n a && (valsB n b && (itemsT b).all (closedB n.toNat ((itemsT a).map prOf))))
  | _ => false
theorem natOf_nat (l : List Nat) : (natD l).map natOf = l := by
  unfold natD
  rw [List.map_map]
  have e : (natOf ∘ fun (k : Nat) => PyData.int (k : Int)) = id := by
    funext k
    show ((k : Int)).toNat = k
    omega
  rw [e, List.map_id]
theorem prsB_nat {n : Nat} {d : D} (h : prsB n d = true) : d = .tuple (prsD ((itemsT d).map prOf)) ∧ ∀ p ∈ (itemsT d).map prOf, p.1 < n ∧ p.2 < n := by
  cases d with
  | tuple ds =>
    have h' : (ds.all (pairB n) && consec PySem.W.dataLt ds) = true := h
    rw [Bool.and_eq_true, List.all_eq_true] at h'
    have one : ∀ x ∈ ds, x = .tuple [.int ((prOf x).1 : Int), .int ((prOf x).2 : Int)] ∧ (prOf x).1 < n ∧ (prOf x).2 < n := fun x hx => by
      have q := h'.1 x hx
      cases x with
      | tuple es =>
        rcases es with _ | ⟨a, _ | ⟨b, _ | ⟨c, r⟩⟩⟩
        · cases q
        · cases q
        · obtain ⟨l, e, l1, l2⟩ := riseB_nat (d := .tuple [a, b]) q
          have e' : [a, b] = natD l := PyData.tuple.inj e
          rcases l with _ | ⟨i, _ | ⟨j, _ | ⟨k, l⟩⟩⟩
          · cases e'
          · cases e'
          · have e1 : a = .int (i : Int) := (List.cons.inj e').1
            have e2 : b = .int (j : Int) := (List.cons.inj (List.cons.inj e').2).1
            subst e1 e2
            have i1 : (prOf (.tuple [.int (i : Int), .int (j : Int)])).1 = i := by
              show ((i : Int)).toNat = i
              omega
            have i2 : (prOf (.tuple [.int (i : Int), .int (j : Int)])).2 = j := by
              show ((j : Int)).toNat = j
              omega
            rw [i1, i2]
            exact ⟨rfl, l1 i (by simp), l1 j (by simp)⟩
          · cases e'
        · cases q
      | _ => cases q
    refine ⟨?_, fun p hp => ?_⟩
    · show PyData.tuple ds = .tuple (prsD (ds.map prOf))
      congr 1
      unfold prsD
      rw [List.map_map]
      refine (List.ext_getElem (by rw [List.length_map]) fun i h1 h2 => ?_)
      rw [List.getElem_map]
      exact (one _ (List.getElem_mem h1)).1
    · obtain ⟨x, hx, rfl⟩ := List.mem_map.mp hp
      exact (one x hx).2
  | _ => cases h
theorem prsB_lt {n : Nat} {d : D} (h : prsB n d = true) : ∀ p ∈ (itemsT d).map prOf, p.1 < p.2 ∧ p.2 < n := by
  cases d with
  | tuple ds =>
    have h' : (ds.all (pairB n) && consec PySem.W.dataLt ds) = true := h
    rw [Bool.and_eq_true, List.all_eq_true] at h'
    intro p hp
    obtain ⟨x, hx, rfl⟩ := List.mem_map.mp hp
    have q := h'.1 x hx
    cases x with
    | tuple es =>
      rcases es with _ | ⟨a, _ | ⟨b, _ | ⟨c, r⟩⟩⟩
      · cases q
      · cases q
      · obtain ⟨l, e, l1, l2⟩ := riseB_nat (d := .tuple [a, b]) q
        have e' : [a, b] = natD l := PyData.tuple.inj e
        rcases l with _ | ⟨i, _ | ⟨j, _ | ⟨k, l⟩⟩⟩
        · cases e'
        · cases e'
        · have e1 : a = .int (i : Int) := (List.cons.inj e').1
          have e2 : b = .int (j : Int) := (List.cons.inj (List.cons.inj e').2).1
          subst e1 e2
          have i1 : (prOf (.tuple [.int (i : Int), .int (j : Int)])).1 = i := by
            show ((i : Int)).toNat = i
            omega
          have i2 : (prOf (.tuple [.int (i : Int), .int (j : Int)])).2 = j := by
            show ((j : Int)).toNat = j
            omega
          rw [i1, i2]
          refine ⟨?_, l1 j (by simp)⟩
          simpa using l2
        · cases e'
      · cases q
    | _ => cases q
  | _ => cases h
theorem valB_nat {n : Nat} {d : D} (h : valB n d = true) : ∃ (w : Str) (l : List Nat), d = .tuple [.str w, .tuple (natD l)] ∧ isW w = true ∧ (∀ k ∈ l, k < n) ∧ l.Pairwise (· < ·) := by
  cases d with
  | tuple es =>
    rcases es with _ | ⟨a, _ | ⟨b, _ | ⟨c, r⟩⟩⟩
    · cases h
    · cases h
    · have h' : (isWD a && riseB n b) = true := h
      rw [Bool.and_eq_true] at h'
      obtain ⟨l, rfl, h1, h2⟩ := riseB_nat h'.2
      cases a with
      | str w => exact ⟨w, l, rfl, h'.1, h1, h2⟩
      | _ => cases h'.1
    · cases h
  | _ => cases h
theorem up_len_go {n : Nat} : ∀ (l : List Nat) (lo : Nat), lo ≤ n → (∀ k ∈ l, lo ≤ k ∧ k < n) → l.Pairwise (· < ·) → l.length + lo ≤ n
  | [], lo, h, _, _ => by simpa using h
  | a :: l, lo, _, h2, h3 => by
    obtain ⟨a1, a2⟩ := h2 a List.mem_cons_self
    rw [List.pairwise_cons] at h3
    have := up_len_go l (a + 1) (by omega) (fun k hk => ⟨h3.1 k hk, (h2 k (List.mem_cons_of_mem _ hk)).2⟩) h3.2
    rw [List.length_cons]
    omega
theorem up_len {l : List Nat} {n : Nat} (h : ∀ k ∈ l, k < n) (u : l.Pairwise (· < ·)) : l.length ≤ n := up_len_go l 0 (Nat.zero_le _) (fun k hk => ⟨Nat.zero_le _, h k hk⟩) u
theorem anyB_not {α : Type} (f : α → Bool) (l : List α) : anyB (fun d => !f d) l = !allB f l := by
  unfold anyB allB
  rw [Bool.eq_iff_iff, List.any_eq_true, Bool.not_eq_true', List.all_eq_false]
  simp
theorem at_D {ds : List D} {k : Nat} (h : k < ds.length) : atI ds (k : Int) = some (ds.getD k .none) := by
  rw [atI_ix h, List.getD_eq_getElem?_getD, List.getElem?_eq_getElem h]
  rfl
theorem getD_mem {ds : List D} {k : Nat} (h : k < ds.length) : ds.getD k .none ∈ ds := by
  rw [List.getD_eq_getElem?_getD, List.getElem?_eq_getElem h]
  exact List.getElem_mem h
/-- neighbours, asked forwards -/
def fwd (g : D → D → Bool) (ds : List D) (i : Int) : Bool := g (ds.getD i.toNat .none) (ds.getD (i.toNat + 1) .none)
/-- .. and backwards -/
def bwd (g : D → D → Bool) (ds : List D) (i : Int) : Bool := !g (ds.getD (i.toNat - 1) .none) (ds.getD i.toNat .none)
theorem fwd_all (g : D → D → Bool) (ds : List D) : allB (onI (fwd g ds)) (rngD 0 (ds.length - 1)) = consec g ds := by
  rw [all_rng]
  unfold consec fwd
  congr 1
  funext k
  have e : ((0 : Int) + (k : Int)).toNat = k := by omega
  rw [e]
theorem bwd_any (g : D → D → Bool) (ds : List D) : anyB (onI (bwd g ds)) (rngD 1 (ds.length - 1)) = !consec g ds := by
  rw [any_rng]
  have e2 : (fun k : Nat => bwd g ds (1 + (k : Int))) = fun k => !g (ds.getD k .none) (ds.getD (k + 1) .none) := by
    funext k
    unfold bwd
    have e : ((1 : Int) + (k : Int)).toNat = k + 1 := by omega
    rw [e, Nat.add_sub_cancel]
  rw [e2]
  exact anyB_not _ _
theorem pairB_shape {n : Int} {d : D} (h : pairB n d = true) : ∃ i j : Int, d = .tuple [.int i, .int j] := by
  cases d with
  | tuple es =>
    rcases es with _ | ⟨a, _ | ⟨b, _ | ⟨c, r⟩⟩⟩
    · cases h
    · cases h
    · have h' : riseB n (.tuple [a, b]) = true := h
      rcases ints_cases [a, b] with ⟨ns, e⟩ | ⟨_, h2⟩
      · rcases ns with _ | ⟨i, _ | ⟨j, _ | ⟨k, ns⟩⟩⟩
        · cases e
        · cases e
        · have e1 : a = .int i := (List.cons.inj e).1
          have e2 : b = .int j := (List.cons.inj (List.cons.inj e).2).1
          exact ⟨i, j, by rw [e1, e2]⟩
        · cases e
      · have e : riseB n (.tuple [a, b]) = false := by
          show (match intsD [a, b] with | some ns => rises n ns | none => false) = _
          rw [h2]
        rw [e] at h'
        cases h'
    · cases h
  | _ => cases h
theorem pair_alike (i j k l : Int) : PySem.W.alike (.tuple [.int i, .int j]) (.tuple [.int k, .int l]) = true ∧ SeqAt.shaped (.tuple [.int i, .int j]) = true := by
  refine ⟨by simp [PySem.W.alike, PySem.W.alikeAll], ?_⟩
  unfold SeqAt.shaped
  simp [PyData.canLay0, PyData.canLayAll0, PyData.depth, PyData.depthAll]
theorem two_shape {d : D} (h : two d = true) : ∃ a b, d = .tuple [a, b] := by
  cases d with
  | tuple es =>
    rcases es with _ | ⟨a, _ | ⟨b, _ | ⟨c, r⟩⟩⟩
    · cases h
    · cases h
    · exact ⟨a, b, rfl⟩
    · cases h
  | _ => cases h
theorem valB_two {n : Int} {d : D} (h : valB n d = true) : two d = true := by
  cases d with
  | tuple es =>
    rcases es with _ | ⟨a, _ | ⟨b, _ | ⟨c, r⟩⟩⟩
    · cases h
    · cases h
    · rfl
    · cases h
  | _ => cases h
theorem valB_word {n : Int} {d : D} (h : valB n d = true) : ∃ w t, d = .tuple [.str w, t] := by
  cases d with
  | tuple es =>
    rcases es with _ | ⟨a, _ | ⟨b, _ | ⟨c, r⟩⟩⟩
    · cases h
    · cases h
    · have h' : (isWD a && riseB n b) = true := h
      rw [Bool.and_eq_true] at h'
      cases a with
      | str w => exact ⟨w, b, rfl⟩
      | _ => cases h'.1
    · cases h
  | _ => cases h
/-! ### promises -/
def spIsI : SpD := fun ds Q => ∃ d : D, ds = [d] ∧ tdD d = true ∧ Q (.v (.bool (isI d)))
def spRise : SpD := fun ds Q => ∃ (d : D) (b : Int), ds = [d, .int 0, .int b] ∧ tdD d = true ∧ Q (.v (.bool (riseB b d)))
def spLRise : SpD := fun ds Q => ∃ (d : D) (b : Int), ds = [d, .int b] ∧ tdD d = true ∧ Q (.v (.bool (riseB b d)))
def spPrs : SpD := fun ds Q => ∃ (d : D) (b : Int), ds = [d, .int b] ∧ tdD d = true ∧ Q (.v (.bool (prsB b d)))
def spVals : SpD := fun ds Q => ∃ (d : D) (b : Int), ds = [d, .int b] ∧ tdD d = true ∧ Q (.v (.bool (valsB b d)))
def spIsRoom : SpD := fun ds Q => ∃ d : D, ds = [d] ∧ tdD d = true ∧ Q (.v (.bool (roomB d)))
end DL

/-! PTS: the points of formulas. -/
namespace DL
open PySem L2
def ptsF (A : Nat → Nat → Bool) (n : Nat) (val : Str → Option (List Nat)) : Fm → List Nat
  | .all => List.range n
  | .none => []
  | .name s => (val s).getD []
  | .not a => oppN A n (ptsF A n val a)
  | .both a b => (ptsF A n val a).filter fun k => decide (k ∈ ptsF A n val b)
  | .either a b => oppN A n ((oppN A n (ptsF A n val a)).filter fun k => decide (k ∈ oppN A n (ptsF A n val b)))
def VOk (val : Str → Option (List Nat)) (n : Nat) : Prop := ∀ s l, val s = some l → l.length ≤ 600 ∧ ∀ k ∈ l, k < n
theorem ptsF_ok {A : Nat → Nat → Bool} {n : Nat} {val : Str → Option (List Nat)} (hn : n ≤ 600) (hv : VOk val n) : ∀ f : Fm, (ptsF A n val f).length ≤ 600 ∧ ∀ k ∈ ptsF A n val f, k < n
  | .all => ⟨by rw [ptsF, List.length_range]; exact hn, fun k hk => List.mem_range.mp hk⟩
  | .none => ⟨Nat.zero_le _, fun k hk => nomatch hk⟩
  | .name s => by
    rw [ptsF]
    cases e : val s with
    | none => exact ⟨Nat.zero_le _, fun k hk => nomatch hk⟩
    | some l => exact hv s l e
  | .not a => ⟨Nat.le_trans oppN_length hn, oppN_lt⟩
  | .both a b => by
    obtain ⟨h1, h2⟩ := ptsF_ok hn hv a
    exact ⟨Nat.le_trans (List.length_filter_le _ _) h1, fun k hk => h2 k (List.mem_filter.mp hk).1⟩
  | .either a b => ⟨Nat.le_trans oppN_length hn, oppN_lt⟩
/-! ### closed points -/
section
variable {A : Nat → Nat → Bool} {n : Nat} {val : Str → Option (List Nat)}
theorem inter_opp (P R : List Nat) : ((oppN A n P).filter fun k => decide (k ∈ oppN A n R)) = oppN A n (P ++ R) := by
  unfold oppN
  rw [List.filter_filter]
  refine List.filter_congr fun k hk => ?_
  rw [List.all_append, Bool.eq_iff_iff]
  simp only [Bool.and_eq_true, decide_eq_true_eq, List.mem_filter]
  exact ⟨fun h => ⟨h.2, h.1.2⟩, fun h => ⟨⟨hk, h.2⟩, h.1⟩⟩
theorem opp_all (irr : ∀ k, A k k = false) : oppN A n (List.range n) = [] := by
  unfold oppN
  refine List.filter_eq_nil_iff.mpr fun k hk q => ?_
  have := List.all_eq_true.mp q k hk
  rw [irr] at this
  cases this
theorem opp_nil : oppN A n [] = List.range n := by
  unfold oppN
  exact List.filter_eq_self.mpr fun _ _ => rfl
def Cl (A : Nat → Nat → Bool) (n : Nat) (X : List Nat) : Prop := oppN A n (oppN A n X) = X
theorem Cl.opp (sy : ∀ i j, A i j = A j i) {X : List Nat} (h : ∀ k ∈ X, k < n) : Cl A n (oppN A n X) := opp3 sy h
theorem Cl.inter (sy : ∀ i j, A i j = A j i) {X Y : List Nat} (hx : Cl A n X) (hy : Cl A n Y) : Cl A n (X.filter fun k => decide (k ∈ Y)) := by
  have e : (X.filter fun k => decide (k ∈ Y)) = oppN A n (oppN A n X ++ oppN A n Y) := by
    rw [← inter_opp, hx, hy]
  rw [e]
  exact Cl.opp sy fun k hk => (List.mem_append.mp hk).elim (oppN_lt k) (oppN_lt k)
def VCl (A : Nat → Nat → Bool) (n : Nat) (val : Str → Option (List Nat)) : Prop := ∀ s l, val s = some l → Cl A n l
theorem ptsF_cl (sy : ∀ i j, A i j = A j i) (irr : ∀ k, A k k = false) (hn : n ≤ 600) (hv : VOk val n) (hc : VCl A n val) : ∀ f : Fm, Cl A n (ptsF A n val f)
  | .all => by
    unfold Cl
    rw [ptsF, opp_all irr, opp_nil]
  | .none => by
    unfold Cl
    rw [ptsF, opp_nil, opp_all irr]
  | .name s => by
    rw [ptsF]
    cases e : val s with
    | none =>
      unfold Cl
      show oppN A n (oppN A n []) = []
      rw [opp_nil, opp_all irr]
    | some l => exact hc s l e
  | .not a => Cl.opp sy (ptsF_ok hn hv a).2
  | .both a b => Cl.inter sy (ptsF_cl sy irr hn hv hc a) (ptsF_cl sy irr hn hv hc b)
  | .either a b => by
    rw [ptsF]
    exact Cl.opp sy fun k hk => oppN_lt k (List.mem_filter.mp hk).1
theorem ptsF_push (sy : ∀ i j, A i j = A j i) (irr : ∀ k, A k k = false) (hn : n ≤ 600) (hv : VOk val n) (hc : VCl A n val) : ∀ f : Fm, ptsF A n val f.push = ptsF A n val f ∧ ptsF A n val f.opp = oppN A n (ptsF A n val f)
  | .all => ⟨rfl, by rw [Fm.opp, ptsF, ptsF, opp_all irr]⟩
  | .none => ⟨rfl, by rw [Fm.opp, ptsF, ptsF, opp_nil]⟩
  | .name s => ⟨rfl, rfl⟩
  | .not a => by
    obtain ⟨h1, h2⟩ := ptsF_push sy irr hn hv hc a
    refine ⟨by rw [Fm.push, h2, ptsF], ?_⟩
    rw [Fm.opp, h1, ptsF]
    exact (ptsF_cl sy irr hn hv hc a).symm
  | .both a b => by
    obtain ⟨h1, h2⟩ := ptsF_push sy irr hn hv hc a
    obtain ⟨h3, h4⟩ := ptsF_push sy irr hn hv hc b
    refine ⟨by rw [Fm.push, ptsF, ptsF, h1, h3], ?_⟩
    rw [Fm.opp, ptsF, ptsF, h2, h4]
    have c1 : oppN A n (oppN A n (ptsF A n val a)) = ptsF A n val a := ptsF_cl sy irr hn hv hc a
    have c2 : oppN A n (oppN A n (ptsF A n val b)) = ptsF A n val b := ptsF_cl sy irr hn hv hc b
    rw [c1, c2]
  | .either a b => by
    obtain ⟨h1, h2⟩ := ptsF_push sy irr hn hv hc a
    obtain ⟨h3, h4⟩ := ptsF_push sy irr hn hv hc b
    refine ⟨by rw [Fm.push, ptsF, ptsF, h1, h3], ?_⟩
    rw [Fm.opp, ptsF, ptsF, h2, h4]
    exact (Cl.inter sy (Cl.opp sy (ptsF_ok hn hv a).2) (Cl.opp sy (ptsF_ok hn hv b).2)).symm
end
theorem apart_irr {n : Nat} {ps : List (Nat × Nat)} (h : ∀ p ∈ ps, p.1 < p.2 ∧ p.2 < n) (k : Nat) : apart ps k k = false := by
  unfold apart
  rw [List.any_eq_false]
  intro p hp q
  have := h p hp
  simp at q
  omega
/-! ### the values of names -/
def valL (vs : List (Str × List Nat)) (s : Str) : Option (List Nat) := (vs.find? fun v => decide (v.1 = s)).map (·.2)
def kvD (vs : List (Str × List Nat)) : List (D × D) := vs.map fun v => (.str v.1, .tuple (natD v.2))
theorem kvD_pool (vs : List (Str × List Nat)) : isPool (kvD vs) = false := by
  cases vs with
  | nil => rfl
  | cons v vs => cases vs <;> rfl
theorem kvD_get (s : Str) : ∀ vs : List (Str × List Nat), getKV (kvD vs) (.str s) = (valL vs s).map fun l => .tuple (natD l)
  | [] => rfl
  | v :: vs => by
    have ih := kvD_get s vs
    unfold getKV valL kvD at ih ⊢
    rw [List.map_cons, List.find?_cons, List.find?_cons]
    have e : eqK (PyData.str v.1, PyData.tuple (natD v.2)).1 (.str s) = decide (v.1 = s) := rfl
    rw [e]
    by_cases h : v.1 = s
    · rw [decide_eq_true h]
      rfl
    · rw [decide_eq_false h]
      exact ih
theorem pairsD_val : ∀ vs : List (Str × List Nat), pairsD (valD vs) = some (kvD vs)
  | [] => rfl
  | v :: vs => by
    have ih := pairsD_val vs
    have e : pairsD (valD (v :: vs)) = if isK (.str v.1) = true then (pairsD (valD vs)).map ((PyData.str v.1, PyData.tuple (natD v.2)) :: ·) else none := rfl
    rw [e, if_pos (show isK (.str v.1) = true from rfl), ih]
    rfl
theorem merge_new : ∀ (vs : List (Str × List Nat)) (acc : List (D × D)), (vs.map Prod.fst).Nodup → (∀ v ∈ vs, ∀ kv ∈ acc, eqK kv.1 (.str v.1) = false) → mergeKV acc (kvD vs) = acc ++ kvD vs
  | [], acc, _, _ => by
    show acc = acc ++ []
    rw [List.append_nil]
  | v :: vs, acc, nd, h => by
    rw [List.map_cons, List.nodup_cons] at nd
    have e : putKV acc (.str v.1) (.tuple (natD v.2)) = acc ++ [(.str v.1, .tuple (natD v.2))] := by
      unfold putKV
      rw [if_neg]
      rw [Bool.not_eq_true, List.any_eq_false]
      intro kv hkv q
      rw [h v List.mem_cons_self kv hkv] at q
      cases q
    have e2 : mergeKV acc (kvD (v :: vs)) = mergeKV (putKV acc (.str v.1) (.tuple (natD v.2))) (kvD vs) := rfl
    rw [e2, e, merge_new vs _ nd.2, List.append_assoc]
    · rfl
    · intro u hu kv hkv
      rcases List.mem_append.mp hkv with hkv | hkv
      · exact h u (List.mem_cons_of_mem _ hu) kv hkv
      · rw [List.mem_singleton.mp hkv]
        show decide (v.1 = u.1) = false
        refine decide_eq_false fun z => nd.1 ?_
        rw [z]
        exact List.mem_map_of_mem hu
theorem merge_val {vs : List (Str × List Nat)} (nd : (vs.map Prod.fst).Nodup) : mergeKV [] (kvD vs) = kvD vs := merge_new vs [] nd fun _ _ _ h => nomatch h
/-! ### promises -/
def spPts (m : Nat) : SpD := fun ds Q => ∃ (A : Nat → Nat → Bool) (n : Nat) (vs : List (Str × List Nat)) (f : Fm), ds = [.list (tblD A n), .dict (kvD vs), f.d] ∧ f.dep < m ∧ n ≤ 600 ∧ VOk (valL vs) n ∧ Q (.nw (natD (ptsF A n (valL vs) f)))
/-- a room with values -/
def RmV (r : D) (n : Nat) (ps : List (Nat × Nat)) (vs : List (Str × List Nat)) : Prop := r = roomD n ps vs ∧ n ≤ 600 ∧ vs.length ≤ 100000 ∧ (∀ p ∈ ps, p.1 < p.2 ∧ p.2 < n) ∧ (vs.map Prod.fst).Nodup ∧ VOk (valL vs) n
def spPtsOf (m : Nat) : SpD := fun ds Q => ∃ (r : D) (n : Nat) (ps : List (Nat × Nat)) (vs : List (Str × List Nat)) (f : Fm), ds = [r, f.d] ∧ RmV r n ps vs ∧ f.dep < m ∧ Q (.nw (natD (ptsF (apart ps) n (valL vs) f)))
def spHolds (m : Nat) : SpD := fun ds Q => ∃ (r : D) (n : Nat) (ps : List (Nat × Nat)) (vs : List (Str × List Nat)) (f g : Fm), ds = [r, .tuple [f.d, g.d]] ∧ RmV r n ps vs ∧ f.dep < m ∧ g.dep < m ∧ Q (.v (.bool ((ptsF (apart ps) n (valL vs) f).all fun k => decide (k ∈ ptsF (apart ps) n (valL vs) g))))
theorem RmV.arg {r : D} {n : Nat} {ps : List (Nat × Nat)} {vs : List (Str × List Nat)} (h : RmV r n ps vs) : RmArg r n ps := ⟨_, _, h.1, .inr rfl, h.2.1, fun p hp => by have := h.2.2.2.1 p hp; omega⟩
theorem RoomOk.rmv {names : List Str} {most n : Nat} {ps : List (Nat × Nat)} {vs : List (Str × List Nat)} (h : RoomOk names most n ps vs) (hm : most ≤ 600) (hl : names.length ≤ 1000) (nd : names.Nodup) : RmV (roomD n ps vs) n ps vs ∧ VCl (apart ps) n (valL vs) := by
  have key : ∀ s l, valL vs s = some l → ∃ v ∈ vs, v.2 = l := fun s l e => by
    unfold valL at e
    rw [Option.map_eq_some_iff] at e
    obtain ⟨v, h1, h2⟩ := e
    exact ⟨v, List.mem_of_find?_eq_some h1, h2⟩
  refine ⟨⟨rfl, Nat.le_trans h.le hm, ?_, h.prs, h.nms.nodup nd, fun s l e => ?_⟩, fun s l e => ?_⟩
  · have := h.nms.length_le
    rw [List.length_map] at this
    omega
  · obtain ⟨v, hv, rfl⟩ := key s l e
    obtain ⟨some, _, e2⟩ := h.cl v hv
    rw [e2]
    exact ⟨Nat.le_trans oppN_length (Nat.le_trans h.le hm), oppN_lt⟩
  · obtain ⟨v, hv, rfl⟩ := key s l e
    obtain ⟨some, _, e2⟩ := h.cl v hv
    rw [e2]
    exact Cl.opp (apart_sy ps) oppN_lt
end DL

/-! BENT: places within data, put anew. -/
namespace DL
open PySem L2
theorem cut_take {ds : List D} {k : Nat} : cutD ds none (some (k : Int)) = ds.take k := by
  unfold cutD
  rw [HT.sIx_nat]
  show ((ds.drop 0).take (min k ds.length - 0)) = _
  rw [List.drop_zero, Nat.sub_zero, List.take_eq_take_iff]
  omega
theorem cut_drop {ds : List D} {k : Nat} : cutD ds (some (k : Int)) none = ds.drop k := by
  unfold cutD
  rw [HT.sIx_nat]
  show ((ds.drop (min k ds.length)).take (ds.length - min k ds.length)) = _
  rw [List.take_of_length_le (by rw [List.length_drop]; omega)]
  by_cases h : k ≤ ds.length
  · rw [Nat.min_eq_left h]
  · rw [Nat.min_eq_right (by omega), List.drop_length, List.drop_eq_nil_of_le (by omega)]
def getP : D → List Nat → Option D
  | d, [] => some d
  | .tuple ds, k :: p => (ds[k]?).bind fun x => getP x p
  | _, _ :: _ => none
def putP : D → List Nat → D → D
  | _, [], x => x
  | .tuple ds, k :: p, x => (match ds[k]? with | some d => .tuple (ds.set k (putP d p x)) | none => .tuple ds)
  | d, _ :: _, _ => d
theorem getP_cons {d x : D} {k : Nat} {p : List Nat} (h : getP d (k :: p) = some x) : ∃ ds y, d = .tuple ds ∧ ds[k]? = some y ∧ getP y p = some x := by
  cases d with
  | tuple ds =>
    have h' : (ds[k]?).bind (fun x => getP x p) = some x := h
    rw [Option.bind_eq_some_iff] at h'
    obtain ⟨y, h1, h2⟩ := h'
    exact ⟨ds, y, rfl, h1, h2⟩
  | _ => cases h
theorem getP_app : ∀ (p q : List Nat) (d : D), getP d (p ++ q) = (getP d p).bind fun x => getP x q
  | [], q, d => by cases d <;> rfl
  | k :: p, q, d => by
    cases d with
    | tuple ds =>
      show (ds[k]?).bind (fun x => getP x (p ++ q)) = ((ds[k]?).bind fun x => getP x p).bind fun x => getP x q
      cases ds[k]? with
      | none => rfl
      | some y => exact getP_app p q y
    | _ => rfl
mutual
def spotsL : D → List Nat → List (List Nat)
  | .tuple ds, pre => pre :: spotsLs ds 0 pre
  | _, pre => [pre]
def spotsLs : List D → Nat → List Nat → List (List Nat)
  | [], _, _ => []
  | d :: ds, k, pre => spotsL d (pre ++ [k]) ++ spotsLs ds (k + 1) pre
end
theorem spotsLs_take : ∀ (ds : List D) (j k : Nat) (pre : List Nat) (d : D), ds[j]? = some d → spotsLs (ds.take (j + 1)) k pre = spotsLs (ds.take j) k pre ++ spotsL d (pre ++ [k + j])
  | [], _, _, _, _, h => by simp at h
  | x :: ds, 0, k, pre, d, h => by
    have h' : x = d := Option.some.inj h
    subst h'
    simp [spotsLs]
  | x :: ds, j + 1, k, pre, d, h => by
    have ih := spotsLs_take ds j (k + 1) pre d (by simpa using h)
    rw [List.take_succ_cons, List.take_succ_cons, spotsLs, spotsLs, ih, List.append_assoc, show k + 1 + j = k + (j + 1) by omega]
theorem spotsLs_le : ∀ (ds : List D) (j k : Nat) (pre : List Nat), (spotsLs (ds.take j) k pre).length ≤ (spotsLs ds k pre).length
  | [], j, _, _ => by rw [List.take_nil]; exact Nat.le_refl _
  | x :: ds, 0, k, pre => Nat.zero_le _
  | x :: ds, j + 1, k, pre => by
    rw [List.take_succ_cons, spotsLs, spotsLs, List.length_append, List.length_append]
    exact Nat.add_le_add_left (spotsLs_le ds j (k + 1) pre) _
theorem spotsL_mem : ∀ (ds : List D) (k : Nat) (pre : List Nat) (d : D) (j : Nat), ds[j]? = some d → (spotsL d (pre ++ [k + j])).length ≤ (spotsLs ds k pre).length := fun ds k pre d j h => by
  have h1 := spotsLs_take ds j k pre d h
  have h2 := spotsLs_le ds (j + 1) k pre
  rw [h1, List.length_append] at h2
  omega
/-- paths as data -/
def pathsD (ps : List (List Nat)) : List D := ps.map fun p => .list (natD p)
def spSpots (m : Nat) : SpD := fun ds Q => ∃ (d : D) (pre : List Nat), ds = [d, .list (natD pre)] ∧ depD d < m ∧ tdD d = true ∧ pre.length + depD d ≤ 1000 ∧ (spotsL d pre).length ≤ 900000 ∧ Q (.nw (pathsD (spotsL d pre)))
def spSpot : SpD := fun ds Q => ∃ (d x : D) (p : List Nat), ds = [d, .list (natD p)] ∧ getP d p = some x ∧ Q (.v x)
def spPutP (m : Nat) : SpD := fun ds Q => ∃ (d x : D) (p : List Nat), ds = [d, .list (natD p), x] ∧ p.length < m ∧ tdD d = true ∧ (getP d p).isSome = true ∧ Q (.v (putP d p x))
end DL

/-! BENT2: what a spot may be bent to; bent papers. -/
namespace DL
open PySem L2
def bentL : D → List D
  | .tuple ds => [.tuple (ds.drop 1), .tuple (ds ++ cutD ds (some (-1)) none), .tuple ds.reverse, .list ds, .none, .tuple [], .tuple (ds ++ [.int 0]), .tuple [.str "name", .str "a"], .tuple [.str "not", .tuple ds], .tuple [.str "all"]]
  | .str s => [.str "all", .str "none", .str "name", .str "both", .str "either", .str "same", .str "chain", .str "turn", .str "meet", .str "join", .str "first", .str "one", .str "a", .str "b", .str "derived", .str "barred", .none]
  | .none => [.tuple [], .int 0, .bool false]
  | .int i => [.int (i + 1), .int (i - 1), .int (i + 0), .bool (decide (i = 1)), .none, .str (toString i), .int 7]
  | _ => []
/-- what may be bent: no lists, no dicts, no booleans; short -/
def bdD : D → Bool
  | .tuple ds => decide (ds.length ≤ 40000)
  | .str _ => true
  | .none => true
  | .int i => decide (i.natAbs.log2 < 1900)
  | _ => false
theorem cut_sub (ds : List D) (lo hi : Option Int) : (cutD ds lo hi).length ≤ ds.length ∧ ∀ d ∈ cutD ds lo hi, d ∈ ds := by
  unfold cutD
  refine ⟨?_, fun d hd => List.mem_of_mem_drop (List.mem_of_mem_take hd)⟩
  rw [List.length_take, List.length_drop]
  omega
theorem td_mk {ds : List D} (h1 : ds.length ≤ 100000) (h2 : ∀ d ∈ ds, tdD d = true) : tdD (.tuple ds) = true := by
  rw [tdD, Bool.and_eq_true, decide_eq_true_eq, tdDs_mem]
  exact ⟨h1, h2⟩
theorem td_mkL {ds : List D} (h1 : ds.length ≤ 100000) (h2 : ∀ d ∈ ds, tdD d = true) : tdD (.list ds) = true := by
  rw [tdD, Bool.and_eq_true, decide_eq_true_eq, tdDs_mem]
  exact ⟨h1, h2⟩
/-- texts of ints are short -/
theorem bent_td {d x : D} (ht : tdD d = true) (hb : bdD d = true) (hi : ∀ i, d = .int i → tdD (.str (toString i)) = true) (hx : x ∈ bentL d) : tdD x = true := by
  cases d with
  | tuple ds =>
    obtain ⟨h1, h2⟩ := td_tup ht
    have h3 : ds.length ≤ 40000 := by simpa [bdD] using hb
    obtain ⟨c1, c2⟩ := cut_sub ds (some (-1)) none
    have hs : ∀ s : Str, s.length ≤ 100000 → tdD (.str s) = true := fun s hs => by rw [tdD, decide_eq_true_eq]; exact hs
    simp only [bentL, List.mem_cons, List.not_mem_nil, or_false] at hx
    rcases hx with rfl | rfl | rfl | rfl | rfl | rfl | rfl | rfl | rfl | rfl
    · exact td_mk (by rw [List.length_drop]; omega) fun d hd => h2 d (List.mem_of_mem_drop hd)
    · exact td_mk (by rw [List.length_append]; omega) fun d hd => (List.mem_append.mp hd).elim (h2 d) fun q => h2 d (c2 d q)
    · exact td_mk (by rw [List.length_reverse]; omega) fun d hd => h2 d (List.mem_reverse.mp hd)
    · exact td_mkL (by omega) h2
    · rfl
    · exact td_mk (Nat.zero_le _) fun d hd => nomatch hd
    · exact td_mk (by rw [List.length_append, List.length_singleton]; omega) fun d hd => (List.mem_append.mp hd).elim (h2 d) fun q => by rw [List.mem_singleton.mp q]; rfl
    · decide +kernel
    · exact td_mk (by show 2 ≤ 100000; omega) fun d hd => by
        simp only [List.mem_cons, List.not_mem_nil, or_false] at hd
        rcases hd with rfl | rfl
        · decide +kernel
        · exact ht
    · decide +kernel
  | str s =>
    simp only [bentL, List.mem_cons, List.not_mem_nil, or_false] at hx
    rcases hx with rfl | rfl | rfl | rfl | rfl | rfl | rfl | rfl | rfl | rfl | rfl | rfl | rfl | rfl | rfl | rfl | rfl <;> decide +kernel
  | none =>
    simp only [bentL, List.mem_cons, List.not_mem_nil, or_false] at hx
    rcases hx with rfl | rfl | rfl <;> decide +kernel
  | int i =>
    simp only [bentL, List.mem_cons, List.not_mem_nil, or_false] at hx
    rcases hx with rfl | rfl | rfl | rfl | rfl | rfl | rfl <;> first | exact hi i rfl | rfl
  | _ => cases hb
theorem put_td : ∀ (p : List Nat) (d x : D), tdD d = true → tdD x = true → tdD (putP d p x) = true
  | [], d, x, _, hx => by
    have e : putP d [] x = x := by cases d <;> rfl
    rw [e]
    exact hx
  | k :: p, d, x, hd, hx => by
    cases d with
    | tuple ds =>
      obtain ⟨h1, h2⟩ := td_tup hd
      have e : putP (.tuple ds) (k :: p) x = (match ds[k]? with | some d => PyData.tuple (ds.set k (putP d p x)) | none => .tuple ds) := rfl
      rw [e]
      cases hz : ds[k]? with
      | none => exact hd
      | some z =>
        refine td_mk (by rw [List.length_set]; exact h1) fun y hy => ?_
        rcases List.mem_or_eq_of_mem_set hy with hy | rfl
        · exact h2 y hy
        · exact put_td p z x (h2 z (List.mem_of_getElem? hz)) hx
    | _ => exact hd
def oddL : List D := [.none, .bool true, .bool false, .int 0, .int 1, .int (-1), .str "", .str "derived", .tuple [], .list [], .dict [], .tuple [.int 0], .tuple [.bool true], .tuple [.tuple []], .list [.int 0, .int 1], .tuple [.int 0, .int 0], .tuple [.int 1, .int 0, .int 2], .tuple [.str "derived"], .tuple [.str "derived", .tuple []],
  .tuple [.str "barred", .tuple []], .tuple [.str "barred", .tuple [.int 1, .tuple [], .tuple []], .int 0], .tuple [.str "name", .str "a"], .tuple [.str "all"]]
theorem odd_td : ∀ d ∈ oddL, tdD d = true := by
  intro d hd
  have h : oddL.all tdD = true := by decide +kernel
  exact List.all_eq_true.mp h d hd
/-! ### promises -/
def spBentSpot : SpD := fun ds Q => ∃ d : D, ds = [poolD, d] ∧ bdD d = true ∧ ∀ x ∈ bentL d, Q (.v x)
def spOdd : SpD := fun ds Q => ds = [] ∧ Q (.nw oddL)
/-- bent papers: the paper itself, others near it, some with one spot bent -/
def NearB (paper : D) (ds : List D) (v : D) : Prop := v = paper ∨ v = .list ds ∨ v = .tuple (ds ++ [.int 0]) ∨ (∃ h, ds[0]? = some h ∧ v = .tuple [h]) ∨ v = .tuple ds.reverse ∨ v ∈ oddL ∨
  ∃ p y x, getP paper p = some y ∧ p ∈ spotsL paper [] ∧ x ∈ bentL y ∧ v = putP paper p x
def spBent (m : Nat) : SpD := fun ds Q => ∃ (es : List D) (many : Nat), ds = [poolD, .tuple es, .int (many : Int)] ∧ depDs es + 1 < m ∧ m ≤ 900 ∧ tdD (.tuple es) = true ∧ es ≠ [] ∧ es.length ≤ 40000 ∧ many ≤ 1000 ∧ (spotsL (.tuple es) []).length ≤ 900000 ∧
  (∀ p ∈ spotsL (.tuple es) [], ∃ y, getP (.tuple es) p = some y ∧ bdD y = true ∧ p.length < m) ∧ ∀ vals : List D, vals.length ≤ many + 30 → (∀ v ∈ vals, NearB (.tuple es) es v) → Q (.nw vals)
end DL

/-! BENT3: papers of tuples, texts, ints and None: their spots; formulas are such. -/
namespace DL
open PySem L2
mutual
def beD : D → Bool
  | .tuple ds => decide (ds.length ≤ 40000) && beDs ds
  | .str s => decide (s.length ≤ 100000)
  | .none => true
  | .int i => decide (i.natAbs.log2 < 1900)
  | .bool _ => false
  | .list _ => false
  | .dict _ => false
def beDs : List D → Bool
  | [] => true
  | d :: ds => beD d && beDs ds
end
theorem beDs_mem : ∀ {ds : List D}, beDs ds = true → ∀ d ∈ ds, beD d = true
  | [], _, d, h => nomatch h
  | x :: ds, h, d, hd => by
    rw [beDs, Bool.and_eq_true] at h
    rcases List.mem_cons.mp hd with rfl | hd
    · exact h.1
    · exact beDs_mem h.2 d hd
theorem be_bd {d : D} (h : beD d = true) : bdD d = true := by
  cases d with
  | tuple ds =>
    rw [beD, Bool.and_eq_true] at h
    exact h.1
  | int i => simpa [beD, bdD] using h
  | str s => rfl
  | none => rfl
  | _ => simp [beD] at h
mutual
theorem be_td : ∀ d : D, beD d = true → tdD d = true
  | .tuple ds, h => by
    rw [beD, Bool.and_eq_true, decide_eq_true_eq] at h
    rw [tdD, Bool.and_eq_true, decide_eq_true_eq]
    exact ⟨by omega, bes_td ds h.2⟩
  | .str s, h => by rw [beD] at h; rw [tdD]; exact h
  | .none, _ => by simp only [tdD]
  | .int i, _ => by simp only [tdD]
  | .bool _, h => by simp [beD] at h
  | .list _, h => by simp [beD] at h
  | .dict _, h => by simp [beD] at h
theorem bes_td : ∀ ds : List D, beDs ds = true → tdDs ds = true
  | [], _ => by simp only [tdDs]
  | d :: ds, h => by
    rw [beDs, Bool.and_eq_true] at h
    rw [tdDs, be_td d h.1, bes_td ds h.2]
    rfl
end
mutual
theorem spot_ok : ∀ (d : D) (pre : List Nat), beD d = true → ∀ p ∈ spotsL d pre, ∃ rel y, p = pre ++ rel ∧ getP d rel = some y ∧ beD y = true ∧ rel.length ≤ depD d
  | .tuple ds, pre, h, p, hp => by
    rw [spotsL] at hp
    rcases List.mem_cons.mp hp with rfl | hp
    · exact ⟨[], .tuple ds, by simp, rfl, h, Nat.zero_le _⟩
    · rw [beD, Bool.and_eq_true] at h
      obtain ⟨j, z, rel, y, h1, h2, h3, h4, h5⟩ := spots_ok ds 0 pre h.2 p hp
      refine ⟨j :: rel, y, ?_, ?_, h4, ?_⟩
      · rw [h2, Nat.zero_add]
        simp
      · show (ds[j]?).bind (fun x => getP x rel) = some y
        rw [h1]
        exact h3
      · rw [List.length_cons, depD]
        omega
  | .str s, pre, h, p, hp => ⟨[], .str s, by simpa [spotsL] using hp, rfl, h, Nat.zero_le _⟩
  | .none, pre, h, p, hp => ⟨[], .none, by simpa [spotsL] using hp, rfl, h, Nat.zero_le _⟩
  | .int i, pre, h, p, hp => ⟨[], .int i, by simpa [spotsL] using hp, rfl, h, Nat.zero_le _⟩
  | .bool _, _, h, _, _ => by simp [beD] at h
  | .list _, _, h, _, _ => by simp [beD] at h
  | .dict _, _, h, _, _ => by simp [beD] at h
theorem spots_ok : ∀ (ds : List D) (k : Nat) (pre : List Nat), beDs ds = true → ∀ p ∈ spotsLs ds k pre, ∃ j z rel y, ds[j]? = some z ∧ p = pre ++ [k + j] ++ rel ∧ getP z rel = some y ∧ beD y = true ∧ rel.length ≤ depDs ds
  | [], k, pre, _, p, hp => by simp [spotsLs] at hp
  | d :: ds, k, pre, h, p, hp => by
    rw [beDs, Bool.and_eq_true] at h
    rw [spotsLs, List.mem_append] at hp
    rcases hp with hp | hp
    · obtain ⟨rel, y, h1, h2, h3, h4⟩ := spot_ok d (pre ++ [k]) h.1 p hp
      exact ⟨0, d, rel, y, rfl, by rw [h1, Nat.add_zero], h2, h3, by rw [depDs]; omega⟩
    · obtain ⟨j, z, rel, y, h1, h2, h3, h4, h5⟩ := spots_ok ds (k + 1) pre h.2 p hp
      exact ⟨j + 1, z, rel, y, by simpa using h1, by rw [h2, show k + 1 + j = k + (j + 1) by omega], h3, h4, by rw [depDs]; omega⟩
end
/-- formulas -/
theorem fm_be : ∀ f : Fm, (∀ s ∈ f.nms, s.length ≤ 100000) → beD f.d = true
  | .all, _ => by decide +kernel
  | .none, _ => by decide +kernel
  | .name s, h => by
    have hs := h s (by simp [Fm.nms])
    have e : ("name" : Str).length ≤ 100000 := by decide +kernel
    simp [Fm.d, beD, beDs, hs, e]
  | .not a, h => by
    have e : ("not" : Str).length ≤ 100000 := by decide +kernel
    simp [Fm.d, beD, beDs, e, fm_be a h]
  | .both a b, h => by
    have e : ("both" : Str).length ≤ 100000 := by decide +kernel
    simp [Fm.d, beD, beDs, e, fm_be a fun s hs => h s (by simp [Fm.nms, hs]), fm_be b fun s hs => h s (by simp [Fm.nms, hs])]
  | .either a b, h => by
    have e : ("either" : Str).length ≤ 100000 := by decide +kernel
    simp [Fm.d, beD, beDs, e, fm_be a fun s hs => h s (by simp [Fm.nms, hs]), fm_be b fun s hs => h s (by simp [Fm.nms, hs])]
/-- how many spots a formula has -/
theorem fm_spots : ∀ (f : Fm) (pre : List Nat), (spotsL f.d pre).length + 3 ≤ 6 * 2 ^ f.dep
  | .all, pre => by simp [Fm.d, spotsL, spotsLs, Fm.dep]
  | .none, pre => by simp [Fm.d, spotsL, spotsLs, Fm.dep]
  | .name s, pre => by simp [Fm.d, spotsL, spotsLs, Fm.dep]
  | .not a, pre => by
    have h := fm_spots a (pre ++ [0 + 1])
    simp only [Fm.d, spotsL, spotsLs, Fm.dep, List.length_cons, List.length_append, List.length_nil, Nat.pow_succ]
    omega
  | .both a b, pre => by
    have h := fm_spots a (pre ++ [0 + 1])
    have h' := fm_spots b (pre ++ [0 + 1 + 1])
    have m1 : 2 ^ a.dep ≤ 2 ^ max a.dep b.dep := Nat.pow_le_pow_right (by decide) (Nat.le_max_left _ _)
    have m2 : 2 ^ b.dep ≤ 2 ^ max a.dep b.dep := Nat.pow_le_pow_right (by decide) (Nat.le_max_right _ _)
    simp only [Fm.d, spotsL, spotsLs, Fm.dep, List.length_cons, List.length_append, List.length_nil, Nat.pow_succ]
    omega
  | .either a b, pre => by
    have h := fm_spots a (pre ++ [0 + 1])
    have h' := fm_spots b (pre ++ [0 + 1 + 1])
    have m1 : 2 ^ a.dep ≤ 2 ^ max a.dep b.dep := Nat.pow_le_pow_right (by decide) (Nat.le_max_left _ _)
    have m2 : 2 ^ b.dep ≤ 2 ^ max a.dep b.dep := Nat.pow_le_pow_right (by decide) (Nat.le_max_right _ _)
    simp only [Fm.d, spotsL, spotsLs, Fm.dep, List.length_cons, List.length_append, List.length_nil, Nat.pow_succ]
    omega
end DL

/-! BENT4: how large a bent paper may be. -/
namespace DL
open PySem L2
theorem weightAll_set : ∀ {ds : List D} {k : Nat} {d : D} (z : D), ds[k]? = some d → PyData.weightAll (ds.set k z) + PyData.weight d = PyData.weightAll ds + PyData.weight z
  | [], _, _, _, h => by simp at h
  | x :: ds, 0, d, z, h => by
    have e : x = d := Option.some.inj h
    subst e
    rw [List.set_cons_zero, PyData.weightAll, PyData.weightAll]
    omega
  | x :: ds, k + 1, d, z, h => by
    have ih := weightAll_set (ds := ds) (k := k) (d := d) z (by simpa using h)
    rw [List.set_cons_succ, PyData.weightAll, PyData.weightAll]
    omega
theorem put_weight : ∀ (p : List Nat) (d x : D), (putP d p x).weight ≤ d.weight + x.weight
  | [], d, x => by
    have e : putP d [] x = x := by cases d <;> rfl
    rw [e]
    omega
  | k :: p, d, x => by
    cases d with
    | tuple ds =>
      have e : putP (.tuple ds) (k :: p) x = (match ds[k]? with | some d => PyData.tuple (ds.set k (putP d p x)) | none => .tuple ds) := rfl
      rw [e]
      cases hz : ds[k]? with
      | none => exact Nat.le_add_right _ _
      | some z =>
        have ih := put_weight p z x
        have w := weightAll_set (putP z p x) hz
        show PyData.weight (.tuple (ds.set k (putP z p x))) ≤ _
        rw [PyData.weight, PyData.weight]
        omega
    | _ => exact Nat.le_add_right _ _
theorem depthAll_set : ∀ (ds : List D) (k : Nat) (z : D), PyData.depthAll (ds.set k z) ≤ max (PyData.depthAll ds) (PyData.depth z)
  | [], _, _ => by simp [PyData.depthAll]
  | x :: ds, 0, z => by
    rw [List.set_cons_zero, PyData.depthAll, PyData.depthAll]
    omega
  | x :: ds, k + 1, z => by
    have ih := depthAll_set ds k z
    rw [List.set_cons_succ, PyData.depthAll, PyData.depthAll]
    omega
theorem depthAll_get : ∀ {ds : List D} {k : Nat} {d : D}, ds[k]? = some d → PyData.depth d ≤ PyData.depthAll ds
  | [], _, _, h => by simp at h
  | x :: ds, 0, d, h => by
    have e : x = d := Option.some.inj h
    subst e
    rw [PyData.depthAll]
    exact Nat.le_max_left _ _
  | x :: ds, k + 1, d, h => by
    have ih := depthAll_get (ds := ds) (k := k) (d := d) (by simpa using h)
    rw [PyData.depthAll]
    omega
theorem put_depth : ∀ (p : List Nat) (d x : D), (putP d p x).depth ≤ max d.depth (p.length + x.depth)
  | [], d, x => by
    have e : putP d [] x = x := by cases d <;> rfl
    rw [e, List.length_nil]
    omega
  | k :: p, d, x => by
    cases d with
    | tuple ds =>
      have e : putP (.tuple ds) (k :: p) x = (match ds[k]? with | some d => PyData.tuple (ds.set k (putP d p x)) | none => .tuple ds) := rfl
      rw [e]
      cases hz : ds[k]? with
      | none => exact Nat.le_max_left _ _
      | some z =>
        have ih := put_depth p z x
        have w := depthAll_set ds k (putP z p x)
        have g := depthAll_get hz
        show PyData.depth (.tuple (ds.set k (putP z p x))) ≤ _
        rw [PyData.depth, PyData.depth, List.length_cons]
        omega
    | _ => exact Nat.le_max_left _ _
theorem canLayAll_mem : ∀ {ds : List D}, PyData.canLayAll0 ds = true ↔ ∀ d ∈ ds, PyData.canLay0 d = true
  | [] => ⟨fun _ d h => (nomatch h), fun _ => by simp only [PyData.canLayAll0]⟩
  | d :: ds => by
    rw [PyData.canLayAll0, Bool.and_eq_true, canLayAll_mem]
    simp
theorem put_lay : ∀ (p : List Nat) (d x : D), d.canLay0 = true → x.canLay0 = true → (putP d p x).canLay0 = true
  | [], d, x, _, hx => by
    have e : putP d [] x = x := by cases d <;> rfl
    rw [e]
    exact hx
  | k :: p, d, x, hd, hx => by
    cases d with
    | tuple ds =>
      have e : putP (.tuple ds) (k :: p) x = (match ds[k]? with | some d => PyData.tuple (ds.set k (putP d p x)) | none => .tuple ds) := rfl
      rw [e]
      cases hz : ds[k]? with
      | none => exact hd
      | some z =>
        rw [PyData.canLay0, canLayAll_mem] at hd
        show PyData.canLay0 (.tuple (ds.set k (putP z p x))) = true
        rw [PyData.canLay0, canLayAll_mem]
        intro y hy
        rcases List.mem_or_eq_of_mem_set hy with hy | rfl
        · exact hd y hy
        · exact put_lay p z x (hd z (List.mem_of_getElem? hz)) hx
    | _ => exact hd
theorem intsAll_mem {B : Nat} : ∀ {ds : List D}, PyData.intsShortAll B ds = true ↔ ∀ d ∈ ds, PyData.intsShort B d = true
  | [] => ⟨fun _ d h => (nomatch h), fun _ => by simp only [PyData.intsShortAll]⟩
  | d :: ds => by
    rw [PyData.intsShortAll, Bool.and_eq_true, intsAll_mem]
    simp
theorem put_ints {B : Nat} : ∀ (p : List Nat) (d x : D), d.intsShort B = true → x.intsShort B = true → (putP d p x).intsShort B = true
  | [], d, x, _, hx => by
    have e : putP d [] x = x := by cases d <;> rfl
    rw [e]
    exact hx
  | k :: p, d, x, hd, hx => by
    cases d with
    | tuple ds =>
      have e : putP (.tuple ds) (k :: p) x = (match ds[k]? with | some d => PyData.tuple (ds.set k (putP d p x)) | none => .tuple ds) := rfl
      rw [e]
      cases hz : ds[k]? with
      | none => exact hd
      | some z =>
        rw [PyData.intsShort, intsAll_mem] at hd
        show PyData.intsShort B (.tuple (ds.set k (putP z p x))) = true
        rw [PyData.intsShort, intsAll_mem]
        intro y hy
        rcases List.mem_or_eq_of_mem_set hy with hy | rfl
        · exact hd y hy
        · exact put_ints p z x (hd z (List.mem_of_getElem? hz)) hx
    | _ => exact hd
theorem showAll_mem : ∀ {ds : List D}, PyData.showableAll ds = true ↔ ∀ d ∈ ds, PyData.showable d = true
  | [] => ⟨fun _ d h => (nomatch h), fun _ => by simp only [PyData.showableAll]⟩
  | d :: ds => by
    rw [PyData.showableAll, Bool.and_eq_true, showAll_mem]
    simp
theorem put_show : ∀ (p : List Nat) (d x : D), d.showable = true → x.showable = true → (putP d p x).showable = true
  | [], d, x, _, hx => by
    have e : putP d [] x = x := by cases d <;> rfl
    rw [e]
    exact hx
  | k :: p, d, x, hd, hx => by
    cases d with
    | tuple ds =>
      have e : putP (.tuple ds) (k :: p) x = (match ds[k]? with | some d => PyData.tuple (ds.set k (putP d p x)) | none => .tuple ds) := rfl
      rw [e]
      cases hz : ds[k]? with
      | none => exact hd
      | some z =>
        rw [PyData.showable, showAll_mem] at hd
        show PyData.showable (.tuple (ds.set k (putP z p x))) = true
        rw [PyData.showable, showAll_mem]
        intro y hy
        rcases List.mem_or_eq_of_mem_set hy with hy | rfl
        · exact hd y hy
        · exact put_show p z x (hd z (List.mem_of_getElem? hz)) hx
    | _ => exact hd
/-- what is small may be shown -/
theorem rpr_small {d : D} (h1 : d.canLay0 = true) (h2 : d.depth ≤ 64) (h3 : d.weight ≤ 1048576) (h4 : d.intsShort 13 = true) (h5 : d.showable = true) : RprOk d := by
  refine .inl ⟨h1, h5, ?_, h2⟩
  have l : PyData.layable0 d = true := by
    unfold PyData.layable0
    rw [h1, decide_eq_true h2, decide_eq_true (show d.weight ≤ 2 ^ 20 by omega)]
    rfl
  have := PyProof.Rows.shown_le13 l h4
  have := sizeLine_eq
  omega
end DL

/-! BENT5: what a spot is bent to is small. -/
namespace DL
open PySem L2
theorem weightAll_app : ∀ (a b : List D), PyData.weightAll (a ++ b) = PyData.weightAll a + PyData.weightAll b
  | [], b => by rw [List.nil_append, PyData.weightAll, Nat.zero_add]
  | x :: a, b => by
    rw [List.cons_append, PyData.weightAll, PyData.weightAll, weightAll_app a b]
    omega
theorem weightAll_drop (k : Nat) (ds : List D) : PyData.weightAll (ds.drop k) ≤ PyData.weightAll ds := by
  have h := weightAll_app (ds.take k) (ds.drop k)
  rw [List.take_append_drop] at h
  omega
theorem weightAll_take (k : Nat) (ds : List D) : PyData.weightAll (ds.take k) ≤ PyData.weightAll ds := by
  have h := weightAll_app (ds.take k) (ds.drop k)
  rw [List.take_append_drop] at h
  omega
theorem weightAll_rev : ∀ ds : List D, PyData.weightAll ds.reverse = PyData.weightAll ds
  | [] => rfl
  | x :: ds => by
    rw [List.reverse_cons, weightAll_app, weightAll_rev ds, PyData.weightAll, PyData.weightAll, PyData.weightAll]
    omega
theorem depthAll_le {n : Nat} : ∀ {ds : List D}, PyData.depthAll ds ≤ n ↔ ∀ d ∈ ds, PyData.depth d ≤ n
  | [] => ⟨fun _ d h => (nomatch h), fun _ => by simp only [PyData.depthAll]; omega⟩
  | x :: ds => by
    have ih := depthAll_le (n := n) (ds := ds)
    rw [PyData.depthAll, Nat.max_le, ih]
    simp
structure Small (d : D) (dp w : Nat) : Prop where
  lay : d.canLay0 = true
  dep : d.depth ≤ dp
  wt : d.weight ≤ w
  shortI : d.intsShort 13 = true
  show_ : d.showable = true
theorem Small.tup {ds : List D} {dp w : Nat} (h : ∀ d ∈ ds, d.canLay0 = true ∧ d.depth ≤ dp ∧ d.intsShort 13 = true ∧ d.showable = true) (hw : PyData.weightAll ds ≤ w) : Small (.tuple ds) (dp + 1) w ∧ Small (.list ds) (dp + 1) w := by
  have e1 : PyData.canLayAll0 ds = true := canLayAll_mem.mpr fun d hd => (h d hd).1
  have e2 : PyData.depthAll ds ≤ dp := depthAll_le.mpr fun d hd => (h d hd).2.1
  have e3 : PyData.intsShortAll 13 ds = true := intsAll_mem.mpr fun d hd => (h d hd).2.2.1
  have e4 : PyData.showableAll ds = true := showAll_mem.mpr fun d hd => (h d hd).2.2.2
  refine ⟨⟨by rw [PyData.canLay0]; exact e1, by rw [PyData.depth]; omega, by rw [PyData.weight]; exact hw, by rw [PyData.intsShort]; exact e3, by rw [PyData.showable]; exact e4⟩,
    ⟨by rw [PyData.canLay0]; exact e1, by rw [PyData.depth]; omega, by rw [PyData.weight]; exact hw, by rw [PyData.intsShort]; exact e3, by rw [PyData.showable]; exact e4⟩⟩
theorem Small.items {ds : List D} {dp w : Nat} (h : Small (.tuple ds) dp w) : ∀ d ∈ ds, d.canLay0 = true ∧ d.depth ≤ dp - 1 ∧ d.intsShort 13 = true ∧ d.showable = true := by
  obtain ⟨h1, h2, h3, h4, h5⟩ := h
  rw [PyData.canLay0, canLayAll_mem] at h1
  rw [PyData.depth] at h2
  rw [PyData.intsShort, intsAll_mem] at h4
  rw [PyData.showable, showAll_mem] at h5
  have h2' := depthAll_le.mp (show PyData.depthAll ds ≤ dp - 1 by omega)
  exact fun d hd => ⟨h1 d hd, h2' d hd, h4 d hd, h5 d hd⟩
theorem Small.rpr {d : D} {dp w : Nat} (h : Small d dp w) (h1 : dp ≤ 64) (h2 : w ≤ 1048576) : RprOk d := rpr_small h.lay (Nat.le_trans h.dep h1) (Nat.le_trans h.wt h2) h.shortI h.show_
theorem Small.put {p : List Nat} {d x : D} {dp w dx wx : Nat} (h : Small d dp w) (hx : Small x dx wx) : Small (putP d p x) (max dp (p.length + dx)) (w + wx) where
  lay := put_lay p d x h.lay hx.lay
  dep := by have := put_depth p d x; have := h.dep; have := hx.dep; omega
  wt := by have := put_weight p d x; have := h.wt; have := hx.wt; omega
  shortI := put_ints p d x h.shortI hx.shortI
  show_ := put_show p d x h.show_ hx.show_
end DL

/-! BENT6: bent values and odd values are small. -/
namespace DL
open PySem L2
theorem Small.mono {d : D} {a b w v : Nat} (h : Small d a w) (h1 : a ≤ b) (h2 : w ≤ v) : Small d b v := ⟨h.lay, Nat.le_trans h.dep h1, Nat.le_trans h.wt h2, h.shortI, h.show_⟩
def smallB (a w : Nat) (d : D) : Bool := d.canLay0 && decide (d.depth ≤ a) && decide (d.weight ≤ w) && d.intsShort 13 && d.showable
theorem small_b {a w : Nat} {d : D} (h : smallB a w d = true) : Small d a w := by
  simp only [smallB, Bool.and_eq_true, decide_eq_true_eq] at h
  exact ⟨h.1.1.1.1, h.1.1.1.2, h.1.1.2, h.1.2, h.2⟩
theorem bent_small {y x : D} {a w : Nat} (hy : Small y (a + 1) w) (hb : bdD y = true) (hi : ∀ i, y ≠ .int i) (hx : x ∈ bentL y) : Small x (a + 3) (2 * w + 60) := by
  cases y with
  | tuple ds =>
    have hs : ∀ d ∈ ds, d.canLay0 = true ∧ d.depth ≤ a ∧ d.intsShort 13 = true ∧ d.showable = true := hy.items
    have hw : PyData.weightAll ds ≤ w := by have := hy.wt; rwa [PyData.weight] at this
    obtain ⟨c1, c2⟩ := cut_sub ds (some (-1)) none
    have cw : PyData.weightAll (cutD ds (some (-1)) none) ≤ PyData.weightAll ds := by
      unfold cutD
      exact Nat.le_trans (weightAll_take _ _) (weightAll_drop _ _)
    have m : ∀ {z : D}, Small z (a + 1) (2 * w + 60) → Small z (a + 3) (2 * w + 60) := fun h => h.mono (by omega) (Nat.le_refl _)
    simp only [bentL, List.mem_cons, List.not_mem_nil, or_false] at hx
    rcases hx with rfl | rfl | rfl | rfl | rfl | rfl | rfl | rfl | rfl | rfl
    · exact m (Small.tup (dp := a) (w := 2 * w + 60) (fun d hd => hs d (List.mem_of_mem_drop hd)) (by have := weightAll_drop 1 ds; omega)).1
    · exact m (Small.tup (dp := a) (w := 2 * w + 60) (fun d hd => (List.mem_append.mp hd).elim (hs d) fun q => hs d (c2 d q)) (by rw [weightAll_app]; omega)).1
    · exact m (Small.tup (dp := a) (w := 2 * w + 60) (fun d hd => hs d (List.mem_reverse.mp hd)) (by rw [weightAll_rev]; omega)).1
    · exact m (Small.tup (dp := a) (w := 2 * w + 60) hs (by omega)).2
    · exact (small_b (a := 2) (w := 60) (by decide +kernel)).mono (by omega) (by omega)
    · exact (small_b (a := 2) (w := 60) (by decide +kernel)).mono (by omega) (by omega)
    · refine Small.mono (a := a + 1 + 1) (w := 2 * w + 60) (Small.tup (ds := ds ++ [.int 0]) (dp := a + 1) (w := 2 * w + 60) (fun d hd => (List.mem_append.mp hd).elim (fun q => ?_) fun q => ?_) ?_).1 (by omega) (Nat.le_refl _)
      · obtain ⟨q1, q2, q3, q4⟩ := hs d q
        exact ⟨q1, by omega, q3, q4⟩
      · rw [List.mem_singleton.mp q]
        obtain ⟨q1, q2, q3, q4, q5⟩ := small_b (a := 1) (w := 60) (d := .int 0) (by decide +kernel)
        exact ⟨q1, by omega, q4, q5⟩
      · rw [weightAll_app]
        have e : PyData.weightAll [PyData.int 0] ≤ 60 := by decide +kernel
        omega
    · exact (small_b (a := 2) (w := 60) (by decide +kernel)).mono (by omega) (by omega)
    · refine Small.mono (a := a + 2 + 1) (w := 2 * w + 60) (Small.tup (ds := [.str "not", .tuple ds]) (dp := a + 2) (w := 2 * w + 60) (fun d hd => ?_) ?_).1 (by omega) (Nat.le_refl _)
      · simp only [List.mem_cons, List.not_mem_nil, or_false] at hd
        rcases hd with rfl | rfl
        · obtain ⟨q1, q2, q3, q4, q5⟩ := small_b (a := 1) (w := 60) (d := .str "not") (by decide +kernel)
          exact ⟨q1, by omega, q4, q5⟩
        · exact ⟨hy.lay, by have := hy.dep; omega, hy.shortI, hy.show_⟩
      · have h9 := hy.wt
        have e : PyData.weight (.str "not") ≤ 20 := by decide +kernel
        simp only [PyData.weightAll] at *
        omega
    · exact (small_b (a := 2) (w := 60) (by decide +kernel)).mono (by omega) (by omega)
  | str s =>
    simp only [bentL, List.mem_cons, List.not_mem_nil, or_false] at hx
    rcases hx with rfl | rfl | rfl | rfl | rfl | rfl | rfl | rfl | rfl | rfl | rfl | rfl | rfl | rfl | rfl | rfl | rfl <;>
      exact (small_b (a := 2) (w := 60) (by decide +kernel)).mono (by omega) (by omega)
  | none =>
    simp only [bentL, List.mem_cons, List.not_mem_nil, or_false] at hx
    rcases hx with rfl | rfl | rfl <;> exact (small_b (a := 2) (w := 60) (by decide +kernel)).mono (by omega) (by omega)
  | int i => exact absurd rfl (hi i)
  | _ => cases hb
end DL

/-! BENT7: odd values and papers near a small one are small. -/
namespace DL
open PySem L2
theorem odd_small {d : D} (h : d ∈ oddL) : d = .dict [] ∨ Small d 3 60 := by
  have e : oddL.all (fun d => (match d with | .dict [] => true | _ => false) || smallB 3 60 d) = true := by decide +kernel
  have h1 := List.all_eq_true.mp e d h
  rw [Bool.or_eq_true] at h1
  rcases h1 with h1 | h1
  · refine Or.inl ?_
    cases d with
    | dict l =>
      cases l with
      | nil => rfl
      | cons a b => cases h1
    | _ => cases h1
  · exact Or.inr (small_b h1)
end DL

/-! BENT8: a spot of a small value is small; papers near a small one can be shown. -/
namespace DL
open PySem L2
theorem weight_mem {d : D} : ∀ {ds : List D}, d ∈ ds → PyData.weight d + 1 ≤ PyData.weightAll ds
  | [], h => nomatch h
  | x :: ds, h => by
    rw [PyData.weightAll]
    rcases List.mem_cons.mp h with rfl | h
    · omega
    · have := weight_mem h
      omega
theorem get_small : ∀ (p : List Nat) {d y : D} {a w : Nat}, getP d p = some y → Small d a w → Small y a w
  | [], d, y, a, w, h, hs => by
    have e : getP d [] = some d := by cases d <;> rfl
    rw [e] at h
    cases h
    exact hs
  | k :: p, d, y, a, w, h, hs => by
    obtain ⟨ds, z, rfl, h1, h2⟩ := getP_cons h
    have hm : z ∈ ds := List.mem_of_getElem? h1
    obtain ⟨q1, q2, q3, q4⟩ := hs.items z hm
    have hw := hs.wt
    rw [PyData.weight] at hw
    have := weight_mem hm
    exact get_small p h2 ⟨q1, by omega, by omega, q3, q4⟩
theorem near_rpr {es : List D} {v : D} (hs : Small (.tuple es) 12 100000) (hp : ∀ p ∈ spotsL (.tuple es) [], ∀ y, getP (.tuple es) p = some y → bdD y = true ∧ p.length ≤ 12 ∧ ∀ i, y ≠ .int i) (h : NearB (.tuple es) es v) : RprOk v := by
  have hi : ∀ d ∈ es, d.canLay0 = true ∧ d.depth ≤ 11 ∧ d.intsShort 13 = true ∧ d.showable = true := hs.items
  have hw : PyData.weightAll es ≤ 100000 := by have := hs.wt; rwa [PyData.weight] at this
  have fin : ∀ {x : D}, Small x 12 100000 → RprOk x := fun q => q.rpr (by omega) (by omega)
  rcases h with rfl | rfl | rfl | ⟨h1, hh, rfl⟩ | rfl | h | ⟨p, y, x, h1, h2, h3, rfl⟩
  · exact fin hs
  · exact fin (Small.tup (dp := 11) hi hw).2
  · refine Small.rpr (dp := 13) (w := 100100) (Small.tup (ds := es ++ [.int 0]) (dp := 12) (w := 100100) (fun d hd => (List.mem_append.mp hd).elim (fun q => ?_) fun q => ?_) ?_).1 (by omega) (by omega)
    · obtain ⟨q1, q2, q3, q4⟩ := hi d q
      exact ⟨q1, by omega, q3, q4⟩
    · rw [List.mem_singleton.mp q]
      obtain ⟨q1, q2, q3, q4, q5⟩ := small_b (a := 1) (w := 60) (d := .int 0) (by decide +kernel)
      exact ⟨q1, by omega, q4, q5⟩
    · rw [weightAll_app]
      have e : PyData.weightAll [PyData.int 0] ≤ 60 := by decide +kernel
      omega
  · have hm : h1 ∈ es := List.mem_of_getElem? hh
    refine fin (Small.tup (ds := [h1]) (dp := 11) (w := 100000) (fun d hd => by rw [List.mem_singleton.mp hd]; exact hi h1 hm) ?_).1
    have := weight_mem hm
    have e2 : PyData.weightAll [h1] = PyData.weight h1 + 1 + 0 := by rw [PyData.weightAll, PyData.weightAll]
    omega
  · exact fin (Small.tup (dp := 11) (fun d hd => hi d (List.mem_reverse.mp hd)) (by rw [weightAll_rev]; exact hw)).1
  · rcases odd_small h with rfl | q
    · exact Or.inr rfl
    · exact q.rpr (by omega) (by omega)
  · obtain ⟨b1, b2, b3⟩ := hp p h2 y h1
    have hx : Small x (12 + 3) (2 * 100000 + 60) := bent_small (a := 12) ((get_small p h1 hs).mono (by omega) (Nat.le_refl _)) b1 b3 h3
    exact (hs.put (p := p) hx).rpr (by omega) (by omega)
end DL

/-! BENT9: papers near a plain one are plain. -/
namespace DL
open PySem L2
theorem get_td : ∀ (p : List Nat) {d y : D}, getP d p = some y → tdD d = true → tdD y = true
  | [], d, y, h, hs => by
    have e : getP d [] = some d := by cases d <;> rfl
    rw [e] at h
    cases h
    exact hs
  | k :: p, d, y, h, hs => by
    obtain ⟨ds, z, rfl, h1, h2⟩ := getP_cons h
    exact get_td p h2 ((td_tup hs).2 z (List.mem_of_getElem? h1))
theorem near_td {es : List D} {v : D} (ht : tdD (.tuple es) = true) (hl : es.length ≤ 40000) (hp : ∀ p ∈ spotsL (.tuple es) [], ∀ y, getP (.tuple es) p = some y → bdD y = true ∧ ∀ i, y ≠ .int i) (h : NearB (.tuple es) es v) : tdD v = true := by
  obtain ⟨t1, t2⟩ := td_tup ht
  rcases h with rfl | rfl | rfl | ⟨h1, hh, rfl⟩ | rfl | h | ⟨p, y, x, h1, h2, h3, rfl⟩
  · exact ht
  · exact td_mkL t1 t2
  · exact td_mk (by rw [List.length_append, List.length_singleton]; omega) fun d hd => (List.mem_append.mp hd).elim (t2 d) fun q => by rw [List.mem_singleton.mp q]; rfl
  · exact td_mk (by show 1 ≤ 100000; omega) fun d hd => by rw [List.mem_singleton.mp hd]; exact t2 _ (List.mem_of_getElem? hh)
  · exact td_mk (by rw [List.length_reverse]; omega) fun d hd => t2 d (List.mem_reverse.mp hd)
  · exact odd_td v h
  · obtain ⟨b1, b3⟩ := hp p h2 y h1
    exact put_td p _ x ht (bent_td (get_td p h1 ht) b1 (fun i e => absurd e (b3 i)) h3)
end DL

/-! BENTI: papers of tuples, short texts, small ints and None: what is near them. -/
namespace DL
open PySem L2
mutual
def papD : D → Bool
  | .tuple ds => decide (ds.length ≤ 40000) && papDs ds
  | .str s => decide (s.length ≤ 100) && PyData.strOk s
  | .none => true
  | .int i => decide (i.natAbs ≤ 700)
  | .bool _ => false
  | .list _ => false
  | .dict _ => false
def papDs : List D → Bool
  | [] => true
  | d :: ds => papD d && papDs ds
end
theorem papDs_mem : ∀ {ds : List D}, papDs ds = true ↔ ∀ d ∈ ds, papD d = true
  | [] => ⟨fun _ d h => (nomatch h), fun _ => by simp only [papDs]⟩
  | d :: ds => by
    rw [papDs, Bool.and_eq_true, papDs_mem]
    simp
theorem pap_tup {ds : List D} : papD (.tuple ds) = true ↔ ds.length ≤ 40000 ∧ ∀ d ∈ ds, papD d = true := by
  rw [papD, Bool.and_eq_true, decide_eq_true_eq, papDs_mem]
theorem int_all : (List.range 1401).all (fun k => (bentL (.int ((k : Int) - 700))).all (fun x => smallB 3 60 x && tdD x) && (smallB 1 10 (.int ((k : Int) - 700)) && tdD (.str (toString ((k : Int) - 700))))) = true := by decide +kernel
theorem int_at700 {i : Int} (h : i.natAbs ≤ 700) : (∀ x ∈ bentL (.int i), Small x 3 60 ∧ tdD x = true) ∧ Small (.int i) 1 10 ∧ tdD (.str (toString i)) = true := by
  have q := List.all_eq_true.mp int_all (i + 700).toNat (List.mem_range.mpr (by omega))
  have e : (((i + 700).toNat : Nat) : Int) - 700 = i := by omega
  rw [e, Bool.and_eq_true, Bool.and_eq_true, List.all_eq_true] at q
  refine ⟨fun x hx => ?_, small_b q.2.1, q.2.2⟩
  have z := q.1 x hx
  rw [Bool.and_eq_true] at z
  exact ⟨small_b z.1, z.2⟩
mutual
theorem pap_be : ∀ d : D, papD d = true → beD d = true ∧ d.canLay0 = true ∧ d.intsShort 13 = true ∧ d.showable = true
  | .tuple ds, h => by
    obtain ⟨h1, h2⟩ := pap_tup.mp h
    obtain ⟨g1, g2, g3, g4⟩ := paps_be ds (papDs_mem.mpr h2)
    refine ⟨by rw [beD, g1, decide_eq_true h1]; rfl, by rw [PyData.canLay0]; exact g2, by rw [PyData.intsShort]; exact g3, by rw [PyData.showable]; exact g4⟩
  | .str s, h => by
    rw [papD, Bool.and_eq_true, decide_eq_true_eq] at h
    refine ⟨by rw [beD, decide_eq_true (by omega)], by rw [PyData.canLay0]; exact h.2, by simp only [PyData.intsShort], by simp only [PyData.showable]⟩
  | .none, _ => by decide +kernel
  | .int i, h => by
    rw [papD, decide_eq_true_eq] at h
    obtain ⟨_, s, _⟩ := int_at700 h
    refine ⟨?_, s.lay, s.shortI, s.show_⟩
    have := s.wt
    rw [PyData.weight] at this
    rw [beD, decide_eq_true_eq]
    by_cases z : i = 0
    · rw [z]; decide
    · rw [if_neg (by simpa using z)] at this
      omega
  | .bool _, h => by simp [papD] at h
  | .list _, h => by simp [papD] at h
  | .dict _, h => by simp [papD] at h
theorem paps_be : ∀ ds : List D, papDs ds = true → beDs ds = true ∧ PyData.canLayAll0 ds = true ∧ PyData.intsShortAll 13 ds = true ∧ PyData.showableAll ds = true
  | [], _ => by simp [beDs, PyData.canLayAll0, PyData.intsShortAll, PyData.showableAll]
  | d :: ds, h => by
    rw [papDs, Bool.and_eq_true] at h
    obtain ⟨a1, a2, a3, a4⟩ := pap_be d h.1
    obtain ⟨b1, b2, b3, b4⟩ := paps_be ds h.2
    simp [beDs, PyData.canLayAll0, PyData.intsShortAll, PyData.showableAll, a1, a2, a3, a4, b1, b2, b3, b4]
end
mutual
theorem depD_le : ∀ d : D, depD d ≤ d.depth
  | .tuple ds => by rw [depD, PyData.depth]; have := depDs_le ds; omega
  | .list ds => by rw [depD, PyData.depth]; have := depDs_le ds; omega
  | .str _ => by simp [depD]
  | .none => by simp [depD]
  | .int _ => by simp [depD]
  | .bool _ => by simp [depD]
  | .dict _ => by simp [depD]
theorem depDs_le : ∀ ds : List D, depDs ds ≤ PyData.depthAll ds
  | [] => by simp [depDs]
  | d :: ds => by
    have h1 := depD_le d
    have h2 := depDs_le ds
    rw [depDs, PyData.depthAll]
    omega
end
mutual
theorem spots_wt : ∀ (d : D) (pre : List Nat), (spotsL d pre).length ≤ d.weight + 1
  | .tuple ds, pre => by
    have := spotss_wt ds 0 pre
    rw [spotsL, List.length_cons, PyData.weight]
    omega
  | .str _, pre => by simp [spotsL]
  | .none, pre => by simp [spotsL]
  | .int _, pre => by simp [spotsL]
  | .bool _, pre => by simp [spotsL]
  | .list _, pre => by simp [spotsL]
  | .dict _, pre => by simp [spotsL]
theorem spotss_wt : ∀ (ds : List D) (k : Nat) (pre : List Nat), (spotsLs ds k pre).length ≤ PyData.weightAll ds
  | [], _, _ => by simp [spotsLs]
  | d :: ds, k, pre => by
    have h1 := spots_wt d (pre ++ [k])
    have h2 := spotss_wt ds (k + 1) pre
    rw [spotsLs, List.length_append, PyData.weightAll]
    omega
end
theorem pap_get : ∀ (p : List Nat) {d y : D}, getP d p = some y → papD d = true → papD y = true
  | [], d, y, h, hs => by
    have e : getP d [] = some d := by cases d <;> rfl
    rw [e] at h
    cases h
    exact hs
  | k :: p, d, y, h, hs => by
    obtain ⟨ds, z, rfl, h1, h2⟩ := getP_cons h
    exact pap_get p h2 ((pap_tup.mp hs).2 z (List.mem_of_getElem? h1))
/-- a paper -/
structure Paper (d : D) : Prop where
  pap : papD d = true
  dep : d.depth ≤ 18
  wt : d.weight ≤ 480000
theorem Paper.small {d : D} (h : Paper d) : Small d 20 480000 := by
  obtain ⟨h1, h2, h3, h4⟩ := pap_be d h.pap
  exact ⟨h2, Nat.le_trans h.dep (by decide), h.wt, h3, h4⟩
theorem Paper.rpr {d : D} (h : Paper d) : RprOk d := h.small.rpr (by decide) (by decide)
theorem Paper.td {d : D} (h : Paper d) : tdD d = true := be_td d (pap_be d h.pap).1
theorem Paper.ok {d : D} (h : Paper d) : RprOk d ∧ tdD d = true := ⟨h.rpr, h.td⟩
theorem Paper.spots {d : D} (h : Paper d) : (spotsL d []).length ≤ 900000 ∧ ∀ p ∈ spotsL d [], ∃ y, getP d p = some y ∧ bdD y = true ∧ p.length ≤ 18 := by
  refine ⟨?_, fun p hp => ?_⟩
  · have := spots_wt d []
    have := h.wt
    omega
  · obtain ⟨rel, y, e, h1, h2, h3⟩ := spot_ok d [] (pap_be d h.pap).1 p hp
    rw [List.nil_append] at e
    subst e
    have := depD_le d
    have := h.dep
    exact ⟨y, h1, be_bd h2, by omega⟩
theorem put_weight2 : ∀ (p : List Nat) {d y : D} (x : D), getP d p = some y → (putP d p x).weight + y.weight ≤ d.weight + x.weight
  | [], d, y, x, h => by
    have e : getP d [] = some d := by cases d <;> rfl
    have e2 : putP d [] x = x := by cases d <;> rfl
    rw [e] at h
    cases h
    rw [e2]
    omega
  | k :: p, d, y, x, h => by
    obtain ⟨ds, z, rfl, h1, h2⟩ := getP_cons h
    have e : putP (.tuple ds) (k :: p) x = .tuple (ds.set k (putP z p x)) := by
      show (match ds[k]? with | some d => PyData.tuple (ds.set k (putP d p x)) | none => .tuple ds) = _
      rw [h1]
    have ih := put_weight2 p x h2
    have w := weightAll_set (putP z p x) h1
    rw [e, PyData.weight, PyData.weight]
    omega
theorem Paper.near {es : List D} {v : D} (hP : Paper (.tuple es)) (h : NearB (.tuple es) es v) : RprOk v ∧ tdD v = true := by
  have hs := hP.small
  have td := hP.td
  obtain ⟨t1, t2⟩ := td_tup td
  obtain ⟨l4, _⟩ := pap_tup.mp hP.pap
  have hi : ∀ d ∈ es, d.canLay0 = true ∧ d.depth ≤ 19 ∧ d.intsShort 13 = true ∧ d.showable = true := hs.items
  have hw : PyData.weightAll es ≤ 480000 := by have := hs.wt; rwa [PyData.weight] at this
  have fin : ∀ {x : D}, Small x 20 480000 → RprOk x := fun q => q.rpr (by omega) (by omega)
  rcases h with rfl | rfl | rfl | ⟨h1, hh, rfl⟩ | rfl | h | ⟨p, y, x, h1, h2, h3, rfl⟩
  · exact ⟨fin hs, td⟩
  · exact ⟨fin (Small.tup (dp := 19) hi hw).2, td_mkL t1 t2⟩
  · refine ⟨Small.rpr (dp := 21) (w := 480100) (Small.tup (ds := es ++ [.int 0]) (dp := 20) (w := 480100) (fun d hd => (List.mem_append.mp hd).elim (fun q => ?_) fun q => ?_) ?_).1 (by omega) (by omega), td_mk (by rw [List.length_append, List.length_singleton]; omega) fun d hd => (List.mem_append.mp hd).elim (t2 d) fun q => by rw [List.mem_singleton.mp q]; rfl⟩
    · obtain ⟨q1, q2, q3, q4⟩ := hi d q
      exact ⟨q1, by omega, q3, q4⟩
    · rw [List.mem_singleton.mp q]
      obtain ⟨q1, q2, q3, q4, q5⟩ := small_b (a := 1) (w := 60) (d := .int 0) (by decide +kernel)
      exact ⟨q1, by omega, q4, q5⟩
    · rw [weightAll_app]
      have e : PyData.weightAll [PyData.int 0] ≤ 60 := by decide +kernel
      omega
  · have hm : h1 ∈ es := List.mem_of_getElem? hh
    refine ⟨fin (Small.tup (ds := [h1]) (dp := 19) (w := 480000) (fun d hd => by rw [List.mem_singleton.mp hd]; exact hi h1 hm) ?_).1, td_mk (by show 1 ≤ 100000; omega) fun d hd => by rw [List.mem_singleton.mp hd]; exact t2 _ hm⟩
    have := weight_mem hm
    have e2 : PyData.weightAll [h1] = PyData.weight h1 + 1 + 0 := by rw [PyData.weightAll, PyData.weightAll]
    omega
  · exact ⟨fin (Small.tup (dp := 19) (fun d hd => hi d (List.mem_reverse.mp hd)) (by rw [weightAll_rev]; exact hw)).1, td_mk (by rw [List.length_reverse]; omega) fun d hd => t2 d (List.mem_reverse.mp hd)⟩
  · refine ⟨?_, odd_td v h⟩
    rcases odd_small h with rfl | q
    · exact Or.inr rfl
    · exact q.rpr (by omega) (by omega)
  · obtain ⟨y', e1, b1, b2⟩ := hP.spots.2 p h2
    rw [h1] at e1
    cases e1
    have py := pap_get p h1 hP.pap
    have ys := get_small p h1 hs
    have pw := put_weight2 p x h1
    have pd := put_depth p (.tuple es) x
    have hd := hP.dep
    have hwt := hP.wt
    have yw : y.weight ≤ 480000 := ys.wt
    have go : x.canLay0 = true → x.depth ≤ 24 → x.weight ≤ 2 * y.weight + 60 → x.intsShort 13 = true → x.showable = true → RprOk (putP (.tuple es) p x) := fun x1 x2 x3 x4 x5 =>
      rpr_small (put_lay p _ x hs.lay x1) (by omega) (by omega) (put_ints p _ x hs.shortI x4) (put_show p _ x hs.show_ x5)
    by_cases hint : ∃ i, y = .int i
    · obtain ⟨i, rfl⟩ := hint
      rw [papD, decide_eq_true_eq] at py
      obtain ⟨z1, z2⟩ := (int_at700 py).1 x h3
      have := z1.dep
      have := z1.wt
      exact ⟨go z1.lay (by omega) (by omega) z1.shortI z1.show_, put_td p _ x td z2⟩
    · have b3 : ∀ i, y ≠ .int i := fun i e => hint ⟨i, e⟩
      have yx : Small y (20 + 1) y.weight := ⟨ys.lay, Nat.le_trans ys.dep (by decide), Nat.le_refl _, ys.shortI, ys.show_⟩
      have hx := bent_small (a := 20) yx b1 b3 h3
      have := hx.dep
      exact ⟨go hx.lay (by omega) hx.wt hx.shortI hx.show_, put_td p _ x td (bent_td (get_td p h1 td) b1 (fun i e => absurd e (b3 i)) h3)⟩
/-! ### parts of papers -/
structure Part (ds : List D) (w : Nat) : Prop where
  it : ∀ d ∈ ds, papD d = true ∧ d.depth ≤ 16
  wt : PyData.weightAll ds ≤ w
theorem weightAll_len : ∀ ds : List D, ds.length ≤ PyData.weightAll ds
  | [] => Nat.zero_le _
  | d :: ds => by
    have := weightAll_len ds
    rw [PyData.weightAll, List.length_cons]
    omega
theorem Part.mono {ds : List D} {a b : Nat} (h : Part ds a) (l : a ≤ b) : Part ds b := ⟨h.it, Nat.le_trans h.wt l⟩
theorem Part.nil {w : Nat} : Part [] w := ⟨fun d h => (nomatch h), Nat.zero_le _⟩
theorem Part.rev {ds : List D} {w : Nat} (h : Part ds w) : Part ds.reverse w := ⟨fun d hd => h.it d (List.mem_reverse.mp hd), by rw [weightAll_rev]; exact h.wt⟩
theorem Part.app {a b : List D} {v w : Nat} (h : Part a v) (g : Part b w) : Part (a ++ b) (v + w) := ⟨fun d hd => (List.mem_append.mp hd).elim (h.it d) (g.it d), by rw [weightAll_app]; have := h.wt; have := g.wt; omega⟩
theorem Part.drop {ds : List D} {w : Nat} (k : Nat) (h : Part ds w) : Part (ds.drop k) w := ⟨fun d hd => h.it d (List.mem_of_mem_drop hd), Nat.le_trans (weightAll_drop k ds) h.wt⟩
theorem Part.take {ds : List D} {w : Nat} (k : Nat) (h : Part ds w) : Part (ds.take k) w := ⟨fun d hd => h.it d (List.mem_of_mem_take hd), Nat.le_trans (weightAll_take k ds) h.wt⟩
theorem Part.cut {ds : List D} {w : Nat} (lo hi : Option Int) (h : Part ds w) : Part (cutD ds lo hi) w := by
  unfold cutD
  exact (h.drop _).take _
theorem Part.one {d : D} {w : Nat} (h1 : papD d = true) (h2 : d.depth ≤ 16) (h3 : d.weight + 1 ≤ w) : Part [d] w := by
  refine ⟨fun x hx => ?_, ?_⟩
  · rw [List.mem_singleton.mp hx]
    exact ⟨h1, h2⟩
  · rw [PyData.weightAll, PyData.weightAll]
    omega
theorem Part.len {ds : List D} {w : Nat} (h : Part ds w) : ds.length ≤ w := Nat.le_trans (weightAll_len ds) h.wt
/-- each item alike -/
theorem weightAll_le {c : Nat} : ∀ {ds : List D}, (∀ d ∈ ds, d.weight ≤ c) → PyData.weightAll ds ≤ (c + 1) * ds.length
  | [], _ => Nat.zero_le _
  | d :: ds, h => by
    have h1 := weightAll_le (c := c) (ds := ds) fun x hx => h x (List.mem_cons_of_mem _ hx)
    have h2 := h d List.mem_cons_self
    rw [PyData.weightAll, List.length_cons, Nat.mul_succ]
    omega
theorem Part.all {ds : List D} {c n w : Nat} (h : ∀ d ∈ ds, papD d = true ∧ d.depth ≤ 16 ∧ d.weight ≤ c) (l : ds.length ≤ n) (hw : (c + 1) * n ≤ w) : Part ds w :=
  ⟨fun d hd => ⟨(h d hd).1, (h d hd).2.1⟩, Nat.le_trans (weightAll_le fun d hd => (h d hd).2.2) (Nat.le_trans (Nat.mul_le_mul_left _ l) hw)⟩
theorem Part.tup {ds : List D} {w : Nat} (h : Part ds w) (hl : w ≤ 40000) {n : Nat} (hd : ∀ d ∈ ds, d.depth ≤ n) : papD (.tuple ds) = true ∧ PyData.depth (.tuple ds) ≤ n + 1 ∧ PyData.weight (.tuple ds) ≤ w := by
  refine ⟨pap_tup.mpr ⟨Nat.le_trans h.len hl, fun d hd => (h.it d hd).1⟩, ?_, by rw [PyData.weight]; exact h.wt⟩
  rw [PyData.depth]
  have := depthAll_le.mpr hd
  omega
theorem Part.paper {ds : List D} {w : Nat} (h : Part ds w) (hl : w ≤ 40000) : Paper (.tuple ds) := by
  obtain ⟨h1, h2, h3⟩ := h.tup hl (n := 16) fun d hd => (h.it d hd).2
  exact ⟨h1, by omega, by omega⟩
theorem Part.paper2 {ds : List D} {w : Nat} (h : Part ds w) (hl : ds.length ≤ 40000) (hw : w ≤ 480000) : Paper (.tuple ds) := by
  refine ⟨pap_tup.mpr ⟨hl, fun d hd => (h.it d hd).1⟩, ?_, by rw [PyData.weight]; exact Nat.le_trans h.wt hw⟩
  rw [PyData.depth]
  have := depthAll_le.mpr fun d hd => (h.it d hd).2
  omega
theorem int_pap {i : Int} (h : i.natAbs ≤ 700) : papD (.int i) = true ∧ PyData.depth (.int i) = 0 ∧ PyData.weight (.int i) ≤ 10 := ⟨by rw [papD, decide_eq_true h], rfl, (int_at700 h).2.1.wt⟩
theorem nat_part {l : List Nat} {n : Nat} (h : ∀ k ∈ l, k ≤ 700) (hl : l.length ≤ n) : Part (natD l) (11 * n) := by
  refine Part.all (c := 10) (n := n) (fun d hd => ?_) (by rw [natD_length]; exact hl) (Nat.le_refl _)
  obtain ⟨k, hk, rfl⟩ := natD_mem hd
  have := h k hk
  obtain ⟨a, b, c⟩ := int_pap (i := (k : Int)) (by omega)
  exact ⟨a, by omega, c⟩
end DL

/-! K01j: drawn formulas are small papers. -/
namespace DL
open PySem L2
/-- a name that a law draws -/
def nmB (s : Str) : Bool := decide (s.length ≤ 12) && PyData.strOk s
theorem nmB_len {s : Str} (h : nmB s = true) : s.cps.size ≤ 12 ∧ PyData.strOk s = true := by
  unfold nmB at h
  rw [Bool.and_eq_true, decide_eq_true_eq] at h
  exact h
theorem fm_wt : ∀ f : Fm, (∀ s ∈ f.nms, nmB s = true) → (PyData.weight f.d + 9 ≤ 30 * 2 ^ f.dep ∧ PyData.depth f.d = f.dep + 1) ∧ PyData.canLay0 f.d = true ∧ PyData.intsShort 13 f.d = true ∧ PyData.showable f.d = true
  | .all, _ => by decide +kernel
  | .none, _ => by decide +kernel
  | .name s, h => by
    obtain ⟨h1, h2⟩ := nmB_len (h s (by simp [Fm.nms]))
    have e1 : PyData.canLay0 (.str "name") = true := by decide +kernel
    have e2 : ("name" : Str).cps.size = 4 := by decide +kernel
    refine ⟨⟨?_, ?_⟩, ?_, ?_, ?_⟩
    · simp only [Fm.d, Fm.dep, PyData.weight, PyData.weightAll, e2]
      omega
    · simp [Fm.d, Fm.dep, PyData.depth, PyData.depthAll]
    · simp only [Fm.d, PyData.canLay0, PyData.canLayAll0, h2]
      decide +kernel
    · simp [Fm.d, PyData.intsShort, PyData.intsShortAll]
    · simp [Fm.d, PyData.showable, PyData.showableAll]
  | .not a, h => by
    obtain ⟨⟨h1, h2⟩, h3, h4, h5⟩ := fm_wt a fun s hs => h s (by simp [Fm.nms, hs])
    have e2 : ("not" : Str).cps.size = 3 := by decide +kernel
    have e3 : PyData.strOk "not" = true := by decide +kernel
    refine ⟨⟨?_, ?_⟩, ?_, ?_, ?_⟩
    · simp only [Fm.d, Fm.dep, PyData.weight, PyData.weightAll, e2, Nat.pow_succ]
      have : 1 ≤ 2 ^ a.dep := Nat.one_le_two_pow
      omega
    · simp [Fm.d, Fm.dep, PyData.depth, PyData.depthAll, h2]
    · simp [Fm.d, PyData.canLay0, PyData.canLayAll0, h3, e3]
    · simp [Fm.d, PyData.intsShort, PyData.intsShortAll, h4]
    · simp [Fm.d, PyData.showable, PyData.showableAll, h5]
  | .both a b, h => by
    obtain ⟨⟨h1, h2⟩, h3, h4, h5⟩ := fm_wt a fun s hs => h s (by simp [Fm.nms, hs])
    obtain ⟨⟨g1, g2⟩, g3, g4, g5⟩ := fm_wt b fun s hs => h s (by simp [Fm.nms, hs])
    have e2 : ("both" : Str).cps.size = 4 := by decide +kernel
    have e3 : PyData.strOk "both" = true := by decide +kernel
    have m1 : 2 ^ a.dep ≤ 2 ^ max a.dep b.dep := Nat.pow_le_pow_right (by decide) (Nat.le_max_left _ _)
    have m2 : 2 ^ b.dep ≤ 2 ^ max a.dep b.dep := Nat.pow_le_pow_right (by decide) (Nat.le_max_right _ _)
    refine ⟨⟨?_, ?_⟩, ?_, ?_, ?_⟩
    · simp only [Fm.d, Fm.dep, PyData.weight, PyData.weightAll, e2, Nat.pow_succ]
      omega
    · simp only [Fm.d, Fm.dep, PyData.depth, PyData.depthAll, h2, g2]
      omega
    · simp [Fm.d, PyData.canLay0, PyData.canLayAll0, h3, g3, e3]
    · simp [Fm.d, PyData.intsShort, PyData.intsShortAll, h4, g4]
    · simp [Fm.d, PyData.showable, PyData.showableAll, h5, g5]
  | .either a b, h => by
    obtain ⟨⟨h1, h2⟩, h3, h4, h5⟩ := fm_wt a fun s hs => h s (by simp [Fm.nms, hs])
    obtain ⟨⟨g1, g2⟩, g3, g4, g5⟩ := fm_wt b fun s hs => h s (by simp [Fm.nms, hs])
    have e2 : ("either" : Str).cps.size = 6 := by decide +kernel
    have e3 : PyData.strOk "either" = true := by decide +kernel
    have m1 : 2 ^ a.dep ≤ 2 ^ max a.dep b.dep := Nat.pow_le_pow_right (by decide) (Nat.le_max_left _ _)
    have m2 : 2 ^ b.dep ≤ 2 ^ max a.dep b.dep := Nat.pow_le_pow_right (by decide) (Nat.le_max_right _ _)
    refine ⟨⟨?_, ?_⟩, ?_, ?_, ?_⟩
    · simp only [Fm.d, Fm.dep, PyData.weight, PyData.weightAll, e2, Nat.pow_succ]
      omega
    · simp only [Fm.d, Fm.dep, PyData.depth, PyData.depthAll, h2, g2]
      omega
    · simp [Fm.d, PyData.canLay0, PyData.canLayAll0, h3, g3, e3]
    · simp [Fm.d, PyData.intsShort, PyData.intsShortAll, h4, g4]
    · simp [Fm.d, PyData.showable, PyData.showableAll, h5, g5]
theorem fm_small {f : Fm} (hd : f.dep ≤ 4) (h : ∀ s ∈ f.nms, nmB s = true) : Small f.d 12 100000 := by
  obtain ⟨⟨h1, h2⟩, h3, h4, h5⟩ := fm_wt f h
  have : 2 ^ f.dep ≤ 2 ^ 4 := Nat.pow_le_pow_right (by decide) hd
  exact ⟨h3, by omega, by omega, h4, h5⟩
mutual
/-- no ints in it -/
def niD : D → Bool
  | .tuple ds => niDs ds
  | .int _ => false
  | _ => true
def niDs : List D → Bool
  | [] => true
  | d :: ds => niD d && niDs ds
end
theorem niDs_get : ∀ {ds : List D} {k : Nat} {d : D}, niDs ds = true → ds[k]? = some d → niD d = true
  | [], _, _, _, h => by simp at h
  | x :: ds, 0, d, h, e => by
    rw [niDs, Bool.and_eq_true] at h
    rw [← Option.some.inj e]
    exact h.1
  | x :: ds, k + 1, d, h, e => by
    rw [niDs, Bool.and_eq_true] at h
    exact niDs_get h.2 (by simpa using e)
theorem ni_get : ∀ (p : List Nat) {d y : D}, getP d p = some y → niD d = true → niD y = true
  | [], d, y, h, hs => by
    have e : getP d [] = some d := by cases d <;> rfl
    rw [e] at h
    cases h
    exact hs
  | k :: p, d, y, h, hs => by
    obtain ⟨ds, z, rfl, h1, h2⟩ := getP_cons h
    rw [niD] at hs
    exact ni_get p h2 (niDs_get hs h1)
theorem ni_fm : ∀ f : Fm, niD f.d = true
  | .all => rfl
  | .none => rfl
  | .name s => rfl
  | .not a => by simp [Fm.d, niD, niDs, ni_fm a]
  | .both a b => by simp [Fm.d, niD, niDs, ni_fm a, ni_fm b]
  | .either a b => by simp [Fm.d, niD, niDs, ni_fm a, ni_fm b]
theorem fm_tuple (f : Fm) : ∃ es, f.d = .tuple es ∧ es ≠ [] ∧ es.length ≤ 3 := by
  cases f <;> exact ⟨_, rfl, by simp, by simp⟩
theorem fm_td {f : Fm} (h : ∀ s ∈ f.nms, nmB s = true) : beD f.d = true ∧ tdD f.d = true := by
  have b := fm_be f fun s hs => by
    have := (nmB_len (h s hs)).1
    show s.cps.size ≤ 100000
    omega
  exact ⟨b, be_td _ b⟩
/-- what is asked of a formula as a paper -/
theorem fm_spotok {f : Fm} (hd : f.dep ≤ 4) (h : ∀ s ∈ f.nms, nmB s = true) : (spotsL f.d []).length ≤ 96 ∧ ∀ p ∈ spotsL f.d [], ∃ y, getP f.d p = some y ∧ bdD y = true ∧ p.length ≤ 5 := by
  refine ⟨?_, fun p hp => ?_⟩
  · have h1 := fm_spots f []
    have : 2 ^ f.dep ≤ 2 ^ 4 := Nat.pow_le_pow_right (by decide) hd
    omega
  · obtain ⟨rel, y, e, h1, h2, h3⟩ := spot_ok f.d [] (fm_td h).1 p hp
    rw [List.nil_append] at e
    subst e
    rw [depD_fm] at h3
    exact ⟨y, h1, be_bd h2, by omega⟩
theorem fm_near {f : Fm} {es : List D} {v : D} (hd : f.dep ≤ 4) (h : ∀ s ∈ f.nms, nmB s = true) (he : f.d = .tuple es) (hl : es.length ≤ 3) (hv : NearB (.tuple es) es v) : RprOk v ∧ tdD v = true := by
  have sp : ∀ p ∈ spotsL (.tuple es) [], ∀ y, getP (.tuple es) p = some y → bdD y = true ∧ p.length ≤ 12 ∧ ∀ i, y ≠ .int i := fun p hp y hy => by
    rw [← he] at hp hy
    obtain ⟨y', e1, e2, e3⟩ := (fm_spotok hd h).2 p hp
    rw [hy] at e1
    cases e1
    refine ⟨e2, by omega, fun i e => ?_⟩
    have := ni_get p hy (ni_fm f)
    rw [e] at this
    cases this
  refine ⟨near_rpr (he ▸ fm_small hd h) sp hv, near_td (he ▸ (fm_td h).2) (by omega) (fun p hp y hy => ⟨(sp p hp y hy).1, (sp p hp y hy).2.2⟩) hv⟩
/-- formulas are told -/
theorem isFm_fm : ∀ (f : Fm) (n : Nat), (∀ s ∈ f.nms, isW s = true) → isFm n f.d = decide (f.dep < n)
  | f, 0, _ => by
    have e : isFm 0 f.d = false := by cases f <;> rfl
    rw [e]
    rfl
  | .all, n + 1, _ => by simp [Fm.d, isFm, Fm.dep]
  | .none, n + 1, _ => by simp [Fm.d, isFm, Fm.dep]
  | .name s, n + 1, h => by
    have e : isWD (.str s) = true := h s (by simp [Fm.nms])
    simp (decide := true) [Fm.d, isFm, Fm.dep, e]
  | .not a, n + 1, h => by
    have ih := isFm_fm a n fun s hs => h s (by simp [Fm.nms, hs])
    have e : isFm (n + 1) (Fm.not a).d = isFm n a.d := rfl
    rw [e, ih, Fm.dep, decide_eq_decide]
    omega
  | .both a b, n + 1, h => by
    have ia := isFm_fm a n fun s hs => h s (by simp [Fm.nms, hs])
    have ib := isFm_fm b n fun s hs => h s (by simp [Fm.nms, hs])
    have e : isFm (n + 1) (Fm.both a b).d = (isFm n a.d && isFm n b.d) := rfl
    rw [e, ia, ib, Fm.dep, Bool.eq_iff_iff]
    simp only [Bool.and_eq_true, decide_eq_true_eq]
    omega
  | .either a b, n + 1, h => by
    have ia := isFm_fm a n fun s hs => h s (by simp [Fm.nms, hs])
    have ib := isFm_fm b n fun s hs => h s (by simp [Fm.nms, hs])
    have e : isFm (n + 1) (Fm.either a b).d = (isFm n a.d && isFm n b.d) := rfl
    rw [e, ia, ib, Fm.dep, Bool.eq_iff_iff]
    simp only [Bool.and_eq_true, decide_eq_true_eq]
    omega
end DL

/-! BENTR: rooms are papers. -/
namespace DL
open PySem L2
theorem prs_len {names : List Str} {most n : Nat} {ps : List (Nat × Nat)} {vs : List (Str × List Nat)} (h : RoomOk names most n ps vs) : ps.length ≤ n * n := by
  have u : (ps.map fun p => p.1 * n + p.2).Pairwise (· < ·) := by
    rw [List.pairwise_map]
    refine List.Pairwise.imp_of_mem (fun {p q} hp hq r => ?_) h.up
    have a := (h.prs p hp).2
    have b := (h.prs q hq).2
    rcases r with r | ⟨r1, r2⟩
    · have : (p.1 + 1) * n ≤ q.1 * n := Nat.mul_le_mul_right _ r
      rw [Nat.succ_mul] at this
      omega
    · rw [r1]
      omega
  have l := up_len (n := n * n) (fun k hk => ?_) u
  · rwa [List.length_map] at l
  · obtain ⟨p, hp, rfl⟩ := List.mem_map.mp hk
    obtain ⟨a, b⟩ := h.prs p hp
    have : (p.1 + 1) * n ≤ n * n := Nat.mul_le_mul_right _ (by omega)
    rw [Nat.succ_mul] at this
    omega
theorem pair_pap {i j : Nat} (h1 : i ≤ 700) (h2 : j ≤ 700) : papD (.tuple [.int (i : Int), .int (j : Int)]) = true ∧ PyData.depth (.tuple [.int (i : Int), .int (j : Int)]) ≤ 16 ∧ PyData.weight (.tuple [.int (i : Int), .int (j : Int)]) ≤ 22 := by
  obtain ⟨a1, a2, a3⟩ := int_pap (i := (i : Int)) (by omega)
  obtain ⟨b1, b2, b3⟩ := int_pap (i := (j : Int)) (by omega)
  refine ⟨pap_tup.mpr ⟨by show 2 ≤ 40000; omega, fun d hd => ?_⟩, ?_, ?_⟩
  · simp only [List.mem_cons, List.not_mem_nil, or_false] at hd
    rcases hd with rfl | rfl
    · exact a1
    · exact b1
  · simp only [PyData.depth, PyData.depthAll]
    omega
  · rw [PyData.weight, PyData.weightAll, PyData.weightAll, PyData.weightAll]
    omega
theorem prs_part {ps : List (Nat × Nat)} {n : Nat} (h : ∀ p ∈ ps, p.1 ≤ 700 ∧ p.2 ≤ 700) (l : ps.length ≤ n) : Part (prsD ps) (23 * n) := by
  refine Part.all (c := 22) (n := n) (fun d hd => ?_) (by unfold prsD; rw [List.length_map]; exact l) (Nat.le_refl _)
  unfold prsD at hd
  obtain ⟨p, hp, rfl⟩ := List.mem_map.mp hd
  exact pair_pap (h p hp).1 (h p hp).2
theorem str_pap {s : Str} (h : nmB s = true) : papD (.str s) = true ∧ PyData.depth (.str s) = 0 ∧ PyData.weight (.str s) ≤ 12 := by
  obtain ⟨h1, h2⟩ := nmB_len h
  have h3 : s.length ≤ 100 := by
    show s.cps.size ≤ 100
    omega
  exact ⟨by rw [papD, decide_eq_true h3, h2]; rfl, rfl, by rw [PyData.weight]; exact h1⟩
theorem val_pap {s : Str} {l : List Nat} {n : Nat} (hs : nmB s = true) (h : ∀ k ∈ l, k ≤ 700) (hl : l.length ≤ n) (hn : n ≤ 3000) : papD (.tuple [.str s, .tuple (natD l)]) = true ∧ PyData.depth (.tuple [.str s, .tuple (natD l)]) ≤ 16 ∧ PyData.weight (.tuple [.str s, .tuple (natD l)]) ≤ 11 * n + 14 := by
  obtain ⟨a1, a2, a3⟩ := str_pap hs
  have d0 : ∀ d ∈ natD l, d.depth ≤ 0 := fun d hd => by
    obtain ⟨k, hk, rfl⟩ := natD_mem hd
    exact Nat.le_refl _
  obtain ⟨b1, b2, b3⟩ := (nat_part h hl).tup (by omega) d0
  refine ⟨pap_tup.mpr ⟨by show 2 ≤ 40000; omega, fun d hd => ?_⟩, ?_, ?_⟩
  · simp only [List.mem_cons, List.not_mem_nil, or_false] at hd
    rcases hd with rfl | rfl
    · exact a1
    · exact b1
  · rw [PyData.depth, PyData.depthAll, PyData.depthAll, PyData.depthAll, a2]
    omega
  · rw [PyData.weight, PyData.weightAll, PyData.weightAll, PyData.weightAll]
    omega
theorem vals_len {names : List Str} {most n : Nat} {ps : List (Nat × Nat)} {vs : List (Str × List Nat)} (h : RoomOk names most n ps vs) : vs.length ≤ names.length := by
  have := h.nms.length_le
  rwa [List.length_map] at this
theorem vals_pt {names : List Str} {most n : Nat} {ps : List (Nat × Nat)} {vs : List (Str × List Nat)} (h : RoomOk names most n ps vs) : ∀ v ∈ vs, v.1 ∈ names ∧ (∀ k ∈ v.2, k < n) ∧ v.2.length ≤ n := fun v hv => by
  obtain ⟨some, _, e⟩ := h.cl v hv
  refine ⟨h.nms.subset (List.mem_map_of_mem hv), ?_, ?_⟩
  · rw [e]
    exact oppN_lt
  · rw [e]
    exact oppN_length
/-- a drawn room's parts -/
theorem room_parts {names : List Str} {most n : Nat} {ps : List (Nat × Nat)} {vs : List (Str × List Nat)} (h : RoomOk names most n ps vs) (hm : most ≤ 9) (hn : ∀ s ∈ names, nmB s = true) (hl : names.length ≤ 10) : Part (prsD ps) 2000 ∧ Part (valD vs) 2000 := by
  have n9 : n ≤ 9 := Nat.le_trans h.le hm
  have pl : ps.length ≤ 81 := Nat.le_trans (prs_len h) (Nat.mul_le_mul n9 n9)
  refine ⟨(prs_part (fun p hp => ?_) pl).mono (by decide), ?_⟩
  · obtain ⟨a, b⟩ := h.prs p hp
    omega
  · refine Part.all (c := 113) (n := 10) (fun d hd => ?_) (by unfold valD; rw [List.length_map]; exact Nat.le_trans (vals_len h) hl) (by decide)
    unfold valD at hd
    obtain ⟨v, hv, rfl⟩ := List.mem_map.mp hd
    obtain ⟨a1, a2, a3⟩ := vals_pt h v hv
    obtain ⟨b1, b2, b3⟩ := val_pap (n := 9) (hn v.1 a1) (fun k hk => by have := a2 k hk; omega) (by omega) (by decide)
    exact ⟨b1, b2, by omega⟩
/-- a room of parts -/
theorem room_paper {i : Int} {as bs : List D} {v w : Nat} (h : i.natAbs ≤ 700) (ha : Part as v) (hb : Part bs w) (hv : v ≤ 20000) (hw : w ≤ 20000) : Paper (.tuple [.int i, .tuple as, .tuple bs]) := by
  obtain ⟨i1, i2, i3⟩ := int_pap h
  obtain ⟨a1, a2, a3⟩ := ha.tup (by omega) (n := 16) fun d hd => (ha.it d hd).2
  obtain ⟨b1, b2, b3⟩ := hb.tup (by omega) (n := 16) fun d hd => (hb.it d hd).2
  refine ⟨pap_tup.mpr ⟨by show 3 ≤ 40000; omega, fun d hd => ?_⟩, ?_, ?_⟩
  · simp only [List.mem_cons, List.not_mem_nil, or_false] at hd
    rcases hd with rfl | rfl | rfl
    · exact i1
    · exact a1
    · exact b1
  · rw [PyData.depth, PyData.depthAll, PyData.depthAll, PyData.depthAll, PyData.depthAll, i2]
    omega
  · rw [PyData.weight, PyData.weightAll, PyData.weightAll, PyData.weightAll, PyData.weightAll]
    omega
end DL

/-! TH: claims, theories, rooms in which they are true. -/
namespace DL
open PySem L2
def clD (c : Fm × Fm) : D := .tuple [c.1.d, c.2.d]
def clB : D → Bool
  | .tuple [a, b] => isFm 31 a && isFm 31 b
  | _ => false
def thB : D → Bool
  | .tuple ds => decide (ds.length ≤ 20) && ds.all clB
  | _ => false
def nOf : D → Nat
  | .tuple (.int n :: _) => n.toNat
  | _ => 0
def psOf : D → List (Nat × Nat)
  | .tuple (_ :: a :: _) => (itemsT a).map prOf
  | _ => []
def strOf : D → Str
  | .str s => s
  | _ => ""
def valOf (d : D) : Str × List Nat := (strOf (fst1 d), (itemsT (snd1 d)).map natOf)
def vsOf : D → List (Str × List Nat)
  | .tuple [_, _, b] => (itemsT b).map valOf
  | _ => []
theorem valL_mem {vs : List (Str × List Nat)} {s : Str} {l : List Nat} (e : valL vs s = some l) : ∃ v ∈ vs, v.2 = l := by
  unfold valL at e
  rw [Option.map_eq_some_iff] at e
  obtain ⟨v, h1, h2⟩ := e
  exact ⟨v, List.mem_of_find?_eq_some h1, h2⟩
theorem roomB_shape {d : D} (h : roomB d = true) : ∃ (n : Nat) (a b : D), d = .tuple [.int (n : Int), a, b] ∧ n ≤ 600 ∧ 1 ≤ n ∧ prsB n a = true ∧ valsB n b = true ∧ (itemsT b).all (closedB n ((itemsT a).map prOf)) = true := by
  cases d with
  | tuple es =>
    rcases es with _ | ⟨x, _ | ⟨a, _ | ⟨b, _ | ⟨c, r⟩⟩⟩⟩
    · cases h
    · cases x <;> cases h
    · cases x <;> cases h
    · cases x with
      | int i =>
        have h' : ((decide (1 ≤ i) && decide (i ≤ 600)) && (prsB i a && (valsB i b && (itemsT b).all (closedB i.toNat ((itemsT a).map prOf))))) = true := h
        simp only [Bool.and_eq_true, decide_eq_true_eq] at h'
        obtain ⟨⟨h1, h2⟩, h3, h4, h5⟩ := h'
        have e : i = ((i.toNat : Nat) : Int) := by omega
        rw [e] at h3 h4
        exact ⟨i.toNat, a, b, by rw [← e], by omega, by omega, h3, h4, h5⟩
      | _ => cases h
    · cases x <;> cases h
  | _ => cases h
theorem consec_up {ds : List D} {f : D → D → Bool} (h : consec f ds = true) (tr : ∀ x y z, x ∈ ds → y ∈ ds → z ∈ ds → f x y = true → f y z = true → f x z = true) : ds.Pairwise fun x y => f x y = true := by
  have st : ∀ k (h2 : k + 1 < ds.length), f (ds[k]'(by omega)) ds[k + 1] = true := fun k h2 => by
    unfold consec at h
    have q := List.all_eq_true.mp h k (List.mem_range.mpr (by omega))
    rw [List.getD_eq_getElem?_getD, List.getD_eq_getElem?_getD, List.getElem?_eq_getElem (by omega), List.getElem?_eq_getElem h2] at q
    exact q
  have go : ∀ j i (h2 : i + j + 1 < ds.length), f (ds[i]'(by omega)) ds[i + j + 1] = true := fun j => by
    induction j with
    | zero => exact fun i h2 => st i h2
    | succ j ih =>
      intro i h2
      exact tr _ _ _ (List.getElem_mem _) (List.getElem_mem _) (List.getElem_mem _) (ih i (by omega)) (st (i + j + 1) (by omega))
  rw [List.pairwise_iff_getElem]
  intro i j hi hj hij
  have q := go (j - i - 1) i (by omega)
  have e : i + (j - i - 1) + 1 = j := by omega
  simpa only [e] using q
theorem roomB_rmv {d : D} (ht : tdD d = true) (h : roomB d = true) : RmV d (nOf d) (psOf d) (vsOf d) := by
  obtain ⟨n, a, b, rfl, h1, h2, h3, h4, h5⟩ := roomB_shape h
  obtain ⟨p1, p2⟩ := prsB_nat h3
  have p3 := prsB_lt h3
  have en : nOf (.tuple [.int (n : Int), a, b]) = n := by
    show ((n : Int)).toNat = n
    omega
  have ep : psOf (.tuple [.int (n : Int), a, b]) = (itemsT a).map prOf := rfl
  have ev : vsOf (.tuple [.int (n : Int), a, b]) = (itemsT b).map valOf := rfl
  rw [en, ep, ev]
  obtain ⟨_, td⟩ := td_tup ht
  have tb := td b (by simp)
  cases b with
  | tuple vs =>
    have h4' : (vs.all (valB n) && consec (fun x y => strLt (fst1 x) (fst1 y)) vs) = true := h4
    rw [Bool.and_eq_true, List.all_eq_true] at h4'
    have one : ∀ x ∈ vs, ∃ (w : Str) (l : List Nat), x = .tuple [.str w, .tuple (natD l)] ∧ valOf x = (w, l) ∧ (∀ k ∈ l, k < n) ∧ l.Pairwise (· < ·) := fun x hx => by
      obtain ⟨w, l, rfl, _, w2, w3⟩ := valB_nat (h4'.1 x hx)
      refine ⟨w, l, rfl, ?_, w2, w3⟩
      unfold valOf
      have e7 : itemsT (snd1 (.tuple [.str w, .tuple (natD l)])) = natD l := rfl
      rw [e7, natOf_nat]
      rfl
    refine ⟨?_, h1, ?_, p3, ?_, fun s l e => ?_⟩
    · unfold roomD
      rw [← p1]
      have e2 : vs = valD ((itemsT (.tuple vs)).map valOf) := by
        show vs = valD (vs.map valOf)
        unfold valD
        rw [List.map_map]
        refine List.ext_getElem (by rw [List.length_map]) fun i i1 i2 => ?_
        rw [List.getElem_map]
        obtain ⟨w, l, e, e3, _⟩ := one vs[i] (List.getElem_mem i1)
        show vs[i] = .tuple [.str (valOf vs[i]).1, .tuple (natD (valOf vs[i]).2)]
        rw [e3]
        exact e
      rw [← e2]
    · show (vs.map valOf).length ≤ 100000
      rw [List.length_map]
      exact (td_tup tb).1
    · show ((vs.map valOf).map Prod.fst).Nodup
      have up := consec_up h4'.2 fun x y z hx hy hz xy yz => by
        obtain ⟨w, l, rfl, _⟩ := one x hx
        obtain ⟨w2, l2, rfl, _⟩ := one y hy
        obtain ⟨w3, l3, rfl, _⟩ := one z hz
        have xy' : decide (w.cps.toList < w2.cps.toList) = true := xy
        have yz' : decide (w2.cps.toList < w3.cps.toList) = true := yz
        rw [decide_eq_true_eq] at xy' yz'
        show decide (w.cps.toList < w3.cps.toList) = true
        exact decide_eq_true (List.lt_trans xy' yz')
      rw [List.map_map]
      show List.Pairwise _ _
      rw [List.pairwise_map]
      refine up.imp_of_mem fun {x y} hx hy r => ?_
      obtain ⟨w, l, rfl, e1, _⟩ := one x hx
      obtain ⟨w2, l2, rfl, e2, _⟩ := one y hy
      show (valOf _).1 ≠ (valOf _).1
      rw [e1, e2]
      intro z
      have z' : w = w2 := z
      have r' : decide (w.cps.toList < w2.cps.toList) = true := r
      rw [decide_eq_true_eq, z'] at r'
      exact List.lt_irrefl _ r'
    · obtain ⟨v, hv, rfl⟩ := valL_mem e
      obtain ⟨x, hx, rfl⟩ := List.mem_map.mp hv
      obtain ⟨w, l, _, e1, e2, e3⟩ := one x hx
      rw [e1]
      have := up_len e2 e3
      exact ⟨by show l.length ≤ 600; omega, e2⟩
  | _ => cases h4
/-! ### drawn rooms are rooms -/
theorem dataLt_pair {a b c d : Int} (h : a < c ∨ (a = c ∧ b < d)) : PySem.W.dataLt (.tuple [.int a, .int b]) (.tuple [.int c, .int d]) = true := by
  rw [PySem.W.dataLt_tuple]
  simp only [PySem.W.keyToksAll, PySem.W.keyToks, List.cons_append, List.nil_append]
  rw [PyProof.Rows.lex_self (O := PyProof.Rows.itemOrd)]
  rcases h with h | ⟨rfl, h⟩
  · rw [PyProof.Rows.lex_diff (O := PyProof.Rows.itemOrd) (fun e => by cases e; omega)]
    exact decide_eq_true h
  · rw [PyProof.Rows.lex_self (O := PyProof.Rows.itemOrd), PyProof.Rows.lex_self (O := PyProof.Rows.itemOrd), PyProof.Rows.lex_diff (O := PyProof.Rows.itemOrd) (fun e => by cases e; omega)]
    exact decide_eq_true h
theorem consec_of {ds : List D} {f : D → D → Bool} (h : ds.Pairwise fun x y => f x y = true) : consec f ds = true := by
  unfold consec
  rw [List.all_eq_true]
  intro k hk
  rw [List.mem_range] at hk
  rw [List.getD_eq_getElem?_getD, List.getD_eq_getElem?_getD, List.getElem?_eq_getElem (by omega), List.getElem?_eq_getElem (by omega)]
  exact List.pairwise_iff_getElem.mp h k (k + 1) (by omega) (by omega) (by omega)
theorem riseB_up {n : Nat} {l : List Nat} (h : ∀ k ∈ l, k < n) (u : l.Pairwise (· < ·)) : riseB n (.tuple (natD l)) = true := by
  have e : riseB n (.tuple (natD l)) = rises n (l.map fun (k : Nat) => (k : Int)) := by
    show (match intsD (natD l) with | some ns => rises n ns | none => false) = _
    rw [intsD_nat]
  rw [e, rises_spec]
  intro k hk
  rw [List.length_map] at hk
  have g : ∀ j, (hj : j < l.length) → (l.map fun (k : Nat) => (k : Int)).getD j 0 = (l[j] : Int) := fun j hj => by
    rw [List.getD_eq_getElem?_getD, List.getElem?_map, List.getElem?_eq_getElem hj]
    rfl
  rw [g k hk]
  have := h _ (List.getElem_mem hk)
  refine ⟨by omega, by omega, ?_⟩
  by_cases z : k = 0
  · exact .inl z
  · refine .inr ?_
    rw [g (k - 1) (by omega)]
    have := List.pairwise_iff_getElem.mp u (k - 1) k (by omega) hk (by omega)
    omega
theorem room_isroom {names : List Str} {most n : Nat} {ps : List (Nat × Nat)} {vs : List (Str × List Nat)} (h : RoomOk names most n ps vs) (hm : most ≤ 600) (hw : ∀ s ∈ names, isW s = true) (hs : names.Pairwise fun a b => a.cps.toList < b.cps.toList) : roomB (roomD n ps vs) = true := by
  have n6 : n ≤ 600 := Nat.le_trans h.le hm
  have e : roomB (roomD n ps vs) = ((decide (1 ≤ (n : Int)) && decide ((n : Int) ≤ 600)) && (prsB n (.tuple (prsD ps)) && (valsB n (.tuple (valD vs)) && (valD vs).all (closedB ((n : Int)).toNat ((prsD ps).map prOf))))) := rfl
  have ep : (prsD ps).map prOf = ps := by
    unfold prsD
    rw [List.map_map]
    have e2 : (prOf ∘ fun p : Nat × Nat => PyData.tuple [.int (p.1 : Int), .int (p.2 : Int)]) = id := by
      funext p
      show (((p.1 : Int)).toNat, ((p.2 : Int)).toNat) = p
      have a : ((p.1 : Int)).toNat = p.1 := by omega
      have b : ((p.2 : Int)).toNat = p.2 := by omega
      rw [a, b]
    rw [e2, List.map_id]
  have en : ((n : Int)).toNat = n := by omega
  have h1 := h.pos
  rw [e, ep, en, decide_eq_true (show (1 : Int) ≤ (n : Int) by omega), decide_eq_true (show (n : Int) ≤ 600 by omega)]
  have p1 : prsB n (.tuple (prsD ps)) = true := by
    show ((prsD ps).all (pairB n) && consec PySem.W.dataLt (prsD ps)) = true
    rw [Bool.and_eq_true, List.all_eq_true]
    refine ⟨fun d hd => ?_, consec_of ?_⟩
    · unfold prsD at hd
      obtain ⟨p, hp, rfl⟩ := List.mem_map.mp hd
      obtain ⟨a, b⟩ := h.prs p hp
      show riseB n (.tuple (natD [p.1, p.2])) = true
      refine riseB_up (fun k hk => ?_) (by simpa using a)
      simp only [List.mem_cons, List.not_mem_nil, or_false] at hk
      omega
    · unfold prsD
      rw [List.pairwise_map]
      refine h.up.imp fun {p q} r => dataLt_pair ?_
      omega
  have cl : ∀ v ∈ vs, ∃ some : List Nat, (∀ k ∈ some, k < n) ∧ v.2 = oppN (apart ps) n (oppN (apart ps) n some) := h.cl
  have v1 : valsB n (.tuple (valD vs)) = true := by
    show ((valD vs).all (valB n) && consec (fun x y => strLt (fst1 x) (fst1 y)) (valD vs)) = true
    rw [Bool.and_eq_true, List.all_eq_true]
    refine ⟨fun d hd => ?_, consec_of ?_⟩
    · unfold valD at hd
      obtain ⟨v, hv, rfl⟩ := List.mem_map.mp hd
      obtain ⟨some, _, e2⟩ := cl v hv
      show (isW v.1 && riseB n (.tuple (natD v.2))) = true
      rw [hw v.1 (h.nms.subset (List.mem_map_of_mem hv)), riseB_up (by rw [e2]; exact oppN_lt) (by rw [e2]; exact oppN_up)]
      rfl
    · unfold valD
      rw [List.pairwise_map]
      have q := hs.sublist h.nms
      rw [List.pairwise_map] at q
      refine q.imp fun {x y} r => ?_
      show decide (x.1.cps.toList < y.1.cps.toList) = true
      exact decide_eq_true r
  have c1 : (valD vs).all (closedB n ps) = true := by
    rw [List.all_eq_true]
    intro d hd
    unfold valD at hd
    obtain ⟨v, hv, rfl⟩ := List.mem_map.mp hd
    obtain ⟨some, s1, e2⟩ := cl v hv
    unfold closedB
    have e7 : itemsT (snd1 (.tuple [.str v.1, .tuple (natD v.2)])) = natD v.2 := rfl
    rw [e7, natOf_nat, e2]
    exact decide_eq_true (opp3 (apart_sy ps) oppN_lt)
  rw [p1, v1, c1]
  rfl
/-! ### promises -/
def holdsB (d : D) (c : Fm × Fm) : Bool := (ptsF (apart (psOf d)) (nOf d) (valL (vsOf d)) c.1).all fun k => decide (k ∈ ptsF (apart (psOf d)) (nOf d) (valL (vsOf d)) c.2)
/-- a drawn claim -/
def CC (names : List Str) (k : Nat) (c : Fm × Fm) : Prop := (c.1.dep ≤ k ∧ c.2.dep ≤ k) ∧ ∀ s ∈ c.1.nms ++ c.2.nms, s ∈ names
def spClaim (n : Nat) : SpD := fun ds Q => ∃ (names : List Str) (deep : Nat), ds = [poolD, .list (names.map .str), .int (deep : Int)] ∧ (1 ≤ names.length ∧ names.length < 1000000) ∧ (1 ≤ deep ∧ deep < n) ∧ ∀ c : Fm × Fm, CC names (deep + 1) c → Q (.v (clD c))
def spTheory (n : Nat) : SpD := fun ds Q => ∃ (names : List Str) (many deep : Nat), ds = [poolD, .list (names.map .str), .int (many : Int), .int (deep : Int)] ∧ (1 ≤ names.length ∧ names.length < 1000000) ∧ (1 ≤ deep ∧ deep < n) ∧ many ≤ 1000 ∧ ∀ cs : List (Fm × Fm), cs.length ≤ many → (∀ c ∈ cs, CC names (deep + 1) c) → Q (.v (.tuple (cs.map clD)))
def spTrueOf (n : Nat) : SpD := fun ds Q => ∃ (names : List Str) (many deep : Nat) (r : D), ds = [poolD, r, .list (names.map .str), .int (many : Int), .int (deep : Int)] ∧ (1 ≤ names.length ∧ names.length < 1000000) ∧ (1 ≤ deep ∧ deep < n) ∧ many ≤ 1000 ∧ RmV r (nOf r) (psOf r) (vsOf r) ∧
  ∀ cs : List (Fm × Fm), cs.length ≤ many → (∀ c ∈ cs, CC names (deep + 1) c ∧ holdsB r c = true) → Q (.v (.tuple (cs.map clD)))
def spClQ : SpD := fun ds Q => ∃ d : D, ds = [d] ∧ tdD d = true ∧ Q (.v (.bool (clB d)))
def spClL : SpD := fun ds Q => ∃ d : D, ds = [d, .int 30] ∧ tdD d = true ∧ Q (.v (.bool (clB d)))
def spThQ : SpD := fun ds Q => ∃ d : D, ds = [d] ∧ tdD d = true ∧ Q (.v (.bool (thB d)))
def spRoomOf : SpD := fun ds Q => ∃ (cs : List (Fm × Fm)) (d : D), ds = [.tuple (cs.map clD), d] ∧ tdD d = true ∧ cs.length ≤ 100000 ∧ (∀ c ∈ cs, c.1.dep < 20 ∧ c.2.dep < 20) ∧ Q (.v (.bool (roomB d && cs.all (holdsB d))))
end DL

namespace LW
open PySem PySem.Spec PyProof.Rows L2 DL
def topS (i : Nat) : Stmt := PySem.Challenge.pw_orthorooms_k10_whole_derivations_judged.main.body.getD i (.Pass ⟨0, 0, 0, 0⟩)
abbrev s_is_integer : Stmt := topS 6
def c_is_integer : CSs := (.cons (.ret (.and (.isi (.var 0) [.bint]) (.not (.isi (.var 0) [.bbool])))) .nil)
theorem t_is_integer : cB ⟨[], []⟩ ["value"] s_is_integer = some c_is_integer := by rfl
theorem sc_is_integer : FnScope ["value"] ["value"] (defScope s_is_integer) := ⟨rfl, rfl, rfl, by decide +kernel, rfl, by decide +kernel, by decide +kernel⟩
abbrev s_is_word : Stmt := topS 7
def c_is_word : CSs := (.cons (.ite (.or (.not (.isi (.var 0) [.bstr])) (.cmp .In (.var 0) (.glb 1))) (.cons (.ret (.bl false)) .nil) .nil) (.cons (.ret (.and (.chn .LtE .LtE (.int 1) (.b1 .len (.var 0)) (.glb 2)) (.b1 .all (.comp (.cmp .In (.var 1) (.glb 0)) (.nm 1) (.val (.var 0)) .nil [1])))) .nil))
theorem t_is_word : cB ⟨[], [("LETTERS", 0), ("MOST_LETTERS", 2), ("TAKEN", 1)]⟩ ["value", "letter"] s_is_word = some c_is_word := by rfl
theorem sc_is_word : FnScope ["value", "letter"] ["value"] (defScope s_is_word) := ⟨rfl, rfl, rfl, by decide +kernel, rfl, by decide +kernel, by decide +kernel⟩
abbrev s_is_within : Stmt := topS 8
def c_is_within : CSs := (.cons (.ite (.or (.cmp .Lt (.var 1) (.int 0)) (.or (.not (.isi (.var 0) [.btuple])) (.or (.cmp .Eq (.b1 .len (.var 0)) (.int 0)) (.not (.isi (.ix (.var 0) (.int 0)) [.bstr]))))) (.cons (.ret (.bl false)) .nil) .nil) (.cons (.asg 2 (.ix (.var 0) (.int 0))) (.cons (.ite (.cmp .In (.var 2) (.tup (.cons (.str "all") (.cons (.str "none") .nil)))) (.cons (.ret (.cmp .Eq (.b1 .len (.var 0)) (.int 1))) .nil) .nil) (.cons (.ite (.cmp .Eq (.var 2) (.str "name")) (.cons (.ret (.and (.cmp .Eq (.b1 .len (.var 0)) (.int 2)) (.call 1 (.cons (.ix (.var 0) (.int 1)) .nil)))) .nil) .nil) (.cons (.ite (.cmp .Eq (.var 2) (.str "not")) (.cons (.ret (.and (.cmp .Eq (.b1 .len (.var 0)) (.int 2)) (.call 2 (.cons (.ix (.var 0) (.int 1)) (.cons (.bin .Sub (.var 1) (.int 1)) .nil))))) .nil) .nil) (.cons (.ite (.cmp .In (.var 2) (.tup (.cons (.str "both") (.cons (.str "either") .nil)))) (.cons (.ret (.and (.cmp .Eq (.b1 .len (.var 0)) (.int 3)) (.and (.call 2 (.cons (.ix (.var 0) (.int 1)) (.cons (.bin .Sub (.var 1) (.int 1)) .nil))) (.call 2 (.cons (.ix (.var 0) (.int 2)) (.cons (.bin .Sub (.var 1) (.int 1)) .nil)))))) .nil) .nil) (.cons (.ret (.bl false)) .nil)))))))
theorem t_is_within : cB ⟨[("is_within", 2), ("is_word", 1)], []⟩ ["value", "deep", "word"] s_is_within = some c_is_within := by rfl
theorem sc_is_within : FnScope ["value", "deep", "word"] ["value", "deep"] (defScope s_is_within) := ⟨rfl, rfl, rfl, by decide +kernel, rfl, by decide +kernel, by decide +kernel⟩
abbrev s_is_row : Stmt := topS 12
def c_is_row : CSs := (.cons (.ite (.or (.not (.isi (.var 0) [.btuple])) (.cmp .NotEq (.b1 .len (.var 0)) (.int 2))) (.cons (.ret (.bl false)) .nil) .nil) (.cons (.unp [1, 2] (.var 0)) (.cons (.ite (.or (.not (.isi (.var 1) [.btuple])) (.or (.cmp .NotEq (.b1 .len (.var 1)) (.int 2)) (.not (.b1 .all (.comp (.call 2 (.cons (.var 3) (.cons (.glb 5) .nil))) (.nm 3) (.val (.var 1)) .nil [3]))))) (.cons (.ret (.bl false)) .nil) .nil) (.cons (.ite (.or (.not (.isi (.var 2) [.btuple])) (.or (.cmp .Eq (.b1 .len (.var 2)) (.int 0)) (.not (.isi (.ix (.var 2) (.int 0)) [.bstr])))) (.cons (.ret (.bl false)) .nil) .nil) (.cons (.ret (.b1 .all (.comp (.call 0 (.cons (.var 4) .nil)) (.nm 4) (.val (.sl (.var 2) (.some (.int 1)) .no)) .nil [4]))) .nil)))))
theorem t_is_row : cB ⟨[("is_integer", 0), ("is_within", 2)], [("MOST_DEPTH", 5)]⟩ ["value", "claim", "why", "part", "k"] s_is_row = some c_is_row := by rfl
theorem sc_is_row : FnScope ["value", "claim", "why", "part", "k"] ["value"] (defScope s_is_row) := ⟨rfl, rfl, rfl, by decide +kernel, rfl, by decide +kernel, by decide +kernel⟩
abbrev s_alone_shows : Stmt := topS 13
def c_alone_shows : CSs := (.cons (.unp [2, 3] (.var 0)) (.cons (.ite (.cmp .Eq (.var 1) (.str "same")) (.cons (.ret (.cmp .Eq (.var 2) (.var 3))) .nil) .nil) (.cons (.ite (.cmp .Eq (.var 1) (.str "twice")) (.cons (.ret (.or (.cmp .Eq (.var 3) (.tup (.cons (.str "not") (.cons (.tup (.cons (.str "not") (.cons (.var 2) .nil))) .nil)))) (.cmp .Eq (.var 2) (.tup (.cons (.str "not") (.cons (.tup (.cons (.str "not") (.cons (.var 3) .nil))) .nil)))))) .nil) .nil) (.cons (.ite (.cmp .Eq (.var 1) (.str "low")) (.cons (.ret (.or (.cmp .Eq (.var 2) (.glb 4)) (.cmp .Eq (.var 3) (.glb 3)))) .nil) .nil) (.cons (.ite (.cmp .In (.var 1) (.tup (.cons (.str "first") (.cons (.str "second") .nil)))) (.cons (.ret (.and (.cmp .Eq (.ix (.var 2) (.int 0)) (.str "both")) (.cmp .Eq (.ix (.var 2) (.ite (.cmp .Eq (.var 1) (.str "first")) (.int 1) (.int 2))) (.var 3)))) .nil) .nil) (.cons (.ret (.and (.cmp .Eq (.ix (.var 3) (.int 0)) (.str "either")) (.cmp .Eq (.ix (.var 3) (.ite (.cmp .Eq (.var 1) (.str "one")) (.int 1) (.int 2))) (.var 2)))) .nil))))))
theorem t_alone_shows : cB ⟨[], [("ALL", 3), ("NONE", 4)]⟩ ["claim", "word", "one", "two"] s_alone_shows = some c_alone_shows := by rfl
theorem sc_alone_shows : FnScope ["claim", "word", "one", "two"] ["claim", "word"] (defScope s_alone_shows) := ⟨rfl, rfl, rfl, by decide +kernel, rfl, by decide +kernel, by decide +kernel⟩
abbrev s_row_shows : Stmt := topS 14
def c_row_shows : CSs := (.cons (.unp [3, 4] (.var 2)) (.cons (.ite (.cmp .Eq (.var 1) (.str "turn")) (.cons (.ret (.cmp .Eq (.var 0) (.tup (.cons (.tup (.cons (.str "not") (.cons (.var 4) .nil))) (.cons (.tup (.cons (.str "not") (.cons (.var 3) .nil))) .nil))))) .nil) .nil) (.cons (.ret (.and (.cmp .Eq (.var 1) (.str "never")) (.and (.cmp .Eq (.var 4) (.tup (.cons (.str "not") (.cons (.var 3) .nil)))) (.cmp .Eq (.ix (.var 0) (.int 0)) (.var 3))))) .nil)))
theorem t_row_shows : cB ⟨[], []⟩ ["claim", "word", "before", "one", "two"] s_row_shows = some c_row_shows := by rfl
theorem sc_row_shows : FnScope ["claim", "word", "before", "one", "two"] ["claim", "word", "before"] (defScope s_row_shows) := ⟨rfl, rfl, rfl, by decide +kernel, rfl, by decide +kernel, by decide +kernel⟩
abbrev s_rows_show : Stmt := topS 15
def c_rows_show : CSs := (.cons (.ite (.cmp .Eq (.var 1) (.str "chain")) (.cons (.ret (.and (.cmp .Eq (.ix (.var 2) (.int 1)) (.ix (.var 3) (.int 0))) (.cmp .Eq (.var 0) (.tup (.cons (.ix (.var 2) (.int 0)) (.cons (.ix (.var 3) (.int 1)) .nil)))))) .nil) .nil) (.cons (.ite (.cmp .Eq (.var 1) (.str "meet")) (.cons (.ret (.and (.cmp .Eq (.ix (.var 2) (.int 0)) (.ix (.var 3) (.int 0))) (.cmp .Eq (.var 0) (.tup (.cons (.ix (.var 2) (.int 0)) (.cons (.tup (.cons (.str "both") (.cons (.ix (.var 2) (.int 1)) (.cons (.ix (.var 3) (.int 1)) .nil)))) .nil)))))) .nil) .nil) (.cons (.ret (.and (.cmp .Eq (.var 1) (.str "join")) (.and (.cmp .Eq (.ix (.var 2) (.int 1)) (.ix (.var 3) (.int 1))) (.cmp .Eq (.var 0) (.tup (.cons (.tup (.cons (.str "either") (.cons (.ix (.var 2) (.int 0)) (.cons (.ix (.var 3) (.int 0)) .nil)))) (.cons (.ix (.var 2) (.int 1)) .nil))))))) .nil)))
theorem t_rows_show : cB ⟨[], []⟩ ["claim", "word", "left", "right"] s_rows_show = some c_rows_show := by rfl
theorem sc_rows_show : FnScope ["claim", "word", "left", "right"] ["claim", "word", "left", "right"] (defScope s_rows_show) := ⟨rfl, rfl, rfl, by decide +kernel, rfl, by decide +kernel, by decide +kernel⟩
abbrev s_is_shown : Stmt := topS 16
def c_is_shown : CSs := (.cons (.unp [3, 4] (.ix (.var 1) (.var 2))) (.cons (.par 5 6 (.ix (.var 4) (.int 0)) (.sl (.var 4) (.some (.int 1)) .no)) (.cons (.ite (.cmp .In (.var 5) (.glb 6)) (.cons (.ret (.and (.cmp .Eq (.b1 .len (.var 6)) (.int 0)) (.call 4 (.cons (.var 3) (.cons (.var 5) .nil))))) .nil) .nil) (.cons (.ite (.cmp .Eq (.var 5) (.str "given")) (.cons (.ret (.and (.cmp .Eq (.b1 .len (.var 6)) (.int 1)) (.and (.chn .LtE .Lt (.int 0) (.ix (.var 6) (.int 0)) (.b1 .len (.var 0))) (.cmp .Eq (.ix (.var 0) (.ix (.var 6) (.int 0))) (.var 3))))) .nil) .nil) (.cons (.ite (.not (.b1 .all (.comp (.chn .LtE .Lt (.int 0) (.var 7) (.var 2)) (.nm 7) (.val (.var 6)) .nil [7]))) (.cons (.ret (.bl false)) .nil) .nil) (.cons (.ite (.cmp .Eq (.b1 .len (.var 6)) (.int 1)) (.cons (.ret (.call 5 (.cons (.var 3) (.cons (.var 5) (.cons (.ix (.ix (.var 1) (.ix (.var 6) (.int 0))) (.int 0)) .nil))))) .nil) .nil) (.cons (.ret (.and (.cmp .Eq (.b1 .len (.var 6)) (.int 2)) (.call 6 (.cons (.var 3) (.cons (.var 5) (.cons (.ix (.ix (.var 1) (.ix (.var 6) (.int 0))) (.int 0)) (.cons (.ix (.ix (.var 1) (.ix (.var 6) (.int 1))) (.int 0)) .nil))))))) .nil)))))))
theorem t_is_shown : cB ⟨[("rows_show", 6), ("row_shows", 5), ("alone_shows", 4)], [("ALONE", 6)]⟩ ["theory", "rows", "k", "claim", "why", "word", "places", "place"] s_is_shown = some c_is_shown := by rfl
theorem sc_is_shown : FnScope ["theory", "rows", "k", "claim", "why", "word", "places", "place"] ["theory", "rows", "k"] (defScope s_is_shown) := ⟨rfl, rfl, rfl, by decide +kernel, rfl, by decide +kernel, by decide +kernel⟩
abbrev s_is_derivation : Stmt := topS 17
def c_is_derivation : CSs := (.cons (.ite (.or (.not (.isi (.var 2) [.btuple])) (.or (.cmp .Eq (.b1 .len (.var 2)) (.int 0)) (.not (.b1 .all (.comp (.call 3 (.cons (.var 3) .nil)) (.nm 3) (.val (.var 2)) .nil [3]))))) (.cons (.ret (.bl false)) .nil) .nil) (.cons (.ret (.and (.cmp .Eq (.ix (.ix (.var 2) (.neg (.int 1))) (.int 0)) (.var 1)) (.b1 .all (.comp (.call 7 (.cons (.var 0) (.cons (.var 2) (.cons (.var 4) .nil)))) (.nm 4) (.rng1 (.b1 .len (.var 2))) .nil [4])))) .nil))
theorem t_is_derivation : cB ⟨[("is_shown", 7), ("is_row", 3)], []⟩ ["theory", "claim", "value", "row", "k"] s_is_derivation = some c_is_derivation := by rfl
theorem sc_is_derivation : FnScope ["theory", "claim", "value", "row", "k"] ["theory", "claim", "value"] (defScope s_is_derivation) := ⟨rfl, rfl, rfl, by decide +kernel, rfl, by decide +kernel, by decide +kernel⟩
abbrev s_law_pool : Stmt := topS 19
def c_law_pool : CSs := (.cons (.asg 1 (.int 7)) (.cons (.for_ (.nm 2) (.val (.sl (.var 0) .no (.some (.int 63)))) (.cons (.asg 1 (.bin .Mod (.b1 .int (.bin .Add (.bin .Mult (.var 1) (.int 31)) (.var 2))) (.int 1000003))) .nil)) (.cons (.ret (.lst (.cons (.b1 .list (.var 0)) (.cons (.int 0) (.cons (.int 0) (.cons (.int 0) (.cons (.var 1) .nil))))))) .nil)))
theorem t_law_pool : cB ⟨[], []⟩ ["script", "salt", "cell"] s_law_pool = some c_law_pool := by rfl
theorem sc_law_pool : FnScope ["script", "salt", "cell"] ["script"] (defScope s_law_pool) := ⟨rfl, rfl, rfl, by decide +kernel, rfl, by decide +kernel, by decide +kernel⟩
abbrev s_law_spread : Stmt := topS 20
def c_law_spread : CSs := (.cons (.asg 1 (.bin .Mod (.b1 .int (.var 0)) (.int 2147483647))) (.cons (.asg 2 (.int 1)) (.cons (.for_ (.nm 3) (.rng1 (.int 4)) (.cons (.asg 1 (.bin .Mod (.b1 .int (.bin .Add (.bin .Add (.bin .Mult (.var 1) (.int 48271)) (.int 12345)) (.var 3))) (.int 2147483647))) (.cons (.asg 2 (.bin .Add (.bin .Mult (.var 2) (.int 2147483647)) (.var 1))) .nil))) (.cons (.ret (.var 2)) .nil))))
theorem t_law_spread : cB ⟨[], []⟩ ["cell", "blended", "whole_sum", "k"] s_law_spread = some c_law_spread := by rfl
theorem sc_law_spread : FnScope ["cell", "blended", "whole_sum", "k"] ["cell"] (defScope s_law_spread) := ⟨rfl, rfl, rfl, by decide +kernel, rfl, by decide +kernel, by decide +kernel⟩
-- _law_draw target
abbrev s_law_pick : Stmt := topS 22
def c_law_pick : CSs := (.cons (.ret (.ix (.var 1) (.call 11 (.cons (.var 0) (.cons (.b1 .len (.var 1)) .nil))))) .nil)
theorem t_law_pick : cB ⟨[("_law_draw", 11)], []⟩ ["pool", "items"] s_law_pick = some c_law_pick := by rfl
theorem sc_law_pick : FnScope ["pool", "items"] ["pool", "items"] (defScope s_law_pick) := ⟨rfl, rfl, rfl, by decide +kernel, rfl, by decide +kernel, by decide +kernel⟩
abbrev s_law_formula : Stmt := topS 23
def c_law_formula : CSs := (.cons (.asg 3 (.call 11 (.cons (.var 0) (.cons (.ite (.cmp .Gt (.var 2) (.int 0)) (.int 10) (.int 3)) .nil)))) (.cons (.ite (.cmp .Lt (.var 3) (.int 3)) (.cons (.asg 4 (.call 11 (.cons (.var 0) (.cons (.int 14) .nil)))) (.cons (.ret (.ite (.cmp .Eq (.var 4) (.int 0)) (.tup (.cons (.str "all") .nil)) (.ite (.cmp .Eq (.var 4) (.int 1)) (.tup (.cons (.str "none") .nil)) (.tup (.cons (.str "name") (.cons (.call 12 (.cons (.var 0) (.cons (.var 1) .nil))) .nil)))))) .nil)) .nil) (.cons (.ite (.cmp .Lt (.var 3) (.int 5)) (.cons (.ret (.tup (.cons (.str "not") (.cons (.call 13 (.cons (.var 0) (.cons (.var 1) (.cons (.bin .Sub (.var 2) (.int 1)) .nil)))) .nil)))) .nil) .nil) (.cons (.asg 5 (.call 13 (.cons (.var 0) (.cons (.var 1) (.cons (.bin .Sub (.var 2) (.int 1)) .nil))))) (.cons (.ret (.tup (.cons (.ite (.cmp .Lt (.var 3) (.int 8)) (.str "both") (.str "either")) (.cons (.var 5) (.cons (.call 13 (.cons (.var 0) (.cons (.var 1) (.cons (.bin .Sub (.var 2) (.int 1)) .nil)))) .nil))))) .nil)))))
theorem t_law_formula : cB ⟨[("_law_formula", 13), ("_law_pick", 12), ("_law_draw", 11)], []⟩ ["pool", "names", "deep", "turn", "some", "one"] s_law_formula = some c_law_formula := by rfl
theorem sc_law_formula : FnScope ["pool", "names", "deep", "turn", "some", "one"] ["pool", "names", "deep"] (defScope s_law_formula) := ⟨rfl, rfl, rfl, by decide +kernel, rfl, by decide +kernel, by decide +kernel⟩
abbrev s_law_claim : Stmt := topS 24
def c_law_claim : CSs := (.cons (.asg 3 (.call 13 (.cons (.var 0) (.cons (.var 1) (.cons (.var 2) .nil))))) (.cons (.asg 4 (.call 11 (.cons (.var 0) (.cons (.int 8) .nil)))) (.cons (.ite (.cmp .Eq (.var 4) (.int 0)) (.cons (.ret (.tup (.cons (.var 3) (.cons (.tup (.cons (.str "either") (.cons (.var 3) (.cons (.call 13 (.cons (.var 0) (.cons (.var 1) (.cons (.bin .Sub (.var 2) (.int 1)) .nil)))) .nil)))) .nil)))) .nil) .nil) (.cons (.ite (.cmp .Eq (.var 4) (.int 1)) (.cons (.ret (.tup (.cons (.tup (.cons (.str "both") (.cons (.call 13 (.cons (.var 0) (.cons (.var 1) (.cons (.bin .Sub (.var 2) (.int 1)) .nil)))) (.cons (.var 3) .nil)))) (.cons (.var 3) .nil)))) .nil) .nil) (.cons (.ret (.tup (.cons (.var 3) (.cons (.call 13 (.cons (.var 0) (.cons (.var 1) (.cons (.var 2) .nil)))) .nil)))) .nil)))))
theorem t_law_claim : cB ⟨[("_law_formula", 13), ("_law_draw", 11)], []⟩ ["pool", "names", "deep", "one", "turn"] s_law_claim = some c_law_claim := by rfl
theorem sc_law_claim : FnScope ["pool", "names", "deep", "one", "turn"] ["pool", "names", "deep"] (defScope s_law_claim) := ⟨rfl, rfl, rfl, by decide +kernel, rfl, by decide +kernel, by decide +kernel⟩
abbrev s_law_theory : Stmt := topS 25
def c_law_theory : CSs := (.cons (.ret (.b1 .tuple (.comp (.call 14 (.cons (.var 0) (.cons (.var 1) (.cons (.var 3) .nil)))) (.nm 4) (.rng1 (.call 11 (.cons (.var 0) (.cons (.bin .Add (.var 2) (.int 1)) .nil)))) .nil [4]))) .nil)
theorem t_law_theory : cB ⟨[("_law_draw", 11), ("_law_claim", 14)], []⟩ ["pool", "names", "many", "deep", "k"] s_law_theory = some c_law_theory := by rfl
theorem sc_law_theory : FnScope ["pool", "names", "many", "deep", "k"] ["pool", "names", "many", "deep"] (defScope s_law_theory) := ⟨rfl, rfl, rfl, by decide +kernel, rfl, by decide +kernel, by decide +kernel⟩
abbrev s_law_row : Stmt := topS 26
def c_law_row : CSs := (.cons (.par 4 5 (.call 13 (.cons (.var 0) (.cons (.var 3) (.cons (.int 1) .nil)))) (.call 13 (.cons (.var 0) (.cons (.var 3) (.cons (.int 1) .nil))))) (.cons (.asg 6 (.call 11 (.cons (.var 0) (.cons (.int 14) .nil)))) (.cons (.asg 7 (.lst (.cons (.tup (.cons (.tup (.cons (.var 4) (.cons (.var 4) .nil))) (.cons (.tup (.cons (.str "same") .nil)) .nil))) (.cons (.tup (.cons (.tup (.cons (.tup (.cons (.str "none") .nil)) (.cons (.var 4) .nil))) (.cons (.tup (.cons (.str "low") .nil)) .nil))) (.cons (.tup (.cons (.tup (.cons (.var 4) (.cons (.tup (.cons (.str "all") .nil)) .nil))) (.cons (.tup (.cons (.str "low") .nil)) .nil))) (.cons (.tup (.cons (.tup (.cons (.var 4) (.cons (.tup (.cons (.str "not") (.cons (.tup (.cons (.str "not") (.cons (.var 4) .nil))) .nil))) .nil))) (.cons (.tup (.cons (.str "twice") .nil)) .nil))) (.cons (.tup (.cons (.tup (.cons (.tup (.cons (.str "not") (.cons (.tup (.cons (.str "not") (.cons (.var 4) .nil))) .nil))) (.cons (.var 4) .nil))) (.cons (.tup (.cons (.str "twice") .nil)) .nil))) (.cons (.tup (.cons (.tup (.cons (.tup (.cons (.str "both") (.cons (.var 4) (.cons (.var 5) .nil)))) (.cons (.var 4) .nil))) (.cons (.tup (.cons (.str "first") .nil)) .nil))) (.cons (.tup (.cons (.tup (.cons (.tup (.cons (.str "both") (.cons (.var 4) (.cons (.var 5) .nil)))) (.cons (.var 5) .nil))) (.cons (.tup (.cons (.str "second") .nil)) .nil))) (.cons (.tup (.cons (.tup (.cons (.var 4) (.cons (.tup (.cons (.str "either") (.cons (.var 4) (.cons (.var 5) .nil)))) .nil))) (.cons (.tup (.cons (.str "one") .nil)) .nil))) (.cons (.tup (.cons (.tup (.cons (.var 5) (.cons (.tup (.cons (.str "either") (.cons (.var 4) (.cons (.var 5) .nil)))) .nil))) (.cons (.tup (.cons (.str "other") .nil)) .nil))) .nil))))))))))) (.cons (.ite (.or (.cmp .Lt (.var 6) (.int 4)) (.cmp .Eq (.b1 .len (.var 2)) (.int 0))) (.cons (.ret (.call 12 (.cons (.var 0) (.cons (.var 7) .nil)))) .nil) .nil) (.cons (.ite (.and (.cmp .Lt (.var 6) (.int 6)) (.cmp .Gt (.b1 .len (.var 1)) (.int 0))) (.cons (.asg 8 (.call 11 (.cons (.var 0) (.cons (.b1 .len (.var 1)) .nil)))) (.cons (.ret (.tup (.cons (.ix (.var 1) (.var 8)) (.cons (.tup (.cons (.str "given") (.cons (.var 8) .nil))) .nil)))) .nil)) .nil) (.cons (.asg 9 (.call 11 (.cons (.var 0) (.cons (.b1 .len (.var 2)) .nil)))) (.cons (.unp2 10 11 12 (.tup (.cons (.ix (.ix (.var 2) (.var 9)) (.int 0)) (.cons (.lst .nil) .nil)))) (.cons (.ite (.cmp .Lt (.var 6) (.int 8)) (.cons (.ret (.tup (.cons (.tup (.cons (.tup (.cons (.str "not") (.cons (.var 11) .nil))) (.cons (.tup (.cons (.str "not") (.cons (.var 10) .nil))) .nil))) (.cons (.tup (.cons (.str "turn") (.cons (.var 9) .nil))) .nil)))) .nil) .nil) (.cons (.for_ (.nm 13) (.rng1 (.b1 .len (.var 2))) (.cons (.unp [14, 15] (.ix (.ix (.var 2) (.var 13)) (.int 0))) (.cons (.asg 12 (.bin .Add (.bin .Add (.var 12) (.ite (.cmp .Eq (.var 11) (.var 14)) (.lst (.cons (.tup (.cons (.tup (.cons (.var 10) (.cons (.var 15) .nil))) (.cons (.tup (.cons (.str "chain") (.cons (.var 9) (.cons (.var 13) .nil)))) .nil))) .nil)) (.lst .nil))) (.ite (.cmp .Eq (.var 10) (.var 14)) (.lst (.cons (.tup (.cons (.tup (.cons (.var 10) (.cons (.tup (.cons (.str "both") (.cons (.var 11) (.cons (.var 15) .nil)))) .nil))) (.cons (.tup (.cons (.str "meet") (.cons (.var 9) (.cons (.var 13) .nil)))) .nil))) .nil)) (.lst .nil)))) (.cons (.asg 12 (.bin .Add (.var 12) (.ite (.cmp .Eq (.var 11) (.var 15)) (.lst (.cons (.tup (.cons (.tup (.cons (.tup (.cons (.str "either") (.cons (.var 10) (.cons (.var 14) .nil)))) (.cons (.var 11) .nil))) (.cons (.tup (.cons (.str "join") (.cons (.var 9) (.cons (.var 13) .nil)))) .nil))) .nil)) (.lst .nil)))) .nil)))) (.cons (.ite (.cmp .Eq (.var 11) (.tup (.cons (.str "not") (.cons (.var 10) .nil)))) (.cons (.ret (.tup (.cons (.tup (.cons (.var 10) (.cons (.var 4) .nil))) (.cons (.tup (.cons (.str "never") (.cons (.var 9) .nil))) .nil)))) .nil) .nil) (.cons (.ret (.ite (.cmp .Gt (.b1 .len (.var 12)) (.int 0)) (.call 12 (.cons (.var 0) (.cons (.var 12) .nil))) (.tup (.cons (.tup (.cons (.var 10) (.cons (.var 10) .nil))) (.cons (.tup (.cons (.str "same") .nil)) .nil))))) .nil)))))))))))
theorem t_law_row : cB ⟨[("_law_pick", 12), ("_law_draw", 11), ("_law_formula", 13)], []⟩ ["pool", "theory", "rows", "names", "one", "two", "turn", "alone", "k", "i", "a", "b", "pairs", "j", "c", "d"] s_law_row = some c_law_row := by rfl
theorem sc_law_row : FnScope ["pool", "theory", "rows", "names", "one", "two", "turn", "alone", "k", "i", "a", "b", "pairs", "j", "c", "d"] ["pool", "theory", "rows", "names"] (defScope s_law_row) := ⟨rfl, rfl, rfl, by decide +kernel, rfl, by decide +kernel, by decide +kernel⟩
abbrev s_law_is_word : Stmt := topS 27
def c_law_is_word : CSs := (.cons (.ite (.or (.not (.isi (.var 0) [.bstr])) (.or (.cmp .In (.var 0) (.tup (.cons (.str "all") (.cons (.str "and") (.cons (.str "below") (.cons (.str "none") (.cons (.str "not") (.cons (.str "or") .nil)))))))) (.or (.cmp .Lt (.b1 .len (.var 0)) (.int 1)) (.cmp .Gt (.b1 .len (.var 0)) (.int 12))))) (.cons (.ret (.bl false)) .nil) .nil) (.cons (.ret (.cmp .Eq (.b1 .len (.comp (.var 1) (.nm 1) (.val (.var 0)) (.cons (.or (.cmp .Lt (.var 1) (.str "a")) (.cmp .Gt (.var 1) (.str "z"))) .nil) [1])) (.int 0))) .nil))
theorem t_law_is_word : cB ⟨[], []⟩ ["value", "sign"] s_law_is_word = some c_law_is_word := by rfl
theorem sc_law_is_word : FnScope ["value", "sign"] ["value"] (defScope s_law_is_word) := ⟨rfl, rfl, rfl, by decide +kernel, rfl, by decide +kernel, by decide +kernel⟩
abbrev s_law_is_formula : Stmt := topS 28
def c_law_is_formula : CSs := (.cons (.ite (.or (.cmp .Lt (.var 1) (.int 0)) (.or (.not (.isi (.var 0) [.btuple])) (.or (.cmp .Eq (.b1 .len (.var 0)) (.int 0)) (.not (.isi (.ix (.var 0) (.int 0)) [.bstr]))))) (.cons (.ret (.bl false)) .nil) .nil) (.cons (.ite (.cmp .In (.ix (.var 0) (.int 0)) (.tup (.cons (.str "all") (.cons (.str "none") .nil)))) (.cons (.ret (.cmp .Eq (.b1 .len (.var 0)) (.int 1))) .nil) .nil) (.cons (.ite (.cmp .Eq (.ix (.var 0) (.int 0)) (.str "name")) (.cons (.ret (.and (.cmp .Eq (.b1 .len (.var 0)) (.int 2)) (.call 17 (.cons (.ix (.var 0) (.int 1)) .nil)))) .nil) .nil) (.cons (.ite (.cmp .Eq (.ix (.var 0) (.int 0)) (.str "not")) (.cons (.ret (.and (.cmp .Eq (.b1 .len (.var 0)) (.int 2)) (.call 18 (.cons (.ix (.var 0) (.int 1)) (.cons (.bin .Sub (.var 1) (.int 1)) .nil))))) .nil) .nil) (.cons (.ite (.or (.cmp .NotIn (.ix (.var 0) (.int 0)) (.tup (.cons (.str "both") (.cons (.str "either") .nil)))) (.cmp .NotEq (.b1 .len (.var 0)) (.int 3))) (.cons (.ret (.bl false)) .nil) .nil) (.cons (.ret (.and (.call 18 (.cons (.ix (.var 0) (.int 1)) (.cons (.bin .Sub (.var 1) (.int 1)) .nil))) (.call 18 (.cons (.ix (.var 0) (.int 2)) (.cons (.bin .Sub (.var 1) (.int 1)) .nil))))) .nil))))))
theorem t_law_is_formula : cB ⟨[("_law_is_formula", 18), ("_law_is_word", 17)], []⟩ ["value", "deep"] s_law_is_formula = some c_law_is_formula := by rfl
theorem sc_law_is_formula : FnScope ["value", "deep"] ["value", "deep"] (defScope s_law_is_formula) := ⟨rfl, rfl, rfl, by decide +kernel, rfl, by decide +kernel, by decide +kernel⟩
abbrev s_law_is_claim : Stmt := topS 29
def c_law_is_claim : CSs := (.cons (.ret (.and (.isi (.var 0) [.btuple]) (.and (.cmp .Eq (.b1 .len (.var 0)) (.int 2)) (.and (.call 18 (.cons (.ix (.var 0) (.int 0)) (.cons (.var 1) .nil))) (.call 18 (.cons (.ix (.var 0) (.int 1)) (.cons (.var 1) .nil))))))) .nil)
theorem t_law_is_claim : cB ⟨[("_law_is_formula", 18)], []⟩ ["value", "deep"] s_law_is_claim = some c_law_is_claim := by rfl
theorem sc_law_is_claim : FnScope ["value", "deep"] ["value", "deep"] (defScope s_law_is_claim) := ⟨rfl, rfl, rfl, by decide +kernel, rfl, by decide +kernel, by decide +kernel⟩
abbrev s_law_is_integer : Stmt := topS 30
def c_law_is_integer : CSs := (.cons (.ret (.and (.isi (.var 0) [.bint]) (.not (.isi (.var 0) [.bbool])))) .nil)
theorem t_law_is_integer : cB ⟨[], []⟩ ["actual"] s_law_is_integer = some c_law_is_integer := by rfl
theorem sc_law_is_integer : FnScope ["actual"] ["actual"] (defScope s_law_is_integer) := ⟨rfl, rfl, rfl, by decide +kernel, rfl, by decide +kernel, by decide +kernel⟩
abbrev s_law_shown_alone : Stmt := topS 31
def c_law_shown_alone : CSs := (.cons (.unp [2, 3] (.var 0)) (.cons (.ite (.cmp .Eq (.var 1) (.str "same")) (.cons (.ret (.cmp .Eq (.var 2) (.var 3))) .nil) .nil) (.cons (.ite (.cmp .Eq (.var 1) (.str "low")) (.cons (.ret (.or (.cmp .Eq (.var 2) (.tup (.cons (.str "none") .nil))) (.cmp .Eq (.var 3) (.tup (.cons (.str "all") .nil))))) .nil) .nil) (.cons (.ite (.cmp .Eq (.var 1) (.str "twice")) (.cons (.ret (.or (.cmp .Eq (.var 3) (.tup (.cons (.str "not") (.cons (.tup (.cons (.str "not") (.cons (.var 2) .nil))) .nil)))) (.cmp .Eq (.var 2) (.tup (.cons (.str "not") (.cons (.tup (.cons (.str "not") (.cons (.var 3) .nil))) .nil)))))) .nil) .nil) (.cons (.ite (.cmp .In (.var 1) (.tup (.cons (.str "first") (.cons (.str "second") .nil)))) (.cons (.ret (.and (.cmp .Eq (.ix (.var 2) (.int 0)) (.str "both")) (.cmp .Eq (.ix (.var 2) (.bin .Add (.int 1) (.ite (.cmp .Eq (.var 1) (.str "second")) (.int 1) (.int 0)))) (.var 3)))) .nil) .nil) (.cons (.ret (.and (.cmp .In (.var 1) (.tup (.cons (.str "one") (.cons (.str "other") .nil)))) (.and (.cmp .Eq (.ix (.var 3) (.int 0)) (.str "either")) (.cmp .Eq (.ix (.var 3) (.bin .Add (.int 1) (.ite (.cmp .Eq (.var 1) (.str "other")) (.int 1) (.int 0)))) (.var 2))))) .nil))))))
theorem t_law_shown_alone : cB ⟨[], []⟩ ["claim", "word", "one", "two"] s_law_shown_alone = some c_law_shown_alone := by rfl
theorem sc_law_shown_alone : FnScope ["claim", "word", "one", "two"] ["claim", "word"] (defScope s_law_shown_alone) := ⟨rfl, rfl, rfl, by decide +kernel, rfl, by decide +kernel, by decide +kernel⟩
abbrev s_law_shown : Stmt := topS 32
def c_law_shown : CSs := (.cons (.unp [3, 4] (.ix (.var 1) (.var 2))) (.cons (.par 5 6 (.ix (.var 4) (.int 0)) (.b1 .list (.sl (.var 4) (.some (.int 1)) .no))) (.cons (.ite (.cmp .Eq (.var 5) (.str "given")) (.cons (.ret (.and (.cmp .Eq (.b1 .len (.var 6)) (.int 1)) (.and (.cmp .GtE (.ix (.var 6) (.int 0)) (.int 0)) (.and (.cmp .Lt (.ix (.var 6) (.int 0)) (.b1 .len (.var 0))) (.cmp .Eq (.ix (.var 0) (.ix (.var 6) (.int 0))) (.var 3)))))) .nil) .nil) (.cons (.ite (.cmp .Gt (.b1 .len (.comp (.var 12) (.nm 12) (.val (.var 6)) (.cons (.or (.cmp .Lt (.var 12) (.int 0)) (.cmp .GtE (.var 12) (.var 2))) .nil) [12])) (.int 0)) (.cons (.ret (.bl false)) .nil) .nil) (.cons (.asg 7 (.comp (.ix (.ix (.var 1) (.var 12)) (.int 0)) (.nm 12) (.val (.var 6)) .nil [12])) (.cons (.ite (.cmp .Eq (.b1 .len (.var 7)) (.int 0)) (.cons (.ret (.call 21 (.cons (.var 3) (.cons (.var 5) .nil)))) .nil) .nil) (.cons (.unp [8, 9] (.ix (.var 7) (.int 0))) (.cons (.ite (.cmp .Eq (.b1 .len (.var 7)) (.int 1)) (.cons (.ret (.or (.and (.cmp .Eq (.var 5) (.str "turn")) (.cmp .Eq (.var 3) (.tup (.cons (.tup (.cons (.str "not") (.cons (.var 9) .nil))) (.cons (.tup (.cons (.str "not") (.cons (.var 8) .nil))) .nil))))) (.and (.cmp .Eq (.var 5) (.str "never")) (.and (.cmp .Eq (.var 9) (.tup (.cons (.str "not") (.cons (.var 8) .nil)))) (.cmp .Eq (.ix (.var 3) (.int 0)) (.var 8)))))) .nil) .nil) (.cons (.ite (.cmp .Gt (.b1 .len (.var 7)) (.int 2)) (.cons (.ret (.bl false)) .nil) .nil) (.cons (.unp [10, 11] (.ix (.var 7) (.int 1))) (.cons (.ite (.cmp .Eq (.var 5) (.str "chain")) (.cons (.ret (.and (.cmp .Eq (.var 9) (.var 10)) (.cmp .Eq (.var 3) (.tup (.cons (.var 8) (.cons (.var 11) .nil)))))) .nil) .nil) (.cons (.ite (.cmp .Eq (.var 5) (.str "meet")) (.cons (.ret (.and (.cmp .Eq (.var 8) (.var 10)) (.cmp .Eq (.var 3) (.tup (.cons (.var 8) (.cons (.tup (.cons (.str "both") (.cons (.var 9) (.cons (.var 11) .nil)))) .nil)))))) .nil) .nil) (.cons (.ret (.and (.cmp .Eq (.var 5) (.str "join")) (.and (.cmp .Eq (.var 9) (.var 11)) (.cmp .Eq (.var 3) (.tup (.cons (.tup (.cons (.str "either") (.cons (.var 8) (.cons (.var 10) .nil)))) (.cons (.var 9) .nil))))))) .nil)))))))))))))
theorem t_law_shown : cB ⟨[("_law_shown_alone", 21)], []⟩ ["theory", "rows", "k", "claim", "why", "word", "places", "before", "one", "two", "left", "right", "place"] s_law_shown = some c_law_shown := by rfl
theorem sc_law_shown : FnScope ["theory", "rows", "k", "claim", "why", "word", "places", "before", "one", "two", "left", "right", "place"] ["theory", "rows", "k"] (defScope s_law_shown) := ⟨rfl, rfl, rfl, by decide +kernel, rfl, by decide +kernel, by decide +kernel⟩
abbrev s_law_is_derivation : Stmt := topS 33
def c_law_is_derivation : CSs := (.cons (.ite (.or (.not (.isi (.var 2) [.btuple])) (.cmp .Eq (.b1 .len (.var 2)) (.int 0))) (.cons (.ret (.bl false)) .nil) .nil) (.cons (.for_ (.nm 3) (.val (.var 2)) (.cons (.ite (.or (.not (.isi (.var 3) [.btuple])) (.or (.cmp .NotEq (.b1 .len (.var 3)) (.int 2)) (.not (.call 19 (.cons (.ix (.var 3) (.int 0)) (.cons (.int 40) .nil)))))) (.cons (.ret (.bl false)) .nil) .nil) (.cons (.ite (.or (.not (.isi (.ix (.var 3) (.int 1)) [.btuple])) (.or (.cmp .Eq (.b1 .len (.ix (.var 3) (.int 1))) (.int 0)) (.not (.isi (.ix (.ix (.var 3) (.int 1)) (.int 0)) [.bstr])))) (.cons (.ret (.bl false)) .nil) .nil) (.cons (.ite (.cmp .Gt (.b1 .len (.comp (.var 4) (.nm 4) (.val (.sl (.ix (.var 3) (.int 1)) (.some (.int 1)) .no)) (.cons (.not (.call 20 (.cons (.var 4) .nil))) .nil) [4])) (.int 0)) (.cons (.ret (.bl false)) .nil) .nil) .nil)))) (.cons (.ret (.and (.cmp .Eq (.ix (.ix (.var 2) (.bin .Sub (.b1 .len (.var 2)) (.int 1))) (.int 0)) (.var 1)) (.cmp .Eq (.b1 .len (.comp (.var 5) (.nm 5) (.rng1 (.b1 .len (.var 2))) (.cons (.not (.call 22 (.cons (.var 0) (.cons (.var 2) (.cons (.var 5) .nil))))) .nil) [5])) (.int 0)))) .nil)))
theorem t_law_is_derivation : cB ⟨[("_law_shown", 22), ("_law_is_integer", 20), ("_law_is_claim", 19)], []⟩ ["theory", "claim", "value", "row", "place", "k"] s_law_is_derivation = some c_law_is_derivation := by rfl
theorem sc_law_is_derivation : FnScope ["theory", "claim", "value", "row", "place", "k"] ["theory", "claim", "value"] (defScope s_law_is_derivation) := ⟨rfl, rfl, rfl, by decide +kernel, rfl, by decide +kernel, by decide +kernel⟩
abbrev s_law_spots : Stmt := topS 34
def c_law_spots : CSs := (.cons (.asg 2 (.lst (.cons (.var 1) .nil))) (.cons (.ite (.isi (.var 0) [.btuple]) (.cons (.for_ (.nm 3) (.rng1 (.b1 .len (.var 0))) (.cons (.asg 2 (.bin .Add (.var 2) (.call 24 (.cons (.ix (.var 0) (.var 3)) (.cons (.bin .Add (.var 1) (.lst (.cons (.var 3) .nil))) .nil))))) .nil)) .nil) .nil) (.cons (.ret (.var 2)) .nil)))
theorem t_law_spots : cB ⟨[("_law_spots", 24)], []⟩ ["value", "path", "found", "k"] s_law_spots = some c_law_spots := by rfl
theorem sc_law_spots : FnScope ["value", "path", "found", "k"] ["value", "path"] (defScope s_law_spots) := ⟨rfl, rfl, rfl, by decide +kernel, rfl, by decide +kernel, by decide +kernel⟩
abbrev s_law_spot_put : Stmt := topS 35
def c_law_spot_put : CSs := (.cons (.ite (.cmp .Eq (.b1 .len (.var 1)) (.int 0)) (.cons (.ret (.var 2)) .nil) .nil) (.cons (.ret (.bin .Add (.bin .Add (.sl (.var 0) .no (.some (.ix (.var 1) (.int 0)))) (.tup (.cons (.call 25 (.cons (.ix (.var 0) (.ix (.var 1) (.int 0))) (.cons (.sl (.var 1) (.some (.int 1)) .no) (.cons (.var 2) .nil)))) .nil))) (.sl (.var 0) (.some (.bin .Add (.ix (.var 1) (.int 0)) (.int 1))) .no))) .nil))
theorem t_law_spot_put : cB ⟨[("_law_spot_put", 25)], []⟩ ["value", "path", "item"] s_law_spot_put = some c_law_spot_put := by rfl
theorem sc_law_spot_put : FnScope ["value", "path", "item"] ["value", "path", "item"] (defScope s_law_spot_put) := ⟨rfl, rfl, rfl, by decide +kernel, rfl, by decide +kernel, by decide +kernel⟩
abbrev s_law_bent_spot : Stmt := topS 36
def c_law_bent_spot : CSs := (.cons (.ite (.isi (.var 1) [.btuple]) (.cons (.ret (.call 12 (.cons (.var 0) (.cons (.lst (.cons (.sl (.var 1) (.some (.int 1)) .no) (.cons (.bin .Add (.var 1) (.sl (.var 1) (.some (.neg (.int 1))) .no)) (.cons (.rev (.var 1)) (.cons (.b1 .list (.var 1)) (.cons (.non) (.cons (.tup .nil) (.cons (.bin .Add (.var 1) (.tup (.cons (.int 0) .nil))) (.cons (.tup (.cons (.str "name") (.cons (.str "a") .nil))) (.cons (.tup (.cons (.str "not") (.cons (.var 1) .nil))) (.cons (.tup (.cons (.str "all") .nil)) .nil))))))))))) .nil)))) .nil) .nil) (.cons (.ite (.isi (.var 1) [.bstr]) (.cons (.ret (.call 12 (.cons (.var 0) (.cons (.lst (.cons (.str "all") (.cons (.str "none") (.cons (.str "name") (.cons (.str "both") (.cons (.str "either") (.cons (.str "same") (.cons (.str "chain") (.cons (.str "turn") (.cons (.str "meet") (.cons (.str "join") (.cons (.str "first") (.cons (.str "one") (.cons (.str "a") (.cons (.str "b") (.cons (.str "derived") (.cons (.str "barred") (.cons (.non) .nil)))))))))))))))))) .nil)))) .nil) .nil) (.cons (.ite (.cmp .Is (.var 1) (.non)) (.cons (.ret (.call 12 (.cons (.var 0) (.cons (.lst (.cons (.tup .nil) (.cons (.int 0) (.cons (.bl false) .nil)))) .nil)))) .nil) .nil) (.cons (.ret (.call 12 (.cons (.var 0) (.cons (.lst (.cons (.bin .Add (.var 1) (.int 1)) (.cons (.bin .Sub (.var 1) (.int 1)) (.cons (.bin .Add (.var 1) (.int 0)) (.cons (.cmp .Eq (.var 1) (.int 1)) (.cons (.non) (.cons (.b1 .str (.var 1)) (.cons (.int 7) .nil)))))))) .nil)))) .nil))))
theorem t_law_bent_spot : cB ⟨[("_law_pick", 12)], []⟩ ["pool", "value"] s_law_bent_spot = some c_law_bent_spot := by rfl
theorem sc_law_bent_spot : FnScope ["pool", "value"] ["pool", "value"] (defScope s_law_bent_spot) := ⟨rfl, rfl, rfl, by decide +kernel, rfl, by decide +kernel, by decide +kernel⟩
abbrev s_law_spot : Stmt := topS 37
def c_law_spot : CSs := (.cons (.for_ (.nm 2) (.val (.var 1)) (.cons (.asg 0 (.ix (.var 0) (.var 2))) .nil)) (.cons (.ret (.var 0)) .nil))
theorem t_law_spot : cB ⟨[], []⟩ ["value", "path", "step"] s_law_spot = some c_law_spot := by rfl
theorem sc_law_spot : FnScope ["value", "path", "step"] ["value", "path"] (defScope s_law_spot) := ⟨rfl, rfl, rfl, by decide +kernel, rfl, by decide +kernel, by decide +kernel⟩
abbrev s_law_odd_values : Stmt := topS 38
def c_law_odd_values : CSs := (.cons (.ret (.lst (.cons (.non) (.cons (.bl true) (.cons (.bl false) (.cons (.int 0) (.cons (.int 1) (.cons (.neg (.int 1)) (.cons (.str "") (.cons (.str "derived") (.cons (.tup .nil) (.cons (.lst .nil) (.cons (.dnil) (.cons (.tup (.cons (.int 0) .nil)) (.cons (.tup (.cons (.bl true) .nil)) (.cons (.tup (.cons (.tup .nil) .nil)) (.cons (.lst (.cons (.int 0) (.cons (.int 1) .nil))) (.cons (.tup (.cons (.int 0) (.cons (.int 0) .nil))) (.cons (.tup (.cons (.int 1) (.cons (.int 0) (.cons (.int 2) .nil)))) (.cons (.tup (.cons (.str "derived") .nil)) (.cons (.tup (.cons (.str "derived") (.cons (.tup .nil) .nil))) (.cons (.tup (.cons (.str "barred") (.cons (.tup .nil) .nil))) (.cons (.tup (.cons (.str "barred") (.cons (.tup (.cons (.int 1) (.cons (.tup .nil) (.cons (.tup .nil) .nil)))) (.cons (.int 0) .nil)))) (.cons (.tup (.cons (.str "name") (.cons (.str "a") .nil))) (.cons (.tup (.cons (.str "all") .nil)) .nil))))))))))))))))))))))))) .nil)
theorem t_law_odd_values : cB ⟨[], []⟩ [] s_law_odd_values = some c_law_odd_values := by rfl
theorem sc_law_odd_values : FnScope [] [] (defScope s_law_odd_values) := ⟨rfl, rfl, rfl, by decide +kernel, rfl, by decide +kernel, by decide +kernel⟩
abbrev s_law_bent : Stmt := topS 39
def c_law_bent : CSs := (.cons (.asg 3 (.lst (.cons (.var 1) (.cons (.b1 .list (.var 1)) (.cons (.bin .Add (.var 1) (.tup (.cons (.int 0) .nil))) (.cons (.tup (.cons (.ix (.var 1) (.int 0)) .nil)) (.cons (.rev (.var 1)) .nil))))))) (.cons (.asg 4 (.call 24 (.cons (.var 1) (.cons (.lst .nil) .nil)))) (.cons (.for_ (.nm 5) (.rng1 (.var 2)) (.cons (.asg 6 (.call 12 (.cons (.var 0) (.cons (.var 4) .nil)))) (.cons (.app 3 (.call 25 (.cons (.var 1) (.cons (.var 6) (.cons (.call 26 (.cons (.var 0) (.cons (.call 27 (.cons (.var 1) (.cons (.var 6) .nil))) .nil))) .nil))))) .nil))) (.cons (.ret (.bin .Add (.var 3) (.call 28 .nil))) .nil))))
theorem t_law_bent : cB ⟨[("_law_odd_values", 28), ("_law_spot_put", 25), ("_law_bent_spot", 26), ("_law_spot", 27), ("_law_pick", 12), ("_law_spots", 24)], []⟩ ["pool", "paper", "many", "found", "spots", "k", "path"] s_law_bent = some c_law_bent := by rfl
theorem sc_law_bent : FnScope ["pool", "paper", "many", "found", "spots", "k", "path"] ["pool", "paper", "many"] (defScope s_law_bent) := ⟨rfl, rfl, rfl, by decide +kernel, rfl, by decide +kernel, by decide +kernel⟩
abbrev s_law_put : Stmt := topS 40
def c_law_put : CSs := (.cons (.ret (.bin .Add (.bin .Add (.sl (.var 0) .no (.some (.var 1))) (.tup (.cons (.var 2) .nil))) (.sl (.var 0) (.some (.bin .Add (.var 1) (.int 1))) .no))) .nil)
theorem t_law_put : cB ⟨[], []⟩ ["row", "at", "item"] s_law_put = some c_law_put := by rfl
theorem sc_law_put : FnScope ["row", "at", "item"] ["row", "at", "item"] (defScope s_law_put) := ⟨rfl, rfl, rfl, by decide +kernel, rfl, by decide +kernel, by decide +kernel⟩
abbrev s_law_same : Stmt := topS 41
def c_law_same : CSs := (.cons (.ite (.or (.isi (.var 1) [.btuple]) (.isi (.var 1) [.blist])) (.cons (.ite (.or (.cmp .NotEq (.isi (.var 1) [.btuple]) (.isi (.var 0) [.btuple])) (.cmp .NotEq (.isi (.var 1) [.blist]) (.isi (.var 0) [.blist]))) (.cons (.ret (.bl false)) .nil) .nil) (.cons (.ite (.cmp .NotEq (.b1 .len (.var 0)) (.b1 .len (.var 1))) (.cons (.ret (.bl false)) .nil) .nil) (.cons (.ret (.cmp .Eq (.b1 .len (.comp (.var 2) (.nm 2) (.rng1 (.b1 .len (.var 1))) (.cons (.not (.call 31 (.cons (.ix (.var 0) (.var 2)) (.cons (.ix (.var 1) (.var 2)) .nil)))) .nil) [2])) (.int 0))) .nil))) .nil) (.cons (.ite (.cmp .Is (.var 1) (.non)) (.cons (.ret (.cmp .Is (.var 0) (.non))) .nil) .nil) (.cons (.ite (.or (.isi (.var 1) [.bbool]) (.isi (.var 0) [.bbool])) (.cons (.ret (.and (.isi (.var 1) [.bbool]) (.and (.isi (.var 0) [.bbool]) (.cmp .Eq (.var 0) (.var 1))))) .nil) .nil) (.cons (.ite (.isi (.var 1) [.bint]) (.cons (.ret (.and (.isi (.var 0) [.bint]) (.cmp .Eq (.var 0) (.var 1)))) .nil) .nil) (.cons (.ret (.and (.isi (.var 0) [.bstr]) (.cmp .Eq (.var 0) (.var 1)))) .nil)))))
theorem t_law_same : cB ⟨[("_law_same", 31)], []⟩ ["actual", "due", "k"] s_law_same = some c_law_same := by rfl
theorem sc_law_same : FnScope ["actual", "due", "k"] ["actual", "due"] (defScope s_law_same) := ⟨rfl, rfl, rfl, by decide +kernel, rfl, by decide +kernel, by decide +kernel⟩
abbrev s_law : Stmt := topS 42
def c_law : CSs := (.cons (.asg 2 (.lst (.cons (.str "a") (.cons (.str "b") .nil)))) (.cons (.par 3 4 (.bin .Add (.call 15 (.cons (.var 1) (.cons (.var 2) (.cons (.int 3) (.cons (.int 1) .nil))))) (.tup (.cons (.tup (.cons (.tup (.cons (.str "name") (.cons (.str "a") .nil))) (.cons (.tup (.cons (.str "not") (.cons (.tup (.cons (.str "name") (.cons (.str "a") .nil))) .nil))) .nil))) .nil))) (.tup .nil)) (.cons (.for_ (.nm 5) (.rng1 (.bin .Add (.int 3) (.call 11 (.cons (.var 1) (.cons (.int 11) .nil))))) (.cons (.asg 6 (.call 16 (.cons (.var 1) (.cons (.var 3) (.cons (.var 4) (.cons (.var 2) .nil)))))) (.cons (.ite (.call 19 (.cons (.ix (.var 6) (.int 0)) (.cons (.int 12) .nil))) (.cons (.asg 4 (.bin .Add (.var 4) (.tup (.cons (.var 6) .nil)))) .nil) .nil) .nil))) (.cons (.ite (.cmp .Eq (.b1 .len (.var 4)) (.int 0)) (.cons (.ret (.bl false)) .nil) .nil) (.cons (.asg 7 (.ix (.ix (.var 4) (.bin .Sub (.b1 .len (.var 4)) (.int 1))) (.int 0))) (.cons (.ite (.or (.not (.call 23 (.cons (.var 3) (.cons (.var 7) (.cons (.var 4) .nil))))) (.not (.call 8 (.cons (.var 3) (.cons (.var 7) (.cons (.var 4) .nil)))))) (.cons (.ret (.bl false)) .nil) .nil) (.cons (.asg 8 (.lst (.cons (.tup (.cons (.var 3) (.cons (.var 7) (.cons (.sl (.var 4) (.some (.int 1)) .no) .nil)))) (.cons (.tup (.cons (.var 3) (.cons (.var 7) (.cons (.rev (.var 4)) .nil)))) (.cons (.tup (.cons (.rev (.var 3)) (.cons (.var 7) (.cons (.var 4) .nil)))) (.cons (.tup (.cons (.tup .nil) (.cons (.var 7) (.cons (.var 4) .nil)))) (.cons (.tup (.cons (.var 3) (.cons (.ix (.ix (.var 4) (.int 0)) (.int 0)) (.cons (.var 4) .nil)))) (.cons (.tup (.cons (.var 3) (.cons (.ix (.ix (.var 4) (.int 0)) (.int 0)) (.cons (.sl (.var 4) .no (.some (.int 1))) .nil)))) (.cons (.tup (.cons (.var 3) (.cons (.var 7) (.cons (.bin .Add (.var 4) (.var 4)) .nil)))) (.cons (.tup (.cons (.var 3) (.cons (.var 7) (.cons (.b1 .list (.var 4)) .nil)))) (.cons (.tup (.cons (.var 3) (.cons (.var 7) (.cons (.tup .nil) .nil)))) .nil))))))))))) (.cons (.par 9 10 (.call 13 (.cons (.var 1) (.cons (.var 2) (.cons (.int 1) .nil)))) (.call 13 (.cons (.var 1) (.cons (.var 2) (.cons (.int 1) .nil))))) (.cons (.asg 11 (.lst (.cons (.tup (.cons (.var 9) (.cons (.var 10) .nil))) (.cons (.tup (.cons (.tup (.cons (.str "all") .nil)) (.cons (.var 9) .nil))) (.cons (.tup (.cons (.var 9) (.cons (.tup (.cons (.str "none") .nil)) .nil))) (.cons (.tup (.cons (.var 9) (.cons (.tup (.cons (.str "all") .nil)) .nil))) (.cons (.tup (.cons (.tup (.cons (.str "none") .nil)) (.cons (.var 9) .nil))) (.cons (.tup (.cons (.var 9) (.cons (.tup (.cons (.str "not") (.cons (.var 9) .nil))) .nil))) (.cons (.tup (.cons (.tup (.cons (.str "not") (.cons (.var 9) .nil))) (.cons (.var 9) .nil))) (.cons (.tup (.cons (.tup (.cons (.str "both") (.cons (.var 9) (.cons (.var 10) .nil)))) (.cons (.var 9) .nil))) (.cons (.tup (.cons (.tup (.cons (.str "both") (.cons (.var 9) (.cons (.var 10) .nil)))) (.cons (.var 10) .nil))) (.cons (.tup (.cons (.var 9) (.cons (.tup (.cons (.str "both") (.cons (.var 9) (.cons (.var 10) .nil)))) .nil))) (.cons (.tup (.cons (.var 9) (.cons (.tup (.cons (.str "either") (.cons (.var 9) (.cons (.var 10) .nil)))) .nil))) (.cons (.tup (.cons (.var 10) (.cons (.tup (.cons (.str "either") (.cons (.var 9) (.cons (.var 10) .nil)))) .nil))) (.cons (.tup (.cons (.tup (.cons (.str "either") (.cons (.var 9) (.cons (.var 10) .nil)))) (.cons (.var 9) .nil))) .nil))))))))))))))) (.cons (.for_ (.nm 12) (.val (.tup (.cons (.str "same") (.cons (.str "low") (.cons (.str "twice") (.cons (.str "first") (.cons (.str "second") (.cons (.str "one") (.cons (.str "other") .nil))))))))) (.cons (.asg 13 (.call 12 (.cons (.var 1) (.cons (.var 11) .nil)))) (.cons (.asg 8 (.bin .Add (.var 8) (.lst (.cons (.tup (.cons (.var 3) (.cons (.var 13) (.cons (.tup (.cons (.tup (.cons (.var 13) (.cons (.tup (.cons (.var 12) .nil)) .nil))) .nil)) .nil)))) (.cons (.tup (.cons (.var 3) (.cons (.var 13) (.cons (.tup (.cons (.tup (.cons (.var 13) (.cons (.tup (.cons (.var 12) (.cons (.int 0) .nil))) .nil))) .nil)) .nil)))) (.cons (.tup (.cons (.var 3) (.cons (.var 13) (.cons (.tup (.cons (.tup (.cons (.tup (.cons (.var 9) (.cons (.var 9) .nil))) (.cons (.tup (.cons (.str "same") .nil)) .nil))) (.cons (.tup (.cons (.var 13) (.cons (.tup (.cons (.var 12) (.cons (.int 0) .nil))) .nil))) .nil))) .nil)))) .nil)))))) .nil))) (.cons (.for_ (.nm 12) (.val (.tup (.cons (.str "chain") (.cons (.str "meet") (.cons (.str "join") (.cons (.str "turn") (.cons (.str "never") (.cons (.str "given") .nil)))))))) (.cons (.asg 14 (.tup (.cons (.tup (.cons (.tup (.cons (.var 9) (.cons (.var 9) .nil))) (.cons (.tup (.cons (.str "same") .nil)) .nil))) (.cons (.tup (.cons (.tup (.cons (.var 10) (.cons (.var 10) .nil))) (.cons (.tup (.cons (.str "same") .nil)) .nil))) .nil)))) (.cons (.asg 13 (.call 12 (.cons (.var 1) (.cons (.var 11) .nil)))) (.cons (.asg 15 (.lst (.cons (.tup (.cons (.var 13) (.cons (.tup (.cons (.var 12) (.cons (.int 0) (.cons (.int 2) .nil)))) .nil))) (.cons (.tup (.cons (.var 13) (.cons (.tup (.cons (.var 12) (.cons (.int 2) (.cons (.int 1) .nil)))) .nil))) (.cons (.tup (.cons (.var 13) (.cons (.tup (.cons (.var 12) (.cons (.int 2) .nil))) .nil))) (.cons (.tup (.cons (.var 13) (.cons (.tup (.cons (.var 12) (.cons (.int 2) (.cons (.int 2) .nil)))) .nil))) (.cons (.tup (.cons (.var 13) (.cons (.tup (.cons (.var 12) (.cons (.neg (.int 1)) (.cons (.int 0) .nil)))) .nil))) (.cons (.tup (.cons (.var 13) (.cons (.tup (.cons (.var 12) (.cons (.int 0) .nil))) .nil))) (.cons (.tup (.cons (.var 13) (.cons (.tup (.cons (.var 12) (.cons (.int 0) (.cons (.int 1) .nil)))) .nil))) (.cons (.tup (.cons (.var 13) (.cons (.tup (.cons (.var 12) (.cons (.int 0) (.cons (.int 0) .nil)))) .nil))) (.cons (.tup (.cons (.var 13) (.cons (.tup (.cons (.var 12) (.cons (.int 0) (.cons (.int 0) (.cons (.int 0) .nil))))) .nil))) (.cons (.tup (.cons (.var 13) (.cons (.tup (.cons (.var 12) .nil)) .nil))) .nil)))))))))))) (.cons (.for_ (.nm 6) (.val (.var 15)) (.cons (.app 8 (.tup (.cons (.var 3) (.cons (.var 13) (.cons (.bin .Add (.var 14) (.tup (.cons (.var 6) .nil))) .nil))))) .nil)) .nil))))) (.cons (.for_ (.nm 5) (.rng1 (.int 8)) (.cons (.par 16 17 (.call 11 (.cons (.var 1) (.cons (.b1 .len (.var 4)) .nil))) (.call 11 (.cons (.var 1) (.cons (.b1 .len (.var 4)) .nil)))) (.cons (.unp [18, 19] (.ix (.ix (.var 4) (.var 16)) (.int 0))) (.cons (.unp [20, 21] (.ix (.ix (.var 4) (.var 17)) (.int 0))) (.cons (.asg 22 (.lst (.cons (.tup (.cons (.tup (.cons (.var 18) (.cons (.var 21) .nil))) (.cons (.str "chain") .nil))) (.cons (.tup (.cons (.tup (.cons (.var 20) (.cons (.var 19) .nil))) (.cons (.str "chain") .nil))) (.cons (.tup (.cons (.tup (.cons (.var 18) (.cons (.tup (.cons (.str "both") (.cons (.var 19) (.cons (.var 21) .nil)))) .nil))) (.cons (.str "meet") .nil))) (.cons (.tup (.cons (.tup (.cons (.var 18) (.cons (.tup (.cons (.str "both") (.cons (.var 21) (.cons (.var 19) .nil)))) .nil))) (.cons (.str "meet") .nil))) (.cons (.tup (.cons (.tup (.cons (.var 20) (.cons (.tup (.cons (.str "both") (.cons (.var 19) (.cons (.var 21) .nil)))) .nil))) (.cons (.str "meet") .nil))) (.cons (.tup (.cons (.tup (.cons (.tup (.cons (.str "either") (.cons (.var 18) (.cons (.var 20) .nil)))) (.cons (.var 19) .nil))) (.cons (.str "join") .nil))) (.cons (.tup (.cons (.tup (.cons (.tup (.cons (.str "either") (.cons (.var 20) (.cons (.var 18) .nil)))) (.cons (.var 19) .nil))) (.cons (.str "join") .nil))) (.cons (.tup (.cons (.tup (.cons (.tup (.cons (.str "either") (.cons (.var 18) (.cons (.var 20) .nil)))) (.cons (.var 21) .nil))) (.cons (.str "join") .nil))) .nil)))))))))) (.cons (.unp [13, 12] (.call 12 (.cons (.var 1) (.cons (.var 22) .nil)))) (.cons (.app 8 (.tup (.cons (.var 3) (.cons (.var 13) (.cons (.bin .Add (.var 4) (.tup (.cons (.tup (.cons (.var 13) (.cons (.tup (.cons (.var 12) (.cons (.var 16) (.cons (.var 17) .nil)))) .nil))) .nil))) .nil))))) .nil))))))) (.cons (.for_ (.nm 23) (.val (.call 29 (.cons (.var 1) (.cons (.var 4) (.cons (.int 12) .nil))))) (.cons (.app 8 (.tup (.cons (.var 3) (.cons (.var 7) (.cons (.var 23) .nil))))) .nil)) (.cons (.for_ (.nm 5) (.rng1 (.int 6)) (.cons (.asg 24 (.call 11 (.cons (.var 1) (.cons (.b1 .len (.var 4)) .nil)))) (.cons (.app 8 (.tup (.cons (.var 3) (.cons (.var 7) (.cons (.call 30 (.cons (.var 4) (.cons (.var 24) (.cons (.tup (.cons (.ix (.ix (.var 4) (.var 24)) (.int 0)) (.cons (.ix (.call 12 (.cons (.var 1) (.cons (.var 4) .nil))) (.int 1)) .nil))) .nil)))) .nil))))) (.cons (.app 8 (.tup (.cons (.var 3) (.cons (.var 7) (.cons (.call 30 (.cons (.var 4) (.cons (.var 24) (.cons (.tup (.cons (.ix (.call 12 (.cons (.var 1) (.cons (.var 4) .nil))) (.int 0)) (.cons (.ix (.ix (.var 4) (.var 24)) (.int 1)) .nil))) .nil)))) .nil))))) .nil)))) (.cons (.for_ (.tp [25, 13, 23]) (.val (.var 8)) (.cons (.asg 26 (.call 99 (.cons (.var 23) .nil))) (.cons (.ite (.or (.not (.call 31 (.cons (.call 8 (.cons (.var 25) (.cons (.var 13) (.cons (.var 23) .nil)))) (.cons (.call 23 (.cons (.var 25) (.cons (.var 13) (.cons (.var 23) .nil)))) .nil)))) (.cmp .NotEq (.call 99 (.cons (.var 23) .nil)) (.var 26))) (.cons (.ret (.bl false)) .nil) .nil) .nil))) (.cons (.ret (.bl true)) .nil))))))))))))))))
end LW

namespace LW
open PySem PySem.Spec PyProof.Rows L2 DL
abbrev s_law_draw : Stmt := topS 21
/-! ### the law's pool: made and drawn from, by hand -/
section
variable {Pr : Program} {w : World} {K : PySem.W.Frag} {mg : Str → Option Value} {base : Heap}
theorem scPool : FnScope ["script", "salt", "cell"] ["script"] (defScope s_law_pool) := ⟨rfl, rfl, rfl, by decide +kernel, rfl, by decide +kernel, by decide +kernel⟩
theorem ok_pool {f : Addr} {fd : FuncData} (F : Fun K "_law_pool" "_law_pool" s_law_pool f fd) (mi : mg "int" = none) (ml : mg "list" = none) : FnOk Pr w K mg base CX0 1 f fd ["script"] (spPool K) := by
  refine F.ok scPool (fun vs H Q E h => ?_) (fun cdv A outer s H vs Q E hr h => ?_)
  · obtain ⟨a, ns, rfl, _⟩ := h
    rfl
  · obtain ⟨a, ns, rfl, hS, hlen, q⟩ := h
    refine ⟨_, pss_cons (ps_set (i := 1) scPool.nd rfl (.inl rfl) pe_int)
      (pss_cons (ps_for PassesOwn.never rfl (pi_list (pe_slice sl_list (pv 0) po_none (po_some pe_int))) (pg_name (i := 2) scPool.nd rfl (.inl rfl))
        (pss_one (ps_set (i := 1) scPool.nd rfl (.inl rfl) (pe_op op_mod (pe_callTy call_int1 (by rfl) mi boot_int (pa_cons (pe_op op_add (pe_op op_mul (pv 1) pe_int) (pv 2)) pa_nil)) pe_int))))
      (pss_one (ps_ret (pe_lst (pa_cons (pe_callTy call_list_of (by rfl) ml boot_list (pa_cons (pv 0) pa_nil)) (pa_cons pe_int (pa_cons pe_int (pa_cons pe_int (pa_cons (pv 1) pa_nil))))))))), ?_⟩
    obtain ⟨ms, em, lm⟩ := cut63 ns
    refine ⟨_, rfl, 63, rfl, a, _, rfl, hS, fun c nc => ?_⟩
    rw [em]
    refine ⟨c, rfl, ⟨_, .inl (.inl upd_same)⟩, for_list (K := K) (a := c) (xs := ms.map V.int) (fun i σ H' => ∃ (z : Int) (y : Option V), σ = [some (.ref a), some (.int z), y] ∧ 0 ≤ z ∧ z < 1000003 ∧ H' = upd H c (.lst (ms.map V.int)))
      ⟨7, none, rfl, by decide, by decide, rfl⟩ (fun i σ H' _ ⟨_, _, _, _, _, e⟩ => by rw [e]; exact .inl (.inl upd_same)) ?_ ?_⟩
    · rintro i y σ H' hi ⟨z, y0, rfl, z0, z1, rfl⟩
      obtain ⟨u, rfl⟩ : ∃ u, y = V.int u := by
        rw [List.getElem?_map] at hi
        cases e : ms[i]? with
        | none => rw [e] at hi; cases hi
        | some u => rw [e] at hi; exact ⟨u, (Option.some.inj hi).symm⟩
      refine ⟨_, rfl, _, _, rfl, rfl, .inl ⟨by omega, by omega⟩, _, rfl, _, _, rfl, rfl, .inl ⟨_, rfl, _, _, rfl, rfl, (by show (0 : Int) < 1000003; decide), ?_⟩⟩
      exact ⟨_, _, rfl, Int.emod_nonneg _ (by decide), Int.emod_lt_of_pos _ (by decide), rfl⟩
    · rintro σ H' ⟨z, y0, rfl, z0, z1, rfl⟩
      have s1 : Same H (upd H c (.lst (ms.map V.int))) := same_new nc
      refine ⟨_, rfl, a, _, rfl, .inl (s1.seq hS), fun l hl => ⟨_, rfl, (by show 5 ≤ sizeLine; decide), fun p hp => ?_⟩⟩
      have nl : l ≠ p := fun e => by
        rw [e, upd_same] at hp
        cases hp
      have hp' : (upd H c (.lst (ms.map V.int))) p = none := by
        rw [upd_ne nl.symm] at hp
        exact hp
      refine q p l _ (s1.trans ((same_new hl).trans (same_new hp))) (s1.free hp') ⟨0, 0, 0, z, upd_same, ⟨ns, hlen, ?_⟩, by decide, by decide, z0, z1⟩
      rw [upd_ne nl, upd_same]
/-! ### a draw -/
theorem scDraw : FnScope ["pool", "many", "cell", "blended", "value"] ["pool", "many"] (defScope s_law_draw) := ⟨rfl, rfl, rfl, by decide +kernel, rfl, by decide +kernel, by decide +kernel⟩
theorem ok_draw {f : Addr} {fd : FuncData} {p a0 : Addr} (F : Fun K "_law_draw" "_law_draw" s_law_draw f fd) (GS : DefOk Pr w K mg base p a0 "_law_spread" 1 spSpread) (mi : mg "int" = none) (ml : mg "len" = none) : FnOk Pr w K mg base CX0 2 f fd ["pool", "many"] (lift K p a0 spDraw) := by
  obtain ⟨fS, fdS, psS, gS, kS, bS, GS⟩ := GS
  refine F.ok scDraw (fun vs H Q E h => ?_) (fun cdv A outer s H vs Q E hr h => ?_)
  · obtain ⟨ds, O, Qd, _, _, _, h4, ⟨many, rfl, _⟩, _⟩ := h
    rw [h4.length]
    rfl
  · obtain ⟨ds, O, Qd, op, pl, tr, h4, ⟨many, rfl, m1, m2, hQ⟩, h6⟩ := h
    obtain ⟨v1, _, rfl, r1, v2, _, rfl, r2, rfl⟩ := h4
    have e1 := rep_pool r1
    have e2 : v2 = .int many := r2
    subst e1 e2
    obtain ⟨k, m, c, z, hp, ⟨ns, hl, ha0⟩, k0, c0, z0, z1⟩ := pl
    have ne : a0 ≠ p := fun e => by
      rw [e, hp] at ha0
      cases ns with
      | nil => cases Option.some.inj ha0
      | cons n ns => cases Option.some.inj ha0
    have C0 : Cells p a0 ns k m c z H H := ⟨hp, SameP.refl H, ha0, ne⟩
    -- the end
    have fin : ∀ (H' : Hp) (k m c z r : Int), Cells p a0 ns k m c z H H' → 0 ≤ k → 0 ≤ c → 0 ≤ z → z < 1000003 → 0 ≤ r → r < many → Q (.int r) H' := fun H' k m c z r C k0 c0 z0 z1 r0 r1 =>
      h6 (.v (.int r)) (.int r) H' C.2.1 (C.pool hl k0 c0 z0 z1) rfl (hQ r r0 r1)
    refine ⟨_, Evl.pss_cut (ps_if (PW.pt (pw_and (pt_cmpR op_le (pe_ix ix_list (pv 0) pe_int (fun _ _ => rfl)) pe_int (nomark _)) (pw_and1 (pt_cmpR op_lt (pe_ix ix_list (pv 0) pe_int (fun _ _ => rfl)) (pe_callB call_len_seq (by rfl) ml PySem.boot_len (pa_cons (pe_ix ix_list (pv 0) pe_int (fun _ _ => rfl)) pa_nil)) (nomark _)))))
          (pss_cons (ps_set (i := 2) scDraw.nd rfl (.inl rfl) (pe_ix ix_list (pe_ix ix_list (pv 0) pe_int (fun _ _ => rfl)) (pe_ix ix_list (pv 0) pe_int (fun _ _ => rfl)) (fun _ _ => rfl)))
          (pss_cons (ps_asg (pe_op op_add (pe_ix ix_list (pv 0) pe_int (fun _ _ => rfl)) pe_int) (pg_sub (pv 0) pe_int set_list))
          (pss_cons (ps_asg (pv 2) (pg_sub (pv 0) pe_int set_list))
          (pss_one (ps_if (pt_cmpR op_lt (pv 2) pe_int (nomark _)) (pss_one (ps_asg (pe_call GS (hr.mono (by decide)) rfl gS kS bS .nil pass0 (pa_cons (pv 2) pa_nil)) (pg_sub (pv 0) pe_int set_list))) pss_nil))))) pss_nil)
      (pss_cons (ps_asg (pe_op op_add (pe_ix ix_list (pv 0) pe_int (fun _ _ => rfl)) pe_int) (pg_sub (pv 0) pe_int set_list))
      (pss_cons (ps_if (pt_cmpR op_le (pe_ix ix_list (pv 0) pe_int (fun _ _ => rfl)) pe_int (nomark _))
          (pss_cons (ps_set (i := 3) scDraw.nd rfl (.inl rfl) (pe_op op_mod (pe_callTy call_int1 (by rfl) mi boot_int (pa_cons (pe_op op_add (pe_op op_add (pe_op op_mul (pe_ix ix_list (pv 0) pe_int (fun _ _ => rfl)) pe_int) (pe_op op_mul (pe_ix ix_list (pv 0) pe_int (fun _ _ => rfl)) pe_int)) pe_int) pa_nil)) pe_int))
          (pss_cons (ps_set (i := 3) scDraw.nd rfl (.inl rfl) (pe_op op_mod (pe_callTy call_int1 (by rfl) mi boot_int (pa_cons (pe_op op_add (pe_op op_mul (pv 3) pe_int) (pe_ix ix_list (pv 0) pe_int (fun _ _ => rfl))) pa_nil)) pe_int))
          (pss_one (ps_ret (pe_op op_mod (pe_op op_fdivN (pv 3) pe_int) (pv 1)))))) pss_nil)
      (pss_cons (ps_set (i := 4) scDraw.nd rfl (.inl rfl) (pe_op op_mod (pe_callTy call_int1 (by rfl) mi boot_int (pa_cons (pe_ix ix_list (pv 0) pe_int (fun _ _ => rfl)) pa_nil)) (pv 1)))
      (pss_cons (ps_asg (pe_op op_fdivN (pe_ix ix_list (pv 0) pe_int (fun _ _ => rfl)) (pv 1)) (pg_sub (pv 0) pe_int set_list))
      (pss_one (ps_ret (pv 4))))))), ?_⟩
    refine ⟨fun σ H' => ∃ k m c z y, σ = [some (.ref p), some (.int many), y, none, none] ∧ Cells p a0 ns k m c z H H' ∧ 0 ≤ k ∧ 0 ≤ c ∧ 0 ≤ z ∧ z < 1000003, ?_, ?_⟩
    · refine ⟨_, rfl, p, _, _, _, rfl, rfl, SqL.of hp, atI_nat (j := 2) rfl, _, _, rfl, rfl, _, rfl, ?_⟩
      refine ite2 (fun _ => ?_) (fun _ => ?_)
      · refine ⟨_, rfl, p, _, _, _, rfl, rfl, SqL.of hp, atI_nat (j := 1) rfl, _, rfl, p, _, _, _, rfl, rfl, SqL.of hp, atI_nat (j := 0) rfl, a0, _, rfl, .inl (SqL.of ha0), _, _, rfl, rfl, _, rfl, ?_⟩
        refine ite2 (fun q => ?_) (fun _ => ?_)
        · have q' : k < ((ns.map V.int).length : Int) := of_decide_eq_true q
          rw [List.length_map] at q'
          have ek : k = ((k.toNat : Nat) : Int) := by omega
          have hk : k.toNat < ns.length := by omega
          have ak : atI (ns.map V.int) k = some (.int ns[k.toNat]) := at_of ek (by rw [List.getElem?_map, List.getElem?_eq_getElem hk]; rfl)
          refine ⟨_, rfl, p, _, _, _, rfl, rfl, SqL.of hp, atI_nat (j := 0) rfl, _, rfl, p, _, _, _, rfl, rfl, SqL.of hp, atI_nat (j := 1) rfl, a0, _, _, _, rfl, rfl, SqL.of ha0, ak, ?_⟩
          have C1 := C0.put (k' := k + 1) (m' := m) (c' := c) (s' := z)
          refine ⟨_, rfl, p, _, _, _, rfl, rfl, SqL.of hp, atI_nat (j := 1) rfl, _, _, rfl, rfl, _, rfl, p, _, _, 1, rfl, rfl, hp, rfl, ?_⟩
          have C2 := C1.put (k' := k + 1) (m' := ns[k.toNat]) (c' := c) (s' := z)
          refine ⟨_, rfl, _, rfl, p, _, _, 2, rfl, rfl, C1.1, rfl, ?_⟩
          refine ⟨_, rfl, _, _, rfl, rfl, _, rfl, ite2 (fun _ => ?_) (fun _ => ?_)⟩
          · refine ⟨_, rfl, [.int ns[k.toNat]], O, fun r => ∃ i, r = .v (.int i), op, C2.pool hl (by omega) c0 z0 z1, ?_, ⟨.int ns[k.toNat], [], rfl, rfl, rfl⟩, ⟨_, rfl, fun r => ⟨r, rfl⟩⟩, fun r v H' s1 p1 r1 q1 => ?_⟩
            · intro b hb
              obtain ⟨o, e⟩ := tr b hb
              by_cases eb : b = p
              · rw [eb]
                exact ⟨_, C2.1⟩
              · exact ⟨o, C2.2.1 b o eb e⟩
            · obtain ⟨i, rfl⟩ := q1
              have ev : v = .int i := r1
              subst ev
              obtain ⟨k3, m3, c3, z3, h3, ⟨ns3, hl3, g3⟩, k30, c30, z30, z31⟩ := p1
              exact ⟨_, rfl, p, _, _, 2, rfl, rfl, h3, rfl, _, _, _, _, _, rfl, (show Cells p a0 ns k3 m3 c3 z3 H H' from ⟨h3, C2.2.1.trans s1, ha0, ne⟩).put, k30, c30, z30, z31⟩
          · exact ⟨_, _, _, _, _, rfl, C2, by omega, c0, z0, z1⟩
        · exact ⟨_, _, _, _, _, rfl, C0, k0, c0, z0, z1⟩
      · exact ⟨_, _, _, _, _, rfl, C0, k0, c0, z0, z1⟩
    · rintro σ' H' ⟨k, m, c, z, y, rfl, C, k0, c0, z0, z1⟩
      have big : ∀ j : Int, (-(2 ^ 64) < j ∧ j < 2 ^ 64) → ∀ i : Int, CMul i j := fun j h i => .inr h
      refine ⟨_, rfl, p, _, _, _, rfl, rfl, SqL.of C.1, atI_nat (j := 3) rfl, _, _, rfl, rfl, _, rfl, p, _, _, 3, rfl, rfl, C.1, rfl, ?_⟩
      have C1 := C.put (k' := k) (m' := m) (c' := c + 1) (s' := z)
      refine ⟨_, rfl, p, _, _, _, rfl, rfl, SqL.of C1.1, atI_nat (j := 2) rfl, _, _, rfl, rfl, _, rfl, ite2 (fun _ => ?_) (fun _ => ?_)⟩
      · refine ⟨_, rfl, p, _, _, _, rfl, rfl, SqL.of C1.1, atI_nat (j := 4) rfl, _, _, rfl, rfl, big _ (by decide) _, _, rfl, p, _, _, _, rfl, rfl, SqL.of C1.1, atI_nat (j := 3) rfl, _, _, rfl, rfl, big _ (by decide) _, _, _, rfl, rfl, _, _, rfl, rfl,
          .inl ⟨_, rfl, _, _, rfl, rfl, (by show (0 : Int) < 2147483647; decide), ?_⟩⟩
        refine ⟨_, rfl, _, _, rfl, rfl, big _ (by decide) _, _, rfl, p, _, _, _, rfl, rfl, SqL.of C1.1, atI_nat (j := 3) rfl, _, _, rfl, rfl, .inl ⟨_, rfl, _, _, rfl, rfl, (by show (0 : Int) < 2147483629; decide), ?_⟩⟩
        refine ⟨_, rfl, _, _, rfl, rfl, ⟨by decide, by decide⟩, _, rfl, _, _, rfl, rfl, by omega, ?_⟩
        exact fin _ k m (c + 1) z _ C1 k0 (by omega) z0 z1 (Int.emod_nonneg _ (by omega)) (Int.emod_lt_of_pos _ (by omega))
      · refine ⟨_, rfl, p, _, _, _, rfl, rfl, SqL.of C1.1, atI_nat (j := 2) rfl, .inl ⟨_, rfl, _, rfl, _, _, rfl, rfl, by omega, ?_⟩⟩
        refine ⟨_, rfl, p, _, _, _, rfl, rfl, SqL.of C1.1, atI_nat (j := 2) rfl, _, rfl, _, _, rfl, rfl, ⟨by omega, by omega⟩, _, rfl, p, _, _, 2, rfl, rfl, C1.1, rfl, ?_⟩
        refine ⟨_, rfl, ?_⟩
        exact fin _ k _ (c + 1) z _ C1.put k0 (by omega) z0 z1 (Int.emod_nonneg _ (by omega)) (Int.emod_lt_of_pos _ (by omega))
end
end LW

/-! THP: formulas, claims and theories are papers. -/
namespace DL
open PySem L2
theorem fm_pap : ∀ f : Fm, (∀ s ∈ f.nms, nmB s = true) → papD f.d = true
  | .all, _ => by decide +kernel
  | .none, _ => by decide +kernel
  | .name s, h => by
    have e := (str_pap (h s (by simp [Fm.nms]))).1
    have n : papD (.str "name") = true := by decide +kernel
    refine pap_tup.mpr ⟨by show 2 ≤ 40000; omega, fun d hd => ?_⟩
    simp only [List.mem_cons, List.not_mem_nil, or_false] at hd
    rcases hd with rfl | rfl
    · exact n
    · exact e
  | .not a, h => by
    have e := fm_pap a fun s hs => h s (by simp [Fm.nms, hs])
    have n : papD (.str "not") = true := by decide +kernel
    refine pap_tup.mpr ⟨by show 2 ≤ 40000; omega, fun d hd => ?_⟩
    simp only [List.mem_cons, List.not_mem_nil, or_false] at hd
    rcases hd with rfl | rfl
    · exact n
    · exact e
  | .both a b, h => by
    have e := fm_pap a fun s hs => h s (by simp [Fm.nms, hs])
    have e' := fm_pap b fun s hs => h s (by simp [Fm.nms, hs])
    have n : papD (.str "both") = true := by decide +kernel
    refine pap_tup.mpr ⟨by show 3 ≤ 40000; omega, fun d hd => ?_⟩
    simp only [List.mem_cons, List.not_mem_nil, or_false] at hd
    rcases hd with rfl | rfl | rfl
    · exact n
    · exact e
    · exact e'
  | .either a b, h => by
    have e := fm_pap a fun s hs => h s (by simp [Fm.nms, hs])
    have e' := fm_pap b fun s hs => h s (by simp [Fm.nms, hs])
    have n : papD (.str "either") = true := by decide +kernel
    refine pap_tup.mpr ⟨by show 3 ≤ 40000; omega, fun d hd => ?_⟩
    simp only [List.mem_cons, List.not_mem_nil, or_false] at hd
    rcases hd with rfl | rfl | rfl
    · exact n
    · exact e
    · exact e'
theorem cl_pap {names : List Str} {k : Nat} {c : Fm × Fm} (h : CC names k c) (hk : k ≤ 4) (hn : ∀ s ∈ names, nmB s = true) : papD (clD c) = true ∧ PyData.depth (clD c) ≤ 16 ∧ PyData.weight (clD c) ≤ 1000 := by
  obtain ⟨⟨h1, h2⟩, h3⟩ := h
  have n1 : ∀ s ∈ c.1.nms, nmB s = true := fun s hs => hn s (h3 s (List.mem_append_left _ hs))
  have n2 : ∀ s ∈ c.2.nms, nmB s = true := fun s hs => hn s (h3 s (List.mem_append_right _ hs))
  obtain ⟨⟨a1, a2⟩, _⟩ := fm_wt c.1 n1
  obtain ⟨⟨b1, b2⟩, _⟩ := fm_wt c.2 n2
  have m1 : 2 ^ c.1.dep ≤ 2 ^ 4 := Nat.pow_le_pow_right (by decide) (by omega)
  have m2 : 2 ^ c.2.dep ≤ 2 ^ 4 := Nat.pow_le_pow_right (by decide) (by omega)
  refine ⟨pap_tup.mpr ⟨by show 2 ≤ 40000; omega, fun d hd => ?_⟩, ?_, ?_⟩
  · simp only [List.mem_cons, List.not_mem_nil, or_false] at hd
    rcases hd with rfl | rfl
    · exact fm_pap _ n1
    · exact fm_pap _ n2
  · unfold clD
    rw [PyData.depth, PyData.depthAll, PyData.depthAll, PyData.depthAll, a2, b2]
    omega
  · unfold clD
    rw [PyData.weight, PyData.weightAll, PyData.weightAll, PyData.weightAll]
    omega
theorem cl_paper {names : List Str} {k : Nat} {c : Fm × Fm} (h : CC names k c) (hk : k ≤ 4) (hn : ∀ s ∈ names, nmB s = true) : Paper (clD c) := by
  obtain ⟨a, b, d⟩ := cl_pap h hk hn
  exact ⟨a, by omega, by omega⟩
theorem th_part {names : List Str} {k n : Nat} {cs : List (Fm × Fm)} (h : ∀ c ∈ cs, CC names k c) (hk : k ≤ 4) (hn : ∀ s ∈ names, nmB s = true) (hl : cs.length ≤ n) : Part (cs.map clD) (1001 * n) := by
  refine Part.all (c := 1000) (n := n) (fun d hd => ?_) (by rw [List.length_map]; exact hl) (Nat.le_refl _)
  obtain ⟨c, hc, rfl⟩ := List.mem_map.mp hd
  exact cl_pap (h c hc) hk hn
/-- what spBent asks of a paper -/
theorem Paper.asked {es : List D} (h : Paper (.tuple es)) : depDs es + 1 < 24 ∧ (spotsL (.tuple es) []).length ≤ 900000 ∧ ∀ p ∈ spotsL (.tuple es) [], ∃ y, getP (.tuple es) p = some y ∧ bdD y = true ∧ p.length < 24 := by
  have a := depD_le (.tuple es)
  have b := h.dep
  have c : depD (.tuple es) = depDs es + 1 := by rw [depD]
  obtain ⟨s1, s2⟩ := h.spots
  refine ⟨by omega, s1, fun p hp => ?_⟩
  obtain ⟨y, y1, y2, y3⟩ := s2 p hp
  exact ⟨y, y1, y2, by omega⟩
end DL

/-! DV: derivations. -/
namespace DL
open PySem L2
structure Rw where
  c : Fm × Fm
  w : Str
  ns : List Int
def rwD (r : Rw) : D := .tuple [clD r.c, .tuple (.str r.w :: r.ns.map .int)]
def FmOk (n : Nat) (f : Fm) : Prop := f.dep < n ∧ ∀ s ∈ f.nms, isW s = true
def ClOk (n : Nat) (c : Fm × Fm) : Prop := FmOk n c.1 ∧ FmOk n c.2
theorem fm_tupD {n : Nat} {w : Str} {r : List D} : isFm (n + 1) (.tuple (.str w :: r)) = (if w = "all" ∨ w = "none" then r.isEmpty
    else if w = "name" then (match r with | [x] => isWD x | _ => false)
    else if w = "not" then (match r with | [x] => isFm n x | _ => false)
    else if w = "both" ∨ w = "either" then (match r with | [x, y] => isFm n x && isFm n y | _ => false)
    else false) := rfl
theorem isFm_of : ∀ {n : Nat} {d : D}, isFm n d = true → ∃ f : Fm, d = f.d ∧ FmOk n f
  | 0, d, h => by
    have e : isFm 0 d = false := by cases d <;> rfl
    rw [e] at h
    cases h
  | n + 1, d, h => by
    cases d with
    | tuple es =>
      cases es with
      | nil => cases h
      | cons x r =>
        cases x with
        | str w =>
          rw [fm_tupD] at h
          split at h
          · rename_i h1
            have r0 : r = [] := by simpa using h
            subst r0
            rcases h1 with rfl | rfl
            · exact ⟨.all, rfl, Nat.succ_pos n, fun s hs => nomatch hs⟩
            · exact ⟨.none, rfl, Nat.succ_pos n, fun s hs => nomatch hs⟩
          · split at h
            · rename_i h1
              subst h1
              rcases r with _ | ⟨x, _ | ⟨y, r⟩⟩
              · cases h
              · cases x with
                | str s => exact ⟨.name s, rfl, Nat.succ_pos n, fun t ht => by rw [List.mem_singleton.mp ht]; exact h⟩
                | _ => cases h
              · cases h
            · split at h
              · rename_i h1
                subst h1
                rcases r with _ | ⟨x, _ | ⟨y, r⟩⟩
                · cases h
                · obtain ⟨f, rfl, f1, f2⟩ := isFm_of (show isFm n x = true from h)
                  exact ⟨.not f, rfl, Nat.succ_lt_succ f1, f2⟩
                · cases h
              · split at h
                · rename_i h1
                  rcases r with _ | ⟨x, _ | ⟨y, _ | ⟨z, r⟩⟩⟩
                  · cases h
                  · cases h
                  · have h' : (isFm n x && isFm n y) = true := h
                    rw [Bool.and_eq_true] at h'
                    obtain ⟨f, rfl, f1, f2⟩ := isFm_of h'.1
                    obtain ⟨g, rfl, g1, g2⟩ := isFm_of h'.2
                    have dl : max f.dep g.dep + 1 < n + 1 := by omega
                    have ns : ∀ s ∈ f.nms ++ g.nms, isW s = true := fun s hs => (List.mem_append.mp hs).elim (f2 s) (g2 s)
                    rcases h1 with rfl | rfl
                    · exact ⟨.both f g, rfl, dl, ns⟩
                    · exact ⟨.either f g, rfl, dl, ns⟩
                  · cases h
                · cases h
        | _ => cases h
    | _ => cases h
theorem isFm_ok {n : Nat} {f : Fm} (h : FmOk n f) : isFm n f.d = true := by
  rw [isFm_fm f n h.2, decide_eq_true h.1]
def clN (n : Nat) : D → Bool
  | .tuple [a, b] => isFm n a && isFm n b
  | _ => false
theorem clN_of {n : Nat} {d : D} (h : clN n d = true) : ∃ c : Fm × Fm, d = clD c ∧ ClOk n c := by
  cases d with
  | tuple es =>
    rcases es with _ | ⟨x, _ | ⟨y, _ | ⟨z, r⟩⟩⟩
    · cases h
    · cases h
    · have h' : (isFm n x && isFm n y) = true := h
      rw [Bool.and_eq_true] at h'
      obtain ⟨f, rfl, f1⟩ := isFm_of h'.1
      obtain ⟨g, rfl, g1⟩ := isFm_of h'.2
      exact ⟨(f, g), rfl, f1, g1⟩
    · cases h
  | _ => cases h
theorem clN_ok {n : Nat} {c : Fm × Fm} (h : ClOk n c) : clN n (clD c) = true := by
  show (isFm n c.1.d && isFm n c.2.d) = true
  rw [isFm_ok h.1, isFm_ok h.2]
  rfl
theorem clN_dep {n : Nat} {c : Fm × Fm} (hw : (∀ s ∈ c.1.nms, isW s = true) ∧ ∀ s ∈ c.2.nms, isW s = true) : clN n (clD c) = (decide (c.1.dep < n) && decide (c.2.dep < n)) := by
  show (isFm n c.1.d && isFm n c.2.d) = _
  rw [isFm_fm _ _ hw.1, isFm_fm _ _ hw.2]
def rowB : D → Bool
  | .tuple [c, .tuple (.str _ :: ps)] => clN 41 c && ps.all isI
  | _ => false
theorem rowB_of {d : D} (h : rowB d = true) : ∃ r : Rw, d = rwD r ∧ ClOk 41 r.c := by
  cases d with
  | tuple es =>
    rcases es with _ | ⟨x, _ | ⟨y, _ | ⟨z, r⟩⟩⟩
    · cases h
    · cases h
    · cases y with
      | tuple ws =>
        cases ws with
        | nil => cases h
        | cons w ps =>
          cases w with
          | str w =>
            have h' : (clN 41 x && ps.all isI) = true := h
            rw [Bool.and_eq_true] at h'
            obtain ⟨c, rfl, c1⟩ := clN_of h'.1
            rcases ints_cases ps with ⟨ns, rfl⟩ | ⟨h1, _⟩
            · exact ⟨⟨c, w, ns⟩, rfl, c1⟩
            · rw [h1] at h'
              cases h'.2
          | _ => cases h
      | _ => cases h
    · simp [rowB] at h
  | _ => cases h
theorem rowB_ok {r : Rw} (h : ClOk 41 r.c) : rowB (rwD r) = true := by
  show (clN 41 (clD r.c) && (r.ns.map PyData.int).all isI) = true
  rw [clN_ok h, all_isI]
  rfl
/-! ### what a row's reason shows -/
def eqF (f g : Fm) : Bool := PyData.eqv f.d g.d
def eqC (c d : Fm × Fm) : Bool := PyData.eqv (clD c) (clD d)
def aloneL : List Str := ["same", "twice", "low", "first", "second", "one", "other"]
def fstB (y : Fm) : Fm → Bool
  | .both a _ => eqF a y
  | _ => false
def sndB (y : Fm) : Fm → Bool
  | .both _ b => eqF b y
  | _ => false
def fstE (x : Fm) : Fm → Bool
  | .either a _ => eqF a x
  | _ => false
def sndE (x : Fm) : Fm → Bool
  | .either _ b => eqF b x
  | _ => false
def aloneT (x y : Fm) (w : Str) : Bool :=
  if w = "same" then eqF x y
  else if w = "twice" then eqF y (.not (.not x)) || eqF x (.not (.not y))
  else if w = "low" then eqF x .none || eqF y .all
  else if w = "first" then fstB y x
  else if w = "second" then sndB y x
  else if w = "one" then fstE x y
  else if w = "other" then sndE x y
  else false
def rowShowT (c : Fm × Fm) (w : Str) (b : Fm × Fm) : Bool := if w = "turn" then eqC c (.not b.2, .not b.1) else decide (w = "never") && (eqF b.2 (.not b.1) && eqF c.1 b.1)
def rowsShowT (c : Fm × Fm) (w : Str) (l r : Fm × Fm) : Bool :=
  if w = "chain" then eqF l.2 r.1 && eqC c (l.1, r.2)
  else if w = "meet" then eqF l.1 r.1 && eqC c (l.1, .both l.2 r.2)
  else decide (w = "join") && (eqF l.2 r.2 && eqC c (.either l.1 r.1, l.2))
def rw0 : Rw := ⟨(.all, .all), "", []⟩
def clAt (rs : List Rw) (p : Int) : Fm × Fm := (rs.getD p.toNat rw0).c
def gAt (gs : List (Fm × Fm)) (p : Int) : Fm × Fm := gs.getD p.toNat (.all, .all)
def showT (gs : List (Fm × Fm)) (rs : List Rw) (k : Nat) (c : Fm × Fm) (w : Str) (ns : List Int) : Bool :=
  if w ∈ aloneL then ns.isEmpty && aloneT c.1 c.2 w
  else if w = "given" then (match ns with
    | [p] => decide (0 ≤ p) && (decide (p < (gs.length : Int)) && eqC (gAt gs p) c)
    | _ => false)
  else if (ns.all fun p => decide (0 ≤ p) && decide (p < (k : Int))) = true then (match ns with
    | [p] => rowShowT c w (clAt rs p)
    | [p, q] => rowsShowT c w (clAt rs p) (clAt rs q)
    | _ => false)
  else false
def shownT (gs : List (Fm × Fm)) (rs : List Rw) (k : Nat) : Bool := showT gs rs k (rs.getD k rw0).c (rs.getD k rw0).w (rs.getD k rw0).ns
def drvT (gs : List (Fm × Fm)) (c : Fm × Fm) (rs : List Rw) : Bool := eqC (clAt rs ((rs.length : Int) - 1)) c && (List.range rs.length).all (shownT gs rs)
def DrvIs (gs : List (Fm × Fm)) (c : Fm × Fm) (v : D) (b : Bool) : Prop :=
  (∃ rs : List Rw, rs ≠ [] ∧ v = .tuple (rs.map rwD) ∧ (∀ r ∈ rs, ClOk 41 r.c) ∧ b = drvT gs c rs) ∨ ((¬ ∃ rs : List Rw, rs ≠ [] ∧ v = .tuple (rs.map rwD) ∧ ∀ r ∈ rs, ClOk 41 r.c) ∧ b = false)
theorem drvIs_ex (gs : List (Fm × Fm)) (c : Fm × Fm) (v : D) : ∃ b, DrvIs gs c v b := by
  by_cases h : ∃ rs : List Rw, rs ≠ [] ∧ v = .tuple (rs.map rwD) ∧ ∀ r ∈ rs, ClOk 41 r.c
  · obtain ⟨rs, h1, h2, h3⟩ := h
    exact ⟨_, .inl ⟨rs, h1, h2, h3, rfl⟩⟩
  · exact ⟨false, .inr ⟨h, rfl⟩⟩
/-! ### shapes -/
theorem isW_nm {s : Str} (h : isW s = true) : nmB s = true := by
  unfold isW at h
  simp only [Bool.and_eq_true, decide_eq_true_eq] at h
  unfold nmB
  rw [Bool.and_eq_true, decide_eq_true_eq]
  refine ⟨h.1.2.2, ?_⟩
  unfold PyData.strOk
  rw [Array.all_eq_true']
  intro c hc
  have h1 := List.all_eq_true.mp h.2 c (Array.mem_toList_iff.mpr hc)
  unfold letterB at h1
  rw [Bool.and_eq_true, decide_eq_true_eq, decide_eq_true_eq] at h1
  rw [decide_eq_true_eq]
  omega
theorem shF {n : Nat} {f : Fm} (h : FmOk n f) (hn : n ≤ 60) : SeqAt.shaped f.d = true := by
  obtain ⟨⟨_, h2⟩, h3, _, _⟩ := fm_wt f fun s hs => isW_nm (h.2 s hs)
  have := h.1
  unfold SeqAt.shaped
  rw [h3, h2, decide_eq_true (by omega)]
  rfl
theorem shC {n : Nat} {c : Fm × Fm} (h : ClOk n c) (hn : n ≤ 60) : SeqAt.shaped (clD c) = true := by
  obtain ⟨⟨_, h2⟩, h3, _, _⟩ := fm_wt c.1 fun s hs => isW_nm (h.1.2 s hs)
  obtain ⟨⟨_, g2⟩, g3, _, _⟩ := fm_wt c.2 fun s hs => isW_nm (h.2.2 s hs)
  have := h.1.1
  have := h.2.1
  unfold SeqAt.shaped clD
  rw [PyData.canLay0, PyData.canLayAll0, PyData.canLayAll0, PyData.canLayAll0, h3, g3, PyData.depth, PyData.depthAll, PyData.depthAll, PyData.depthAll, h2, g2, decide_eq_true (by omega)]
  rfl
theorem FmOk.not {n : Nat} {f : Fm} (h : FmOk n f) : FmOk (n + 1) (.not f) := ⟨Nat.succ_lt_succ h.1, h.2⟩
theorem FmOk.both {n : Nat} {f g : Fm} (h : FmOk n f) (k : FmOk n g) : FmOk (n + 1) (.both f g) := ⟨by show max f.dep g.dep + 1 < n + 1; have := h.1; have := k.1; omega, fun s hs => (List.mem_append.mp hs).elim (h.2 s) (k.2 s)⟩
theorem FmOk.either {n : Nat} {f g : Fm} (h : FmOk n f) (k : FmOk n g) : FmOk (n + 1) (.either f g) := ⟨by show max f.dep g.dep + 1 < n + 1; have := h.1; have := k.1; omega, fun s hs => (List.mem_append.mp hs).elim (h.2 s) (k.2 s)⟩
theorem FmOk.mono {m n : Nat} {f : Fm} (h : FmOk m f) (l : m ≤ n) : FmOk n f := ⟨Nat.lt_of_lt_of_le h.1 l, h.2⟩
theorem FmOk.all {n : Nat} : FmOk (n + 1) .all := ⟨Nat.succ_pos n, fun s hs => nomatch hs⟩
theorem FmOk.none {n : Nat} : FmOk (n + 1) .none := ⟨Nat.succ_pos n, fun s hs => nomatch hs⟩
/-! ### promises -/
def spClLn : SpD := fun ds Q => ∃ (n : Nat) (d : D), ds = [d, .int ((n : Int) - 1)] ∧ n < 42 ∧ tdD d = true ∧ Q (.v (.bool (clN n d)))
def spIsRow : SpD := fun ds Q => ∃ d : D, ds = [d] ∧ tdD d = true ∧ Q (.v (.bool (rowB d)))
def spAlone : SpD := fun ds Q => ∃ (c : Fm × Fm) (w : Str), ds = [clD c, .str w] ∧ ClOk 41 c ∧ w ∈ aloneL ∧ Q (.v (.bool (aloneT c.1 c.2 w)))
def spLAlone : SpD := fun ds Q => ∃ (c : Fm × Fm) (w : Str), ds = [clD c, .str w] ∧ ClOk 41 c ∧ Q (.v (.bool (aloneT c.1 c.2 w)))
def spRowSh : SpD := fun ds Q => ∃ (c b : Fm × Fm) (w : Str), ds = [clD c, .str w, clD b] ∧ ClOk 41 c ∧ ClOk 41 b ∧ Q (.v (.bool (rowShowT c w b)))
def spRowsSh : SpD := fun ds Q => ∃ (c l r : Fm × Fm) (w : Str), ds = [clD c, .str w, clD l, clD r] ∧ ClOk 41 c ∧ ClOk 41 l ∧ ClOk 41 r ∧ Q (.v (.bool (rowsShowT c w l r)))
def spShown : SpD := fun ds Q => ∃ (gs : List (Fm × Fm)) (rs : List Rw) (k : Nat), ds = [.tuple (gs.map clD), .tuple (rs.map rwD), .int (k : Int)] ∧ k < rs.length ∧ gs.length ≤ 100000 ∧ rs.length ≤ 100000 ∧ (∀ r ∈ rs, ClOk 41 r.c ∧ r.ns.length ≤ 100000) ∧ (∀ c ∈ gs, ClOk 41 c) ∧ Q (.v (.bool (shownT gs rs k)))
def spDrv : SpD := fun ds Q => ∃ (gs : List (Fm × Fm)) (c : Fm × Fm) (v : D) (b : Bool), ds = [.tuple (gs.map clD), clD c, v] ∧ tdD v = true ∧ gs.length ≤ 100000 ∧ (∀ c ∈ gs, ClOk 41 c) ∧ ClOk 41 c ∧ DrvIs gs c v b ∧ Q (.v (.bool b))
end DL

namespace LW
open PySem L2 DL
def takenD : D := .tuple [.str "all", .str "and", .str "below", .str "none", .str "not", .str "or"]
def Gw : Gm := ⟨fun _ => none, fun | 0 => some (.str "abcdefghijklmnopqrstuvwxyz") | 1 => some takenD | 2 => some (.int 12) | _ => none⟩
@[simp] theorem Gw_g0 : Gw.Γ 0 = some (.str "abcdefghijklmnopqrstuvwxyz") := rfl
@[simp] theorem Gw_g1 : Gw.Γ 1 = some takenD := rfl
@[simp] theorem Gw_g2 : Gw.Γ 2 = some (.int 12) := rfl
def G0 : Gm := ⟨fun _ => none, fun _ => none⟩
theorem boolsD_map {α : Type} (f : α → Bool) : ∀ l : List α, boolsD (l.map fun x => .bool (f x)) = some (l.map f)
  | [] => rfl
  | x :: l => by
    show (boolsD (l.map fun x => PyData.bool (f x))).map (f x :: ·) = _
    rw [boolsD_map f l]
    rfl
theorem taken_in (s : Str) : inV (V.str s) [V.str "all", V.str "and", V.str "below", V.str "none", V.str "not", V.str "or"] = takenL.contains s := by
  rw [Bool.eq_iff_iff]
  simp only [takenL, inV, List.any_cons, List.any_nil, eqV, List.contains_cons, List.contains_nil, Bool.or_eq_true, beq_iff_eq]
  simp only [eq_comm]
theorem chars_all (s : Str) (hs : s.length ≤ 100000) (Q : List D → Prop) (h : PhC _ _ Q) (q : Q (s.cps.toList.map fun c => .bool (letterB c))) :
    runC (wpTs Gw .nil) (wpE Gw (.cmp .In (.var 1) (.glb 0))) (.nm 1) [.val (.str s), .no] (s.cps.toList.map fun c => .str ⟨#[c]⟩) Q h := by
  have hl : s.cps.toList.length ≤ 100000 := by rw [Array.length_toList]; exact hs
  refine foldC_map (fun d => match d with | .str c => .bool (letterB (c.cps.getD 0 0)) | d => d) (fun d hd Qt Qf q1 => ?_) (by rw [List.length_map, sizeLine_eq]; omega) ?_
  · obtain ⟨c, _, rfl⟩ := List.mem_map.mp hd
    simp (decide := true) (dsimp := false) []
    have e := StrLaws.found_one "abcdefghijklmnopqrstuvwxyz" c
    rw [letter_in] at e
    rw [e]
    exact q1
  · rw [List.map_map]
    exact q
theorem w_is_word (ds : List D) (Q : R → Prop) (h : spIsW ds Q) : ds.length = 1 ∧ wpF Gw 2 c_is_word ds Q := by
  obtain ⟨d, rfl, ht, q⟩ := h
  refine ⟨rfl, ?_⟩
  have hn := td_noDic ht
  cases d with
  | str s =>
    have hs := td_str ht
    have hs1 : s.length ≤ 16777216 := by omega
    simp (decide := true) (dsimp := false) [c_is_word, takenD, taken_in, sizeLine_eq, hs1]

    have hi : isWD (.str s) = isW s := rfl
    rw [hi] at q
    split
    · rename_i e
      have e' : takenL.contains s = true := by simpa using e
      unfold isW at q
      rw [e'] at q
      exact q
    · rename_i e
      have e' : takenL.contains s = false := by simpa using e
      split
      · rename_i l1
        split
        · rename_i l2
          refine chars_all s hs _ _ ?_
          simp (decide := true) (dsimp := false) [boolsD_map]
          have q' : Q (R.v (PyData.bool (s.cps.toList.all letterB))) := by
            unfold isW at q
            rw [e', decide_eq_true (show 1 ≤ s.length by omega), decide_eq_true (show s.length ≤ 12 by omega)] at q
            exact q
          simpa using q'
        · rename_i l2
          unfold isW at q
          rw [e', decide_eq_false (show ¬ s.length ≤ 12 by omega), Bool.and_false] at q
          simpa using q
      · rename_i l1
        unfold isW at q
        rw [e', decide_eq_false (show ¬ 1 ≤ s.length by omega), Bool.false_and] at q
        simpa using q
  | dict kvs =>
    simp (decide := true) (dsimp := false) [c_is_word, hn]
    exact ⟨by simpa using hn, q⟩
  | _ =>
    simp (decide := true) (dsimp := false) [c_is_word]
    exact q
theorem w_law_is_word (ds : List D) (Q : R → Prop) (h : spIsW ds Q) : ds.length = 1 ∧ wpF G0 2 c_law_is_word ds Q := by
  obtain ⟨d, rfl, ht, q⟩ := h
  refine ⟨rfl, ?_⟩
  have hn := td_noDic ht
  cases d with
  | str s =>
    have hs := td_str ht
    have hs1 : s.length ≤ 16777216 := by omega
    have hi : isWD (.str s) = isW s := rfl
    rw [hi] at q
    simp (decide := true) (dsimp := false) [c_law_is_word, taken_in, sizeLine_eq, hs1]
    split
    · rename_i e
      have e' : takenL.contains s = true := by simpa using e
      unfold isW at q
      rw [e'] at q
      exact q
    · rename_i e
      have e' : takenL.contains s = false := by simpa using e
      split
      · rename_i l1
        unfold isW at q
        rw [e', decide_eq_false (show ¬ 1 ≤ s.length by omega), Bool.false_and] at q
        simpa using q
      · rename_i l1
        split
        · rename_i l2
          unfold isW at q
          rw [e', decide_eq_false (show ¬ s.length ≤ 12 by omega), Bool.and_false] at q
          simpa using q
        · rename_i l2
          have q' : Q (R.v (PyData.bool (s.cps.toList.all letterB))) := by
            unfold isW at q
            rw [e', decide_eq_true (show 1 ≤ s.length by omega), decide_eq_true (show s.length ≤ 12 by omega)] at q
            exact q
          have hl : s.cps.toList.length ≤ 100000 := by rw [Array.length_toList]; exact hs
          refine foldC_fm (fun d => match d with | .str c => !letterB (c.cps.getD 0 0) | _ => false) id (fun d hd Qt Qf q1 q2 => ?_) (by rw [List.length_map, sizeLine_eq, List.length_nil]; omega) ?_
          · obtain ⟨c, _, rfl⟩ := List.mem_map.mp hd
            have el := letter_lt c
            cases ec : letterB c with
            | true =>
              rw [ec] at el
              have e1 : decide (([c] : List Nat) < ("a" : Str).cps.toList) = false := by
                cases x : decide (([c] : List Nat) < ("a" : Str).cps.toList) with
                | false => rfl
                | true => rw [x] at el; simp at el
              have e2 : decide (("z" : Str).cps.toList < ([c] : List Nat)) = false := by
                rw [e1] at el
                simpa using el
              simp (dsimp := false) [e1, e2]
              have := q2 (by show (!letterB c) = false; rw [ec]; rfl)
              simpa [e1, e2] using this
            | false =>
              rw [ec] at el
              have := q1 (by show (!letterB c) = true; rw [ec]; rfl)
              simp (dsimp := false) []
              cases x : decide (([c] : List Nat) < ("a" : Str).cps.toList) with
              | true =>
                have x' : ([c] : List Nat) < ("a" : Str).cps.toList := by simpa using x
                simpa [x'] using this
              | false =>
                rw [x] at el
                have x' : ¬ ([c] : List Nat) < ("a" : Str).cps.toList := by simpa using x
                have y' : ("z" : Str).cps.toList < ([c] : List Nat) := by simpa using el
                simpa [x', y'] using this
          · have el : (([] : List D) ++ ((s.cps.toList.map fun c => PyData.str ⟨#[c]⟩).filter fun d => match d with | .str c => !letterB (c.cps.getD 0 0) | _ => false).map id).length = (s.cps.toList.filter fun c => !letterB c).length := by
              rw [List.nil_append, List.map_id, List.filter_map, List.length_map]
              rfl
            have e2 : decide ((((s.cps.toList.filter fun c => !letterB c).length : Nat) : Int) = 0) = s.cps.toList.all letterB := by
              rw [Bool.eq_iff_iff, decide_eq_true_eq, List.all_eq_true]
              refine ⟨fun z c hc => ?_, fun z => ?_⟩
              · have z' := List.eq_nil_of_length_eq_zero (show (s.cps.toList.filter fun c => !letterB c).length = 0 by omega)
                have := List.filter_eq_nil_iff.mp z' c hc
                simpa using this
              · rw [List.filter_eq_nil_iff.mpr fun c hc => by have := z c hc; simpa using this]
                rfl
            simp (decide := true) (dsimp := false) []
            rw [← e2] at q'
            simp at el
            simpa [el] using q'
  | dict kvs =>
    simp (decide := true) (dsimp := false) [c_law_is_word, hn]
    exact ⟨by simpa using hn, q⟩
  | _ =>
    simp (decide := true) (dsimp := false) [c_law_is_word]
    exact q
theorem w_law_spread (ds : List D) (Q : R → Prop) (h : spSpread ds Q) : ds.length = 1 ∧ wpF G0 4 c_law_spread ds Q := by
  obtain ⟨c, rfl, q⟩ := h
  refine ⟨rfl, ?_⟩
  simp (dsimp := false) [c_law_spread]
  refine foldF_inv (fun _ env => ∃ b w x, env = [.val (.int c), .val (.int b), .val (.int w), x]) 0 ⟨_, _, _, rfl⟩ (fun k d env hk hi => ?_) fun env hi => ?_
  · obtain ⟨b, w, x, rfl⟩ := hi
    obtain ⟨j, _, rfl⟩ := rngD_mem (List.mem_of_getElem? hk)
    intro N hN
    have cm : ∀ i j : Int, (-(2 ^ 64) < j ∧ j < 2 ^ 64) → CMul i j := fun i j h => .inr h
    simp (dsimp := false) [cm b 48271 (by decide), cm w 2147483647 (by decide)]
    exact hN _ ⟨_, _, _, rfl⟩
  · obtain ⟨b, w, x, rfl⟩ := hi
    simp (dsimp := false) []
    exact q _
def Gdr : Gm := ⟨fun | 11 => some (spDraw) | _ => none, fun _ => none⟩
@[simp] theorem Gdr_11 : Gdr.Φ 11 = some (spDraw) := rfl
theorem w_law_pick (ds : List D) (Q : R → Prop) (h : spPick ds Q) : ds.length = 2 ∧ wpF Gdr 2 c_law_pick ds Q := by
  obtain ⟨items, rfl, h1, h2, q⟩ := h
  refine ⟨rfl, ?_⟩
  simp (decide := true) (dsimp := false) [c_law_pick]
  refine ⟨items.length, rfl, by omega, by omega, fun r r0 r1 => ?_⟩
  obtain ⟨d, e, hd⟩ := atI_in r0 r1
  simp [e]
  exact q d hd
def Gsa (n : Nat) : Gm := ⟨fun | 31 => some (spSame n) | _ => none, fun _ => none⟩
@[simp] theorem Gsa_31 (n : Nat) : (Gsa n).Φ 31 = some (spSame n) := rfl
theorem same_items (n : Nat) (ds : List D) (x : D) (hx : x = .list ds ∨ x = .tuple ds) (hk : okDs ds = true) (hd : depDs ds < n) (hz : ds.length ≤ 1000000) (Q : List D → Prop) (h : PhC _ _ Q) (q : Q []) :
    runC (wpTs (Gsa n) (.cons (.not (.call 31 (.cons (.ix (.var 0) (.var 2)) (.cons (.ix (.var 1) (.var 2)) .nil)))) .nil)) (wpE (Gsa n) (.var 2)) (.nm 2) [.val x, .val x, .no] (rngD 0 ds.length) Q h := by
  refine foldC_none (fun d hd' Qt Qf qf => ?_) (by rw [rngD_length, sizeLine_eq]; omega) q
  obtain ⟨k, hk', rfl⟩ := rngD_mem hd'
  rcases hx with rfl | rfl
  · simp (decide := true) (dsimp := false) [atI_ix hk']
    refine ⟨ds[k], rfl, okDs_get hk (List.getElem?_eq_getElem hk'), Nat.lt_of_le_of_lt (depDs_get (List.getElem?_eq_getElem hk')) hd, ?_⟩
    exact qf
  · simp (decide := true) (dsimp := false) [atI_ix hk']
    refine ⟨ds[k], rfl, okDs_get hk (List.getElem?_eq_getElem hk'), Nat.lt_of_le_of_lt (depDs_get (List.getElem?_eq_getElem hk')) hd, ?_⟩
    exact qf
theorem w_law_same (n : Nat) (ds : List D) (Q : R → Prop) (h : spSame (n + 1) ds Q) : ds.length = 2 ∧ wpF (Gsa n) 3 c_law_same ds Q := by
  obtain ⟨d, rfl, hk, hd, q⟩ := h
  refine ⟨rfl, ?_⟩
  cases d with
  | list ds =>
    rw [okD, Bool.and_eq_true, decide_eq_true_eq] at hk
    rw [depD] at hd
    simp (decide := true) (dsimp := false) [c_law_same]
    refine ⟨by omega, same_items n ds (.list ds) (.inl rfl) hk.2 (by omega) hk.1 _ _ ?_⟩
    simp (decide := true) (dsimp := false) []
    exact q
  | tuple ds =>
    rw [okD, Bool.and_eq_true, decide_eq_true_eq] at hk
    rw [depD] at hd
    simp (decide := true) (dsimp := false) [c_law_same]
    refine ⟨by omega, same_items n ds (.tuple ds) (.inr rfl) hk.2 (by omega) hk.1 _ _ ?_⟩
    simp (decide := true) (dsimp := false) []
    exact q
  | dict kvs => simp [okD] at hk
  | _ =>
    simp (decide := true) (dsimp := false) [c_law_same]
    exact q
def Gfo (n : Nat) : Gm := ⟨fun | 11 => some (spDraw) | 12 => some (spPick) | 13 => some (spForm n) | _ => none, fun _ => none⟩
@[simp] theorem Gfo_11 (n : Nat) : (Gfo n).Φ 11 = some (spDraw) := rfl
@[simp] theorem Gfo_12 (n : Nat) : (Gfo n).Φ 12 = some (spPick) := rfl
@[simp] theorem Gfo_13 (n : Nat) : (Gfo n).Φ 13 = some (spForm n) := rfl
theorem w_law_formula (n : Nat) (ds : List D) (Q : R → Prop) (h : spForm (n + 1) ds Q) : ds.length = 3 ∧ wpF (Gfo n) 6 c_law_formula ds Q := by
  obtain ⟨names, deep, rfl, h1, h2, h3, q⟩ := h
  refine ⟨rfl, ?_⟩
  have leaf : ∀ d ∈ names.map PyData.str, Q (.v (.tuple [.str "name", d])) := fun d hd => by
    obtain ⟨s, hs, rfl⟩ := List.mem_map.mp hd
    exact q (.name s) (by simp [Fm.dep]) (by simp [Fm.nms, hs])
  simp (decide := true) (dsimp := false) [c_law_formula, sizeLine_eq]
  split
  · rename_i hp
    have em : ((deep : Int) - 1) = ((deep - 1 : Nat) : Int) := by omega
    refine ⟨10, rfl, by omega, by omega, fun r r0 r1 => ?_⟩
    simp (decide := true) (dsimp := false) [sizeLine_eq]
    split
    · refine ⟨14, rfl, by omega, by omega, fun z z0 z1 => ?_⟩
      simp (decide := true) (dsimp := false) [sizeLine_eq]
      split
      · exact q .all (by simp [Fm.dep]) (by simp [Fm.nms])
      · split
        · exact q .none (by simp [Fm.dep]) (by simp [Fm.nms])
        · refine ⟨names.map .str, rfl, by simpa using h1, by simpa using h2, fun d hd => ?_⟩
          simp (decide := true) (dsimp := false) [sizeLine_eq]
          exact leaf d hd
    · split
      · refine ⟨names, deep - 1, by rw [em], h1, h2, by omega, fun f hf hn => ?_⟩
        simp (decide := true) (dsimp := false) [sizeLine_eq]
        exact q (.not f) (by simp [Fm.dep]; omega) (by simpa [Fm.nms] using hn)
      · refine ⟨names, deep - 1, by rw [em], h1, h2, by omega, fun f hf hn => ?_⟩
        simp (decide := true) (dsimp := false) [sizeLine_eq]
        split
        · refine ⟨names, deep - 1, by rw [em], h1, h2, by omega, fun g hg hm => ?_⟩
          simp (decide := true) (dsimp := false) [sizeLine_eq]
          refine q (.both f g) (by simp [Fm.dep]; omega) fun s hs => ?_
          simp [Fm.nms] at hs
          exact hs.elim (hn s) (hm s)
        · refine ⟨names, deep - 1, by rw [em], h1, h2, by omega, fun g hg hm => ?_⟩
          simp (decide := true) (dsimp := false) [sizeLine_eq]
          refine q (.either f g) (by simp [Fm.dep]; omega) fun s hs => ?_
          simp [Fm.nms] at hs
          exact hs.elim (hn s) (hm s)
  · refine ⟨3, rfl, by omega, by omega, fun r r0 r1 => ?_⟩
    simp (decide := true) (dsimp := false) [sizeLine_eq, r1]
    refine ⟨14, rfl, by omega, by omega, fun z z0 z1 => ?_⟩
    simp (decide := true) (dsimp := false) [sizeLine_eq]
    split
    · exact q .all (by simp [Fm.dep]) (by simp [Fm.nms])
    · split
      · exact q .none (by simp [Fm.dep]) (by simp [Fm.nms])
      · refine ⟨names.map .str, rfl, by simpa using h1, by simpa using h2, fun d hd => ?_⟩
        simp (decide := true) (dsimp := false) [sizeLine_eq]
        exact leaf d hd
def Gcl (n : Nat) : Gm := ⟨fun | 11 => some (spDraw) | 13 => some (spForm n) | 14 => some (spClaim n) | _ => none, fun _ => none⟩
@[simp] theorem Gcl_11 (n : Nat) : (Gcl n).Φ 11 = some (spDraw) := rfl
@[simp] theorem Gcl_13 (n : Nat) : (Gcl n).Φ 13 = some (spForm n) := rfl
@[simp] theorem Gcl_14 (n : Nat) : (Gcl n).Φ 14 = some (spClaim n) := rfl
theorem w_law_claim (n : Nat) (ds : List D) (Q : R → Prop) (h : spClaim n ds Q) : ds.length = 3 ∧ wpF (Gcl n) 5 c_law_claim ds Q := by
  obtain ⟨names, deep, rfl, ⟨n1, n2⟩, ⟨d1, d2⟩, q⟩ := h
  refine ⟨rfl, ?_⟩
  simp (decide := true) (dsimp := false) [c_law_claim]
  refine ⟨names, deep, rfl, n1, n2, d2, fun f hf hn => ?_⟩
  simp (decide := true) (dsimp := false) []
  refine ⟨8, rfl, by omega, by omega, fun r r0 r1 => ?_⟩
  have dm : (deep : Int) - 1 = ((deep - 1 : Nat) : Int) := by omega
  simp (decide := true) (dsimp := false) [sizeLine_eq]
  split
  · simp (decide := true) (dsimp := false) [sizeLine_eq, dm]
    refine ⟨names, deep - 1, rfl, n1, n2, by omega, fun g hg gn => ?_⟩
    simp (decide := true) (dsimp := false) [sizeLine_eq]
    refine q (f, .either f g) ⟨⟨by show f.dep ≤ deep + 1; omega, by show max f.dep g.dep + 1 ≤ deep + 1; omega⟩, fun s hs => ?_⟩
    simp only [Fm.nms, List.mem_append] at hs
    rcases hs with hs | hs | hs
    · exact hn s hs
    · exact hn s hs
    · exact gn s hs
  · split
    · simp (decide := true) (dsimp := false) [sizeLine_eq, dm]
      refine ⟨names, deep - 1, rfl, n1, n2, by omega, fun g hg gn => ?_⟩
      simp (decide := true) (dsimp := false) [sizeLine_eq]
      refine q (.both g f, f) ⟨⟨by show max g.dep f.dep + 1 ≤ deep + 1; omega, by show f.dep ≤ deep + 1; omega⟩, fun s hs => ?_⟩
      simp only [Fm.nms, List.mem_append] at hs
      rcases hs with (hs | hs) | hs
      · exact gn s hs
      · exact hn s hs
      · exact hn s hs
    · refine ⟨names, deep, rfl, n1, n2, d2, fun g hg gn => ?_⟩
      simp (decide := true) (dsimp := false) [sizeLine_eq]
      refine q (f, g) ⟨⟨by show f.dep ≤ deep + 1; omega, by show g.dep ≤ deep + 1; omega⟩, fun s hs => ?_⟩
      rcases List.mem_append.mp hs with hs | hs
      · exact hn s hs
      · exact gn s hs
theorem w_law_theory (n : Nat) (ds : List D) (Q : R → Prop) (h : spTheory n ds Q) : ds.length = 4 ∧ wpF (Gcl n) 5 c_law_theory ds Q := by
  obtain ⟨names, many, deep, rfl, nm, dd, hm, q⟩ := h
  refine ⟨rfl, ?_⟩
  simp (decide := true) (dsimp := false) [c_law_theory]
  refine ⟨(many : Int) + 1, rfl, by omega, by omega, fun r r0 r1 => ?_⟩
  simp (decide := true) (dsimp := false) []
  refine ⟨by omega, by omega, ?_⟩
  refine foldC_rel (fun i acc => ∃ cs : List (Fm × Fm), acc = cs.map clD ∧ cs.length = i ∧ ∀ c ∈ cs, CC names (deep + 1) c) 0 ⟨[], rfl, rfl, fun c hc => nomatch hc⟩ (by rw [rngD_length, sizeLine_eq, List.length_nil]; omega) (fun k d acc hk hi Qt Qf q1 q2 => ?_) fun acc hi => ?_
  · obtain ⟨cs, rfl, hl, hc⟩ := hi
    show tgD _ _ _ _
    simp (decide := true) (dsimp := false) []
    refine ⟨names, deep, rfl, nm, dd, fun c hcc => ?_⟩
    refine q1 _ (clD c) rfl ⟨cs ++ [c], by rw [List.map_append]; rfl, by rw [List.length_append, List.length_singleton]; omega, fun x hx => ?_⟩
    rcases List.mem_append.mp hx with hx | hx
    · exact hc x hx
    · rw [List.mem_singleton.mp hx]
      exact hcc
  · obtain ⟨cs, rfl, hl, hc⟩ := hi
    rw [rngD_length] at hl
    simp (decide := true) (dsimp := false) []
    exact q cs (by omega) hc
theorem w_law_spot (ds : List D) (Q : R → Prop) (h : spSpot ds Q) : ds.length = 2 ∧ wpF G0 3 c_law_spot ds Q := by
  obtain ⟨d, x, p, rfl, hx, q⟩ := h
  refine ⟨rfl, ?_⟩
  simp (decide := true) (dsimp := false) [c_law_spot]
  refine foldF_inv (fun i env => ∃ y x2, getP d (p.take i) = some y ∧ env = [.val y, .val (.list (natD p)), x2]) 0 ⟨d, .no, by rw [List.take_zero]; cases d <;> rfl, rfl⟩ (fun k e env hk hi => ?_) fun env hi => ?_
  · obtain ⟨y, x2, hy, rfl⟩ := hi
    rw [Nat.zero_add] at hy
    intro N hN
    unfold natD at hk
    rw [List.getElem?_map, Option.map_eq_some_iff] at hk
    obtain ⟨j, hj, rfl⟩ := hk
    have e1 : p = p.take k ++ j :: p.drop (k + 1) := by
      obtain ⟨l, e⟩ := List.getElem?_eq_some_iff.mp hj
      rw [← e, ← List.drop_eq_getElem_cons l, List.take_append_drop]
    rw [e1, getP_app, hy] at hx
    obtain ⟨es, z, rfl, hz, hzx⟩ := getP_cons (show getP y (j :: p.drop (k + 1)) = some x from hx)
    simp (decide := true) (dsimp := false) [atI_nat hz]
    refine hN _ ⟨z, _, ?_, rfl⟩
    rw [Nat.zero_add, List.take_add_one, hj, getP_app, hy]
    show getP (.tuple es) [j] = some z
    show (es[j]?).bind (fun x => getP x []) = some z
    rw [hz]
    cases z <;> rfl
  · obtain ⟨y, x2, hy, rfl⟩ := hi
    rw [natD_length, Nat.zero_add, List.take_length, hx] at hy
    simp (decide := true) (dsimp := false) []
    rw [← Option.some.inj hy]
    exact q
def Gpu (m : Nat) : Gm := ⟨fun | 25 => some (spPutP m) | _ => none, fun _ => none⟩
@[simp] theorem Gpu_12 (m : Nat) : (Gpu m).Φ 25 = some (spPutP m) := rfl
theorem w_law_spot_put (m : Nat) (ds : List D) (Q : R → Prop) (h : spPutP (m + 1) ds Q) : ds.length = 3 ∧ wpF (Gpu m) 3 c_law_spot_put ds Q := by
  obtain ⟨d, x, p, rfl, hm, ht, hp, q⟩ := h
  refine ⟨rfl, ?_⟩
  cases p with
  | nil =>
    simp (decide := true) (dsimp := false) [c_law_spot_put, natD]
    have e : putP d [] x = x := by cases d <;> rfl
    rw [e] at q
    exact q
  | cons k p =>
    obtain ⟨y, hy⟩ := Option.isSome_iff_exists.mp hp
    obtain ⟨es, z, rfl, hz, hzy⟩ := getP_cons hy
    obtain ⟨hl, hd⟩ := td_tup ht
    have e0 : atI (natD (k :: p)) 0 = some (.int (k : Int)) := atI_nat (j := 0) (rfl : (natD (k :: p))[0]? = some (.int (k : Int)))
    have ln : ¬ (((natD (k :: p)).length : Int) = 0) := by rw [natD_length, List.length_cons]; omega
    have ct : cutD (natD (k :: p)) (some 1) none = natD p := cut_drop (k := 1)
    have cd : cutD es (some ((k : Int) + 1)) none = es.drop (k + 1) := by
      rw [show ((k : Int) + 1) = ((k + 1 : Nat) : Int) by omega]
      exact cut_drop
    have kl : k < es.length := (List.getElem?_eq_some_iff.mp hz).1
    simp (decide := true) (dsimp := false) [c_law_spot_put, e0, ln, atI_nat hz, ct, cut_take]
    refine ⟨z, x, p, rfl, by simpa using hm, hd z (List.mem_of_getElem? hz), by rw [hzy]; rfl, ?_⟩
    simp (decide := true) (dsimp := false) [e0, sizeLine_eq, cd]
    have e : putP (.tuple es) (k :: p) x = .tuple (es.set k (putP z p x)) := by
      show (match es[k]? with | some d => PyData.tuple (es.set k (putP d p x)) | none => .tuple es) = _
      rw [hz]
    rw [e, List.set_eq_take_append_cons_drop, if_pos kl] at q
    rw [cut_take]
    have l1 : (es.take k).length ≤ 100000 := by rw [List.length_take]; omega
    refine ⟨by omega, by omega, ?_⟩
    simpa using q
def Gsp (m : Nat) : Gm := ⟨fun | 24 => some (spSpots m) | _ => none, fun _ => none⟩
@[simp] theorem Gsp_11 (m : Nat) : (Gsp m).Φ 24 = some (spSpots m) := rfl
theorem w_law_spots (m : Nat) (ds : List D) (Q : R → Prop) (h : spSpots (m + 1) ds Q) : ds.length = 2 ∧ wpF (Gsp m) 4 c_law_spots ds Q := by
  obtain ⟨d, pre, rfl, hm, ht, hpl, hl, q⟩ := h
  refine ⟨rfl, ?_⟩
  have hn := td_noDic ht
  cases d with
  | tuple es =>
    obtain ⟨hel, hed⟩ := td_tup ht
    have n1 : (es.length : Int) < 4611686018427387904 := by omega
    have n2 : -4611686018427387904 ≤ (es.length : Int) := by omega
    rw [spotsL, List.length_cons] at hl
    rw [depD] at hm hpl
    simp (decide := true) (dsimp := false) [c_law_spots, sizeLine_eq, n1, n2]
    refine foldF_inv (fun i env => ∃ x3, env = [.val (.tuple es), .val (.list (natD pre)), .own (pathsD (pre :: spotsLs (es.take i) 0 pre)), x3]) 0 ⟨.no, rfl⟩ (fun k e env hk hi => ?_) fun env hi => ?_
    · obtain ⟨x3, rfl⟩ := hi
      intro N hN
      have kl := (List.getElem?_eq_some_iff.mp hk).1
      rw [rngD_length] at kl
      have ek : e = .int (k : Int) := by
        have := rngD_get (lo := 0) kl
        rw [this] at hk
        rw [← Option.some.inj hk, Int.zero_add]
      subst ek
      have hz : es[k]? = some es[k] := List.getElem?_eq_getElem kl
      have pa : natD pre ++ [PyData.int (k : Int)] = natD (pre ++ [k]) := by
        unfold natD
        rw [List.map_append]
        rfl
      have sm := spotsL_mem es 0 pre es[k] k hz
      have st := spotsLs_take es k 0 pre es[k] hz
      have sl := spotsLs_le es (k + 1) 0 pre
      rw [Nat.zero_add] at sm st
      have dm : depD es[k] ≤ depDs es := depDs_get hz
      have pl2 : (natD pre).length + 1 ≤ 16777216 := by rw [natD_length]; omega
      simp (decide := true) (dsimp := false) [atI_nat hz, sizeLine_eq, pa, pl2]
      refine ⟨es[k], pre ++ [k], rfl, by omega, hed _ (List.getElem_mem kl), by rw [List.length_append, List.length_singleton]; omega, by omega, ?_⟩
      simp (decide := true) (dsimp := false) [sizeLine_eq]
      rw [st, List.length_append] at sl
      have e2 : pathsD (pre :: spotsLs (es.take k) 0 pre) ++ pathsD (spotsL es[k] (pre ++ [k])) = pathsD (pre :: spotsLs (es.take (0 + k + 1)) 0 pre) := by
        rw [Nat.zero_add, st]
        unfold pathsD
        rw [← List.map_append]
        rfl
      rw [e2]
      refine ⟨?_, hN _ ⟨_, rfl⟩⟩
      unfold pathsD
      rw [List.length_map, List.length_map, List.length_cons]
      rw [Nat.zero_add] at *
      omega
    · obtain ⟨x3, rfl⟩ := hi
      rw [rngD_length, Nat.zero_add, List.take_length]
      simp (decide := true) (dsimp := false) []
      rw [spotsL] at q
      exact q
  | dict kvs =>
    simp (decide := true) (dsimp := false) [c_law_spots, hn, sizeLine_eq]
    exact ⟨by simpa using hn, q⟩
  | _ =>
    simp (decide := true) (dsimp := false) [c_law_spots, sizeLine_eq]
    exact q
def Gbs : Gm := ⟨fun | 12 => some spPick | _ => none, fun _ => none⟩
@[simp] theorem Gbs_6 : Gbs.Φ 12 = some spPick := rfl
theorem w_law_odd_values (ds : List D) (Q : R → Prop) (h : spOdd ds Q) : ds.length = 0 ∧ wpF G0 0 c_law_odd_values ds Q := by
  obtain ⟨rfl, q⟩ := h
  refine ⟨rfl, ?_⟩
  simp (decide := true) (dsimp := false) [c_law_odd_values, sizeLine_eq]
  exact q
theorem w_law_bent_spot (ds : List D) (Q : R → Prop) (h : spBentSpot ds Q) : ds.length = 2 ∧ wpF Gbs 2 c_law_bent_spot ds Q := by
  obtain ⟨d, rfl, hb, q⟩ := h
  refine ⟨rfl, ?_⟩
  cases d with
  | tuple ds =>
    have h3 : ds.length ≤ 40000 := by simpa [bdD] using hb
    obtain ⟨c1, c2⟩ := cut_sub ds (some (-1)) none
    have cd : cutD ds (some 1) none = ds.drop 1 := cut_drop (k := 1)
    simp (decide := true) (dsimp := false) [c_law_bent_spot, sizeLine_eq, cd]
    refine ⟨by omega, by omega, ?_⟩
    exact ⟨_, rfl, by simp, by simp, fun x hx => q x (by simpa [bentL] using hx)⟩
  | str s =>
    simp (decide := true) (dsimp := false) [c_law_bent_spot, sizeLine_eq]
    exact ⟨_, rfl, by simp, by simp, fun x hx => q x hx⟩
  | none =>
    simp (decide := true) (dsimp := false) [c_law_bent_spot, sizeLine_eq]
    exact ⟨_, rfl, by simp, by simp, fun x hx => q x hx⟩
  | int i =>
    have hi : i.natAbs.log2 < 1920 := by
      have : i.natAbs.log2 < 1900 := by simpa [bdD] using hb
      omega
    simp (decide := true) (dsimp := false) [c_law_bent_spot, sizeLine_eq, hi]
    exact ⟨_, rfl, by simp, by simp, fun x hx => q x (by simpa [bentL] using hx)⟩
  | _ => cases hb
def Gbe (m : Nat) : Gm := ⟨fun | 12 => some spPick | 28 => some spOdd | 24 => some (spSpots m) | 25 => some (spPutP m) | 26 => some spBentSpot | 27 => some spSpot | _ => none, fun _ => none⟩
@[simp] theorem Gbe_6 (m : Nat) : (Gbe m).Φ 12 = some spPick := rfl
@[simp] theorem Gbe_7 (m : Nat) : (Gbe m).Φ 28 = some spOdd := rfl
@[simp] theorem Gbe_11 (m : Nat) : (Gbe m).Φ 24 = some (spSpots m) := rfl
@[simp] theorem Gbe_12 (m : Nat) : (Gbe m).Φ 25 = some (spPutP m) := rfl
@[simp] theorem Gbe_13 (m : Nat) : (Gbe m).Φ 26 = some spBentSpot := rfl
@[simp] theorem Gbe_14 (m : Nat) : (Gbe m).Φ 27 = some spSpot := rfl
theorem w_law_bent (m : Nat) (ds : List D) (Q : R → Prop) (h : spBent m ds Q) : ds.length = 3 ∧ wpF (Gbe m) 7 c_law_bent ds Q := by
  obtain ⟨es, many, rfl, hm, hm9, ht, hne, hel, hma, hsl, hsp, q⟩ := h
  refine ⟨rfl, ?_⟩
  obtain ⟨h, r, rfl⟩ : ∃ h r, es = h :: r := by
    cases es with
    | nil => exact absurd rfl hne
    | cons h r => exact ⟨h, r, rfl⟩
  have e0 : atI (h :: r) 0 = some h := atI_nat (j := 0) (rfl : (h :: r)[0]? = some h)
  have lr : (h :: r).length ≤ 40000 := hel
  rw [List.length_cons] at lr
  simp (decide := true) (dsimp := false) [c_law_bent, sizeLine_eq, e0]
  refine ⟨by omega, .tuple (h :: r), [], rfl, by rw [depD]; omega, ht, by rw [List.length_nil, depD]; omega, hsl, ?_⟩
  have n1 : (many : Int) < 4611686018427387904 := by omega
  have n2 : -4611686018427387904 ≤ (many : Int) := by omega
  simp (decide := true) (dsimp := false) [sizeLine_eq, n1, n2]
  refine foldF_inv (fun i env => ∃ vals x4 x5 x6, vals.length ≤ i + 5 ∧ (∀ v ∈ vals, NearB (.tuple (h :: r)) (h :: r) v) ∧ (x4 = .own (pathsD (spotsL (.tuple (h :: r)) [])) ∨ x4 = .val (.list (pathsD (spotsL (.tuple (h :: r)) [])))) ∧
    env = [.val poolD, .val (.tuple (h :: r)), .val (.int (many : Int)), .own vals, x4, x5, x6]) 0 ⟨_, _, _, _, ?_, ?_, .inl rfl, rfl⟩ (fun k e env hk hi => ?_) fun env hi => ?_
  · simp
  · intro v hv
    simp only [List.mem_cons, List.not_mem_nil, or_false] at hv
    rcases hv with rfl | rfl | rfl | rfl | rfl
    · exact .inl rfl
    · exact .inr (.inl rfl)
    · exact .inr (.inr (.inl (by simp)))
    · exact .inr (.inr (.inr (.inl ⟨h, rfl, rfl⟩)))
    · exact .inr (.inr (.inr (.inr (.inl (by simp)))))
  · obtain ⟨vals, x4, x5, x6, hv1, hv2, h4, rfl⟩ := hi
    intro N hN
    have pick : ∀ P : D → Prop, (∀ p ∈ spotsL (.tuple (h :: r)) [], P (.list (natD p))) → ∀ d ∈ pathsD (spotsL (.tuple (h :: r)) []), P d := fun P hP d hd => by
      obtain ⟨p, hp, rfl⟩ := List.mem_map.mp hd
      exact hP p hp
    have one : 1 ≤ (pathsD (spotsL (.tuple (h :: r)) [])).length := by
      unfold pathsD
      rw [List.length_map, spotsL, List.length_cons]
      omega
    have all : (pathsD (spotsL (.tuple (h :: r)) [])).length < 1000000 := by
      unfold pathsD
      rw [List.length_map]
      omega
    have kl : k < many := by
      have := (List.getElem?_eq_some_iff.mp hk).1
      rwa [rngD_length] at this
    rcases h4 with rfl | rfl <;> (
    simp (decide := true) (dsimp := false) [sizeLine_eq]
    refine ⟨_, rfl, one, all, pick _ fun p hp => ?_⟩
    obtain ⟨y, hy, by_, pl⟩ := hsp p hp
    simp (decide := true) (dsimp := false) [sizeLine_eq]
    refine ⟨_, y, p, rfl, hy, ?_⟩
    simp (decide := true) (dsimp := false) [sizeLine_eq]
    refine ⟨y, rfl, by_, fun x hx => ?_⟩
    simp (decide := true) (dsimp := false) [sizeLine_eq]
    refine ⟨_, x, p, rfl, pl, ht, by rw [hy]; rfl, ?_⟩
    simp (decide := true) (dsimp := false) [sizeLine_eq]
    refine ⟨by omega, hN _ ⟨_, _, _, _, ?_, ?_, .inr rfl, rfl⟩⟩
    · rw [List.length_append, List.length_singleton]
      omega
    · intro v hv
      rcases List.mem_append.mp hv with hv | hv
      · exact hv2 v hv
      · rw [List.mem_singleton.mp hv]
        exact .inr (.inr (.inr (.inr (.inr (.inr ⟨p, y, x, hy, hp, hx, rfl⟩))))))
  · obtain ⟨vals, x4, x5, x6, hv1, hv2, h4, rfl⟩ := hi
    rw [rngD_length] at hv1
    simp (decide := true) (dsimp := false) [sizeLine_eq]
    refine ⟨rfl, ?_⟩
    simp (decide := true) (dsimp := false) [sizeLine_eq]
    have ol : oddL.length = 23 := rfl
    refine ⟨by omega, q _ (by rw [List.length_append, ol]; omega) fun v hv => ?_⟩
    rcases List.mem_append.mp hv with hv | hv
    · exact hv2 v hv
    · exact .inr (.inr (.inr (.inr (.inr (.inl hv)))))
theorem fm_tup {n : Nat} {w : Str} {r : List D} : isFm (n + 1) (.tuple (.str w :: r)) = (if w = "all" ∨ w = "none" then r.isEmpty
    else if w = "name" then (match r with | [x] => isWD x | _ => false)
    else if w = "not" then (match r with | [x] => isFm n x | _ => false)
    else if w = "both" ∨ w = "either" then (match r with | [x, y] => isFm n x && isFm n y | _ => false)
    else false) := rfl
theorem inV2 (w a b : Str) : inV (V.str w) [V.str a, V.str b] = decide (w = a ∨ w = b) := by
  rw [Bool.eq_iff_iff]
  simp only [inV, List.any_cons, List.any_nil, eqV, Bool.or_eq_true, beq_iff_eq, decide_eq_true_eq, Bool.or_false]
  constructor <;> rintro (h | h) <;> first | exact .inl h.symm | exact .inr h.symm
def Gwi (m : Nat) : Gm := ⟨fun | 1 => some spIsW | 2 => some (spIsFm m) | _ => none, fun _ => none⟩
@[simp] theorem Gwi_0 (m : Nat) : (Gwi m).Φ 1 = some spIsW := rfl
@[simp] theorem Gwi_1 (m : Nat) : (Gwi m).Φ 2 = some (spIsFm m) := rfl
theorem w_is_within (m : Nat) (ds : List D) (Q : R → Prop) (h : spIsFm (m + 1) ds Q) : ds.length = 2 ∧ wpF (Gwi m) 3 c_is_within ds Q := by
  obtain ⟨n, d, rfl, hm, ht, q⟩ := h
  refine ⟨rfl, ?_⟩
  have hn := td_noDic ht
  cases n with
  | zero =>
    simp (decide := true) (dsimp := false) [c_is_within]
    have e : isFm 0 d = false := by cases d <;> rfl
    rw [e] at q
    exact q
  | succ k =>
    have hk2 : (((k + 1 : Nat) : Int) - 1) = (k : Int) := by omega
    have hk3 : ¬ ((k : Int) < 0) := by omega
    have hkm : k < m := by omega
    rw [hk2]
    cases d with
    | tuple ds =>
      obtain ⟨hl, hd⟩ := td_tup ht
      cases ds with
      | nil =>
        simp (decide := true) (dsimp := false) [c_is_within, hk3]
        exact q
      | cons h r =>
        have hh := td_noDic (hd h List.mem_cons_self)
        have e0 : atI (h :: r) 0 = some h := atI_nat (j := 0) (rfl : (h :: r)[0]? = some h)
        have ln : ¬ ((r.length : Int) + 1 = 0) := by omega
        cases h with
        | str w =>
          rw [fm_tup] at q
          have taken : ∀ a b : Str, a ≠ b → (w = a → ¬ w = b) := fun a b n e z => n (e.symm.trans z)
          rcases r with _ | ⟨x, _ | ⟨y, _ | ⟨z, r'⟩⟩⟩
          · by_cases h1 : w = "all" ∨ w = "none"
            · rw [if_pos h1] at q
              simp (decide := true) (dsimp := false) [c_is_within, hk3, e0, ln, inV2, h1]
              exact q
            · rw [if_neg h1] at q
              by_cases h2 : w = "name"
              · rw [if_pos h2] at q
                subst h2
                simp (decide := true) (dsimp := false) [c_is_within, hk3, e0, ln, inV2]
                exact q
              · rw [if_neg h2] at q
                by_cases h3 : w = "not"
                · rw [if_pos h3] at q
                  subst h3
                  simp (decide := true) (dsimp := false) [c_is_within, hk3, e0, ln, inV2]
                  exact q
                · rw [if_neg h3] at q
                  by_cases h4 : w = "both" ∨ w = "either"
                  · rw [if_pos h4] at q
                    simp (decide := true) (dsimp := false) [c_is_within, hk3, e0, ln, inV2, h1, h2, h3, h4]
                    exact q
                  · rw [if_neg h4] at q
                    simp (decide := true) (dsimp := false) [c_is_within, hk3, e0, ln, inV2, h1, h2, h3, h4]
                    exact q
          · have e1 : atI (PyData.str w :: [x]) 1 = some x := atI_nat (j := 1) rfl
            have tx : tdD x = true := hd x (by simp)
            by_cases h1 : w = "all" ∨ w = "none"
            · rw [if_pos h1] at q
              simp (decide := true) (dsimp := false) [c_is_within, hk3, e0, ln, e1, inV2, h1]
              exact q
            · rw [if_neg h1] at q
              by_cases h2 : w = "name"
              · rw [if_pos h2] at q
                subst h2
                simp (decide := true) (dsimp := false) [c_is_within, hk3, e0, ln, e1, inV2]
                refine ⟨x, rfl, tx, ?_⟩
                simp (decide := true) (dsimp := false) []
                exact q
              · rw [if_neg h2] at q
                by_cases h3 : w = "not"
                · rw [if_pos h3] at q
                  subst h3
                  simp (decide := true) (dsimp := false) [c_is_within, hk3, e0, ln, e1, inV2]
                  refine ⟨k, x, rfl, hkm, tx, ?_⟩
                  simp (decide := true) (dsimp := false) []
                  exact q
                · rw [if_neg h3] at q
                  by_cases h4 : w = "both" ∨ w = "either"
                  · rw [if_pos h4] at q
                    simp (decide := true) (dsimp := false) [c_is_within, hk3, e0, ln, e1, inV2, h1, h2, h3, h4]
                    exact q
                  · rw [if_neg h4] at q
                    simp (decide := true) (dsimp := false) [c_is_within, hk3, e0, ln, e1, inV2, h1, h2, h3, h4]
                    exact q
          · have e1 : atI (PyData.str w :: [x, y]) 1 = some x := atI_nat (j := 1) rfl
            have tx : tdD x = true := hd x (by simp)
            have e2 : atI (PyData.str w :: [x, y]) 2 = some y := atI_nat (j := 2) rfl
            have ty : tdD y = true := hd y (by simp)
            by_cases h1 : w = "all" ∨ w = "none"
            · rw [if_pos h1] at q
              simp (decide := true) (dsimp := false) [c_is_within, hk3, e0, ln, e1, e2, inV2, h1]
              exact q
            · rw [if_neg h1] at q
              by_cases h2 : w = "name"
              · rw [if_pos h2] at q
                subst h2
                simp (decide := true) (dsimp := false) [c_is_within, hk3, e0, ln, e1, e2, inV2]
                exact q
              · rw [if_neg h2] at q
                by_cases h3 : w = "not"
                · rw [if_pos h3] at q
                  subst h3
                  simp (decide := true) (dsimp := false) [c_is_within, hk3, e0, ln, e1, e2, inV2]
                  exact q
                · rw [if_neg h3] at q
                  by_cases h4 : w = "both" ∨ w = "either"
                  · rw [if_pos h4] at q
                    simp (decide := true) (dsimp := false) [c_is_within, hk3, e0, ln, e1, e2, inV2, h1, h2, h3, h4]
                    refine ⟨k, x, rfl, hkm, tx, ?_⟩
                    cases ex : isFm k x with
                    | false =>
                      simp (decide := true) (dsimp := false) [h1, h2, h3, h4]
                      simp only [ex, Bool.false_and] at q
                      exact q
                    | true =>
                      simp (decide := true) (dsimp := false) [h1, h2, h3, h4, e2]
                      refine ⟨k, y, rfl, hkm, ty, ?_⟩
                      simp (decide := true) (dsimp := false) [h1, h2, h3, h4]
                      simp only [ex, Bool.true_and] at q
                      exact q
                  · rw [if_neg h4] at q
                    simp (decide := true) (dsimp := false) [c_is_within, hk3, e0, ln, e1, e2, inV2, h1, h2, h3, h4]
                    exact q
          · have l1 : ¬ ((r'.length : Int) + 1 + 1 + 1 + 1 = 1) := by omega
            have l2 : ¬ ((r'.length : Int) + 1 + 1 + 1 + 1 = 2) := by omega
            have l3 : ¬ ((r'.length : Int) + 1 + 1 + 1 + 1 = 3) := by omega
            have l0 : ¬ ((r'.length : Int) + 1 + 1 + 1 + 1 = 0) := by omega
            have e1 : atI (PyData.str w :: x :: y :: z :: r') 1 = some x := atI_nat (j := 1) rfl
            have tx : tdD x = true := hd x (by simp)
            have e2 : atI (PyData.str w :: x :: y :: z :: r') 2 = some y := atI_nat (j := 2) rfl
            have ty : tdD y = true := hd y (by simp)
            by_cases h1 : w = "all" ∨ w = "none"
            · rw [if_pos h1] at q
              simp (decide := true) (dsimp := false) [c_is_within, hk3, e0, ln, l0, l1, l2, l3, e1, e2, inV2, h1]
              exact q
            · rw [if_neg h1] at q
              by_cases h2 : w = "name"
              · rw [if_pos h2] at q
                subst h2
                simp (decide := true) (dsimp := false) [c_is_within, hk3, e0, ln, l0, l1, l2, l3, e1, e2, inV2]
                exact q
              · rw [if_neg h2] at q
                by_cases h3 : w = "not"
                · rw [if_pos h3] at q
                  subst h3
                  simp (decide := true) (dsimp := false) [c_is_within, hk3, e0, ln, l0, l1, l2, l3, e1, e2, inV2]
                  exact q
                · rw [if_neg h3] at q
                  by_cases h4 : w = "both" ∨ w = "either"
                  · rw [if_pos h4] at q
                    simp (decide := true) (dsimp := false) [c_is_within, hk3, e0, ln, l0, l1, l2, l3, e1, e2, inV2, h1, h2, h3, h4]
                    exact q
                  · rw [if_neg h4] at q
                    simp (decide := true) (dsimp := false) [c_is_within, hk3, e0, ln, l0, l1, l2, l3, e1, e2, inV2, h1, h2, h3, h4]
                    exact q
        | dict kvs =>
          simp (decide := true) (dsimp := false) [c_is_within, hk3, e0, ln]
          exact ⟨by simpa using hh, q⟩
        | _ =>
          simp (decide := true) (dsimp := false) [c_is_within, hk3, e0, ln]
          exact q
    | dict kvs =>
      simp (decide := true) (dsimp := false) [c_is_within, hk3]
      exact ⟨by simpa using hn, q⟩
    | _ =>
      simp (decide := true) (dsimp := false) [c_is_within, hk3]
      exact q
def Glf (m : Nat) : Gm := ⟨fun | 17 => some spIsW | 18 => some (spIsFm m) | _ => none, fun _ => none⟩
@[simp] theorem Glf_9 (m : Nat) : (Glf m).Φ 17 = some spIsW := rfl
@[simp] theorem Glf_16 (m : Nat) : (Glf m).Φ 18 = some (spIsFm m) := rfl
theorem w_law_is_formula (m : Nat) (ds : List D) (Q : R → Prop) (h : spIsFm (m + 1) ds Q) : ds.length = 2 ∧ wpF (Glf m) 2 c_law_is_formula ds Q := by
  obtain ⟨n, d, rfl, hm, ht, q⟩ := h
  refine ⟨rfl, ?_⟩
  have hn := td_noDic ht
  cases n with
  | zero =>
    simp (decide := true) (dsimp := false) [c_law_is_formula]
    have e : isFm 0 d = false := by cases d <;> rfl
    rw [e] at q
    exact q
  | succ k =>
    have hk2 : (((k + 1 : Nat) : Int) - 1) = (k : Int) := by omega
    have hk3 : ¬ ((k : Int) < 0) := by omega
    have hkm : k < m := by omega
    rw [hk2]
    cases d with
    | tuple ds =>
      obtain ⟨hl, hd⟩ := td_tup ht
      cases ds with
      | nil =>
        simp (decide := true) (dsimp := false) [c_law_is_formula, hk3]
        exact q
      | cons h r =>
        have hh := td_noDic (hd h List.mem_cons_self)
        have e0 : atI (h :: r) 0 = some h := atI_nat (j := 0) (rfl : (h :: r)[0]? = some h)
        have ln : ¬ ((r.length : Int) + 1 = 0) := by omega
        cases h with
        | str w =>
          rw [fm_tup] at q
          have taken : ∀ a b : Str, a ≠ b → (w = a → ¬ w = b) := fun a b n e z => n (e.symm.trans z)
          rcases r with _ | ⟨x, _ | ⟨y, _ | ⟨z, r'⟩⟩⟩
          · by_cases h1 : w = "all" ∨ w = "none"
            · rw [if_pos h1] at q
              simp (decide := true) (dsimp := false) [c_law_is_formula, hk3, e0, ln, inV2, h1]
              exact q
            · rw [if_neg h1] at q
              by_cases h2 : w = "name"
              · rw [if_pos h2] at q
                subst h2
                simp (decide := true) (dsimp := false) [c_law_is_formula, hk3, e0, ln, inV2]
                exact q
              · rw [if_neg h2] at q
                by_cases h3 : w = "not"
                · rw [if_pos h3] at q
                  subst h3
                  simp (decide := true) (dsimp := false) [c_law_is_formula, hk3, e0, ln, inV2]
                  exact q
                · rw [if_neg h3] at q
                  by_cases h4 : w = "both" ∨ w = "either"
                  · rw [if_pos h4] at q
                    simp (decide := true) (dsimp := false) [c_law_is_formula, hk3, e0, ln, inV2, h1, h2, h3, h4]
                    exact q
                  · rw [if_neg h4] at q
                    simp (decide := true) (dsimp := false) [c_law_is_formula, hk3, e0, ln, inV2, h1, h2, h3, h4]
                    exact q
          · have e1 : atI (PyData.str w :: [x]) 1 = some x := atI_nat (j := 1) rfl
            have tx : tdD x = true := hd x (by simp)
            by_cases h1 : w = "all" ∨ w = "none"
            · rw [if_pos h1] at q
              simp (decide := true) (dsimp := false) [c_law_is_formula, hk3, e0, ln, e1, inV2, h1]
              exact q
            · rw [if_neg h1] at q
              by_cases h2 : w = "name"
              · rw [if_pos h2] at q
                subst h2
                simp (decide := true) (dsimp := false) [c_law_is_formula, hk3, e0, ln, e1, inV2]
                refine ⟨x, rfl, tx, ?_⟩
                simp (decide := true) (dsimp := false) []
                exact q
              · rw [if_neg h2] at q
                by_cases h3 : w = "not"
                · rw [if_pos h3] at q
                  subst h3
                  simp (decide := true) (dsimp := false) [c_law_is_formula, hk3, e0, ln, e1, inV2]
                  refine ⟨k, x, rfl, hkm, tx, ?_⟩
                  simp (decide := true) (dsimp := false) []
                  exact q
                · rw [if_neg h3] at q
                  by_cases h4 : w = "both" ∨ w = "either"
                  · rw [if_pos h4] at q
                    simp (decide := true) (dsimp := false) [c_law_is_formula, hk3, e0, ln, e1, inV2, h1, h2, h3, h4]
                    exact q
                  · rw [if_neg h4] at q
                    simp (decide := true) (dsimp := false) [c_law_is_formula, hk3, e0, ln, e1, inV2, h1, h2, h3, h4]
                    exact q
          · have e1 : atI (PyData.str w :: [x, y]) 1 = some x := atI_nat (j := 1) rfl
            have tx : tdD x = true := hd x (by simp)
            have e2 : atI (PyData.str w :: [x, y]) 2 = some y := atI_nat (j := 2) rfl
            have ty : tdD y = true := hd y (by simp)
            by_cases h1 : w = "all" ∨ w = "none"
            · rw [if_pos h1] at q
              simp (decide := true) (dsimp := false) [c_law_is_formula, hk3, e0, ln, e1, e2, inV2, h1]
              exact q
            · rw [if_neg h1] at q
              by_cases h2 : w = "name"
              · rw [if_pos h2] at q
                subst h2
                simp (decide := true) (dsimp := false) [c_law_is_formula, hk3, e0, ln, e1, e2, inV2]
                exact q
              · rw [if_neg h2] at q
                by_cases h3 : w = "not"
                · rw [if_pos h3] at q
                  subst h3
                  simp (decide := true) (dsimp := false) [c_law_is_formula, hk3, e0, ln, e1, e2, inV2]
                  exact q
                · rw [if_neg h3] at q
                  by_cases h4 : w = "both" ∨ w = "either"
                  · rw [if_pos h4] at q
                    simp (decide := true) (dsimp := false) [c_law_is_formula, hk3, e0, ln, e1, e2, inV2, h1, h2, h3, h4]
                    refine ⟨k, x, rfl, hkm, tx, ?_⟩
                    cases ex : isFm k x with
                    | false =>
                      simp (decide := true) (dsimp := false) [h1, h2, h3, h4]
                      simp only [ex, Bool.false_and] at q
                      exact q
                    | true =>
                      simp (decide := true) (dsimp := false) [h1, h2, h3, h4, e2]
                      refine ⟨k, y, rfl, hkm, ty, ?_⟩
                      simp (decide := true) (dsimp := false) [h1, h2, h3, h4]
                      simp only [ex, Bool.true_and] at q
                      exact q
                  · rw [if_neg h4] at q
                    simp (decide := true) (dsimp := false) [c_law_is_formula, hk3, e0, ln, e1, e2, inV2, h1, h2, h3, h4]
                    exact q
          · have l1 : ¬ ((r'.length : Int) + 1 + 1 + 1 + 1 = 1) := by omega
            have l2 : ¬ ((r'.length : Int) + 1 + 1 + 1 + 1 = 2) := by omega
            have l3 : ¬ ((r'.length : Int) + 1 + 1 + 1 + 1 = 3) := by omega
            have l0 : ¬ ((r'.length : Int) + 1 + 1 + 1 + 1 = 0) := by omega
            have e1 : atI (PyData.str w :: x :: y :: z :: r') 1 = some x := atI_nat (j := 1) rfl
            have tx : tdD x = true := hd x (by simp)
            have e2 : atI (PyData.str w :: x :: y :: z :: r') 2 = some y := atI_nat (j := 2) rfl
            have ty : tdD y = true := hd y (by simp)
            by_cases h1 : w = "all" ∨ w = "none"
            · rw [if_pos h1] at q
              simp (decide := true) (dsimp := false) [c_law_is_formula, hk3, e0, ln, l0, l1, l2, l3, e1, e2, inV2, h1]
              exact q
            · rw [if_neg h1] at q
              by_cases h2 : w = "name"
              · rw [if_pos h2] at q
                subst h2
                simp (decide := true) (dsimp := false) [c_law_is_formula, hk3, e0, ln, l0, l1, l2, l3, e1, e2, inV2]
                exact q
              · rw [if_neg h2] at q
                by_cases h3 : w = "not"
                · rw [if_pos h3] at q
                  subst h3
                  simp (decide := true) (dsimp := false) [c_law_is_formula, hk3, e0, ln, l0, l1, l2, l3, e1, e2, inV2]
                  exact q
                · rw [if_neg h3] at q
                  by_cases h4 : w = "both" ∨ w = "either"
                  · rw [if_pos h4] at q
                    simp (decide := true) (dsimp := false) [c_law_is_formula, hk3, e0, ln, l0, l1, l2, l3, e1, e2, inV2, h1, h2, h3, h4]
                    exact q
                  · rw [if_neg h4] at q
                    simp (decide := true) (dsimp := false) [c_law_is_formula, hk3, e0, ln, l0, l1, l2, l3, e1, e2, inV2, h1, h2, h3, h4]
                    exact q
        | dict kvs =>
          simp (decide := true) (dsimp := false) [c_law_is_formula, hk3, e0, ln]
          exact ⟨by simpa using hh, q⟩
        | _ =>
          simp (decide := true) (dsimp := false) [c_law_is_formula, hk3, e0, ln]
          exact q
    | dict kvs =>
      simp (decide := true) (dsimp := false) [c_law_is_formula, hk3]
      exact ⟨by simpa using hn, q⟩
    | _ =>
      simp (decide := true) (dsimp := false) [c_law_is_formula, hk3]
      exact q
theorem isI_any (d : D) : (isT d .bint && !isT d .bbool) = isI d := by cases d <;> rfl
theorem w_is_integer (ds : List D) (Q : R → Prop) (h : spIsI ds Q) : ds.length = 1 ∧ wpF G0 1 c_is_integer ds Q := by
  obtain ⟨d, rfl, ht, q⟩ := h
  refine ⟨rfl, ?_⟩
  have hn := td_noDic ht
  cases d with
  | dict kvs =>
    simp (decide := true) (dsimp := false) [c_is_integer, hn]
    exact ⟨by simpa using hn, q⟩
  | _ =>
    simp (decide := true) (dsimp := false) [c_is_integer]
    exact q
theorem w_law_is_integer (ds : List D) (Q : R → Prop) (h : spIsI ds Q) : ds.length = 1 ∧ wpF G0 1 c_law_is_integer ds Q := by
  obtain ⟨d, rfl, ht, q⟩ := h
  refine ⟨rfl, ?_⟩
  have hn := td_noDic ht
  cases d with
  | dict kvs =>
    simp (decide := true) (dsimp := false) [c_law_is_integer, hn]
    exact ⟨by simpa using hn, q⟩
  | _ =>
    simp (decide := true) (dsimp := false) [c_law_is_integer]
    exact q
end LW

namespace LW
open PySem L2 DL
def Gal : Gm := ⟨fun _ => none, fun | 3 => some (.tuple [.str "all"]) | 4 => some (.tuple [.str "none"]) | _ => none⟩
@[simp] theorem Gal_g3 : Gal.Γ 3 = some (.tuple [.str "all"]) := rfl
@[simp] theorem Gal_g4 : Gal.Γ 4 = some (.tuple [.str "none"]) := rfl
theorem w_alone_shows (ds : List D) (Q : R → Prop) (h : spAlone ds Q) : ds.length = 2 ∧ wpF Gal 4 c_alone_shows ds Q := by
  obtain ⟨⟨x, y⟩, w, rfl, ⟨hx, hy⟩, hw, q⟩ := h
  refine ⟨rfl, ?_⟩
  obtain ⟨xs, ex, _, _⟩ := fm_tuple x
  obtain ⟨ys, ey, _, _⟩ := fm_tuple y
  have sx : SeqAt.shaped x.d = true := shF hx (by decide)
  have sy : SeqAt.shaped y.d = true := shF hy (by decide)
  have snx : SeqAt.shaped (Fm.not (.not x)).d = true := shF hx.not.not (by decide)
  have sny : SeqAt.shaped (Fm.not (.not y)).d = true := shF hy.not.not (by decide)
  have sall : SeqAt.shaped (.tuple [.str "all"]) = true := by decide +kernel
  have snone : SeqAt.shaped (.tuple [.str "none"]) = true := by decide +kernel
  have dnx : (Fm.not (.not x)).d = .tuple [.str "not", .tuple [.str "not", x.d]] := rfl
  have dny : (Fm.not (.not y)).d = .tuple [.str "not", .tuple [.str "not", y.d]] := rfl
  rw [dnx] at snx
  rw [dny] at sny
  have hcd : clD (x, y) = .tuple [x.d, y.d] := rfl
  simp only [aloneL, List.mem_cons, List.not_mem_nil, or_false] at hw
  rcases hw with rfl | rfl | rfl | rfl | rfl | rfl | rfl
  · have e : aloneT x y "same" = PyData.eqv x.d y.d := rfl
    rw [e] at q
    simp only [ex, ey] at q sx sy snx sny
    simp (decide := true) (dsimp := false) [c_alone_shows, hcd, ex, ey]
    exact ⟨sx, sy, q⟩
  · have e : aloneT x y "twice" = (PyData.eqv y.d (.tuple [.str "not", .tuple [.str "not", x.d]]) || PyData.eqv x.d (.tuple [.str "not", .tuple [.str "not", y.d]])) := rfl
    rw [e] at q
    simp only [ex, ey] at q sx sy snx sny
    simp (decide := true) (dsimp := false) [c_alone_shows, hcd, ex, ey, sizeLine_eq]
    refine ⟨sy, snx, ?_⟩
    cases e1 : PyData.eqv (.tuple ys) (.tuple [.str "not", .tuple [.str "not", .tuple xs]]) with
    | true =>
      rw [e1] at q
      simp (decide := true) (dsimp := false) []
      exact q
    | false =>
      rw [e1] at q
      simp (decide := true) (dsimp := false) [sizeLine_eq]
      exact ⟨sx, sny, q⟩
  · have e : aloneT x y "low" = (PyData.eqv x.d (.tuple [.str "none"]) || PyData.eqv y.d (.tuple [.str "all"])) := rfl
    rw [e] at q
    simp only [ex, ey] at q sx sy snx sny
    simp (decide := true) (dsimp := false) [c_alone_shows, hcd, ex, ey, sizeLine_eq]
    refine ⟨sx, snone, ?_⟩
    cases e1 : PyData.eqv (.tuple xs) (.tuple [.str "none"]) with
    | true =>
      rw [e1] at q
      simp (decide := true) (dsimp := false) []
      exact q
    | false =>
      rw [e1] at q
      simp (decide := true) (dsimp := false) [sizeLine_eq]
      exact ⟨sy, sall, q⟩
  · have e : aloneT x y "first" = fstB y x := rfl
    rw [e] at q
    cases x with
    | both a b =>
      obtain ⟨as, ea, _, _⟩ := fm_tuple a
      have sa : SeqAt.shaped a.d = true := shF (n := 41) ⟨by have := hx.1; simp only [Fm.dep] at this; omega, fun s hs => hx.2 s (List.mem_append_left _ hs)⟩ (by decide)
      have e2 : fstB y (.both a b) = PyData.eqv a.d y.d := rfl
      rw [e2] at q
      simp only [ea, ey] at q sa sy
      simp (decide := true) (dsimp := false) [c_alone_shows, hcd, ey, ea, Fm.d, atI, ixN]
      exact ⟨sa, sy, q⟩
    | _ =>
      simp (decide := true) (dsimp := false) [c_alone_shows, hcd, ey, Fm.d, atI, ixN]
      exact q
  · have e : aloneT x y "second" = sndB y x := rfl
    rw [e] at q
    cases x with
    | both a b =>
      obtain ⟨as, ea, _, _⟩ := fm_tuple b
      have sa : SeqAt.shaped b.d = true := shF (n := 41) ⟨by have := hx.1; simp only [Fm.dep] at this; omega, fun s hs => hx.2 s (List.mem_append_right _ hs)⟩ (by decide)
      have e2 : sndB y (.both a b) = PyData.eqv b.d y.d := rfl
      rw [e2] at q
      simp only [ea, ey] at q sa sy
      simp (decide := true) (dsimp := false) [c_alone_shows, hcd, ey, ea, Fm.d, atI, ixN]
      exact ⟨sa, sy, q⟩
    | _ =>
      simp (decide := true) (dsimp := false) [c_alone_shows, hcd, ey, Fm.d, atI, ixN]
      exact q
  · have e : aloneT x y "one" = fstE x y := rfl
    rw [e] at q
    cases y with
    | either a b =>
      obtain ⟨as, ea, _, _⟩ := fm_tuple a
      have sa : SeqAt.shaped a.d = true := shF (n := 41) ⟨by have := hy.1; simp only [Fm.dep] at this; omega, fun s hs => hy.2 s (List.mem_append_left _ hs)⟩ (by decide)
      have e2 : fstE x (.either a b) = PyData.eqv a.d x.d := rfl
      rw [e2] at q
      simp only [ea, ex] at q sa sx
      simp (decide := true) (dsimp := false) [c_alone_shows, hcd, ex, ea, Fm.d, atI, ixN]
      exact ⟨sa, sx, q⟩
    | _ =>
      simp (decide := true) (dsimp := false) [c_alone_shows, hcd, ex, Fm.d, atI, ixN]
      exact q
  · have e : aloneT x y "other" = sndE x y := rfl
    rw [e] at q
    cases y with
    | either a b =>
      obtain ⟨as, ea, _, _⟩ := fm_tuple b
      have sa : SeqAt.shaped b.d = true := shF (n := 41) ⟨by have := hy.1; simp only [Fm.dep] at this; omega, fun s hs => hy.2 s (List.mem_append_right _ hs)⟩ (by decide)
      have e2 : sndE x (.either a b) = PyData.eqv b.d x.d := rfl
      rw [e2] at q
      simp only [ea, ex] at q sa sx
      simp (decide := true) (dsimp := false) [c_alone_shows, hcd, ex, ea, Fm.d, atI, ixN]
      exact ⟨sa, sx, q⟩
    | _ =>
      simp (decide := true) (dsimp := false) [c_alone_shows, hcd, ex, Fm.d, atI, ixN]
      exact q
theorem clD_eq (c : Fm × Fm) : clD c = .tuple [c.1.d, c.2.d] := rfl
theorem w_row_shows (ds : List D) (Q : R → Prop) (h : spRowSh ds Q) : ds.length = 3 ∧ wpF G0 5 c_row_shows ds Q := by
  obtain ⟨⟨c1, c2⟩, ⟨b1, b2⟩, w, rfl, ⟨hc1, hc2⟩, ⟨hb1, hb2⟩, q⟩ := h
  refine ⟨rfl, ?_⟩
  have k1 : SeqAt.shaped (clD (c1, c2)) = true := shC (n := 41) ⟨hc1, hc2⟩ (by decide)
  have k2 : SeqAt.shaped (clD (.not b2, .not b1)) = true := shC (n := 42) ⟨hb2.not, hb1.not⟩ (by decide)
  have k3 : SeqAt.shaped b2.d = true := shF hb2 (by decide)
  have k4 : SeqAt.shaped (Fm.not b1).d = true := shF hb1.not (by decide)
  have k5 : SeqAt.shaped c1.d = true := shF hc1 (by decide)
  have k6 : SeqAt.shaped b1.d = true := shF hb1 (by decide)
  obtain ⟨xs, ex, _, _⟩ := fm_tuple b2
  obtain ⟨ys, ey, _, _⟩ := fm_tuple c1
  obtain ⟨zs, ez, _, _⟩ := fm_tuple b1
  by_cases w1 : w = "turn"
  · have e : rowShowT (c1, c2) w (b1, b2) = PyData.eqv (clD (c1, c2)) (clD (.not b2, .not b1)) := by
      unfold rowShowT
      rw [if_pos w1]
      rfl
    rw [e] at q
    subst w1
    simp (decide := true) (dsimp := false) [c_row_shows, clD_eq, sizeLine_eq]
    exact ⟨k1, k2, q⟩
  · have e : rowShowT (c1, c2) w (b1, b2) = (decide (w = "never") && (PyData.eqv b2.d (Fm.not b1).d && PyData.eqv c1.d b1.d)) := by
      unfold rowShowT
      rw [if_neg w1]
      rfl
    rw [e] at q
    by_cases w2 : w = "never"
    · rw [decide_eq_true w2, Bool.true_and] at q
      subst w2
      have dn : (Fm.not b1).d = .tuple [.str "not", b1.d] := rfl
      rw [dn] at k4 q
      simp only [ex, ey, ez] at q k3 k4 k5 k6
      have z0 : ∀ a b : D, atI [a, b] 0 = some a := fun a b => rfl
      simp (decide := true) (dsimp := false) [c_row_shows, clD_eq, sizeLine_eq, ex, ey, ez, z0]
      refine ⟨k3, k4, ?_⟩
      cases e1 : PyData.eqv (.tuple xs) (.tuple [.str "not", .tuple zs]) with
      | false =>
        rw [e1] at q
        simp (decide := true) (dsimp := false) []
        exact q
      | true =>
        rw [e1] at q
        simp (decide := true) (dsimp := false) [ex, ey, ez, z0]
        exact ⟨k5, k6, q⟩
    · rw [decide_eq_false w2, Bool.false_and] at q
      simp (decide := true) (dsimp := false) [c_row_shows, clD_eq, sizeLine_eq, w1, w2]
      exact q
theorem w_rows_show (ds : List D) (Q : R → Prop) (h : spRowsSh ds Q) : ds.length = 4 ∧ wpF G0 4 c_rows_show ds Q := by
  obtain ⟨⟨c1, c2⟩, ⟨l1, l2⟩, ⟨r1, r2⟩, w, rfl, ⟨hc1, hc2⟩, ⟨hl1, hl2⟩, ⟨hr1, hr2⟩, q⟩ := h
  refine ⟨rfl, ?_⟩
  have kc : SeqAt.shaped (clD (c1, c2)) = true := shC (n := 41) ⟨hc1, hc2⟩ (by decide)
  have k1 : SeqAt.shaped (clD (l1, r2)) = true := shC (n := 41) ⟨hl1, hr2⟩ (by decide)
  have k2 : SeqAt.shaped (clD (l1, .both l2 r2)) = true := shC (n := 42) ⟨hl1.mono (by decide), hl2.both hr2⟩ (by decide)
  have k3 : SeqAt.shaped (clD (.either l1 r1, l2)) = true := shC (n := 42) ⟨hl1.either hr1, hl2.mono (by decide)⟩ (by decide)
  have s1 : SeqAt.shaped l1.d = true := shF hl1 (by decide)
  have s2 : SeqAt.shaped l2.d = true := shF hl2 (by decide)
  have s3 : SeqAt.shaped r1.d = true := shF hr1 (by decide)
  have s4 : SeqAt.shaped r2.d = true := shF hr2 (by decide)
  obtain ⟨xs, ex, _, _⟩ := fm_tuple l1
  obtain ⟨ys, ey, _, _⟩ := fm_tuple l2
  obtain ⟨zs, ez, _, _⟩ := fm_tuple r1
  obtain ⟨us, eu, _, _⟩ := fm_tuple r2
  have z0 : ∀ a b : D, atI [a, b] 0 = some a := fun a b => rfl
  have z1 : ∀ a b : D, atI [a, b] 1 = some b := fun a b => rfl
  have d1 : clD (l1, r2) = .tuple [l1.d, r2.d] := rfl
  have d2 : clD (l1, .both l2 r2) = .tuple [l1.d, .tuple [.str "both", l2.d, r2.d]] := rfl
  have d3 : clD (.either l1 r1, l2) = .tuple [.tuple [.str "either", l1.d, r1.d], l2.d] := rfl
  have d4 : clD (c1, c2) = .tuple [c1.d, c2.d] := rfl
  by_cases w1 : w = "chain"
  · have e : rowsShowT (c1, c2) w (l1, l2) (r1, r2) = (PyData.eqv l2.d r1.d && PyData.eqv (clD (c1, c2)) (clD (l1, r2))) := by
      unfold rowsShowT
      rw [if_pos w1]
      rfl
    rw [e] at q
    subst w1
    rw [d1, d4] at q
    rw [d4] at kc
    rw [d1] at k1
    simp only [ex, ey, ez, eu] at q s1 s2 s3 s4 k1
    simp (decide := true) (dsimp := false) [c_rows_show, clD_eq, sizeLine_eq, ex, ey, ez, eu, z0, z1]
    refine ⟨s2, s3, ?_⟩
    cases e1 : PyData.eqv (.tuple ys) (.tuple zs) with
    | false =>
      rw [e1] at q
      simp (decide := true) (dsimp := false) []
      exact q
    | true =>
      rw [e1] at q
      simp (decide := true) (dsimp := false) [sizeLine_eq, ex, ey, ez, eu, z0, z1]
      exact ⟨kc, k1, q⟩
  · by_cases w2 : w = "meet"
    · have e : rowsShowT (c1, c2) w (l1, l2) (r1, r2) = (PyData.eqv l1.d r1.d && PyData.eqv (clD (c1, c2)) (clD (l1, .both l2 r2))) := by
        unfold rowsShowT
        rw [if_neg w1, if_pos w2]
        rfl
      rw [e] at q
      subst w2
      rw [d2, d4] at q
      rw [d4] at kc
      rw [d2] at k2
      simp only [ex, ey, ez, eu] at q s1 s2 s3 s4 k2
      simp (decide := true) (dsimp := false) [c_rows_show, clD_eq, sizeLine_eq, ex, ey, ez, eu, z0, z1]
      refine ⟨s1, s3, ?_⟩
      cases e1 : PyData.eqv (.tuple xs) (.tuple zs) with
      | false =>
        rw [e1] at q
        simp (decide := true) (dsimp := false) []
        exact q
      | true =>
        rw [e1] at q
        simp (decide := true) (dsimp := false) [sizeLine_eq, ex, ey, ez, eu, z0, z1]
        exact ⟨kc, k2, q⟩
    · have e : rowsShowT (c1, c2) w (l1, l2) (r1, r2) = (decide (w = "join") && (PyData.eqv l2.d r2.d && PyData.eqv (clD (c1, c2)) (clD (.either l1 r1, l2)))) := by
        unfold rowsShowT
        rw [if_neg w1, if_neg w2]
        rfl
      rw [e] at q
      by_cases w3 : w = "join"
      · rw [decide_eq_true w3, Bool.true_and] at q
        subst w3
        rw [d3, d4] at q
        rw [d4] at kc
        rw [d3] at k3
        simp only [ex, ey, ez, eu] at q s1 s2 s3 s4 k3
        simp (decide := true) (dsimp := false) [c_rows_show, clD_eq, sizeLine_eq, ex, ey, ez, eu, z0, z1]
        refine ⟨s2, s4, ?_⟩
        cases e1 : PyData.eqv (.tuple ys) (.tuple us) with
        | false =>
          rw [e1] at q
          simp (decide := true) (dsimp := false) []
          exact q
        | true =>
          rw [e1] at q
          simp (decide := true) (dsimp := false) [sizeLine_eq, ex, ey, ez, eu, z0, z1]
          exact ⟨kc, k3, q⟩
      · rw [decide_eq_false w3, Bool.false_and] at q
        simp (decide := true) (dsimp := false) [c_rows_show, clD_eq, sizeLine_eq, w1, w2, w3]
        exact q
end LW

namespace LW
open PySem L2 DL
def Gir : Gm := ⟨fun | 0 => some spIsI | 2 => some (spIsFm 42) | 3 => some spIsRow | 7 => some spShown | 4 => some spAlone | 5 => some spRowSh | 6 => some spRowsSh | _ => none, fun | 5 => some (.int 40) | 6 => some (.tuple [.str "same", .str "twice", .str "low", .str "first", .str "second", .str "one", .str "other"]) | _ => none⟩
@[simp] theorem Gir_0 : Gir.Φ 0 = some spIsI := rfl
@[simp] theorem Gir_2 : Gir.Φ 2 = some (spIsFm 42) := rfl
@[simp] theorem Gir_3 : Gir.Φ 3 = some spIsRow := rfl
@[simp] theorem Gir_7 : Gir.Φ 7 = some spShown := rfl
@[simp] theorem Gir_4 : Gir.Φ 4 = some spAlone := rfl
@[simp] theorem Gir_5 : Gir.Φ 5 = some spRowSh := rfl
@[simp] theorem Gir_6 : Gir.Φ 6 = some spRowsSh := rfl
@[simp] theorem Gir_g5 : Gir.Γ 5 = some (.int 40) := rfl
@[simp] theorem Gir_g6 : Gir.Γ 6 = some (.tuple [.str "same", .str "twice", .str "low", .str "first", .str "second", .str "one", .str "other"]) := rfl
theorem rowB_len {es : List D} (h : es.length ≠ 2) : rowB (.tuple es) = false := by
  rcases es with _ | ⟨a, _ | ⟨b, _ | ⟨c, r⟩⟩⟩
  · rfl
  · rfl
  · exact absurd rfl h
  · simp [rowB]
theorem rowB_cl {x y : D} (h : clN 41 x = false) : rowB (.tuple [x, y]) = false := by
  cases z : rowB (.tuple [x, y]) with
  | false => rfl
  | true =>
    obtain ⟨r, e, hr⟩ := rowB_of z
    have e1 : x = clD r.c := (List.cons.inj (PyData.tuple.inj e)).1
    rw [e1, clN_ok hr] at h
    cases h
theorem rowB_why {x y : D} (h : ∀ w ps, y ≠ .tuple (.str w :: ps)) : rowB (.tuple [x, y]) = false := by
  cases z : rowB (.tuple [x, y]) with
  | false => rfl
  | true =>
    obtain ⟨r, e, hr⟩ := rowB_of z
    have e1 : y = .tuple (.str r.w :: r.ns.map .int) := (List.cons.inj (List.cons.inj (PyData.tuple.inj e)).2).1
    exact absurd e1 (h _ _)
theorem rowB_eq {x : D} {w : Str} {ps : List D} : rowB (.tuple [x, .tuple (.str w :: ps)]) = (clN 41 x && allB (fun d => isI d) ps) := rfl
theorem clN_len {n : Nat} {es : List D} (h : es.length ≠ 2) : clN n (.tuple es) = false := by
  rcases es with _ | ⟨a, _ | ⟨b, _ | ⟨c, r⟩⟩⟩
  · rfl
  · rfl
  · exact absurd rfl h
  · rfl
theorem cut1 {x : D} {ps : List D} : cutD (x :: ps) (some 1) none = ps := by
  have e : cutD (x :: ps) (some ((1 : Nat) : Int)) none = (x :: ps).drop 1 := cut_drop
  exact e
theorem w_is_row (ds : List D) (Q : R → Prop) (h : spIsRow ds Q) : ds.length = 1 ∧ wpF Gir 5 c_is_row ds Q := by
  obtain ⟨d, rfl, ht, q⟩ := h
  refine ⟨rfl, ?_⟩
  have hn := td_noDic ht
  cases d with
  | tuple es =>
    obtain ⟨hl, hd⟩ := td_tup ht
    by_cases h2 : es.length = 2
    · obtain ⟨x, y, rfl⟩ : ∃ x y, es = [x, y] := by
        rcases es with _ | ⟨a, _ | ⟨b, _ | ⟨c, r⟩⟩⟩
        · cases h2
        · cases h2
        · exact ⟨a, b, rfl⟩
        · simp at h2
      have tx := hd x (by simp)
      have ty := hd y (by simp)
      have nx := td_noDic tx
      have ny := td_noDic ty
      have no : ∀ {b : Bool}, clN 41 x = false → Q (.v (.bool (rowB (.tuple [x, y])))) → Q (.v (.bool false)) := fun {b} e q => by rw [rowB_cl e] at q; exact q
      cases x with
      | tuple cs =>
        obtain ⟨cl, cd⟩ := td_tup tx
        by_cases c2 : cs.length = 2
        · obtain ⟨a, b, rfl⟩ : ∃ x y, cs = [x, y] := by
            rcases cs with _ | ⟨a, _ | ⟨b, _ | ⟨c, r⟩⟩⟩
            · cases c2
            · cases c2
            · exact ⟨a, b, rfl⟩
            · simp at c2
          simp (decide := true) (dsimp := false) [c_is_row]
          refine foldC_map (fun d => .bool (isFm 41 d)) (fun d hm Qt Qf q1 => ?_) (by rw [sizeLine_eq]; show 2 ≤ 16777216; omega) ?_
          · simp (decide := true) (dsimp := false) []
            exact ⟨41, d, rfl, by omega, cd d hm, q1⟩
          · refine all_of ?_
            have ec : allB (fun d => isFm 41 d) [a, b] = clN 41 (.tuple [a, b]) := by
              show (isFm 41 a && (isFm 41 b && true)) = (isFm 41 a && isFm 41 b)
              rw [Bool.and_true]
            rw [ec]
            simp (decide := true) (dsimp := false) []
            cases e1 : clN 41 (.tuple [a, b]) with
            | false =>
              simp (decide := true) (dsimp := false) []
              exact no (b := true) e1 q
            | true =>
              have nw : (∀ w ps, y ≠ .tuple (.str w :: ps)) → Q (.v (.bool false)) := fun hh => by rw [rowB_why hh] at q; exact q
              cases y with
              | tuple ws =>
                obtain ⟨wl, wd⟩ := td_tup ty
                cases ws with
                | nil =>
                  simp (decide := true) (dsimp := false) []
                  exact nw fun w ps e => by cases e
                | cons z ps =>
                  have tz := wd z List.mem_cons_self
                  have nz := td_noDic tz
                  have z0 : atI (z :: ps) 0 = some z := atI_nat (j := 0) (rfl : (z :: ps)[0]? = some z)
                  have ln : ¬ ((ps.length : Int) + 1 = 0) := by omega
                  cases z with
                  | str w =>
                    rw [rowB_eq, e1, Bool.true_and] at q
                    rw [List.length_cons] at wl
                    simp (decide := true) (dsimp := false) [z0, ln, cut1]
                    refine foldC_map (fun d => .bool (isI d)) (fun d hm Qt Qf q1 => ?_) (by rw [sizeLine_eq]; omega) ?_
                    · simp (decide := true) (dsimp := false) []
                      exact ⟨d, rfl, wd d (List.mem_cons_of_mem _ hm), q1⟩
                    · refine all_of ?_
                      exact q
                  | dict kvs =>
                    simp (decide := true) (dsimp := false) [z0, ln]
                    exact ⟨by simpa using nz, nw fun w ps e => by cases e⟩
                  | _ =>
                    simp (decide := true) (dsimp := false) [z0, ln]
                    exact nw fun w ps e => by cases e
              | dict kvs =>
                simp (decide := true) (dsimp := false) []
                exact ⟨by simpa using ny, nw fun w ps e => by cases e⟩
              | _ =>
                simp (decide := true) (dsimp := false) []
                exact nw fun w ps e => by cases e
        · have l2 : ¬ ((cs.length : Nat) : Int) = 2 := by omega
          simp (decide := true) (dsimp := false) [c_is_row, l2]
          exact no (b := true) (clN_len c2) q
      | dict kvs =>
        simp (decide := true) (dsimp := false) [c_is_row]
        exact ⟨by simpa using nx, no (b := true) rfl q⟩
      | _ =>
        simp (decide := true) (dsimp := false) [c_is_row]
        exact no (b := true) rfl q
    · rw [rowB_len h2] at q
      have l2 : ¬ ((es.length : Nat) : Int) = 2 := by omega
      simp (decide := true) (dsimp := false) [c_is_row, l2]
      exact q
  | dict kvs =>
    simp (decide := true) (dsimp := false) [c_is_row]
    exact ⟨by simpa using hn, q⟩
  | _ =>
    simp (decide := true) (dsimp := false) [c_is_row]
    exact q
end LW

namespace LW
open PySem L2 DL
theorem alone_in (s : Str) : inV (V.str s) [V.str "same", V.str "twice", V.str "low", V.str "first", V.str "second", V.str "one", V.str "other"] = decide (s ∈ aloneL) := by
  rw [Bool.eq_iff_iff, decide_eq_true_eq]
  simp only [aloneL, inV, List.any_cons, List.any_nil, eqV, List.mem_cons, List.not_mem_nil, Bool.or_eq_true, beq_iff_eq, or_false, Bool.or_false]
  simp only [eq_comm]
theorem row_at {rs : List Rw} {p : Int} (h0 : 0 ≤ p) (h1 : p < rs.length) : ∃ why, atI (rs.map rwD) p = some (.tuple [.tuple [(clAt rs p).1.d, (clAt rs p).2.d], why]) ∧ why = .tuple (.str (rs.getD p.toNat rw0).w :: (rs.getD p.toNat rw0).ns.map .int) := by
  have e : p = ((p.toNat : Nat) : Int) := by omega
  have q : atI (rs.map rwD) ((p.toNat : Nat) : Int) = some (rwD (rs.getD p.toNat rw0)) := by
    refine atI_nat ?_
    rw [List.getElem?_map, List.getElem?_eq_getElem (by omega), List.getD_eq_getElem?_getD, List.getElem?_eq_getElem (by omega)]
    rfl
  rw [← e] at q
  exact ⟨_, q, rfl⟩
theorem cl_at {gs : List (Fm × Fm)} {p : Int} (h0 : 0 ≤ p) (h1 : p < gs.length) : atI (gs.map clD) p = some (.tuple [(gAt gs p).1.d, (gAt gs p).2.d]) := by
  have e : p = ((p.toNat : Nat) : Int) := by omega
  have q : atI (gs.map clD) ((p.toNat : Nat) : Int) = some (clD (gs.getD p.toNat (.all, .all))) := by
    refine atI_nat ?_
    rw [List.getElem?_map, List.getElem?_eq_getElem (by omega), List.getD_eq_getElem?_getD, List.getElem?_eq_getElem (by omega)]
    rfl
  rw [← e] at q
  exact q
theorem clAt_ok {rs : List Rw} {p : Int} (h0 : 0 ≤ p) (h1 : p < rs.length) (h : ∀ r ∈ rs, ClOk 41 r.c) : ClOk 41 (clAt rs p) := by
  unfold clAt
  rw [List.getD_eq_getElem?_getD, List.getElem?_eq_getElem (by omega)]
  exact h _ (List.getElem_mem _)
theorem gs_ok {gs : List (Fm × Fm)} {p : Int} (h0 : 0 ≤ p) (h1 : p < gs.length) (h : ∀ c ∈ gs, ClOk 41 c) : ClOk 41 (gAt gs p) := by
  unfold gAt
  rw [List.getD_eq_getElem?_getD, List.getElem?_eq_getElem (by omega)]
  exact h _ (List.getElem_mem _)
theorem w_is_shown (ds : List D) (Q : R → Prop) (h : spShown ds Q) : ds.length = 3 ∧ wpF Gir 8 c_is_shown ds Q := by
  obtain ⟨gs, rs, k, rfl, hk, lg, lr, hrs, hgs, q⟩ := h
  refine ⟨rfl, ?_⟩
  have hc : ∀ r ∈ rs, ClOk 41 r.c := fun r hr => (hrs r hr).1
  obtain ⟨why, a1, ewhy⟩ := row_at (rs := rs) (p := (k : Int)) (by omega) (by omega)
  have cw := clAt_ok (rs := rs) (p := (k : Int)) (by omega) (by omega) hc
  have kt : ((k : Int)).toNat = k := by omega
  have nl : (rs.getD k rw0).ns.length ≤ 100000 := by
    rw [List.getD_eq_getElem?_getD, List.getElem?_eq_getElem hk]
    exact (hrs _ (List.getElem_mem hk)).2
  have es : shownT gs rs k = showT gs rs k (clAt rs (k : Int)) (rs.getD k rw0).w (rs.getD k rw0).ns := by
    unfold shownT clAt
    rw [kt]
  rw [es] at q
  rw [kt] at ewhy
  subst ewhy
  generalize hcc : clAt rs (k : Int) = c at *
  generalize hw : (rs.getD k rw0).w = w at *
  generalize hns : (rs.getD k rw0).ns = ns at *
  obtain ⟨c1, c2⟩ := c
  unfold showT at q
  have z0 : ∀ x (ps : List D), atI (x :: ps) 0 = some x := fun x ps => atI_nat (j := 0) (rfl : (x :: ps)[0]? = some x)
  have z1 : ∀ x y (ps : List D), atI (x :: y :: ps) 1 = some y := fun x y ps => atI_nat (j := 1) (rfl : (x :: y :: ps)[1]? = some y)
  simp (decide := true) (dsimp := false) [c_is_shown, a1, cut1, z0, alone_in]
  by_cases h1 : w ∈ aloneL
  · rw [if_pos h1] at q
    simp (decide := true) (dsimp := false) [h1]
    cases ns with
    | nil =>
      simp (decide := true) (dsimp := false) []
      exact ⟨(c1, c2), w, rfl, cw, h1, q⟩
    | cons p ps =>
      have ln : ¬ ((ps.length : Int) + 1 = 0) := by omega
      simp (decide := true) (dsimp := false) [ln]
      exact q
  · rw [if_neg h1] at q
    simp (decide := true) (dsimp := false) [h1]
    by_cases h2 : w = "given"
    · rw [if_pos h2] at q
      simp (decide := true) (dsimp := false) [h2]
      rcases ns with _ | ⟨p, _ | ⟨p2, ps⟩⟩
      · simp (decide := true) (dsimp := false) []
        exact q
      · simp (decide := true) (dsimp := false) [z0]
        by_cases p0 : 0 ≤ p
        · by_cases p1 : p < (gs.length : Int)
          · have a2 := cl_at p0 p1
            have g2 := gs_ok p0 p1 hgs
            have q' : Q (.v (.bool (PyData.eqv (clD (gAt gs p)) (clD (c1, c2))))) := by
              simp only [decide_eq_true p0, decide_eq_true p1, Bool.true_and] at q
              exact q
            simp (decide := true) (dsimp := false) [p0, p1, a2]
            exact ⟨shC g2 (by decide), shC cw (by decide), q'⟩
          · have q' : Q (.v (.bool false)) := by
              simp only [decide_eq_false p1, Bool.false_and, Bool.and_false] at q
              exact q
            simp (decide := true) (dsimp := false) [p0, p1]
            exact q'
        · have q' : Q (.v (.bool false)) := by
            simp only [decide_eq_false p0, Bool.false_and] at q
            exact q
          simp (decide := true) (dsimp := false) [p0]
          exact q'
      · have ln : ¬ ((ps.length : Int) + 1 + 1 = 1) := by omega
        simp (decide := true) (dsimp := false) [ln]
        exact q
    · rw [if_neg h2] at q
      simp (decide := true) (dsimp := false) [h2]
      refine foldC_mapL PyData.int (fun p => .bool (decide (0 ≤ p) && decide (p < (k : Int)))) (fun p hp Qt Qf q1 => ?_) (by rw [sizeLine_eq]; omega) ?_
      · by_cases p0 : 0 ≤ p
        · rw [decide_eq_true p0, Bool.true_and] at q1
          simp (decide := true) (dsimp := false) [p0]
          simpa using q1
        · rw [decide_eq_false p0, Bool.false_and] at q1
          simp (decide := true) (dsimp := false) [p0]
          exact q1
      · refine all_of ?_
        have ea : allB (fun p => decide (0 ≤ p) && decide (p < (k : Int))) ns = ns.all fun p => decide (0 ≤ p) && decide (p < (k : Int)) := rfl
        simp (decide := true) (dsimp := false) []
        cases e3 : allB (fun p => decide (0 ≤ p) && decide (p < (k : Int))) ns with
        | false =>
          rw [← ea, e3] at q
          simp (decide := true) (dsimp := false) []
          exact q
        | true =>
          rw [← ea, e3, if_pos rfl] at q
          have al := List.all_eq_true.mp e3
          have inr : ∀ p ∈ ns, 0 ≤ p ∧ p < (rs.length : Int) := fun p hp => by
            have := al p hp
            rw [Bool.and_eq_true, decide_eq_true_eq, decide_eq_true_eq] at this
            omega
          simp (decide := true) (dsimp := false) []
          rcases ns with _ | ⟨p, _ | ⟨p2, _ | ⟨p3, ps⟩⟩⟩
          · simp (decide := true) (dsimp := false) []
            exact q
          · obtain ⟨b1, b2⟩ := inr p (by simp)
            obtain ⟨y1, a2, _⟩ := row_at b1 b2
            simp (decide := true) (dsimp := false) [cut1, z0, a2]
            exact ⟨(c1, c2), clAt rs p, w, rfl, cw, clAt_ok b1 b2 hc, q⟩
          · obtain ⟨b1, b2⟩ := inr p (by simp)
            obtain ⟨b3, b4⟩ := inr p2 (by simp)
            obtain ⟨y1, a2, _⟩ := row_at b1 b2
            obtain ⟨y2, a3, _⟩ := row_at b3 b4
            simp (decide := true) (dsimp := false) [cut1, z0, z1, a2, a3]
            exact ⟨(c1, c2), clAt rs p, clAt rs p2, w, rfl, cw, clAt_ok b1 b2 hc, clAt_ok b3 b4 hc, q⟩
          · have l1 : ¬ ((ps.length : Int) + 1 + 1 + 1 = 1) := by omega
            have l2 : ¬ ((ps.length : Int) + 1 + 1 + 1 = 2) := by omega
            simp (decide := true) (dsimp := false) [l1, l2]
            exact q
end LW

namespace LW
open PySem L2 DL
theorem rows_of : ∀ {es : List D}, allB (fun d => rowB d) es = true → ∃ rs : List Rw, es = rs.map rwD ∧ ∀ r ∈ rs, ClOk 41 r.c
  | [], _ => ⟨[], rfl, fun r hr => nomatch hr⟩
  | d :: es, h => by
    have h' : (rowB d && allB (fun d => rowB d) es) = true := h
    rw [Bool.and_eq_true] at h'
    obtain ⟨r, rfl, r1⟩ := rowB_of h'.1
    obtain ⟨rs, rfl, r2⟩ := rows_of h'.2
    refine ⟨r :: rs, rfl, fun x hx => ?_⟩
    rcases List.mem_cons.mp hx with rfl | hx
    · exact r1
    · exact r2 x hx
theorem rows_all {rs : List Rw} (h : ∀ r ∈ rs, ClOk 41 r.c) : allB (fun d => rowB d) (rs.map rwD) = true := by
  rw [allB_eq, List.all_eq_true]
  intro d hd
  obtain ⟨r, hr, rfl⟩ := List.mem_map.mp hd
  exact rowB_ok (h r hr)
theorem drv_no {gs : List (Fm × Fm)} {c : Fm × Fm} {es : List D} {b : Bool} (h : DrvIs gs c (.tuple es) b) (n : es = [] ∨ allB (fun d => rowB d) es = false) : b = false := by
  rcases h with ⟨rs, h1, h2, h3, _⟩ | ⟨_, h⟩
  · have e := PyData.tuple.inj h2
    subst e
    rcases n with n | n
    · exact absurd (List.map_eq_nil_iff.mp n) h1
    · rw [rows_all h3] at n
      cases n
  · exact h
theorem drv_yes {gs : List (Fm × Fm)} {c : Fm × Fm} {es : List D} {b : Bool} (h : DrvIs gs c (.tuple es) b) (n : es ≠ []) (a : allB (fun d => rowB d) es = true) : ∃ rs : List Rw, rs ≠ [] ∧ es = rs.map rwD ∧ (∀ r ∈ rs, ClOk 41 r.c) ∧ b = drvT gs c rs := by
  rcases h with ⟨rs, h1, h2, h3, h4⟩ | ⟨h1, _⟩
  · exact ⟨rs, h1, PyData.tuple.inj h2, h3, h4⟩
  · exfalso
    obtain ⟨rs, rfl, h3⟩ := rows_of a
    exact h1 ⟨rs, fun e => n (by rw [e]; rfl), rfl, h3⟩
theorem drv_tup {gs : List (Fm × Fm)} {c : Fm × Fm} {v : D} {b : Bool} (h : DrvIs gs c v b) (n : ∀ es, v ≠ .tuple es) : b = false := by
  rcases h with ⟨rs, _, h2, _⟩ | ⟨_, h⟩
  · exact absurd h2 (n _)
  · exact h
theorem atI_neg {α : Type} {xs : List α} (h : xs ≠ []) : atI xs (-1) = atI xs ((xs.length : Int) - 1) := by
  have l : 1 ≤ xs.length := by
    cases xs with
    | nil => exact absurd rfl h
    | cons a b => rw [List.length_cons]; omega
  have e : ixN xs.length (-1) = ixN xs.length ((xs.length : Int) - 1) := by
    unfold ixN
    rw [if_neg (by decide), if_pos (by omega), if_pos (by omega), if_pos (by omega)]
    rw [show (-1 + (xs.length : Int)).toNat = ((xs.length : Int) - 1).toNat by omega]
  unfold atI
  rw [e]
theorem ns_len {rs : List Rw} (h : ∀ d ∈ rs.map rwD, tdD d = true) : ∀ r ∈ rs, r.ns.length ≤ 100000 := fun r hr => by
  have t := h _ (List.mem_map_of_mem hr)
  have t1 := (td_tup t).2 (.tuple (.str r.w :: r.ns.map .int)) (by simp)
  have t2 := (td_tup t1).1
  rw [List.length_cons, List.length_map] at t2
  omega
theorem drv_last {gs : List (Fm × Fm)} {c : Fm × Fm} {rs : List Rw} : drvT gs c rs = (PyData.eqv (.tuple [(clAt rs ((rs.length : Int) - 1)).1.d, (clAt rs ((rs.length : Int) - 1)).2.d]) (.tuple [c.1.d, c.2.d]) && (List.range rs.length).all (shownT gs rs)) := rfl
theorem w_is_derivation (ds : List D) (Q : R → Prop) (h : spDrv ds Q) : ds.length = 3 ∧ wpF Gir 5 c_is_derivation ds Q := by
  obtain ⟨gs, c, v, b, rfl, ht, lg, hgs, hc, hb, q⟩ := h
  refine ⟨rfl, ?_⟩
  have hn := td_noDic ht
  cases v with
  | tuple es =>
    obtain ⟨hl, hd⟩ := td_tup ht
    by_cases e0 : es = []
    · subst e0
      rw [drv_no hb (.inl rfl)] at q
      simp (decide := true) (dsimp := false) [c_is_derivation]
      exact q
    · have el : 1 ≤ es.length := by
        cases es with
        | nil => exact absurd rfl e0
        | cons a b => rw [List.length_cons]; omega
      cases e : allB (fun d => rowB d) es with
      | false =>
        rw [drv_no hb (.inr e)] at q
        have ln : ¬ ((es.length : Nat) : Int) = 0 := by omega
        have le : ¬ es = [] := e0
        simp (decide := true) (dsimp := false) [c_is_derivation, ln, le]
        refine foldC_map (fun d => .bool (rowB d)) (fun d hm Qt Qf q1 => ?_) (by rw [sizeLine_eq]; omega) ?_
        · simp (decide := true) (dsimp := false) []
          exact ⟨d, rfl, hd d hm, q1⟩
        · refine all_of ?_
          simp (decide := true) (dsimp := false) [e]
          exact q
      | true =>
        obtain ⟨rs, r0, rfl, hr, eb⟩ := drv_yes hb e0 e
        rw [List.length_map] at hl el
        have ln : ¬ ((rs.length : Nat) : Int) = 0 := by omega
        obtain ⟨why, a1, _⟩ := row_at (rs := rs) (p := (rs.length : Int) - 1) (by omega) (by omega)
        have an : atI (rs.map rwD) (-1) = some (.tuple [.tuple [(clAt rs ((rs.length : Int) - 1)).1.d, (clAt rs ((rs.length : Int) - 1)).2.d], why]) := by
          rw [atI_neg e0, List.length_map]
          exact a1
        have z0 : ∀ x (ps : List D), atI (x :: ps) 0 = some x := fun x ps => atI_nat (j := 0) (rfl : (x :: ps)[0]? = some x)
        have ca := clAt_ok (rs := rs) (p := (rs.length : Int) - 1) (by omega) (by omega) hr
        have n1 : (rs.length : Int) < 4611686018427387904 := by omega
        rw [eb, drv_last] at q
        simp (decide := true) (dsimp := false) [c_is_derivation, ln, r0]
        refine foldC_map (fun d => .bool (rowB d)) (fun d hm Qt Qf q1 => ?_) (by rw [sizeLine_eq, List.length_map]; omega) ?_
        · simp (decide := true) (dsimp := false) []
          exact ⟨d, rfl, hd d hm, q1⟩
        · refine all_of ?_
          simp (decide := true) (dsimp := false) [e, an, z0, clD_eq]
          refine ⟨shC ca (by decide), shC hc (by decide), ?_⟩
          cases e1 : PyData.eqv (.tuple [(clAt rs ((rs.length : Int) - 1)).1.d, (clAt rs ((rs.length : Int) - 1)).2.d]) (.tuple [c.1.d, c.2.d]) with
          | false =>
            rw [e1, Bool.false_and] at q
            simp (decide := true) (dsimp := false) []
            exact q
          | true =>
            rw [e1, Bool.true_and] at q
            simp (decide := true) (dsimp := false) [n1]
            refine foldC_rng (fun i => shownT gs rs i.toNat) (fun k hk Qt Qf q1 => ?_) (by rw [sizeLine_eq]; omega) ?_
            · rw [Int.zero_add] at q1 ⊢
              have kt : ((k : Int)).toNat = k := by omega
              rw [kt] at q1
              simp (decide := true) (dsimp := false) []
              exact ⟨gs, rs, k, rfl, hk, lg, by omega, fun r h => ⟨hr r h, ns_len hd r h⟩, hgs, q1⟩
            · refine all_of ?_
              rw [all_rng]
              have e2 : (fun k : Nat => (fun i : Int => shownT gs rs i.toNat) (0 + (k : Int))) = shownT gs rs := by
                funext k
                have kt : ((0 : Int) + (k : Int)).toNat = k := by omega
                show shownT gs rs ((0 : Int) + (k : Int)).toNat = _
                rw [kt]
              rw [e2]
              exact q
  | dict kvs =>
    rw [drv_tup hb fun es e => by cases e] at q
    simp (decide := true) (dsimp := false) [c_is_derivation]
    exact ⟨by simpa using hn, q⟩
  | _ =>
    rw [drv_tup hb fun es e => by cases e] at q
    simp (decide := true) (dsimp := false) [c_is_derivation]
    exact q
end LW

namespace LW
open PySem L2 DL
theorem w_law_shown_alone (ds : List D) (Q : R → Prop) (h : spLAlone ds Q) : ds.length = 2 ∧ wpF G0 4 c_law_shown_alone ds Q := by
  obtain ⟨⟨x, y⟩, w, rfl, ⟨hx, hy⟩, q⟩ := h
  refine ⟨rfl, ?_⟩
  obtain ⟨xs, ex, _, _⟩ := fm_tuple x
  obtain ⟨ys, ey, _, _⟩ := fm_tuple y
  have sx : SeqAt.shaped x.d = true := shF hx (by decide)
  have sy : SeqAt.shaped y.d = true := shF hy (by decide)
  have snx : SeqAt.shaped (Fm.not (.not x)).d = true := shF hx.not.not (by decide)
  have sny : SeqAt.shaped (Fm.not (.not y)).d = true := shF hy.not.not (by decide)
  have sall : SeqAt.shaped (.tuple [.str "all"]) = true := by decide +kernel
  have snone : SeqAt.shaped (.tuple [.str "none"]) = true := by decide +kernel
  have dnx : (Fm.not (.not x)).d = .tuple [.str "not", .tuple [.str "not", x.d]] := rfl
  have dny : (Fm.not (.not y)).d = .tuple [.str "not", .tuple [.str "not", y.d]] := rfl
  rw [dnx] at snx
  rw [dny] at sny
  have hcd : clD (x, y) = .tuple [x.d, y.d] := rfl
  by_cases hw : w ∈ aloneL
  case neg =>
    simp only [aloneL, List.mem_cons, List.not_mem_nil, or_false, not_or] at hw
    obtain ⟨n1, n2, n3, n4, n5, n6, n7⟩ := hw
    have e : aloneT x y w = false := by
      unfold aloneT
      rw [if_neg n1, if_neg n2, if_neg n3, if_neg n4, if_neg n5, if_neg n6, if_neg n7]
    rw [e] at q
    have i1 := inV2 w "first" "second"
    have i2 := inV2 w "one" "other"
    simp (decide := true) (dsimp := false) [c_law_shown_alone, hcd, n1, n2, n3, i1, i2, n4, n5, n6, n7]
    exact q
  simp only [aloneL, List.mem_cons, List.not_mem_nil, or_false] at hw
  rcases hw with rfl | rfl | rfl | rfl | rfl | rfl | rfl
  · have e : aloneT x y "same" = PyData.eqv x.d y.d := rfl
    rw [e] at q
    simp only [ex, ey] at q sx sy snx sny
    simp (decide := true) (dsimp := false) [c_law_shown_alone, hcd, ex, ey]
    exact ⟨sx, sy, q⟩
  · have e : aloneT x y "twice" = (PyData.eqv y.d (.tuple [.str "not", .tuple [.str "not", x.d]]) || PyData.eqv x.d (.tuple [.str "not", .tuple [.str "not", y.d]])) := rfl
    rw [e] at q
    simp only [ex, ey] at q sx sy snx sny
    simp (decide := true) (dsimp := false) [c_law_shown_alone, hcd, ex, ey, sizeLine_eq]
    refine ⟨sy, snx, ?_⟩
    cases e1 : PyData.eqv (.tuple ys) (.tuple [.str "not", .tuple [.str "not", .tuple xs]]) with
    | true =>
      rw [e1] at q
      simp (decide := true) (dsimp := false) []
      exact q
    | false =>
      rw [e1] at q
      simp (decide := true) (dsimp := false) [sizeLine_eq]
      exact ⟨sx, sny, q⟩
  · have e : aloneT x y "low" = (PyData.eqv x.d (.tuple [.str "none"]) || PyData.eqv y.d (.tuple [.str "all"])) := rfl
    rw [e] at q
    simp only [ex, ey] at q sx sy snx sny
    simp (decide := true) (dsimp := false) [c_law_shown_alone, hcd, ex, ey, sizeLine_eq]
    refine ⟨sx, snone, ?_⟩
    cases e1 : PyData.eqv (.tuple xs) (.tuple [.str "none"]) with
    | true =>
      rw [e1] at q
      simp (decide := true) (dsimp := false) []
      exact q
    | false =>
      rw [e1] at q
      simp (decide := true) (dsimp := false) [sizeLine_eq]
      exact ⟨sy, sall, q⟩
  · have e : aloneT x y "first" = fstB y x := rfl
    rw [e] at q
    cases x with
    | both a b =>
      obtain ⟨as, ea, _, _⟩ := fm_tuple a
      have sa : SeqAt.shaped a.d = true := shF (n := 41) ⟨by have := hx.1; simp only [Fm.dep] at this; omega, fun s hs => hx.2 s (List.mem_append_left _ hs)⟩ (by decide)
      have e2 : fstB y (.both a b) = PyData.eqv a.d y.d := rfl
      rw [e2] at q
      simp only [ea, ey] at q sa sy
      simp (decide := true) (dsimp := false) [c_law_shown_alone, hcd, ey, ea, Fm.d, atI, ixN]
      exact ⟨sa, sy, q⟩
    | _ =>
      simp (decide := true) (dsimp := false) [c_law_shown_alone, hcd, ey, Fm.d, atI, ixN]
      exact q
  · have e : aloneT x y "second" = sndB y x := rfl
    rw [e] at q
    cases x with
    | both a b =>
      obtain ⟨as, ea, _, _⟩ := fm_tuple b
      have sa : SeqAt.shaped b.d = true := shF (n := 41) ⟨by have := hx.1; simp only [Fm.dep] at this; omega, fun s hs => hx.2 s (List.mem_append_right _ hs)⟩ (by decide)
      have e2 : sndB y (.both a b) = PyData.eqv b.d y.d := rfl
      rw [e2] at q
      simp only [ea, ey] at q sa sy
      simp (decide := true) (dsimp := false) [c_law_shown_alone, hcd, ey, ea, Fm.d, atI, ixN]
      exact ⟨sa, sy, q⟩
    | _ =>
      simp (decide := true) (dsimp := false) [c_law_shown_alone, hcd, ey, Fm.d, atI, ixN]
      exact q
  · have e : aloneT x y "one" = fstE x y := rfl
    rw [e] at q
    cases y with
    | either a b =>
      obtain ⟨as, ea, _, _⟩ := fm_tuple a
      have sa : SeqAt.shaped a.d = true := shF (n := 41) ⟨by have := hy.1; simp only [Fm.dep] at this; omega, fun s hs => hy.2 s (List.mem_append_left _ hs)⟩ (by decide)
      have e2 : fstE x (.either a b) = PyData.eqv a.d x.d := rfl
      rw [e2] at q
      simp only [ea, ex] at q sa sx
      simp (decide := true) (dsimp := false) [c_law_shown_alone, hcd, ex, ea, Fm.d, atI, ixN]
      exact ⟨sa, sx, q⟩
    | _ =>
      simp (decide := true) (dsimp := false) [c_law_shown_alone, hcd, ex, Fm.d, atI, ixN]
      exact q
  · have e : aloneT x y "other" = sndE x y := rfl
    rw [e] at q
    cases y with
    | either a b =>
      obtain ⟨as, ea, _, _⟩ := fm_tuple b
      have sa : SeqAt.shaped b.d = true := shF (n := 41) ⟨by have := hy.1; simp only [Fm.dep] at this; omega, fun s hs => hy.2 s (List.mem_append_right _ hs)⟩ (by decide)
      have e2 : sndE x (.either a b) = PyData.eqv b.d x.d := rfl
      rw [e2] at q
      simp only [ea, ex] at q sa sx
      simp (decide := true) (dsimp := false) [c_law_shown_alone, hcd, ex, ea, Fm.d, atI, ixN]
      exact ⟨sa, sx, q⟩
    | _ =>
      simp (decide := true) (dsimp := false) [c_law_shown_alone, hcd, ex, Fm.d, atI, ixN]
      exact q
def Gll : Gm := ⟨fun | 18 => some (spIsFm 42) | 19 => some spClLn | 20 => some spIsI | 21 => some spLAlone | 22 => some spShown | _ => none, fun _ => none⟩
@[simp] theorem Gll_18 : Gll.Φ 18 = some (spIsFm 42) := rfl
@[simp] theorem Gll_19 : Gll.Φ 19 = some spClLn := rfl
@[simp] theorem Gll_20 : Gll.Φ 20 = some spIsI := rfl
@[simp] theorem Gll_21 : Gll.Φ 21 = some spLAlone := rfl
@[simp] theorem Gll_22 : Gll.Φ 22 = some spShown := rfl
theorem w_law_is_claim (ds : List D) (Q : R → Prop) (h : spClLn ds Q) : ds.length = 2 ∧ wpF Gll 2 c_law_is_claim ds Q := by
  obtain ⟨n, d, rfl, hn42, ht, q⟩ := h
  refine ⟨rfl, ?_⟩
  have hn := td_noDic ht
  cases d with
  | tuple es =>
    obtain ⟨hl, hd⟩ := td_tup ht
    by_cases h2 : es.length = 2
    · obtain ⟨x, y, rfl⟩ : ∃ x y, es = [x, y] := by
        rcases es with _ | ⟨a, _ | ⟨b, _ | ⟨c, r⟩⟩⟩
        · cases h2
        · cases h2
        · exact ⟨a, b, rfl⟩
        · simp at h2
      have x0 : atI [x, y] 0 = some x := rfl
      have x1 : atI [x, y] 1 = some y := rfl
      have e : clN n (.tuple [x, y]) = (isFm n x && isFm n y) := rfl
      rw [e] at q
      simp (decide := true) (dsimp := false) [c_law_is_claim, x0, x1]
      refine ⟨n, x, rfl, hn42, hd x (by simp), ?_⟩
      cases ex : isFm n x with
      | false =>
        rw [ex] at q
        simp (decide := true) (dsimp := false) []
        exact q
      | true =>
        rw [ex] at q
        simp (decide := true) (dsimp := false) [x1]
        exact ⟨n, y, rfl, hn42, hd y (by simp), q⟩
    · rw [clN_len h2] at q
      have l2 : ¬ ((es.length : Nat) : Int) = 2 := by omega
      simp (decide := true) (dsimp := false) [c_law_is_claim, l2]
      exact q
  | dict kvs =>
    simp (decide := true) (dsimp := false) [c_law_is_claim]
    exact ⟨by simpa using hn, q⟩
  | _ =>
    simp (decide := true) (dsimp := false) [c_law_is_claim]
    exact q
end LW

namespace LW
open PySem L2 DL
theorem gt0_ofL {α : Type} {G : Gm} {env : En} {f : α → D} {p : α → Bool} {l : List α} {Q : Bool → Prop} (q : Q (anyB p l)) : dB1 .len (R.nw ((l.filter p).map f)).d fun x => wpE G (.int 0) env fun y => dCmp .Gt x.d y.d Q := by
  simp only [dB1, R.d, wpE, dCmp, List.length_map]
  rw [len_pos]
  exact q
theorem alone_ne {w : Str} (h : w ∈ aloneL) : w ≠ "turn" ∧ w ≠ "never" ∧ w ≠ "chain" ∧ w ≠ "meet" ∧ w ≠ "join" ∧ w ≠ "given" := by
  simp only [aloneL, List.mem_cons, List.not_mem_nil, or_false] at h
  rcases h with rfl | rfl | rfl | rfl | rfl | rfl | rfl <;> decide
theorem alone_no {x y : Fm} {w : Str} (h : w ∉ aloneL) : aloneT x y w = false := by
  simp only [aloneL, List.mem_cons, List.not_mem_nil, or_false, not_or] at h
  obtain ⟨n1, n2, n3, n4, n5, n6, n7⟩ := h
  unfold aloneT
  rw [if_neg n1, if_neg n2, if_neg n3, if_neg n4, if_neg n5, if_neg n6, if_neg n7]
theorem row_no {w : Str} {c b : Fm × Fm} (h : w ∈ aloneL) : rowShowT c w b = false := by
  obtain ⟨n1, n2, _⟩ := alone_ne h
  unfold rowShowT
  rw [if_neg n1, decide_eq_false n2]
  rfl
theorem rows_no {w : Str} {c l r : Fm × Fm} (h : w ∈ aloneL) : rowsShowT c w l r = false := by
  obtain ⟨_, _, n1, n2, n3, _⟩ := alone_ne h
  unfold rowsShowT
  rw [if_neg n1, if_neg n2, decide_eq_false n3]
  rfl
/-- what is shown, by how many places are told -/
theorem show_in {gs : List (Fm × Fm)} {rs : List Rw} {k : Nat} {c : Fm × Fm} {w : Str} {ns : List Int} (hg : w ≠ "given") :
    showT gs rs k c w ns = (allB (fun p => decide (0 ≤ p) && decide (p < (k : Int))) ns && (match ns with
      | [] => aloneT c.1 c.2 w
      | [p] => rowShowT c w (clAt rs p)
      | [p, q] => rowsShowT c w (clAt rs p) (clAt rs q)
      | _ => false)) := by
  unfold showT
  by_cases h : w ∈ aloneL
  · rw [if_pos h]
    rcases ns with _ | ⟨p, _ | ⟨p2, _ | ⟨p3, ps⟩⟩⟩
    · rfl
    · show (false && _) = (_ && rowShowT c w (clAt rs p))
      rw [row_no h, Bool.and_false]
      rfl
    · show (false && _) = (_ && rowsShowT c w (clAt rs p) (clAt rs p2))
      rw [rows_no h, Bool.and_false]
      rfl
    · show (false && _) = (_ && false)
      rw [Bool.and_false]
      rfl
  · rw [if_neg h, if_neg hg]
    rw [← allB_eq]
    cases e : allB (fun p => decide (0 ≤ p) && decide (p < (k : Int))) ns with
    | false => rfl
    | true =>
      rw [if_pos rfl]
      rcases ns with _ | ⟨p, _ | ⟨p2, _ | ⟨p3, ps⟩⟩⟩
      · show false = (true && aloneT c.1 c.2 w)
        rw [alone_no h]
        rfl
      · rfl
      · rfl
      · rfl
theorem w_law_shown (ds : List D) (Q : R → Prop) (h : spShown ds Q) : ds.length = 3 ∧ wpF Gll 13 c_law_shown ds Q := by
  obtain ⟨gs, rs, k, rfl, hk, lg, lr, hrs, hgs, q⟩ := h
  refine ⟨rfl, ?_⟩
  have hc : ∀ r ∈ rs, ClOk 41 r.c := fun r hr => (hrs r hr).1
  obtain ⟨why, a1, ewhy⟩ := row_at (rs := rs) (p := (k : Int)) (by omega) (by omega)
  have cw := clAt_ok (rs := rs) (p := (k : Int)) (by omega) (by omega) hc
  have kt : ((k : Int)).toNat = k := by omega
  have nl : (rs.getD k rw0).ns.length ≤ 100000 := by
    rw [List.getD_eq_getElem?_getD, List.getElem?_eq_getElem hk]
    exact (hrs _ (List.getElem_mem hk)).2
  have es : shownT gs rs k = showT gs rs k (clAt rs (k : Int)) (rs.getD k rw0).w (rs.getD k rw0).ns := by
    unfold shownT clAt
    rw [kt]
  rw [es] at q
  rw [kt] at ewhy
  subst ewhy
  generalize hcc : clAt rs (k : Int) = c at *
  generalize hw : (rs.getD k rw0).w = w at *
  generalize hns : (rs.getD k rw0).ns = ns at *
  obtain ⟨c1, c2⟩ := c
  have z0 : ∀ x (ps : List D), atI (x :: ps) 0 = some x := fun x ps => atI_nat (j := 0) (rfl : (x :: ps)[0]? = some x)
  have z1 : ∀ x y (ps : List D), atI (x :: y :: ps) 1 = some y := fun x y ps => atI_nat (j := 1) (rfl : (x :: y :: ps)[1]? = some y)
  simp (decide := true) (dsimp := false) [c_law_shown, a1, cut1, z0]
  by_cases h2 : w = "given"
  · subst h2
    have na : ("given" : Str) ∉ aloneL := by decide
    unfold showT at q
    rw [if_neg na, if_pos rfl] at q
    simp (decide := true) (dsimp := false) []
    rcases ns with _ | ⟨p, _ | ⟨p2, ps⟩⟩
    · simp (decide := true) (dsimp := false) []
      exact q
    · simp (decide := true) (dsimp := false) [z0]
      by_cases p0 : 0 ≤ p
      · by_cases p1 : p < (gs.length : Int)
        · have a2 := cl_at p0 p1
          have g2 := gs_ok p0 p1 hgs
          have q' : Q (.v (.bool (PyData.eqv (clD (gAt gs p)) (clD (c1, c2))))) := by
            simp only [decide_eq_true p0, decide_eq_true p1, Bool.true_and] at q
            exact q
          simp (decide := true) (dsimp := false) [p0, p1, a2]
          exact ⟨shC g2 (by decide), shC cw (by decide), q'⟩
        · have q' : Q (.v (.bool false)) := by
            simp only [decide_eq_false p1, Bool.false_and, Bool.and_false] at q
            exact q
          simp (decide := true) (dsimp := false) [p0, p1]
          exact q'
      · have q' : Q (.v (.bool false)) := by
          simp only [decide_eq_false p0, Bool.false_and] at q
          exact q
        simp (decide := true) (dsimp := false) [p0]
        exact q'
    · have ln : ¬ ((ps.length : Int) + 1 + 1 = 1) := by omega
      simp (decide := true) (dsimp := false) [ln]
      exact q
  · rw [show_in h2] at q
    simp (decide := true) (dsimp := false) [h2]
    refine foldC_selL PyData.int (fun p => !(decide (0 ≤ p) && decide (p < (k : Int)))) (fun p hp Qt Qf q1 q2 => ?_) (by rw [sizeLine_eq]; omega) ?_
    · by_cases p0 : p < 0
      · simp (decide := true) (dsimp := false) [p0]
        exact q1 (by rw [decide_eq_false (by omega)]; rfl)
      · by_cases p1 : (k : Int) ≤ p
        · simp (decide := true) (dsimp := false) [p0, p1]
          exact q1 (by rw [decide_eq_false (show ¬ p < (k : Int) by omega), Bool.and_false]; rfl)
        · simp (decide := true) (dsimp := false) [p0, p1]
          exact q2 (by rw [decide_eq_true (show 0 ≤ p by omega), decide_eq_true (show p < (k : Int) by omega)]; rfl)
    · refine gt0_ofL ?_
      rw [anyB_not]
      simp (decide := true) (dsimp := false) []
      cases e3 : allB (fun p => decide (0 ≤ p) && decide (p < (k : Int))) ns with
      | false =>
        rw [e3, Bool.false_and] at q
        simp (decide := true) (dsimp := false) []
        exact q
      | true =>
        rw [e3, Bool.true_and] at q
        have al := List.all_eq_true.mp e3
        have inr : ∀ p ∈ ns, 0 ≤ p ∧ p < (rs.length : Int) := fun p hp => by
          have := al p hp
          rw [Bool.and_eq_true, decide_eq_true_eq, decide_eq_true_eq] at this
          omega
        simp (decide := true) (dsimp := false) []
        refine foldC_mapL PyData.int (fun p => .tuple [(clAt rs p).1.d, (clAt rs p).2.d]) (fun p hp Qt Qf q1 => ?_) (by rw [sizeLine_eq]; omega) ?_
        · obtain ⟨b1, b2⟩ := inr p hp
          obtain ⟨y1, a2, _⟩ := row_at b1 b2
          simp (decide := true) (dsimp := false) [a2, z0]
          exact q1
        · rcases ns with _ | ⟨p, _ | ⟨p2, _ | ⟨p3, ps⟩⟩⟩
          · simp (decide := true) (dsimp := false) []
            exact ⟨(c1, c2), w, rfl, cw, q⟩
          · obtain ⟨b1, b2⟩ := inr p (by simp)
            have cb := clAt_ok b1 b2 hc
            have q' : Q (.v (.bool (rowShowT (c1, c2) w (clAt rs p)))) := q
            simp (decide := true) (dsimp := false) [z0]
            generalize clAt rs p = bb at *
            obtain ⟨x1, x2⟩ := bb
            obtain ⟨hb1, hb2⟩ := cb
            obtain ⟨hc1, hc2⟩ := cw
            have k1 : SeqAt.shaped (.tuple [c1.d, c2.d]) = true := shC (n := 41) (c := (c1, c2)) ⟨hc1, hc2⟩ (by decide)
            have k2 : SeqAt.shaped (.tuple [.tuple [.str "not", x2.d], .tuple [.str "not", x1.d]]) = true := shC (n := 42) (c := (.not x2, .not x1)) ⟨hb2.not, hb1.not⟩ (by decide)
            have k3 : SeqAt.shaped x2.d = true := shF hb2 (by decide)
            have k4 : SeqAt.shaped (.tuple [.str "not", x1.d]) = true := shF (f := .not x1) hb1.not (by decide)
            have k5 : SeqAt.shaped c1.d = true := shF hc1 (by decide)
            have k6 : SeqAt.shaped x1.d = true := shF hb1 (by decide)
            obtain ⟨xs, ex, _, _⟩ := fm_tuple x2
            obtain ⟨ys, ey, _, _⟩ := fm_tuple c1
            obtain ⟨zs, ez, _, _⟩ := fm_tuple x1
            by_cases w1 : w = "turn"
            · have e : rowShowT (c1, c2) w (x1, x2) = PyData.eqv (.tuple [c1.d, c2.d]) (.tuple [.tuple [.str "not", x2.d], .tuple [.str "not", x1.d]]) := by
                unfold rowShowT
                rw [if_pos w1]
                rfl
              rw [e] at q'
              subst w1
              simp only [ex, ey, ez] at q' k1 k2
              simp (decide := true) (dsimp := false) [ex, ey, ez]
              refine ⟨k1, k2, ?_⟩
              split
              · rename_i e1
                rw [e1] at q'
                exact q'
              · rename_i e1
                rw [Bool.not_eq_true] at e1
                rw [e1] at q'
                exact q'
            · have e : rowShowT (c1, c2) w (x1, x2) = (decide (w = "never") && (PyData.eqv x2.d (.tuple [.str "not", x1.d]) && PyData.eqv c1.d x1.d)) := by
                unfold rowShowT
                rw [if_neg w1]
                rfl
              rw [e] at q'
              by_cases w2 : w = "never"
              · rw [decide_eq_true w2, Bool.true_and] at q'
                subst w2
                simp only [ex, ey, ez] at q' k3 k4 k5 k6
                simp (decide := true) (dsimp := false) [ex, ey, ez]
                refine ⟨k3, k4, ?_⟩
                split
                · rename_i e1
                  rw [e1, Bool.true_and] at q'
                  exact ⟨k5, k6, q'⟩
                · rename_i e1
                  rw [Bool.not_eq_true] at e1
                  rw [e1, Bool.false_and] at q'
                  exact q'
              · rw [decide_eq_false w2, Bool.false_and] at q'
                simp (decide := true) (dsimp := false) [w1, w2]
                exact q'
          · obtain ⟨b1, b2⟩ := inr p (by simp)
            obtain ⟨b3, b4⟩ := inr p2 (by simp)
            have cl := clAt_ok b1 b2 hc
            have cr := clAt_ok b3 b4 hc
            have q' : Q (.v (.bool (rowsShowT (c1, c2) w (clAt rs p) (clAt rs p2)))) := q
            simp (decide := true) (dsimp := false) [z0, z1]
            generalize clAt rs p = lft at *
            generalize clAt rs p2 = rgt at *
            obtain ⟨l1, l2⟩ := lft
            obtain ⟨r1, r2⟩ := rgt
            obtain ⟨hc1, hc2⟩ := cw
            obtain ⟨hl1, hl2⟩ := cl
            obtain ⟨hr1, hr2⟩ := cr
            have kc : SeqAt.shaped (.tuple [c1.d, c2.d]) = true := shC (n := 41) (c := (c1, c2)) ⟨hc1, hc2⟩ (by decide)
            have k1 : SeqAt.shaped (.tuple [l1.d, r2.d]) = true := shC (n := 41) (c := (l1, r2)) ⟨hl1, hr2⟩ (by decide)
            have k2 : SeqAt.shaped (.tuple [l1.d, .tuple [.str "both", l2.d, r2.d]]) = true := shC (n := 42) (c := (l1, .both l2 r2)) ⟨hl1.mono (by decide), hl2.both hr2⟩ (by decide)
            have k3 : SeqAt.shaped (.tuple [.tuple [.str "either", l1.d, r1.d], l2.d]) = true := shC (n := 42) (c := (.either l1 r1, l2)) ⟨hl1.either hr1, hl2.mono (by decide)⟩ (by decide)
            have s1 : SeqAt.shaped l1.d = true := shF hl1 (by decide)
            have s2 : SeqAt.shaped l2.d = true := shF hl2 (by decide)
            have s3 : SeqAt.shaped r1.d = true := shF hr1 (by decide)
            have s4 : SeqAt.shaped r2.d = true := shF hr2 (by decide)
            obtain ⟨xs, ex, _, _⟩ := fm_tuple l1
            obtain ⟨ys, ey, _, _⟩ := fm_tuple l2
            obtain ⟨zs, ez, _, _⟩ := fm_tuple r1
            obtain ⟨us, eu, _, _⟩ := fm_tuple r2
            by_cases w1 : w = "chain"
            · have e : rowsShowT (c1, c2) w (l1, l2) (r1, r2) = (PyData.eqv l2.d r1.d && PyData.eqv (.tuple [c1.d, c2.d]) (.tuple [l1.d, r2.d])) := by
                unfold rowsShowT
                rw [if_pos w1]
                rfl
              rw [e] at q'
              subst w1
              simp only [ex, ey, ez, eu] at q' s2 s3 kc k1
              simp (decide := true) (dsimp := false) [ex, ey, ez, eu]
              refine ⟨s2, s3, ?_⟩
              split
              · rename_i e1
                rw [e1, Bool.true_and] at q'
                exact ⟨kc, k1, q'⟩
              · rename_i e1
                rw [Bool.not_eq_true] at e1
                rw [e1, Bool.false_and] at q'
                exact q'
            · by_cases w2 : w = "meet"
              · have e : rowsShowT (c1, c2) w (l1, l2) (r1, r2) = (PyData.eqv l1.d r1.d && PyData.eqv (.tuple [c1.d, c2.d]) (.tuple [l1.d, .tuple [.str "both", l2.d, r2.d]])) := by
                  unfold rowsShowT
                  rw [if_neg w1, if_pos w2]
                  rfl
                rw [e] at q'
                subst w2
                simp only [ex, ey, ez, eu] at q' s1 s3 kc k2
                simp (decide := true) (dsimp := false) [ex, ey, ez, eu]
                refine ⟨s1, s3, ?_⟩
                split
                · rename_i e1
                  rw [e1, Bool.true_and] at q'
                  exact ⟨kc, k2, q'⟩
                · rename_i e1
                  rw [Bool.not_eq_true] at e1
                  rw [e1, Bool.false_and] at q'
                  exact q'
              · have e : rowsShowT (c1, c2) w (l1, l2) (r1, r2) = (decide (w = "join") && (PyData.eqv l2.d r2.d && PyData.eqv (.tuple [c1.d, c2.d]) (.tuple [.tuple [.str "either", l1.d, r1.d], l2.d]))) := by
                  unfold rowsShowT
                  rw [if_neg w1, if_neg w2]
                  rfl
                rw [e] at q'
                by_cases w3 : w = "join"
                · rw [decide_eq_true w3, Bool.true_and] at q'
                  subst w3
                  simp only [ex, ey, ez, eu] at q' s2 s4 kc k3
                  simp (decide := true) (dsimp := false) [ex, ey, ez, eu]
                  refine ⟨s2, s4, ?_⟩
                  split
                  · rename_i e1
                    rw [e1, Bool.true_and] at q'
                    exact ⟨kc, k3, q'⟩
                  · rename_i e1
                    rw [Bool.not_eq_true] at e1
                    rw [e1, Bool.false_and] at q'
                    exact q'
                · rw [decide_eq_false w3, Bool.false_and] at q'
                  simp (decide := true) (dsimp := false) [w1, w2, w3]
                  exact q'
          · have l1 : ¬ ((ps.length : Int) + 1 + 1 + 1 = 1) := by omega
            have l0 : ¬ ((ps.length : Int) + 1 + 1 + 1 = 0) := by omega
            have l2 : (2 : Int) < (ps.length : Int) + 1 + 1 + 1 := by omega
            simp (decide := true) (dsimp := false) [l0, l1, l2, z0]
            exact q
end LW

namespace LW
open PySem L2 DL
theorem w_law_put (ds : List D) (Q : R → Prop) (h : ∃ (rows : List D) (k : Nat) (x : D), ds = [.tuple rows, .int (k : Int), x] ∧ rows.length ≤ 100000 ∧ Q (.v (.tuple (rows.take k ++ x :: rows.drop (k + 1))))) : ds.length = 3 ∧ wpF G0 3 c_law_put ds Q := by
  obtain ⟨rows, k, x, rfl, hl, q⟩ := h
  refine ⟨rfl, ?_⟩
  have cd : cutD rows (some ((k : Int) + 1)) none = rows.drop (k + 1) := by
    rw [show ((k : Int) + 1) = ((k + 1 : Nat) : Int) by omega]
    exact cut_drop
  have l1 : (rows.take k).length ≤ 100000 := by rw [List.length_take]; omega
  have l2 : (rows.drop (k + 1)).length ≤ 100000 := by rw [List.length_drop]; omega
  simp (decide := true) (dsimp := false) [c_law_put, sizeLine_eq, cut_take, cd]
  simp only [List.length_take, List.length_drop] at *
  refine ⟨by omega, by omega, ?_⟩
  simpa using q
theorem w_law_is_derivation (ds : List D) (Q : R → Prop) (h : spDrv ds Q) : ds.length = 3 ∧ wpF Gll 6 c_law_is_derivation ds Q := by
  obtain ⟨gs, c, v, b, rfl, ht, lg, hgs, hc, hb, q⟩ := h
  refine ⟨rfl, ?_⟩
  have hn := td_noDic ht
  cases v with
  | tuple es =>
    obtain ⟨hl, hd⟩ := td_tup ht
    by_cases e0 : es = []
    · subst e0
      rw [drv_no hb (.inl rfl)] at q
      simp (decide := true) (dsimp := false) [c_law_is_derivation]
      exact q
    · have el : 1 ≤ es.length := by
        cases es with
        | nil => exact absurd rfl e0
        | cons a b => rw [List.length_cons]; omega
      have ln : ¬ ((es.length : Nat) : Int) = 0 := by omega
      have le : ¬ es = [] := e0
      have qno : ∀ d ∈ es, rowB d = false → Q (.v (.bool false)) := fun d hd hr => by
        have : allB (fun d => rowB d) es = false := by
          cases z : allB (fun d => rowB d) es with
          | false => rfl
          | true =>
            rw [List.all_eq_true.mp z d hd] at hr
            cases hr
        rw [drv_no hb (.inr this)] at q
        exact q
      have z0 : ∀ x (ps : List D), atI (x :: ps) 0 = some x := fun x ps => atI_nat (j := 0) (rfl : (x :: ps)[0]? = some x)
      have z1 : ∀ x y (ps : List D), atI (x :: y :: ps) 1 = some y := fun x y ps => atI_nat (j := 1) (rfl : (x :: y :: ps)[1]? = some y)
      simp (decide := true) (dsimp := false) [c_law_is_derivation, ln, le]
      refine foldF_inv (fun i env => (∀ j, j < i → rowB (es.getD j .none) = true) ∧ ∃ x3, env = [.val (.tuple (gs.map clD)), .val (clD c), .val (.tuple es), x3, .no, .no]) 0 ⟨fun j hj => absurd hj (Nat.not_lt_zero j), _, rfl⟩ (fun k d env hk hi => ?_) fun env hi => ?_
      · obtain ⟨hj, x3, rfl⟩ := hi
        intro N hN
        rw [Nat.zero_add] at hj hN
        have hm : d ∈ es := List.mem_of_getElem? hk
        have td := hd d hm
        have nd := td_noDic td
        have no := qno d hm
        have eg : es.getD k .none = d := by rw [List.getD_eq_getElem?_getD, hk]; rfl
        have yes : rowB d = true → N [.val (.tuple (gs.map clD)), .val (clD c), .val (.tuple es), .val d, .no, .no] := fun hr => hN _ ⟨fun j hj2 => by
          by_cases z : j = k
          · rw [z, eg]
            exact hr
          · exact hj j (by omega), _, rfl⟩
        cases d with
        | tuple fs =>
          obtain ⟨fl, fd⟩ := td_tup td
          by_cases h2 : fs.length = 2
          · obtain ⟨x, y, rfl⟩ : ∃ x y, fs = [x, y] := by
              rcases fs with _ | ⟨a, _ | ⟨b, _ | ⟨c, r⟩⟩⟩
              · cases h2
              · cases h2
              · exact ⟨a, b, rfl⟩
              · simp at h2
            have tx := fd x (by simp)
            have ty := fd y (by simp)
            have ny := td_noDic ty
            simp (decide := true) (dsimp := false) [z0, z1]
            refine ⟨41, x, rfl, by omega, tx, ?_⟩
            cases e1 : clN 41 x with
            | false =>
              simp (decide := true) (dsimp := false) []
              exact no (rowB_cl e1)
            | true =>
              have nw : (∀ w ps, y ≠ .tuple (.str w :: ps)) → Q (.v (.bool false)) := fun hh => no (rowB_why hh)
              cases y with
              | tuple ws =>
                obtain ⟨wl, wd⟩ := td_tup ty
                cases ws with
                | nil =>
                  simp (decide := true) (dsimp := false) [z0, z1]
                  exact nw fun w ps e => by cases e
                | cons z ps =>
                  have tz := wd z List.mem_cons_self
                  have nz := td_noDic tz
                  have lnw : ¬ ((ps.length : Int) + 1 = 0) := by omega
                  cases z with
                  | str w =>
                    rw [rowB_eq, e1, Bool.true_and] at no yes
                    rw [List.length_cons] at wl
                    simp (decide := true) (dsimp := false) [z0, z1, lnw, cut1]
                    refine foldC_sel (fun d => !isI d) (fun d hm2 Qt Qf q1 q2 => ?_) (by rw [sizeLine_eq]; omega) ?_
                    · simp (decide := true) (dsimp := false) []
                      refine ⟨d, rfl, wd d (List.mem_cons_of_mem _ hm2), ?_⟩
                      cases e : isI d with
                      | true =>
                        simp (decide := true) (dsimp := false) []
                        exact q2 (by rw [e]; rfl)
                      | false =>
                        simp (decide := true) (dsimp := false) []
                        exact q1 (by rw [e]; rfl)
                    · refine gt0_of ?_
                      rw [anyB_not]
                      simp (decide := true) (dsimp := false) []
                      cases e2 : allB (fun d => isI d) ps with
                      | false =>
                        simp (decide := true) (dsimp := false) []
                        exact no e2
                      | true =>
                        simp (decide := true) (dsimp := false) []
                        exact yes e2
                  | dict kvs =>
                    simp (decide := true) (dsimp := false) [z0, z1, lnw]
                    exact ⟨by simpa using nz, nw fun w ps e => by cases e⟩
                  | _ =>
                    simp (decide := true) (dsimp := false) [z0, z1, lnw]
                    exact nw fun w ps e => by cases e
              | dict kvs =>
                simp (decide := true) (dsimp := false) [z0, z1]
                exact ⟨by simpa using ny, nw fun w ps e => by cases e⟩
              | _ =>
                simp (decide := true) (dsimp := false) [z0, z1]
                exact nw fun w ps e => by cases e
          · have l2 : ¬ ((fs.length : Nat) : Int) = 2 := by omega
            simp (decide := true) (dsimp := false) [l2]
            exact no (rowB_len h2)
        | dict kvs =>
          simp (decide := true) (dsimp := false) []
          exact ⟨by simpa using nd, no rfl⟩
        | _ =>
          simp (decide := true) (dsimp := false) []
          exact no rfl
      · obtain ⟨hj, x3, rfl⟩ := hi
        rw [Nat.zero_add] at hj
        have e : allB (fun d => rowB d) es = true := by
          rw [allB_eq, List.all_eq_true]
          intro d hd2
          obtain ⟨i, hi, rfl⟩ := List.getElem_of_mem hd2
          have := hj i hi
          rw [List.getD_eq_getElem?_getD, List.getElem?_eq_getElem hi] at this
          exact this
        obtain ⟨rs, r0, rfl, hr, eb⟩ := drv_yes hb e0 e
        rw [List.length_map] at hl el
        obtain ⟨why, a1, _⟩ := row_at (rs := rs) (p := (rs.length : Int) - 1) (by omega) (by omega)
        have ca := clAt_ok (rs := rs) (p := (rs.length : Int) - 1) (by omega) (by omega) hr
        have n1 : (rs.length : Int) < 4611686018427387904 := by omega
        rw [eb, drv_last] at q
        simp (decide := true) (dsimp := false) [a1, z0, clD_eq]
        refine ⟨shC ca (by decide), shC hc (by decide), ?_⟩
        cases e1 : PyData.eqv (.tuple [(clAt rs ((rs.length : Int) - 1)).1.d, (clAt rs ((rs.length : Int) - 1)).2.d]) (.tuple [c.1.d, c.2.d]) with
        | false =>
          rw [e1, Bool.false_and] at q
          simp (decide := true) (dsimp := false) []
          exact q
        | true =>
          rw [e1, Bool.true_and] at q
          simp (decide := true) (dsimp := false) [n1]
          refine foldC_rngS (fun i => !shownT gs rs i.toNat) (fun k hk Qt Qf q1 q2 => ?_) (by rw [sizeLine_eq]; omega) ?_
          · rw [Int.zero_add] at q1 q2 ⊢
            have kt : ((k : Int)).toNat = k := by omega
            rw [kt] at q1 q2
            simp (decide := true) (dsimp := false) []
            refine ⟨gs, rs, k, rfl, hk, lg, by omega, fun r h => ⟨hr r h, ns_len hd r h⟩, hgs, ?_⟩
            cases es : shownT gs rs k with
            | true =>
              simp (decide := true) (dsimp := false) []
              exact q2 (by rw [es]; rfl)
            | false =>
              simp (decide := true) (dsimp := false) []
              exact q1 (by rw [es]; rfl)
          · refine eq0_of ?_
            rw [any_rng]
            have e2 : (!((List.range rs.length).any fun k => (fun i : Int => !shownT gs rs i.toNat) (0 + (k : Int)))) = (List.range rs.length).all (shownT gs rs) := by
              have e3 : (fun k : Nat => (fun i : Int => !shownT gs rs i.toNat) (0 + (k : Int))) = fun k => !shownT gs rs k := by
                funext k
                have kt : ((0 : Int) + (k : Int)).toNat = k := by omega
                show (!shownT gs rs ((0 : Int) + (k : Int)).toNat) = _
                rw [kt]
              rw [e3, ← anyB_eq, anyB_not, Bool.not_not]
              rfl
            rw [e2]
            exact q
  | dict kvs =>
    rw [drv_tup hb fun es e => by cases e] at q
    simp (decide := true) (dsimp := false) [c_law_is_derivation]
    exact ⟨by simpa using hn, q⟩
  | _ =>
    rw [drv_tup hb fun es e => by cases e] at q
    simp (decide := true) (dsimp := false) [c_law_is_derivation]
    exact q
end LW

/-! DV2: rows that a law draws. -/
namespace DL
open PySem L2
mutual
theorem eqv_rf : ∀ d : D, d.canLay0 = true → PyData.eqv d d = true
  | .none, _ => by simp [PyData.eqv]
  | .bool _, _ => by simp [PyData.eqv]
  | .int _, _ => by simp [PyData.eqv]
  | .str _, _ => by simp [PyData.eqv]
  | .list ds, h => by
    rw [PyData.canLay0] at h
    rw [PyData.eqv]
    exact eqvAll_rf ds h
  | .tuple ds, h => by
    rw [PyData.canLay0] at h
    rw [PyData.eqv]
    exact eqvAll_rf ds h
  | .dict _, h => by simp [PyData.canLay0] at h
theorem eqvAll_rf : ∀ ds : List D, PyData.canLayAll0 ds = true → PyData.eqvAll ds ds = true
  | [], _ => by simp [PyData.eqvAll]
  | d :: ds, h => by
    rw [PyData.canLayAll0, Bool.and_eq_true] at h
    rw [PyData.eqvAll, eqv_rf d h.1, eqvAll_rf ds h.2]
    rfl
end
theorem eqF_rf {n : Nat} {f : Fm} (h : FmOk n f) : eqF f f = true := by
  obtain ⟨_, h3, _, _⟩ := fm_wt f fun s hs => isW_nm (h.2 s hs)
  exact eqv_rf _ h3
theorem eqC_rf {n : Nat} {c : Fm × Fm} (h : ClOk n c) : eqC c c = true := by
  refine eqv_rf _ ?_
  obtain ⟨_, h3, _, _⟩ := fm_wt c.1 fun s hs => isW_nm (h.1.2 s hs)
  obtain ⟨_, g3, _, _⟩ := fm_wt c.2 fun s hs => isW_nm (h.2.2 s hs)
  unfold clD
  rw [PyData.canLay0, PyData.canLayAll0, PyData.canLayAll0, PyData.canLayAll0, h3, g3]
  rfl
def abL : List Str := ["a", "b"]
theorem ab_w : ∀ s ∈ abL, isW s = true := by decide +kernel
theorem fm_wt1 : ∀ f : Fm, (∀ s ∈ f.nms, s ∈ abL) → PyData.weight f.d + 9 ≤ 16 * 2 ^ f.dep
  | .all, _ => by decide +kernel
  | .none, _ => by decide +kernel
  | .name s, h => by
    have hs : s.cps.size = 1 := by
      have all : ∀ s ∈ abL, s.cps.size = 1 := by decide +kernel
      exact all s (h s (by simp [Fm.nms]))
    have e2 : ("name" : Str).cps.size = 4 := by decide +kernel
    simp only [Fm.d, Fm.dep, PyData.weight, PyData.weightAll, e2, hs]
    omega
  | .not a, h => by
    have h1 := fm_wt1 a fun s hs => h s (by simp [Fm.nms, hs])
    have e2 : ("not" : Str).cps.size = 3 := by decide +kernel
    simp only [Fm.d, Fm.dep, PyData.weight, PyData.weightAll, e2, Nat.pow_succ]
    have : 1 ≤ 2 ^ a.dep := Nat.one_le_two_pow
    omega
  | .both a b, h => by
    have h1 := fm_wt1 a fun s hs => h s (by simp [Fm.nms, hs])
    have g1 := fm_wt1 b fun s hs => h s (by simp [Fm.nms, hs])
    have e2 : ("both" : Str).cps.size = 4 := by decide +kernel
    have m1 : 2 ^ a.dep ≤ 2 ^ max a.dep b.dep := Nat.pow_le_pow_right (by decide) (Nat.le_max_left _ _)
    have m2 : 2 ^ b.dep ≤ 2 ^ max a.dep b.dep := Nat.pow_le_pow_right (by decide) (Nat.le_max_right _ _)
    simp only [Fm.d, Fm.dep, PyData.weight, PyData.weightAll, e2, Nat.pow_succ]
    omega
  | .either a b, h => by
    have h1 := fm_wt1 a fun s hs => h s (by simp [Fm.nms, hs])
    have g1 := fm_wt1 b fun s hs => h s (by simp [Fm.nms, hs])
    have e2 : ("either" : Str).cps.size = 6 := by decide +kernel
    have m1 : 2 ^ a.dep ≤ 2 ^ max a.dep b.dep := Nat.pow_le_pow_right (by decide) (Nat.le_max_left _ _)
    have m2 : 2 ^ b.dep ≤ 2 ^ max a.dep b.dep := Nat.pow_le_pow_right (by decide) (Nat.le_max_right _ _)
    simp only [Fm.d, Fm.dep, PyData.weight, PyData.weightAll, e2, Nat.pow_succ]
    omega
def cwt (c : Fm × Fm) : Nat := c.1.d.weight + c.2.d.weight
theorem wt_not (f : Fm) : (Fm.not f).d.weight = f.d.weight + 5 := by
  have e2 : ("not" : Str).cps.size = 3 := by decide +kernel
  simp only [Fm.d, PyData.weight, PyData.weightAll, e2]
  omega
theorem wt_both (f g : Fm) : (Fm.both f g).d.weight = f.d.weight + g.d.weight + 7 := by
  have e2 : ("both" : Str).cps.size = 4 := by decide +kernel
  simp only [Fm.d, PyData.weight, PyData.weightAll, e2]
  omega
theorem wt_either (f g : Fm) : (Fm.either f g).d.weight = f.d.weight + g.d.weight + 9 := by
  have e2 : ("either" : Str).cps.size = 6 := by decide +kernel
  simp only [Fm.d, PyData.weight, PyData.weightAll, e2]
  omega
theorem wt_none : (Fm.none).d.weight = 5 ∧ (Fm.all).d.weight = 4 := by decide +kernel
/-- names of a and b alone -/
def Ab (c : Fm × Fm) : Prop := (∀ s ∈ c.1.nms, s ∈ abL) ∧ ∀ s ∈ c.2.nms, s ∈ abL
structure GoodR (gs : List (Fm × Fm)) (rs : List Rw) (r : Rw) : Prop where
  show_ : showT gs rs rs.length r.c r.w r.ns = true
  ab : Ab r.c
  wt : cwt r.c + 16 ≤ 100 * 2 ^ rs.length
  ns : r.ns.length ≤ 2 ∧ ∀ p ∈ r.ns, 0 ≤ p ∧ p ≤ 100
  w : nmB r.w = true
  dep : rs = [] → r.c.1.dep ≤ 3 ∧ r.c.2.dep ≤ 3
/-- rows so far -/
structure Rows (gs : List (Fm × Fm)) (rs : List Rw) : Prop where
  ok : ∀ r ∈ rs, ClOk 13 r.c
  all : ∀ (k : Nat) (r : Rw), rs[k]? = some r → showT gs rs k r.c r.w r.ns = true ∧ Ab r.c ∧ cwt r.c + 16 ≤ 100 * 2 ^ k ∧ (r.ns.length ≤ 2 ∧ ∀ p ∈ r.ns, 0 ≤ p ∧ p ≤ 100) ∧ nmB r.w = true
theorem clAt_app {rs : List Rw} {r : Rw} {p : Int} (h0 : 0 ≤ p) (h1 : p < rs.length) : clAt (rs ++ [r]) p = clAt rs p := by
  unfold clAt
  rw [List.getD_eq_getElem?_getD, List.getD_eq_getElem?_getD, List.getElem?_append_left (by omega)]
theorem showT_app {gs : List (Fm × Fm)} {rs : List Rw} {r : Rw} {k : Nat} {c : Fm × Fm} {w : Str} {ns : List Int} (hk : k ≤ rs.length) : showT gs (rs ++ [r]) k c w ns = showT gs rs k c w ns := by
  unfold showT
  split
  · rfl
  · split
    · rfl
    · split
      · rename_i h
        rw [List.all_eq_true] at h
        have inr : ∀ p ∈ ns, 0 ≤ p ∧ p < (rs.length : Int) := fun p hp => by
          have := h p hp
          rw [Bool.and_eq_true, decide_eq_true_eq, decide_eq_true_eq] at this
          omega
        rcases ns with _ | ⟨p, _ | ⟨p2, _ | ⟨p3, ps⟩⟩⟩
        · rfl
        · obtain ⟨a, b⟩ := inr p (by simp)
          show rowShowT c w (clAt (rs ++ [r]) p) = rowShowT c w (clAt rs p)
          rw [clAt_app a b]
        · obtain ⟨a, b⟩ := inr p (by simp)
          obtain ⟨a2, b2⟩ := inr p2 (by simp)
          show rowsShowT c w (clAt (rs ++ [r]) p) (clAt (rs ++ [r]) p2) = rowsShowT c w (clAt rs p) (clAt rs p2)
          rw [clAt_app a b, clAt_app a2 b2]
        · rfl
      · rfl
theorem Rows.snoc {gs : List (Fm × Fm)} {rs : List Rw} {r : Rw} (h : Rows gs rs) (g : GoodR gs rs r) (ok : ClOk 13 r.c) : Rows gs (rs ++ [r]) := by
  refine ⟨fun x hx => ?_, fun k x hx => ?_⟩
  · rcases List.mem_append.mp hx with hx | hx
    · exact h.ok x hx
    · rw [List.mem_singleton.mp hx]
      exact ok
  · by_cases hk : k < rs.length
    · rw [List.getElem?_append_left hk] at hx
      obtain ⟨a1, a2⟩ := h.all k x hx
      exact ⟨by rw [showT_app (by omega)]; exact a1, a2⟩
    · have e : k = rs.length := by
        have := (List.getElem?_eq_some_iff.mp hx).1
        rw [List.length_append, List.length_singleton] at this
        omega
      subst e
      rw [List.getElem?_append_right (Nat.le_refl _), Nat.sub_self] at hx
      have e2 : r = x := Option.some.inj hx
      subst e2
      exact ⟨by rw [showT_app (Nat.le_refl _)]; exact g.show_, g.ab, g.wt, g.ns, g.w⟩
theorem Rows.nil {gs : List (Fm × Fm)} : Rows gs [] := ⟨fun r h => (nomatch h), fun k r h => by simp at h⟩
theorem Rows.at_ {gs : List (Fm × Fm)} {rs : List Rw} (h : Rows gs rs) {p : Int} (h0 : 0 ≤ p) (h1 : p < rs.length) : ClOk 13 (clAt rs p) ∧ Ab (clAt rs p) ∧ cwt (clAt rs p) + 16 ≤ 100 * 2 ^ (rs.length - 1) := by
  have e : rs[p.toNat]? = some rs[p.toNat] := List.getElem?_eq_getElem (by omega)
  have ec : clAt rs p = rs[p.toNat].c := by
    unfold clAt
    rw [List.getD_eq_getElem?_getD, e]
    rfl
  obtain ⟨_, a2, a3, _⟩ := h.all _ _ e
  rw [ec]
  refine ⟨h.ok _ (List.getElem_mem _), a2, ?_⟩
  have : 2 ^ p.toNat ≤ 2 ^ (rs.length - 1) := Nat.pow_le_pow_right (by decide) (by omega)
  omega
theorem Rows.pow {n : Nat} (h : 1 ≤ n) : 2 ^ n = 2 * 2 ^ (n - 1) := by
  have e : n = (n - 1) + 1 := by omega
  rw [e, Nat.pow_succ, Nat.add_sub_cancel]
  omega
theorem showT_row {gs : List (Fm × Fm)} {rs : List Rw} {k : Nat} {c : Fm × Fm} {w : Str} {p : Int} (hw : w ∉ aloneL) (hg : w ≠ "given") (h0 : 0 ≤ p) (h1 : p < (k : Int)) (h : rowShowT c w (clAt rs p) = true) : showT gs rs k c w [p] = true := by
  unfold showT
  rw [if_neg hw, if_neg hg, if_pos (by simp [h0, h1])]
  exact h
theorem showT_rows {gs : List (Fm × Fm)} {rs : List Rw} {k : Nat} {c : Fm × Fm} {w : Str} {p q : Int} (hw : w ∉ aloneL) (hg : w ≠ "given") (h0 : 0 ≤ p) (h1 : p < (k : Int)) (h2 : 0 ≤ q) (h3 : q < (k : Int)) (h : rowsShowT c w (clAt rs p) (clAt rs q) = true) : showT gs rs k c w [p, q] = true := by
  unfold showT
  rw [if_neg hw, if_neg hg, if_pos (by simp [h0, h1, h2, h3])]
  exact h
theorem good_al {gs : List (Fm × Fm)} {rs : List Rw} {c : Fm × Fm} {w : Str} (hw : w ∈ aloneL) (ha : aloneT c.1 c.2 w = true) (ab : Ab c) (wt : cwt c ≤ 84) (dep : c.1.dep ≤ 3 ∧ c.2.dep ≤ 3) : GoodR gs rs ⟨c, w, []⟩ where
  show_ := by
    unfold showT
    rw [if_pos hw, ha]
    rfl
  ab := ab
  wt := by
    have : 1 ≤ 2 ^ rs.length := Nat.one_le_two_pow
    show cwt c + 16 ≤ 100 * 2 ^ rs.length
    omega
  ns := ⟨Nat.zero_le _, fun p hp => nomatch hp⟩
  w := by
    have all : ∀ s ∈ aloneL, nmB s = true := by decide +kernel
    exact all w hw
  dep := fun _ => dep
def spRowL : SpD := fun ds Q => ∃ (gs : List (Fm × Fm)) (rs : List Rw), ds = [poolD, .tuple (gs.map clD), .tuple (rs.map rwD), .list (abL.map .str)] ∧ gs.length ≤ 100 ∧ (∀ c ∈ gs, CC abL 2 c) ∧ Rows gs rs ∧ rs.length ≤ 13 ∧ ∀ r, GoodR gs rs r → Q (.v (rwD r))
def spPutR : SpD := fun ds Q => ∃ (rows : List D) (k : Nat) (x : D), ds = [.tuple rows, .int (k : Int), x] ∧ rows.length ≤ 100000 ∧ Q (.v (.tuple (rows.take k ++ x :: rows.drop (k + 1))))
end DL

namespace LW
open PySem L2 DL
def Glr : Gm := ⟨fun | 11 => some spDraw | 12 => some spPick | 13 => some (spForm 2) | _ => none, fun _ => none⟩
@[simp] theorem Glr_11 : Glr.Φ 11 = some spDraw := rfl
@[simp] theorem Glr_12 : Glr.Φ 12 = some spPick := rfl
@[simp] theorem Glr_13 : Glr.Φ 13 = some (spForm 2) := rfl
theorem rs_given : ("given" : Str) ∉ aloneL ∧ nmB "given" = true := by decide +kernel
theorem rs_same : ("same" : Str) ∈ aloneL ∧ nmB "same" = true := by decide +kernel
theorem rs_turn : ("turn" : Str) ∉ aloneL ∧ ("turn" : Str) ≠ "given" ∧ nmB "turn" = true := by decide +kernel
theorem rs_never : ("never" : Str) ∉ aloneL ∧ ("never" : Str) ≠ "given" ∧ nmB "never" = true := by decide +kernel
theorem rs_chain : ("chain" : Str) ∉ aloneL ∧ ("chain" : Str) ≠ "given" ∧ nmB "chain" = true := by decide +kernel
theorem rs_meet : ("meet" : Str) ∉ aloneL ∧ ("meet" : Str) ≠ "given" ∧ nmB "meet" = true := by decide +kernel
theorem rs_join : ("join" : Str) ∉ aloneL ∧ ("join" : Str) ≠ "given" ∧ nmB "join" = true := by decide +kernel
theorem w_law_row (ds : List D) (Q : R → Prop) (h : spRowL ds Q) : ds.length = 4 ∧ wpF Glr 16 c_law_row ds Q := by
  obtain ⟨gs, rs, rfl, lg, hgs, hrs, lr, q⟩ := h
  refine ⟨rfl, ?_⟩
  simp (decide := true) (dsimp := false) [c_law_row]
  refine ⟨abL, 1, rfl, by decide, by decide, by omega, fun x xd xn => ?_⟩
  simp (decide := true) (dsimp := false) []
  refine ⟨abL, 1, rfl, by decide, by decide, by omega, fun y yd yn => ?_⟩
  simp (decide := true) (dsimp := false) []
  refine ⟨14, rfl, by omega, by omega, fun t t0 t1 => ?_⟩
  have xok : FmOk 2 x := ⟨by omega, fun s hs => ab_w s (xn s hs)⟩
  have yok : FmOk 2 y := ⟨by omega, fun s hs => ab_w s (yn s hs)⟩
  have xw := fm_wt1 x xn
  have yw := fm_wt1 y yn
  have px : 2 ^ x.dep ≤ 2 ^ 1 := Nat.pow_le_pow_right (by decide) (by omega)
  have py : 2 ^ y.dep ≤ 2 ^ 1 := Nat.pow_le_pow_right (by decide) (by omega)
  have rx := eqF_rf xok
  have ry := eqF_rf yok
  have rnx := eqF_rf xok.not.not
  simp (decide := true) (dsimp := false) [sizeLine_eq]
  have alone : callS spPick [poolD, .list [.tuple [.tuple [x.d, x.d], .tuple [.str "same"]], .tuple [.tuple [.tuple [.str "none"], x.d], .tuple [.str "low"]], .tuple [.tuple [x.d, .tuple [.str "all"]], .tuple [.str "low"]], .tuple [.tuple [x.d, .tuple [.str "not", .tuple [.str "not", x.d]]], .tuple [.str "twice"]],
      .tuple [.tuple [.tuple [.str "not", .tuple [.str "not", x.d]], x.d], .tuple [.str "twice"]], .tuple [.tuple [.tuple [.str "both", x.d, y.d], x.d], .tuple [.str "first"]], .tuple [.tuple [.tuple [.str "both", x.d, y.d], y.d], .tuple [.str "second"]],
      .tuple [.tuple [x.d, .tuple [.str "either", x.d, y.d]], .tuple [.str "one"]], .tuple [.tuple [y.d, .tuple [.str "either", x.d, y.d]], .tuple [.str "other"]]]] Q .mk := by
    refine ⟨_, rfl, by simp, by simp, fun d hd => ?_⟩
    have nn := wt_not x
    have n2 := wt_not (.not x)
    have nb := wt_both x y
    have ne := wt_either x y
    have n0 := wt_none
    simp only [List.mem_cons, List.not_mem_nil, or_false] at hd
    rcases hd with rfl | rfl | rfl | rfl | rfl | rfl | rfl | rfl | rfl
    · exact q ⟨(x, x), "same", []⟩ (good_al (by decide) rx ⟨xn, xn⟩ (by show x.d.weight + x.d.weight ≤ 84; omega) ⟨by show x.dep ≤ 3; omega, by show x.dep ≤ 3; omega⟩)
    · exact q ⟨(.none, x), "low", []⟩ (good_al (by decide) (by
        have e : eqF .none .none = true := by decide +kernel
        show (eqF .none .none || eqF x .all) = true
        rw [e]; rfl) ⟨fun s hs => (nomatch hs), xn⟩ (by show Fm.none.d.weight + x.d.weight ≤ 84; omega) ⟨by show 0 ≤ 3; omega, by show x.dep ≤ 3; omega⟩)
    · exact q ⟨(x, .all), "low", []⟩ (good_al (by decide) (by
        have e : eqF .all .all = true := by decide +kernel
        show (eqF x .none || eqF .all .all) = true
        rw [e, Bool.or_true]) ⟨xn, fun s hs => (nomatch hs)⟩ (by show x.d.weight + Fm.all.d.weight ≤ 84; omega) ⟨by show x.dep ≤ 3; omega, by show 0 ≤ 3; omega⟩)
    · exact q ⟨(x, .not (.not x)), "twice", []⟩ (good_al (by decide) (by
        show (eqF (.not (.not x)) (.not (.not x)) || _) = true
        rw [rnx]; rfl) ⟨xn, xn⟩ (by show x.d.weight + (Fm.not (.not x)).d.weight ≤ 84; omega) ⟨by show x.dep ≤ 3; omega, by show x.dep + 1 + 1 ≤ 3; omega⟩)
    · exact q ⟨(.not (.not x), x), "twice", []⟩ (good_al (by decide) (by
        show (_ || eqF (.not (.not x)) (.not (.not x))) = true
        rw [rnx, Bool.or_true]) ⟨xn, xn⟩ (by show (Fm.not (.not x)).d.weight + x.d.weight ≤ 84; omega) ⟨by show x.dep + 1 + 1 ≤ 3; omega, by show x.dep ≤ 3; omega⟩)
    · exact q ⟨(.both x y, x), "first", []⟩ (good_al (by decide) rx ⟨fun s hs => (List.mem_append.mp hs).elim (xn s) (yn s), xn⟩ (by show (Fm.both x y).d.weight + x.d.weight ≤ 84; omega) ⟨by show max x.dep y.dep + 1 ≤ 3; omega, by show x.dep ≤ 3; omega⟩)
    · exact q ⟨(.both x y, y), "second", []⟩ (good_al (by decide) ry ⟨fun s hs => (List.mem_append.mp hs).elim (xn s) (yn s), yn⟩ (by show (Fm.both x y).d.weight + y.d.weight ≤ 84; omega) ⟨by show max x.dep y.dep + 1 ≤ 3; omega, by show y.dep ≤ 3; omega⟩)
    · exact q ⟨(x, .either x y), "one", []⟩ (good_al (by decide) rx ⟨xn, fun s hs => (List.mem_append.mp hs).elim (xn s) (yn s)⟩ (by show x.d.weight + (Fm.either x y).d.weight ≤ 84; omega) ⟨by show x.dep ≤ 3; omega, by show max x.dep y.dep + 1 ≤ 3; omega⟩)
    · exact q ⟨(y, .either x y), "other", []⟩ (good_al (by decide) ry ⟨yn, fun s hs => (List.mem_append.mp hs).elim (xn s) (yn s)⟩ (by show y.d.weight + (Fm.either x y).d.weight ≤ 84; omega) ⟨by show y.dep ≤ 3; omega, by show max x.dep y.dep + 1 ≤ 3; omega⟩)
  split
  · exact alone
  · split
    · exact alone
    · rename_i h4 hr0
      have hlen : 1 ≤ rs.length := by
        cases rs with
        | nil => exact absurd rfl hr0
        | cons a b => rw [List.length_cons]; omega
      have z0 : ∀ x (ps : List D), atI (x :: ps) 0 = some x := fun x ps => atI_nat (j := 0) (rfl : (x :: ps)[0]? = some x)
      have lpow := Rows.pow hlen
      split
      · split
        · refine ⟨(gs.length : Int), rfl, by omega, by omega, fun i i0 i1 => ?_⟩
          have ag := cl_at (gs := gs) i0 i1
          simp (decide := true) (dsimp := false) [ag, sizeLine_eq]
          have gm : gAt gs i ∈ gs := by
            unfold gAt
            rw [List.getD_eq_getElem?_getD, List.getElem?_eq_getElem (by omega)]
            exact List.getElem_mem _
          obtain ⟨⟨g1, g2⟩, g3⟩ := hgs _ gm
          have n1 : ∀ s ∈ (gAt gs i).1.nms, s ∈ abL := fun s hs => g3 s (List.mem_append_left _ hs)
          have n2 : ∀ s ∈ (gAt gs i).2.nms, s ∈ abL := fun s hs => g3 s (List.mem_append_right _ hs)
          have w1 := fm_wt1 _ n1
          have w2 := fm_wt1 _ n2
          have p1 : 2 ^ (gAt gs i).1.dep ≤ 2 ^ 2 := Nat.pow_le_pow_right (by decide) g1
          have p2 : 2 ^ (gAt gs i).2.dep ≤ 2 ^ 2 := Nat.pow_le_pow_right (by decide) g2
          have one : 1 ≤ 2 ^ (rs.length - 1) := Nat.one_le_two_pow
          refine q ⟨gAt gs i, "given", [i]⟩ ⟨?_, ⟨n1, n2⟩, ?_, ⟨by simp, fun p hp => ?_⟩, rs_given.2, fun e => absurd e hr0⟩
          · have na : ("given" : Str) ∉ aloneL := by decide
            unfold showT
            rw [if_neg na, if_pos rfl]
            show (decide (0 ≤ i) && (decide (i < (gs.length : Int)) && eqC (gAt gs i) (gAt gs i))) = true
            rw [decide_eq_true i0, decide_eq_true i1, eqC_rf (n := 3) ⟨⟨by omega, fun s hs => ab_w s (n1 s hs)⟩, ⟨by omega, fun s hs => ab_w s (n2 s hs)⟩⟩]
            rfl
          · show (gAt gs i).1.d.weight + (gAt gs i).2.d.weight + 16 ≤ _
            omega
          · have e : p = i := by simpa using hp
            rw [e]
            omega
        · refine ⟨(rs.length : Int), rfl, by omega, by omega, fun i i0 i1 => ?_⟩
          obtain ⟨why, ai, _⟩ := row_at (rs := rs) i0 i1
          obtain ⟨⟨ca, cb⟩, ⟨na, nb⟩, wi⟩ := hrs.at_ i0 i1
          generalize hAB : clAt rs i = AB at *
          obtain ⟨a, b⟩ := AB
          simp (decide := true) (dsimp := false) [ai, z0, sizeLine_eq]
          obtain ⟨as, ea, _, _⟩ := fm_tuple a
          obtain ⟨bs, eb, _, _⟩ := fm_tuple b
          have wi' : a.d.weight + b.d.weight + 16 ≤ 100 * 2 ^ (rs.length - 1) := wi
          have fA : FmOk 13 a := ca
          have fB : FmOk 13 b := cb
          split
          · refine q ⟨(.not b, .not a), "turn", [i]⟩ ⟨?_, ⟨nb, na⟩, ?_, ⟨by simp, fun p hp => ?_⟩, rs_turn.2.2, fun e => absurd e hr0⟩
            · refine showT_row (c := (.not b, .not a)) (w := "turn") rs_turn.1 rs_turn.2.1 i0 i1 ?_
              rw [hAB]
              unfold rowShowT
              rw [if_pos rfl]
              exact eqC_rf (n := 14) ⟨fB.not, fA.not⟩
            · have w1 := wt_not a
              have w2 := wt_not b
              show (Fm.not b).d.weight + (Fm.not a).d.weight + 16 ≤ _
              omega
            · have e : p = i := by simpa using hp
              rw [e]
              omega
          · have nl : (rs.length : Int) < 4611686018427387904 := by omega
            simp (decide := true) (dsimp := false) [nl]
            refine foldF_inv (fun k env => ∃ (x7 x12 : Sl) (L : List D) (x13 x14 x15 : Sl), (x12 = .val (.list L) ∨ x12 = .own L) ∧ L.length ≤ 3 * k ∧ (∀ d ∈ L, ∃ r, d = rwD r ∧ GoodR gs rs r) ∧ env = [.val poolD, .val (.tuple (gs.map clD)), .val (.tuple (rs.map rwD)), .val (.list (abL.map .str)), .val x.d, .val y.d, .val (.int t), x7, .no, .val (.int i), .val a.d, .val b.d, x12, x13, x14, x15]) 0 ⟨_, _, [], _, _, _, .inl rfl, Nat.le_refl _, fun d hd => (nomatch hd), rfl⟩ (fun k d env hk hi => ?_) fun env hi => ?_
            · obtain ⟨x7, x12, L, x13, x14, x15, hx, hL, hG, rfl⟩ := hi
              intro N hN
              rw [Nat.zero_add] at hL hN
              have kl := (List.getElem?_eq_some_iff.mp hk).1
              rw [rngD_length] at kl
              have ek : d = .int (k : Int) := by
                have := rngD_get (lo := 0) kl
                rw [this] at hk
                rw [← Option.some.inj hk, Int.zero_add]
              subst ek
              obtain ⟨why2, aj, _⟩ := row_at (rs := rs) (p := (k : Int)) (by omega) (by omega)
              obtain ⟨⟨fC, fD⟩, ⟨nc, nd⟩, wj⟩ := hrs.at_ (p := (k : Int)) (by omega) (by omega)
              generalize hCD : clAt rs (k : Int) = CD at *
              obtain ⟨c, d⟩ := CD
              have wj' : c.d.weight + d.d.weight + 16 ≤ 100 * 2 ^ (rs.length - 1) := wj
              have fC' : FmOk 13 c := fC
              have fD' : FmOk 13 d := fD
              obtain ⟨cs, ec, _, _⟩ := fm_tuple c
              obtain ⟨ds, ed, _, _⟩ := fm_tuple d
              have sa : SeqAt.shaped a.d = true := shF fA (by decide)
              have sb : SeqAt.shaped b.d = true := shF fB (by decide)
              have sc : SeqAt.shaped c.d = true := shF fC' (by decide)
              have sd : SeqAt.shaped d.d = true := shF fD' (by decide)
              have k0 : (0 : Int) ≤ (k : Int) := by omega
              have k1 : (k : Int) < (rs.length : Int) := by omega
              have two : ∀ p ∈ [i, (k : Int)], 0 ≤ p ∧ p ≤ 100 := fun p hp => by
                simp only [List.mem_cons, List.not_mem_nil, or_false] at hp
                omega
              have G1 : eqF b c = true → GoodR gs rs ⟨(a, d), "chain", [i, (k : Int)]⟩ := fun e => ⟨showT_rows (c := (a, d)) (w := "chain") rs_chain.1 rs_chain.2.1 i0 i1 k0 k1 (by
                  rw [hAB, hCD]
                  unfold rowsShowT
                  rw [if_pos rfl]
                  show (eqF b c && eqC (a, d) (a, d)) = true
                  rw [e, eqC_rf (n := 13) ⟨fA, fD'⟩]
                  rfl), ⟨na, nd⟩, by show a.d.weight + d.d.weight + 16 ≤ _; omega, ⟨by simp, two⟩, rs_chain.2.2, fun e => absurd e hr0⟩
              have G2 : eqF a c = true → GoodR gs rs ⟨(a, .both b d), "meet", [i, (k : Int)]⟩ := fun e => ⟨showT_rows (c := (a, .both b d)) (w := "meet") rs_meet.1 rs_meet.2.1 i0 i1 k0 k1 (by
                  rw [hAB, hCD]
                  unfold rowsShowT
                  rw [if_neg (by decide), if_pos rfl]
                  show (eqF a c && eqC (a, .both b d) (a, .both b d)) = true
                  rw [e, eqC_rf (n := 14) ⟨fA.mono (by decide), fB.both fD'⟩]
                  rfl), ⟨na, fun s hs => (List.mem_append.mp hs).elim (nb s) (nd s)⟩, by
                  have := wt_both b d
                  show a.d.weight + (Fm.both b d).d.weight + 16 ≤ _
                  omega, ⟨by simp, two⟩, rs_meet.2.2, fun e => absurd e hr0⟩
              have G3 : eqF b d = true → GoodR gs rs ⟨(.either a c, b), "join", [i, (k : Int)]⟩ := fun e => ⟨showT_rows (c := (.either a c, b)) (w := "join") rs_join.1 rs_join.2.1 i0 i1 k0 k1 (by
                  rw [hAB, hCD]
                  unfold rowsShowT
                  rw [if_neg (by decide), if_neg (by decide), decide_eq_true rfl]
                  show (true && (eqF b d && eqC (.either a c, b) (.either a c, b))) = true
                  rw [e, eqC_rf (n := 14) ⟨fA.either fC', fB.mono (by decide)⟩]
                  rfl), ⟨fun s hs => (List.mem_append.mp hs).elim (na s) (nc s), nb⟩, by
                  have := wt_either a c
                  show (Fm.either a c).d.weight + b.d.weight + 16 ≤ _
                  omega, ⟨by simp, two⟩, rs_join.2.2, fun e => absurd e hr0⟩
              have fin : ∀ (M : List D), M.length ≤ 3 → (∀ d ∈ M, ∃ r, d = rwD r ∧ GoodR gs rs r) → ∀ x13 x14 x15 : Sl, N [.val poolD, .val (.tuple (gs.map clD)), .val (.tuple (rs.map rwD)), .val (.list (abL.map .str)), .val x.d, .val y.d, .val (.int t), x7, .no, .val (.int i), .val a.d, .val b.d, .own (L ++ M), x13, x14, x15] := fun M hM hMG x13 x14 x15 => hN _ ⟨_, _, L ++ M, _, _, _, .inr rfl, by rw [List.length_append]; omega, fun d hd => (List.mem_append.mp hd).elim (hG d) (hMG d), rfl⟩
              have m0 : ∀ d ∈ ([] : List D), ∃ r, d = rwD r ∧ GoodR gs rs r := fun d hd => nomatch hd
              have LL : L.length ≤ 39 := by omega
              have G1' : (PyData.tuple bs).eqv (.tuple cs) = true → GoodR gs rs ⟨(a, d), "chain", [i, (k : Int)]⟩ := by rw [← eb, ← ec]; exact G1
              have G2' : (PyData.tuple as).eqv (.tuple cs) = true → GoodR gs rs ⟨(a, .both b d), "meet", [i, (k : Int)]⟩ := by rw [← ea, ← ec]; exact G2
              have G3' : (PyData.tuple bs).eqv (.tuple ds) = true → GoodR gs rs ⟨(.either a c, b), "join", [i, (k : Int)]⟩ := by rw [← eb, ← ed]; exact G3
              simp only [ea, eb, ec, ed] at sa sb sc sd
              have R1 : PyData.tuple [.tuple [.tuple as, .tuple ds], .tuple [.str "chain", .int i, .int (k : Int)]] = rwD ⟨(a, d), "chain", [i, (k : Int)]⟩ := by rw [← ea, ← ed]; rfl
              have R2 : PyData.tuple [.tuple [.tuple as, .tuple [.str "both", .tuple bs, .tuple ds]], .tuple [.str "meet", .int i, .int (k : Int)]] = rwD ⟨(a, .both b d), "meet", [i, (k : Int)]⟩ := by rw [← ea, ← eb, ← ed]; rfl
              have R3 : PyData.tuple [.tuple [.tuple [.str "either", .tuple as, .tuple cs], .tuple bs], .tuple [.str "join", .int i, .int (k : Int)]] = rwD ⟨(.either a c, b), "join", [i, (k : Int)]⟩ := by rw [← ea, ← eb, ← ec]; rfl
              have f0 := fin [] (by simp) m0
              rw [List.append_nil] at f0
              simp only [ea, eb] at fin f0
              rcases hx with rfl | rfl
              · simp (decide := true) (dsimp := false) [aj, z0, ea, eb, ec, ed, sizeLine_eq]
                refine ⟨sb, sc, ?_⟩
                split
                · rename_i e1
                  first | refine ⟨by omega, sa, sc, ?_⟩ | refine ⟨sa, sc, ?_⟩
                  split
                  · rename_i e2
                    first | refine ⟨by omega, sb, sd, ?_⟩ | refine ⟨sb, sd, ?_⟩
                    split
                    · rename_i e3
                      have mm := fin [.tuple [.tuple [.tuple as, .tuple ds], .tuple [.str "chain", .int i, .int (k : Int)]], .tuple [.tuple [.tuple as, .tuple [.str "both", .tuple bs, .tuple ds]], .tuple [.str "meet", .int i, .int (k : Int)]], .tuple [.tuple [.tuple [.str "either", .tuple as, .tuple cs], .tuple bs], .tuple [.str "join", .int i, .int (k : Int)]]] (by simp) (fun z hz => by
                          simp only [List.mem_cons, List.not_mem_nil, or_false] at hz
                          rcases hz with rfl | rfl | rfl
                          · exact ⟨_, R1, G1' e1⟩
                          · exact ⟨_, R2, G2' e2⟩
                          · exact ⟨_, R3, G3' e3⟩)
                      first | exact mm _ _ _ | exact ⟨by omega, mm _ _ _⟩
                    · rename_i e3
                      have mm := fin [.tuple [.tuple [.tuple as, .tuple ds], .tuple [.str "chain", .int i, .int (k : Int)]], .tuple [.tuple [.tuple as, .tuple [.str "both", .tuple bs, .tuple ds]], .tuple [.str "meet", .int i, .int (k : Int)]]] (by simp) (fun z hz => by
                          simp only [List.mem_cons, List.not_mem_nil, or_false] at hz
                          rcases hz with rfl | rfl
                          · exact ⟨_, R1, G1' e1⟩
                          · exact ⟨_, R2, G2' e2⟩)
                      first | exact mm _ _ _ | exact ⟨by omega, mm _ _ _⟩
                  · rename_i e2
                    first | refine ⟨by omega, sb, sd, ?_⟩ | refine ⟨sb, sd, ?_⟩
                    split
                    · rename_i e3
                      have mm := fin [.tuple [.tuple [.tuple as, .tuple ds], .tuple [.str "chain", .int i, .int (k : Int)]], .tuple [.tuple [.tuple [.str "either", .tuple as, .tuple cs], .tuple bs], .tuple [.str "join", .int i, .int (k : Int)]]] (by simp) (fun z hz => by
                          simp only [List.mem_cons, List.not_mem_nil, or_false] at hz
                          rcases hz with rfl | rfl
                          · exact ⟨_, R1, G1' e1⟩
                          · exact ⟨_, R3, G3' e3⟩)
                      first | exact mm _ _ _ | exact ⟨by omega, mm _ _ _⟩
                    · rename_i e3
                      have mm := fin [.tuple [.tuple [.tuple as, .tuple ds], .tuple [.str "chain", .int i, .int (k : Int)]]] (by simp) (fun z hz => by
                          rw [List.mem_singleton.mp hz]
                          exact ⟨_, R1, G1' e1⟩)
                      first | exact mm _ _ _ | exact ⟨by omega, mm _ _ _⟩
                · rename_i e1
                  first | refine ⟨by omega, sa, sc, ?_⟩ | refine ⟨sa, sc, ?_⟩
                  split
                  · rename_i e2
                    first | refine ⟨by omega, sb, sd, ?_⟩ | refine ⟨sb, sd, ?_⟩
                    split
                    · rename_i e3
                      have mm := fin [.tuple [.tuple [.tuple as, .tuple [.str "both", .tuple bs, .tuple ds]], .tuple [.str "meet", .int i, .int (k : Int)]], .tuple [.tuple [.tuple [.str "either", .tuple as, .tuple cs], .tuple bs], .tuple [.str "join", .int i, .int (k : Int)]]] (by simp) (fun z hz => by
                          simp only [List.mem_cons, List.not_mem_nil, or_false] at hz
                          rcases hz with rfl | rfl
                          · exact ⟨_, R2, G2' e2⟩
                          · exact ⟨_, R3, G3' e3⟩)
                      first | exact mm _ _ _ | exact ⟨by omega, mm _ _ _⟩
                    · rename_i e3
                      have mm := fin [.tuple [.tuple [.tuple as, .tuple [.str "both", .tuple bs, .tuple ds]], .tuple [.str "meet", .int i, .int (k : Int)]]] (by simp) (fun z hz => by
                          rw [List.mem_singleton.mp hz]
                          exact ⟨_, R2, G2' e2⟩)
                      first | exact mm _ _ _ | exact ⟨by omega, mm _ _ _⟩
                  · rename_i e2
                    first | refine ⟨by omega, sb, sd, ?_⟩ | refine ⟨sb, sd, ?_⟩
                    split
                    · rename_i e3
                      have mm := fin [.tuple [.tuple [.tuple [.str "either", .tuple as, .tuple cs], .tuple bs], .tuple [.str "join", .int i, .int (k : Int)]]] (by simp) (fun z hz => by
                          rw [List.mem_singleton.mp hz]
                          exact ⟨_, R3, G3' e3⟩)
                      first | exact mm _ _ _ | exact ⟨by omega, mm _ _ _⟩
                    · rename_i e3
                      first | exact f0 _ _ _ | exact ⟨by omega, f0 _ _ _⟩
              · simp (decide := true) (dsimp := false) [aj, z0, ea, eb, ec, ed, sizeLine_eq]
                refine ⟨sb, sc, ?_⟩
                split
                · rename_i e1
                  first | refine ⟨by omega, sa, sc, ?_⟩ | refine ⟨sa, sc, ?_⟩
                  split
                  · rename_i e2
                    first | refine ⟨by omega, sb, sd, ?_⟩ | refine ⟨sb, sd, ?_⟩
                    split
                    · rename_i e3
                      have mm := fin [.tuple [.tuple [.tuple as, .tuple ds], .tuple [.str "chain", .int i, .int (k : Int)]], .tuple [.tuple [.tuple as, .tuple [.str "both", .tuple bs, .tuple ds]], .tuple [.str "meet", .int i, .int (k : Int)]], .tuple [.tuple [.tuple [.str "either", .tuple as, .tuple cs], .tuple bs], .tuple [.str "join", .int i, .int (k : Int)]]] (by simp) (fun z hz => by
                          simp only [List.mem_cons, List.not_mem_nil, or_false] at hz
                          rcases hz with rfl | rfl | rfl
                          · exact ⟨_, R1, G1' e1⟩
                          · exact ⟨_, R2, G2' e2⟩
                          · exact ⟨_, R3, G3' e3⟩)
                      first | exact mm _ _ _ | exact ⟨by omega, mm _ _ _⟩
                    · rename_i e3
                      have mm := fin [.tuple [.tuple [.tuple as, .tuple ds], .tuple [.str "chain", .int i, .int (k : Int)]], .tuple [.tuple [.tuple as, .tuple [.str "both", .tuple bs, .tuple ds]], .tuple [.str "meet", .int i, .int (k : Int)]]] (by simp) (fun z hz => by
                          simp only [List.mem_cons, List.not_mem_nil, or_false] at hz
                          rcases hz with rfl | rfl
                          · exact ⟨_, R1, G1' e1⟩
                          · exact ⟨_, R2, G2' e2⟩)
                      first | exact mm _ _ _ | exact ⟨by omega, mm _ _ _⟩
                  · rename_i e2
                    first | refine ⟨by omega, sb, sd, ?_⟩ | refine ⟨sb, sd, ?_⟩
                    split
                    · rename_i e3
                      have mm := fin [.tuple [.tuple [.tuple as, .tuple ds], .tuple [.str "chain", .int i, .int (k : Int)]], .tuple [.tuple [.tuple [.str "either", .tuple as, .tuple cs], .tuple bs], .tuple [.str "join", .int i, .int (k : Int)]]] (by simp) (fun z hz => by
                          simp only [List.mem_cons, List.not_mem_nil, or_false] at hz
                          rcases hz with rfl | rfl
                          · exact ⟨_, R1, G1' e1⟩
                          · exact ⟨_, R3, G3' e3⟩)
                      first | exact mm _ _ _ | exact ⟨by omega, mm _ _ _⟩
                    · rename_i e3
                      have mm := fin [.tuple [.tuple [.tuple as, .tuple ds], .tuple [.str "chain", .int i, .int (k : Int)]]] (by simp) (fun z hz => by
                          rw [List.mem_singleton.mp hz]
                          exact ⟨_, R1, G1' e1⟩)
                      first | exact mm _ _ _ | exact ⟨by omega, mm _ _ _⟩
                · rename_i e1
                  first | refine ⟨by omega, sa, sc, ?_⟩ | refine ⟨sa, sc, ?_⟩
                  split
                  · rename_i e2
                    first | refine ⟨by omega, sb, sd, ?_⟩ | refine ⟨sb, sd, ?_⟩
                    split
                    · rename_i e3
                      have mm := fin [.tuple [.tuple [.tuple as, .tuple [.str "both", .tuple bs, .tuple ds]], .tuple [.str "meet", .int i, .int (k : Int)]], .tuple [.tuple [.tuple [.str "either", .tuple as, .tuple cs], .tuple bs], .tuple [.str "join", .int i, .int (k : Int)]]] (by simp) (fun z hz => by
                          simp only [List.mem_cons, List.not_mem_nil, or_false] at hz
                          rcases hz with rfl | rfl
                          · exact ⟨_, R2, G2' e2⟩
                          · exact ⟨_, R3, G3' e3⟩)
                      first | exact mm _ _ _ | exact ⟨by omega, mm _ _ _⟩
                    · rename_i e3
                      have mm := fin [.tuple [.tuple [.tuple as, .tuple [.str "both", .tuple bs, .tuple ds]], .tuple [.str "meet", .int i, .int (k : Int)]]] (by simp) (fun z hz => by
                          rw [List.mem_singleton.mp hz]
                          exact ⟨_, R2, G2' e2⟩)
                      first | exact mm _ _ _ | exact ⟨by omega, mm _ _ _⟩
                  · rename_i e2
                    first | refine ⟨by omega, sb, sd, ?_⟩ | refine ⟨sb, sd, ?_⟩
                    split
                    · rename_i e3
                      have mm := fin [.tuple [.tuple [.tuple [.str "either", .tuple as, .tuple cs], .tuple bs], .tuple [.str "join", .int i, .int (k : Int)]]] (by simp) (fun z hz => by
                          rw [List.mem_singleton.mp hz]
                          exact ⟨_, R3, G3' e3⟩)
                      first | exact mm _ _ _ | exact ⟨by omega, mm _ _ _⟩
                    · rename_i e3
                      first | exact f0 _ _ _ | exact ⟨by omega, f0 _ _ _⟩
            · obtain ⟨x7, x12, L, x13, x14, x15, hx, hL, hG, rfl⟩ := hi
              rw [rngD_length, Nat.zero_add] at hL
              have sb : SeqAt.shaped b.d = true := shF fB (by decide)
              have sna : SeqAt.shaped (Fm.not a).d = true := shF fA.not (by decide)
              have dna : (Fm.not a).d = .tuple [.str "not", a.d] := rfl
              rw [dna] at sna
              have GN : (PyData.tuple bs).eqv (.tuple [.str "not", .tuple as]) = true → Q (.v (.tuple [.tuple [.tuple as, x.d], .tuple [.str "never", .int i]])) := fun e => by
                rw [← eb, ← ea] at e
                rw [← ea]
                refine q ⟨(a, x), "never", [i]⟩ ⟨showT_row (c := (a, x)) (w := "never") rs_never.1 rs_never.2.1 i0 i1 ?_, ⟨na, xn⟩, ?_, ⟨by simp, fun p hp => ?_⟩, rs_never.2.2, fun e => absurd e hr0⟩
                · rw [hAB]
                  unfold rowShowT
                  rw [if_neg (by decide), decide_eq_true rfl]
                  show (true && (eqF b (.not a) && eqF a a)) = true
                  have e' : eqF b (.not a) = true := e
                  rw [e', eqF_rf fA]
                  rfl
                · show a.d.weight + x.d.weight + 16 ≤ _
                  omega
                · have e : p = i := by simpa using hp
                  rw [e]
                  omega
              have GS : Q (.v (.tuple [.tuple [.tuple as, .tuple as], .tuple [.str "same"]])) := by
                rw [← ea]
                refine q ⟨(a, a), "same", []⟩ ⟨?_, ⟨na, na⟩, ?_, ⟨by simp, fun p hp => (nomatch hp)⟩, rs_same.2, fun e => absurd e hr0⟩
                · unfold showT
                  rw [if_pos rs_same.1]
                  show (true && eqF a a) = true
                  rw [eqF_rf fA]
                  rfl
                · show a.d.weight + a.d.weight + 16 ≤ _
                  omega
              simp only [ea, eb] at sb sna
              rcases hx with rfl | rfl
              all_goals
                simp (decide := true) (dsimp := false) [ea, eb, sizeLine_eq]
                refine ⟨sb, sna, ?_⟩
                split
                · rename_i e
                  exact GN e
                · cases L with
                  | nil =>
                    simp (decide := true) (dsimp := false) [sizeLine_eq]
                    exact GS
                  | cons d0 L =>
                    have lp : (0 : Int) < (L.length : Int) + 1 := by omega
                    rw [List.length_cons] at hL
                    simp (decide := true) (dsimp := false) [sizeLine_eq, lp]
                    refine ⟨_, rfl, by rw [List.length_cons]; omega, by rw [List.length_cons]; omega, fun d hd => ?_⟩
                    obtain ⟨r, rfl, g⟩ := hG d hd
                    exact q r g
      · refine ⟨(rs.length : Int), rfl, by omega, by omega, fun i i0 i1 => ?_⟩
        obtain ⟨why, ai, _⟩ := row_at (rs := rs) i0 i1
        obtain ⟨⟨ca, cb⟩, ⟨na, nb⟩, wi⟩ := hrs.at_ i0 i1
        generalize hAB : clAt rs i = AB at *
        obtain ⟨a, b⟩ := AB
        simp (decide := true) (dsimp := false) [ai, z0, sizeLine_eq]
        obtain ⟨as, ea, _, _⟩ := fm_tuple a
        obtain ⟨bs, eb, _, _⟩ := fm_tuple b
        have wi' : a.d.weight + b.d.weight + 16 ≤ 100 * 2 ^ (rs.length - 1) := wi
        have fA : FmOk 13 a := ca
        have fB : FmOk 13 b := cb
        split
        · refine q ⟨(.not b, .not a), "turn", [i]⟩ ⟨?_, ⟨nb, na⟩, ?_, ⟨by simp, fun p hp => ?_⟩, rs_turn.2.2, fun e => absurd e hr0⟩
          · refine showT_row (c := (.not b, .not a)) (w := "turn") rs_turn.1 rs_turn.2.1 i0 i1 ?_
            rw [hAB]
            unfold rowShowT
            rw [if_pos rfl]
            exact eqC_rf (n := 14) ⟨fB.not, fA.not⟩
          · have w1 := wt_not a
            have w2 := wt_not b
            show (Fm.not b).d.weight + (Fm.not a).d.weight + 16 ≤ _
            omega
          · have e : p = i := by simpa using hp
            rw [e]
            omega
        · have nl : (rs.length : Int) < 4611686018427387904 := by omega
          simp (decide := true) (dsimp := false) [nl]
          refine foldF_inv (fun k env => ∃ (x7 x12 : Sl) (L : List D) (x13 x14 x15 : Sl), (x12 = .val (.list L) ∨ x12 = .own L) ∧ L.length ≤ 3 * k ∧ (∀ d ∈ L, ∃ r, d = rwD r ∧ GoodR gs rs r) ∧ env = [.val poolD, .val (.tuple (gs.map clD)), .val (.tuple (rs.map rwD)), .val (.list (abL.map .str)), .val x.d, .val y.d, .val (.int t), x7, .no, .val (.int i), .val a.d, .val b.d, x12, x13, x14, x15]) 0 ⟨_, _, [], _, _, _, .inl rfl, Nat.le_refl _, fun d hd => (nomatch hd), rfl⟩ (fun k d env hk hi => ?_) fun env hi => ?_
          · obtain ⟨x7, x12, L, x13, x14, x15, hx, hL, hG, rfl⟩ := hi
            intro N hN
            rw [Nat.zero_add] at hL hN
            have kl := (List.getElem?_eq_some_iff.mp hk).1
            rw [rngD_length] at kl
            have ek : d = .int (k : Int) := by
              have := rngD_get (lo := 0) kl
              rw [this] at hk
              rw [← Option.some.inj hk, Int.zero_add]
            subst ek
            obtain ⟨why2, aj, _⟩ := row_at (rs := rs) (p := (k : Int)) (by omega) (by omega)
            obtain ⟨⟨fC, fD⟩, ⟨nc, nd⟩, wj⟩ := hrs.at_ (p := (k : Int)) (by omega) (by omega)
            generalize hCD : clAt rs (k : Int) = CD at *
            obtain ⟨c, d⟩ := CD
            have wj' : c.d.weight + d.d.weight + 16 ≤ 100 * 2 ^ (rs.length - 1) := wj
            have fC' : FmOk 13 c := fC
            have fD' : FmOk 13 d := fD
            obtain ⟨cs, ec, _, _⟩ := fm_tuple c
            obtain ⟨ds, ed, _, _⟩ := fm_tuple d
            have sa : SeqAt.shaped a.d = true := shF fA (by decide)
            have sb : SeqAt.shaped b.d = true := shF fB (by decide)
            have sc : SeqAt.shaped c.d = true := shF fC' (by decide)
            have sd : SeqAt.shaped d.d = true := shF fD' (by decide)
            have k0 : (0 : Int) ≤ (k : Int) := by omega
            have k1 : (k : Int) < (rs.length : Int) := by omega
            have two : ∀ p ∈ [i, (k : Int)], 0 ≤ p ∧ p ≤ 100 := fun p hp => by
              simp only [List.mem_cons, List.not_mem_nil, or_false] at hp
              omega
            have G1 : eqF b c = true → GoodR gs rs ⟨(a, d), "chain", [i, (k : Int)]⟩ := fun e => ⟨showT_rows (c := (a, d)) (w := "chain") rs_chain.1 rs_chain.2.1 i0 i1 k0 k1 (by
                rw [hAB, hCD]
                unfold rowsShowT
                rw [if_pos rfl]
                show (eqF b c && eqC (a, d) (a, d)) = true
                rw [e, eqC_rf (n := 13) ⟨fA, fD'⟩]
                rfl), ⟨na, nd⟩, by show a.d.weight + d.d.weight + 16 ≤ _; omega, ⟨by simp, two⟩, rs_chain.2.2, fun e => absurd e hr0⟩
            have G2 : eqF a c = true → GoodR gs rs ⟨(a, .both b d), "meet", [i, (k : Int)]⟩ := fun e => ⟨showT_rows (c := (a, .both b d)) (w := "meet") rs_meet.1 rs_meet.2.1 i0 i1 k0 k1 (by
                rw [hAB, hCD]
                unfold rowsShowT
                rw [if_neg (by decide), if_pos rfl]
                show (eqF a c && eqC (a, .both b d) (a, .both b d)) = true
                rw [e, eqC_rf (n := 14) ⟨fA.mono (by decide), fB.both fD'⟩]
                rfl), ⟨na, fun s hs => (List.mem_append.mp hs).elim (nb s) (nd s)⟩, by
                have := wt_both b d
                show a.d.weight + (Fm.both b d).d.weight + 16 ≤ _
                omega, ⟨by simp, two⟩, rs_meet.2.2, fun e => absurd e hr0⟩
            have G3 : eqF b d = true → GoodR gs rs ⟨(.either a c, b), "join", [i, (k : Int)]⟩ := fun e => ⟨showT_rows (c := (.either a c, b)) (w := "join") rs_join.1 rs_join.2.1 i0 i1 k0 k1 (by
                rw [hAB, hCD]
                unfold rowsShowT
                rw [if_neg (by decide), if_neg (by decide), decide_eq_true rfl]
                show (true && (eqF b d && eqC (.either a c, b) (.either a c, b))) = true
                rw [e, eqC_rf (n := 14) ⟨fA.either fC', fB.mono (by decide)⟩]
                rfl), ⟨fun s hs => (List.mem_append.mp hs).elim (na s) (nc s), nb⟩, by
                have := wt_either a c
                show (Fm.either a c).d.weight + b.d.weight + 16 ≤ _
                omega, ⟨by simp, two⟩, rs_join.2.2, fun e => absurd e hr0⟩
            have fin : ∀ (M : List D), M.length ≤ 3 → (∀ d ∈ M, ∃ r, d = rwD r ∧ GoodR gs rs r) → ∀ x13 x14 x15 : Sl, N [.val poolD, .val (.tuple (gs.map clD)), .val (.tuple (rs.map rwD)), .val (.list (abL.map .str)), .val x.d, .val y.d, .val (.int t), x7, .no, .val (.int i), .val a.d, .val b.d, .own (L ++ M), x13, x14, x15] := fun M hM hMG x13 x14 x15 => hN _ ⟨_, _, L ++ M, _, _, _, .inr rfl, by rw [List.length_append]; omega, fun d hd => (List.mem_append.mp hd).elim (hG d) (hMG d), rfl⟩
            have m0 : ∀ d ∈ ([] : List D), ∃ r, d = rwD r ∧ GoodR gs rs r := fun d hd => nomatch hd
            have LL : L.length ≤ 39 := by omega
            have G1' : (PyData.tuple bs).eqv (.tuple cs) = true → GoodR gs rs ⟨(a, d), "chain", [i, (k : Int)]⟩ := by rw [← eb, ← ec]; exact G1
            have G2' : (PyData.tuple as).eqv (.tuple cs) = true → GoodR gs rs ⟨(a, .both b d), "meet", [i, (k : Int)]⟩ := by rw [← ea, ← ec]; exact G2
            have G3' : (PyData.tuple bs).eqv (.tuple ds) = true → GoodR gs rs ⟨(.either a c, b), "join", [i, (k : Int)]⟩ := by rw [← eb, ← ed]; exact G3
            simp only [ea, eb, ec, ed] at sa sb sc sd
            have R1 : PyData.tuple [.tuple [.tuple as, .tuple ds], .tuple [.str "chain", .int i, .int (k : Int)]] = rwD ⟨(a, d), "chain", [i, (k : Int)]⟩ := by rw [← ea, ← ed]; rfl
            have R2 : PyData.tuple [.tuple [.tuple as, .tuple [.str "both", .tuple bs, .tuple ds]], .tuple [.str "meet", .int i, .int (k : Int)]] = rwD ⟨(a, .both b d), "meet", [i, (k : Int)]⟩ := by rw [← ea, ← eb, ← ed]; rfl
            have R3 : PyData.tuple [.tuple [.tuple [.str "either", .tuple as, .tuple cs], .tuple bs], .tuple [.str "join", .int i, .int (k : Int)]] = rwD ⟨(.either a c, b), "join", [i, (k : Int)]⟩ := by rw [← ea, ← eb, ← ec]; rfl
            have f0 := fin [] (by simp) m0
            rw [List.append_nil] at f0
            simp only [ea, eb] at fin f0
            rcases hx with rfl | rfl
            · simp (decide := true) (dsimp := false) [aj, z0, ea, eb, ec, ed, sizeLine_eq]
              refine ⟨sb, sc, ?_⟩
              split
              · rename_i e1
                first | refine ⟨by omega, sa, sc, ?_⟩ | refine ⟨sa, sc, ?_⟩
                split
                · rename_i e2
                  first | refine ⟨by omega, sb, sd, ?_⟩ | refine ⟨sb, sd, ?_⟩
                  split
                  · rename_i e3
                    have mm := fin [.tuple [.tuple [.tuple as, .tuple ds], .tuple [.str "chain", .int i, .int (k : Int)]], .tuple [.tuple [.tuple as, .tuple [.str "both", .tuple bs, .tuple ds]], .tuple [.str "meet", .int i, .int (k : Int)]], .tuple [.tuple [.tuple [.str "either", .tuple as, .tuple cs], .tuple bs], .tuple [.str "join", .int i, .int (k : Int)]]] (by simp) (fun z hz => by
                        simp only [List.mem_cons, List.not_mem_nil, or_false] at hz
                        rcases hz with rfl | rfl | rfl
                        · exact ⟨_, R1, G1' e1⟩
                        · exact ⟨_, R2, G2' e2⟩
                        · exact ⟨_, R3, G3' e3⟩)
                    first | exact mm _ _ _ | exact ⟨by omega, mm _ _ _⟩
                  · rename_i e3
                    have mm := fin [.tuple [.tuple [.tuple as, .tuple ds], .tuple [.str "chain", .int i, .int (k : Int)]], .tuple [.tuple [.tuple as, .tuple [.str "both", .tuple bs, .tuple ds]], .tuple [.str "meet", .int i, .int (k : Int)]]] (by simp) (fun z hz => by
                        simp only [List.mem_cons, List.not_mem_nil, or_false] at hz
                        rcases hz with rfl | rfl
                        · exact ⟨_, R1, G1' e1⟩
                        · exact ⟨_, R2, G2' e2⟩)
                    first | exact mm _ _ _ | exact ⟨by omega, mm _ _ _⟩
                · rename_i e2
                  first | refine ⟨by omega, sb, sd, ?_⟩ | refine ⟨sb, sd, ?_⟩
                  split
                  · rename_i e3
                    have mm := fin [.tuple [.tuple [.tuple as, .tuple ds], .tuple [.str "chain", .int i, .int (k : Int)]], .tuple [.tuple [.tuple [.str "either", .tuple as, .tuple cs], .tuple bs], .tuple [.str "join", .int i, .int (k : Int)]]] (by simp) (fun z hz => by
                        simp only [List.mem_cons, List.not_mem_nil, or_false] at hz
                        rcases hz with rfl | rfl
                        · exact ⟨_, R1, G1' e1⟩
                        · exact ⟨_, R3, G3' e3⟩)
                    first | exact mm _ _ _ | exact ⟨by omega, mm _ _ _⟩
                  · rename_i e3
                    have mm := fin [.tuple [.tuple [.tuple as, .tuple ds], .tuple [.str "chain", .int i, .int (k : Int)]]] (by simp) (fun z hz => by
                        rw [List.mem_singleton.mp hz]
                        exact ⟨_, R1, G1' e1⟩)
                    first | exact mm _ _ _ | exact ⟨by omega, mm _ _ _⟩
              · rename_i e1
                first | refine ⟨by omega, sa, sc, ?_⟩ | refine ⟨sa, sc, ?_⟩
                split
                · rename_i e2
                  first | refine ⟨by omega, sb, sd, ?_⟩ | refine ⟨sb, sd, ?_⟩
                  split
                  · rename_i e3
                    have mm := fin [.tuple [.tuple [.tuple as, .tuple [.str "both", .tuple bs, .tuple ds]], .tuple [.str "meet", .int i, .int (k : Int)]], .tuple [.tuple [.tuple [.str "either", .tuple as, .tuple cs], .tuple bs], .tuple [.str "join", .int i, .int (k : Int)]]] (by simp) (fun z hz => by
                        simp only [List.mem_cons, List.not_mem_nil, or_false] at hz
                        rcases hz with rfl | rfl
                        · exact ⟨_, R2, G2' e2⟩
                        · exact ⟨_, R3, G3' e3⟩)
                    first | exact mm _ _ _ | exact ⟨by omega, mm _ _ _⟩
                  · rename_i e3
                    have mm := fin [.tuple [.tuple [.tuple as, .tuple [.str "both", .tuple bs, .tuple ds]], .tuple [.str "meet", .int i, .int (k : Int)]]] (by simp) (fun z hz => by
                        rw [List.mem_singleton.mp hz]
                        exact ⟨_, R2, G2' e2⟩)
                    first | exact mm _ _ _ | exact ⟨by omega, mm _ _ _⟩
                · rename_i e2
                  first | refine ⟨by omega, sb, sd, ?_⟩ | refine ⟨sb, sd, ?_⟩
                  split
                  · rename_i e3
                    have mm := fin [.tuple [.tuple [.tuple [.str "either", .tuple as, .tuple cs], .tuple bs], .tuple [.str "join", .int i, .int (k : Int)]]] (by simp) (fun z hz => by
                        rw [List.mem_singleton.mp hz]
                        exact ⟨_, R3, G3' e3⟩)
                    first | exact mm _ _ _ | exact ⟨by omega, mm _ _ _⟩
                  · rename_i e3
                    first | exact f0 _ _ _ | exact ⟨by omega, f0 _ _ _⟩
            · simp (decide := true) (dsimp := false) [aj, z0, ea, eb, ec, ed, sizeLine_eq]
              refine ⟨sb, sc, ?_⟩
              split
              · rename_i e1
                first | refine ⟨by omega, sa, sc, ?_⟩ | refine ⟨sa, sc, ?_⟩
                split
                · rename_i e2
                  first | refine ⟨by omega, sb, sd, ?_⟩ | refine ⟨sb, sd, ?_⟩
                  split
                  · rename_i e3
                    have mm := fin [.tuple [.tuple [.tuple as, .tuple ds], .tuple [.str "chain", .int i, .int (k : Int)]], .tuple [.tuple [.tuple as, .tuple [.str "both", .tuple bs, .tuple ds]], .tuple [.str "meet", .int i, .int (k : Int)]], .tuple [.tuple [.tuple [.str "either", .tuple as, .tuple cs], .tuple bs], .tuple [.str "join", .int i, .int (k : Int)]]] (by simp) (fun z hz => by
                        simp only [List.mem_cons, List.not_mem_nil, or_false] at hz
                        rcases hz with rfl | rfl | rfl
                        · exact ⟨_, R1, G1' e1⟩
                        · exact ⟨_, R2, G2' e2⟩
                        · exact ⟨_, R3, G3' e3⟩)
                    first | exact mm _ _ _ | exact ⟨by omega, mm _ _ _⟩
                  · rename_i e3
                    have mm := fin [.tuple [.tuple [.tuple as, .tuple ds], .tuple [.str "chain", .int i, .int (k : Int)]], .tuple [.tuple [.tuple as, .tuple [.str "both", .tuple bs, .tuple ds]], .tuple [.str "meet", .int i, .int (k : Int)]]] (by simp) (fun z hz => by
                        simp only [List.mem_cons, List.not_mem_nil, or_false] at hz
                        rcases hz with rfl | rfl
                        · exact ⟨_, R1, G1' e1⟩
                        · exact ⟨_, R2, G2' e2⟩)
                    first | exact mm _ _ _ | exact ⟨by omega, mm _ _ _⟩
                · rename_i e2
                  first | refine ⟨by omega, sb, sd, ?_⟩ | refine ⟨sb, sd, ?_⟩
                  split
                  · rename_i e3
                    have mm := fin [.tuple [.tuple [.tuple as, .tuple ds], .tuple [.str "chain", .int i, .int (k : Int)]], .tuple [.tuple [.tuple [.str "either", .tuple as, .tuple cs], .tuple bs], .tuple [.str "join", .int i, .int (k : Int)]]] (by simp) (fun z hz => by
                        simp only [List.mem_cons, List.not_mem_nil, or_false] at hz
                        rcases hz with rfl | rfl
                        · exact ⟨_, R1, G1' e1⟩
                        · exact ⟨_, R3, G3' e3⟩)
                    first | exact mm _ _ _ | exact ⟨by omega, mm _ _ _⟩
                  · rename_i e3
                    have mm := fin [.tuple [.tuple [.tuple as, .tuple ds], .tuple [.str "chain", .int i, .int (k : Int)]]] (by simp) (fun z hz => by
                        rw [List.mem_singleton.mp hz]
                        exact ⟨_, R1, G1' e1⟩)
                    first | exact mm _ _ _ | exact ⟨by omega, mm _ _ _⟩
              · rename_i e1
                first | refine ⟨by omega, sa, sc, ?_⟩ | refine ⟨sa, sc, ?_⟩
                split
                · rename_i e2
                  first | refine ⟨by omega, sb, sd, ?_⟩ | refine ⟨sb, sd, ?_⟩
                  split
                  · rename_i e3
                    have mm := fin [.tuple [.tuple [.tuple as, .tuple [.str "both", .tuple bs, .tuple ds]], .tuple [.str "meet", .int i, .int (k : Int)]], .tuple [.tuple [.tuple [.str "either", .tuple as, .tuple cs], .tuple bs], .tuple [.str "join", .int i, .int (k : Int)]]] (by simp) (fun z hz => by
                        simp only [List.mem_cons, List.not_mem_nil, or_false] at hz
                        rcases hz with rfl | rfl
                        · exact ⟨_, R2, G2' e2⟩
                        · exact ⟨_, R3, G3' e3⟩)
                    first | exact mm _ _ _ | exact ⟨by omega, mm _ _ _⟩
                  · rename_i e3
                    have mm := fin [.tuple [.tuple [.tuple as, .tuple [.str "both", .tuple bs, .tuple ds]], .tuple [.str "meet", .int i, .int (k : Int)]]] (by simp) (fun z hz => by
                        rw [List.mem_singleton.mp hz]
                        exact ⟨_, R2, G2' e2⟩)
                    first | exact mm _ _ _ | exact ⟨by omega, mm _ _ _⟩
                · rename_i e2
                  first | refine ⟨by omega, sb, sd, ?_⟩ | refine ⟨sb, sd, ?_⟩
                  split
                  · rename_i e3
                    have mm := fin [.tuple [.tuple [.tuple [.str "either", .tuple as, .tuple cs], .tuple bs], .tuple [.str "join", .int i, .int (k : Int)]]] (by simp) (fun z hz => by
                        rw [List.mem_singleton.mp hz]
                        exact ⟨_, R3, G3' e3⟩)
                    first | exact mm _ _ _ | exact ⟨by omega, mm _ _ _⟩
                  · rename_i e3
                    first | exact f0 _ _ _ | exact ⟨by omega, f0 _ _ _⟩
          · obtain ⟨x7, x12, L, x13, x14, x15, hx, hL, hG, rfl⟩ := hi
            rw [rngD_length, Nat.zero_add] at hL
            have sb : SeqAt.shaped b.d = true := shF fB (by decide)
            have sna : SeqAt.shaped (Fm.not a).d = true := shF fA.not (by decide)
            have dna : (Fm.not a).d = .tuple [.str "not", a.d] := rfl
            rw [dna] at sna
            have GN : (PyData.tuple bs).eqv (.tuple [.str "not", .tuple as]) = true → Q (.v (.tuple [.tuple [.tuple as, x.d], .tuple [.str "never", .int i]])) := fun e => by
              rw [← eb, ← ea] at e
              rw [← ea]
              refine q ⟨(a, x), "never", [i]⟩ ⟨showT_row (c := (a, x)) (w := "never") rs_never.1 rs_never.2.1 i0 i1 ?_, ⟨na, xn⟩, ?_, ⟨by simp, fun p hp => ?_⟩, rs_never.2.2, fun e => absurd e hr0⟩
              · rw [hAB]
                unfold rowShowT
                rw [if_neg (by decide), decide_eq_true rfl]
                show (true && (eqF b (.not a) && eqF a a)) = true
                have e' : eqF b (.not a) = true := e
                rw [e', eqF_rf fA]
                rfl
              · show a.d.weight + x.d.weight + 16 ≤ _
                omega
              · have e : p = i := by simpa using hp
                rw [e]
                omega
            have GS : Q (.v (.tuple [.tuple [.tuple as, .tuple as], .tuple [.str "same"]])) := by
              rw [← ea]
              refine q ⟨(a, a), "same", []⟩ ⟨?_, ⟨na, na⟩, ?_, ⟨by simp, fun p hp => (nomatch hp)⟩, rs_same.2, fun e => absurd e hr0⟩
              · unfold showT
                rw [if_pos rs_same.1]
                show (true && eqF a a) = true
                rw [eqF_rf fA]
                rfl
              · show a.d.weight + a.d.weight + 16 ≤ _
                omega
            simp only [ea, eb] at sb sna
            rcases hx with rfl | rfl
            all_goals
              simp (decide := true) (dsimp := false) [ea, eb, sizeLine_eq]
              refine ⟨sb, sna, ?_⟩
              split
              · rename_i e
                exact GN e
              · cases L with
                | nil =>
                  simp (decide := true) (dsimp := false) [sizeLine_eq]
                  exact GS
                | cons d0 L =>
                  have lp : (0 : Int) < (L.length : Int) + 1 := by omega
                  rw [List.length_cons] at hL
                  simp (decide := true) (dsimp := false) [sizeLine_eq, lp]
                  refine ⟨_, rfl, by rw [List.length_cons]; omega, by rw [List.length_cons]; omega, fun d hd => ?_⟩
                  obtain ⟨r, rfl, g⟩ := hG d hd
                  exact q r g
end LW

/-! DV3: derivations are papers. -/
namespace DL
open PySem L2
theorem ab_nm : ∀ s ∈ abL, nmB s = true := by decide +kernel
theorem Part.ok2 {ds : List D} {w : Nat} (h : Part ds w) (hl : ds.length ≤ 40000) (hw : w ≤ 1048576) : (RprOk (.tuple ds) ∧ tdD (.tuple ds) = true) ∧ RprOk (.list ds) ∧ tdD (.list ds) = true := by
  have hi : ∀ d ∈ ds, d.canLay0 = true ∧ d.depth ≤ 16 ∧ d.intsShort 13 = true ∧ d.showable = true := fun d hd => by
    obtain ⟨a, b⟩ := h.it d hd
    obtain ⟨_, c1, c2, c3⟩ := pap_be d a
    exact ⟨c1, b, c2, c3⟩
  have ht : ∀ d ∈ ds, tdD d = true := fun d hd => be_td d (pap_be d (h.it d hd).1).1
  obtain ⟨s1, s2⟩ := Small.tup (dp := 16) (w := w) hi h.wt
  exact ⟨⟨s1.rpr (by decide) hw, td_mk (by omega) ht⟩, s2.rpr (by decide) hw, td_mkL (by omega) ht⟩
theorem weightAll_split (ds : List D) (k : Nat) : PyData.weightAll (ds.take k) + PyData.weightAll (ds.drop (k + 1)) ≤ PyData.weightAll ds := by
  have h := weightAll_app (ds.take k) (ds.drop k)
  rw [List.take_append_drop] at h
  have h2 := weightAll_drop 1 (ds.drop k)
  rw [List.drop_drop] at h2
  omega
theorem Part.put {ds : List D} {x : D} {w v : Nat} (k : Nat) (h : Part ds w) (hx : Part [x] v) : Part (ds.take k ++ x :: ds.drop (k + 1)) (w + v) := by
  refine ⟨fun d hd => ?_, ?_⟩
  · rcases List.mem_append.mp hd with hd | hd
    · exact h.it d (List.mem_of_mem_take hd)
    · rcases List.mem_cons.mp hd with rfl | hd
      · exact hx.it _ (List.mem_singleton.mpr rfl)
      · exact h.it d (List.mem_of_mem_drop hd)
  · rw [weightAll_app, PyData.weightAll]
    have a := weightAll_split ds k
    have b := h.wt
    have c := hx.wt
    rw [PyData.weightAll, PyData.weightAll] at c
    omega
/-- a row as a part -/
theorem cl_part {c : Fm × Fm} {n : Nat} (h : Ab c) (h1 : c.1.dep ≤ 13) (h2 : c.2.dep ≤ 13) (hw : cwt c ≤ n) : papD (clD c) = true ∧ PyData.depth (clD c) ≤ 15 ∧ PyData.weight (clD c) ≤ n + 2 := by
  have n1 : ∀ s ∈ c.1.nms, nmB s = true := fun s hs => ab_nm s (h.1 s hs)
  have n2 : ∀ s ∈ c.2.nms, nmB s = true := fun s hs => ab_nm s (h.2 s hs)
  obtain ⟨⟨_, a2⟩, _⟩ := fm_wt c.1 n1
  obtain ⟨⟨_, b2⟩, _⟩ := fm_wt c.2 n2
  refine ⟨pap_tup.mpr ⟨by show 2 ≤ 40000; omega, fun d hd => ?_⟩, ?_, ?_⟩
  · simp only [List.mem_cons, List.not_mem_nil, or_false] at hd
    rcases hd with rfl | rfl
    · exact fm_pap _ n1
    · exact fm_pap _ n2
  · unfold clD
    rw [PyData.depth, PyData.depthAll, PyData.depthAll, PyData.depthAll, a2, b2]
    omega
  · unfold clD
    unfold cwt at hw
    rw [PyData.weight, PyData.weightAll, PyData.weightAll, PyData.weightAll]
    omega
theorem why_part {w : Str} {ns : List Int} (hw : nmB w = true) (hl : ns.length ≤ 3) (hn : ∀ p ∈ ns, p.natAbs ≤ 700) : papD (.tuple (.str w :: ns.map .int)) = true ∧ PyData.depth (.tuple (.str w :: ns.map .int)) ≤ 1 ∧ PyData.weight (.tuple (.str w :: ns.map .int)) ≤ 46 := by
  obtain ⟨a1, a2, a3⟩ := str_pap hw
  have it : ∀ d ∈ ns.map PyData.int, papD d = true ∧ d.depth = 0 ∧ d.weight ≤ 10 := fun d hd => by
    obtain ⟨p, hp, rfl⟩ := List.mem_map.mp hd
    exact int_pap (hn p hp)
  refine ⟨pap_tup.mpr ⟨by rw [List.length_cons, List.length_map]; omega, fun d hd => ?_⟩, ?_, ?_⟩
  · rcases List.mem_cons.mp hd with rfl | hd
    · exact a1
    · exact (it d hd).1
  · rw [PyData.depth]
    have : PyData.depthAll (.str w :: ns.map PyData.int) ≤ 0 := depthAll_le.mpr fun d hd => by
      rcases List.mem_cons.mp hd with rfl | hd
      · rw [a2]; omega
      · rw [(it d hd).2.1]; omega
    omega
  · rw [PyData.weight, PyData.weightAll]
    have q := weightAll_le (c := 10) (ds := ns.map PyData.int) fun d hd => (it d hd).2.2
    rw [List.length_map] at q
    omega
theorem pair_part {c : Fm × Fm} {y : D} {n : Nat} (h : Ab c) (h1 : c.1.dep ≤ 13) (h2 : c.2.dep ≤ 13) (hw : cwt c ≤ n) (y1 : papD y = true) (y2 : y.depth ≤ 1) (y3 : y.weight ≤ 46) : Part [.tuple [clD c, y]] (n + 51) := by
  obtain ⟨a1, a2, a3⟩ := cl_part h h1 h2 hw
  refine Part.one (pap_tup.mpr ⟨by show 2 ≤ 40000; omega, fun d hd => ?_⟩) ?_ ?_
  · simp only [List.mem_cons, List.not_mem_nil, or_false] at hd
    rcases hd with rfl | rfl
    · exact a1
    · exact y1
  · rw [PyData.depth, PyData.depthAll, PyData.depthAll, PyData.depthAll]
    omega
  · rw [PyData.weight, PyData.weightAll, PyData.weightAll, PyData.weightAll]
    omega
theorem row_part {c : Fm × Fm} {w : Str} {ns : List Int} {n : Nat} (h : Ab c) (h1 : c.1.dep ≤ 13) (h2 : c.2.dep ≤ 13) (hw : cwt c ≤ n) (ww : nmB w = true) (hl : ns.length ≤ 3) (hn : ∀ p ∈ ns, p.natAbs ≤ 700) : Part [rwD ⟨c, w, ns⟩] (n + 51) := by
  obtain ⟨b1, b2, b3⟩ := why_part ww hl hn
  exact pair_part h h1 h2 hw b1 b2 b3
/-! ### a derivation's weight -/
def bW (k : Nat) : Nat := if k < 11 then 100 * 2 ^ k + 60 else 131200
def sW : Nat → Nat → Nat
  | _, 0 => 0
  | o, n + 1 => bW o + sW (o + 1) n
theorem weightAll_idx : ∀ (ds : List D) (o : Nat), (∀ (k : Nat) (d : D), ds[k]? = some d → d.weight + 1 ≤ bW (o + k)) → PyData.weightAll ds ≤ sW o ds.length
  | [], _, _ => Nat.zero_le _
  | d :: ds, o, h => by
    have h1 : d.weight + 1 ≤ bW o := h 0 d rfl
    have h2 := weightAll_idx ds (o + 1) fun k x hx => by
      have := h (k + 1) x (by simpa using hx)
      rwa [show o + (k + 1) = o + 1 + k by omega] at this
    rw [PyData.weightAll, List.length_cons, sW]
    omega
theorem sW_le : ∀ n, n < 14 → sW 0 n ≤ 470000 := by decide +kernel
theorem Rows.cl {gs : List (Fm × Fm)} {rs : List Rw} (h : Rows gs rs) {k : Nat} {r : Rw} (e : rs[k]? = some r) : cwt r.c ≤ 131072 ∧ r.c.1.dep ≤ 12 ∧ r.c.2.dep ≤ 12 := by
  obtain ⟨_, a, _⟩ := h.all k r e
  obtain ⟨⟨d1, _⟩, ⟨d2, _⟩⟩ := h.ok r (List.mem_of_getElem? e)
  have w1 := fm_wt1 _ a.1
  have w2 := fm_wt1 _ a.2
  have p1 : 2 ^ r.c.1.dep ≤ 2 ^ 12 := Nat.pow_le_pow_right (by decide) (by omega)
  have p2 : 2 ^ r.c.2.dep ≤ 2 ^ 12 := Nat.pow_le_pow_right (by decide) (by omega)
  unfold cwt
  omega
theorem Rows.part {gs : List (Fm × Fm)} {rs : List Rw} (h : Rows gs rs) (hl : rs.length ≤ 13) : Part (rs.map rwD) 470000 := by
  have one : ∀ (k : Nat) (r : Rw), rs[k]? = some r → Part [rwD r] (min (cwt r.c) 131072 + 51) := fun k r e => by
    obtain ⟨_, a, _, ⟨n1, n2⟩, w⟩ := h.all k r e
    obtain ⟨c1, c2, c3⟩ := h.cl e
    exact row_part a (by omega) (by omega) (by omega) w (by omega) fun p hp => by
      have := n2 p hp
      omega
  refine ⟨fun d hd => ?_, ?_⟩
  · obtain ⟨r, hr, rfl⟩ := List.mem_map.mp hd
    obtain ⟨k, hk⟩ := List.getElem?_of_mem hr
    exact (one k r hk).it _ (List.mem_singleton.mpr rfl)
  · have q := weightAll_idx (rs.map rwD) 0 fun k d e => by
      rw [List.getElem?_map, Option.map_eq_some_iff] at e
      obtain ⟨r, e, rfl⟩ := e
      have w := (one k r e).wt
      rw [PyData.weightAll, PyData.weightAll] at w
      obtain ⟨_, _, c, _⟩ := h.all k r e
      obtain ⟨c1, _⟩ := h.cl e
      rw [Nat.zero_add]
      unfold bW
      split <;> omega
    rw [List.length_map] at q
    exact Nat.le_trans q (sW_le _ (by omega))
theorem Rows.drv {gs : List (Fm × Fm)} {rs : List Rw} (h : Rows gs rs) (h0 : rs ≠ []) : drvT gs (clAt rs ((rs.length : Int) - 1)) rs = true := by
  have l : 1 ≤ rs.length := by
    cases rs with
    | nil => exact absurd rfl h0
    | cons a b => rw [List.length_cons]; omega
  obtain ⟨a, _, _⟩ := h.at_ (p := (rs.length : Int) - 1) (by omega) (by omega)
  unfold drvT
  rw [eqC_rf a, Bool.true_and, List.all_eq_true]
  intro k hk
  rw [List.mem_range] at hk
  have e : rs[k]? = some rs[k] := List.getElem?_eq_getElem hk
  obtain ⟨s, _⟩ := h.all k _ e
  unfold shownT
  rw [List.getD_eq_getElem?_getD, e]
  exact s
theorem Rows.ok41 {gs : List (Fm × Fm)} {rs : List Rw} (h : Rows gs rs) : ∀ r ∈ rs, ClOk 41 r.c := fun r hr => ⟨(h.ok r hr).1.mono (by decide), (h.ok r hr).2.mono (by decide)⟩
/-- what is tried -/
def TrOk (d : D) : Prop := ∃ (gs : List (Fm × Fm)) (c : Fm × Fm) (v : D), d = .tuple [.tuple (gs.map clD), clD c, v] ∧ gs.length ≤ 100 ∧ (∀ c ∈ gs, ClOk 41 c) ∧ ClOk 41 c ∧ RprOk v ∧ tdD v = true
theorem ClOk.mono {m n : Nat} {c : Fm × Fm} (h : ClOk m c) (l : m ≤ n) : ClOk n c := ⟨h.1.mono l, h.2.mono l⟩
theorem ab_ok {c : Fm × Fm} {n : Nat} (h : Ab c) (h1 : c.1.dep < n) (h2 : c.2.dep < n) : ClOk n c := ⟨⟨h1, fun s hs => ab_w s (h.1 s hs)⟩, ⟨h2, fun s hs => ab_w s (h.2 s hs)⟩⟩
theorem ab_td {c : Fm × Fm} (h : Ab c) : tdD (clD c) = true := by
  have n1 : ∀ s ∈ c.1.nms, nmB s = true := fun s hs => ab_nm s (h.1 s hs)
  have n2 : ∀ s ∈ c.2.nms, nmB s = true := fun s hs => ab_nm s (h.2 s hs)
  refine td_mk (by show 2 ≤ 100000; omega) fun d hd => ?_
  simp only [List.mem_cons, List.not_mem_nil, or_false] at hd
  rcases hd with rfl | rfl
  · exact (fm_td n1).2
  · exact (fm_td n2).2
theorem pick2 {ds : List D} {Q : R → Prop} {P : SpD} (h : P ds Q) : P ds Q := h
/-- picks from lists and tuples -/
def spPick2 : SpD := fun ds Q => ∃ (items : List D) (it : D), ds = [poolD, it] ∧ (it = .list items ∨ it = .tuple items) ∧ 1 ≤ items.length ∧ items.length < 1000000 ∧ ∀ d ∈ items, Q (.v d)
end DL

/-! DV4: what is tried. -/
namespace DL
open PySem L2
def alC (x y : Fm) : List (Fm × Fm) := [(x, y), (.all, x), (x, .none), (x, .all), (.none, x), (x, .not x), (.not x, x), (.both x y, x), (.both x y, y), (x, .both x y), (x, .either x y), (y, .either x y), (.either x y, x)]
/-- small formulas -/
structure SmF (f : Fm) : Prop where
  ab : ∀ s ∈ f.nms, s ∈ abL
  dep : f.dep ≤ 1
  wt : f.d.weight ≤ 23
theorem SmF.mk2 {f : Fm} (h : f.dep ≤ 1) (n : ∀ s ∈ f.nms, s ∈ abL) : SmF f := by
  have w := fm_wt1 f n
  have p : 2 ^ f.dep ≤ 2 ^ 1 := Nat.pow_le_pow_right (by decide) h
  exact ⟨n, h, by omega⟩
theorem al_ok {x y : Fm} (hx : SmF x) (hy : SmF y) : ∀ c ∈ alC x y, Ab c ∧ c.1.dep ≤ 2 ∧ c.2.dep ≤ 2 ∧ cwt c ≤ 84 := by
  obtain ⟨xn, xd, xw⟩ := hx
  obtain ⟨yn, yd, yw⟩ := hy
  have n0 := wt_none
  have n1 := wt_not x
  have n2 := wt_both x y
  have n3 := wt_either x y
  have xy : ∀ s ∈ x.nms ++ y.nms, s ∈ abL := fun s hs => (List.mem_append.mp hs).elim (xn s) (yn s)
  have no : ∀ s ∈ ([] : List Str), s ∈ abL := fun s hs => nomatch hs
  have d2 : max x.dep y.dep + 1 ≤ 2 := by omega
  intro c hc
  simp only [alC, List.mem_cons, List.not_mem_nil, or_false] at hc
  rcases hc with rfl | rfl | rfl | rfl | rfl | rfl | rfl | rfl | rfl | rfl | rfl | rfl | rfl
  · exact ⟨⟨xn, yn⟩, by show x.dep ≤ 2; omega, by show y.dep ≤ 2; omega, by show x.d.weight + y.d.weight ≤ 84; omega⟩
  · exact ⟨⟨no, xn⟩, by show 0 ≤ 2; omega, by show x.dep ≤ 2; omega, by show Fm.all.d.weight + x.d.weight ≤ 84; omega⟩
  · exact ⟨⟨xn, no⟩, by show x.dep ≤ 2; omega, by show 0 ≤ 2; omega, by show x.d.weight + Fm.none.d.weight ≤ 84; omega⟩
  · exact ⟨⟨xn, no⟩, by show x.dep ≤ 2; omega, by show 0 ≤ 2; omega, by show x.d.weight + Fm.all.d.weight ≤ 84; omega⟩
  · exact ⟨⟨no, xn⟩, by show 0 ≤ 2; omega, by show x.dep ≤ 2; omega, by show Fm.none.d.weight + x.d.weight ≤ 84; omega⟩
  · exact ⟨⟨xn, xn⟩, by show x.dep ≤ 2; omega, by show x.dep + 1 ≤ 2; omega, by show x.d.weight + (Fm.not x).d.weight ≤ 84; omega⟩
  · exact ⟨⟨xn, xn⟩, by show x.dep + 1 ≤ 2; omega, by show x.dep ≤ 2; omega, by show (Fm.not x).d.weight + x.d.weight ≤ 84; omega⟩
  · exact ⟨⟨xy, xn⟩, d2, by show x.dep ≤ 2; omega, by show (Fm.both x y).d.weight + x.d.weight ≤ 84; omega⟩
  · exact ⟨⟨xy, yn⟩, d2, by show y.dep ≤ 2; omega, by show (Fm.both x y).d.weight + y.d.weight ≤ 84; omega⟩
  · exact ⟨⟨xn, xy⟩, by show x.dep ≤ 2; omega, d2, by show x.d.weight + (Fm.both x y).d.weight ≤ 84; omega⟩
  · exact ⟨⟨xn, xy⟩, by show x.dep ≤ 2; omega, d2, by show x.d.weight + (Fm.either x y).d.weight ≤ 84; omega⟩
  · exact ⟨⟨yn, xy⟩, by show y.dep ≤ 2; omega, d2, by show y.d.weight + (Fm.either x y).d.weight ≤ 84; omega⟩
  · exact ⟨⟨xy, xn⟩, d2, by show x.dep ≤ 2; omega, by show (Fm.either x y).d.weight + x.d.weight ≤ 84; omega⟩
theorem tr_mk {gs : List (Fm × Fm)} {c : Fm × Fm} {ds : List D} {w : Nat} (lg : gs.length ≤ 100) (hg : ∀ c ∈ gs, ClOk 41 c) (hc : ClOk 41 c) (P : Part ds w) (hl : ds.length ≤ 40000) (hw : w ≤ 1048576) : TrOk (.tuple [.tuple (gs.map clD), clD c, .tuple ds]) := by
  obtain ⟨⟨a, b⟩, _⟩ := P.ok2 hl hw
  exact ⟨gs, c, _, rfl, lg, hg, hc, a, b⟩
theorem Part.cons {d : D} {ds : List D} {v w : Nat} (h : Part [d] v) (g : Part ds w) : Part (d :: ds) (v + w) := h.app g
/-- a small row -/
theorem sm_row {c : Fm × Fm} {w : Str} {ns : List Int} (h : Ab c ∧ c.1.dep ≤ 2 ∧ c.2.dep ≤ 2 ∧ cwt c ≤ 84) (ww : nmB w = true) (hl : ns.length ≤ 3) (hn : ∀ p ∈ ns, p.natAbs ≤ 700) : Part [rwD ⟨c, w, ns⟩] 135 := row_part h.1 (by omega) (by omega) h.2.2.2 ww hl hn
end DL

namespace LW
open PySem L2 DL
theorem w_law_pick2 (ds : List D) (Q : R → Prop) (h : spPick2 ds Q) : ds.length = 2 ∧ wpF Gdr 2 c_law_pick ds Q := by
  obtain ⟨items, it, rfl, hi, h1, h2, q⟩ := h
  refine ⟨rfl, ?_⟩
  rcases hi with rfl | rfl
  all_goals
    simp (decide := true) (dsimp := false) [c_law_pick, Gdr]
    refine ⟨items.length, rfl, by omega, by omega, fun r r0 r1 => ?_⟩
    obtain ⟨d, e, hd⟩ := atI_in r0 r1
    simp [e]
    exact q d hd
def Gl : Gm := ⟨fun | 8 => some (spDrv) | 11 => some (spDraw) | 12 => some (spPick2) | 13 => some (spForm 2) | 15 => some (spTheory 2) | 16 => some (spRowL) | 19 => some (spClLn) | 23 => some (spDrv) | 29 => some (spBent 24) | 30 => some (spPutR) | 31 => some (spSame 2) | 99 => some (spRepr) | _ => none, fun _ => none⟩
@[simp] theorem Gl_8 : Gl.Φ 8 = some (spDrv) := rfl
@[simp] theorem Gl_11 : Gl.Φ 11 = some (spDraw) := rfl
@[simp] theorem Gl_12 : Gl.Φ 12 = some (spPick2) := rfl
@[simp] theorem Gl_13 : Gl.Φ 13 = some (spForm 2) := rfl
@[simp] theorem Gl_15 : Gl.Φ 15 = some (spTheory 2) := rfl
@[simp] theorem Gl_16 : Gl.Φ 16 = some (spRowL) := rfl
@[simp] theorem Gl_19 : Gl.Φ 19 = some (spClLn) := rfl
@[simp] theorem Gl_23 : Gl.Φ 23 = some (spDrv) := rfl
@[simp] theorem Gl_29 : Gl.Φ 29 = some (spBent 24) := rfl
@[simp] theorem Gl_30 : Gl.Φ 30 = some (spPutR) := rfl
@[simp] theorem Gl_31 : Gl.Φ 31 = some (spSame 2) := rfl
@[simp] theorem Gl_99 : Gl.Φ 99 = some (spRepr) := rfl
def Iv (gs : List (Fm × Fm)) (rs : List Rw) (cl : Fm × Fm) (x y : Fm) (n : Nat) (e : En) : Prop := ∃ (L : List D) (x5 x6 xal x12 x13 x14 x15 x16 x17 x18 x19 x20 x21 x22 x23 x24 x25 x26 : Sl), L.length ≤ n ∧ (∀ d ∈ L, TrOk d) ∧ (xal = .own ((alC x y).map clD) ∨ xal = .val (.list ((alC x y).map clD))) ∧ e = [.no, .val poolD, .val (.list (abL.map .str)), .val (.tuple (gs.map clD)), .val (.tuple (rs.map rwD)), x5, x6, .val (clD cl), .own L, .val x.d, .val y.d, xal, x12, x13, x14, x15, x16, x17, x18, x19, x20, x21, x22, x23, x24, x25, x26]
def Iv2 (gs : List (Fm × Fm)) (rs : List Rw) (cl : Fm × Fm) (x y : Fm) (n : Nat) (w : Str) (c : Fm × Fm) (x6 : Sl) (e : En) : Prop := ∃ (L : List D) (x5 x15 x16 x17 x18 x19 x20 x21 x22 x23 x24 x25 x26 : Sl), L.length ≤ n ∧ (∀ d ∈ L, TrOk d) ∧ e = [.no, .val poolD, .val (.list (abL.map .str)), .val (.tuple (gs.map clD)), .val (.tuple (rs.map rwD)), x5, x6, .val (clD cl), .own L, .val x.d, .val y.d, .val (.list ((alC x y).map clD)), .val (.str w), .val (clD c), .val (.tuple [rwD ⟨(x, x), "same", []⟩, rwD ⟨(y, y), "same", []⟩]), x15, x16, x17, x18, x19, x20, x21, x22, x23, x24, x25, x26]
theorem w_law : wpSs Gl c_law { nx := fun _ => False, rt := fun r => r = .v (.bool true) } (.no :: .val poolD :: List.replicate 25 .no) := by
  have hrep : List.replicate 25 Sl.no = [.no, .no, .no, .no, .no, .no, .no, .no, .no, .no, .no, .no, .no, .no, .no, .no, .no, .no, .no, .no, .no, .no, .no, .no, .no] := rfl
  rw [hrep]
  simp (decide := true) (dsimp := false) [c_law, sizeLine_eq]
  refine ⟨abL, 3, 1, rfl, by decide, by omega, by omega, fun cs hl hcs => ?_⟩
  have lcs : (cs.map clD).length ≤ 3 := by rw [List.length_map]; exact hl
  simp (decide := true) (dsimp := false) [sizeLine_eq]
  have hz : (Fm.name "a", Fm.not (Fm.name "a")) = (Fm.name "a", Fm.not (Fm.name "a")) := rfl
  generalize hgs0 : cs ++ [(Fm.name "a", Fm.not (Fm.name "a"))] = gs
  have eg : cs.map clD ++ [PyData.tuple [.tuple [.str "name", .str "a"], .tuple [.str "not", .tuple [.str "name", .str "a"]]]] = gs.map clD := by
    rw [← hgs0, List.map_append]
    rfl
  have hgs : ∀ c ∈ gs, CC abL 2 c := by
    rw [← hgs0]
    intro c hc
    rcases List.mem_append.mp hc with hc | hc
    · exact hcs c hc
    · rw [List.mem_singleton.mp hc]
      exact ⟨⟨by decide, by decide⟩, by decide⟩
  have lgs : gs.length ≤ 4 := by
    rw [← hgs0, List.length_append, List.length_singleton]
    omega
  have g41 : ∀ c ∈ gs, ClOk 41 c := fun c hc => by
    obtain ⟨⟨a, b⟩, n⟩ := hgs c hc
    exact ⟨⟨by omega, fun s hs => ab_w s (n s (List.mem_append_left _ hs))⟩, ⟨by omega, fun s hs => ab_w s (n s (List.mem_append_right _ hs))⟩⟩
  rw [eg]
  refine ⟨by omega, ?_⟩
  refine ⟨11, rfl, by omega, by omega, fun m m0 m1 => ?_⟩
  simp (decide := true) (dsimp := false) [sizeLine_eq]
  refine ⟨by omega, by omega, ?_⟩
  refine foldF_inv (fun k env => ∃ (rs : List Rw) (x5 x6 : Sl), Rows gs rs ∧ rs.length ≤ k ∧ (1 ≤ k → rs ≠ []) ∧ env = [.no, .val poolD, .val (.list (abL.map .str)), .val (.tuple (gs.map clD)), .val (.tuple (rs.map rwD)), x5, x6, .no, .no, .no, .no, .no, .no, .no, .no, .no, .no, .no, .no, .no, .no, .no, .no, .no, .no, .no, .no]) 0 ⟨[], _, _, Rows.nil, Nat.le_refl _, fun h => absurd h (by decide), rfl⟩ (fun k d env hk hi => ?_) fun env hi => ?_
  · obtain ⟨rs, x5, x6, hR, hl2, h0, rfl⟩ := hi
    intro N hN
    rw [Nat.zero_add] at hl2 h0 hN
    have kl := (List.getElem?_eq_some_iff.mp hk).1
    rw [rngD_length] at kl
    have k13 : k < 13 := by omega
    simp (decide := true) (dsimp := false) []
    refine ⟨gs, rs, rfl, by omega, hgs, hR, by omega, fun r gr => ?_⟩
    have z0 : ∀ x (ps : List D), atI (x :: ps) 0 = some x := fun x ps => atI_nat (j := 0) (rfl : (x :: ps)[0]? = some x)
    have er : rwD r = .tuple [clD r.c, .tuple (.str r.w :: r.ns.map .int)] := rfl
    have cd := clN_dep (n := 13) (c := r.c) ⟨fun s hs => ab_w s (gr.ab.1 s hs), fun s hs => ab_w s (gr.ab.2 s hs)⟩
    simp (decide := true) (dsimp := false) [er, z0]
    refine ⟨13, clD r.c, rfl, by omega, ab_td gr.ab, ?_⟩
    cases e : clN 13 (clD r.c) with
    | true =>
      rw [e] at cd
      have cd' := cd.symm
      rw [Bool.and_eq_true, decide_eq_true_eq, decide_eq_true_eq] at cd'
      have hR2 := hR.snoc gr (ab_ok gr.ab cd'.1 cd'.2)
      have ll : (rs.map rwD).length ≤ 13 := by rw [List.length_map]; omega
      simp (decide := true) (dsimp := false) [er, z0, sizeLine_eq]
      refine ⟨by omega, hN _ ⟨rs ++ [r], .val d, .val (rwD r), hR2, by rw [List.length_append, List.length_singleton]; omega, fun _ => by simp, by rw [List.map_append]; rfl⟩⟩
    | false =>
      simp (decide := true) (dsimp := false) []
      refine hN _ ⟨rs, _, _, hR, by omega, fun _ hn => ?_, rfl⟩
      obtain ⟨d1, d2⟩ := gr.dep hn
      rw [e, decide_eq_true (show r.c.1.dep < 13 by omega), decide_eq_true (show r.c.2.dep < 13 by omega)] at cd
      cases cd
  · obtain ⟨rs, x5, x6, hR, hl2, h0, rfl⟩ := hi
    rw [rngD_length, Nat.zero_add] at hl2 h0
    have r0 : rs ≠ [] := h0 (by omega)
    have rl : 1 ≤ rs.length := by
      cases rs with
      | nil => exact absurd rfl r0
      | cons a b => rw [List.length_cons]; omega
    have l13 : rs.length ≤ 13 := by omega
    have P := hR.part l13
    have z0 : ∀ x (ps : List D), atI (x :: ps) 0 = some x := fun x ps => atI_nat (j := 0) (rfl : (x :: ps)[0]? = some x)
    have z1 : ∀ x y (ps : List D), atI (x :: y :: ps) 1 = some y := fun x y ps => atI_nat (j := 1) (rfl : (x :: y :: ps)[1]? = some y)
    obtain ⟨why, al, _⟩ := row_at (rs := rs) (p := (rs.length : Int) - 1) (by omega) (by omega)
    obtain ⟨why0, a0, _⟩ := row_at (rs := rs) (p := 0) (by omega) (by omega)
    have PP : Paper (.tuple (rs.map rwD)) := P.paper2 (by rw [List.length_map]; omega) (by decide)
    have ln : ¬ ((rs.length : Nat) : Int) = 0 := by omega
    obtain ⟨cl13, clab, _⟩ := hR.at_ (p := (rs.length : Int) - 1) (by omega) (by omega)
    have yes : DrvIs gs (clAt rs ((rs.length : Int) - 1)) (.tuple (rs.map rwD)) true := .inl ⟨rs, r0, rfl, hR.ok41, (hR.drv r0).symm⟩
    simp (decide := true) (dsimp := false) [al, z0, ln, r0]
    have ecl : PyData.tuple [(clAt rs ((rs.length : Int) - 1)).1.d, (clAt rs ((rs.length : Int) - 1)).2.d] = clD (clAt rs ((rs.length : Int) - 1)) := rfl
    rw [ecl]
    generalize hCL : clAt rs ((rs.length : Int) - 1) = cl at *
    refine ⟨gs, cl, .tuple (rs.map rwD), true, rfl, PP.td, by omega, g41, cl13.mono (by decide), yes, ?_⟩
    simp (decide := true) (dsimp := false) []
    refine ⟨gs, cl, .tuple (rs.map rwD), true, rfl, PP.td, by omega, g41, cl13.mono (by decide), yes, ?_⟩
    have lr : (rs.map rwD).length ≤ 13 := by rw [List.length_map]; omega
    simp (decide := true) (dsimp := false) [a0, z0, sizeLine_eq]
    have lrs : rs.length + rs.length ≤ 16777216 := by omega
    refine ⟨lrs, abL, 1, rfl, by decide, by decide, by omega, fun x xd xn => ?_⟩
    simp (decide := true) (dsimp := false) []
    refine ⟨abL, 1, rfl, by decide, by decide, by omega, fun y yd yn => ?_⟩
    have sx := SmF.mk2 xd xn
    have sy := SmF.mk2 yd yn
    have AO := al_ok sx sy
    have xok : FmOk 41 x := ⟨by omega, fun s hs => ab_w s (xn s hs)⟩
    have yok : FmOk 41 y := ⟨by omega, fun s hs => ab_w s (yn s hs)⟩
    have c41 : ClOk 41 cl := cl13.mono (by decide)
    have z41 : ClOk 41 (clAt rs 0) := (hR.at_ (p := 0) (by omega) (by omega)).1.mono (by decide)
    have lrw : (rs.map rwD).length ≤ 13 := lr
    have xx : Part [rwD ⟨(x, x), "same", []⟩] 135 := sm_row ⟨⟨xn, xn⟩, by show x.dep ≤ 2; omega, by show x.dep ≤ 2; omega, by show x.d.weight + x.d.weight ≤ 84; have := sx.wt; omega⟩ (by decide +kernel) (by simp) (fun p hp => nomatch hp)
    have yy : Part [rwD ⟨(y, y), "same", []⟩] 135 := sm_row ⟨⟨yn, yn⟩, by show y.dep ≤ 2; omega, by show y.dep ≤ 2; omega, by show y.d.weight + y.d.weight ≤ 84; have := sy.wt; omega⟩ (by decide +kernel) (by simp) (fun p hp => nomatch hp)
    have small : ∀ c ∈ alC x y, ClOk 41 c := fun c hc => by
      obtain ⟨a, b, d, _⟩ := AO c hc
      exact ab_ok a (by omega) (by omega)
    simp (decide := true) (dsimp := false) [sizeLine_eq]
    refine foldF_inv (fun k e => Iv gs rs cl x y (9 + 3 * k) e) 0 ⟨_, _, _, _, _, _, _, _, _, _, _, _, _, _, _, _, _, _, _, ?_, ?_, .inl rfl, rfl⟩ (fun k d e hk hi => ?_) fun e hi => ?_
    · simp
    · intro d hd
      simp only [List.mem_cons, List.not_mem_nil, or_false] at hd
      rcases hd with rfl | rfl | rfl | rfl | rfl | rfl | rfl | rfl | rfl
      · exact tr_mk (by omega) g41 c41 (P.cut _ _) (Nat.le_trans (cut_sub _ _ _).1 (by omega)) (by decide)
      · exact tr_mk (by omega) g41 c41 P.rev (by rw [List.length_reverse]; omega) (by decide)
      · rw [← List.map_reverse]
        exact tr_mk (by rw [List.length_reverse]; omega) (fun c hc => g41 c (List.mem_reverse.mp hc)) c41 P (by omega) (by decide)
      · exact tr_mk (gs := []) (by simp) (fun c hc => nomatch hc) c41 P (by omega) (by decide)
      · exact tr_mk (c := clAt rs 0) (by omega) g41 z41 P (by omega) (by decide)
      · exact tr_mk (c := clAt rs 0) (by omega) g41 z41 (P.cut _ _) (Nat.le_trans (cut_sub _ _ _).1 (by omega)) (by decide)
      · exact tr_mk (by omega) g41 c41 (P.app P) (by rw [List.length_append]; omega) (by decide)
      · exact ⟨gs, cl, _, rfl, by omega, g41, c41, (P.ok2 (by omega) (by decide)).2⟩
      · exact tr_mk (ds := []) (w := 0) (by omega) g41 c41 Part.nil (by simp) (by decide)
    · obtain ⟨L, x5, x6, xal, x12, x13, x14, x15, x16, x17, x18, x19, x20, x21, x22, x23, x24, x25, x26, hL, hT, hal, rfl⟩ := hi
      intro N hN
      rw [Nat.zero_add] at hL hN
      have hw : ∃ w, d = .str w ∧ nmB w = true := by
        have all : ∀ d ∈ ([.str "same", .str "low", .str "twice", .str "first", .str "second", .str "one", .str "other"] : List D), ∃ w, d = .str w ∧ nmB w = true := fun d hd => by
          simp only [List.mem_cons, List.not_mem_nil, or_false] at hd
          rcases hd with rfl | rfl | rfl | rfl | rfl | rfl | rfl <;> exact ⟨_, rfl, by decide +kernel⟩
        exact all d (List.mem_of_getElem? hk)
      obtain ⟨w, rfl, hw⟩ := hw
      have kl := (List.getElem?_eq_some_iff.mp hk).1
      have k7 : k < 7 := kl
      have body : ∀ c ∈ alC x y, ∀ d ∈ ([.tuple [.tuple (gs.map clD), clD c, .tuple [rwD ⟨c, w, []⟩]], .tuple [.tuple (gs.map clD), clD c, .tuple [rwD ⟨c, w, [0]⟩]], .tuple [.tuple (gs.map clD), clD c, .tuple [rwD ⟨(x, x), "same", []⟩, rwD ⟨c, w, [0]⟩]]] : List D), TrOk d := fun c hc d hd => by
        have c1 := AO c hc
        have R0 : Part [rwD ⟨c, w, []⟩] 135 := sm_row c1 hw (by simp) (fun p hp => nomatch hp)
        have R1 : Part [rwD ⟨c, w, [0]⟩] 135 := sm_row c1 hw (by simp) (fun p hp => by rw [List.mem_singleton.mp hp]; decide)
        simp only [List.mem_cons, List.not_mem_nil, or_false] at hd
        rcases hd with rfl | rfl | rfl
        · exact tr_mk (by omega) g41 (small c hc) R0 (by simp) (by decide)
        · exact tr_mk (by omega) g41 (small c hc) R1 (by simp) (by decide)
        · exact tr_mk (by omega) g41 (small c hc) (xx.cons R1) (by simp) (by decide)
      rcases hal with rfl | rfl
      all_goals
        simp (decide := true) (dsimp := false) []
        refine ⟨(alC x y).map clD, _, rfl, .inl rfl, by simp [alC], by simp [alC], fun d hd => ?_⟩
        obtain ⟨c, hc, rfl⟩ := List.mem_map.mp hd
        simp (decide := true) (dsimp := false) [sizeLine_eq]
        refine ⟨by omega, hN _ ⟨_, _, _, _, _, _, _, _, _, _, _, _, _, _, _, _, _, _, _, ?_, fun d hd => ?_, .inr rfl, rfl⟩⟩
        · rw [List.length_append]
          simp only [List.length_cons, List.length_nil]
          omega
        · rcases List.mem_append.mp hd with hd | hd
          · exact hT d hd
          · exact body c hc d hd
    · obtain ⟨L, x5, x6, xal, x12, x13, x14, x15, x16, x17, x18, x19, x20, x21, x22, x23, x24, x25, x26, hL, hT, hal, rfl⟩ := hi
      have hL9 : L.length ≤ 30 := hL
      simp (decide := true) (dsimp := false) [sizeLine_eq]
      refine foldF_inv (fun k e => Iv gs rs cl x y (30 + 10 * k) e) 0 ⟨_, _, _, _, _, _, _, _, _, _, _, _, _, _, _, _, _, _, _, hL9, hT, hal, rfl⟩ (fun k d e hk hi => ?_) fun e hi => ?_
      · clear hal hT hL hL9 L x5 x6 xal x12 x13 x14 x15 x16 x17 x18 x19 x20 x21 x22 x23 x24 x25 x26
        obtain ⟨L, x5, x6, xal, x12, x13, x14, x15, x16, x17, x18, x19, x20, x21, x22, x23, x24, x25, x26, hL, hT, hal, rfl⟩ := hi
        intro N hN
        rw [Nat.zero_add] at hL hN
        have hw : ∃ w, d = .str w ∧ nmB w = true := by
          have all : ∀ d ∈ ([.str "chain", .str "meet", .str "join", .str "turn", .str "never", .str "given"] : List D), ∃ w, d = .str w ∧ nmB w = true := fun d hd => by
            simp only [List.mem_cons, List.not_mem_nil, or_false] at hd
            rcases hd with rfl | rfl | rfl | rfl | rfl | rfl <;> exact ⟨_, rfl, by decide +kernel⟩
          exact all d (List.mem_of_getElem? hk)
        obtain ⟨w, rfl, hw⟩ := hw
        have k6 : k < 6 := (List.getElem?_eq_some_iff.mp hk).1
        rcases hal with rfl | rfl
        all_goals
          simp (decide := true) (dsimp := false) [sizeLine_eq]
          refine ⟨(alC x y).map clD, _, rfl, .inl rfl, by simp [alC], by simp [alC], fun d hd => ?_⟩
          obtain ⟨c, hc, rfl⟩ := List.mem_map.mp hd
          simp (decide := true) (dsimp := false) [sizeLine_eq]
          have c1 := AO c hc
          refine foldF_inv (fun j e => ∃ x16, Iv2 gs rs cl x y (30 + 10 * k + j) w c x16 e) 0 ⟨_, _, _, _, _, _, _, _, _, _, _, _, _, _, _, hL, hT, rfl⟩ (fun j d e hj hi => ?_) fun e hi => ?_
          · obtain ⟨x16', L2, x5', x15', x16', x17', x18', x19', x20', x21', x22', x23', x24', x25', x26', hL2, hT2, rfl⟩ := hi
            intro N2 hN2
            rw [Nat.zero_add] at hL2 hN2
            have hns : ∃ ns : List Int, d = rwD ⟨c, w, ns⟩ ∧ ns.length ≤ 3 ∧ ∀ p ∈ ns, p.natAbs ≤ 700 := by
              have all : ∀ d ∈ (([[0, 2], [2, 1], [2], [2, 2], [-1, 0], [0], [0, 1], [0, 0], [0, 0, 0], []] : List (List Int)).map fun ns => rwD ⟨c, w, ns⟩), ∃ ns : List Int, d = rwD ⟨c, w, ns⟩ ∧ ns.length ≤ 3 ∧ ∀ p ∈ ns, p.natAbs ≤ 700 := fun d hd => by
                obtain ⟨ns, hn, rfl⟩ := List.mem_map.mp hd
                have q : ∀ ns ∈ ([[0, 2], [2, 1], [2], [2, 2], [-1, 0], [0], [0, 1], [0, 0], [0, 0, 0], []] : List (List Int)), ns.length ≤ 3 ∧ ∀ p ∈ ns, p.natAbs ≤ 700 := by decide
                exact ⟨ns, rfl, q ns hn⟩
              exact all d (List.mem_of_getElem? hj)
            obtain ⟨ns, rfl, n1, n2⟩ := hns
            have j10 : j < 10 := (List.getElem?_eq_some_iff.mp hj).1
            have row := sm_row c1 hw n1 n2
            simp (decide := true) (dsimp := false) [sizeLine_eq]
            have t3 := tr_mk (gs := gs) (c := c) (by omega) g41 (small c hc) (xx.cons (yy.cons row)) (by simp) (by decide)
            first | exact hN2 _ ⟨.val (rwD ⟨c, w, ns⟩), L2 ++ [.tuple [.tuple (gs.map clD), clD c, .tuple [rwD ⟨(x, x), "same", []⟩, rwD ⟨(y, y), "same", []⟩, rwD ⟨c, w, ns⟩]]], _, _, _, _, _, _, _, _, _, _, _, _, _, by rw [List.length_append, List.length_singleton]; omega, fun d hd => (List.mem_append.mp hd).elim (hT2 d) fun q => by rw [List.mem_singleton.mp q]; exact t3, rfl⟩ | exact ⟨by omega, hN2 _ ⟨.val (rwD ⟨c, w, ns⟩), L2 ++ [.tuple [.tuple (gs.map clD), clD c, .tuple [rwD ⟨(x, x), "same", []⟩, rwD ⟨(y, y), "same", []⟩, rwD ⟨c, w, ns⟩]]], _, _, _, _, _, _, _, _, _, _, _, _, _, by rw [List.length_append, List.length_singleton]; omega, fun d hd => (List.mem_append.mp hd).elim (hT2 d) fun q => by rw [List.mem_singleton.mp q]; exact t3, rfl⟩⟩
          · obtain ⟨x16', L2, x5', x15', x16', x17', x18', x19', x20', x21', x22', x23', x24', x25', x26', hL2, hT2, rfl⟩ := hi
            have l10 : L2.length ≤ 30 + 10 * (k + 1) := by
              simp only [List.length_cons, List.length_nil] at hL2
              omega
            exact hN _ ⟨L2, _, _, _, _, _, _, _, _, _, _, _, _, _, _, _, _, _, _, l10, hT2, .inr rfl, rfl⟩
      · clear hal hT hL hL9 L x5 x6 xal x12 x13 x14 x15 x16 x17 x18 x19 x20 x21 x22 x23 x24 x25 x26
        obtain ⟨L, x5, x6, xal, x12, x13, x14, x15, x16, x17, x18, x19, x20, x21, x22, x23, x24, x25, x26, hL, hT, hal, rfl⟩ := hi
        have hL9 : L.length ≤ 90 := hL
        simp (decide := true) (dsimp := false) [sizeLine_eq]
        refine foldF_inv (fun k e => Iv gs rs cl x y (90 + k) e) 0 ⟨_, _, _, _, _, _, _, _, _, _, _, _, _, _, _, _, _, _, _, hL9, hT, hal, rfl⟩ (fun k d e hk hi => ?_) fun e hi => ?_
        · clear hal hT hL hL9 L x5 x6 xal x12 x13 x14 x15 x16 x17 x18 x19 x20 x21 x22 x23 x24 x25 x26
          obtain ⟨L, x5, x6, xal, x12, x13, x14, x15, x16, x17, x18, x19, x20, x21, x22, x23, x24, x25, x26, hL, hT, hal, rfl⟩ := hi
          intro N hN
          rw [Nat.zero_add] at hL hN
          have k8 : k < 8 := by
            have kl := (List.getElem?_eq_some_iff.mp hk).1
            rwa [rngD_length] at kl
          simp (decide := true) (dsimp := false) []
          refine ⟨(rs.length : Int), rfl, by omega, by omega, fun i i0 i1 => ?_⟩
          simp (decide := true) (dsimp := false) []
          refine ⟨(rs.length : Int), rfl, by omega, by omega, fun j j0 j1 => ?_⟩
          obtain ⟨w1, ai, _⟩ := row_at (rs := rs) i0 i1
          obtain ⟨w2, aj, _⟩ := row_at (rs := rs) j0 j1
          simp (decide := true) (dsimp := false) [ai, aj, z0, sizeLine_eq]
          have rowf : ∀ p : Int, 0 ≤ p → p < rs.length → Ab (clAt rs p) ∧ ((clAt rs p).1.dep ≤ 12 ∧ (clAt rs p).2.dep ≤ 12) ∧ (clAt rs p).1.d.weight ≤ 65527 ∧ (clAt rs p).2.d.weight ≤ 65527 := fun p p0 p1 => by
            obtain ⟨⟨⟨d1, _⟩, ⟨d2, _⟩⟩, ab, _⟩ := hR.at_ p0 p1
            have w1 := fm_wt1 _ ab.1
            have w2 := fm_wt1 _ ab.2
            have p1 : 2 ^ (clAt rs p).1.dep ≤ 2 ^ 12 := Nat.pow_le_pow_right (by decide) (by omega)
            have p2 : 2 ^ (clAt rs p).2.dep ≤ 2 ^ 12 := Nat.pow_le_pow_right (by decide) (by omega)
            exact ⟨ab, ⟨by omega, by omega⟩, by omega, by omega⟩
          obtain ⟨⟨na, nb⟩, ⟨da, db⟩, wa, wb⟩ := rowf i i0 i1
          obtain ⟨⟨nc, nd⟩, ⟨dc, dd⟩, wc, wd⟩ := rowf j j0 j1
          generalize clAt rs i = AB at *
          generalize clAt rs j = CD at *
          obtain ⟨a, b⟩ := AB
          obtain ⟨c, d⟩ := CD
          have da : a.dep ≤ 12 := da
          have db : b.dep ≤ 12 := db
          have dc : c.dep ≤ 12 := dc
          have dd : d.dep ≤ 12 := dd
          have wa : a.d.weight ≤ 65527 := wa
          have wb : b.d.weight ≤ 65527 := wb
          have wc : c.d.weight ≤ 65527 := wc
          have wd : d.d.weight ≤ 65527 := wd
          have un : ∀ {f g : Fm}, (∀ s ∈ f.nms, s ∈ abL) → (∀ s ∈ g.nms, s ∈ abL) → ∀ s ∈ f.nms ++ g.nms, s ∈ abL := fun h1 h2 s hs => (List.mem_append.mp hs).elim (h1 s) (h2 s)
          have near : ∀ it ∈ ([.tuple [clD (a, d), .str "chain"], .tuple [clD (c, b), .str "chain"], .tuple [clD (a, .both b d), .str "meet"], .tuple [clD (a, .both d b), .str "meet"], .tuple [clD (c, .both b d), .str "meet"], .tuple [clD (.either a c, b), .str "join"], .tuple [clD (.either c a, b), .str "join"], .tuple [clD (.either a c, d), .str "join"]] : List D), ∃ (c' : Fm × Fm) (w : Str), it = .tuple [clD c', .str w] ∧ Ab c' ∧ (c'.1.dep ≤ 13 ∧ c'.2.dep ≤ 13) ∧ cwt c' ≤ 196700 ∧ nmB w = true := fun it hit => by
            have b1 := wt_both b d
            have b2 := wt_both d b
            have e1 := wt_either a c
            have e2 := wt_either c a
            simp only [List.mem_cons, List.not_mem_nil, or_false] at hit
            rcases hit with rfl | rfl | rfl | rfl | rfl | rfl | rfl | rfl
            · exact ⟨(a, d), _, rfl, ⟨na, nd⟩, ⟨by show a.dep ≤ 13; omega, by show d.dep ≤ 13; omega⟩, by show a.d.weight + d.d.weight ≤ _; omega, rs_chain.2.2⟩
            · exact ⟨(c, b), _, rfl, ⟨nc, nb⟩, ⟨by show c.dep ≤ 13; omega, by show b.dep ≤ 13; omega⟩, by show c.d.weight + b.d.weight ≤ _; omega, rs_chain.2.2⟩
            · exact ⟨(a, .both b d), _, rfl, ⟨na, un nb nd⟩, ⟨by show a.dep ≤ 13; omega, by show max b.dep d.dep + 1 ≤ 13; omega⟩, by show a.d.weight + (Fm.both b d).d.weight ≤ _; omega, rs_meet.2.2⟩
            · exact ⟨(a, .both d b), _, rfl, ⟨na, un nd nb⟩, ⟨by show a.dep ≤ 13; omega, by show max d.dep b.dep + 1 ≤ 13; omega⟩, by show a.d.weight + (Fm.both d b).d.weight ≤ _; omega, rs_meet.2.2⟩
            · exact ⟨(c, .both b d), _, rfl, ⟨nc, un nb nd⟩, ⟨by show c.dep ≤ 13; omega, by show max b.dep d.dep + 1 ≤ 13; omega⟩, by show c.d.weight + (Fm.both b d).d.weight ≤ _; omega, rs_meet.2.2⟩
            · exact ⟨(.either a c, b), _, rfl, ⟨un na nc, nb⟩, ⟨by show max a.dep c.dep + 1 ≤ 13; omega, by show b.dep ≤ 13; omega⟩, by show (Fm.either a c).d.weight + b.d.weight ≤ _; omega, rs_join.2.2⟩
            · exact ⟨(.either c a, b), _, rfl, ⟨un nc na, nb⟩, ⟨by show max c.dep a.dep + 1 ≤ 13; omega, by show b.dep ≤ 13; omega⟩, by show (Fm.either c a).d.weight + b.d.weight ≤ _; omega, rs_join.2.2⟩
            · exact ⟨(.either a c, d), _, rfl, ⟨un na nc, nd⟩, ⟨by show max a.dep c.dep + 1 ≤ 13; omega, by show d.dep ≤ 13; omega⟩, by show (Fm.either a c).d.weight + d.d.weight ≤ _; omega, rs_join.2.2⟩
          refine ⟨_, _, rfl, .inl rfl, by simp, by simp, fun it hit => ?_⟩
          obtain ⟨c', w, rfl, ab', ⟨d1', d2'⟩, wt', nw⟩ := near it hit
          have row := row_part (w := w) (ns := [i, j]) ab' d1' d2' wt' nw (by simp) (fun p hp => by
            simp only [List.mem_cons, List.not_mem_nil, or_false] at hp
            omega)
          have t4 := tr_mk (gs := gs) (c := c') (by omega) g41 (ab_ok ab' (by omega) (by omega)) (P.app row) (by rw [List.length_append, List.length_singleton]; omega) (by decide)
          simp (decide := true) (dsimp := false) [sizeLine_eq]
          first | exact hN _ ⟨L ++ [.tuple [.tuple (gs.map clD), clD c', .tuple (rs.map rwD ++ [rwD ⟨c', w, [i, j]⟩])]], _, _, _, _, _, _, _, _, _, _, _, _, _, _, _, _, _, _, by rw [List.length_append, List.length_singleton]; omega, fun d hd => (List.mem_append.mp hd).elim (hT d) fun q => by rw [List.mem_singleton.mp q]; exact t4, hal, rfl⟩ | exact ⟨by omega, hN _ ⟨L ++ [.tuple [.tuple (gs.map clD), clD c', .tuple (rs.map rwD ++ [rwD ⟨c', w, [i, j]⟩])]], _, _, _, _, _, _, _, _, _, _, _, _, _, _, _, _, _, _, by rw [List.length_append, List.length_singleton]; omega, fun d hd => (List.mem_append.mp hd).elim (hT d) fun q => by rw [List.mem_singleton.mp q]; exact t4, hal, rfl⟩⟩ | exact ⟨by omega, by omega, hN _ ⟨L ++ [.tuple [.tuple (gs.map clD), clD c', .tuple (rs.map rwD ++ [rwD ⟨c', w, [i, j]⟩])]], _, _, _, _, _, _, _, _, _, _, _, _, _, _, _, _, _, _, by rw [List.length_append, List.length_singleton]; omega, fun d hd => (List.mem_append.mp hd).elim (hT d) fun q => by rw [List.mem_singleton.mp q]; exact t4, hal, rfl⟩⟩
        · clear hal hT hL hL9 L x5 x6 xal x12 x13 x14 x15 x16 x17 x18 x19 x20 x21 x22 x23 x24 x25 x26
          obtain ⟨L, x5, x6, xal, x12, x13, x14, x15, x16, x17, x18, x19, x20, x21, x22, x23, x24, x25, x26, hL, hT, hal, rfl⟩ := hi
          have hL9 : L.length ≤ 98 := hL
          obtain ⟨s1, s2, s3⟩ := PP.asked
          simp (decide := true) (dsimp := false) [sizeLine_eq]
          refine ⟨rs.map rwD, 12, rfl, s1, by omega, PP.td, fun z => r0 (List.map_eq_nil_iff.mp z), by omega, by omega, s2, s3, fun vals hvl hva => ?_⟩
          simp (decide := true) (dsimp := false) [sizeLine_eq]
          refine foldF_inv (fun k e => Iv gs rs cl x y (98 + k) e) 0 ⟨_, _, _, _, _, _, _, _, _, _, _, _, _, _, _, _, _, _, _, hL9, hT, hal, rfl⟩ (fun k v e hk hi => ?_) fun e hi => ?_
          · clear hal hT hL hL9 L x5 x6 xal x12 x13 x14 x15 x16 x17 x18 x19 x20 x21 x22 x23 x24 x25 x26
            obtain ⟨L, x5, x6, xal, x12, x13, x14, x15, x16, x17, x18, x19, x20, x21, x22, x23, x24, x25, x26, hL, hT, hal, rfl⟩ := hi
            intro N hN
            rw [Nat.zero_add] at hL hN
            have kl := (List.getElem?_eq_some_iff.mp hk).1
            obtain ⟨v1, v2⟩ := PP.near (hva v (List.mem_of_getElem? hk))
            have t5 : TrOk (.tuple [.tuple (gs.map clD), clD cl, v]) := ⟨gs, cl, v, rfl, by omega, g41, c41, v1, v2⟩
            simp (decide := true) (dsimp := false) [sizeLine_eq]
            first | exact hN _ ⟨L ++ [.tuple [.tuple (gs.map clD), clD cl, v]], _, _, _, _, _, _, _, _, _, _, _, _, _, _, _, _, _, _, by rw [List.length_append, List.length_singleton]; omega, fun d hd => (List.mem_append.mp hd).elim (hT d) fun q => by rw [List.mem_singleton.mp q]; exact t5, hal, rfl⟩ | exact ⟨by omega, hN _ ⟨L ++ [.tuple [.tuple (gs.map clD), clD cl, v]], _, _, _, _, _, _, _, _, _, _, _, _, _, _, _, _, _, _, by rw [List.length_append, List.length_singleton]; omega, fun d hd => (List.mem_append.mp hd).elim (hT d) fun q => by rw [List.mem_singleton.mp q]; exact t5, hal, rfl⟩⟩
          · clear hal hT hL hL9 L x5 x6 xal x12 x13 x14 x15 x16 x17 x18 x19 x20 x21 x22 x23 x24 x25 x26
            obtain ⟨L, x5, x6, xal, x12, x13, x14, x15, x16, x17, x18, x19, x20, x21, x22, x23, x24, x25, x26, hL, hT, hal, rfl⟩ := hi
            have hL9 : L.length ≤ 140 := by omega
            simp (decide := true) (dsimp := false) [sizeLine_eq]
            refine foldF_inv (fun k e => Iv gs rs cl x y (140 + 2 * k) e) 0 ⟨_, _, _, _, _, _, _, _, _, _, _, _, _, _, _, _, _, _, _, hL9, hT, hal, rfl⟩ (fun k d e hk hi => ?_) fun e hi => ?_
            · clear hal hT hL hL9 L x5 x6 xal x12 x13 x14 x15 x16 x17 x18 x19 x20 x21 x22 x23 x24 x25 x26
              obtain ⟨L, x5, x6, xal, x12, x13, x14, x15, x16, x17, x18, x19, x20, x21, x22, x23, x24, x25, x26, hL, hT, hal, rfl⟩ := hi
              intro N hN
              rw [Nat.zero_add] at hL hN
              have k6 : k < 6 := by
                have kl := (List.getElem?_eq_some_iff.mp hk).1
                rwa [rngD_length] at kl
              simp (decide := true) (dsimp := false) []
              refine ⟨(rs.length : Int), rfl, by omega, by omega, fun t t0 t1 => ?_⟩
              obtain ⟨tn, rfl⟩ : ∃ tn : Nat, t = (tn : Int) := ⟨t.toNat, by omega⟩
              have rowr : ∀ p : Int, 0 ≤ p → p < rs.length → Ab (clAt rs p) ∧ ((clAt rs p).1.dep ≤ 12 ∧ (clAt rs p).2.dep ≤ 12) ∧ cwt (clAt rs p) ≤ 131072 := fun p p0 p1 => by
                obtain ⟨⟨⟨d1, _⟩, ⟨d2, _⟩⟩, ab, _⟩ := hR.at_ p0 p1
                have w1 := fm_wt1 _ ab.1
                have w2 := fm_wt1 _ ab.2
                have p1 : 2 ^ (clAt rs p).1.dep ≤ 2 ^ 12 := Nat.pow_le_pow_right (by decide) (by omega)
                have p2 : 2 ^ (clAt rs p).2.dep ≤ 2 ^ 12 := Nat.pow_le_pow_right (by decide) (by omega)
                exact ⟨ab, ⟨by omega, by omega⟩, by unfold cwt; omega⟩
              have whyr : ∀ r ∈ rs, papD (.tuple (.str r.w :: r.ns.map .int)) = true ∧ PyData.depth (.tuple (.str r.w :: r.ns.map .int)) ≤ 1 ∧ PyData.weight (.tuple (.str r.w :: r.ns.map .int)) ≤ 46 := fun r hr => by
                obtain ⟨k, hk⟩ := List.getElem?_of_mem hr
                obtain ⟨_, _, _, ⟨n1, n2⟩, nw⟩ := hR.all k r hk
                exact why_part nw (by omega) fun p hp => by
                  have := n2 p hp
                  omega
              have putf : ∀ (c' : Fm × Fm) (y' : D), Ab c' → c'.1.dep ≤ 12 → c'.2.dep ≤ 12 → cwt c' ≤ 131072 → papD y' = true → y'.depth ≤ 1 → y'.weight ≤ 46 → TrOk (.tuple [.tuple (gs.map clD), clD cl, .tuple ((rs.map rwD).take tn ++ (.tuple [clD c', y']) :: (rs.map rwD).drop (tn + 1))]) := fun c' y' q1 q2 q3 q4 q5 q6 q7 => by
                have X := pair_part q1 (by omega) (by omega) q4 q5 q6 q7
                refine tr_mk (by omega) g41 c41 (P.put tn X) ?_ (by decide)
                rw [List.length_append, List.length_take, List.length_cons, List.length_drop]
                omega
              obtain ⟨whyt, at_, ewt⟩ := row_at (rs := rs) t0 t1
              obtain ⟨ta, ⟨td1, td2⟩, tw⟩ := rowr _ t0 t1
              have mt : rs.getD tn rw0 ∈ rs := by
                rw [List.getD_eq_getElem?_getD, List.getElem?_eq_getElem (by omega)]
                exact List.getElem_mem _
              have tt : ((tn : Int)).toNat = tn := by omega
              rw [tt] at ewt
              obtain ⟨y1, y2, y3⟩ := whyr _ mt
              rw [← ewt] at y1 y2 y3
              simp (decide := true) (dsimp := false) [at_, z0]
              refine ⟨rs.map rwD, _, rfl, .inr rfl, by rw [List.length_map]; omega, by rw [List.length_map]; omega, fun d2 hd2 => ?_⟩
              obtain ⟨r2, hr2, rfl⟩ := List.mem_map.mp hd2
              have er2 : rwD r2 = .tuple [clD r2.c, .tuple (.str r2.w :: r2.ns.map .int)] := rfl
              obtain ⟨u1, u2, u3⟩ := whyr r2 hr2
              simp (decide := true) (dsimp := false) [er2, z1, z0]
              refine ⟨rs.map rwD, tn, _, rfl, by omega, ?_⟩
              have T1 := putf (clAt rs (tn : Int)) _ ta td1 td2 tw u1 u2 u3
              simp (decide := true) (dsimp := false) [sizeLine_eq]
              first | refine ⟨by omega, ?_⟩ | skip
              refine ⟨rs.map rwD, _, rfl, .inr rfl, by rw [List.length_map]; omega, by rw [List.length_map]; omega, fun d3 hd3 => ?_⟩
              obtain ⟨r3, hr3, rfl⟩ := List.mem_map.mp hd3
              have er3 : rwD r3 = .tuple [clD r3.c, .tuple (.str r3.w :: r3.ns.map .int)] := rfl
              have T2 : TrOk (.tuple [.tuple (gs.map clD), clD cl, .tuple ((rs.map rwD).take tn ++ (.tuple [clD r3.c, whyt]) :: (rs.map rwD).drop (tn + 1))]) := by
                obtain ⟨k3, hk3⟩ := List.getElem?_of_mem hr3
                obtain ⟨_, ab3, _⟩ := hR.all k3 r3 hk3
                obtain ⟨c1, c2, c3⟩ := hR.cl hk3
                exact putf r3.c whyt ab3 c2 c3 c1 y1 y2 y3
              simp (decide := true) (dsimp := false) [er3, z1, z0, at_]
              refine ⟨rs.map rwD, tn, _, rfl, by omega, ?_⟩
              simp (decide := true) (dsimp := false) [sizeLine_eq]
              have T12 : ∀ d ∈ ([.tuple [.tuple (gs.map clD), clD cl, .tuple ((rs.map rwD).take tn ++ (.tuple [clD (clAt rs (tn : Int)), .tuple (.str r2.w :: r2.ns.map .int)]) :: (rs.map rwD).drop (tn + 1))], .tuple [.tuple (gs.map clD), clD cl, .tuple ((rs.map rwD).take tn ++ (.tuple [clD r3.c, whyt]) :: (rs.map rwD).drop (tn + 1))]] : List D), TrOk d := fun d hd => by
                simp only [List.mem_cons, List.not_mem_nil, or_false] at hd
                rcases hd with rfl | rfl
                · exact T1
                · exact T2
              first | exact hN _ ⟨L ++ [.tuple [.tuple (gs.map clD), clD cl, .tuple ((rs.map rwD).take tn ++ (.tuple [clD (clAt rs (tn : Int)), .tuple (.str r2.w :: r2.ns.map .int)]) :: (rs.map rwD).drop (tn + 1))], .tuple [.tuple (gs.map clD), clD cl, .tuple ((rs.map rwD).take tn ++ (.tuple [clD r3.c, whyt]) :: (rs.map rwD).drop (tn + 1))]], _, _, _, _, _, _, _, _, _, _, _, _, _, _, _, _, _, _, by rw [List.length_append]; simp only [List.length_cons, List.length_nil]; omega, fun d hd => (List.mem_append.mp hd).elim (hT d) (T12 d), hal, rfl⟩ | exact ⟨by omega, hN _ ⟨L ++ [.tuple [.tuple (gs.map clD), clD cl, .tuple ((rs.map rwD).take tn ++ (.tuple [clD (clAt rs (tn : Int)), .tuple (.str r2.w :: r2.ns.map .int)]) :: (rs.map rwD).drop (tn + 1))], .tuple [.tuple (gs.map clD), clD cl, .tuple ((rs.map rwD).take tn ++ (.tuple [clD r3.c, whyt]) :: (rs.map rwD).drop (tn + 1))]], _, _, _, _, _, _, _, _, _, _, _, _, _, _, _, _, _, _, by rw [List.length_append]; simp only [List.length_cons, List.length_nil]; omega, fun d hd => (List.mem_append.mp hd).elim (hT d) (T12 d), hal, rfl⟩⟩
            · clear hal hT hL hL9 L x5 x6 xal x12 x13 x14 x15 x16 x17 x18 x19 x20 x21 x22 x23 x24 x25 x26
              obtain ⟨L, x5, x6, xal, x12, x13, x14, x15, x16, x17, x18, x19, x20, x21, x22, x23, x24, x25, x26, hL, hT, hal, rfl⟩ := hi
              have hL9 : L.length ≤ 152 := hL
              simp (decide := true) (dsimp := false) [sizeLine_eq]
              refine foldF_inv (fun _ e => ∃ x5 x6 xal x12 x13 x14 x15 x16 x17 x18 x19 x20 x21 x22 x23 x24 x25 x26 : Sl, e = [.no, .val poolD, .val (.list (abL.map .str)), .val (.tuple (gs.map clD)), .val (.tuple (rs.map rwD)), x5, x6, .val (clD cl), .val (.list L), .val x.d, .val y.d, xal, x12, x13, x14, x15, x16, x17, x18, x19, x20, x21, x22, x23, x24, x25, x26]) 0 ⟨_, _, _, _, _, _, _, _, _, _, _, _, _, _, _, _, _, _, rfl⟩ (fun k d e hk hi => ?_) fun e hi => ?_
              · clear hal x5 x6 xal x12 x13 x14 x15 x16 x17 x18 x19 x20 x21 x22 x23 x24 x25 x26
                obtain ⟨x5, x6, xal, x12, x13, x14, x15, x16, x17, x18, x19, x20, x21, x22, x23, x24, x25, x26, rfl⟩ := hi
                obtain ⟨gs', c', v, rfl, lg', hg', hc', v1, v2⟩ := hT d (List.mem_of_getElem? hk)
                simp only [tgD, setAll]
                intro N hN
                obtain ⟨b, hb⟩ := drvIs_ex gs' c' v
                simp (decide := true) (dsimp := false) []
                refine ⟨v, rfl, v1, ?_⟩
                simp (decide := true) (dsimp := false) []
                refine ⟨gs', c', v, b, rfl, v2, by omega, hg', hc', hb, ?_⟩
                simp (decide := true) (dsimp := false) []
                refine ⟨gs', c', v, b, rfl, v2, by omega, hg', hc', hb, ?_⟩
                simp (decide := true) (dsimp := false) []
                refine ⟨_, rfl, rfl, by simp [depD], ?_⟩
                simp (decide := true) (dsimp := false) []
                refine ⟨v, rfl, v1, ?_⟩
                simp (decide := true) (dsimp := false) []
                exact hN _ ⟨_, _, _, _, _, _, _, _, _, _, _, _, _, _, _, _, _, _, rfl⟩
              · obtain ⟨x5, x6, xal, x12, x13, x14, x15, x16, x17, x18, x19, x20, x21, x22, x23, x24, x25, x26, rfl⟩ := hi
                simp (decide := true) (dsimp := false) []
end LW

/-! GLB: constants of a module: texts, ints, tuples of texts. -/
namespace DL
open PySem PySem.Spec PyProof.Rows L2
section
variable {K : PySem.W.Frag} {h : Heap} {mg : Str → Option Value} {x : Str} {p a : Addr}
theorem glOk_str {s : Str} {t : Tok} (X : K.In h) (G : h.Ns mainGlobals mg) (ha : PySem.W.nsIn K mainGlobals x = some (some (.str s t))) : GlOk K mg p x (.str s) :=
  ⟨.str s t, .str s, PySem.W.mg_of X G ha, ⟨t, rfl⟩, fun H => rfl⟩
theorem glOk_int {i : Int} {t : Tok} (X : K.In h) (G : h.Ns mainGlobals mg) (ha : PySem.W.nsIn K mainGlobals x = some (some (.int i t))) : GlOk K mg p x (.int i) :=
  ⟨.int i t, .int i, PySem.W.mg_of X G ha, ⟨t, rfl⟩, fun H => rfl⟩
theorem vals_strs : ∀ {ss : List Str} {vs : List Value}, vs.length = ss.length → (∀ (j : Nat) (s : Str) (v : Value), ss[j]? = some s → vs[j]? = some v → ∃ t, v = .str s t) → Vals (ss.map V.str) vs
  | [], [], _, _ => .nil
  | [], _ :: _, h, _ => by cases h
  | _ :: _, [], h, _ => by cases h
  | s :: ss, v :: vs, h, f => by
    obtain ⟨t, e⟩ := f 0 s v rfl rfl
    exact .cons ⟨t, e⟩ (vals_strs (by simpa using h) fun j s' v' e1 e2 => f (j + 1) s' v' (by simpa using e1) (by simpa using e2))
theorem repL_strs {H : Hp} : ∀ ss : List Str, RepL K p H (ss.map PyData.str) (ss.map V.str)
  | [] => rfl
  | s :: ss => ⟨_, _, rfl, rfl, repL_strs ss⟩
theorem glOk_ts {ss : List Str} {its : Array Value} {n : Nat} {sl : Array (Option Value)} (X : K.In h) (G : h.Ns mainGlobals mg) (ha : PySem.W.nsIn K mainGlobals x = some (some (.ref a))) (l : K.lookup a = some ⟨.type "tuple", none, .seq its n, sl⟩) (hl : its.size ≤ sizeLine) (r : Vals (ss.map V.str) its.toList) : GlOk K mg p x (.tuple (ss.map PyData.str)) :=
  ⟨.ref a, .ref a, PySem.W.mg_of X G ha, rfl, fun H => ⟨a, ss.map V.str, rfl, ⟨.inr ⟨_, its, n, l, rfl, rfl, hl, r⟩, .inr ⟨_, l, rfl⟩⟩, repL_strs ss⟩⟩
end
end DL

/-! LWR: the law's own call, at its one place: there no repr is under way. -/
namespace DL
open PySem PySem.Spec PyProof.Rows L2
section
variable {Pr : Program} {w : World} {K : PySem.W.Frag} {mg : Str → Option Value} {base : Heap}
/-- a def's call at one place -/
theorem fun_run {x : Str} {st : Stmt} {f : Addr} {fd : FuncData} {N ps : List Str} {k : Nat} {A : Around} {outer : List Env} {s : Shared} {H : Hp} {args : Args} {us : List Value} {vs : List V} {Q : VK} {E : XK} (F : Fun K x x st f fd) (S : FnScope N ps (defScope st))
    (hr : Room (k + 1) A) (e0 : Env0 Pr w K mg base A outer s H) (hb : BindsTo s fd args (ps.zip us)) (r : Vals vs us) (hl : vs.length = ps.length)
    (hbody : ∀ cdv : Value, Room k (A.deeper (envOfC x (defScope st) s.heap.objs.size f cdv)) → ∃ t, PSs (cxOf CX0 Pr w K mg base N x (defScope st) f cdv A outer s H E).nox (defBody st) t ∧ t { nx := fun _ H' => Q .non H', rt := Q } (L2.start N vs) H) :
    codeAny (model Pr w) A (.call (.ref f) args) (CR CX0 outer Pr w H s Q E) s := by
  obtain ⟨oc, od, kV, doc, pm, an, cdv, ct, osl, rfl, lk, hcd⟩ := F.ex
  obtain ⟨t, ht0, hq⟩ := hbody cdv (hr.deeper _)
  have ht := ht0.nox
  have KX : K.In s.heap := e0.mod.kin.keeps fun b o e => (e0.bs b o e).1
  have lim : s.heap.NoLimit := e0.mod.nolimit.keeps fun b o e => (e0.bs b o e).1
  have hkind : ∀ y ∈ ps.zip us, (defScope st).names.lookup y.1 = some .local ∨ ((defScope st).names.lookup y.1 = some .cell ∧ ((cellsFrom (s.heap.objs.size + 1) (defScope st).names []).lookup y.1).isSome = true) := fun ⟨n, v⟩ hy => by
    rcases S.par n (List.of_mem_zip hy).1 with q | q
    · exact .inl q
    · exact .inr ⟨q, PySem.W.cellsFrom_some _ _ _ (.inl q)⟩
  refine codeAny_call_function hr.depth (KX _ _ lk) rfl S.co S.gen rfl (PySem.W.codeRec_of KX hcd) (hb _ _ _ _ ?_)
  refine wpAny_newFunctionEnv_cells S.kind hkind fun env he s1 y => ?_
  subst he
  refine ⟨lim.keeps y.toInCall.keep, codeAny_func ?_⟩
  have I : Inv (cxOf CX0 Pr w K mg base N x (defScope st) f cdv A outer s H E) [] (L2.start N vs) H s1 := inv_start S hr.hd e0 hl r y
  refine wpAny_mono (ht.run [] s1 (L2.start N vs) H _ I hq) (fun fl s' hs => ?_) fun e s' hs => hs
  have fin : ∀ {σ' : L2.St} {H' : Hp} {v : V} {u : Value}, Inv (cxOf CX0 Pr w K mg base N x (defScope st) f cdv A outer s H E) [] σ' H' s' → RelV v u → Q v H' → L2.CE outer Pr w H s Q u s' :=
    fun {σ' H' v u} J rv q => ⟨v, H', J.os, J.bare, J.base, J.hok, rv, q⟩
  cases fl with
  | ret u =>
    obtain ⟨v, σ', H', J, rv, q⟩ := hs
    exact fin J rv q
  | next =>
    obtain ⟨σ', H', J, q⟩ := hs
    exact fin (v := V.non) (u := Value.none) J rfl q
  | brk =>
    obtain ⟨_, _, _, q⟩ := hs
    exact False.elim q
  | cont =>
    obtain ⟨_, _, _, q⟩ := hs
    exact False.elim q
/-- the law's promise at its own call: the heap behind the top holds the script alone -/
theorem law_callG {mb : Str → Option Value} {k : Nat} {fa a : Addr} {fd : FuncData} {s₁ : Shared} {vs : List Value} {ns : List Int} {x : Str}
    (KX : K.In s₁.heap) (hns : s₁.heap.Ns mainGlobals mg) (hb : s₁.heap.Ns builtinsNs mb) (hbb : ∀ x : Str, x ≠ "__name__" → mb x = bootBuiltins x) (hlim : s₁.heap.NoLimit) (hg : s₁.gens = #[])
    (ha : s₁.heap.get? a = some { cls := .type "list", data := .seq vs.toArray }) (hi : IntsAre vs ns) (hl : ns.length ≤ sizeLine) (hr : Room k callerA) (hbind : ∀ (s : Shared) (u : Value), BindsTo s fd ⟨[u], []⟩ [(x, u)])
    (F : ∀ (base : Heap) (H : Hp), K.In base → base.Ns mainGlobals mg → SqL K H a (ns.map V.int) → Env0 Pr w K mg base callerA [] s₁ H →
      codeAny (model Pr w) callerA (.call (.ref fa) ⟨[.ref a], []⟩) (CR CX0 [] Pr w H s₁ (fun v _ => v = .bl true) fun _ _ _ => False) s₁) :
    codeAny (model Pr w) callerA (.call (.ref fa) ⟨[.ref a], []⟩) (fun r s' => r = .ok (.ret (.bool true)) ∧ OldK s₁.heap s'.heap ∧ s'.os = s₁.os ∧ AllBare s'.gens) s₁ := by
  have rv := vals_ints hi
  have lenV := hi.length
  have core : ∀ H : Hp, L2.Only H → SqL K H a (ns.map V.int) → HOk Pr w H s₁.heap → (∀ b, H b ≠ none → b = a) → (H a ≠ none → K.lookup a = none) →
      codeAny (model Pr w) callerA (.call (.ref fa) ⟨[.ref a], []⟩) (fun r s' => r = .ok (.ret (.bool true)) ∧ OldK s₁.heap s'.heap ∧ s'.os = s₁.os ∧ AllBare s'.gens) s₁ := by
    intro H hO hS hok hA hK
    -- what is not tracked lies in the base
    have inB : ∀ {b : Addr} {o : Obj}, s₁.heap.get? b = some o → H b = none → (hidT s₁.heap H).get? b = some o := fun e n => hidT_get e n
    have only : ∀ {b : Addr} {u : HO}, H b = some u → b = a := fun {b u} q => hA b (by rw [q]; exact fun z => nomatch z)
    have dictB : ∀ {b : Addr} {o : Obj} {es : Array DictEntry} {ep : Nat}, s₁.heap.get? b = some o → o.data = .dict es ep → H b = none := fun {b o es ep} e d => by
      cases q : H b with
      | none => rfl
      | some u =>
        have z := only q
        subst z
        rw [ha] at e
        cases e
        cases (show Data.seq vs.toArray _ = Data.dict es ep from d)
    have nsB : ∀ {b : Addr} {m : Str → Option Value}, s₁.heap.Ns b m → (hidT s₁.heap H).Ns b m := fun {b m} z => by
      obtain ⟨o, es, ep, e, d, r⟩ := z
      exact ⟨o, es, ep, inB e (dictB e d), d, r⟩
    have kB : K.In (hidT s₁.heap H) := fun b o e => inB (KX b o e) (by
      cases q : H b with
      | none => rfl
      | some u =>
        have z := only q
        subst z
        rw [hK (by rw [q]; exact fun z => nomatch z)] at e
        cases e)
    have md : Mod K mg (hidT s₁.heap H) := by
      obtain ⟨mc, h1, h2⟩ := hlim
      exact ⟨kB, nsB hns, ⟨mb, nsB hb, hbb⟩, ⟨mc, nsB h1, h2⟩⟩
    have e0 : Env0 Pr w K mg (hidT s₁.heap H) callerA [] s₁ H := ⟨rfl, md, fun b o e => of_hidT e, Nat.le_of_eq (hidT_size _ _), trivial, fun b hb => (nomatch hb), hok, .of_eq hg⟩
    refine codeAny_mono (F _ H kB (nsB hns) hS e0) fun r s' h => ?_
    cases r with
    | error e => exact False.elim h
    | ok fl =>
      cases fl with
      | ret u =>
        obtain ⟨v, H', os, bare, un, hok', r', q⟩ := h
        have q' : v = .bl true := q
        subst q'
        obtain rfl : u = Value.bool true := r'
        refine ⟨rfl, OldK.of_keep fun b o e => ?_, os, bare⟩
        cases q : H b with
        | none => exact un.keep b o e q (fun z => nomatch z) (by simp)
        | some u =>
          rcases hO b with z | ⟨ob, xs, z⟩
          · rw [q] at z
            cases z
          · obtain ⟨e1, _⟩ := hok b _ z
            obtain ⟨e2, _⟩ := hok' b _ (un.frzs b ob _ z)
            rw [e] at e1
            cases e1
            exact e2
      | _ => exact False.elim h
  cases hk : K.lookup a with
  | some o =>
    have e := KX a o hk
    rw [ha] at e
    cases e
    refine core (fun _ => none) (fun _ => .inl rfl) (.inr ⟨_, vs.toArray, _, hk, rfl, rfl, rfl, by rw [List.size_toArray, lenV]; exact hl, by simpa using rv⟩) (fun b u z => by cases (show (none : Option HO) = some u from z)) (fun b z => absurd rfl z) fun z => absurd rfl z
  | none =>
    have at_ : ∀ b, b ≠ a → (fun b => if b = a then some (HO.frz { cls := .type "list", data := .seq vs.toArray } (.lst (ns.map V.int))) else none : Hp) b = none := fun b n => if_neg n
    refine core (fun b => if b = a then some (.frz { cls := .type "list", data := .seq vs.toArray } (.lst (ns.map V.int))) else none) (fun b => ?_) (.inl (.inr ⟨{ cls := .type "list", data := .seq vs.toArray }, if_pos rfl⟩)) (fun b u z => ?_) (fun b z => ?_) fun _ => hk
    · by_cases hb : b = a
      · exact .inr ⟨_, _, if_pos hb⟩
      · exact .inl (if_neg hb)
    · by_cases hb : b = a
      · have z' := (if_pos hb).symm.trans z
        cases z'
        subst hb
        exact ⟨ha, by rw [List.length_map]; exact hl, vs, _, rv, ha⟩
      · have z' := (if_neg hb).symm.trans z
        cases z'
    · by_cases hb : b = a
      · exact hb
      · exact absurd (if_neg hb) z
theorem law_goG {T : Tb} {G : Gm} {N : List Str} {sc : Scope} {body : CSs} {k : Nat} {x : Str} {f : Addr} {cdv : Value} {A : Around} {outer : List Env} {s : Shared} {H H' : Hp} {E : XK} {Q : VK} {a p a0 : Addr}
    (hgd : A.guards = some []) (hr : Room k (A.deeper (envOfC x sc s.heap.objs.size f cdv))) (nd : N.Nodup) (hk : fnC sc = true) (hn : 2 ≤ N.length)
    (calls : ∀ y id, (y, id) ∈ T.fn → ∃ sp, G.Φ id = some sp ∧ (DefOk Pr w K mg base p a0 y k sp ∨ (y = "repr" ∧ sp = spRepr))) (glbs : ∀ y id, (y, id) ∈ T.gl → ∃ d, G.Γ id = some d ∧ GlOk K mg p y d) (blts : ∀ y ∈ bltNames, mg y = none)
    (pk : PoolOk p a0 H') (hw : wpSs G body { nx := fun _ => False, rt := fun r => r = .v (.bool true) } (.no :: .val poolD :: List.replicate (N.length - 2) .no)) (hq : ∀ H', Q (.bl true) H') :
    tRest T N sc (cxOf CX0 Pr w K mg base N x sc f cdv A outer s H E).nox body { nx := fun _ H' => Q .non H', rt := Q } ((L2.start N [.ref a]).set 1 (some (.ref p))) H' := by
  have hkind : sc.kind = .function := by
    unfold fnC at hk
    split at hk
    · assumption
    · cases hk
  have un := hr.un
  have tr : ∀ b, decide (b = p) = true → ∃ o, H' b = some o := fun b hb => by
    obtain ⟨_, _, _, _, q, _⟩ := pk
    exact ⟨_, by rw [of_decide_eq_true hb]; exact q⟩
  let P : Pm := ⟨K, p, a0, H', fun b => decide (b = p), G, tr⟩
  refine ⟨P, ⟨⟨rfl, rfl, rfl, nd, rfl, ?_, fun y id hy => ?_, fun y id hy => ?_, blts⟩, fun _ => rfl, PassesOwn.never, hkind⟩, [], P.O0, _, _, ?_, hw, ⟨fun _ _ _ _ _ q => False.elim q, fun _ _ _ _ _ q => q, fun _ _ _ _ _ q => q, fun r v H' s1 p1 r1 q => ?_⟩⟩
  · show (A.deeper (envOfC x sc s.heap.objs.size f cdv)).units + 65 < cLine
    omega
  · obtain ⟨sp', q1, ⟨f', fd', ps', q2, q3, q4, q5⟩ | ⟨rfl, rfl⟩⟩ := calls y id hy
    · exact ⟨sp', q1, .inl ⟨f', fd', ps', k, q2, q3, q4, q5, hr⟩⟩
    · exact ⟨_, q1, .inr ⟨rfl, blts _ (by decide), hgd, by show (A.deeper (envOfC x sc s.heap.objs.size f cdv)).units + 100 < cLine; omega, rfl⟩⟩
  · obtain ⟨d, q1, u, v, q2, q3, q4⟩ := glbs y id hy
    exact ⟨d, u, v, q1, q2, q3, q4⟩
  · refine ⟨SameP.refl H', pk, pk, by show decide (p = p) = true; simp, tr, fun _ h => h, ?_, fun i u e => ?_, fun i j b es es' e1 => ?_, fun g hg => nomatch hg⟩
    · unfold L2.start
      simp
      omega
    · cases i with
      | zero =>
        have e' := Option.some.inj e
        subst e'
        exact trivial
      | succ i =>
        cases i with
        | zero =>
          have e' := Option.some.inj e
          subst e'
          refine ⟨.ref p, ?_, .inl ⟨rfl, rfl⟩⟩
          rw [List.getElem?_set_self]
          unfold L2.start
          simp
          omega
        | succ i =>
          have e1 : (List.replicate (N.length - 2) Sl.no)[i]? = some u := e
          rw [List.getElem?_replicate] at e1
          split at e1
          · cases e1
            exact trivial
          · cases e1
    · exfalso
      cases i with
      | zero => cases e1
      | succ i =>
        cases i with
        | zero => cases e1
        | succ i =>
          have e2 : (List.replicate (N.length - 2) Sl.no)[i]? = some (Sl.own es) := e1
          rw [List.getElem?_replicate] at e2
          split at e2
          · cases e2
          · cases e2
  · subst q
    rw [show v = .bl true from r1]
    exact hq _
end
/-- the walk of a law that asks for repr -/
theorem walk_ofG {l : PySem.W.OpenLaw} {n k : Nat} {q : Program} {loose : List Str} {XP : (Str → Option Value) → Heap → Prop} {YP : World → Heap → Prop} {d : DefRec} {K : Params → PySem.W.Frag} {x : Str}
    (hn : l.most = some n) (hn2 : n ≤ sizeLine) (hdf : d.params.defaults = []) (hr : Room k callerA) (hY : ∀ (w : World) (h : Heap), YP w h → (K w.params).In h)
    (F : ∀ (w : World) (mg : Str → Option Value) (fa : Addr) (h : Heap), (K w.params).In h → h.Ns mainGlobals mg → mg d.name = some (.ref fa) →
      ∃ fd : FuncData, (∀ (s : Shared) (u : Value), BindsTo s fd ⟨[u], []⟩ [(x, u)]) ∧ ∀ (s₁ : Shared) (a : Addr) (ns : List Int) (base : Heap) (H : Hp), (K w.params).In base → base.Ns mainGlobals mg → ns.length ≤ n → SqL (K w.params) H a (ns.map V.int) →
        Env0 l.prog w (K w.params) mg base callerA [] s₁ H → codeAny (model l.prog w) callerA (.call (.ref fa) ⟨[.ref a], []⟩) (CR CX0 [] l.prog w H s₁ (fun v _ => v = .bl true) fun _ _ _ => False) s₁) :
    PySem.W.WalkO q loose XP YP l.row.toRowW d [] (fun f vs => PySem.call f vs) := by
  refine Att.attach_call hn hdf fun w s₀ s₁ mg mb fa o pm cd doc a vs ns G Y ho hd hcd hmg hobj hints hlen hg => ?_
  have KX := hY w _ Y
  obtain ⟨fd, hb, hF⟩ := F w mg fa _ KX G.T.g hmg
  exact law_callG KX G.T.g G.T.b G.T.builtins G.T.nolimit hg hobj hints (Nat.le_trans hlen hn2) hr hb fun base H kb nb hS e0 => hF s₁ a ns base H kb nb hlen hS e0
end DL

namespace LW
open PySem PySem.Spec PyProof.Rows L2 DL
section
variable {Pr : Program} {w : World} {K : PySem.W.Frag} {mg : Str → Option Value} {base : Heap}
theorem scL : FnScope ["script", "pool", "names", "theory", "rows", "k", "row", "claim", "tried", "one", "two", "alone", "word", "due", "base", "pairs", "i", "j", "a", "b", "c", "d", "near", "value", "at", "given", "seen"] ["script"] (defScope s_law) := ⟨rfl, rfl, rfl, by decide +kernel, rfl, by decide +kernel, by decide +kernel⟩
def restL : List Stmt := (defBody s_law).drop 1
abbrev TL : Tb := ⟨[("repr", 99), ("_law_same", 31), ("_law_is_derivation", 23), ("is_derivation", 8), ("_law_put", 30), ("_law_pick", 12), ("_law_draw", 11), ("_law_bent", 29), ("_law_formula", 13), ("_law_is_claim", 19), ("_law_row", 16), ("_law_theory", 15)], []⟩
theorem t_law : cSL (cS TL ["script", "pool", "names", "theory", "rows", "k", "row", "claim", "tried", "one", "two", "alone", "word", "due", "base", "pairs", "i", "j", "a", "b", "c", "d", "near", "value", "at", "given", "seen"] 40 (defScope s_law) 40) restL = some c_law := by rfl
structure Defs (K : PySem.W.Frag) (mg : Str → Option Value) : Prop where
  is_integer_ : DefAt K mg "is_integer" s_is_integer ["value"]
  is_word_ : DefAt K mg "is_word" s_is_word ["value"]
  is_within_ : DefAt K mg "is_within" s_is_within ["value", "deep"]
  is_row_ : DefAt K mg "is_row" s_is_row ["value"]
  alone_shows_ : DefAt K mg "alone_shows" s_alone_shows ["claim", "word"]
  row_shows_ : DefAt K mg "row_shows" s_row_shows ["claim", "word", "before"]
  rows_show_ : DefAt K mg "rows_show" s_rows_show ["claim", "word", "left", "right"]
  is_shown_ : DefAt K mg "is_shown" s_is_shown ["theory", "rows", "k"]
  is_derivation_ : DefAt K mg "is_derivation" s_is_derivation ["theory", "claim", "value"]
  law_pool_ : DefAt K mg "_law_pool" s_law_pool ["script"]
  law_spread_ : DefAt K mg "_law_spread" s_law_spread ["cell"]
  law_draw_ : DefAt K mg "_law_draw" s_law_draw ["pool", "many"]
  law_pick_ : DefAt K mg "_law_pick" s_law_pick ["pool", "items"]
  law_formula_ : DefAt K mg "_law_formula" s_law_formula ["pool", "names", "deep"]
  law_claim_ : DefAt K mg "_law_claim" s_law_claim ["pool", "names", "deep"]
  law_theory_ : DefAt K mg "_law_theory" s_law_theory ["pool", "names", "many", "deep"]
  law_row_ : DefAt K mg "_law_row" s_law_row ["pool", "theory", "rows", "names"]
  law_is_word_ : DefAt K mg "_law_is_word" s_law_is_word ["value"]
  law_is_formula_ : DefAt K mg "_law_is_formula" s_law_is_formula ["value", "deep"]
  law_is_claim_ : DefAt K mg "_law_is_claim" s_law_is_claim ["value", "deep"]
  law_is_integer_ : DefAt K mg "_law_is_integer" s_law_is_integer ["actual"]
  law_shown_alone_ : DefAt K mg "_law_shown_alone" s_law_shown_alone ["claim", "word"]
  law_shown_ : DefAt K mg "_law_shown" s_law_shown ["theory", "rows", "k"]
  law_is_derivation_ : DefAt K mg "_law_is_derivation" s_law_is_derivation ["theory", "claim", "value"]
  law_spots_ : DefAt K mg "_law_spots" s_law_spots ["value", "path"]
  law_spot_put_ : DefAt K mg "_law_spot_put" s_law_spot_put ["value", "path", "item"]
  law_bent_spot_ : DefAt K mg "_law_bent_spot" s_law_bent_spot ["pool", "value"]
  law_spot_ : DefAt K mg "_law_spot" s_law_spot ["value", "path"]
  law_odd_values_ : DefAt K mg "_law_odd_values" s_law_odd_values []
  law_bent_ : DefAt K mg "_law_bent" s_law_bent ["pool", "paper", "many"]
  law_put_ : DefAt K mg "_law_put" s_law_put ["row", "at", "item"]
  law_same_ : DefAt K mg "_law_same" s_law_same ["actual", "due"]
  blts : ∀ y ∈ bltNames, mg y = none
  gLETTERS : ∀ p, GlOk K mg p "LETTERS" (.str "abcdefghijklmnopqrstuvwxyz")
  gTAKEN : ∀ p, GlOk K mg p "TAKEN" (.tuple ((["all", "and", "below", "none", "not", "or"] : List Str).map PyData.str))
  gMOST_LETTERS : ∀ p, GlOk K mg p "MOST_LETTERS" (.int 12)
  gALL : ∀ p, GlOk K mg p "ALL" (.tuple ((["all"] : List Str).map PyData.str))
  gNONE : ∀ p, GlOk K mg p "NONE" (.tuple ((["none"] : List Str).map PyData.str))
  gMOST_DEPTH : ∀ p, GlOk K mg p "MOST_DEPTH" (.int 40)
  gALONE : ∀ p, GlOk K mg p "ALONE" (.tuple ((["same", "twice", "low", "first", "second", "one", "other"] : List Str).map PyData.str))
variable {p a0 : Addr}
theorem D_law_spread (A : Defs K mg) : DefOk Pr w K mg base p a0 "_law_spread" 1 spSpread := A.law_spread_.ok (G := G0) sc_law_spread t_law_spread A.blts calls_nil calls_nil w_law_spread
theorem D_law_draw (A : Defs K mg) : DefOk Pr w K mg base p a0 "_law_draw" 2 spDraw := A.law_draw_.hand fun F => ok_draw F (D_law_spread A) (A.blts _ (by decide)) (A.blts _ (by decide))
theorem defOk_imp {x : Str} {k : Nat} {sp sp' : SpD} (h : DefOk Pr w K mg base p a0 x k sp) (g : ∀ ds Q, sp' ds Q → sp ds Q) : DefOk Pr w K mg base p a0 x k sp' := by
  obtain ⟨f, fd, ps, h1, h2, h3, h4⟩ := h
  refine ⟨f, fd, ps, h1, h2, h3, h4.imp fun vs H Q E q => ?_⟩
  obtain ⟨ds, O, Qd, a1, a2, a3, a4, q, r⟩ := q
  exact ⟨ds, O, Qd, a1, a2, a3, a4, g ds Qd q, r⟩
theorem D_law_pick2 (A : Defs K mg) : DefOk Pr w K mg base p a0 "_law_pick" 3 spPick2 := A.law_pick_.ok (G := Gdr) sc_law_pick t_law_pick A.blts (calls_cons ⟨_, rfl, (D_law_draw A).mono (by decide)⟩ calls_nil) calls_nil w_law_pick2
theorem D_law_pick (A : Defs K mg) : DefOk Pr w K mg base p a0 "_law_pick" 3 spPick := defOk_imp (D_law_pick2 A) fun ds Q h => by
  obtain ⟨items, rfl, h1, h2, q⟩ := h
  exact ⟨items, _, rfl, .inl rfl, h1, h2, q⟩
theorem D_law_same (A : Defs K mg) : ∀ n, DefOk Pr w K mg base p a0 "_law_same" n (spSame n)
  | 0 => A.law_same_.none fun ds Q h => by
    obtain ⟨_, _, _, h, _⟩ := h
    exact Nat.not_lt_zero _ h
  | n + 1 => A.law_same_.ok (G := Gsa n) sc_law_same t_law_same A.blts (calls_cons ⟨_, rfl, D_law_same A n⟩ calls_nil) calls_nil (w_law_same n)
theorem D_law_formula (A : Defs K mg) : ∀ n, DefOk Pr w K mg base p a0 "_law_formula" (3 + n) (spForm n)
  | 0 => A.law_formula_.none fun ds Q h => by
    obtain ⟨_, _, _, _, _, h, _⟩ := h
    exact Nat.not_lt_zero _ h
  | n + 1 => A.law_formula_.ok (G := Gfo n) sc_law_formula t_law_formula A.blts (calls_cons ⟨_, rfl, D_law_formula A n⟩ (calls_cons ⟨_, rfl, (D_law_pick A).mono (Nat.le_add_right 3 n)⟩ (calls_cons ⟨_, rfl, (D_law_draw A).mono (Nat.le_trans (by decide : 2 ≤ 3) (Nat.le_add_right 3 n))⟩ calls_nil))) calls_nil (w_law_formula n)
theorem D_is_integer (A : Defs K mg) : DefOk Pr w K mg base p a0 "is_integer" 1 spIsI := A.is_integer_.ok (G := G0) sc_is_integer t_is_integer A.blts calls_nil calls_nil w_is_integer
theorem D_law_is_integer (A : Defs K mg) : DefOk Pr w K mg base p a0 "_law_is_integer" 1 spIsI := A.law_is_integer_.ok (G := G0) sc_law_is_integer t_law_is_integer A.blts calls_nil calls_nil w_law_is_integer
theorem D_is_word (A : Defs K mg) : DefOk Pr w K mg base p a0 "is_word" 1 spIsW := A.is_word_.ok (G := Gw) sc_is_word t_is_word A.blts calls_nil (calls_cons ⟨_, rfl, A.gLETTERS p⟩ (calls_cons ⟨_, rfl, A.gMOST_LETTERS p⟩ (calls_cons ⟨_, rfl, A.gTAKEN p⟩ calls_nil))) w_is_word
theorem D_law_is_word (A : Defs K mg) : DefOk Pr w K mg base p a0 "_law_is_word" 1 spIsW := A.law_is_word_.ok (G := G0) sc_law_is_word t_law_is_word A.blts calls_nil calls_nil w_law_is_word
theorem D_is_within (A : Defs K mg) : ∀ n, DefOk Pr w K mg base p a0 "is_within" (1 + n) (spIsFm n)
  | 0 => A.is_within_.none fun ds Q h => by
    obtain ⟨_, _, _, h, _⟩ := h
    exact Nat.not_lt_zero _ h
  | n + 1 => A.is_within_.ok (G := Gwi n) sc_is_within t_is_within A.blts (calls_cons ⟨_, rfl, D_is_within A n⟩ (calls_cons ⟨_, rfl, (D_is_word A).mono (Nat.le_add_right 1 n)⟩ calls_nil)) calls_nil (w_is_within n)
theorem D_law_is_formula (A : Defs K mg) : ∀ n, DefOk Pr w K mg base p a0 "_law_is_formula" (1 + n) (spIsFm n)
  | 0 => A.law_is_formula_.none fun ds Q h => by
    obtain ⟨_, _, _, h, _⟩ := h
    exact Nat.not_lt_zero _ h
  | n + 1 => A.law_is_formula_.ok (G := Glf n) sc_law_is_formula t_law_is_formula A.blts (calls_cons ⟨_, rfl, D_law_is_formula A n⟩ (calls_cons ⟨_, rfl, (D_law_is_word A).mono (Nat.le_add_right 1 n)⟩ calls_nil)) calls_nil (w_law_is_formula n)
theorem D_is_row (A : Defs K mg) : DefOk Pr w K mg base p a0 "is_row" 44 spIsRow := A.is_row_.ok (G := Gir) sc_is_row t_is_row A.blts (calls_cons ⟨_, rfl, (D_is_integer A).mono (by decide)⟩ (calls_cons ⟨_, rfl, (D_is_within A 42).mono (by decide)⟩ calls_nil)) (calls_cons ⟨_, rfl, A.gMOST_DEPTH p⟩ calls_nil) w_is_row
theorem D_alone_shows (A : Defs K mg) : DefOk Pr w K mg base p a0 "alone_shows" 1 spAlone := A.alone_shows_.ok (G := Gal) sc_alone_shows t_alone_shows A.blts calls_nil (calls_cons ⟨_, rfl, A.gALL p⟩ (calls_cons ⟨_, rfl, A.gNONE p⟩ calls_nil)) w_alone_shows
theorem D_row_shows (A : Defs K mg) : DefOk Pr w K mg base p a0 "row_shows" 1 spRowSh := A.row_shows_.ok (G := G0) sc_row_shows t_row_shows A.blts calls_nil calls_nil w_row_shows
theorem D_rows_show (A : Defs K mg) : DefOk Pr w K mg base p a0 "rows_show" 1 spRowsSh := A.rows_show_.ok (G := G0) sc_rows_show t_rows_show A.blts calls_nil calls_nil w_rows_show
theorem D_is_shown (A : Defs K mg) : DefOk Pr w K mg base p a0 "is_shown" 2 spShown := A.is_shown_.ok (G := Gir) sc_is_shown t_is_shown A.blts (calls_cons ⟨_, rfl, (D_rows_show A).mono (by decide)⟩ (calls_cons ⟨_, rfl, (D_row_shows A).mono (by decide)⟩ (calls_cons ⟨_, rfl, (D_alone_shows A).mono (by decide)⟩ calls_nil))) (calls_cons ⟨_, rfl, A.gALONE p⟩ calls_nil) w_is_shown
theorem D_is_derivation (A : Defs K mg) : DefOk Pr w K mg base p a0 "is_derivation" 45 spDrv := A.is_derivation_.ok (G := Gir) sc_is_derivation t_is_derivation A.blts (calls_cons ⟨_, rfl, (D_is_shown A).mono (by decide)⟩ (calls_cons ⟨_, rfl, (D_is_row A).mono (by decide)⟩ calls_nil)) calls_nil w_is_derivation
theorem D_law_is_claim (A : Defs K mg) : DefOk Pr w K mg base p a0 "_law_is_claim" 44 spClLn := A.law_is_claim_.ok (G := Gll) sc_law_is_claim t_law_is_claim A.blts (calls_cons ⟨_, rfl, (D_law_is_formula A 42).mono (by decide)⟩ calls_nil) calls_nil w_law_is_claim
theorem D_law_shown_alone (A : Defs K mg) : DefOk Pr w K mg base p a0 "_law_shown_alone" 1 spLAlone := A.law_shown_alone_.ok (G := G0) sc_law_shown_alone t_law_shown_alone A.blts calls_nil calls_nil w_law_shown_alone
theorem D_law_shown (A : Defs K mg) : DefOk Pr w K mg base p a0 "_law_shown" 2 spShown := A.law_shown_.ok (G := Gll) sc_law_shown t_law_shown A.blts (calls_cons ⟨_, rfl, (D_law_shown_alone A).mono (by decide)⟩ calls_nil) calls_nil w_law_shown
theorem D_law_is_derivation (A : Defs K mg) : DefOk Pr w K mg base p a0 "_law_is_derivation" 45 spDrv := A.law_is_derivation_.ok (G := Gll) sc_law_is_derivation t_law_is_derivation A.blts (calls_cons ⟨_, rfl, (D_law_shown A).mono (by decide)⟩ (calls_cons ⟨_, rfl, (D_law_is_integer A).mono (by decide)⟩ (calls_cons ⟨_, rfl, (D_law_is_claim A).mono (by decide)⟩ calls_nil))) calls_nil w_law_is_derivation
theorem D_law_put (A : Defs K mg) : DefOk Pr w K mg base p a0 "_law_put" 1 spPutR := A.law_put_.ok (G := G0) sc_law_put t_law_put A.blts calls_nil calls_nil w_law_put
theorem D_law_claim (A : Defs K mg) : DefOk Pr w K mg base p a0 "_law_claim" 6 (spClaim 2) := A.law_claim_.ok (G := (Gcl 2)) sc_law_claim t_law_claim A.blts (calls_cons ⟨_, rfl, (D_law_formula A 2).mono (by decide)⟩ (calls_cons ⟨_, rfl, (D_law_draw A).mono (by decide)⟩ calls_nil)) calls_nil (w_law_claim 2)
theorem D_law_theory (A : Defs K mg) : DefOk Pr w K mg base p a0 "_law_theory" 7 (spTheory 2) := A.law_theory_.ok (G := (Gcl 2)) sc_law_theory t_law_theory A.blts (calls_cons ⟨_, rfl, (D_law_draw A).mono (by decide)⟩ (calls_cons ⟨_, rfl, (D_law_claim A).mono (by decide)⟩ calls_nil)) calls_nil (w_law_theory 2)
theorem D_law_row (A : Defs K mg) : DefOk Pr w K mg base p a0 "_law_row" 6 spRowL := A.law_row_.ok (G := Glr) sc_law_row t_law_row A.blts (calls_cons ⟨_, rfl, (D_law_pick A).mono (by decide)⟩ (calls_cons ⟨_, rfl, (D_law_draw A).mono (by decide)⟩ (calls_cons ⟨_, rfl, (D_law_formula A 2).mono (by decide)⟩ calls_nil))) calls_nil w_law_row
theorem D_law_spots (A : Defs K mg) : ∀ n, DefOk Pr w K mg base p a0 "_law_spots" n (spSpots n)
  | 0 => A.law_spots_.none fun ds Q h => by
    obtain ⟨_, _, _, h, _⟩ := h
    exact Nat.not_lt_zero _ h
  | n + 1 => A.law_spots_.ok (G := Gsp n) sc_law_spots t_law_spots A.blts (calls_cons ⟨_, rfl, D_law_spots A n⟩ calls_nil) calls_nil (w_law_spots n)
theorem D_law_spot_put (A : Defs K mg) : ∀ n, DefOk Pr w K mg base p a0 "_law_spot_put" n (spPutP n)
  | 0 => A.law_spot_put_.none fun ds Q h => by
    obtain ⟨_, _, _, _, h, _⟩ := h
    exact Nat.not_lt_zero _ h
  | n + 1 => A.law_spot_put_.ok (G := Gpu n) sc_law_spot_put t_law_spot_put A.blts (calls_cons ⟨_, rfl, D_law_spot_put A n⟩ calls_nil) calls_nil (w_law_spot_put n)
theorem D_law_odd_values (A : Defs K mg) : DefOk Pr w K mg base p a0 "_law_odd_values" 1 spOdd := A.law_odd_values_.ok (G := G0) sc_law_odd_values t_law_odd_values A.blts calls_nil calls_nil w_law_odd_values
theorem D_law_bent_spot (A : Defs K mg) : DefOk Pr w K mg base p a0 "_law_bent_spot" 4 spBentSpot := A.law_bent_spot_.ok (G := Gbs) sc_law_bent_spot t_law_bent_spot A.blts (calls_cons ⟨_, rfl, (D_law_pick A).mono (by decide)⟩ calls_nil) calls_nil w_law_bent_spot
theorem D_law_spot (A : Defs K mg) : DefOk Pr w K mg base p a0 "_law_spot" 1 spSpot := A.law_spot_.ok (G := G0) sc_law_spot t_law_spot A.blts calls_nil calls_nil w_law_spot
theorem D_law_bent (A : Defs K mg) : DefOk Pr w K mg base p a0 "_law_bent" 25 (spBent 24) := A.law_bent_.ok (G := (Gbe 24)) sc_law_bent t_law_bent A.blts (calls_cons ⟨_, rfl, (D_law_odd_values A).mono (by decide)⟩ (calls_cons ⟨_, rfl, (D_law_spot_put A 24).mono (by decide)⟩ (calls_cons ⟨_, rfl, (D_law_bent_spot A).mono (by decide)⟩ (calls_cons ⟨_, rfl, (D_law_spot A).mono (by decide)⟩ (calls_cons ⟨_, rfl, (D_law_pick A).mono (by decide)⟩ (calls_cons ⟨_, rfl, (D_law_spots A 24).mono (by decide)⟩ calls_nil)))))) calls_nil (w_law_bent 24)
theorem ok_lawG {f : Addr} {fd : FuncData} (F : Fun K "law" "law" s_law f fd) (A : Defs K mg) {s₁ : Shared} {a : Addr} {ns : List Int} {H : Hp} (hl : ns.length ≤ 63) (hS : SqL K H a (ns.map V.int)) (e0 : Env0 Pr w K mg base callerA [] s₁ H)
    (hb : BindsTo s₁ fd ⟨[.ref a], []⟩ ((["script"] : List Str).zip [Value.ref a])) : codeAny (model Pr w) callerA (.call (.ref f) ⟨[.ref a], []⟩) (CR CX0 [] Pr w H s₁ (fun v _ => v = .bl true) fun _ _ _ => False) s₁ := by
  obtain ⟨fP, fdP, FP, gP, bP⟩ := A.law_pool_
  have GP : FnOk Pr w K mg base CX0 1 fP fdP ["script"] (spPool K) := ok_pool FP (A.blts _ (by decide)) (A.blts _ (by decide))
  refine fun_run (k := 49) (vs := [.ref a]) F scL ⟨rfl, by decide, by decide⟩ e0 hb (.cons rfl .nil) rfl fun cdv hr => ?_
  refine ⟨_, pss_cons (ps_set (i := 1) scL.nd rfl (by first | exact .inl rfl | exact .inr rfl) (pe_call GP (hr.mono (by decide)) rfl gP FP.kp bP .nil pass0 (pa_cons (pv 0) pa_nil))) (law_rest (rest := restL) t_law), ?_⟩
  refine ⟨_, rfl, a, ns, rfl, hS, hl, fun p a0 H' sm np pk => ?_⟩
  have hc : ∀ y id, (y, id) ∈ TL.fn → ∃ sp, Gl.Φ id = some sp ∧ (DefOk Pr w K mg base p a0 y 49 sp ∨ (y = "repr" ∧ sp = spRepr)) := (calls_cons ⟨_, rfl, .inr ⟨rfl, rfl⟩⟩ (calls_cons ⟨_, rfl, .inl ((D_law_same A 2).mono (by decide))⟩ (calls_cons ⟨_, rfl, .inl ((D_law_is_derivation A).mono (by decide))⟩ (calls_cons ⟨_, rfl, .inl ((D_is_derivation A).mono (by decide))⟩ (calls_cons ⟨_, rfl, .inl ((D_law_put A).mono (by decide))⟩ (calls_cons ⟨_, rfl, .inl ((D_law_pick2 A).mono (by decide))⟩ (calls_cons ⟨_, rfl, .inl ((D_law_draw A).mono (by decide))⟩ (calls_cons ⟨_, rfl, .inl ((D_law_bent A).mono (by decide))⟩ (calls_cons ⟨_, rfl, .inl ((D_law_formula A 2).mono (by decide))⟩ (calls_cons ⟨_, rfl, .inl ((D_law_is_claim A).mono (by decide))⟩ (calls_cons ⟨_, rfl, .inl ((D_law_row A).mono (by decide))⟩ (calls_cons ⟨_, rfl, .inl ((D_law_theory A).mono (by decide))⟩ calls_nil))))))))))))
  have hg : ∀ y id, (y, id) ∈ TL.gl → ∃ d, Gl.Γ id = some d ∧ GlOk K mg p y d := calls_nil
  have key := law_goG (Pr := Pr) (w := w) (K := K) (mg := mg) (base := base) (T := TL) (A := callerA) (outer := []) (s := s₁) (H := H) (E := fun _ _ _ => False) (Q := fun v _ => v = .bl true) (x := "law") (f := f) (cdv := cdv) (body := c_law) (sc := defScope s_law) (N := ["script", "pool", "names", "theory", "rows", "k", "row", "claim", "tried", "one", "two", "alone", "word", "due", "base", "pairs", "i", "j", "a", "b", "c", "d", "near", "value", "at", "given", "seen"]) (a := a) (G := Gl) rfl hr scL.nd rfl (by decide) hc hg A.blts pk w_law (fun _ => rfl)
  exact key
end
theorem all_mk {l : PySem.W.OpenLaw} {w : World} {K : PySem.W.Frag} {h : Heap} {mg : Str → Option Value} {fa : Addr} (X : K.In h) (G : h.Ns mainGlobals mg) (hfa : mg "law" = some (.ref fa))
    {f0 : Addr} {od0 an0 : Option Addr} {sl0 : Array (Option Value)} {oc0 kV0 dc0 pm0 cd0 ct0 : Value} (a0 : PySem.W.nsIn K mainGlobals "is_integer" = some (some (.ref f0))) (l0 : K.lookup f0 = some ⟨oc0, od0, .func (PySem.W.fnOf "is_integer" "is_integer" (defArgs s_is_integer) (defBody s_is_integer) (defScope s_is_integer) .none kV0 dc0 pm0 an0 cd0 ct0), sl0⟩) (c0 : PySem.W.codeIn K cd0 "is_integer" = true) (k0 : PySem.W.keepIn K (.ref f0) = true)
    {f1 : Addr} {od1 an1 : Option Addr} {sl1 : Array (Option Value)} {oc1 kV1 dc1 pm1 cd1 ct1 : Value} (a1 : PySem.W.nsIn K mainGlobals "is_word" = some (some (.ref f1))) (l1 : K.lookup f1 = some ⟨oc1, od1, .func (PySem.W.fnOf "is_word" "is_word" (defArgs s_is_word) (defBody s_is_word) (defScope s_is_word) .none kV1 dc1 pm1 an1 cd1 ct1), sl1⟩) (c1 : PySem.W.codeIn K cd1 "is_word" = true) (k1 : PySem.W.keepIn K (.ref f1) = true)
    {f2 : Addr} {od2 an2 : Option Addr} {sl2 : Array (Option Value)} {oc2 kV2 dc2 pm2 cd2 ct2 : Value} (a2 : PySem.W.nsIn K mainGlobals "is_within" = some (some (.ref f2))) (l2 : K.lookup f2 = some ⟨oc2, od2, .func (PySem.W.fnOf "is_within" "is_within" (defArgs s_is_within) (defBody s_is_within) (defScope s_is_within) .none kV2 dc2 pm2 an2 cd2 ct2), sl2⟩) (c2 : PySem.W.codeIn K cd2 "is_within" = true) (k2 : PySem.W.keepIn K (.ref f2) = true)
    {f3 : Addr} {od3 an3 : Option Addr} {sl3 : Array (Option Value)} {oc3 kV3 dc3 pm3 cd3 ct3 : Value} (a3 : PySem.W.nsIn K mainGlobals "is_row" = some (some (.ref f3))) (l3 : K.lookup f3 = some ⟨oc3, od3, .func (PySem.W.fnOf "is_row" "is_row" (defArgs s_is_row) (defBody s_is_row) (defScope s_is_row) .none kV3 dc3 pm3 an3 cd3 ct3), sl3⟩) (c3 : PySem.W.codeIn K cd3 "is_row" = true) (k3 : PySem.W.keepIn K (.ref f3) = true)
    {f4 : Addr} {od4 an4 : Option Addr} {sl4 : Array (Option Value)} {oc4 kV4 dc4 pm4 cd4 ct4 : Value} (a4 : PySem.W.nsIn K mainGlobals "alone_shows" = some (some (.ref f4))) (l4 : K.lookup f4 = some ⟨oc4, od4, .func (PySem.W.fnOf "alone_shows" "alone_shows" (defArgs s_alone_shows) (defBody s_alone_shows) (defScope s_alone_shows) .none kV4 dc4 pm4 an4 cd4 ct4), sl4⟩) (c4 : PySem.W.codeIn K cd4 "alone_shows" = true) (k4 : PySem.W.keepIn K (.ref f4) = true)
    {f5 : Addr} {od5 an5 : Option Addr} {sl5 : Array (Option Value)} {oc5 kV5 dc5 pm5 cd5 ct5 : Value} (a5 : PySem.W.nsIn K mainGlobals "row_shows" = some (some (.ref f5))) (l5 : K.lookup f5 = some ⟨oc5, od5, .func (PySem.W.fnOf "row_shows" "row_shows" (defArgs s_row_shows) (defBody s_row_shows) (defScope s_row_shows) .none kV5 dc5 pm5 an5 cd5 ct5), sl5⟩) (c5 : PySem.W.codeIn K cd5 "row_shows" = true) (k5 : PySem.W.keepIn K (.ref f5) = true)
    {f6 : Addr} {od6 an6 : Option Addr} {sl6 : Array (Option Value)} {oc6 kV6 dc6 pm6 cd6 ct6 : Value} (a6 : PySem.W.nsIn K mainGlobals "rows_show" = some (some (.ref f6))) (l6 : K.lookup f6 = some ⟨oc6, od6, .func (PySem.W.fnOf "rows_show" "rows_show" (defArgs s_rows_show) (defBody s_rows_show) (defScope s_rows_show) .none kV6 dc6 pm6 an6 cd6 ct6), sl6⟩) (c6 : PySem.W.codeIn K cd6 "rows_show" = true) (k6 : PySem.W.keepIn K (.ref f6) = true)
    {f7 : Addr} {od7 an7 : Option Addr} {sl7 : Array (Option Value)} {oc7 kV7 dc7 pm7 cd7 ct7 : Value} (a7 : PySem.W.nsIn K mainGlobals "is_shown" = some (some (.ref f7))) (l7 : K.lookup f7 = some ⟨oc7, od7, .func (PySem.W.fnOf "is_shown" "is_shown" (defArgs s_is_shown) (defBody s_is_shown) (defScope s_is_shown) .none kV7 dc7 pm7 an7 cd7 ct7), sl7⟩) (c7 : PySem.W.codeIn K cd7 "is_shown" = true) (k7 : PySem.W.keepIn K (.ref f7) = true)
    {f8 : Addr} {od8 an8 : Option Addr} {sl8 : Array (Option Value)} {oc8 kV8 dc8 pm8 cd8 ct8 : Value} (a8 : PySem.W.nsIn K mainGlobals "is_derivation" = some (some (.ref f8))) (l8 : K.lookup f8 = some ⟨oc8, od8, .func (PySem.W.fnOf "is_derivation" "is_derivation" (defArgs s_is_derivation) (defBody s_is_derivation) (defScope s_is_derivation) .none kV8 dc8 pm8 an8 cd8 ct8), sl8⟩) (c8 : PySem.W.codeIn K cd8 "is_derivation" = true) (k8 : PySem.W.keepIn K (.ref f8) = true)
    {f9 : Addr} {od9 an9 : Option Addr} {sl9 : Array (Option Value)} {oc9 kV9 dc9 pm9 cd9 ct9 : Value} (a9 : PySem.W.nsIn K mainGlobals "_law_pool" = some (some (.ref f9))) (l9 : K.lookup f9 = some ⟨oc9, od9, .func (PySem.W.fnOf "_law_pool" "_law_pool" (defArgs s_law_pool) (defBody s_law_pool) (defScope s_law_pool) .none kV9 dc9 pm9 an9 cd9 ct9), sl9⟩) (c9 : PySem.W.codeIn K cd9 "_law_pool" = true) (k9 : PySem.W.keepIn K (.ref f9) = true)
    {f10 : Addr} {od10 an10 : Option Addr} {sl10 : Array (Option Value)} {oc10 kV10 dc10 pm10 cd10 ct10 : Value} (a10 : PySem.W.nsIn K mainGlobals "_law_spread" = some (some (.ref f10))) (l10 : K.lookup f10 = some ⟨oc10, od10, .func (PySem.W.fnOf "_law_spread" "_law_spread" (defArgs s_law_spread) (defBody s_law_spread) (defScope s_law_spread) .none kV10 dc10 pm10 an10 cd10 ct10), sl10⟩) (c10 : PySem.W.codeIn K cd10 "_law_spread" = true) (k10 : PySem.W.keepIn K (.ref f10) = true)
    {f11 : Addr} {od11 an11 : Option Addr} {sl11 : Array (Option Value)} {oc11 kV11 dc11 pm11 cd11 ct11 : Value} (a11 : PySem.W.nsIn K mainGlobals "_law_draw" = some (some (.ref f11))) (l11 : K.lookup f11 = some ⟨oc11, od11, .func (PySem.W.fnOf "_law_draw" "_law_draw" (defArgs s_law_draw) (defBody s_law_draw) (defScope s_law_draw) .none kV11 dc11 pm11 an11 cd11 ct11), sl11⟩) (c11 : PySem.W.codeIn K cd11 "_law_draw" = true) (k11 : PySem.W.keepIn K (.ref f11) = true)
    {f12 : Addr} {od12 an12 : Option Addr} {sl12 : Array (Option Value)} {oc12 kV12 dc12 pm12 cd12 ct12 : Value} (a12 : PySem.W.nsIn K mainGlobals "_law_pick" = some (some (.ref f12))) (l12 : K.lookup f12 = some ⟨oc12, od12, .func (PySem.W.fnOf "_law_pick" "_law_pick" (defArgs s_law_pick) (defBody s_law_pick) (defScope s_law_pick) .none kV12 dc12 pm12 an12 cd12 ct12), sl12⟩) (c12 : PySem.W.codeIn K cd12 "_law_pick" = true) (k12 : PySem.W.keepIn K (.ref f12) = true)
    {f13 : Addr} {od13 an13 : Option Addr} {sl13 : Array (Option Value)} {oc13 kV13 dc13 pm13 cd13 ct13 : Value} (a13 : PySem.W.nsIn K mainGlobals "_law_formula" = some (some (.ref f13))) (l13 : K.lookup f13 = some ⟨oc13, od13, .func (PySem.W.fnOf "_law_formula" "_law_formula" (defArgs s_law_formula) (defBody s_law_formula) (defScope s_law_formula) .none kV13 dc13 pm13 an13 cd13 ct13), sl13⟩) (c13 : PySem.W.codeIn K cd13 "_law_formula" = true) (k13 : PySem.W.keepIn K (.ref f13) = true)
    {f14 : Addr} {od14 an14 : Option Addr} {sl14 : Array (Option Value)} {oc14 kV14 dc14 pm14 cd14 ct14 : Value} (a14 : PySem.W.nsIn K mainGlobals "_law_claim" = some (some (.ref f14))) (l14 : K.lookup f14 = some ⟨oc14, od14, .func (PySem.W.fnOf "_law_claim" "_law_claim" (defArgs s_law_claim) (defBody s_law_claim) (defScope s_law_claim) .none kV14 dc14 pm14 an14 cd14 ct14), sl14⟩) (c14 : PySem.W.codeIn K cd14 "_law_claim" = true) (k14 : PySem.W.keepIn K (.ref f14) = true)
    {f15 : Addr} {od15 an15 : Option Addr} {sl15 : Array (Option Value)} {oc15 kV15 dc15 pm15 cd15 ct15 : Value} (a15 : PySem.W.nsIn K mainGlobals "_law_theory" = some (some (.ref f15))) (l15 : K.lookup f15 = some ⟨oc15, od15, .func (PySem.W.fnOf "_law_theory" "_law_theory" (defArgs s_law_theory) (defBody s_law_theory) (defScope s_law_theory) .none kV15 dc15 pm15 an15 cd15 ct15), sl15⟩) (c15 : PySem.W.codeIn K cd15 "_law_theory" = true) (k15 : PySem.W.keepIn K (.ref f15) = true)
    {f16 : Addr} {od16 an16 : Option Addr} {sl16 : Array (Option Value)} {oc16 kV16 dc16 pm16 cd16 ct16 : Value} (a16 : PySem.W.nsIn K mainGlobals "_law_row" = some (some (.ref f16))) (l16 : K.lookup f16 = some ⟨oc16, od16, .func (PySem.W.fnOf "_law_row" "_law_row" (defArgs s_law_row) (defBody s_law_row) (defScope s_law_row) .none kV16 dc16 pm16 an16 cd16 ct16), sl16⟩) (c16 : PySem.W.codeIn K cd16 "_law_row" = true) (k16 : PySem.W.keepIn K (.ref f16) = true)
    {f17 : Addr} {od17 an17 : Option Addr} {sl17 : Array (Option Value)} {oc17 kV17 dc17 pm17 cd17 ct17 : Value} (a17 : PySem.W.nsIn K mainGlobals "_law_is_word" = some (some (.ref f17))) (l17 : K.lookup f17 = some ⟨oc17, od17, .func (PySem.W.fnOf "_law_is_word" "_law_is_word" (defArgs s_law_is_word) (defBody s_law_is_word) (defScope s_law_is_word) .none kV17 dc17 pm17 an17 cd17 ct17), sl17⟩) (c17 : PySem.W.codeIn K cd17 "_law_is_word" = true) (k17 : PySem.W.keepIn K (.ref f17) = true)
    {f18 : Addr} {od18 an18 : Option Addr} {sl18 : Array (Option Value)} {oc18 kV18 dc18 pm18 cd18 ct18 : Value} (a18 : PySem.W.nsIn K mainGlobals "_law_is_formula" = some (some (.ref f18))) (l18 : K.lookup f18 = some ⟨oc18, od18, .func (PySem.W.fnOf "_law_is_formula" "_law_is_formula" (defArgs s_law_is_formula) (defBody s_law_is_formula) (defScope s_law_is_formula) .none kV18 dc18 pm18 an18 cd18 ct18), sl18⟩) (c18 : PySem.W.codeIn K cd18 "_law_is_formula" = true) (k18 : PySem.W.keepIn K (.ref f18) = true)
    {f19 : Addr} {od19 an19 : Option Addr} {sl19 : Array (Option Value)} {oc19 kV19 dc19 pm19 cd19 ct19 : Value} (a19 : PySem.W.nsIn K mainGlobals "_law_is_claim" = some (some (.ref f19))) (l19 : K.lookup f19 = some ⟨oc19, od19, .func (PySem.W.fnOf "_law_is_claim" "_law_is_claim" (defArgs s_law_is_claim) (defBody s_law_is_claim) (defScope s_law_is_claim) .none kV19 dc19 pm19 an19 cd19 ct19), sl19⟩) (c19 : PySem.W.codeIn K cd19 "_law_is_claim" = true) (k19 : PySem.W.keepIn K (.ref f19) = true)
    {f20 : Addr} {od20 an20 : Option Addr} {sl20 : Array (Option Value)} {oc20 kV20 dc20 pm20 cd20 ct20 : Value} (a20 : PySem.W.nsIn K mainGlobals "_law_is_integer" = some (some (.ref f20))) (l20 : K.lookup f20 = some ⟨oc20, od20, .func (PySem.W.fnOf "_law_is_integer" "_law_is_integer" (defArgs s_law_is_integer) (defBody s_law_is_integer) (defScope s_law_is_integer) .none kV20 dc20 pm20 an20 cd20 ct20), sl20⟩) (c20 : PySem.W.codeIn K cd20 "_law_is_integer" = true) (k20 : PySem.W.keepIn K (.ref f20) = true)
    {f21 : Addr} {od21 an21 : Option Addr} {sl21 : Array (Option Value)} {oc21 kV21 dc21 pm21 cd21 ct21 : Value} (a21 : PySem.W.nsIn K mainGlobals "_law_shown_alone" = some (some (.ref f21))) (l21 : K.lookup f21 = some ⟨oc21, od21, .func (PySem.W.fnOf "_law_shown_alone" "_law_shown_alone" (defArgs s_law_shown_alone) (defBody s_law_shown_alone) (defScope s_law_shown_alone) .none kV21 dc21 pm21 an21 cd21 ct21), sl21⟩) (c21 : PySem.W.codeIn K cd21 "_law_shown_alone" = true) (k21 : PySem.W.keepIn K (.ref f21) = true)
    {f22 : Addr} {od22 an22 : Option Addr} {sl22 : Array (Option Value)} {oc22 kV22 dc22 pm22 cd22 ct22 : Value} (a22 : PySem.W.nsIn K mainGlobals "_law_shown" = some (some (.ref f22))) (l22 : K.lookup f22 = some ⟨oc22, od22, .func (PySem.W.fnOf "_law_shown" "_law_shown" (defArgs s_law_shown) (defBody s_law_shown) (defScope s_law_shown) .none kV22 dc22 pm22 an22 cd22 ct22), sl22⟩) (c22 : PySem.W.codeIn K cd22 "_law_shown" = true) (k22 : PySem.W.keepIn K (.ref f22) = true)
    {f23 : Addr} {od23 an23 : Option Addr} {sl23 : Array (Option Value)} {oc23 kV23 dc23 pm23 cd23 ct23 : Value} (a23 : PySem.W.nsIn K mainGlobals "_law_is_derivation" = some (some (.ref f23))) (l23 : K.lookup f23 = some ⟨oc23, od23, .func (PySem.W.fnOf "_law_is_derivation" "_law_is_derivation" (defArgs s_law_is_derivation) (defBody s_law_is_derivation) (defScope s_law_is_derivation) .none kV23 dc23 pm23 an23 cd23 ct23), sl23⟩) (c23 : PySem.W.codeIn K cd23 "_law_is_derivation" = true) (k23 : PySem.W.keepIn K (.ref f23) = true)
    {f24 : Addr} {od24 an24 : Option Addr} {sl24 : Array (Option Value)} {oc24 kV24 dc24 pm24 cd24 ct24 : Value} (a24 : PySem.W.nsIn K mainGlobals "_law_spots" = some (some (.ref f24))) (l24 : K.lookup f24 = some ⟨oc24, od24, .func (PySem.W.fnOf "_law_spots" "_law_spots" (defArgs s_law_spots) (defBody s_law_spots) (defScope s_law_spots) .none kV24 dc24 pm24 an24 cd24 ct24), sl24⟩) (c24 : PySem.W.codeIn K cd24 "_law_spots" = true) (k24 : PySem.W.keepIn K (.ref f24) = true)
    {f25 : Addr} {od25 an25 : Option Addr} {sl25 : Array (Option Value)} {oc25 kV25 dc25 pm25 cd25 ct25 : Value} (a25 : PySem.W.nsIn K mainGlobals "_law_spot_put" = some (some (.ref f25))) (l25 : K.lookup f25 = some ⟨oc25, od25, .func (PySem.W.fnOf "_law_spot_put" "_law_spot_put" (defArgs s_law_spot_put) (defBody s_law_spot_put) (defScope s_law_spot_put) .none kV25 dc25 pm25 an25 cd25 ct25), sl25⟩) (c25 : PySem.W.codeIn K cd25 "_law_spot_put" = true) (k25 : PySem.W.keepIn K (.ref f25) = true)
    {f26 : Addr} {od26 an26 : Option Addr} {sl26 : Array (Option Value)} {oc26 kV26 dc26 pm26 cd26 ct26 : Value} (a26 : PySem.W.nsIn K mainGlobals "_law_bent_spot" = some (some (.ref f26))) (l26 : K.lookup f26 = some ⟨oc26, od26, .func (PySem.W.fnOf "_law_bent_spot" "_law_bent_spot" (defArgs s_law_bent_spot) (defBody s_law_bent_spot) (defScope s_law_bent_spot) .none kV26 dc26 pm26 an26 cd26 ct26), sl26⟩) (c26 : PySem.W.codeIn K cd26 "_law_bent_spot" = true) (k26 : PySem.W.keepIn K (.ref f26) = true)
    {f27 : Addr} {od27 an27 : Option Addr} {sl27 : Array (Option Value)} {oc27 kV27 dc27 pm27 cd27 ct27 : Value} (a27 : PySem.W.nsIn K mainGlobals "_law_spot" = some (some (.ref f27))) (l27 : K.lookup f27 = some ⟨oc27, od27, .func (PySem.W.fnOf "_law_spot" "_law_spot" (defArgs s_law_spot) (defBody s_law_spot) (defScope s_law_spot) .none kV27 dc27 pm27 an27 cd27 ct27), sl27⟩) (c27 : PySem.W.codeIn K cd27 "_law_spot" = true) (k27 : PySem.W.keepIn K (.ref f27) = true)
    {f28 : Addr} {od28 an28 : Option Addr} {sl28 : Array (Option Value)} {oc28 kV28 dc28 pm28 cd28 ct28 : Value} (a28 : PySem.W.nsIn K mainGlobals "_law_odd_values" = some (some (.ref f28))) (l28 : K.lookup f28 = some ⟨oc28, od28, .func (PySem.W.fnOf "_law_odd_values" "_law_odd_values" (defArgs s_law_odd_values) (defBody s_law_odd_values) (defScope s_law_odd_values) .none kV28 dc28 pm28 an28 cd28 ct28), sl28⟩) (c28 : PySem.W.codeIn K cd28 "_law_odd_values" = true) (k28 : PySem.W.keepIn K (.ref f28) = true)
    {f29 : Addr} {od29 an29 : Option Addr} {sl29 : Array (Option Value)} {oc29 kV29 dc29 pm29 cd29 ct29 : Value} (a29 : PySem.W.nsIn K mainGlobals "_law_bent" = some (some (.ref f29))) (l29 : K.lookup f29 = some ⟨oc29, od29, .func (PySem.W.fnOf "_law_bent" "_law_bent" (defArgs s_law_bent) (defBody s_law_bent) (defScope s_law_bent) .none kV29 dc29 pm29 an29 cd29 ct29), sl29⟩) (c29 : PySem.W.codeIn K cd29 "_law_bent" = true) (k29 : PySem.W.keepIn K (.ref f29) = true)
    {f30 : Addr} {od30 an30 : Option Addr} {sl30 : Array (Option Value)} {oc30 kV30 dc30 pm30 cd30 ct30 : Value} (a30 : PySem.W.nsIn K mainGlobals "_law_put" = some (some (.ref f30))) (l30 : K.lookup f30 = some ⟨oc30, od30, .func (PySem.W.fnOf "_law_put" "_law_put" (defArgs s_law_put) (defBody s_law_put) (defScope s_law_put) .none kV30 dc30 pm30 an30 cd30 ct30), sl30⟩) (c30 : PySem.W.codeIn K cd30 "_law_put" = true) (k30 : PySem.W.keepIn K (.ref f30) = true)
    {f31 : Addr} {od31 an31 : Option Addr} {sl31 : Array (Option Value)} {oc31 kV31 dc31 pm31 cd31 ct31 : Value} (a31 : PySem.W.nsIn K mainGlobals "_law_same" = some (some (.ref f31))) (l31 : K.lookup f31 = some ⟨oc31, od31, .func (PySem.W.fnOf "_law_same" "_law_same" (defArgs s_law_same) (defBody s_law_same) (defScope s_law_same) .none kV31 dc31 pm31 an31 cd31 ct31), sl31⟩) (c31 : PySem.W.codeIn K cd31 "_law_same" = true) (k31 : PySem.W.keepIn K (.ref f31) = true)
    {f32 : Addr} {od32 an32 : Option Addr} {sl32 : Array (Option Value)} {oc32 kV32 dc32 pm32 cd32 ct32 : Value} (a32 : PySem.W.nsIn K mainGlobals "law" = some (some (.ref f32))) (l32 : K.lookup f32 = some ⟨oc32, od32, .func (PySem.W.fnOf "law" "law" (defArgs s_law) (defBody s_law) (defScope s_law) .none kV32 dc32 pm32 an32 cd32 ct32), sl32⟩) (c32 : PySem.W.codeIn K cd32 "law" = true) (k32 : PySem.W.keepIn K (.ref f32) = true)
    {tg0 : Tok} (ga0h : PySem.W.nsIn K mainGlobals "LETTERS" = some (some (.str "abcdefghijklmnopqrstuvwxyz" tg0)))
    {ga1 : Addr} {tg1_0 tg1_1 tg1_2 tg1_3 tg1_4 tg1_5 : Tok} {gn1 : Nat} {gs1 : Array (Option Value)} (ga1h : PySem.W.nsIn K mainGlobals "TAKEN" = some (some (.ref ga1))) (gl1 : K.lookup ga1 = some ⟨.type "tuple", none, .seq #[.str "all" tg1_0, .str "and" tg1_1, .str "below" tg1_2, .str "none" tg1_3, .str "not" tg1_4, .str "or" tg1_5] gn1, gs1⟩)
    {tg2 : Tok} (ga2h : PySem.W.nsIn K mainGlobals "MOST_LETTERS" = some (some (.int 12 tg2)))
    {ga3 : Addr} {tg3_0 : Tok} {gn3 : Nat} {gs3 : Array (Option Value)} (ga3h : PySem.W.nsIn K mainGlobals "ALL" = some (some (.ref ga3))) (gl3 : K.lookup ga3 = some ⟨.type "tuple", none, .seq #[.str "all" tg3_0] gn3, gs3⟩)
    {ga4 : Addr} {tg4_0 : Tok} {gn4 : Nat} {gs4 : Array (Option Value)} (ga4h : PySem.W.nsIn K mainGlobals "NONE" = some (some (.ref ga4))) (gl4 : K.lookup ga4 = some ⟨.type "tuple", none, .seq #[.str "none" tg4_0] gn4, gs4⟩)
    {tg5 : Tok} (ga5h : PySem.W.nsIn K mainGlobals "MOST_DEPTH" = some (some (.int 40 tg5)))
    {ga6 : Addr} {tg6_0 tg6_1 tg6_2 tg6_3 tg6_4 tg6_5 tg6_6 : Tok} {gn6 : Nat} {gs6 : Array (Option Value)} (ga6h : PySem.W.nsIn K mainGlobals "ALONE" = some (some (.ref ga6))) (gl6 : K.lookup ga6 = some ⟨.type "tuple", none, .seq #[.str "same" tg6_0, .str "twice" tg6_1, .str "low" tg6_2, .str "first" tg6_3, .str "second" tg6_4, .str "one" tg6_5, .str "other" tg6_6] gn6, gs6⟩)
    (z0 : PySem.W.nsIn K mainGlobals "len" = some none)
    (z1 : PySem.W.nsIn K mainGlobals "int" = some none)
    (z2 : PySem.W.nsIn K mainGlobals "tuple" = some none)
    (z3 : PySem.W.nsIn K mainGlobals "list" = some none)
    (z4 : PySem.W.nsIn K mainGlobals "sum" = some none)
    (z5 : PySem.W.nsIn K mainGlobals "all" = some none)
    (z6 : PySem.W.nsIn K mainGlobals "any" = some none)
    (z7 : PySem.W.nsIn K mainGlobals "isinstance" = some none)
    (z8 : PySem.W.nsIn K mainGlobals "bool" = some none)
    (z9 : PySem.W.nsIn K mainGlobals "str" = some none)
    (z10 : PySem.W.nsIn K mainGlobals "dict" = some none)
    (z11 : PySem.W.nsIn K mainGlobals "range" = some none)
    (z12 : PySem.W.nsIn K mainGlobals "sorted" = some none)
    (z13 : PySem.W.nsIn K mainGlobals "repr" = some none) :
    ∃ fd : FuncData, (∀ (s : Shared) (v : Value), BindsTo s fd ⟨[v], []⟩ [("script", v)]) ∧ ∀ (s₁ : Shared) (a : Addr) (ns : List Int) (base : Heap) (H : Hp), K.In base → base.Ns mainGlobals mg → ns.length ≤ 63 → SqL K H a (ns.map V.int) → Env0 l.prog w K mg base callerA [] s₁ H → codeAny (model l.prog w) callerA (.call (.ref fa) ⟨[.ref a], []⟩) (CR CX0 [] l.prog w H s₁ (fun v _ => v = .bl true) fun _ _ _ => False) s₁ := by
  have e := hfa.symm.trans (PySem.W.mg_of X G a32)
  cases e
  have A : Defs K mg := ⟨defAt_mk X G a0 l0 c0 k0 fun _ _ _ _ _ _ us hl => match us, hl with | [_], _ => rfl,
    defAt_mk X G a1 l1 c1 k1 fun _ _ _ _ _ _ us hl => match us, hl with | [_], _ => rfl,
    defAt_mk X G a2 l2 c2 k2 fun _ _ _ _ _ _ us hl => match us, hl with | [_, _], _ => rfl,
    defAt_mk X G a3 l3 c3 k3 fun _ _ _ _ _ _ us hl => match us, hl with | [_], _ => rfl,
    defAt_mk X G a4 l4 c4 k4 fun _ _ _ _ _ _ us hl => match us, hl with | [_, _], _ => rfl,
    defAt_mk X G a5 l5 c5 k5 fun _ _ _ _ _ _ us hl => match us, hl with | [_, _, _], _ => rfl,
    defAt_mk X G a6 l6 c6 k6 fun _ _ _ _ _ _ us hl => match us, hl with | [_, _, _, _], _ => rfl,
    defAt_mk X G a7 l7 c7 k7 fun _ _ _ _ _ _ us hl => match us, hl with | [_, _, _], _ => rfl,
    defAt_mk X G a8 l8 c8 k8 fun _ _ _ _ _ _ us hl => match us, hl with | [_, _, _], _ => rfl,
    defAt_mk X G a9 l9 c9 k9 fun _ _ _ _ _ _ us hl => match us, hl with | [_], _ => rfl,
    defAt_mk X G a10 l10 c10 k10 fun _ _ _ _ _ _ us hl => match us, hl with | [_], _ => rfl,
    defAt_mk X G a11 l11 c11 k11 fun _ _ _ _ _ _ us hl => match us, hl with | [_, _], _ => rfl,
    defAt_mk X G a12 l12 c12 k12 fun _ _ _ _ _ _ us hl => match us, hl with | [_, _], _ => rfl,
    defAt_mk X G a13 l13 c13 k13 fun _ _ _ _ _ _ us hl => match us, hl with | [_, _, _], _ => rfl,
    defAt_mk X G a14 l14 c14 k14 fun _ _ _ _ _ _ us hl => match us, hl with | [_, _, _], _ => rfl,
    defAt_mk X G a15 l15 c15 k15 fun _ _ _ _ _ _ us hl => match us, hl with | [_, _, _, _], _ => rfl,
    defAt_mk X G a16 l16 c16 k16 fun _ _ _ _ _ _ us hl => match us, hl with | [_, _, _, _], _ => rfl,
    defAt_mk X G a17 l17 c17 k17 fun _ _ _ _ _ _ us hl => match us, hl with | [_], _ => rfl,
    defAt_mk X G a18 l18 c18 k18 fun _ _ _ _ _ _ us hl => match us, hl with | [_, _], _ => rfl,
    defAt_mk X G a19 l19 c19 k19 fun _ _ _ _ _ _ us hl => match us, hl with | [_, _], _ => rfl,
    defAt_mk X G a20 l20 c20 k20 fun _ _ _ _ _ _ us hl => match us, hl with | [_], _ => rfl,
    defAt_mk X G a21 l21 c21 k21 fun _ _ _ _ _ _ us hl => match us, hl with | [_, _], _ => rfl,
    defAt_mk X G a22 l22 c22 k22 fun _ _ _ _ _ _ us hl => match us, hl with | [_, _, _], _ => rfl,
    defAt_mk X G a23 l23 c23 k23 fun _ _ _ _ _ _ us hl => match us, hl with | [_, _, _], _ => rfl,
    defAt_mk X G a24 l24 c24 k24 fun _ _ _ _ _ _ us hl => match us, hl with | [_, _], _ => rfl,
    defAt_mk X G a25 l25 c25 k25 fun _ _ _ _ _ _ us hl => match us, hl with | [_, _, _], _ => rfl,
    defAt_mk X G a26 l26 c26 k26 fun _ _ _ _ _ _ us hl => match us, hl with | [_, _], _ => rfl,
    defAt_mk X G a27 l27 c27 k27 fun _ _ _ _ _ _ us hl => match us, hl with | [_, _], _ => rfl,
    defAt_mk X G a28 l28 c28 k28 fun _ _ _ _ _ _ us hl => match us, hl with | [], _ => rfl,
    defAt_mk X G a29 l29 c29 k29 fun _ _ _ _ _ _ us hl => match us, hl with | [_, _, _], _ => rfl,
    defAt_mk X G a30 l30 c30 k30 fun _ _ _ _ _ _ us hl => match us, hl with | [_, _, _], _ => rfl,
    defAt_mk X G a31 l31 c31 k31 fun _ _ _ _ _ _ us hl => match us, hl with | [_, _], _ => rfl,
    blt_all (PySem.W.mg_none_of X G z0) (PySem.W.mg_none_of X G z1) (PySem.W.mg_none_of X G z2) (PySem.W.mg_none_of X G z3) (PySem.W.mg_none_of X G z4) (PySem.W.mg_none_of X G z5) (PySem.W.mg_none_of X G z6) (PySem.W.mg_none_of X G z7) (PySem.W.mg_none_of X G z8) (PySem.W.mg_none_of X G z9) (PySem.W.mg_none_of X G z10) (PySem.W.mg_none_of X G z11) (PySem.W.mg_none_of X G z12) (PySem.W.mg_none_of X G z13),
    fun p => glOk_str X G ga0h,
    fun p => glOk_ts (ss := ["all", "and", "below", "none", "not", "or"]) X G ga1h gl1 (by show 6 ≤ sizeLine; decide) (.cons ⟨_, rfl⟩ (.cons ⟨_, rfl⟩ (.cons ⟨_, rfl⟩ (.cons ⟨_, rfl⟩ (.cons ⟨_, rfl⟩ (.cons ⟨_, rfl⟩ .nil)))))),
    fun p => glOk_int X G ga2h,
    fun p => glOk_ts (ss := ["all"]) X G ga3h gl3 (by show 1 ≤ sizeLine; decide) (.cons ⟨_, rfl⟩ .nil),
    fun p => glOk_ts (ss := ["none"]) X G ga4h gl4 (by show 1 ≤ sizeLine; decide) (.cons ⟨_, rfl⟩ .nil),
    fun p => glOk_int X G ga5h,
    fun p => glOk_ts (ss := ["same", "twice", "low", "first", "second", "one", "other"]) X G ga6h gl6 (by show 7 ≤ sizeLine; decide) (.cons ⟨_, rfl⟩ (.cons ⟨_, rfl⟩ (.cons ⟨_, rfl⟩ (.cons ⟨_, rfl⟩ (.cons ⟨_, rfl⟩ (.cons ⟨_, rfl⟩ (.cons ⟨_, rfl⟩ .nil)))))))⟩
  refine ⟨PySem.W.fnOf "law" "law" (defArgs s_law) (defBody s_law) (defScope s_law) .none kV32 dc32 pm32 an32 cd32 ct32, ?_, fun s₁ a ns base H _ _ hl hS e0 => ok_lawG (fun_mk l32 c32 k32) A hl hS e0 (.of_eq rfl)⟩
  exact fun s v => .of_eq rfl
end LW
open PySem PySem.W PyProof.Rows
set_option maxRecDepth 100000 in
set_option maxHeartbeats 0 in
theorem PySem.Challenge.cw_orthorooms_k10_whole_derivations_judged_holds : PySem.Challenge.rw_orthorooms_k10_whole_derivations_judged.Holds := by
  w_on; o_law; k_head; (case hw => w_witness2)
  k_fill
  refine DL.walk_ofG (l := PySem.Challenge.rw_orthorooms_k10_whole_derivations_judged) (n := 63) (k := 50) (x := "script") rfl (by decide) rfl ⟨rfl, by decide, by decide⟩ (fun w h Y => PySem.W.kIn_of Y) ?F
  case F =>
    intro w mg fa h KX G hmg
    refine' LW.all_mk KX G hmg ?a0 ?l0 ?c0 ?k0 ?a1 ?l1 ?c1 ?k1 ?a2 ?l2 ?c2 ?k2 ?a3 ?l3 ?c3 ?k3 ?a4 ?l4 ?c4 ?k4 ?a5 ?l5 ?c5 ?k5 ?a6 ?l6 ?c6 ?k6 ?a7 ?l7 ?c7 ?k7 ?a8 ?l8 ?c8 ?k8 ?a9 ?l9 ?c9 ?k9 ?a10 ?l10 ?c10 ?k10 ?a11 ?l11 ?c11 ?k11 ?a12 ?l12 ?c12 ?k12 ?a13 ?l13 ?c13 ?k13 ?a14 ?l14 ?c14 ?k14 ?a15 ?l15 ?c15 ?k15 ?a16 ?l16 ?c16 ?k16 ?a17 ?l17 ?c17 ?k17 ?a18 ?l18 ?c18 ?k18 ?a19 ?l19 ?c19 ?k19 ?a20 ?l20 ?c20 ?k20 ?a21 ?l21 ?c21 ?k21 ?a22 ?l22 ?c22 ?k22 ?a23 ?l23 ?c23 ?k23 ?a24 ?l24 ?c24 ?k24 ?a25 ?l25 ?c25 ?k25 ?a26 ?l26 ?c26 ?k26 ?a27 ?l27 ?c27 ?k27 ?a28 ?l28 ?c28 ?k28 ?a29 ?l29 ?c29 ?k29 ?a30 ?l30 ?c30 ?k30 ?a31 ?l31 ?c31 ?k31 ?a32 ?l32 ?c32 ?k32 ?ga0h ?ga1h ?gl1 ?ga2h ?ga3h ?gl3 ?ga4h ?gl4 ?ga5h ?ga6h ?gl6 ?z0 ?z1 ?z2 ?z3 ?z4 ?z5 ?z6 ?z7 ?z8 ?z9 ?z10 ?z11 ?z12 ?z13
    (case a0 => k_is)
    (case l0 => k_is)
    (case c0 => k_is)
    (case k0 => k_is)
    (case a1 => k_is)
    (case l1 => k_is)
    (case c1 => k_is)
    (case k1 => k_is)
    (case a2 => k_is)
    (case l2 => k_is)
    (case c2 => k_is)
    (case k2 => k_is)
    (case a3 => k_is)
    (case l3 => k_is)
    (case c3 => k_is)
    (case k3 => k_is)
    (case a4 => k_is)
    (case l4 => k_is)
    (case c4 => k_is)
    (case k4 => k_is)
    (case a5 => k_is)
    (case l5 => k_is)
    (case c5 => k_is)
    (case k5 => k_is)
    (case a6 => k_is)
    (case l6 => k_is)
    (case c6 => k_is)
    (case k6 => k_is)
    (case a7 => k_is)
    (case l7 => k_is)
    (case c7 => k_is)
    (case k7 => k_is)
    (case a8 => k_is)
    (case l8 => k_is)
    (case c8 => k_is)
    (case k8 => k_is)
    (case a9 => k_is)
    (case l9 => k_is)
    (case c9 => k_is)
    (case k9 => k_is)
    (case a10 => k_is)
    (case l10 => k_is)
    (case c10 => k_is)
    (case k10 => k_is)
    (case a11 => k_is)
    (case l11 => k_is)
    (case c11 => k_is)
    (case k11 => k_is)
    (case a12 => k_is)
    (case l12 => k_is)
    (case c12 => k_is)
    (case k12 => k_is)
    (case a13 => k_is)
    (case l13 => k_is)
    (case c13 => k_is)
    (case k13 => k_is)
    (case a14 => k_is)
    (case l14 => k_is)
    (case c14 => k_is)
    (case k14 => k_is)
    (case a15 => k_is)
    (case l15 => k_is)
    (case c15 => k_is)
    (case k15 => k_is)
    (case a16 => k_is)
    (case l16 => k_is)
    (case c16 => k_is)
    (case k16 => k_is)
    (case a17 => k_is)
    (case l17 => k_is)
    (case c17 => k_is)
    (case k17 => k_is)
    (case a18 => k_is)
    (case l18 => k_is)
    (case c18 => k_is)
    (case k18 => k_is)
    (case a19 => k_is)
    (case l19 => k_is)
    (case c19 => k_is)
    (case k19 => k_is)
    (case a20 => k_is)
    (case l20 => k_is)
    (case c20 => k_is)
    (case k20 => k_is)
    (case a21 => k_is)
    (case l21 => k_is)
    (case c21 => k_is)
    (case k21 => k_is)
    (case a22 => k_is)
    (case l22 => k_is)
    (case c22 => k_is)
    (case k22 => k_is)
    (case a23 => k_is)
    (case l23 => k_is)
    (case c23 => k_is)
    (case k23 => k_is)
    (case a24 => k_is)
    (case l24 => k_is)
    (case c24 => k_is)
    (case k24 => k_is)
    (case a25 => k_is)
    (case l25 => k_is)
    (case c25 => k_is)
    (case k25 => k_is)
    (case a26 => k_is)
    (case l26 => k_is)
    (case c26 => k_is)
    (case k26 => k_is)
    (case a27 => k_is)
    (case l27 => k_is)
    (case c27 => k_is)
    (case k27 => k_is)
    (case a28 => k_is)
    (case l28 => k_is)
    (case c28 => k_is)
    (case k28 => k_is)
    (case a29 => k_is)
    (case l29 => k_is)
    (case c29 => k_is)
    (case k29 => k_is)
    (case a30 => k_is)
    (case l30 => k_is)
    (case c30 => k_is)
    (case k30 => k_is)
    (case a31 => k_is)
    (case l31 => k_is)
    (case c31 => k_is)
    (case k31 => k_is)
    (case a32 => k_is)
    (case l32 => k_is)
    (case c32 => k_is)
    (case k32 => k_is)
    (case ga0h => k_is)
    (case ga1h => k_is)
    (case gl1 => k_is)
    (case ga2h => k_is)
    (case ga3h => k_is)
    (case gl3 => k_is)
    (case ga4h => k_is)
    (case gl4 => k_is)
    (case ga5h => k_is)
    (case ga6h => k_is)
    (case gl6 => k_is)
    (case z0 => k_is)
    (case z1 => k_is)
    (case z2 => k_is)
    (case z3 => k_is)
    (case z4 => k_is)
    (case z5 => k_is)
    (case z6 => k_is)
    (case z7 => k_is)
    (case z8 => k_is)
    (case z9 => k_is)
    (case z10 => k_is)
    (case z11 => k_is)
    (case z12 => k_is)
    (case z13 => k_is)
#print axioms PySem.Challenge.cw_orthorooms_k10_whole_derivations_judged_holds

