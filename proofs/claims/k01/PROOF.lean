import PyProof.Rows.All
import Wide.All
import OpenK.AllK
import Wide.FinOn
import HandS.ForMost
import HandS.TupAny
import HandS.TupMul
import KE.SortData
import KE.DataMinMax
import KE.DataAny
import KE.DataIsa
import KE.DatumMore
import KE.DatumOrd
import HandS.Style
import HandS.ForExc
import HandS.CallSlots
import HandS.Lambda
import HandS.TupSets
import HandS.Conv
import KE.SortCalls
import KE.SortKeyHeap
import KE.KLam
import HandS.Defaults
import HandS.Words
import HandS.HeadHook4
import HandS.HeadWalk
import HandS.EndTab
import PySem.Challenge.RW_callswright_k01_whole_places_turned
import HandS.Head0
import HandS.Head1
import HandS.Head2
import HandS.HeadEnd
import HandS.HeadHook1
import HandS.HeadHook2
import HandS.HeadHook3
import KE.DatumMoreOrd
set_option Elab.async false
set_option linter.all false
set_option maxRecDepth 100000
/-! Core 0: the compact program texts and what they mean over plain data (PyData). Own work. -/
namespace Pv
open PySem

/-- an exception: its class by number, its one field -/
structure Ex where
  cls : Nat
  fld : PyData

inductive Slot where
  | un
  | v (d : PyData)
  /-- a list or dict that only this name holds -/
  | own (d : PyData)
  /-- the drawing state of a law -/
  | st
  /-- an instance that only this name holds, its fields -/
  | ob (fs : List (Str × PyData))
abbrev Env := List Slot

inductive Op2 where
  | add | sub | mul | mod | fdiv
  deriving DecidableEq
inductive Prim where
  | len | mn | mx | abs | srt | tup | lst | int | all | any | sum
  deriving DecidableEq
inductive Cmp where
  | eq | ne | lt | le | gt | ge | is_ | isn | in_ | nin
  deriving DecidableEq
inductive Tg where
  | nm (i : Nat)
  | tp (is : List Nat)
mutual
inductive CE where
  | cst (d : PyData)
  | nm (i : Nat)
  | bo (i : Nat)
  | stn (i : Nat)
  | gl (k : Nat) (x : Str) (d : PyData)
  | neg (a : CE)
  | bin (o : Op2) (a b : CE)
  | cmp (o : Cmp) (a b : CE)
  | chn (o o' : Cmp) (a b c : CE)
  | and (a b : CE)
  | or (a b : CE)
  | not (a : CE)
  | ife (t a b : CE)
  | tup (es : CEs)
  | lst (es : CEs)
  | idx (a i : CE)
  | sl (a lo hi : CE)
  | call (f : Nat) (es : CEs)
  | prim (p : Prim) (es : CEs)
  | isa (t : Nat) (a : CE)
  | lenset (a : CE)
  | rng (tup : Bool) (a : CE)
  | comp (elt : CE) (tg : Tg) (it : CI) (t : CE)
  | comp2 (elt : CE) (tg : Tg) (it : CI) (t : CE) (tg1 : Tg) (it1 : CI) (t1 : CE)
inductive CEs where
  | nil
  | cons (e : CE) (es : CEs)
inductive CI where
  | seq (e : CE)
  | rng (a : CE)
  | rng2 (a b : CE)
end

/-- how many -/
def cesLen : CEs → Nat
  | .nil => 0
  | .cons _ es => cesLen es + 1
/-! ### values -/
def asB : PyData → (Bool → Prop) → Prop
  | .bool b, k => k b
  | _, _ => False
def asI : PyData → (Int → Prop) → Prop
  | .int i, k => k i
  | _, _ => False
/-- a list or a tuple, its items -/
def asS : PyData → (List PyData → Prop) → Prop
  | .list xs, k => k xs
  | .tuple xs, k => k xs
  | _, _ => False
def asL : PyData → (List PyData → Prop) → Prop
  | .list xs, k => k xs
  | _, _ => False
def asT : PyData → (List PyData → Prop) → Prop
  | .tuple xs, k => k xs
  | _, _ => False
def asO : Option PyData → (PyData → Prop) → Prop
  | some d, k => k d
  | none, _ => False
/-- data that may be compared: no dict, not too deep -/
def fit (d : PyData) : Bool := d.plain && decide (d.depth ≤ 60)
abbrev LIM : Nat := 1000000
def opD : Op2 → PyData → PyData → (PyData → Prop) → Prop
  | .add, .int i, .int j, p => p (.int (i + j))
  | .add, .tuple xs, .tuple ys, p => xs.length + ys.length ≤ LIM ∧ p (.tuple (xs ++ ys))
  | .add, .list xs, .list ys, p => xs.length + ys.length ≤ LIM ∧ p (.list (xs ++ ys))
  | .add, .str x, .str y, p => x.length + y.length ≤ LIM ∧ p (.str (x ++ y))
  | .sub, .int i, .int j, p => p (.int (i - j))
  | .mul, .int i, .int j, p => L2.CMul i j ∧ p (.int (i * j))
  | .mul, .list xs, .int k, p => (0 ≤ k ∧ k ≤ 1000 ∧ xs.length ≤ 1000) ∧ p (.list (List.replicate k.toNat xs).flatten)
  | .mul, .tuple xs, .int k, p => (xs ≠ [] ∧ 2 ≤ k ∧ k ≤ 1000 ∧ xs.length ≤ 1000) ∧ p (.tuple (List.replicate k.toNat xs).flatten)
  | .mod, .int i, .int j, p => 0 < j ∧ p (.int (i % j))
  | .fdiv, .int i, .int j, p => L2.CDiv i j ∧ p (.int (i / j))
  | _, _, _, _ => False
def cutG {α : Type} (xs : List α) (lo hi : Option Int) : List α := (xs.drop (HT.sIx xs.length 0 lo)).take (HT.sIx xs.length xs.length hi - HT.sIx xs.length 0 lo)
/-- a slice's part; left out, or an int -/
def asP : Bool → PyData → (Option Int → Prop) → Prop
  | true, _, k => k none
  | false, .int i, k => k (some i)
  | _, _, _ => False
@[simp] def isNo : CE → Bool
  | .cst .none => true
  | _ => false
def isTrueD : PyData → Bool
  | .bool b => b
  | _ => false
def isBoolD : PyData → Bool
  | .bool _ => true
  | _ => false
def isNoneD : PyData → Bool
  | .none => true
  | _ => false
def isBD : PyData → Bool → Bool
  | .bool c, b => c == b
  | _, _ => false
/-- x is y, for y None, True or False -/
def isD : PyData → PyData → (Bool → Prop) → Prop
  | x, .none, p => p (isNoneD x)
  | x, .bool b, p => p (isBD x b)
  | _, _, _ => False
def memD (x : PyData) (xs : List PyData) : Bool := xs.any fun y => PyData.eqv y x
@[simp] def cmpD : Cmp → PyData → PyData → (Bool → Prop) → Prop
  | .eq, x, y, p => (fit x && fit y) = true ∧ p (PyData.eqv x y)
  | .ne, x, y, p => (fit x && fit y) = true ∧ p (!PyData.eqv x y)
  | .lt, x, y, p => asI x fun i => asI y fun j => p (decide (i < j))
  | .le, x, y, p => asI x fun i => asI y fun j => p (decide (i ≤ j))
  | .gt, x, y, p => asI x fun i => asI y fun j => p (decide (j < i))
  | .ge, x, y, p => asI x fun i => asI y fun j => p (decide (j ≤ i))
  | .is_, x, y, p => isD x y p
  | .isn, x, y, p => isD x y fun b => p (!b)
  | .in_, x, y, p => asS y fun xs => (fit x && fit y) = true ∧ p (memD x xs)
  | .nin, x, y, p => asS y fun xs => (fit x && fit y) = true ∧ p (!memD x xs)
def lenD : PyData → (Nat → Prop) → Prop
  | .list xs, p => p xs.length
  | .tuple xs, p => p xs.length
  | _, _ => False
/-- what may be put in order: alike, no None, not too deep -/
def ordOk (xs : List PyData) : Prop := W.AlikeAll xs ∧ PyData.depthAll xs ≤ 60 ∧ PyData.plainAll xs = true
def srtD (xs : List PyData) : List PyData := xs.mergeSort (W.dataLe false id)
def headOr : List PyData → (PyData → List PyData → Prop) → Prop
  | [], _ => False
  | x :: r, k => k x r
@[simp] def absI (i : Int) : Int := if i < 0 then -i else i
def one : List PyData → (PyData → Prop) → Prop
  | [d], k => k d
  | _, _ => False
def intD : PyData → (PyData → Prop) → Prop
  | .int i, p => p (.int i)
  | .bool b, p => p (.int (if b then 1 else 0))
  | _, _ => False
@[simp] def primD : Prim → List PyData → (PyData → Prop) → Prop
  | .len, ds, p => one ds fun d => lenD d fun n => p (.int n)
  | .mn, ds, p => one ds fun d => asS d fun xs => headOr xs fun x r => ordOk (x :: r) ∧ p (W.minD x r)
  | .mx, ds, p => one ds fun d => asS d fun xs => headOr xs fun x r => ordOk (x :: r) ∧ p (W.maxD x r)
  | .abs, ds, p => one ds fun d => asI d fun i => p (.int (absI i))
  | .srt, ds, p => one ds fun d => asS d fun xs => (ordOk xs ∧ W.Sortable xs) ∧ p (.list (srtD xs))
  | .tup, ds, p => one ds fun d => asS d fun xs => p (.tuple xs)
  | .lst, ds, p => one ds fun d => asS d fun xs => p (.list xs)
  | .int, ds, p => one ds fun d => intD d p
  | .all, ds, p => one ds fun d => asS d fun xs => xs.all isBoolD = true ∧ p (.bool (xs.all isTrueD))
  | .any, ds, p => one ds fun d => asS d fun xs => xs.all isBoolD = true ∧ p (.bool (xs.any isTrueD))
  | .sum, _, _ => False
/-- the classes of isinstance: 0 tuple, 1 int, 2 bool, 3 str, 4 list, 5 dict -/
def isaD (t : Nat) : PyData → Bool
  | .tuple _ => t == 0
  | .int _ => t == 1
  | .bool _ => t == 1 || t == 2
  | .str _ => t == 3
  | .list _ => t == 4
  | .dict _ => t == 5
  | .none => false
def isIntT : PyData → Bool
  | .int _ => true
  | _ => false
/-- a tuple of ints -/
def intsT : PyData → Bool
  | .tuple xs => xs.all isIntT
  | _ => false
/-- how many unlike ones -/
def unlike : List PyData → Nat
  | [] => 0
  | x :: r => if memD x r then unlike r else unlike r + 1
/-- the places in the order of what stands there -/
def asortD (xs : List PyData) : List PyData := ((List.range xs.length).mergeSort (W.dataLe false fun k => xs.getD k .none)).map fun (k : Nat) => .int (k : Int)
mutual
/-- no list within -/
def noLst : PyData → Bool
  | .list _ => false
  | .tuple xs => noLsts xs
  | .dict _ => false
  | _ => true
def noLsts : List PyData → Bool
  | [] => true
  | x :: r => noLst x && noLsts r
end
def cutD : PyData → Option Int → Option Int → (PyData → Prop) → Prop
  | .list xs, l, h, p => p (.list (cutG xs l h))
  | .tuple xs, l, h, p => p (.tuple (cutG xs l h))
  | _, _, _, _ => False

/-! ### names -/
def slotV : Option Slot → (PyData → Prop) → Prop
  | some (.v d), p => p d
  | _, _ => False
def slotO : Option Slot → (PyData → Prop) → Prop
  | some (.own d), p => p d
  | _, _ => False
def slotS : Option Slot → (Slot → Prop) → Prop
  | some .st, p => p .st
  | _, _ => False
@[simp] def setAll : List Nat → List PyData → Env → Env
  | i :: is, d :: ds, ρ => setAll is ds (ρ.set i (.v d))
  | _, _, ρ => ρ
@[simp] def setTg : Tg → PyData → Env → (Env → Prop) → Prop
  | .nm i, d, ρ, k => k (ρ.set i (.v d))
  | .tp is, d, ρ, k => asT d fun ds => ds.length = is.length ∧ k (setAll is ds ρ)
@[simp] def tgs : Tg → List Nat
  | .nm i => [i]
  | .tp is => is
@[simp] def wipeE : Env → List Nat → Env
  | ρ, [] => ρ
  | ρ, i :: is => (wipeE ρ is).set i .un
section
variable {b c : Bool} {i j : Int} {x y : Str} {xs ys : List PyData} {d u : PyData} {t n : Nat} {kvs : List (PyData × PyData)} {k : PyData → Prop} {kb : Bool → Prop} {ki : Int → Prop} {kn : Nat → Prop} {ks : List PyData → Prop} {kp : Option Int → Prop} {kh : PyData → List PyData → Prop} {kl : Slot → Prop} {l h : Option Int}
@[simp] theorem asB_b : asB (.bool b) kb = kb b := rfl
@[simp] theorem asI_i : asI (.int i) ki = ki i := rfl
@[simp] theorem asS_l : asS (.list xs) ks = ks xs := rfl
@[simp] theorem asS_t : asS (.tuple xs) ks = ks xs := rfl
@[simp] theorem asL_l : asL (.list xs) ks = ks xs := rfl
@[simp] theorem asT_t : asT (.tuple xs) ks = ks xs := rfl
@[simp] theorem asO_s : asO (some d) k = k d := rfl
@[simp] theorem opD_add : opD .add (.int i) (.int j) k = k (.int (i + j)) := rfl
@[simp] theorem opD_addt : opD .add (.tuple xs) (.tuple ys) k = (xs.length + ys.length ≤ LIM ∧ k (.tuple (xs ++ ys))) := rfl
@[simp] theorem opD_addl : opD .add (.list xs) (.list ys) k = (xs.length + ys.length ≤ LIM ∧ k (.list (xs ++ ys))) := rfl
@[simp] theorem opD_adds : opD .add (.str x) (.str y) k = (x.length + y.length ≤ LIM ∧ k (.str (x ++ y))) := rfl
@[simp] theorem opD_sub : opD .sub (.int i) (.int j) k = k (.int (i - j)) := rfl
@[simp] theorem opD_mul : opD .mul (.int i) (.int j) k = (L2.CMul i j ∧ k (.int (i * j))) := rfl
@[simp] theorem opD_mull : opD .mul (.list xs) (.int i) k = ((0 ≤ i ∧ i ≤ 1000 ∧ xs.length ≤ 1000) ∧ k (.list (List.replicate i.toNat xs).flatten)) := rfl
@[simp] theorem opD_mult : opD .mul (.tuple xs) (.int i) k = ((xs ≠ [] ∧ 2 ≤ i ∧ i ≤ 1000 ∧ xs.length ≤ 1000) ∧ k (.tuple (List.replicate i.toNat xs).flatten)) := rfl
@[simp] theorem opD_mod : opD .mod (.int i) (.int j) k = (0 < j ∧ k (.int (i % j))) := rfl
@[simp] theorem opD_fdiv : opD .fdiv (.int i) (.int j) k = (L2.CDiv i j ∧ k (.int (i / j))) := rfl
@[simp] theorem asP_n : asP true d kp = kp none := rfl
@[simp] theorem asP_i : asP false (.int i) kp = kp (some i) := rfl
@[simp] theorem isTrueD_n : isTrueD .none = false := rfl
@[simp] theorem isBoolD_n : isBoolD .none = false := rfl
@[simp] theorem isNoneD_n : isNoneD .none = true := rfl
@[simp] theorem isBD_n : isBD .none c = false := rfl
@[simp] theorem isaD_n : isaD t .none = false := rfl
@[simp] theorem isIntT_n : isIntT .none = false := rfl
@[simp] theorem isTrueD_b : isTrueD (.bool b) = b := rfl
@[simp] theorem isBoolD_b : isBoolD (.bool b) = true := rfl
@[simp] theorem isNoneD_b : isNoneD (.bool b) = false := rfl
@[simp] theorem isBD_b : isBD (.bool b) c = (b == c) := rfl
@[simp] theorem isaD_b : isaD t (.bool b) = (t == 1 || t == 2) := rfl
@[simp] theorem isIntT_b : isIntT (.bool b) = false := rfl
@[simp] theorem isTrueD_i : isTrueD (.int i) = false := rfl
@[simp] theorem isBoolD_i : isBoolD (.int i) = false := rfl
@[simp] theorem isNoneD_i : isNoneD (.int i) = false := rfl
@[simp] theorem isBD_i : isBD (.int i) c = false := rfl
@[simp] theorem isaD_i : isaD t (.int i) = (t == 1) := rfl
@[simp] theorem isIntT_i : isIntT (.int i) = true := rfl
@[simp] theorem isTrueD_s : isTrueD (.str x) = false := rfl
@[simp] theorem isBoolD_s : isBoolD (.str x) = false := rfl
@[simp] theorem isNoneD_s : isNoneD (.str x) = false := rfl
@[simp] theorem isBD_s : isBD (.str x) c = false := rfl
@[simp] theorem isaD_s : isaD t (.str x) = (t == 3) := rfl
@[simp] theorem isIntT_s : isIntT (.str x) = false := rfl
@[simp] theorem isTrueD_l : isTrueD (.list xs) = false := rfl
@[simp] theorem isBoolD_l : isBoolD (.list xs) = false := rfl
@[simp] theorem isNoneD_l : isNoneD (.list xs) = false := rfl
@[simp] theorem isBD_l : isBD (.list xs) c = false := rfl
@[simp] theorem isaD_l : isaD t (.list xs) = (t == 4) := rfl
@[simp] theorem isIntT_l : isIntT (.list xs) = false := rfl
@[simp] theorem isTrueD_t : isTrueD (.tuple xs) = false := rfl
@[simp] theorem isBoolD_t : isBoolD (.tuple xs) = false := rfl
@[simp] theorem isNoneD_t : isNoneD (.tuple xs) = false := rfl
@[simp] theorem isBD_t : isBD (.tuple xs) c = false := rfl
@[simp] theorem isaD_t : isaD t (.tuple xs) = (t == 0) := rfl
@[simp] theorem isIntT_t : isIntT (.tuple xs) = false := rfl
@[simp] theorem isTrueD_d : isTrueD (.dict kvs) = false := rfl
@[simp] theorem isBoolD_d : isBoolD (.dict kvs) = false := rfl
@[simp] theorem isNoneD_d : isNoneD (.dict kvs) = false := rfl
@[simp] theorem isBD_d : isBD (.dict kvs) c = false := rfl
@[simp] theorem isaD_d : isaD t (.dict kvs) = (t == 5) := rfl
@[simp] theorem isIntT_d : isIntT (.dict kvs) = false := rfl
@[simp] theorem isD_n : isD d .none kb = kb (isNoneD d) := rfl
@[simp] theorem isD_b : isD d (.bool b) kb = kb (isBD d b) := rfl
@[simp] theorem lenD_l : lenD (.list xs) kn = kn xs.length := rfl
@[simp] theorem lenD_t : lenD (.tuple xs) kn = kn xs.length := rfl
@[simp] theorem headOr_c : headOr (d :: xs) kh = kh d xs := rfl
@[simp] theorem one_1 : one [d] k = k d := rfl
@[simp] theorem intD_i : intD (.int i) k = k (.int i) := rfl
@[simp] theorem intD_b : intD (.bool b) k = k (.int (if b then 1 else 0)) := rfl
@[simp] theorem intsT_t : intsT (.tuple xs) = xs.all isIntT := rfl
@[simp] theorem cutD_l : cutD (.list xs) l h k = k (.list (cutG xs l h)) := rfl
@[simp] theorem cutD_t : cutD (.tuple xs) l h k = k (.tuple (cutG xs l h)) := rfl
@[simp] theorem slotV_v : slotV (some (.v d)) k = k d := rfl
@[simp] theorem slotO_o : slotO (some (.own d)) k = k d := rfl
@[simp] theorem slotS_s : slotS (some .st) kl = kl .st := rfl
end
/-- a comprehension: each item gives a list -/
def cmpF (F : PyData → (List PyData → Prop) → Prop) : List PyData → (List PyData → Prop) → Prop
  | [], p => p []
  | a :: as, p => F a fun r => cmpF F as fun ds => p (r ++ ds)
def range (lo : Int) (n : Nat) : List PyData := (List.range n).map fun (k : Nat) => .int (lo + (k : Int))
/-- with the length that is there already -/
def cmpN (F : Nat → PyData → (List PyData → Prop) → Prop) : Nat → List PyData → (List PyData → Prop) → Prop
  | _, [], p => p []
  | n, a :: as, p => F n a fun r => cmpN F (n + r.length) as fun ds => p (r ++ ds)
abbrev Orc := Nat → List Slot → (PyData → List Slot → Prop) → (Ex → List Slot → Prop) → Prop
abbrev noE : Ex → Prop := fun _ => False
section
variable (C : Orc)
mutual
@[simp] def evE : CE → Env → (PyData → Prop) → (Ex → Prop) → Prop
  | .cst d, _, p, _ => p d
  | .nm i, ρ, p, _ => slotV ρ[i]? p
  | .bo i, ρ, p, _ => slotO ρ[i]? p
  | .stn _, _, _, _ => False
  | .gl _ _ d, _, p, _ => p d
  | .neg a, ρ, p, e => evE a ρ (fun x => asI x fun i => p (.int (-i))) e
  | .bin o a b, ρ, p, e => evE a ρ (fun x => evE b ρ (fun y => opD o x y p) e) e
  | .cmp o a b, ρ, p, e => evE a ρ (fun x => evE b ρ (fun y => cmpD o x y fun c => p (.bool c)) e) e
  | .chn o o' a b c, ρ, p, e => evE a ρ (fun x => evE b ρ (fun y => cmpD o x y fun z => if z = true then evE c ρ (fun w => cmpD o' y w fun c => p (.bool c)) e else p (.bool false)) e) e
  | .and a b, ρ, p, e => evE a ρ (fun x => asB x fun c => if c = true then evE b ρ p e else p (.bool false)) e
  | .or a b, ρ, p, e => evE a ρ (fun x => asB x fun c => if c = true then p (.bool true) else evE b ρ p e) e
  | .not a, ρ, p, e => evE a ρ (fun x => asB x fun c => p (.bool (!c))) e
  | .ife t a b, ρ, p, e => evE t ρ (fun x => asB x fun c => if c = true then evE a ρ p e else evE b ρ p e) e
  | .tup es, ρ, p, e => evEs es ρ (fun ds => p (.tuple ds)) e
  | .lst es, ρ, p, e => evEs es ρ (fun ds => p (.list ds)) e
  | .idx a i, ρ, p, e => evE a ρ (fun x => evE i ρ (fun y => asS x fun xs => asI y fun j => asO (L2.atI xs j) p) e) e
  | .sl a lo hi, ρ, p, e => evE a ρ (fun x => evE lo ρ (fun l => asP (isNo lo) l fun l => evE hi ρ (fun h => asP (isNo hi) h fun h => cutD x l h p) e) e) e
  | .call f es, ρ, p, e => evAr es ρ (fun sl => C f sl (fun d _ => p d) fun x _ => e x) e
  | .prim q es, ρ, p, e => evEs es ρ (fun ds => primD q ds p) e
  | .isa t a, ρ, p, e => evE a ρ (fun x => p (.bool (isaD t x))) e
  | .lenset a, ρ, p, e => evE a ρ (fun x => asL x fun xs => xs.all intsT = true ∧ xs.length ≤ 60 ∧ p (.int (unlike xs))) e
  | .rng t a, ρ, p, e => evE a ρ (fun x => asI x fun n => (-LIM ≤ n ∧ n ≤ LIM) ∧ p (if t = true then .tuple (range 0 n.toNat) else .list (range 0 n.toNat))) e
  | .comp elt tg it t, ρ, p, e => evI it ρ (fun as => cmpF (fun a k => setTg tg a (wipeE ρ (tgs tg)) fun ρ1 => evE t ρ1 (fun c => asB c fun c => if c = true then evE elt ρ1 (fun d => k [d]) noE else k []) noE) as fun ds => p (.list ds)) e
  | .comp2 elt tg it t tg1 it1 t1, ρ, p, e => evI it ρ (fun as => cmpN (fun n a k => setTg tg a (wipeE ρ (tgs tg ++ tgs tg1)) fun ρ1 => evE t ρ1 (fun c => asB c fun c => if c = true then
      evI it1 ρ1 (fun as1 => n + as1.length ≤ LIM ∧ cmpF (fun a1 k1 => setTg tg1 a1 (wipeE ρ1 (tgs tg1)) fun ρ2 => evE t1 ρ2 (fun c => asB c fun c => if c = true then evE elt ρ2 (fun d => k1 [d]) noE else k1 []) noE) as1 k) noE
      else k []) noE) 0 as fun ds => p (.list ds)) e
@[simp] def evEs : CEs → Env → (List PyData → Prop) → (Ex → Prop) → Prop
  | .nil, _, p, _ => p []
  | .cons a es, ρ, p, e => evE a ρ (fun x => evEs es ρ (fun xs => p (x :: xs)) e) e
@[simp] def evAr : CEs → Env → (List Slot → Prop) → (Ex → Prop) → Prop
  | .nil, _, p, _ => p []
  | .cons a es, ρ, p, e => match a with
    | .stn i => slotS ρ[i]? fun s => evAr es ρ (fun xs => p (s :: xs)) e
    | a => evE a ρ (fun x => evAr es ρ (fun xs => p (.v x :: xs)) e) e
@[simp] def evI : CI → Env → (List PyData → Prop) → (Ex → Prop) → Prop
  | .seq a, ρ, p, e => evE a ρ (fun x => asS x p) e
  | .rng a, ρ, p, e => evE a ρ (fun x => asI x fun n => (-LIM ≤ n ∧ n ≤ LIM) ∧ p (range 0 n.toNat)) e
  | .rng2 a b, ρ, p, e => evE a ρ (fun x => evE b ρ (fun y => asI x fun i => asI y fun j => (-LIM ≤ i ∧ i ≤ LIM ∧ -LIM ≤ j ∧ j ≤ LIM) ∧ p (range i (j - i).toNat)) e) e
end
end
end Pv
set_option Elab.async false
set_option linter.all false
set_option maxRecDepth 100000
/-! Core 1: statements and functions, and what they mean over plain data. Own work. -/
namespace Pv
open PySem

mutual
inductive CS where
  /-- name = e -/
  | set (i : Nat) (e : CE)
  /-- name = e, a new list that the name alone holds from then on -/
  | own (i : Nat) (e : CE)
  /-- name = f(e), the law's drawing state -/
  | mks (i : Nat) (f : Nat) (e : CE)
  /-- a, b, .. = e, a tuple -/
  | unp (is : List Nat) (e : CE)
  /-- a, b = x, y and a, b, c = x, y, z by local names -/
  | par (is : List (Nat × Bool)) (es : CEs)
  | aug (o : Op2) (i : Nat) (e : CE)
  | app (i : Nat) (e : CE)
  | ext (i : Nat) (e : CE)
  /-- x.append(tuple(sorted(range(len(y)), key=lambda k: y[k]))) -/
  | apps (i j : Nat)
  | seti (i : Nat) (a e : CE)
  | pop (j i : Nat) (a : CE)
  | ex (e : CE)
  | ret (e : CE)
  | ifs (t : CE) (a b : CSs)
  | whl (t : CE) (b : CSs)
  | fors (tg : Tg) (it : CI) (b : CSs) (ws : List Nat)
  | brk
  | cont
  /-- no row of the text: a list that a name alone held is from now on a value -/
  | frz (i : Nat)
  /-- raise C(e) -/
  | rai (c : Nat) (e : CE)
  /-- a row that is never come to -/
  | never
inductive CSs where
  | nil
  | cons (s : CS) (ss : CSs)
end
inductive Fl where
  | nx (ρ : Env)
  | rt (d : PyData) (ρ : Env)
  | bk (ρ : Env)
  | ct (ρ : Env)
def asN : Option Nat → (Nat → Prop) → Prop
  | some n, k => k n
  | none, _ => False
/-- what follows a turn of a loop: nx, at the end bk -/
def turnK (nx bk : Env → Prop) (rt : PyData → Env → Prop) : Fl → Prop
  | .nx ρ => nx ρ
  | .ct ρ => nx ρ
  | .bk ρ => bk ρ
  | .rt d ρ => rt d ρ
/-- what follows a row -/
def seqK (nx : Env → Prop) (p : Fl → Prop) : Fl → Prop
  | .nx ρ => nx ρ
  | .rt d ρ => p (.rt d ρ)
  | .bk ρ => p (.bk ρ)
  | .ct ρ => p (.ct ρ)
section
variable {n : Nat} {kn : Nat → Prop} {f g : Env → Prop} {r : PyData → Env → Prop} {ρ : Env} {p : Fl → Prop} {d : PyData}
@[simp] theorem asN_s : asN (some n) kn = kn n := rfl
@[simp] theorem turnK_n : turnK f g r (.nx ρ) = f ρ := rfl
@[simp] theorem turnK_c : turnK f g r (.ct ρ) = f ρ := rfl
@[simp] theorem turnK_b : turnK f g r (.bk ρ) = g ρ := rfl
@[simp] theorem turnK_r : turnK f g r (.rt d ρ) = r d ρ := rfl
@[simp] theorem seqK_n : seqK f p (.nx ρ) = f ρ := rfl
@[simp] theorem seqK_r : seqK f p (.rt d ρ) = p (.rt d ρ) := rfl
@[simp] theorem seqK_b : seqK f p (.bk ρ) = p (.bk ρ) := rfl
@[simp] theorem seqK_c : seqK f p (.ct ρ) = p (.ct ρ) := rfl
end
/-- a loop over given items -/
def forL (tg : Tg) (ws : List Nat) (B : Env → (Fl → Prop) → Prop) : List PyData → Env → (Fl → Prop) → Prop
  | [], ρ, p => p (.nx ρ)
  | a :: as, ρ, p => setTg tg a ρ fun ρ1 => B ρ1 (turnK (fun ρ2 => forL tg ws B as (wipeE ρ2 ws) p) (fun ρ2 => p (.nx (wipeE ρ2 ws))) fun d ρ2 => p (.rt d ρ2))
def setsL : List (Nat × Bool) → List PyData → Env → (Env → Prop) → Prop
  | [], [], ρ, k => k ρ
  | i :: is, d :: ds, ρ, k => setsL is ds (ρ.set i.1 (if i.2 = true then .own d else .v d)) k
  | _, _, _, _ => False
section
variable (C : Orc)
mutual
@[simp] def evS : CS → Env → (Fl → Prop) → (Ex → Env → Prop) → Prop
  | .set i a, ρ, p, e => evE C a ρ (fun d => p (.nx (ρ.set i (.v d)))) fun x => e x ρ
  | .own i a, ρ, p, e => evE C a ρ (fun d => asL d fun xs => p (.nx (ρ.set i (.own (.list xs))))) fun x => e x ρ
  | .mks i _ a, ρ, p, e => evE C a ρ (fun d => asL d fun xs => (xs.all isIntT = true ∧ xs.length ≤ 63) ∧ p (.nx (ρ.set i .st))) fun x => e x ρ
  | .unp is a, ρ, p, e => evE C a ρ (fun d => asT d fun xs => xs.length = is.length ∧ p (.nx (setAll is xs ρ))) fun x => e x ρ
  | .par is es, ρ, p, e => evEs C es ρ (fun ds => setsL is ds ρ fun ρ1 => p (.nx ρ1)) fun x => e x ρ
  | .aug o i a, ρ, p, e => slotV ρ[i]? fun x => evE C a ρ (fun y => asI x fun m => asI y fun n => opD o (.int m) (.int n) fun d => p (.nx (ρ.set i (.v d)))) fun x => e x ρ
  | .app i a, ρ, p, e => slotO ρ[i]? fun o => asL o fun xs => evE C a ρ (fun d => xs.length < LIM ∧ p (.nx (ρ.set i (.own (.list (xs ++ [d])))))) fun x => e x ρ
  | .ext i a, ρ, p, e => slotO ρ[i]? fun o => asL o fun xs => evE C a ρ (fun d => asL d fun ys => xs.length + ys.length ≤ LIM ∧ p (.nx (ρ.set i (.own (.list (xs ++ ys)))))) fun x => e x ρ
  | .apps i j, ρ, p, _ => slotO ρ[i]? fun o => asL o fun xs => slotV ρ[j]? fun d => asS d fun ys => (ordOk ys ∧ PySem.W.Sortable ys ∧ noLsts ys = true ∧ ys.length ≤ LIM) ∧ xs.length < LIM ∧ p (.nx (ρ.set i (.own (.list (xs ++ [.tuple (asortD ys)])))))
  | .seti i a b, ρ, p, e => evE C b ρ (fun d => slotO ρ[i]? fun o => asL o fun xs => evE C a ρ (fun k => asI k fun n => asN (L2.ixN xs.length n) fun j => p (.nx (ρ.set i (.own (.list (xs.set j d)))))) fun x => e x ρ) fun x => e x ρ
  | .pop j i a, ρ, p, e => False
  | .ex a, ρ, p, e => evE C a ρ (fun _ => p (.nx ρ)) fun x => e x ρ
  | .ret a, ρ, p, e => evE C a ρ (fun d => p (.rt d ρ)) fun x => e x ρ
  | .ifs t a b, ρ, p, e => evE C t ρ (fun x => asB x fun c => if c = true then evSs a ρ p e else evSs b ρ p e) fun x => e x ρ
  | .whl t b, ρ, p, e => ∃ W : Nat → Env → Prop, (∃ n, W n ρ) ∧ ∀ n ρ, W n ρ → evE C t ρ (fun x => asB x fun c => if c = true then evSs b ρ (turnK (fun ρ2 => ∃ m, m < n ∧ W m ρ2) (fun ρ2 => p (.nx ρ2)) fun d ρ2 => p (.rt d ρ2)) e else p (.nx ρ)) fun x => e x ρ
  | .fors tg it b ws, ρ, p, e => evI C it ρ (fun as => forL tg ws (fun ρ1 q => evSs b ρ1 q e) as ρ p) fun x => e x ρ
  | .brk, ρ, p, _ => p (.bk ρ)
  | .cont, ρ, p, _ => p (.ct ρ)
  | .frz i, ρ, p, _ => slotO ρ[i]? fun d => p (.nx (ρ.set i (.v d)))
  | .rai c a, ρ, _, e => evE C a ρ (fun d => e ⟨c, d⟩ ρ) fun x => e x ρ
  | .never, _, _, _ => False
@[simp] def evSs : CSs → Env → (Fl → Prop) → (Ex → Env → Prop) → Prop
  | .nil, ρ, p, _ => p (.nx ρ)
  | .cons s ss, ρ, p, e => evS s ρ (seqK (fun ρ1 => evSs ss ρ1 p e) p) e
end
end
@[simp] theorem setsL_n (ρ k) : setsL [] [] ρ k = k ρ := rfl
@[simp] theorem setsL_c (i b is d ds ρ k) : setsL ((i, b) :: is) (d :: ds) ρ k = setsL is ds (ρ.set i (if b = true then .own d else .v d)) k := rfl
/-- a function: its name, its parameters, all its names, its body; take: the law's drawing -/
inductive FnK where
  | code (body : CSs)
  | take
structure FnI where
  name : Str
  ps : List Str
  ns : List Str
  k : FnK
/-- the end of a body -/
def endF (n : Nat) (p : PyData → List Slot → Prop) : Fl → Prop
  | .rt d ρ => p d (ρ.take n)
  | .nx ρ => p .none (ρ.take n)
  | _ => False
/-- a function, called, its own calls by C -/
@[simp] theorem endF_r (n p d ρ) : endF n p (.rt d ρ) = p d (ρ.take n) := rfl
@[simp] theorem endF_n (n p ρ) : endF n p (.nx ρ) = p .none (ρ.take n) := rfl
def takeF : List Slot → (PyData → List Slot → Prop) → Prop
  | [.st, .v (.int b)], p => if b < 2 then p (.int 0) [.st, .v (.int b)] else b < 1000000000 ∧ ∀ n : Nat, (n : Int) < b → p (.int n) [.st, .v (.int b)]
  | _, _ => False
def runF (C : Orc) (fi : FnI) (args : List Slot) (p : PyData → List Slot → Prop) (e : Ex → List Slot → Prop) : Prop := match fi.k with
  | .take => takeF args p
  | .code body => args.length = fi.ps.length ∧ evSs C body (args ++ List.replicate (fi.ns.length - fi.ps.length) .un) (endF fi.ps.length p) fun x ρ => e x (ρ.take fi.ps.length)
theorem runF_code (C : Orc) (nm ps ns b args p e) : runF C ⟨nm, ps, ns, .code b⟩ args p e = (args.length = ps.length ∧ evSs C b (args ++ List.replicate (ns.length - ps.length) .un) (endF ps.length p) fun x ρ => e x (ρ.take ps.length)) := rfl
theorem runF_take (C : Orc) (nm ps ns args p e) : runF C ⟨nm, ps, ns, .take⟩ args p e = takeF args p := rfl
/-- a function of the table, called; d: how deep calls may go -/
def callD (T : List FnI) : Nat → Orc
  | 0, _, _, _, _ => False
  | d + 1, f, args, p, e => match T[f]? with
    | none => False
    | some fi => runF (callD T d) fi args p e
theorem callD_s {T : List FnI} {d f : Nat} {fi : FnI} (h : T[f]? = some fi) (args p e) : callD T (d + 1) f args p e = runF (callD T d) fi args p e := by
  simp only [callD, h]
end Pv
set_option Elab.async false
set_option linter.all false
set_option maxRecDepth 100000
set_option maxHeartbeats 2000000
/-! Core 2: which text a compact text stands for; values in the heap. Own work. -/
namespace Pv
open PySem PySem.Spec PyProof.Rows L2

/-! ### which text -/
def visB (S : Scope) (x : Str) : Bool := match S.names.lookup x with
  | some .local => true
  | some .cell => true
  | some .free => true
  | _ => false
def locB (S : Scope) (x : Str) : Bool := match S.names.lookup x with
  | some .local => true
  | some .cell => true
  | _ => false
def loclB (S : Scope) (x : Str) : Bool := match S.names.lookup x with
  | some .local => true
  | _ => false
def glB (S : Scope) (x : Str) : Bool := (match S.names.lookup x with
  | some .globalImplicit => true
  | _ => false) && !(x == ("__debug__" : Str))
def ixB (N : List Str) (i : Nat) (x : Str) : Bool := match N[i]? with
  | some y => decide (y = x)
  | none => false
def nmB (N : List Str) (S : Scope) (i : Nat) (x : Str) : Bool := ixB N i x && (visB S x && (!(x == ("__debug__" : Str)) && !(x == ("__classdict__" : Str))))
def cstB : PyData → Const → Bool
  | .none, .none => true
  | .bool b, .bool c => b == c
  | .int i, .int j => decide (i = j)
  | .str x, .str y => decide (x = y)
  | _, _ => false
def op2O : Op2 → Operator
  | .add => .Add
  | .sub => .Sub
  | .mul => .Mult
  | .mod => .Mod
  | .fdiv => .FloorDiv
def cmpO : Cmp → CmpOp
  | .eq => .Eq
  | .ne => .NotEq
  | .lt => .Lt
  | .le => .LtE
  | .gt => .Gt
  | .ge => .GtE
  | .is_ => .Is
  | .isn => .IsNot
  | .in_ => .In
  | .nin => .NotIn
def primN : Prim → Str
  | .len => "len"
  | .mn => "min"
  | .mx => "max"
  | .abs => "abs"
  | .srt => "sorted"
  | .tup => "tuple"
  | .lst => "list"
  | .int => "int"
  | .all => "all"
  | .any => "any"
  | .sum => "sum"
def isaN : Nat → Str
  | 0 => "tuple"
  | 1 => "int"
  | 2 => "bool"
  | 3 => "str"
  | 4 => "list"
  | _ => "dict"
def isYes : CE → Bool
  | .cst (.bool true) => true
  | _ => false
def chC (X : Bool) (k : Bool) : Bool := X && k
def celB (S : Scope) (x : Str) : Bool := match S.names.lookup x with
  | some .cell => true
  | _ => false
/-- a name that is stored; raw: the block's own scope -/
def stoB (N : List Str) (S raw : Scope) (i : Nat) (x : Str) : Bool := ixB N i x && (loclB S x || (celB raw x && celB S x))
/-- a target: names with their places -/
def tgB (N : List Str) (S raw : Scope) : Tg → Expr → Bool
  | .nm i, .Name x _ => stoB N S raw i x
  | .tp is, .Tuple es _ _ => tgL is es
  | _, _ => false
where tgL : List Nat → List Expr → Bool
  | [], [] => true
  | i :: is, .Name x _ :: es => stoB N S raw i x && tgL is es
  | _, _ => false
/-- a test: no conditional expression at its top -/
def tstB : CE → Bool
  | .ife _ _ _ => false
  | .and a b => tstB a && tstB b
  | .or a b => tstB a && tstB b
  | .not a => tstB a
  | _ => true
def noBo : CI → Bool
  | .seq (.bo _) => false
  | _ => true
def ownOf (N : List Str) (is : List Nat) : List (Str × Nat) := is.filterMap fun i => (N[i]?).map fun x => (x, i)
mutual
def sameD : PyData → PyData → Bool
  | .none, .none => true
  | .bool a, .bool b => a == b
  | .int a, .int b => decide (a = b)
  | .str a, .str b => decide (a = b)
  | .list a, .list b => sameL a b
  | .tuple a, .tuple b => sameL a b
  | _, _ => false
def sameL : List PyData → List PyData → Bool
  | [], [] => true
  | a :: as, b :: bs => sameD a b && sameL as bs
  | _, _ => false
end
mutual
theorem sameD_eq : ∀ {a b : PyData}, sameD a b = true → a = b
  | .none, .none, _ => rfl
  | .bool a, .bool b, h => by simp [sameD] at h; rw [h]
  | .int a, .int b, h => by simp [sameD] at h; rw [h]
  | .str a, .str b, h => by simp [sameD] at h; rw [h]
  | .list a, .list b, h => by rw [sameD] at h; rw [sameL_eq h]
  | .tuple a, .tuple b, h => by rw [sameD] at h; rw [sameL_eq h]
theorem sameL_eq : ∀ {a b : List PyData}, sameL a b = true → a = b
  | [], [], _ => rfl
  | a :: as, b :: bs, h => by
    rw [sameL, Bool.and_eq_true] at h
    rw [sameD_eq h.1, sameL_eq h.2]
end
def csB (cs : List (Str × PyData)) (k : Nat) (x : Str) (d : PyData) : Bool := match cs[k]? with
  | some (y, d') => decide (y = x) && sameD d' d
  | none => false
theorem csB_inv {cs : List (Str × PyData)} {k : Nat} {x : Str} {d : PyData} (h : csB cs k x d = true) : cs[k]? = some (x, d) := by
  unfold csB at h
  split at h
  · rename_i y d' e
    rw [Bool.and_eq_true] at h
    rw [e, sameD_eq h.2]
    have := h.1
    simp at this
    rw [this]
  · cases h
/-! by form: the parts are asked by f, g, .. -/
def mCst (d : PyData) : Expr → Bool
  | .Constant c _ _ => cstB d c
  | _ => false
def mNm (N : List Str) (S : Scope) (i : Nat) : Expr → Bool
  | .Name x _ => nmB N S i x
  | _ => false
def mGl (cs : List (Str × PyData)) (S : Scope) (k : Nat) (x : Str) (d : PyData) : Expr → Bool
  | .Name y _ => decide (x = y) && (glB S y && csB cs k x d)
  | _ => false
def mNeg (f : Expr → Bool) : Expr → Bool
  | .UnaryOp .USub x _ => f x
  | _ => false
def mNot (f : Expr → Bool) : Expr → Bool
  | .UnaryOp .Not x _ => f x
  | _ => false
def mBin (o : Op2) (f g : Expr → Bool) : Expr → Bool
  | .BinOp x q y _ => decide (op2O o = q) && (f x && g y)
  | _ => false
def mCmp (o : Cmp) (f g : Expr → Bool) : Expr → Bool
  | .Compare x [q] [y] _ => decide (cmpO o = q) && (f x && g y)
  | _ => false
def mChn (o o' : Cmp) (f g h : Expr → Bool) : Expr → Bool
  | .Compare x [q, q'] [y, z] _ => (decide (cmpO o = q) && decide (cmpO o' = q')) && (f x && (g y && h z))
  | _ => false
def mRest (op : BoolOp) (pos : Pos) (g : Expr → Bool) : List Expr → Bool
  | [y] => g y
  | y :: z :: r => g (.BoolOp op (y :: z :: r) pos)
  | [] => false
def mAnd (f g : Expr → Bool) : Expr → Bool
  | .BoolOp .And (x :: xs) pos => f x && mRest .And pos g xs
  | _ => false
def mOr (f g : Expr → Bool) : Expr → Bool
  | .BoolOp .Or (x :: xs) pos => f x && mRest .Or pos g xs
  | _ => false
def mIfe (f g h : Expr → Bool) : Expr → Bool
  | .IfExp x y z _ => f x && (g y && h z)
  | _ => false
def mTup (f : List Expr → Bool) : Expr → Bool
  | .Tuple xs _ _ => f xs
  | _ => false
def mLst (f : List Expr → Bool) : Expr → Bool
  | .List xs _ => f xs
  | _ => false
/-- no slice -/
def noSl : Expr → Bool
  | .Slice _ _ _ _ => false
  | .Starred _ _ => false
  | _ => true
def mIdx (f g : Expr → Bool) : Expr → Bool
  | .Subscript x y _ => f x && (noSl y && g y)
  | _ => false
def mPart (no : Bool) (f : Expr → Bool) : Option Expr → Bool
  | none => no
  | some e => !no && f e
def mSl (f : Expr → Bool) (g h : Option Expr → Bool) : Expr → Bool
  | .Subscript x (.Slice l u none _) _ => f x && (g l && h u)
  | _ => false
def mCall (S : Scope) (nm : Option Str) (f : List Expr → Bool) : Expr → Bool
  | .Call (.Name x _) (y :: ys) [] _ => decide (nm = some x) && (glB S x && f (y :: ys))
  | _ => false
def mIsa (S : Scope) (t : Nat) (f : Expr → Bool) : Expr → Bool
  | .Call (.Name x _) [y, .Name z _] [] _ => (decide (x = ("isinstance" : Str)) && glB S x) && ((decide (isaN t = z) && glB S z) && (decide (t ≤ 5) && f y))
  | _ => false
/-- x(y(z)), two built-in names -/
def mWrap (S : Scope) (x y : Str) (f : Expr → Bool) : Expr → Bool
  | .Call (.Name x' _) [.Call (.Name y' _) [z] [] _] [] _ => (decide (x = x') && glB S x') && ((decide (y = y') && glB S y') && f z)
  | _ => false
def mIfs (yes : Bool) (f : Expr → Bool) : List Expr → Bool
  | [] => yes
  | [c] => f c
  | _ => false
def mComp (N : List Str) (S : Scope) (tg : Tg) (fi : Expr → Bool) (fe ft : Scope → Expr → Bool) (yes : Bool) : Expr → Bool
  | .ListComp x [⟨tg', it', ifs, 0⟩] sc _ => blkC N S sc (ownOf N (tgs tg)) && ((tgB N (relS sc S) sc tg tg' && fi it') && (fe (relS sc S) x && mIfs yes (ft (relS sc S)) ifs))
  | _ => false
def mComp2 (N : List Str) (S : Scope) (tg tg1 : Tg) (fi : Expr → Bool) (fi1 fe ft ft1 : Scope → Expr → Bool) (yes yes1 : Bool) : Expr → Bool
  | .ListComp x [⟨tg', it', ifs, 0⟩, ⟨tg1', it1', ifs1, 0⟩] sc _ => blkC N S sc (ownOf N (tgs tg ++ tgs tg1)) && ((tgB N (relS sc S) sc tg tg' && fi it') && ((tgB N (relS sc S) sc tg1 tg1' && fi1 (relS sc S) it1') &&
      (fe (relS sc S) x && (mIfs yes (ft (relS sc S)) ifs && mIfs yes1 (ft1 (relS sc S)) ifs1))))
  | _ => false
def mRg (S : Scope) (f : Expr → Bool) : Expr → Bool
  | .Call (.Name y _) [z] [] _ => (decide (y = ("range" : Str)) && glB S y) && f z
  | _ => false
def mRg2 (S : Scope) (f g : Expr → Bool) : Expr → Bool
  | .Call (.Name y _) [z, u] [] _ => (decide (y = ("range" : Str)) && glB S y) && (f z && g u)
  | _ => false
def mCons (f : Expr → Bool) (g : List Expr → Bool) : List Expr → Bool
  | x :: xs => f x && g xs
  | [] => false
def isNil : List Expr → Bool
  | [] => true
  | _ => false
section
variable (fns : List Str) (cs : List (Str × PyData)) (N : List Str)
/-- a list that a name alone holds, read -/
def boB (S : Scope) : CE → Expr → Bool
  | .bo i => mNm N S i
  | _ => fun _ => false
/-- the drawing state handed on -/
def stB (S : Scope) : CE → Expr → Bool
  | .stn i => mNm N S i
  | _ => fun _ => false
mutual
def mtE (S : Scope) : CE → Expr → Bool
  | .cst d => mCst d
  | .nm i => mNm N S i
  | .bo _ => fun _ => false
  | .stn _ => fun _ => false
  | .gl k x d => mGl cs S k x d
  | .neg a => mNeg (mtE S a)
  | .bin o a b => mBin o (fun x => boB N S a x || mtE S a x) (fun y => boB N S b y || mtE S b y)
  | .cmp o a b => mCmp o (fun x => boB N S a x || mtE S a x) (fun y => boB N S b y || mtE S b y)
  | .chn o o' a b c => mChn o o' (mtE S a) (mtE S b) (mtE S c)
  | .and a b => mAnd (mtE S a) (mtE S b)
  | .or a b => mOr (mtE S a) (mtE S b)
  | .not a => mNot (mtE S a)
  | .ife t a b => mIfe (fun x => tstB t && mtE S t x) (mtE S a) (mtE S b)
  | .tup es => mTup (fun xs => decide (cesLen es ≤ 1000) && mtEs S es xs)
  | .lst es => mLst (fun xs => decide (cesLen es ≤ 1000) && mtEs S es xs)
  | .idx a i => mIdx (fun x => boB N S a x || mtE S a x) (mtE S i)
  | .sl a lo hi => mSl (fun x => boB N S a x || mtE S a x) (mPart (isNo lo) (mtE S lo)) (mPart (isNo hi) (mtE S hi))
  | .call f es => mCall S fns[f]? (mtAs S es)
  | .prim q es => mCall S (some (primN q)) (mtBs S es)
  | .isa t a => mIsa S t (mtE S a)
  | .lenset a => mWrap S "len" "set" (fun x => boB N S a x || mtE S a x)
  | .rng t a => mWrap S (if t = true then ("tuple" : Str) else "list") "range" (mtE S a)
  | .comp elt tg it t => mComp N S tg (mtI S it) (fun S => mtE S elt) (fun S c => tstB t && mtE S t c) (isYes t)
  | .comp2 elt tg it t tg1 it1 t1 => mComp2 N S tg tg1 (mtI S it) (fun S e => noBo it1 && mtI S it1 e) (fun S => mtE S elt) (fun S c => tstB t && mtE S t c) (fun S c => tstB t1 && mtE S t1 c) (isYes t) (isYes t1)
def mtEs (S : Scope) : CEs → List Expr → Bool
  | .nil => isNil
  | .cons a es => mCons (mtE S a) (mtEs S es)
def mtBs (S : Scope) : CEs → List Expr → Bool
  | .nil => isNil
  | .cons a es => mCons (fun x => boB N S a x || mtE S a x) (mtBs S es)
def mtAs (S : Scope) : CEs → List Expr → Bool
  | .nil => isNil
  | .cons a es => mCons (fun x => stB N S a x || mtE S a x) (mtAs S es)
def mtI (S : Scope) : CI → Expr → Bool
  | .seq a => fun x => boB N S a x || mtE S a x
  | .rng a => mRg S (mtE S a)
  | .rng2 a b => mRg2 S (mtE S a) (mtE S b)
end
end

/-! ### read back -/
section
variable {f g h : Expr → Bool} {e : Expr} {S : Scope} {N : List Str}
theorem both {a b : Bool} (h : (a && b) = true) : a = true ∧ b = true := by simpa using h
theorem dec {p : Prop} [Decidable p] (h : decide p = true) : p := by simpa using h
theorem mCst_inv {d : PyData} (h : mCst d e = true) : ∃ c k p, e = .Constant c k p ∧ cstB d c = true := by
  unfold mCst at h; split at h
  · exact ⟨_, _, _, rfl, h⟩
  · cases h
theorem mNm_inv {i : Nat} (h : mNm N S i e = true) : ∃ x p, e = .Name x p ∧ nmB N S i x = true := by
  unfold mNm at h; split at h
  · exact ⟨_, _, rfl, h⟩
  · cases h
theorem mGl_inv {cs : List (Str × PyData)} {k : Nat} {x : Str} {d : PyData} (h : mGl cs S k x d e = true) : ∃ p, e = .Name x p ∧ glB S x = true ∧ cs[k]? = some (x, d) := by
  unfold mGl at h; split at h
  · obtain ⟨h1, h2⟩ := both h
    obtain ⟨h2, h3⟩ := both h2
    obtain rfl := dec h1
    exact ⟨_, rfl, h2, csB_inv h3⟩
  · cases h
theorem mNeg_inv (h : mNeg f e = true) : ∃ x p, e = .UnaryOp .USub x p ∧ f x = true := by
  unfold mNeg at h; split at h
  · exact ⟨_, _, rfl, h⟩
  · cases h
theorem mNot_inv (h : mNot f e = true) : ∃ x p, e = .UnaryOp .Not x p ∧ f x = true := by
  unfold mNot at h; split at h
  · exact ⟨_, _, rfl, h⟩
  · cases h
theorem mBin_inv {o : Op2} (h : mBin o f g e = true) : ∃ x y p, e = .BinOp x (op2O o) y p ∧ f x = true ∧ g y = true := by
  unfold mBin at h; split at h
  · obtain ⟨h1, h2⟩ := both h
    obtain rfl := dec h1
    exact ⟨_, _, _, rfl, both h2⟩
  · cases h
theorem mCmp_inv {o : Cmp} (h : mCmp o f g e = true) : ∃ x y p, e = .Compare x [cmpO o] [y] p ∧ f x = true ∧ g y = true := by
  unfold mCmp at h; split at h
  · obtain ⟨h1, h2⟩ := both h
    obtain rfl := dec h1
    exact ⟨_, _, _, rfl, both h2⟩
  · cases h
theorem mChn_inv {o o' : Cmp} {k : Expr → Bool} (h : mChn o o' f g k e = true) : ∃ x y z p, e = .Compare x [cmpO o, cmpO o'] [y, z] p ∧ f x = true ∧ g y = true ∧ k z = true := by
  unfold mChn at h; split at h
  · obtain ⟨h1, h2⟩ := both h
    obtain ⟨h1, h3⟩ := both h1
    obtain rfl := dec h1
    obtain rfl := dec h3
    obtain ⟨h2, h4⟩ := both h2
    exact ⟨_, _, _, _, rfl, h2, both h4⟩
  · cases h
theorem mAnd_inv (h : mAnd f g e = true) : ∃ x xs p, e = .BoolOp .And (x :: xs) p ∧ f x = true ∧ mRest .And p g xs = true := by
  unfold mAnd at h; split at h
  · exact ⟨_, _, _, rfl, both h⟩
  · cases h
theorem mOr_inv (h : mOr f g e = true) : ∃ x xs p, e = .BoolOp .Or (x :: xs) p ∧ f x = true ∧ mRest .Or p g xs = true := by
  unfold mOr at h; split at h
  · exact ⟨_, _, _, rfl, both h⟩
  · cases h
theorem mIfe_inv {k : Expr → Bool} (h : mIfe f g k e = true) : ∃ x y z p, e = .IfExp x y z p ∧ f x = true ∧ g y = true ∧ k z = true := by
  unfold mIfe at h; split at h
  · obtain ⟨h1, h2⟩ := both h
    exact ⟨_, _, _, _, rfl, h1, both h2⟩
  · cases h
theorem mTup_inv {k : List Expr → Bool} (h : mTup k e = true) : ∃ xs c p, e = .Tuple xs c p ∧ k xs = true := by
  unfold mTup at h; split at h
  · exact ⟨_, _, _, rfl, h⟩
  · cases h
theorem mLst_inv {k : List Expr → Bool} (h : mLst k e = true) : ∃ xs p, e = .List xs p ∧ k xs = true := by
  unfold mLst at h; split at h
  · exact ⟨_, _, rfl, h⟩
  · cases h
theorem mIdx_inv (h : mIdx f g e = true) : ∃ x y p, e = .Subscript x y p ∧ f x = true ∧ noSl y = true ∧ g y = true := by
  unfold mIdx at h; split at h
  · obtain ⟨h1, h2⟩ := both h
    exact ⟨_, _, _, rfl, h1, both h2⟩
  · cases h
theorem mSl_inv {k l : Option Expr → Bool} (h : mSl f k l e = true) : ∃ x a b p q, e = .Subscript x (.Slice a b none p) q ∧ f x = true ∧ k a = true ∧ l b = true := by
  unfold mSl at h; split at h
  · obtain ⟨h1, h2⟩ := both h
    exact ⟨_, _, _, _, _, rfl, h1, both h2⟩
  · cases h
theorem mCall_inv {nm : Option Str} {k : List Expr → Bool} (h : mCall S nm k e = true) : ∃ x p y ys q, e = .Call (.Name x p) (y :: ys) [] q ∧ nm = some x ∧ glB S x = true ∧ k (y :: ys) = true := by
  unfold mCall at h; split at h
  · obtain ⟨h1, h2⟩ := both h
    exact ⟨_, _, _, _, _, rfl, dec h1, both h2⟩
  · cases h
theorem mIsa_inv {t : Nat} (h : mIsa S t f e = true) : ∃ p y q r, e = .Call (.Name "isinstance" p) [y, .Name (isaN t) q] [] r ∧ glB S "isinstance" = true ∧ glB S (isaN t) = true ∧ t ≤ 5 ∧ f y = true := by
  unfold mIsa at h; split at h
  · obtain ⟨h1, h2⟩ := both h
    obtain ⟨h1, h3⟩ := both h1
    obtain ⟨h2, h4⟩ := both h2
    obtain ⟨h2, h5⟩ := both h2
    obtain ⟨h4, h6⟩ := both h4
    obtain rfl := dec h1
    obtain rfl := dec h2
    exact ⟨_, _, _, _, rfl, h3, h5, dec h4, h6⟩
  · cases h
theorem mWrap_inv {x y : Str} (h : mWrap S x y f e = true) : ∃ p q z r t, e = .Call (.Name x p) [.Call (.Name y q) [z] [] r] [] t ∧ glB S x = true ∧ glB S y = true ∧ f z = true := by
  unfold mWrap at h; split at h
  · obtain ⟨h1, h2⟩ := both h
    obtain ⟨h1, h3⟩ := both h1
    obtain ⟨h2, h4⟩ := both h2
    obtain ⟨h2, h5⟩ := both h2
    obtain rfl := dec h1
    obtain rfl := dec h2
    exact ⟨_, _, _, _, _, rfl, h3, h5, h4⟩
  · cases h
theorem mComp_inv {tg : Tg} {k l : Scope → Expr → Bool} {yes : Bool} (h : mComp N S tg f k l yes e = true) : ∃ x tg' it' ifs sc p, e = .ListComp x [⟨tg', it', ifs, 0⟩] sc p ∧ blkC N S sc (ownOf N (tgs tg)) = true ∧ tgB N (relS sc S) sc tg tg' = true ∧ f it' = true ∧ k (relS sc S) x = true ∧ mIfs yes (l (relS sc S)) ifs = true := by
  unfold mComp at h; split at h
  · obtain ⟨h1, h2⟩ := both h
    obtain ⟨h2, h3⟩ := both h2
    obtain ⟨h2, h4⟩ := both h2
    exact ⟨_, _, _, _, _, _, rfl, h1, h2, h4, both h3⟩
  · cases h
theorem mComp2_inv {tg tg1 : Tg} {j k l m : Scope → Expr → Bool} {yes yes1 : Bool} (h : mComp2 N S tg tg1 f j k l m yes yes1 e = true) : ∃ x tg' it' ifs tg1' it1' ifs1 sc p, e = .ListComp x [⟨tg', it', ifs, 0⟩, ⟨tg1', it1', ifs1, 0⟩] sc p ∧ blkC N S sc (ownOf N (tgs tg ++ tgs tg1)) = true ∧
    tgB N (relS sc S) sc tg tg' = true ∧ f it' = true ∧ tgB N (relS sc S) sc tg1 tg1' = true ∧ j (relS sc S) it1' = true ∧ k (relS sc S) x = true ∧ mIfs yes (l (relS sc S)) ifs = true ∧ mIfs yes1 (m (relS sc S)) ifs1 = true := by
  unfold mComp2 at h; split at h
  · obtain ⟨h1, h2⟩ := both h
    obtain ⟨h2, h3⟩ := both h2
    obtain ⟨h2, h4⟩ := both h2
    obtain ⟨h3, h5⟩ := both h3
    obtain ⟨h3, h6⟩ := both h3
    obtain ⟨h5, h7⟩ := both h5
    exact ⟨_, _, _, _, _, _, _, _, _, rfl, h1, h2, h4, h3, h6, h5, both h7⟩
  · cases h
theorem mRg_inv (h : mRg S f e = true) : ∃ p z r, e = .Call (.Name "range" p) [z] [] r ∧ glB S "range" = true ∧ f z = true := by
  unfold mRg at h; split at h
  · obtain ⟨h1, h2⟩ := both h
    obtain ⟨h1, h3⟩ := both h1
    obtain rfl := dec h1
    exact ⟨_, _, _, rfl, h3, h2⟩
  · cases h
theorem mRg2_inv (h : mRg2 S f g e = true) : ∃ p z u r, e = .Call (.Name "range" p) [z, u] [] r ∧ glB S "range" = true ∧ f z = true ∧ g u = true := by
  unfold mRg2 at h; split at h
  · obtain ⟨h1, h2⟩ := both h
    obtain ⟨h1, h3⟩ := both h1
    obtain rfl := dec h1
    exact ⟨_, _, _, _, rfl, h3, both h2⟩
  · cases h
theorem mCons_inv {k : List Expr → Bool} {es : List Expr} (h : mCons f k es = true) : ∃ x xs, es = x :: xs ∧ f x = true ∧ k xs = true := by
  unfold mCons at h; split at h
  · exact ⟨_, _, rfl, both h⟩
  · cases h
theorem isNil_inv {es : List Expr} (h : isNil es = true) : es = [] := by
  unfold isNil at h; split at h
  · rfl
  · cases h
theorem nmB_inv {i : Nat} {x : Str} (h : nmB N S i x = true) : N[i]? = some x ∧ Vis S x ∧ (x == ("__debug__" : Str)) = false ∧ (x == ("__classdict__" : Str)) = false := by
  unfold nmB ixB visB at h
  obtain ⟨h1, h2⟩ := both h
  obtain ⟨h2, h3⟩ := both h2
  obtain ⟨h3, h4⟩ := both h3
  refine ⟨?_, ?_, by simpa using h3, by simpa using h4⟩
  · split at h1
    · rename_i y e; rw [e, dec h1]
    · cases h1
  · split at h2
    · exact .inl (by assumption)
    · exact .inr (.inl (by assumption))
    · exact .inr (.inr (by assumption))
    · cases h2
theorem glB_inv {x : Str} (h : glB S x = true) : S.names.lookup x = some .globalImplicit ∧ (x == ("__debug__" : Str)) = false := by
  unfold glB at h
  obtain ⟨h1, h2⟩ := both h
  refine ⟨?_, by simpa using h2⟩
  split at h1
  · assumption
  · cases h1
theorem stoB_inv {raw : Scope} {i : Nat} {x : Str} (h : stoB N S raw i x = true) : N[i]? = some x ∧ (S.names.lookup x = some .local ∨ (celB raw x = true ∧ S.names.lookup x = some .cell)) := by
  unfold stoB ixB loclB at h
  obtain ⟨h1, h2⟩ := both h
  refine ⟨?_, ?_⟩
  · split at h1
    · rename_i y e; rw [e, dec h1]
    · cases h1
  · rw [Bool.or_eq_true] at h2
    rcases h2 with h2 | h2
    · split at h2
      · exact .inl (by assumption)
      · cases h2
    · obtain ⟨h2, h3⟩ := both h2
      refine .inr ⟨h2, ?_⟩
      unfold celB at h3
      split at h3
      · assumption
      · cases h3
theorem cstB_inv {d : PyData} {c : Const} (h : cstB d c = true) : (d = .none ∧ c = .none) ∨ (∃ b, d = .bool b ∧ c = .bool b) ∨ (∃ i, d = .int i ∧ c = .int i) ∨ ∃ x, d = .str x ∧ c = .str x := by
  unfold cstB at h; split at h
  · exact .inl ⟨rfl, rfl⟩
  · exact .inr (.inl ⟨_, rfl, by rw [eq_of_beq h]⟩)
  · exact .inr (.inr (.inl ⟨_, rfl, by rw [dec h]⟩))
  · exact .inr (.inr (.inr ⟨_, rfl, by rw [dec h]⟩))
  · cases h
end
end Pv
set_option Elab.async false
set_option linter.all false
set_option maxRecDepth 100000
set_option maxHeartbeats 2000000
/-! Core 3: plain data in the heap; a frame that stands for a data frame. Own work. -/
set_option autoImplicit false
namespace Pv
open PySem PySem.Spec L2

mutual
/-- v is the data d, by the frozen part G of the heap -/
inductive Rp (K : PySem.W.Frag) (G : Hp) : V → PyData → Prop
  | non : Rp K G .non .none
  | bl (b : Bool) : Rp K G (.bl b) (.bool b)
  | int (i : Int) : Rp K G (.int i) (.int i)
  | str (x : Str) : Rp K G (.str x) (.str x)
  | lst {a : Addr} {xs : List V} {ds : List PyData} : G a = some (.lst xs) → Rps K G xs ds → Rp K G (.ref a) (.list ds)
  | tup {a : Addr} {xs : List V} {ds : List PyData} : SqT K G a xs → Rps K G xs ds → Rp K G (.ref a) (.tuple ds)
inductive Rps (K : PySem.W.Frag) (G : Hp) : List V → List PyData → Prop
  | nil : Rps K G [] []
  | cons {v : V} {vs : List V} {d : PyData} {ds : List PyData} : Rp K G v d → Rps K G vs ds → Rps K G (v :: vs) (d :: ds)
end
def Sub (G H : Hp) : Prop := ∀ a o, G a = some o → H a = some o
theorem Sub.refl (G : Hp) : Sub G G := fun _ _ e => e
theorem Sub.trans {G H J : Hp} (a : Sub G H) (b : Sub H J) : Sub G J := fun x o e => b x o (a x o e)
theorem Sub.sqT {K : PySem.W.Frag} {G H : Hp} (s : Sub G H) {a : Addr} {xs : List V} (h : SqT K G a xs) : SqT K H a xs := by
  rcases h with (h | ⟨o, h⟩) | h
  · exact .inl (.inl (s _ _ h))
  · exact .inl (.inr ⟨o, s _ _ h⟩)
  · exact .inr h
section
variable {K : PySem.W.Frag} {G H : Hp}
mutual
theorem Rp.mono (s : Sub G H) : ∀ {v : V} {d : PyData}, Rp K G v d → Rp K H v d
  | _, _, .non => .non
  | _, _, .bl b => .bl b
  | _, _, .int i => .int i
  | _, _, .str x => .str x
  | _, _, .lst h r => .lst (s _ _ h) (Rps.mono s r)
  | _, _, .tup h r => .tup (s.sqT h) (Rps.mono s r)
theorem Rps.mono (s : Sub G H) : ∀ {vs : List V} {ds : List PyData}, Rps K G vs ds → Rps K H vs ds
  | _, _, .nil => .nil
  | _, _, .cons a b => .cons (Rp.mono s a) (Rps.mono s b)
end
mutual
theorem Rp.dp (s : Sub G H) : ∀ {v : V} {d : PyData}, Rp K G v d → Dp K H v d
  | _, _, .non => .non
  | _, _, .bl b => .bl b
  | _, _, .int i => .int i
  | _, _, .str x => .str x
  | _, _, .lst h r => .lst (SqL.of (s _ _ h)) (Rps.dp s r)
  | _, _, .tup h r => .tup (s.sqT h) (Rps.dp s r)
theorem Rps.dp (s : Sub G H) : ∀ {vs : List V} {ds : List PyData}, Rps K G vs ds → DpAll K H vs ds
  | _, _, .nil => .nil
  | _, _, .cons a b => .cons (Rp.dp s a) (Rps.dp s b)
end
theorem Rps.length : ∀ {vs : List V} {ds : List PyData}, Rps K G vs ds → vs.length = ds.length
  | _, _, .nil => rfl
  | _, _, .cons _ b => by rw [List.length_cons, List.length_cons, Rps.length b]
theorem Rps.get : ∀ {vs : List V} {ds : List PyData} {i : Nat} {d : PyData}, Rps K G vs ds → ds[i]? = some d → ∃ v, vs[i]? = some v ∧ Rp K G v d
  | _, _, _, _, .nil, e => by simp at e
  | _, _, 0, _, .cons a _, e => by simp at e; subst e; exact ⟨_, rfl, a⟩
  | _, _, i + 1, d, .cons _ b, e => by
    obtain ⟨v, h1, h2⟩ := Rps.get (i := i) (d := d) b (by simpa using e)
    exact ⟨v, by simpa using h1, h2⟩
theorem Rps.getV : ∀ {vs : List V} {ds : List PyData} {i : Nat} {v : V}, Rps K G vs ds → vs[i]? = some v → ∃ d, ds[i]? = some d ∧ Rp K G v d
  | _, _, _, _, .nil, e => by simp at e
  | _, _, 0, _, .cons a _, e => by simp at e; subst e; exact ⟨_, rfl, a⟩
  | _, _, i + 1, v, .cons _ b, e => by
    obtain ⟨d, h1, h2⟩ := Rps.getV (i := i) (v := v) b (by simpa using e)
    exact ⟨d, by simpa using h1, h2⟩
theorem Rps.append : ∀ {xs ys : List V} {ds es : List PyData}, Rps K G xs ds → Rps K G ys es → Rps K G (xs ++ ys) (ds ++ es)
  | _, _, _, _, .nil, s => s
  | _, _, _, _, .cons a b, s => .cons a (Rps.append b s)
theorem Rps.take : ∀ {xs : List V} {ds : List PyData} (n : Nat), Rps K G xs ds → Rps K G (xs.take n) (ds.take n)
  | _, _, 0, _ => .nil
  | _, _, _ + 1, .nil => .nil
  | _, _, n + 1, .cons a b => .cons a (Rps.take n b)
theorem Rps.drop : ∀ {xs : List V} {ds : List PyData} (n : Nat), Rps K G xs ds → Rps K G (xs.drop n) (ds.drop n)
  | _, _, 0, r => r
  | _, _, _ + 1, .nil => .nil
  | _, _, n + 1, .cons _ b => Rps.drop n b
theorem Rps.set {v : V} {d : PyData} (r : Rp K G v d) : ∀ {xs : List V} {ds : List PyData} (i : Nat), Rps K G xs ds → Rps K G (xs.set i v) (ds.set i d)
  | _, _, _, .nil => .nil
  | _, _, 0, .cons _ t => .cons r t
  | _, _, i + 1, .cons q t => .cons q (Rps.set r i t)
theorem Rps.cut {xs : List V} {ds : List PyData} (r : Rps K G xs ds) (lo hi : Option Int) : Rps K G (cutV xs lo hi) (cutG ds lo hi) := by
  unfold cutV cutG
  rw [r.length]
  exact (r.drop _).take _
theorem Rps.rep {xs : List V} {ds : List PyData} (r : Rps K G xs ds) : ∀ n, Rps K G (List.replicate n xs).flatten (List.replicate n ds).flatten
  | 0 => .nil
  | n + 1 => by
    rw [List.replicate_succ, List.replicate_succ, List.flatten_cons, List.flatten_cons]
    exact r.append (Rps.rep r n)
theorem Rps.ints : ∀ ns : List Int, Rps K G (ns.map V.int) (ns.map PyData.int)
  | [] => .nil
  | n :: r => .cons (.int n) (Rps.ints r)
end

/-- the two lists of the law's drawing state -/
abbrev DFt := Option (Addr × Addr)
def NotIn (a : Addr) : DFt → Prop
  | none => True
  | some q => a ≠ q.1 ∧ a ≠ q.2
/-- no table of code objects: those may grow -/
def noTbl : HO → Prop
  | .tbl _ => False
  | _ => True
/-- nothing there but, it may be, a table -/
def Fr0 (H : Hp) (a : Addr) : Prop := ∀ o, H a = some o → ¬ noTbl o
theorem Fr0.of {H : Hp} {a : Addr} (h : H a = none) : Fr0 H a := fun o e => by rw [h] at e; cases e
theorem Fr0.no {H : Hp} {a : Addr} {xs : List V} (h : Fr0 H a) (e : H a = some (.lst xs)) : False := h _ e trivial
def Keep (DF : DFt) (H H' : Hp) : Prop := ∀ a o, H a = some o → noTbl o → NotIn a DF → H' a = some o
theorem Keep.refl (DF : DFt) (H : Hp) : Keep DF H H := fun _ _ e _ _ => e
theorem Keep.trans {DF : DFt} {H H1 H2 : Hp} (a : Keep DF H H1) (b : Keep DF H1 H2) : Keep DF H H2 := fun x o e z n => b x o (a x o e z n) z n
theorem Keep.upd {DF : DFt} {H : Hp} {p : Addr} {o : HO} (h : H p = none) : Keep DF H (upd H p o) := fun b u e _ _ => by
  rw [upd_ne (ne_of_none e h)]
  exact e
theorem Sub.upd {G : Hp} {p : Addr} {o : HO} (h : G p = none) : Sub G (upd G p o) := fun b u e => by
  rw [upd_ne (ne_of_none e h)]
  exact e
/-- the state of the drawing: cells -/
def CellsOk (cells : List Int) : Prop := cells ≠ [] ∧ cells.length ≤ 1000
def Dr (G H : Hp) : DFt → Prop
  | none => True
  | some q => G q.1 = none ∧ G q.2 = none ∧ q.1 ≠ q.2 ∧ ∃ pos cells, H q.1 = some (.lst [.int pos, .ref q.2]) ∧ H q.2 = some (.lst (cells.map V.int)) ∧ CellsOk cells
/-- the frozen part holds no table -/
def NT (G : Hp) : Prop := ∀ a o, G a = some o → noTbl o
theorem NT.upd {G : Hp} {p : Addr} {o : HO} (h : NT G) (n : noTbl o) : NT (upd G p o) := fun a u e => by
  by_cases hp : a = p
  · subst hp; rw [upd_same] at e; cases e; exact n
  · rw [upd_ne hp] at e; exact h a u e
def DrOk (G H : Hp) (DF : DFt) : Prop := NT G ∧ Dr G H DF
/-- a list (later: a dict) that one name alone holds -/
def Ow (K : PySem.W.Frag) (G H : Hp) (p : Addr) : PyData → Prop
  | .list ds => ∃ xs, H p = some (.lst xs) ∧ Rps K G xs ds
  | _ => False
structure Px where
  /-- the tables of code objects, with the names of their lambdas -/
  T : List (Addr × Str)
  K : PySem.W.Frag
  cl : Nat → Addr
  fl : Nat → Str
  DF0 : DFt
  G0 : Hp
  H0 : Hp
/-- a slot of the frame -/
def SlotOk (P : Px) (DF : DFt) (G H : Hp) (o : Option (Option V)) : Slot → Prop
  | .un => True
  | .v d => ∃ v, o = some (some v) ∧ Rp P.K G v d
  | .own d => ∃ p, o = some (some (.ref p)) ∧ G p = none ∧ Fr0 P.H0 p ∧ NotIn p DF ∧ Ow P.K G H p d
  | .st => ∃ q, o = some (some (.ref q.1)) ∧ DF = some q
  | .ob _ => False
def ud (G : Hp) (p : Addr) (o : HO) : Hp := upd G p o
structure FrD (P : Px) (DF : DFt) (σ : St) (ρ : Env) (G H : Hp) : Prop where
  len : ρ.length = σ.length
  sub : Sub G H
  sub0 : Sub P.G0 G
  new : ∀ a o, G a = some o → P.G0 a = some o ∨ Fr0 P.H0 a
  keep0 : Keep DF P.H0 H
  df : DF = P.DF0 ∨ (P.DF0 = none ∧ ∀ q, DF = some q → Fr0 P.H0 q.1 ∧ Fr0 P.H0 q.2)
  slots : ∀ (i : Nat) (s : Slot), ρ[i]? = some s → SlotOk P DF G H σ[i]? s
  own1 : ∀ (i j : Nat) (d d' : PyData) (p : Addr), ρ[i]? = some (.own d) → ρ[j]? = some (.own d') → σ[i]? = some (some (.ref p)) → σ[j]? = some (some (.ref p)) → i = j
  dr : DrOk G H DF
  live0 : ∀ a, Fr0 H a → Fr0 P.H0 a
  tab : LamX.Tabs P.T H
/-- how a heap and its frozen part grow -/
structure Gr (T : List (Addr × Str)) (DF : DFt) (G H G' H' : Hp) : Prop where
  sub : Sub G G'
  keep : Keep DF H H'
  new : ∀ a o, G' a = some o → G a = some o ∨ Fr0 H a
  live : ∀ a, Fr0 H' a → Fr0 H a
  tab : LamX.Tabs T H → LamX.Tabs T H'
theorem Gr.refl (T : List (Addr × Str)) (DF : DFt) (G H : Hp) : Gr T DF G H G H := ⟨Sub.refl G, Keep.refl DF H, fun _ _ e => .inl e, fun _ e => e, fun t => t⟩
theorem Gr.trans {T : List (Addr × Str)} {DF : DFt} {G H G1 H1 G2 H2 : Hp} (a : Gr T DF G H G1 H1) (b : Gr T DF G1 H1 G2 H2) : Gr T DF G H G2 H2 :=
  ⟨a.sub.trans b.sub, a.keep.trans b.keep, fun x o e => by
    rcases b.new x o e with z | z
    · exact a.new x o z
    · exact .inr (a.live x z), fun x e => a.live x (b.live x e), fun t => b.tab (a.tab t)⟩
/-- tables, where lists alone are written -/
theorem tabs_lst {T : List (Addr × Str)} {H H' : Hp} (t : LamX.Tabs T H) (h : ∀ a o, H a = some o → (∀ xs, o ≠ .lst xs) → H' a = some o) : LamX.Tabs T H' := fun p hp => by
  obtain ⟨ps, h1, h2, h3⟩ := t p hp
  refine ⟨ps, h _ _ h1 (fun xs z => nomatch z), h2, fun pos cv hc => ?_⟩
  obtain ⟨c, e1, e2⟩ := h3 pos cv hc
  exact ⟨c, e1, h _ _ e2 fun xs z => by unfold LamX.CodeO at z; cases z⟩
theorem tabs_upd {T : List (Addr × Str)} {H : Hp} {p : Addr} {o : HO} (t : LamX.Tabs T H) (h : H p = none) : LamX.Tabs T (upd H p o) := t.ext fun b u e => by rw [upd_ne (ne_of_none e h)]; exact e
theorem tabs_wr {T : List (Addr × Str)} {H : Hp} {p : Addr} {o : HO} {xs : List V} (t : LamX.Tabs T H) (h : H p = some (.lst xs)) : LamX.Tabs T (upd H p o) := tabs_lst t fun a u e n => by
  rw [upd_ne (fun z => n xs (by rw [z, h] at e; cases e; rfl))]; exact e
section
variable {P : Px} {DF : DFt} {σ σ' : St} {ρ ρ' : Env} {G G' H H' : Hp}
theorem FrD.none_of (F : FrD P DF σ ρ G H) {a : Addr} (h : H a = none) : G a = none := by
  cases e : G a with
  | none => rfl
  | some o => rw [F.sub a o e] at h; cases h
theorem SlotOk.own_some {o : Option (Option V)} {d : PyData} (h : SlotOk P DF G H o (.own d)) : ∃ p u, o = some (some (.ref p)) ∧ H p = some u := by
  obtain ⟨p, h1, h2, h3, h4, h5⟩ := h
  cases d with
  | list ds => obtain ⟨xs, z, _⟩ := h5; exact ⟨p, _, h1, z⟩
  | _ => exact h5.elim
theorem SlotOk.grow {o : Option (Option V)} {sl : Slot} (h : SlotOk P DF G H o sl) (g : Gr P.T DF G H G' H') : SlotOk P DF G' H' o sl := by
  cases sl with
  | un => trivial
  | v d => obtain ⟨v, h1, h2⟩ := h; exact ⟨v, h1, h2.mono g.sub⟩
  | own d =>
    obtain ⟨p, h1, h2, h3, h4, h5⟩ := h
    cases d with
    | list ds =>
      obtain ⟨xs, z, r⟩ := h5
      refine ⟨p, h1, ?_, h3, h4, xs, g.keep _ _ z trivial h4, r.mono g.sub⟩
      cases q : G' p with
      | none => rfl
      | some u =>
        rcases g.new p u q with w | w
        · rw [h2] at w; cases w
        · exact (w.no z).elim
    | _ => exact h5.elim
  | st => exact h
  | ob _ => exact h.elim
/-- the heap grows -/
theorem FrD.grow (F : FrD P DF σ ρ G H) (g : Gr P.T DF G H G' H') (sH : Sub G' H') (d : DrOk G' H' DF) : FrD P DF σ ρ G' H' where
  len := F.len
  sub := sH
  sub0 := F.sub0.trans g.sub
  new := fun a o e => by
    rcases g.new a o e with z | z
    · exact F.new a o z
    · exact .inr (F.live0 a z)
  keep0 := F.keep0.trans g.keep
  df := F.df
  slots := fun i sl e => (F.slots i sl e).grow g
  own1 := F.own1
  dr := d
  live0 := fun a e => F.live0 a (g.live a e)
  tab := g.tab F.tab
/-- the same heap, seen by another frame of ours -/
theorem FrD.swap (F : FrD P DF σ ρ G H) (g : Gr P.T DF G H G' H') (F' : FrD P DF σ' ρ' G' H') : FrD P DF σ ρ G' H' := F.grow g F'.sub F'.dr
theorem DrOk.keep {G G' H H' : Hp} (d : DrOk G H DF) (nt : NT G') (k : Keep none H H') (n : ∀ a o, G' a = some o → G a = some o ∨ Fr0 H a) : DrOk G' H' DF := by
  refine ⟨nt, ?_⟩
  replace d := d.2
  cases DF with
  | none => trivial
  | some q =>
    obtain ⟨h1, h2, h3, pos, cells, h4, h5, h6⟩ := d
    refine ⟨?_, ?_, h3, pos, cells, k _ _ h4 trivial trivial, k _ _ h5 trivial trivial, h6⟩
    · cases e : G' q.1 with
      | none => rfl
      | some o =>
        rcases n _ _ e with z | z
        · rw [h1] at z; cases z
        · exact (z.no h4).elim
    · cases e : G' q.2 with
      | none => rfl
      | some o =>
        rcases n _ _ e with z | z
        · rw [h2] at z; cases z
        · exact (z.no h5).elim
theorem FrD.notDF (F : FrD P DF σ ρ G H) {a : Addr} (h : Fr0 H a) : NotIn a DF := by
  have D := F.dr.2
  cases hd : DF with
  | none => trivial
  | some w =>
    rw [hd] at D
    obtain ⟨_, _, _, _, _, e1, e2, _⟩ := D
    exact ⟨fun z => (by rw [z] at h; exact h.no e1), fun z => (by rw [z] at h; exact h.no e2)⟩
theorem FrD.h0 (F : FrD P DF σ ρ G H) {a : Addr} (h : Fr0 H a) : Fr0 P.H0 a ∧ NotIn a DF := ⟨F.live0 a h, F.notDF h⟩
/-- an object of ours is frozen -/
theorem FrD.ice (F : FrD P DF σ ρ G H) {a : Addr} {o : HO} (e : H a = some o) (g : G a = none) (h0 : Fr0 P.H0 a) (hn : NotIn a DF) (ho : ∀ (i : Nat) d, ρ[i]? = some (.own d) → σ[i]? ≠ some (some (.ref a))) (nt : noTbl o := by exact trivial) : FrD P DF σ ρ (upd G a o) H := by
  have s : Sub G (upd G a o) := fun b u z => by rw [upd_ne (ne_of_none z g)]; exact z
  refine ⟨F.len, fun b u z => ?_, F.sub0.trans s, fun b u z => ?_, F.keep0, F.df, fun i sl z => ?_, F.own1, ?_, F.live0, F.tab⟩
  · by_cases hb : b = a
    · subst hb; rw [upd_same] at z; rw [e]; exact z
    · rw [upd_ne hb] at z; exact F.sub b u z
  · by_cases hb : b = a
    · subst hb; exact .inr h0
    · rw [upd_ne hb] at z; exact F.new b u z
  · have h := F.slots i sl z
    cases sl with
    | un => trivial
    | v d => obtain ⟨v, h1, h2⟩ := h; exact ⟨v, h1, h2.mono s⟩
    | own d =>
      obtain ⟨p, h1, h2, h3, h4, h5⟩ := h
      have hp : p ≠ a := fun q => ho i d z (by rw [h1, q])
      refine ⟨p, h1, by rw [upd_ne hp]; exact h2, h3, h4, ?_⟩
      cases d with
      | list ds => obtain ⟨xs, z, r⟩ := h5; exact ⟨xs, z, r.mono s⟩
      | _ => exact h5.elim
    | st => exact h
    | ob _ => exact h.elim
  · refine ⟨F.dr.1.upd nt, ?_⟩
    have D := F.dr.2
    cases hd : DF with
    | none => trivial
    | some w =>
      rw [hd] at D hn
      obtain ⟨d1, d2, d3, pos, cells, d4⟩ := D
      exact ⟨by rw [upd_ne (Ne.symm hn.1)]; exact d1, by rw [upd_ne (Ne.symm hn.2)]; exact d2, d3, pos, cells, d4⟩
theorem SlotOk.own_lst {o : Option (Option V)} {d : PyData} (h : SlotOk P DF G H o (.own d)) : ∃ p xs, o = some (some (.ref p)) ∧ H p = some (.lst xs) := by
  obtain ⟨p, h1, h2, h3, h4, h5⟩ := h
  cases d with
  | list ds => obtain ⟨xs, z, _⟩ := h5; exact ⟨p, _, h1, z⟩
  | _ => exact h5.elim
theorem FrD.notOwn (F : FrD P DF σ ρ G H) {a : Addr} (h : Fr0 H a) : ∀ (i : Nat) d, ρ[i]? = some (.own d) → σ[i]? ≠ some (some (.ref a)) := fun i d z q => by
  obtain ⟨p, u, h1, h2⟩ := (F.slots i _ z).own_lst
  rw [q] at h1
  cases h1
  exact h.no h2
theorem fr0_upd {p : Addr} {o : HO} (h : H p = none) : ∀ a, Fr0 (upd H p o) a → Fr0 H a := fun a e u z => e u (by rw [upd_ne (ne_of_none z h)]; exact z)
theorem fr0_wr {p : Addr} {xs ys : List V} : ∀ a, Fr0 (upd H p (.lst ys)) a → Fr0 H a := fun a e u z => by
  by_cases hb : a = p
  · subst hb
    exact (e.no upd_same).elim
  · exact e u (by rw [upd_ne hb]; exact z)
theorem Gr.more {p : Addr} {o : HO} (hg : G p = none) (h : H p = none) : Gr P.T DF G H G (upd H p o) :=
  ⟨Sub.refl G, Keep.upd h, fun _ _ e => .inl e, fr0_upd h, fun t => tabs_upd t h⟩
theorem Gr.ice {p : Addr} {o : HO} (hg : G p = none) (h : H p = none) : Gr P.T DF G H (Pv.ud G p o) (upd H p o) := by
  unfold Pv.ud
  exact ⟨Sub.upd hg, Keep.upd h, fun a u e => by
    by_cases hp : a = p
    · subst hp; exact .inr (.of h)
    · rw [upd_ne hp] at e; exact .inl e, fr0_upd h, fun t => tabs_upd t h⟩
/-- a new object is frozen -/
theorem FrD.freeze (F : FrD P DF σ ρ G H) {p : Addr} {o : HO} (h : H p = none) (nt : noTbl o := by exact trivial) : FrD P DF σ ρ (ud G p o) (upd H p o) ∧ Gr P.T DF G H (ud G p o) (upd H p o) ∧ (ud G p o) p = some o := by
  have hg := F.none_of h
  have g : Gr P.T DF G H (ud G p o) (upd H p o) := Gr.ice hg h
  refine ⟨F.grow g (fun a u e => ?_) (F.dr.keep (F.dr.1.upd nt) (Keep.upd h) g.new), g, upd_same⟩
  unfold ud at e
  by_cases hp : a = p
  · subst hp
    rw [upd_same] at e
    rw [upd_same]; exact e
  · rw [upd_ne hp] at e
    rw [upd_ne hp]; exact F.sub a u e
/-- a new object, not frozen -/
theorem FrD.more (F : FrD P DF σ ρ G H) {p : Addr} {o : HO} (h : H p = none) : FrD P DF σ ρ G (upd H p o) ∧ Gr P.T DF G H G (upd H p o) := by
  have g : Gr P.T DF G H G (upd H p o) := Gr.more (F.none_of h) h
  exact ⟨F.grow g (F.sub.trans fun a u e => by rw [upd_ne (ne_of_none e h)]; exact e) (F.dr.keep F.dr.1 (Keep.upd h) g.new), g⟩
/-- an object of ours is written -/
theorem FrD.poke (F : FrD P DF σ ρ G H) {a : Addr} {ys : List V} {xs : List V} (ea : H a = some (.lst xs)) (g : G a = none) (h0 : Fr0 P.H0 a) (hn : NotIn a DF) (ho : ∀ (i : Nat) d, ρ[i]? = some (.own d) → σ[i]? ≠ some (some (.ref a))) : FrD P DF σ ρ G (upd H a (.lst ys)) := by
  refine ⟨F.len, fun b u z => ?_, F.sub0, F.new, fun b u z nt n => ?_, F.df, fun i sl z => ?_, F.own1, ?_, fun b e => ?_, tabs_wr F.tab ea⟩
  · rw [upd_ne (ne_of_none z g)]; exact F.sub b u z
  · rw [upd_ne (fun e => h0 u (by rw [← e]; exact z) nt)]; exact F.keep0 b u z nt n
  · have h := F.slots i sl z
    cases sl with
    | un => trivial
    | v d => exact h
    | own d =>
      obtain ⟨p, h1, h2, h3, h4, h5⟩ := h
      have hp : p ≠ a := fun q => ho i d z (by rw [h1, q])
      refine ⟨p, h1, h2, h3, h4, ?_⟩
      cases d with
      | list ds => obtain ⟨xs, z, r⟩ := h5; exact ⟨xs, by rw [upd_ne hp]; exact z, r⟩
      | _ => exact h5.elim
    | st => exact h
    | ob _ => exact h.elim
  · refine ⟨F.dr.1, ?_⟩
    have D := F.dr.2
    cases hd : DF with
    | none => trivial
    | some w =>
      rw [hd] at D hn
      obtain ⟨d1, d2, d3, pos, cells, d4, d5, d6⟩ := D
      exact ⟨d1, d2, d3, pos, cells, by rw [upd_ne (Ne.symm hn.1)]; exact d4, by rw [upd_ne (Ne.symm hn.2)]; exact d5, d6⟩
  · exact F.live0 b (fr0_wr (xs := xs) b e)
end
/-- a value, or a list that a name alone holds, to be read -/
def Rb (K : PySem.W.Frag) (DF : DFt) (G H : Hp) (v : V) (d : PyData) : Prop := Rp K G v d ∨ ∃ p, v = .ref p ∧ NotIn p DF ∧ Ow K G H p d
section
variable {K : PySem.W.Frag} {DF : DFt} {G G' H H' : Hp} {v : V} {d : PyData}
theorem Rb.keep {T : List (Addr × Str)} (r : Rb K DF G H v d) (g : Gr T DF G H G' H') : Rb K DF G' H' v d := by
  rcases r with r | ⟨p, e, h1, h2⟩
  · exact .inl (r.mono g.sub)
  · cases d with
    | list ds =>
      obtain ⟨xs, z, r⟩ := h2
      exact .inr ⟨p, e, h1, xs, g.keep _ _ z trivial h1, r.mono g.sub⟩
    | _ => exact h2.elim
theorem Rb.int {i : Int} (r : Rb K DF G H v (.int i)) : v = .int i := by
  rcases r with r | ⟨p, e, h1, h2⟩
  · cases r; rfl
  · exact h2.elim
theorem Rb.bool {i : Bool} (r : Rb K DF G H v (.bool i)) : v = .bl i := by
  rcases r with r | ⟨p, e, h1, h2⟩
  · cases r; rfl
  · exact h2.elim
theorem Rb.str {i : Str} (r : Rb K DF G H v (.str i)) : v = .str i := by
  rcases r with r | ⟨p, e, h1, h2⟩
  · cases r; rfl
  · exact h2.elim
theorem Rb.list {ds : List PyData} (r : Rb K DF G H v (.list ds)) (s : Sub G H) : ∃ a xs, v = .ref a ∧ H a = some (.lst xs) ∧ Rps K G xs ds := by
  rcases r with r | ⟨p, e, h1, xs, z, r⟩
  · cases r with
    | lst h r => exact ⟨_, _, rfl, s _ _ h, r⟩
  · exact ⟨p, xs, e, z, r⟩
theorem Rb.tup {ds : List PyData} (r : Rb K DF G H v (.tuple ds)) (s : Sub G H) : ∃ a xs, v = .ref a ∧ SqT K H a xs ∧ Rps K G xs ds ∧ Rp K G v (.tuple ds) := by
  rcases r with r | ⟨p, e, h1, h2⟩
  · have r0 := r
    cases r with
    | tup h r => exact ⟨_, _, rfl, s.sqT h, r, r0⟩
  · exact h2.elim
theorem Rb.dp (r : Rb K DF G H v d) (s : Sub G H) : Dp K H v d := by
  rcases r with r | ⟨p, e, h1, h2⟩
  · exact r.dp s
  · cases d with
    | list ds =>
      obtain ⟨xs, z, r⟩ := h2
      subst e
      exact .lst (SqL.of z) (r.dp s)
    | _ => exact h2.elim
end

/-! ### readings -/
/-- an exception of the class x.cls, its field -/
def ExAt (P : Px) (G : Hp) (x : Ex) (cls : Value) (dx : Option Addr) (H : Hp) : Prop := cls = .ref (P.cl x.cls) ∧ ∃ a v, dx = some a ∧ H a = some (.xd [(P.fl x.cls, v)]) ∧ Rp P.K G v x.fld
section
variable (P : Px) (C : Orc) (W : WX)
/-- what is wanted of an exception, from the state G, H on -/
def KX (DF : DFt) (σ : St) (ρ : Env) (G H : Hp) (e : Ex → Prop) : Prop := ∀ x H' G' cls dx, e x → FrD P DF σ ρ G' H' → Gr P.T DF G H G' H' → ExAt P G' x cls dx H' → W cls dx σ H'
def tV (c : CE) : TE := fun σ H Q => ∃ DF G ρ p e, FrD P DF σ ρ G H ∧ evE C c ρ p e ∧ (∀ v H' G' d, p d → FrD P DF σ ρ G' H' → Gr P.T DF G H G' H' → Rp P.K G' v d → Q v H') ∧ KX P W DF σ ρ G H e
def tB (c : CE) : TE := fun σ H Q => ∃ DF G ρ p e, FrD P DF σ ρ G H ∧ evE C c ρ p e ∧ (∀ v H' G' d, p d → FrD P DF σ ρ G' H' → Gr P.T DF G H G' H' → Rb P.K DF G' H' v d → Q v H') ∧ KX P W DF σ ρ G H e
/-- a new list -/
def tF (c : CE) : TE := fun σ H Q => ∃ DF G ρ p e, FrD P DF σ ρ G H ∧ evE C c ρ p e ∧ (∀ a xs H' G' ds, p (.list ds) → FrD P DF σ ρ G' H' → Gr P.T DF G H G' H' → Fr0 H a → G' a = none → H' a = some (.lst xs) → Rps P.K G' xs ds → Q (.ref a) H') ∧ KX P W DF σ ρ G H e
def tT (c : CE) : TT := fun σ H Q => ∃ DF G ρ p e, FrD P DF σ ρ G H ∧ evE C c ρ (fun d => asB d p) e ∧ (∀ b H' G', p b → FrD P DF σ ρ G' H' → Gr P.T DF G H G' H' → Q b H') ∧ KX P W DF σ ρ G H e
def tEs (c : CEs) : TA := fun σ H Q => ∃ DF G ρ p e, FrD P DF σ ρ G H ∧ evEs C c ρ p e ∧ (∀ vs H' G' ds, p ds → FrD P DF σ ρ G' H' → Gr P.T DF G H G' H' → Rps P.K G' vs ds → ds.length = cesLen c → Q vs H') ∧ KX P W DF σ ρ G H e
/-- data read alone -/
inductive Rbs (K : PySem.W.Frag) (DF : DFt) (G H : Hp) : List V → List PyData → Prop
  | nil : Rbs K DF G H [] []
  | cons {v vs d ds} : Rb K DF G H v d → Rbs K DF G H vs ds → Rbs K DF G H (v :: vs) (d :: ds)
def tBs (c : CEs) : TA := fun σ H Q => ∃ DF G ρ p e, FrD P DF σ ρ G H ∧ evEs C c ρ p e ∧ (∀ vs H' G' ds, p ds → FrD P DF σ ρ G' H' → Gr P.T DF G H G' H' → Rbs P.K DF G' H' vs ds → Q vs H') ∧ KX P W DF σ ρ G H e
/-- arguments -/
def RA (K : PySem.W.Frag) (DF : DFt) (G : Hp) : V → Slot → Prop
  | v, .v d => Rp K G v d
  | v, .st => ∃ q, v = .ref q.1 ∧ DF = some q
  | _, _ => False
inductive RAs (K : PySem.W.Frag) (DF : DFt) (G : Hp) : List V → List Slot → Prop
  | nil : RAs K DF G [] []
  | cons {v vs d ds} : RA K DF G v d → RAs K DF G vs ds → RAs K DF G (v :: vs) (d :: ds)
def tAr (c : CEs) : TA := fun σ H Q => ∃ DF G ρ p e, FrD P DF σ ρ G H ∧ evAr C c ρ p e ∧ (∀ vs H' G' ds, p ds → FrD P DF σ ρ G' H' → Gr P.T DF G H G' H' → RAs P.K DF G' vs ds → Q vs H') ∧ KX P W DF σ ρ G H e
end
section
variable {P : Px} {W : WX} {DF : DFt} {σ : St} {ρ : Env} {G G1 H H1 : Hp} {e : Ex → Prop}
theorem KX.step (k : KX P W DF σ ρ G H e) (g : Gr P.T DF G H G1 H1) : KX P W DF σ ρ G1 H1 e := fun x H' G' cls dx hx F g' ex => k x H' G' cls dx hx F (g.trans g') ex
theorem KX.noE : KX P W DF σ ρ G H noE := fun _ _ _ _ _ h => h.elim
end
theorem PE.mono {X : Cx} {e : Expr} {t t' : TE} (h : PE X e t) (m : ∀ σ H Q, t' σ H Q → t σ H Q) : PE X e t' := ⟨fun pins s σ H Q I q => h.run pins s σ H Q I (m σ H Q q)⟩
theorem PT.mono {X : Cx} {e : Expr} {t t' : TT} (h : PT X e t) (m : ∀ σ H Q, t' σ H Q → t σ H Q) : PT X e t' := ⟨fun pins s σ H Q I q => h.run pins s σ H Q I (m σ H Q q)⟩
theorem PA.mono {X : Cx} {e : List Expr} {t t' : TA} (h : PA X e t) (m : ∀ σ H Q, t' σ H Q → t σ H Q) : PA X e t' := ⟨fun pos pins s σ H Q I q => h.run pos pins s σ H Q I (m σ H Q q)⟩
end Pv
set_option Elab.async false
set_option linter.all false
set_option maxRecDepth 100000
set_option maxHeartbeats 4000000
/-! Core 4: operators and built-in functions over plain data. Own work. -/
set_option autoImplicit false
namespace Pv
open PySem PySem.Spec L2

structure Cxo (P : Px) (X : Cx) (S : Scope) (N : List Str) (cs : List (Str × PyData)) : Prop where
  K : X.K = P.K
  sc : X.env.scope = S
  hN : X.N = N
  nd : X.N.Nodup
  calm : X.calm = true
  hd : X.A.handled = none
  free : ∀ b ∈ (["len", "range", "min", "max", "abs", "sorted", "tuple", "list", "int", "isinstance", "set", "all", "any", "sum", "bool", "str", "dict"] : List Str), X.mg b = none
  gl : ∀ (k : Nat) (x : Str) (d : PyData), cs[k]? = some (x, d) → ∃ v u, X.mg x = some u ∧ RelV v u ∧ Rp P.K (fun _ => none) v d
  units : X.A.units + 200 < cLine
  depth : X.A.depth < recursionLimit

theorem line_lim : LIM ≤ sizeLine := by rw [sizeLine_eq]; decide
/-- what follows a value -/
def KV (P : Px) (DF : DFt) (σ : L2.St) (ρ : Env) (G H : Hp) (p : PyData → Prop) (Q : VK) : Prop := ∀ v H' G' d, p d → FrD P DF σ ρ G' H' → Gr P.T DF G H G' H' → Rp P.K G' v d → Q v H'
section
variable {P : Px} {DF : DFt} {σ : L2.St} {ρ : Env} {G H G1 H1 : Hp} {p : PyData → Prop} {Q : VK}
theorem KV.step (k : KV P DF σ ρ G H p Q) (g : Gr P.T DF G H G1 H1) : KV P DF σ ρ G1 H1 p Q := fun v H' G' d h F g' r => k v H' G' d h F (g.trans g') r
theorem KV.here (k : KV P DF σ ρ G H p Q) (F : FrD P DF σ ρ G H) {v : V} {d : PyData} (h : p d) (r : Rp P.K G v d) : Q v H := k v H G d h F (Gr.refl P.T DF G H) r
/-- a new tuple -/
theorem KV.newT (k : KV P DF σ ρ G H p Q) (F : FrD P DF σ ρ G H) {xs : List V} {ds : List PyData} (h : p (.tuple ds)) (r : Rps P.K G xs ds) {a : Addr} (n : H a = none) : Q (.ref a) (upd H a (.tup xs)) := by
  obtain ⟨F1, g, e1⟩ := F.freeze (o := .tup xs) n
  exact k _ _ _ _ h F1 g (.tup (SqT.of e1) (r.mono g.sub))
/-- a new list, frozen -/
theorem KV.newL (k : KV P DF σ ρ G H p Q) (F : FrD P DF σ ρ G H) {xs : List V} {ds : List PyData} (h : p (.list ds)) (r : Rps P.K G xs ds) {a : Addr} (n : H a = none) : Q (.ref a) (upd H a (.lst xs)) := by
  obtain ⟨F1, g, e1⟩ := F.freeze (o := .lst xs) n
  exact k _ _ _ _ h F1 g (.lst e1 (r.mono g.sub))
end
/-- an operator's reading by plain data -/
def rO (P : Px) (f : PyData → PyData → (PyData → Prop) → Prop) : R2 := fun x y H Q => ∃ DF G σ ρ p d1 d2, FrD P DF σ ρ G H ∧ Rb P.K DF G H x d1 ∧ Rb P.K DF G H y d2 ∧ f d1 d2 p ∧ KV P DF σ ρ G H p Q
section
variable {P : Px} {X : Cx} {S : Scope} {N : List Str} {cs : List (Str × PyData)}
theorem op2_ok (hX : Cxo P X S N cs) (o : Op2) : OpR X (binaryOp (op2O o)) (rO P (opD o)) := by
  intro pins s σ H x y v u Q I rx ry h
  obtain ⟨DF, G, σ', ρ, p, d1, d2, F, r1, r2, h, k⟩ := h
  have hK := hX.K
  cases o <;> cases d1 <;> cases d2 <;> first | exact (show False from h).elim | skip
  case add.int.int =>
    obtain rfl := r1.int
    obtain rfl := r2.int
    exact op_add pins s σ H _ _ v u Q I rx ry ⟨_, _, rfl, rfl, k.here F h (.int _)⟩
  case add.str.str =>
    obtain rfl := r1.str
    obtain rfl := r2.str
    obtain ⟨h1, h⟩ := h
    exact op_add_str pins s σ H _ _ v u Q I rx ry ⟨_, _, rfl, rfl, Nat.le_trans h1 line_lim, k.here F h (.str _)⟩
  case add.list.list =>
    obtain ⟨a, xs, rfl, e1, q1⟩ := r1.list F.sub
    obtain ⟨b, ys, rfl, e2, q2⟩ := r2.list F.sub
    obtain ⟨h1, h⟩ := h
    refine op_cat pins s σ H _ _ v u Q I rx ry ⟨a, b, xs, ys, rfl, rfl, e1, e2, ?_, fun z hz => k.newL F h (q1.append q2) hz⟩
    rw [q1.length, q2.length]
    exact Nat.le_trans h1 line_lim
  case add.tuple.tuple =>
    obtain ⟨a, xs, rfl, e1, q1, f1⟩ := r1.tup F.sub
    obtain ⟨b, ys, rfl, e2, q2, f2⟩ := r2.tup F.sub
    obtain ⟨h1, h⟩ := h
    rw [← hK] at e1 e2
    refine op_catA pins s σ H _ _ v u Q I rx ry ⟨a, b, xs, ys, rfl, rfl, e1, e2, ?_, fun z => ?_, fun z0 z => ?_, fun z0 z1 z hz => k.newT F h (q1.append q2) hz⟩
    · rw [q1.length, q2.length]
      exact Nat.le_trans h1 line_lim
    · subst z
      cases q1
      exact k.here F h f2
    · subst z
      cases q2
      rw [List.append_nil] at h
      exact k.here F h f1
  case sub.int.int =>
    obtain rfl := r1.int
    obtain rfl := r2.int
    exact op_sub pins s σ H _ _ v u Q I rx ry ⟨_, _, rfl, rfl, k.here F h (.int _)⟩
  case mul.int.int =>
    obtain rfl := r1.int
    obtain rfl := r2.int
    obtain ⟨h1, h⟩ := h
    exact op_mul pins s σ H _ _ v u Q I rx ry ⟨_, _, rfl, rfl, h1, k.here F h (.int _)⟩
  case mul.list.int xs j =>
    obtain ⟨a, ys, rfl, e1, q1⟩ := r1.list F.sub
    obtain rfl := r2.int
    obtain ⟨⟨h0, h1, h2⟩, h⟩ := h
    refine op_rep pins s σ H _ _ v u Q I rx ry ⟨a, j, ys, rfl, rfl, e1, by omega, by omega, ?_, fun z hz => k.newL F h (q1.rep _) hz⟩
    rw [q1.length]
    have h3 : j.toNat ≤ 1000 := by omega
    have := Nat.mul_le_mul h2 h3
    rw [sizeLine_eq]
    omega
  case mul.tuple.int xs j =>
    obtain ⟨a, ys, rfl, e1, q1, f1⟩ := r1.tup F.sub
    obtain rfl := r2.int
    obtain ⟨⟨h00, h0, h1, h2⟩, h⟩ := h
    rw [← hK] at e1
    refine op_repT pins s σ H _ _ v u Q I rx ry ⟨a, j, ys, rfl, rfl, e1, ?_, h0, h1, by rw [q1.length]; exact h2, fun z hz => k.newT F h (q1.rep _) hz⟩
    intro z
    subst z
    cases q1
    exact h00 rfl
  case mod.int.int =>
    obtain rfl := r1.int
    obtain rfl := r2.int
    obtain ⟨h1, h⟩ := h
    exact op_mod pins s σ H _ _ v u Q I rx ry ⟨_, _, rfl, rfl, h1, k.here F h (.int _)⟩
  case fdiv.int.int =>
    obtain rfl := r1.int
    obtain rfl := r2.int
    obtain ⟨h1, h⟩ := h
    exact op_fdiv pins s σ H _ _ v u Q I rx ry ⟨_, _, rfl, rfl, h1, k.here F h (.int _)⟩
def cmpB (o : Cmp) (x y : PyData) (p : PyData → Prop) : Prop := cmpD o x y fun c => p (.bool c)
theorem fit_of {d e : PyData} (h : (fit d && fit e) = true) : (d.plain = true ∧ d.depth ≤ 60) ∧ (e.plain = true ∧ e.depth ≤ 60) := by
  unfold fit at h
  simpa [Bool.and_eq_true] using h
theorem asI_inv {d : PyData} {k : Int → Prop} (h : asI d k) : ∃ i, d = .int i ∧ k i := by
  cases d <;> first | exact ⟨_, rfl, h⟩ | exact (show False from h).elim
theorem asB_inv {d : PyData} {k : Bool → Prop} (h : asB d k) : ∃ i, d = .bool i ∧ k i := by
  cases d <;> first | exact ⟨_, rfl, h⟩ | exact (show False from h).elim
theorem asL_inv {d : PyData} {k : List PyData → Prop} (h : asL d k) : ∃ i, d = .list i ∧ k i := by
  cases d <;> first | exact ⟨_, rfl, h⟩ | exact (show False from h).elim
theorem asT_inv {d : PyData} {k : List PyData → Prop} (h : asT d k) : ∃ i, d = .tuple i ∧ k i := by
  cases d <;> first | exact ⟨_, rfl, h⟩ | exact (show False from h).elim
theorem asS_inv {d : PyData} {k : List PyData → Prop} (h : asS d k) : ∃ xs, (d = .list xs ∨ d = .tuple xs) ∧ k xs := by
  cases d <;> first | exact ⟨_, .inl rfl, h⟩ | exact ⟨_, .inr rfl, h⟩ | exact (show False from h).elim
theorem one_inv {ds : List PyData} {k : PyData → Prop} (h : one ds k) : ∃ d, ds = [d] ∧ k d := by
  match ds, h with
  | [d], h => exact ⟨d, rfl, h⟩
theorem units_le {a b c : Nat} (h : a + 200 < c) (hb : b ≤ 100) : a + b < c := by omega
theorem is_plain (b : Value) : ∀ v : V, ∀ u : Value, RelV v u → (b = .none ∨ ∃ c, b = .bool c) → PySem.plainIs u b = true := by
  intro v u r hb
  cases v with
  | non => cases r; rcases hb with rfl | ⟨c, rfl⟩ <;> rfl
  | bl x => cases r; rcases hb with rfl | ⟨c, rfl⟩ <;> rfl
  | int x => obtain ⟨t, rfl⟩ := r; rcases hb with rfl | ⟨c, rfl⟩ <;> rfl
  | str x => obtain ⟨t, rfl⟩ := r; rcases hb with rfl | ⟨c, rfl⟩ <;> rfl
  | byt x => obtain ⟨t, rfl⟩ := r; rcases hb with rfl | ⟨c, rfl⟩ <;> rfl
  | flt x => obtain ⟨t, rfl⟩ := r; rcases hb with rfl | ⟨c, rfl⟩ <;> rfl
  | ref x => cases r; rcases hb with rfl | ⟨c, rfl⟩ <;> rfl
  | ty x => cases r; rcases hb with rfl | ⟨c, rfl⟩ <;> rfl
/-- by data, None or a bool on the right: what is says -/
theorem is_val {K : PySem.W.Frag} {DF : DFt} {G H : Hp} {x y : V} {v u : Value} {d1 d2 : PyData} {k : Bool → Prop} (r1 : Rb K DF G H x d1) (r2 : Rb K DF G H y d2) (rx : RelV x v) (ry : RelV y u) (h : isD d1 d2 k) : PySem.plainIs v u = true ∧ k (v == u) := by
  have key : ∀ b : Bool, d2 = .bool b → u = .bool b := fun b e => by
    subst e
    obtain rfl := r2.bool
    exact ry
  have keyn : d2 = .none → u = .none := fun e => by
    subst e
    rcases r2 with r | ⟨_, _, _, z⟩
    · cases r; exact ry
    · exact z.elim
  have hv : (d1 = .none ∧ v = .none) ∨ (∃ b, d1 = .bool b ∧ v = .bool b) ∨ (isNoneD d1 = false ∧ (∀ b, isBD d1 b = false) ∧ (v == Value.none) = false ∧ ∀ b, (v == Value.bool b) = false) := by
    cases d1 with
    | none =>
      rcases r1 with r | ⟨_, _, _, z⟩
      · cases r; exact .inl ⟨rfl, rx⟩
      · exact z.elim
    | bool b => obtain rfl := r1.bool; exact .inr (.inl ⟨b, rfl, rx⟩)
    | int b => obtain rfl := r1.int; obtain ⟨t, rfl⟩ := rx; exact .inr (.inr ⟨rfl, fun _ => rfl, rfl, fun _ => rfl⟩)
    | str b => obtain rfl := r1.str; obtain ⟨t, rfl⟩ := rx; exact .inr (.inr ⟨rfl, fun _ => rfl, rfl, fun _ => rfl⟩)
    | list b =>
      rcases r1 with r | ⟨_, rfl, _, z⟩
      · cases r; cases rx; exact .inr (.inr ⟨rfl, fun _ => rfl, rfl, fun _ => rfl⟩)
      · cases rx; exact .inr (.inr ⟨rfl, fun _ => rfl, rfl, fun _ => rfl⟩)
    | tuple b =>
      rcases r1 with r | ⟨_, rfl, _, z⟩
      · cases r; cases rx; exact .inr (.inr ⟨rfl, fun _ => rfl, rfl, fun _ => rfl⟩)
      · exact z.elim
    | dict b =>
      rcases r1 with r | ⟨_, rfl, _, z⟩
      · cases r
      · exact z.elim
  cases d2 with
  | none =>
    obtain rfl := keyn rfl
    refine ⟨is_plain _ x v rx (.inl rfl), ?_⟩
    have h : k (isNoneD d1) := h
    rcases hv with ⟨rfl, rfl⟩ | ⟨b, rfl, rfl⟩ | ⟨h1, _, h2, _⟩
    · exact h
    · exact h
    · rw [h2, ← h1]; exact h
  | bool b =>
    obtain rfl := key b rfl
    refine ⟨is_plain _ x v rx (.inr ⟨b, rfl⟩), ?_⟩
    have h : k (isBD d1 b) := h
    rcases hv with ⟨rfl, rfl⟩ | ⟨c, rfl, rfl⟩ | ⟨_, h1, _, h2⟩
    · exact h
    · have : (Value.bool c == Value.bool b) = (c == b) := by cases c <;> cases b <;> rfl
      rw [this]; exact h
    · rw [h2, ← h1 b]; exact h
  | _ => exact (show False from h).elim
theorem cmp_ok (hX : Cxo P X S N cs) (o : Cmp) : OpR X (compareOp (cmpO o)) (rO P (cmpB o)) := by
  intro pins s σ H x y v u Q I rx ry h
  obtain ⟨DF, G, σ', ρ, p, d1, d2, F, r1, r2, h, k⟩ := h
  have hK := hX.K
  have hu := hX.units
  have D1 := r1.dp F.sub
  have D2 := r2.dp F.sub
  rw [← hK] at D1 D2
  obtain ⟨as, R1⟩ := Dp.reads I d1 x v D1 rx
  obtain ⟨bs, R2⟩ := Dp.reads I d2 y u D2 ry
  have fin : ∀ c : Bool, p (.bool c) → EP X pins σ Q (.bool c) s := fun c hc => ⟨.bl c, H, I, rfl, k.here F hc (.bl c)⟩
  cases o with
  | eq =>
    obtain ⟨hf, h⟩ : (fit d1 && fit d2) = true ∧ p (.bool (PyData.eqv d1 d2)) := h
    obtain ⟨⟨f1, f2⟩, f3, f4⟩ := fit_of hf
    exact SeqAt.eq_plain R1 R2 f1 f3 (units_le hu (by omega)) (fin _ h)
  | ne =>
    obtain ⟨hf, h⟩ : (fit d1 && fit d2) = true ∧ p (.bool (!PyData.eqv d1 d2)) := h
    obtain ⟨⟨f1, f2⟩, f3, f4⟩ := fit_of hf
    exact SeqAt.ne_plain R1 R2 f1 f3 (units_le hu (by omega)) (fin _ h)
  | lt =>
    obtain ⟨i, rfl, h⟩ := asI_inv (show asI d1 _ from h)
    obtain ⟨j, rfl, h⟩ := asI_inv h
    obtain rfl := r1.int
    obtain rfl := r2.int
    exact op_lt pins s σ H _ _ v u Q I rx ry ⟨_, _, rfl, rfl, k.here F h (.bl _)⟩
  | le =>
    obtain ⟨i, rfl, h⟩ := asI_inv (show asI d1 _ from h)
    obtain ⟨j, rfl, h⟩ := asI_inv h
    obtain rfl := r1.int
    obtain rfl := r2.int
    exact op_le pins s σ H _ _ v u Q I rx ry ⟨_, _, rfl, rfl, k.here F h (.bl _)⟩
  | gt =>
    obtain ⟨i, rfl, h⟩ := asI_inv (show asI d1 _ from h)
    obtain ⟨j, rfl, h⟩ := asI_inv h
    obtain rfl := r1.int
    obtain rfl := r2.int
    exact op_gt pins s σ H _ _ v u Q I rx ry ⟨_, _, rfl, rfl, k.here F h (.bl _)⟩
  | ge =>
    obtain ⟨i, rfl, h⟩ := asI_inv (show asI d1 _ from h)
    obtain ⟨j, rfl, h⟩ := asI_inv h
    obtain rfl := r1.int
    obtain rfl := r2.int
    exact op_ge pins s σ H _ _ v u Q I rx ry ⟨_, _, rfl, rfl, k.here F h (.bl _)⟩
  | is_ =>
    obtain ⟨h1, h2⟩ := is_val r1 r2 rx ry (show isD d1 d2 _ from h)
    by_cases e : v = u
    · subst e
      exact wpAny_is_self h1 (fin _ (by simpa using h2))
    · exact wpAny_is_other h1 e (fin _ (by rw [beq_eq_false_iff_ne.mpr e] at h2; exact h2))
  | isn =>
    obtain ⟨h1, h2⟩ := is_val r1 r2 rx ry (show isD d1 d2 _ from h)
    by_cases e : v = u
    · subst e
      exact wpAny_isNot_self h1 (fin _ (by simpa using h2))
    · exact wpAny_isNot_other h1 e (fin _ (by rw [beq_eq_false_iff_ne.mpr e] at h2; exact h2))
  | in_ =>
    obtain ⟨xs, hxs, hf, hq⟩ := asS_inv (show asS d2 _ from h)
    obtain ⟨⟨f1, f2⟩, f3, f4⟩ := fit_of hf
    rcases hxs with rfl | rfl
    · exact SeqAt.in_list_data R2 R1 f3 f1 (by omega) (fin _ hq)
    · exact SeqAt.in_tuple_data R2 R1 f3 f1 (by omega) (fin _ hq)
  | nin =>
    obtain ⟨xs, hxs, hf, hq⟩ := asS_inv (show asS d2 _ from h)
    obtain ⟨⟨f1, f2⟩, f3, f4⟩ := fit_of hf
    rcases hxs with rfl | rfl
    · exact SeqAt.notIn_list_data R2 R1 f3 f1 (by omega) (fin _ hq)
    · exact SeqAt.notIn_tuple_data R2 R1 f3 f1 (by omega) (fin _ hq)
end
end Pv
set_option Elab.async false
set_option linter.all false
set_option maxRecDepth 100000
set_option maxHeartbeats 4000000
/-! Core 5: built-in functions over plain data. Own work. -/
set_option autoImplicit false
namespace Pv
open PySem PySem.Spec L2

def rP (P : Px) (q : Prim) : List V → Hp → VK → Prop := fun vs H Q => ∃ DF G σ ρ p ds, FrD P DF σ ρ G H ∧ Rbs P.K DF G H vs ds ∧ primD q ds p ∧ KV P DF σ ρ G H p Q
section
variable {P : Px} {X : Cx} {S : Scope} {N : List Str} {cs : List (Str × PyData)} {DF : DFt} {σ : L2.St} {ρ : Env} {G H : Hp} {p : PyData → Prop} {Q : VK}
theorem Rbs.inv1 {K : PySem.W.Frag} {DF : DFt} {G H : Hp} {vs : List V} {d : PyData} (r : Rbs K DF G H vs [d]) : ∃ v, vs = [v] ∧ Rb K DF G H v d := by
  cases r with
  | cons a b => cases b; exact ⟨_, rfl, a⟩
/-- a list or a tuple, read: its items in the heap -/
theorem seq_read (hX : Cxo P X S N cs) {pins : List (Addr × Obj)} {σ0 : L2.St} {s : Shared} (I : Inv X pins σ0 H s) (F : FrD P DF σ ρ G H) {x : V} {u : Value} {d : PyData} {xs : List PyData} (r : Rb P.K DF G H x d) (rx : RelV x u) (hd : d = .list xs ∨ d = .tuple xs) :
    ∃ (a : Addr) (ys : List V) (its : List Value) (as : List Addr), x = .ref a ∧ u = .ref a ∧ Rps P.K G ys xs ∧ Vals ys its ∧ ReadsAll s.heap its xs as ∧ its.length ≤ sizeLine ∧
      ((d = .list xs ∧ SqL X.K H a ys ∧ s.heap.IsList a its.toArray) ∨ (d = .tuple xs ∧ SqT X.K H a ys ∧ PyProof.Rows.IsTup s.heap a its.toArray ∧ Rp P.K G x d)) := by
  have hK := hX.K
  rcases hd with rfl | rfl
  · obtain ⟨a, ys, rfl, e1, q1⟩ := r.list F.sub
    have hS : SqL X.K H a ys := SqL.of e1
    obtain ⟨its, rv, pl, hz⟩ := I.list hS
    have dp := q1.dp F.sub
    rw [← hK] at dp
    obtain ⟨as, hr⟩ := Dp.readsAll I xs ys its dp rv
    cases rx
    exact ⟨a, ys, its, as, rfl, rfl, q1, rv, hr, by rw [← rv.length]; exact hz, .inl ⟨rfl, hS, pl.isList⟩⟩
  · obtain ⟨a, ys, rfl, e1, q1, f1⟩ := r.tup F.sub
    rw [← hK] at e1
    obtain ⟨its, rv, pl, hz⟩ := I.tuple e1
    have dp := q1.dp F.sub
    rw [← hK] at dp
    obtain ⟨as, hr⟩ := Dp.readsAll I xs ys its dp rv
    cases rx
    exact ⟨a, ys, its, as, rfl, rfl, q1, rv, hr, by rw [← rv.length]; exact hz, .inr ⟨rfl, e1, pl, f1⟩⟩
theorem plainAll_mem {d : PyData} : ∀ {xs : List PyData}, PyData.plainAll xs = true → d ∈ xs → d.plain = true
  | _ :: _, h, m => by
    rw [PyData.plainAll, Bool.and_eq_true] at h
    rcases List.mem_cons.mp m with rfl | m
    · exact h.1
    · exact plainAll_mem h.2 m
/-- an item of the sequence that reads as m is the data m -/
theorem item_back (hX : Cxo P X S N cs) {pins : List (Addr × Obj)} {σ0 : L2.St} {s : Shared} (I : Inv X pins σ0 H s) (F : FrD P DF σ ρ G H) {ys : List V} {its : List Value} {xs : List PyData} (q : Rps P.K G ys xs) (rv : Vals ys its) (hp : PyData.plainAll xs = true)
    {i : Nat} {v : Value} {m : PyData} {h' : Heap} {bs : List Addr} (hi : its[i]? = some v) (hm : Reads h' v m bs) (k : ∀ b o, s.heap.get? b = some o → h'.get? b = some o) : ∃ y, RelV y v ∧ Rp P.K G y m := by
  have hl := rv.length
  have hi' : i < ys.length := by
    rw [hl]
    exact (List.getElem?_eq_some_iff.mp hi).1
  obtain ⟨u, hu, ru⟩ := rv.get (List.getElem?_eq_getElem hi')
  rw [hi] at hu
  cases hu
  obtain ⟨d, hd, rd⟩ := q.getV (List.getElem?_eq_getElem hi')
  have dp := rd.dp F.sub
  rw [← hX.K] at dp
  obtain ⟨as, hr⟩ := Dp.reads I d _ v dp ru
  have e := SeqAt.plain_unique d m v as bs (plainAll_mem hp (List.mem_of_getElem? hd)) (PyProof.Rows.Reads.keeps k hr) hm
  subst e
  exact ⟨_, ru, rd⟩
theorem prim_len (hX : Cxo P X S N cs) : CallR X (.builtin "len") (rP P .len) := by
  intro pins s σ0 H vs us Q I r h
  obtain ⟨DF, G, σ, ρ, p, ds, F, rs, h, k⟩ := h
  obtain ⟨d, rfl, h⟩ := one_inv (show one ds _ from h)
  obtain ⟨v, rfl, rb⟩ := rs.inv1
  have hK := hX.K
  refine call_len pins s σ0 H [v] us Q I r ⟨v, ?_⟩
  cases d with
  | list xs =>
    obtain ⟨a, ys, rfl, e1, q1⟩ := rb.list F.sub
    exact ⟨xs.length, rfl, .inl ⟨_, SqL.of e1, q1.length.symm⟩, k.here F h (.int _)⟩
  | tuple xs =>
    obtain ⟨a, ys, rfl, e1, q1, f1⟩ := rb.tup F.sub
    exact ⟨xs.length, rfl, .inr ⟨_, by rw [hK]; exact e1, q1.length.symm⟩, k.here F h (.int _)⟩
  | _ => exact (show False from h).elim
theorem headOr_inv {xs : List PyData} {k : PyData → List PyData → Prop} (h : headOr xs k) : ∃ x r, xs = x :: r ∧ k x r := by
  match xs, h with
  | x :: r, h => exact ⟨x, r, rfl, h⟩
theorem prim_mn (hX : Cxo P X S N cs) : CallR X (.builtin "min") (rP P .mn) := by
  intro pins s σ0 H vs us Q I r h
  obtain ⟨DF, G, σ, ρ, p, ds, F, rs, h, k⟩ := h
  obtain ⟨d, rfl, h⟩ := one_inv (show one ds _ from h)
  obtain ⟨v, rfl, rb⟩ := rs.inv1
  obtain ⟨u, rfl, ru⟩ := vals1 r
  obtain ⟨xs, hd, h⟩ := asS_inv h
  obtain ⟨x, r', rfl, ⟨ha, hdp, hpl⟩, h⟩ := headOr_inv h
  obtain ⟨a, ys, its, as, rfl, rfl, q, rv, hr, hz, hh⟩ := seq_read hX I F rb ru hd
  have hu := hX.units
  have fin : ∀ (i : Nat) v h' tk bs, its.toArray[i]? = some v → Reads h' v (W.minD x r') bs → (∀ b o, s.heap.get? b = some o → h'.get? b = some o) → EP X pins σ0 Q v { s with heap := h', toks := tk } := fun i v h' tk bs hi hm kk => by
    obtain ⟨y, ry, rp⟩ := item_back hX I F q rv hpl (by simpa using hi) hm kk
    exact ⟨y, H, I.kept kk, ry, k.here F h rp⟩
  rcases hh with ⟨_, _, hl⟩ | ⟨_, _, hl, _⟩
  · exact W.min_list_data hX.hd hl hr ha (by omega) fin
  · exact W.min_tuple_data hX.hd hl hr ha (by omega) fin
theorem prim_mx (hX : Cxo P X S N cs) : CallR X (.builtin "max") (rP P .mx) := by
  intro pins s σ0 H vs us Q I r h
  obtain ⟨DF, G, σ, ρ, p, ds, F, rs, h, k⟩ := h
  obtain ⟨d, rfl, h⟩ := one_inv (show one ds _ from h)
  obtain ⟨v, rfl, rb⟩ := rs.inv1
  obtain ⟨u, rfl, ru⟩ := vals1 r
  obtain ⟨xs, hd, h⟩ := asS_inv h
  obtain ⟨x, r', rfl, ⟨ha, hdp, hpl⟩, h⟩ := headOr_inv h
  obtain ⟨a, ys, its, as, rfl, rfl, q, rv, hr, hz, hh⟩ := seq_read hX I F rb ru hd
  have hu := hX.units
  have fin : ∀ (i : Nat) v h' tk bs, its.toArray[i]? = some v → Reads h' v (W.maxD x r') bs → (∀ b o, s.heap.get? b = some o → h'.get? b = some o) → EP X pins σ0 Q v { s with heap := h', toks := tk } := fun i v h' tk bs hi hm kk => by
    obtain ⟨y, ry, rp⟩ := item_back hX I F q rv hpl (by simpa using hi) hm kk
    exact ⟨y, H, I.kept kk, ry, k.here F h rp⟩
  rcases hh with ⟨_, _, hl⟩ | ⟨_, _, hl, _⟩
  · exact W.max_list_data hX.hd hl hr ha (by omega) fin
  · exact W.max_tuple_data hX.hd hl hr ha (by omega) fin
theorem prim_abs (hX : Cxo P X S N cs) : CallR X (.builtin "abs") (rP P .abs) := by
  intro pins s σ0 H vs us Q I r h
  obtain ⟨DF, G, σ, ρ, p, ds, F, rs, h, k⟩ := h
  obtain ⟨d, rfl, h⟩ := one_inv (show one ds _ from h)
  obtain ⟨v, rfl, rb⟩ := rs.inv1
  obtain ⟨i, rfl, h⟩ := asI_inv h
  obtain rfl := rb.int
  exact call_abs pins s σ0 H _ us Q I r ⟨i, rfl, k.here F h (.int _)⟩
theorem bools {xs : List PyData} (h : xs.all isBoolD = true) : PyData.plainAll xs = true ∧ (∀ x ∈ xs, x.fits63) ∧ xs.all PyData.truthy = xs.all isTrueD ∧ xs.any PyData.truthy = xs.any isTrueD := by
  induction xs with
  | nil => exact ⟨rfl, fun _ h => (nomatch h), rfl, rfl⟩
  | cons x r ih =>
    rw [List.all_cons, Bool.and_eq_true] at h
    obtain ⟨h1, h2⟩ := h
    obtain ⟨a, b, c, d⟩ := ih h2
    cases x with
    | bool t =>
      refine ⟨by rw [PyData.plainAll, a]; rfl, fun y hy => ?_, by rw [List.all_cons, List.all_cons, c]; rfl, by rw [List.any_cons, List.any_cons, d]; rfl⟩
      rcases List.mem_cons.mp hy with rfl | hy
      · trivial
      · exact b y hy
    | _ => cases h1
theorem prim_all (hX : Cxo P X S N cs) : CallR X (.builtin "all") (rP P .all) := by
  intro pins s σ0 H vs us Q I r h
  obtain ⟨DF, G, σ, ρ, p, ds, F, rs, h, k⟩ := h
  obtain ⟨d, rfl, h⟩ := one_inv (show one ds _ from h)
  obtain ⟨v, rfl, rb⟩ := rs.inv1
  obtain ⟨u, rfl, ru⟩ := vals1 r
  obtain ⟨xs, hd, hb, h⟩ := asS_inv h
  obtain ⟨a, ys, its, as, rfl, rfl, q, rv, hr, hz, hh⟩ := seq_read hX I F rb ru hd
  obtain ⟨b1, b2, b3, b4⟩ := bools hb
  rw [← b3] at h
  have fin : ∀ h' tk, (∀ b o, s.heap.get? b = some o → h'.get? b = some o) → EP X pins σ0 Q (.bool (xs.all PyData.truthy)) { s with heap := h', toks := tk } := fun h' tk kk => ⟨.bl _, H, I.kept kk, rfl, k.here F h (.bl _)⟩
  rcases hh with ⟨_, _, hl⟩ | ⟨_, _, hl, _⟩
  · exact W.all_list_data hX.hd hl hr b1 b2 fin
  · exact W.all_tuple_data hX.hd hl hr b1 b2 fin
theorem prim_any (hX : Cxo P X S N cs) : CallR X (.builtin "any") (rP P .any) := by
  intro pins s σ0 H vs us Q I r h
  obtain ⟨DF, G, σ, ρ, p, ds, F, rs, h, k⟩ := h
  obtain ⟨d, rfl, h⟩ := one_inv (show one ds _ from h)
  obtain ⟨v, rfl, rb⟩ := rs.inv1
  obtain ⟨u, rfl, ru⟩ := vals1 r
  obtain ⟨xs, hd, hb, h⟩ := asS_inv h
  obtain ⟨a, ys, its, as, rfl, rfl, q, rv, hr, hz, hh⟩ := seq_read hX I F rb ru hd
  obtain ⟨b1, b2, b3, b4⟩ := bools hb
  rw [← b4] at h
  have fin : ∀ h' tk, (∀ b o, s.heap.get? b = some o → h'.get? b = some o) → EP X pins σ0 Q (.bool (xs.any PyData.truthy)) { s with heap := h', toks := tk } := fun h' tk kk => ⟨.bl _, H, I.kept kk, rfl, k.here F h (.bl _)⟩
  rcases hh with ⟨_, _, hl⟩ | ⟨_, _, hl, _⟩
  · exact W.any_list_data hX.hd hl hr b1 b2 fin
  · exact W.any_tuple_data hX.hd hl hr b1 b2 fin
theorem prim_tup (hX : Cxo P X S N cs) : CallR X (.type "tuple") (rP P .tup) := by
  intro pins s σ0 H vs us Q I r h
  obtain ⟨DF, G, σ, ρ, p, ds, F, rs, h, k⟩ := h
  obtain ⟨d, rfl, h⟩ := one_inv (show one ds _ from h)
  obtain ⟨v, rfl, rb⟩ := rs.inv1
  obtain ⟨xs, hd, h⟩ := asS_inv h
  rcases hd with rfl | rfl
  · obtain ⟨a, ys, rfl, e1, q1⟩ := rb.list F.sub
    exact call_tuple_of pins s σ0 H _ us Q I r ⟨a, ys, rfl, .inl ⟨SqL.of e1, fun l hl => k.newT F h q1 hl⟩⟩
  · obtain ⟨a, ys, rfl, e1, q1, f1⟩ := rb.tup F.sub
    rw [← hX.K] at e1
    exact call_tuple_of pins s σ0 H _ us Q I r ⟨a, ys, rfl, .inr ⟨e1, k.here F h f1⟩⟩
theorem prim_int (hX : Cxo P X S N cs) : CallR X (.type "int") (rP P .int) := by
  intro pins s σ0 H vs us Q I r h
  obtain ⟨DF, G, σ, ρ, p, ds, F, rs, h, k⟩ := h
  obtain ⟨d, rfl, h⟩ := one_inv (show one ds _ from h)
  obtain ⟨v, rfl, rb⟩ := rs.inv1
  cases d with
  | int i =>
    obtain rfl := rb.int
    exact call_int1 pins s σ0 H _ us Q I r (.inl ⟨i, rfl, k.here F h (.int _)⟩)
  | bool b =>
    obtain rfl := rb.bool
    exact call_int1 pins s σ0 H _ us Q I r (.inr ⟨b, rfl, k.here F h (.int _)⟩)
  | _ => exact (show False from h).elim
/-- what follows a new list -/
def KF (P : Px) (DF : DFt) (σ : L2.St) (ρ : Env) (G H : Hp) (p : PyData → Prop) (Q : VK) : Prop := ∀ a xs H' G' ds, p (.list ds) → FrD P DF σ ρ G' H' → Gr P.T DF G H G' H' → Fr0 H a → G' a = none → H' a = some (.lst xs) → Rps P.K G' xs ds → Q (.ref a) H'
theorem KF.step {G1 H1 : Hp} (k : KF P DF σ ρ G H p Q) (g : Gr P.T DF G H G1 H1) : KF P DF σ ρ G1 H1 p Q := fun a xs H' G' ds h F g' n1 n2 e r => k a xs H' G' ds h F (g.trans g') (g.live a n1) n2 e r
theorem KF.new (k : KF P DF σ ρ G H p Q) (F : FrD P DF σ ρ G H) {xs : List V} {ds : List PyData} (h : p (.list ds)) (r : Rps P.K G xs ds) {a : Addr} (n : H a = none) : Q (.ref a) (upd H a (.lst xs)) := by
  obtain ⟨F1, g⟩ := F.more (o := .lst xs) n
  exact k a xs _ G ds h F1 g (.of n) (F.none_of n) upd_same r
/-- a value is what a new list may be taken for -/
theorem KV.kf (k : KV P DF σ ρ G H p Q) (F0 : FrD P DF σ ρ G H) : KF P DF σ ρ G H p Q := fun a xs H' G' ds h F g n gn e r =>
  k _ H' (ud G' a (.lst xs)) _ h (F.ice e gn (F0.h0 n).1 (F0.h0 n).2 (F0.notOwn n)) ⟨g.sub.trans (Sub.upd gn), g.keep, fun b u z => by
    unfold ud at z
    by_cases hb : b = a
    · subst hb; exact .inr n
    · rw [upd_ne hb] at z; exact g.new b u z, g.live, g.tab⟩ (.lst upd_same (r.mono (Sub.upd gn)))
end
end Pv
set_option Elab.async false
set_option linter.all false
set_option maxRecDepth 100000
set_option maxHeartbeats 4000000
/-! Core 6: sorted, list, set by number, isinstance over plain data. Own work. -/
set_option autoImplicit false
namespace Pv
open PySem PySem.Spec L2

/-! ### sorted of a tuple -/
section
open PySem.Calls PyProof.Rows
variable {prog : Program} {w : World} {A : Around} {E : Value → Shared → Prop} {s : Shared}
/-- the items of a tuple, taken into a list of the machine's own -/
theorem tuple_taken {t : Addr} {vs : List Value} {Q : List Value → Shared → Prop} (ht : IsTup s.heap t vs.toArray) (hz : vs.length ≤ sizeLine)
    (q : Q vs { s with heap := (s.heap.push (seqObj "list" #[] 0)).update s.heap.objs.size (Obj.mapSeq (· ++ vs.toArray)) }) : wpAny (model prog w) A (collect (.ref t)) Q E s := by
  obtain ⟨o, e1, e2, n, e3⟩ := ht
  have e4 : (s.heap.push (seqObj "list" #[] 0)).get? t = some o := Heap.get?_push_of_some _ e1
  have e5 : (s.heap.push (seqObj "list" #[] 0)).get? s.heap.objs.size = some (seqObj "list" #[] 0) := Heap.get?_push_size _ rfl
  have e6 : ((#[] : Array Value) ++ vs.toArray).size ≤ sizeLine + 1 := by
    simp
    omega
  have e7 : ((#[] : Array Value) ++ vs.toArray).toList = vs := by simp
  have body : ∀ R : Result → Shared → Prop, R (.ok (.ret (.ref s.heap.objs.size))) { s with heap := (s.heap.push (seqObj "list" #[] 0)).update s.heap.objs.size (Obj.mapSeq (· ++ vs.toArray)) } →
      codeAny (model prog w) A (.builtin "proto.collect" ⟨[.ref t], []⟩) R s := fun R r => by
    refine codeAny_builtin entry_proto_collect' ?_
    refine wpAny_bind (m := newList []) (wpAny_newList ?_)
    refine wpAny_pure ⟨Code.quiet_builtin _ (by decide +kernel), codeAny_builtin entry_list_iadd' ?_⟩
    show wpAny _ _ (Builtin.List.listExtendWith (.ref s.heap.objs.size) (.ref t) (.ref s.heap.objs.size)) _ _ _
    unfold Builtin.List.listExtendWith
    refine wpAny_bind (wpAny_typeOf (T := "tuple") ⟨o, e4, e2⟩ ?_)
    rw [if_pos (show (Builtin.List.listSameRef (.ref s.heap.objs.size) (.ref t) || Value.type "tuple" == Value.type "list" || Value.type "tuple" == Value.type "tuple") = true by
      rw [show (Value.type "tuple" == Value.type "tuple") = true from rfl, Bool.or_true])]
    exact wpAny_bind (listItems_at e4 e3 (wpAny_bind (listItems_at e5 rfl (by
      rw [if_neg (by simp)]
      exact wpAny_bind (listUpdate_at e5 rfl (wpAny_pure r) (Nat.zero_le _) e6)))))
  unfold collect
  refine wpAny_bind (wpAny_runValue (body _ ?_))
  show wpAny _ _ (load s.heap.objs.size >>= fun o => _) _ _ _
  refine wpAny_bind (wpAny_load (get?_update_seq e5 _) ?_)
  show wpAny _ _ (pure ((#[] : Array Value) ++ vs.toArray).toList) _ _ _
  rw [e7]
  exact wpAny_pure q
/-- sorted(t) of a tuple t -/
theorem sorted_tup {κ : PyProof.Rows.KeyKind} {t : Addr} {vs : List Value} {Q : Value → Shared → Prop} (ht : IsTup s.heap t vs.toArray) (hz : vs.length ≤ sizeLine)
    (S : W.SortsAt prog w A.in1.in1 { s with heap := W.sortingHeap (W.copyHeap s.heap vs) (s.heap.objs.size + 1) vs } κ vs)
    (h : Q (.ref (s.heap.objs.size + 1)) { s with heap := sortedAll s.heap vs (W.sortVals κ false vs vs).toArray }) : wpAny (model prog w) A (call (.builtin "sorted") [.ref t]) Q E s := by
  refine call_function_entry kind_sorted plain_sorted entry_sorted (args_sorted1 _) ?_
  unfold Builtin.«sorted»
  refine wpAny_bind (m := checkCount "sorted" 1 1 _) (wpAny_pure (wpAny_bind (tuple_taken ht hz (wpAny_bind (wpAny_newList ?_ hz)))))
  have e0 : ((s.heap.push (seqObj "list" #[] 0)).update s.heap.objs.size (Obj.mapSeq (· ++ vs.toArray))).objs.size = s.heap.objs.size + 1 := by
    rw [Heap.size_update, size_push']
  rw [show ∀ a : Nat, (a = s.heap.objs.size + 1) → (Value.ref a) = Value.ref (s.heap.objs.size + 1) from fun a e => by rw [e]] <;> try exact e0
  refine wpAny_bind (wpAny_holding (wpAny_call_entry_kw slot_list_sort ⟨_, W.copyHeap_at s.heap vs, rfl⟩ entry_list_sort ?_ (args_list_sort _)))
  refine wpAny_mono (W.list_sort_vals (P := fun f s' => f = .done (.ret .none) ∧ Q (.ref (s.heap.objs.size + 1)) s') (s := { s with heap := W.copyHeap s.heap vs }) (W.copyHeap_at s.heap vs) S hz ⟨rfl, h⟩) (fun f s' hf => ?_) fun _ _ e => e
  obtain ⟨rfl, hq⟩ := hf
  exact ⟨_, rfl, wpAny_pure ⟨_, rfl, hq⟩⟩
end

def rPF (P : Px) (q : Prim) : List V → Hp → VK → Prop := fun vs H Q => ∃ DF G σ ρ p ds, FrD P DF σ ρ G H ∧ Rbs P.K DF G H vs ds ∧ primD q ds p ∧ KF P DF σ ρ G H p Q
section
variable {P : Px} {X : Cx} {S : Scope} {N : List Str} {cs : List (Str × PyData)} {DF : DFt} {σ : L2.St} {ρ : Env} {G H : Hp} {p : PyData → Prop} {Q : VK}
theorem prim_lst (hX : Cxo P X S N cs) : CallR X (.type "list") (rPF P .lst) := by
  intro pins s σ0 H vs us Q I r h
  obtain ⟨DF, G, σ, ρ, p, ds, F, rs, h, k⟩ := h
  obtain ⟨d, rfl, h⟩ := one_inv (show one ds _ from h)
  obtain ⟨v, rfl, rb⟩ := rs.inv1
  obtain ⟨xs, hd, h⟩ := asS_inv h
  rcases hd with rfl | rfl
  · obtain ⟨a, ys, rfl, e1, q1⟩ := rb.list F.sub
    exact call_list_of pins s σ0 H _ us Q I r ⟨a, ys, rfl, .inl (SqL.of e1), fun l hl => k.new F h q1 hl⟩
  · obtain ⟨a, ys, rfl, e1, q1, f1⟩ := rb.tup F.sub
    rw [← hX.K] at e1
    exact call_list_of pins s σ0 H _ us Q I r ⟨a, ys, rfl, .inr e1, fun l hl => k.new F h q1 hl⟩
theorem zip_each {K : PySem.W.Frag} {G : Hp} : ∀ {ys : List V} {its : List Value} {xs : List PyData}, Rps K G ys xs → Vals ys its → W.EachIs (fun v (b : V × PyData) => RelV b.1 v ∧ Rp K G b.1 b.2) its (ys.zip xs)
  | _, _, _, .nil, .nil => .nil
  | _, _, _, .cons a b, .cons c d => .cons ⟨c, a⟩ (zip_each b d)
theorem each_back {K : PySem.W.Frag} {G : Hp} : ∀ {its : List Value} {bs : List (V × PyData)}, W.EachIs (fun v (b : V × PyData) => RelV b.1 v ∧ Rp K G b.1 b.2) its bs → Vals (bs.map (·.1)) its ∧ Rps K G (bs.map (·.1)) (bs.map (·.2))
  | _, _, .nil => ⟨.nil, .nil⟩
  | _, _, .cons h t => ⟨.cons h.1 (each_back t).1, .cons h.2 (each_back t).2⟩
theorem each_reads {K : PySem.W.Frag} {G : Hp} {h : Heap} : ∀ {ys : List V} {its : List Value} {xs : List PyData} {as : List Addr}, Rps K G ys xs → ReadsAll h its xs as → W.EachIs (fun v (b : V × PyData) => ∃ as, Reads h v b.2 as) its (ys.zip xs)
  | _, _, _, _, .nil, .nil => .nil
  | _, _, _, _, .cons a b, .cons c d => .cons ⟨_, c⟩ (each_reads b d)
theorem zip_snd {K : PySem.W.Frag} {G : Hp} {ys : List V} {xs : List PyData} (r : Rps K G ys xs) : (ys.zip xs).map (·.2) = xs := by
  rw [← List.unzip_snd, List.unzip_zip_right]
  rw [r.length]; exact Nat.le_refl _
theorem depth_mem {d : PyData} : ∀ {xs : List PyData}, d ∈ xs → d.depth ≤ PyData.depthAll xs
  | _ :: _, m => by
    rw [PyData.depthAll]
    rcases List.mem_cons.mp m with rfl | m
    · exact Nat.le_max_left _ _
    · exact Nat.le_trans (depth_mem m) (Nat.le_max_right _ _)
theorem prim_srt (hX : Cxo P X S N cs) : CallR X (.builtin "sorted") (rPF P .srt) := by
  intro pins s σ0 H vs us Q I r h
  obtain ⟨DF, G, σ, ρ, p, ds, F, rs, h, k⟩ := h
  obtain ⟨d, rfl, h⟩ := one_inv (show one ds _ from h)
  obtain ⟨v, rfl, rb⟩ := rs.inv1
  obtain ⟨u, rfl, ru⟩ := vals1 r
  obtain ⟨xs, hd, ⟨⟨ha, hdp, hpl⟩, hsr⟩, h⟩ := asS_inv h
  obtain ⟨a, ys, its, as, rfl, rfl, q, rv, hr, hz, hh⟩ := seq_read hX I F rb ru hd
  have hu := hX.units
  have e1 := zip_each q rv
  have e2 := each_reads q hr
  have ez := zip_snd q
  have hal : W.AllAlike ((ys.zip xs).map (·.2)) := by
    rw [ez]
    exact fun d m d' m' => ha.1 d m d' m'
  have hk : W.Sortable ((ys.zip xs).map (·.2)) := by rw [ez]; exact hsr
  have hL : (ys.zip xs).length ≤ sizeLine := by rw [List.length_zip, ← q.length, Nat.min_self, rv.length]; exact hz
  have hb : ∀ b, b ∈ ys.zip xs → b.2.depth ≤ 60 := fun b m => Nat.le_trans (depth_mem (List.of_mem_zip m).2) hdp
  have em : ((ys.zip xs).mergeSort (W.dataLe false (·.2))).map (·.2) = srtD xs := by
    have z := W.sort_maps (r := W.dataLe false fun b : V × PyData => b.2) (s := W.dataLe false (id : PyData → PyData)) (fun b => b.2) (l := ys.zip xs) (fun _ _ _ _ => rfl)
    rw [z, ez]
    rfl
  have fin : ∀ out : List Value, out.length = (ys.zip xs).length → W.EachIs (fun v (b : V × PyData) => RelV b.1 v ∧ Rp P.K G b.1 b.2) out ((ys.zip xs).mergeSort (W.dataLe false (·.2))) →
      EP X pins σ0 Q (.ref (s.heap.objs.size + 1)) { s with heap := PyProof.Rows.sortedAll s.heap its (List.toArray out) } := fun out hlen he => by
    obtain ⟨b1, b2⟩ := each_back he
    rw [em] at b2
    obtain ⟨ep, hat⟩ := PyProof.Rows.sortedAll_at s.heap its out.toArray
    have hn : H (s.heap.objs.size + 1) = none := I.hok.fresh (Nat.le_succ _)
    refine ⟨.ref _, upd H (s.heap.objs.size + 1) (.lst _), I.laid (t' := s.toks) (fun _ _ => PyProof.Rows.sortedAll_old) (Nat.le_succ _) ⟨?_, out, ep, b1, hat⟩, rfl, k.new F h b2 hn⟩
    rw [b1.length, hlen]; exact hL
  rcases hh with ⟨_, _, hl⟩ | ⟨_, _, ht, _⟩
  · exact W.sorted_data (R := fun v (b : V × PyData) => RelV b.1 v ∧ Rp P.K G b.1 b.2) (enc := fun b => b.2) (bs := ys.zip xs) hl e1 e2 hal hk hL (fun b m => by have := hb b m; omega) fin
  · have er' : W.EachIs (fun v (b : V × PyData) => ∃ as, Reads (W.sortingHeap (W.copyHeap s.heap its) (s.heap.objs.size + 1) its) v b.2 as) its (ys.zip xs) := e2.mono fun _ _ ⟨as, r⟩ => ⟨as, PyProof.Rows.Reads.keeps (fun _ _ => W.sorting_copy_old) r⟩
    refine sorted_tup ht hz (W.SortsAt.data (s := { s with heap := W.sortingHeap (W.copyHeap s.heap its) (s.heap.objs.size + 1) its })
      (W.each_map (R := fun v d => ∃ as, Reads (W.sortingHeap (W.copyHeap s.heap its) (s.heap.objs.size + 1) its) v d as) (fun b : V × PyData => b.2) er') hal hk
      (fun d m => by
        obtain ⟨b, hb1, rfl⟩ := List.mem_map.mp m
        have := hb b hb1
        show X.A.units + 1 + 1 + _ < _
        omega)) ?_
    refine fin _ ?_ (W.sortVals_data (enc := fun b : V × PyData => b.2) false e1 er' hal)
    rw [W.sortVals_length false rfl]
    exact e1.length
end
end Pv
set_option Elab.async false
set_option linter.all false
set_option maxRecDepth 100000
set_option maxHeartbeats 4000000
/-! Core 7: subscripts, slices, isinstance, len(set(..)) over plain data. Own work. -/
set_option autoImplicit false
namespace Pv
open PySem PySem.Spec L2
section
variable {P : Px} {X : Cx} {S : Scope} {N : List Str} {cs : List (Str × PyData)}
def ixD (x y : PyData) (p : PyData → Prop) : Prop := asS x fun xs => asI y fun j => asO (L2.atI xs j) p
theorem Rps.at {K : PySem.W.Frag} {G : Hp} {xs : List V} {ds : List PyData} (r : Rps K G xs ds) {i : Int} {d : PyData} (h : atI ds i = some d) : ∃ v, atI xs i = some v ∧ Rp K G v d := by
  unfold atI at h ⊢
  rw [r.length]
  cases e : ixN ds.length i with
  | none => rw [e] at h; cases h
  | some j => rw [e] at h; exact r.get h
theorem asO_inv {o : Option PyData} {k : PyData → Prop} (h : asO o k) : ∃ d, o = some d ∧ k d := by
  cases o with
  | none => exact h.elim
  | some d => exact ⟨d, rfl, h⟩
theorem ix_ok (hX : Cxo P X S N cs) : IxR X (rO P ixD) := by
  intro value slice pins s σ H x y v u Q I rx ry h hs
  obtain ⟨DF, G, σ', ρ, p, d1, d2, F, r1, r2, h, k⟩ := h
  obtain ⟨xs, hd, h2⟩ := asS_inv (show asS d1 _ from h)
  clear h
  obtain ⟨i, rfl, h3⟩ := asI_inv h2
  obtain ⟨d, ha, h⟩ := asO_inv h3
  obtain rfl := r2.int
  rcases hd with rfl | rfl
  · obtain ⟨a, ys, rfl, e1, q1⟩ := r1.list F.sub
    obtain ⟨w, hw, rw'⟩ := q1.at ha
    exact ix_list value slice pins s σ H _ _ v u Q I rx ry ⟨a, ys, i, w, rfl, rfl, SqL.of e1, hw, k.here F h rw'⟩ hs
  · obtain ⟨a, ys, rfl, e1, q1, f1⟩ := r1.tup F.sub
    rw [← hX.K] at e1
    obtain ⟨w, hw, rw'⟩ := q1.at ha
    exact ix_tup value slice pins s σ H _ _ v u Q I rx ry ⟨a, ys, i, w, rfl, rfl, e1, hw, k.here F h rw'⟩ hs
def rS (P : Px) : V → Option Int → Option Int → Hp → VK → Prop := fun x lo hi H Q => ∃ DF G σ ρ p d, FrD P DF σ ρ G H ∧ Rb P.K DF G H x d ∧ cutD d lo hi p ∧ KV P DF σ ρ G H p Q
theorem cut_all {α : Type} (xs : List α) (lo hi : Option Int) (h : HT.sIx xs.length 0 lo = 0 ∧ HT.sIx xs.length xs.length hi = xs.length) : cutG xs lo hi = xs := by
  unfold cutG
  rw [h.1, h.2]
  simp
theorem sl_ok (hX : Cxo P X S N cs) : SlR X (rS P) := by
  intro pins s σ H x v vl vu lo hi sl Q I rx hs pl pu h
  obtain ⟨DF, G, σ', ρ, p, d, F, r, h, k⟩ := h
  cases d with
  | list ds =>
    obtain ⟨a, ys, rfl, e1, q1⟩ := r.list F.sub
    exact sl_list pins s σ H _ v vl vu lo hi sl Q I rx hs pl pu ⟨a, ys, rfl, SqL.of e1, fun z hz => k.newL F h (q1.cut lo hi) hz⟩
  | tuple ds =>
    obtain ⟨a, ys, rfl, e1, q1, f1⟩ := r.tup F.sub
    rw [← hX.K] at e1
    have h : p (.tuple (cutG ds lo hi)) := h
    refine sl_tupA pins s σ H _ v vl vu lo hi sl Q I rx hs pl pu ⟨a, ys, rfl, e1, fun w => ?_, fun _ z hz => k.newT F h (q1.cut lo hi) hz⟩
    rw [cut_all ds lo hi (by rw [← q1.length]; exact w)] at h
    exact k.here F h f1
  | _ => exact (show False from h).elim
/-- the type of isinstance's second value -/
def isaT : Nat → String
  | 0 => "tuple"
  | 1 => "int"
  | 2 => "bool"
  | 3 => "str"
  | 4 => "list"
  | _ => "dict"
def rIsa (P : Px) (t : Nat) : List V → Hp → VK → Prop := fun vs H Q => ∃ DF G σ ρ p d v, FrD P DF σ ρ G H ∧ Rb P.K DF G H v d ∧ vs = [v, .ty (isaT t)] ∧ p (.bool (isaD t d)) ∧ KV P DF σ ρ G H p Q
theorem isa_ok (hX : Cxo P X S N cs) (t : Nat) (ht : t ≤ 5) : CallR X (.builtin "isinstance") (rIsa P t) := by
  intro pins s σ0 H vs us Q I r h
  obtain ⟨DF, G, σ, ρ, p, d, v, F, rb, rfl, h, k⟩ := h
  cases r with
  | cons r1 r2 =>
    cases r2 with
    | cons r2 r3 =>
      cases r3
      rename_i u1 u2
      obtain rfl : u2 = .type (isaT t) := r2
      have D1 := rb.dp F.sub
      rw [← hX.K] at D1
      obtain ⟨as, R1⟩ := Dp.reads I d v u1 D1 r1
      have fin : ∀ b : Bool, isaD t d = b → ∀ tk, s.toks ≤ tk → EP X pins σ0 Q (.bool b) { s with toks := tk } := fun b e tk _ => ⟨.bl b, H, I.tok tk, rfl, by rw [e] at h; exact k.here F h (.bl b)⟩
      match t, ht with
      | 0, _ => exact PySem.W.isinstance_tuple_data R1 (fin _ (by cases d <;> rfl))
      | 1, _ => exact PySem.W.isinstance_int_data R1 (fin _ (by cases d <;> rfl))
      | 2, _ => exact PySem.W.isinstance_bool_data R1 (fin _ (by cases d <;> rfl))
      | 3, _ => exact PySem.W.isinstance_str_data R1 (fin _ (by cases d <;> rfl))
      | 4, _ => exact PySem.W.isinstance_list_data R1 (fin _ (by cases d <;> rfl))
      | 5, _ => exact PySem.W.isinstance_dict_data R1 (fin _ (by cases d <;> rfl))

/-! ### how many unlike ones -/
def encI (k : List Int) : PyData := .tuple (k.map .int)
theorem eqvAll_ints : ∀ a b : List Int, PyData.eqvAll (a.map .int) (b.map .int) = decide (a = b) := by
  intro a b
  have := PySem.W.eqvAll_map (α := Int) a b
  exact this
theorem eqv_encI (a b : List Int) : PyData.eqv (encI a) (encI b) = decide (a = b) := by
  unfold encI
  rw [PyData.eqv]
  exact eqvAll_ints a b
theorem memD_encI (k : List Int) (r : List (List Int)) : memD (encI k) (r.map encI) = decide (k ∈ r) := by
  unfold memD
  induction r with
  | nil => simp
  | cons a r ih =>
    rw [List.map_cons, List.any_cons, ih, eqv_encI]
    by_cases e : a = k
    · subst e; simp
    · have e' : ¬ k = a := fun z => e z.symm
      simp [e, e']
theorem unlike_len : ∀ (l M : List (List Int)), M.Nodup → (∀ x, x ∈ M ↔ x ∈ l) → M.length = unlike (l.map encI)
  | [], M, _, h => by
    cases M with
    | nil => rfl
    | cons a r => exact absurd ((h a).mp List.mem_cons_self) (by simp)
  | x :: r, M, nd, h => by
    rw [List.map_cons, unlike, memD_encI]
    by_cases hx : x ∈ r
    · rw [if_pos (by simpa using hx)]
      refine unlike_len r M nd fun y => ?_
      rw [h y, List.mem_cons]
      exact ⟨fun z => z.elim (fun e => e ▸ hx) id, .inr⟩
    · rw [if_neg (by simpa using hx)]
      have hm : x ∈ M := (h x).mpr List.mem_cons_self
      have := unlike_len r (M.erase x) (nd.erase x) fun y => by
        rw [nd.mem_erase_iff, h y, List.mem_cons]
        exact ⟨fun ⟨a, b⟩ => b.elim (fun e => absurd e a) id, fun z => ⟨fun e => hx (e ▸ z), .inr z⟩⟩
      rw [← this, List.length_erase_of_mem hm]
      have : 0 < M.length := List.length_pos_of_mem hm
      omega
theorem ints_of {K : PySem.W.Frag} {G : Hp} : ∀ {ys : List V} {xs : List PyData}, Rps K G ys xs → xs.all isIntT = true → ∃ ns : List Int, ys = ns.map V.int ∧ xs = ns.map PyData.int
  | _, _, .nil, _ => ⟨[], rfl, rfl⟩
  | _, _, .cons a b, h => by
    rw [List.all_cons, Bool.and_eq_true] at h
    obtain ⟨ns, rfl, rfl⟩ := ints_of b h.2
    cases a with
    | int i => exact ⟨i :: ns, rfl, rfl⟩
    | _ => cases h.1
theorem tups_of {K : PySem.W.Frag} {G : Hp} : ∀ {ys : List V} {xs : List PyData}, Rps K G ys xs → xs.all intsT = true → ∃ ks : List (Addr × List Int), ys = ks.map (fun p => V.ref p.1) ∧ xs = ks.map (fun p => encI p.2) ∧ ∀ p ∈ ks, SqT K G p.1 (p.2.map V.int)
  | _, _, .nil, _ => ⟨[], rfl, rfl, fun _ h => (nomatch h)⟩
  | _, _, .cons a b, h => by
    rw [List.all_cons, Bool.and_eq_true] at h
    obtain ⟨ks, rfl, rfl, h3⟩ := tups_of b h.2
    cases a with
    | tup e r =>
      obtain ⟨ns, rfl, rfl⟩ := ints_of r h.1
      refine ⟨(_, ns) :: ks, rfl, rfl, fun p hp => ?_⟩
      rcases List.mem_cons.mp hp with rfl | hp
      · exact e
      · exact h3 p hp
    | _ => cases h.1
/-- len(set(xs)), xs a list of tuples of ints -/
def tLs (P : Px) (ta : TE) : TE := fun σ0 H0 Q => ta σ0 H0 fun v H => ∃ DF G σ ρ p xs, FrD P DF σ ρ G H ∧ Rb P.K DF G H v (.list xs) ∧ xs.all intsT = true ∧ xs.length ≤ 60 ∧ p (.int (unlike xs)) ∧ KV P DF σ ρ G H p Q
theorem pe_lenset (hX : Cxo P X S N cs) {a : Expr} {ta : TE} {p p2 q pos : Pos} (hg : Gl X "len") (hg2 : Gl X "set") (ha : PE X a ta)
    (na : starEach [a] X.env = (false, eval a X.env) :: starEach [] X.env) : PE X (.Call (.Name "len" p) [.Call (.Name "set" p2) [a] [] q] [] pos) (tLs P ta) := by
  refine ⟨fun pins s σ0 H Q I h => ?_⟩
  refine PyProof.Rows.Call_ (ld_blt I hg (hX.free _ (by decide)) PySem.boot_len ?_)
  refine PyProof.Rows.callWith_builtin1 (PyProof.Rows.args_cons ?_ rfl) rfl rfl
  refine PyProof.Rows.Call_ (ld_blt I hg2 (hX.free _ (by decide)) PyProof.Rows.boot_set ?_)
  refine PyProof.Rows.callWith_type1 (PyProof.Rows.args_cons (thn (ha.run pins s σ0 H _ I h) fun v s1 ⟨x, H1, I1, r1, DF, G, σ, ρ, p, xs, F, rb, hall, hlen, hp, k⟩ => PyProof.Rows.args_nil ?_) na) na rfl
  obtain ⟨l, ys, rfl, e1, q1⟩ := rb.list F.sub
  obtain ⟨ks, rfl, rfl, h3⟩ := tups_of q1 hall
  cases r1
  obtain ⟨its, rv, pl, hz⟩ := I1.list (SqL.of e1)
  rw [List.length_map] at hlen
  have hu := hX.units
  have hk : ∀ p ∈ ks, SqT X.K H1 p.1 (p.2.map V.int) := fun p hp => by rw [hX.K]; exact F.sub.sqT (h3 p hp)
  refine call_set_tups (P := X.prog) (w := X.w) ks hX.hd pl.isList (by simpa using refs_of_vals rv) (fun p hp => I1.isT (hk p hp)) (by omega) (by omega) fun h' tk L es ep t R g kp => ?_
  refine PyProof.Rows.args_nil ?_
  have I2 : Inv X pins σ0 H1 { s1 with heap := h', toks := tk } := I1.kept kp
  obtain ⟨o, ho, hex, hd⟩ := R.ob
  have hn : es.size = L.length := SetTR.size (s := { s1 with heap := h', toks := tk }) R
  have hL : L.length = unlike ((ks.map (·.2)).map encI) := by
    have : (L.map (·.2)).length = unlike ((ks.map (·.2)).map encI) := by
      refine unlike_len _ _ R.nd fun x => ⟨fun hx => ?_, fun hx => ?_⟩
      · obtain ⟨p, hp, rfl⟩ := List.mem_map.mp hx
        exact List.mem_map.mpr ⟨p, List.mem_of_mem_take (g.sub p hp), rfl⟩
      · obtain ⟨p, hp, rfl⟩ := List.mem_map.mp hx
        exact g.all p (by rw [List.take_length]; exact hp)
    rwa [List.length_map] at this
  rw [List.map_map] at hL
  have few := R.few
  refine call_len_set ho hex hd (SetTR.fits (s := { s1 with heap := h', toks := tk }) R) (by rw [hn]; omega) ⟨.int (unlike (ks.map fun p => encI p.2)), H1, I2.tok _, ⟨tk + 1, ?_⟩, k.here F hp (.int _)⟩
  rw [hn, hL]
  rfl
end
end Pv
set_option Elab.async false
set_option linter.all false
set_option maxRecDepth 100000
set_option maxHeartbeats 4000000
/-! Core 8: contexts, names, targets, iterables, comprehensions over plain data. Own work. -/
set_option autoImplicit false
namespace Pv
open PySem PySem.Spec L2

/-- what a function promises -/
def spF (P : Px) (C : Orc) (f : Nat) : Sp := fun vs H Q E => ∃ DF G sl p e, Sub G H ∧ DrOk G H DF ∧ LamX.Tabs P.T H ∧ RAs P.K DF G vs sl ∧ C f sl p e ∧
  (∀ v H' G' d sl', p d sl' → Gr P.T DF G H G' H' → Sub G' H' → DrOk G' H' DF → Rp P.K G' v d → Q v H') ∧
  (∀ x H' G' sl' cls dx, e x sl' → Gr P.T DF G H G' H' → Sub G' H' → DrOk G' H' DF → ExAt P G' x cls dx H' → E cls dx H')
structure Cxf (P : Px) (C : Orc) (fns : List Str) (cs : List (Str × PyData)) (N : List Str) (X : Cx) (S : Scope) (W : WX) : Prop where
  o : Cxo P X S N cs
  cal : ∀ (f : Nat) (x : Str), fns[f]? = some x → ∃ (k : Nat) (fa : Addr) (fd : FuncData) (ps : List Str), FnOk X.prog X.w X.K X.mg X.base (L2.CX X.prog X.w) k fa fd ps (spF P C f) ∧ Room k X.A ∧ X.mg x = some (.ref fa) ∧ PySem.W.keepIn X.K (.ref fa) = true ∧ Binds X.K fd ps []
  tk : Takes X W
abbrev WF : WX := fun _ _ _ _ => False
section
variable {P : Px} {C : Orc} {fns : List Str} {cs : List (Str × PyData)} {N : List Str} {X : Cx} {S : Scope} {W : WX}
theorem Cxf.blk (h : Cxf P C fns cs N X S W) (s : Shared) (H : Hp) (sc : Scope) (D : Addr) (cl : List (Str × Addr)) (fp : List Addr) : Cxf P C fns cs N (X.blk s H sc (compEnvC sc cl D X.env) fp) (relS sc S) WF where
  o := ⟨h.o.K, by rw [← h.o.sc]; rfl, h.o.hN, h.o.nd, h.o.calm, h.o.hd, h.o.free, h.o.gl, h.o.units, h.o.depth⟩
  cal := h.cal
  tk := fun u s' ⟨a, B, sI, pins, σ, H, cls, d, e, I, nb, up, sky, na, os, ag, w⟩ => w.elim
theorem Cxf.glo (h : Cxf P C fns cs N X S W) {x : Str} (g : glB S x = true) : Gl X x ∧ (x == ("__debug__" : Str)) = false := by
  obtain ⟨h1, h2⟩ := glB_inv g
  refine ⟨?_, h2⟩
  show X.env.scope.names.lookup x = _
  rw [h.o.sc]; exact h1

/-! ### the form of expressions -/
def fineX : Expr → Bool
  | .Starred _ _ => false
  | .Set _ _ _ => false
  | .Slice _ _ _ _ => false
  | _ => true
theorem boB_fine {c : CE} {e : Expr} (h : boB N S c e = true) : fineX e = true := by
  cases c with
  | bo i => obtain ⟨x, p, rfl, _⟩ := mNm_inv (show mNm N S i e = true from h); rfl
  | _ => cases h
theorem stB_fine {c : CE} {e : Expr} (h : stB N S c e = true) : fineX e = true := by
  cases c with
  | stn i => obtain ⟨x, p, rfl, _⟩ := mNm_inv (show mNm N S i e = true from h); rfl
  | _ => cases h
theorem mtE_fine {c : CE} {e : Expr} (h : mtE fns cs N S c e = true) : fineX e = true := by
  cases c with
  | cst d => rw [mtE] at h; obtain ⟨c, k, p, rfl, _⟩ := mCst_inv h; rfl
  | nm i => rw [mtE] at h; obtain ⟨x, p, rfl, _⟩ := mNm_inv h; rfl
  | bo i => rw [mtE] at h; cases h
  | stn i => rw [mtE] at h; cases h
  | gl k x d => rw [mtE] at h; obtain ⟨p, rfl, _⟩ := mGl_inv h; rfl
  | neg a => rw [mtE] at h; obtain ⟨x, p, rfl, _⟩ := mNeg_inv h; rfl
  | bin o a b => rw [mtE] at h; obtain ⟨x, y, p, rfl, _⟩ := mBin_inv h; rfl
  | cmp o a b => rw [mtE] at h; obtain ⟨x, y, p, rfl, _⟩ := mCmp_inv h; rfl
  | chn o o' a b c => rw [mtE] at h; obtain ⟨x, y, z, p, rfl, _⟩ := mChn_inv h; rfl
  | and a b => rw [mtE] at h; obtain ⟨x, xs, p, rfl, _⟩ := mAnd_inv h; rfl
  | or a b => rw [mtE] at h; obtain ⟨x, xs, p, rfl, _⟩ := mOr_inv h; rfl
  | not a => rw [mtE] at h; obtain ⟨x, p, rfl, _⟩ := mNot_inv h; rfl
  | ife t a b => rw [mtE] at h; obtain ⟨x, y, z, p, rfl, _⟩ := mIfe_inv h; rfl
  | tup es => rw [mtE] at h; obtain ⟨xs, c, p, rfl, _⟩ := mTup_inv h; rfl
  | lst es => rw [mtE] at h; obtain ⟨xs, p, rfl, _⟩ := mLst_inv h; rfl
  | idx a i => rw [mtE] at h; obtain ⟨x, y, p, rfl, _⟩ := mIdx_inv h; rfl
  | sl a l u => rw [mtE] at h; obtain ⟨x, a, b, p, q, rfl, _⟩ := mSl_inv h; rfl
  | call f es => rw [mtE] at h; obtain ⟨x, p, y, ys, q, rfl, _⟩ := mCall_inv h; rfl
  | prim f es => rw [mtE] at h; obtain ⟨x, p, y, ys, q, rfl, _⟩ := mCall_inv h; rfl
  | isa t a => rw [mtE] at h; obtain ⟨p, y, q, r, rfl, _⟩ := mIsa_inv h; rfl
  | lenset a => rw [mtE] at h; obtain ⟨p, q, z, r, t, rfl, _⟩ := mWrap_inv h; rfl
  | rng t a => rw [mtE] at h; obtain ⟨p, q, z, r, t, rfl, _⟩ := mWrap_inv h; rfl
  | comp elt tg it t => rw [mtE] at h; obtain ⟨x, tg', it', ifs, sc, p, rfl, _⟩ := mComp_inv h; rfl
  | comp2 elt tg it t tg1 it1 t1 => rw [mtE] at h; obtain ⟨x, tg', it', ifs, tg1', it1', ifs1, sc, p, rfl, _⟩ := mComp2_inv h; rfl
theorem star_fine {e : Expr} (h : fineX e = true) (es : List Expr) (env : PySem.Env) : starEach (e :: es) env = (false, eval e env) :: starEach es env := by
  cases e <;> first | rfl | cases h
theorem noplain {pos : Pos} {env : PySem.Env} : ∀ {es : List Expr}, (∀ e ∈ es, fineX e = true) → (backTo pos (starEach es env)).any (·.1) = false
  | [], _ => rfl
  | e :: es, h => by
    rw [star_fine (h e List.mem_cons_self)]
    show (false || (backTo pos (starEach es env)).any (·.1)) = false
    rw [noplain fun x m => h x (List.mem_cons_of_mem _ m)]
    rfl
theorem nomarks {o : CmpOp} {e : Expr} (h : fineX e = true) : behindInMarks o e = false := by
  cases e <;> first | rfl | cases h
theorem plainIx {e : Expr} (h : fineX e = true) : PlainIx e := fun o i => by
  cases e <;> first | rfl | cases h
theorem nofold {e : Expr} (h : fineX e = true) (env : PySem.Env) (x : Value) : foldedSetIterable e env x = pure x := by
  cases e <;> first | rfl | cases h

/-! ### the frame's slots -/
variable {DF : DFt} {σ : L2.St} {ρ : Env} {G H G' H' : Hp}
theorem get_set {α : Type} (l : List α) (i j : Nat) (a : α) : (l.set i a)[j]? = if j = i ∧ i < l.length then some a else l[j]? := by
  by_cases h : j = i
  · subst h
    by_cases hl : j < l.length
    · rw [List.getElem?_set_self hl, if_pos ⟨rfl, hl⟩]
    · rw [if_neg (fun z => hl z.2), List.getElem?_eq_none (by simpa using hl), List.getElem?_eq_none (by simpa using hl)]
  · rw [List.getElem?_set_ne (Ne.symm h), if_neg (fun z => h z.1)]
/-- a slot is set to what is right and no list of ours -/
theorem FrD.setN (F : FrD P DF σ ρ G H) {i : Nat} {o : Option V} {s : Slot} (ok : SlotOk P DF G H (some o) s) (no : ∀ d, s ≠ .own d) : FrD P DF (σ.set i o) (ρ.set i s) G H where
  len := by rw [List.length_set, List.length_set]; exact F.len
  sub := F.sub
  sub0 := F.sub0
  new := F.new
  keep0 := F.keep0
  df := F.df
  slots := fun j t e => by
    rw [get_set] at e ⊢
    rw [← F.len]
    split at e
    · rename_i h
      rw [if_pos h]
      cases e
      exact ok
    · rename_i h
      rw [if_neg h]
      exact F.slots j t e
  own1 := fun j k d d' p h1 h2 h3 h4 => by
    rw [get_set] at h1 h2 h3 h4
    rw [← F.len] at h3 h4
    split at h1
    · cases h1; exact absurd rfl (no d)
    · rename_i n1
      split at h2
      · cases h2; exact absurd rfl (no d')
      · rename_i n2
        rw [if_neg n1] at h3
        rw [if_neg n2] at h4
        exact F.own1 j k d d' p h1 h2 h3 h4
  dr := F.dr
  live0 := F.live0
  tab := F.tab
theorem FrD.setv (F : FrD P DF σ ρ G H) {i : Nat} {v : V} {d : PyData} (r : Rp P.K G v d) : FrD P DF (σ.set i (some v)) (ρ.set i (.v d)) G H := F.setN ⟨v, rfl, r⟩ fun _ z => (nomatch z)
theorem FrD.wipe (F : FrD P DF σ ρ G H) : ∀ vs : List Nat, FrD P DF (L2.wipe σ vs) (wipeE ρ vs) G H
  | [] => F
  | v :: vs => (FrD.wipe F vs).setN trivial fun _ z => (nomatch z)
/-- the same but at vs -/
def Same (vs : List Nat) (σ σ' : L2.St) : Prop := σ'.length = σ.length ∧ ∀ i, i ∉ vs → σ'[i]? = σ[i]?
theorem Same.refl (vs : List Nat) (σ : L2.St) : Same vs σ σ := ⟨rfl, fun _ _ => rfl⟩
theorem Same.trans {vs : List Nat} {σ σ1 σ2 : L2.St} (a : Same vs σ σ1) (b : Same vs σ1 σ2) : Same vs σ σ2 := ⟨b.1.trans a.1, fun i h => (b.2 i h).trans (a.2 i h)⟩
theorem Same.more {vs ws : List Nat} {σ σ1 : L2.St} (a : Same vs σ σ1) (h : ∀ i ∈ vs, i ∈ ws) : Same ws σ σ1 := ⟨a.1, fun i hi => a.2 i fun m => hi (h i m)⟩
theorem Same.set {vs : List Nat} {i : Nat} (hi : i ∈ vs) (σ : L2.St) (o : Option V) : Same vs σ (σ.set i o) := ⟨by rw [List.length_set], fun j hj => by
  rw [List.getElem?_set_ne]; rintro rfl; exact hj hi⟩
theorem Same.wiped (σ : L2.St) : ∀ vs : List Nat, Same vs σ (L2.wipe σ vs)
  | vs => ⟨wipe_length σ vs, fun i h => wipe_out h⟩
theorem wipe_in {σ : L2.St} {i : Nat} : ∀ {vs : List Nat}, i ∈ vs → (L2.wipe σ vs)[i]? = if i < σ.length then some none else none
  | v :: vs, m => by
    unfold L2.wipe
    rw [get_set]
    by_cases h : i = v ∧ v < (L2.wipe σ vs).length
    · rw [if_pos h]
      rw [wipe_length] at h
      rw [if_pos (by rw [h.1]; exact h.2)]
    · rw [if_neg h]
      by_cases hm : i ∈ vs
      · exact wipe_in hm
      · have e : i = v := by
          rcases List.mem_cons.mp m with e | e
          · exact e
          · exact absurd e hm
        subst e
        rw [wipe_out hm]
        rw [wipe_length] at h
        have : ¬ i < σ.length := fun z => h ⟨rfl, z⟩
        rw [if_neg this, List.getElem?_eq_none (by omega)]
theorem Same.wipe_eq {vs : List Nat} {σ σ' : L2.St} (h : Same vs σ σ') : L2.wipe σ' vs = L2.wipe σ vs := by
  refine List.ext_getElem? fun i => ?_
  by_cases m : i ∈ vs
  · rw [wipe_in m, wipe_in m, h.1]
  · rw [wipe_out m, wipe_out m, h.2 i m]

/-- the lists that names alone hold are from before -/
def OwnLe (σ : L2.St) (ρ : Env) (σ' : L2.St) (ρ' : Env) : Prop := ∀ (i : Nat) d, ρ'[i]? = some (.own d) → ρ[i]? = some (.own d) ∧ σ'[i]? = σ[i]?
theorem OwnLe.refl (σ : L2.St) (ρ : Env) : OwnLe σ ρ σ ρ := fun _ _ e => ⟨e, rfl⟩
theorem OwnLe.trans {σ σ1 σ2 : L2.St} {ρ ρ1 ρ2 : Env} (a : OwnLe σ ρ σ1 ρ1) (b : OwnLe σ1 ρ1 σ2 ρ2) : OwnLe σ ρ σ2 ρ2 := fun i d e => by
  obtain ⟨e1, e2⟩ := b i d e
  obtain ⟨e3, e4⟩ := a i d e1
  exact ⟨e3, e2.trans e4⟩
theorem OwnLe.setN {σ : L2.St} {ρ : Env} (hl : ρ.length = σ.length) {i : Nat} {o : Option V} {s : Slot} (no : ∀ d, s ≠ .own d) : OwnLe σ ρ (σ.set i o) (ρ.set i s) := fun j d e => by
  rw [get_set] at e ⊢
  rw [← hl]
  split at e
  · cases e; exact absurd rfl (no d)
  · rename_i h
    rw [if_neg h]
    exact ⟨e, rfl⟩
theorem OwnLe.setv {σ : L2.St} {ρ : Env} (hl : ρ.length = σ.length) {i : Nat} {o : Option V} {d : PyData} : OwnLe σ ρ (σ.set i o) (ρ.set i (.v d)) := OwnLe.setN hl fun _ z => (nomatch z)
theorem wipeE_length (ρ : Env) : ∀ vs : List Nat, (wipeE ρ vs).length = ρ.length
  | [] => rfl
  | v :: vs => by rw [wipeE, List.length_set, wipeE_length ρ vs]
theorem OwnLe.wipe {σ : L2.St} {ρ : Env} (hl : ρ.length = σ.length) : ∀ vs : List Nat, OwnLe σ ρ (L2.wipe σ vs) (wipeE ρ vs)
  | [] => OwnLe.refl _ _
  | v :: vs => (OwnLe.wipe hl vs).trans (OwnLe.setN (by rw [wipe_length, wipeE_length]; exact hl) fun _ z => (nomatch z))

/-! ### targets -/
def gNms : List Nat → TGs
  | [] => gNil
  | i :: is => gCons (gName i) (gNms is)
def gT (K : PySem.W.Frag) : Tg → TG
  | .nm i => gName i
  | .tp is => gTup K is.length (gNms is)
theorem gNms_ok {k : Env → Prop} {Q : L2.St → Hp → Prop} : ∀ (is : List Nat) {vs : List V} {ds : List PyData} {σ : L2.St} {ρ : Env}, FrD P DF σ ρ G H → Rps P.K G vs ds → ds.length = is.length → k (setAll is ds ρ) →
    (∀ σ' ρ', k ρ' → FrD P DF σ' ρ' G H → Same is σ σ' → OwnLe σ ρ σ' ρ' → Q σ' H) → gNms is vs σ H Q
  | [], vs, ds, σ, ρ, F, r, e, h, q => by
    cases ds with
    | nil => cases r; exact ⟨rfl, q _ _ h F (Same.refl _ _) (OwnLe.refl _ _)⟩
    | cons _ _ => cases e
  | i :: is, vs, ds, σ, ρ, F, r, e, h, q => by
    cases ds with
    | nil => cases e
    | cons d ds =>
      cases r with
      | cons r1 r2 =>
        refine ⟨_, _, rfl, gNms_ok is (F.setv r1) r2 (by simpa using e) h fun σ' ρ' hk F' sm ol => q σ' ρ' hk F' ?_ ((OwnLe.setv F.len).trans ol)⟩
        exact (Same.set List.mem_cons_self _ _).trans (sm.more fun j m => List.mem_cons_of_mem _ m)
theorem gT_ok (tg : Tg) {v : V} {d : PyData} {k : Env → Prop} {Q : L2.St → Hp → Prop} (F : FrD P DF σ ρ G H) (r : Rp P.K G v d) (h : setTg tg d ρ k) (q : ∀ σ' ρ', k ρ' → FrD P DF σ' ρ' G H → Same (tgs tg) σ σ' → OwnLe σ ρ σ' ρ' → Q σ' H) : gT P.K tg v σ H Q := by
  cases tg with
  | nm i => exact q _ _ h (F.setv r) (Same.set (by simp) _ _) (OwnLe.setv F.len)
  | tp is =>
    obtain ⟨ds, rfl, h1, h2⟩ := asT_inv (show asT d _ from h)
    cases r with
    | tup e rs => exact ⟨_, _, rfl, F.sub.sqT e, rs.length.trans h1, gNms_ok is F rs h1 h2 q⟩
theorem pg_ok (hX : Cxf P C fns cs N X S W) {raw : Scope} (hf : ∀ x, celB raw x = true → X.fn x = true) {tg : Tg} {e : Expr} (h : tgB N S raw tg e = true) : PG X e (gT P.K tg) := by
  have name : ∀ {i : Nat} {x : Str} {p : Pos}, stoB N S raw i x = true → PG X (.Name x p) (gName i) := fun {i x p} h => by
    obtain ⟨h1, h2⟩ := stoB_inv h
    rw [← hX.o.hN] at h1
    rw [← hX.o.sc] at h2
    rcases h2 with h2 | ⟨h2, h3⟩
    · exact pg_name hX.o.nd h1 (.inl h2) (.inr h2)
    · exact pg_name hX.o.nd h1 (.inr h3) (.inl (hf x h2))
  unfold tgB at h
  split at h
  · exact name h
  · rename_i is es _ _
    have key : ∀ (is : List Nat) (es : List Expr), tgB.tgL N S raw is es = true → PGs X es (gNms is) ∧ (assignEach es X.env).length = is.length ∧ (assignEach es X.env).findIdx? (·.1) = none := by
      intro is
      induction is with
      | nil =>
        intro es h
        cases es with
        | nil => exact ⟨pgs_nil, rfl, rfl⟩
        | cons _ _ => cases h
      | cons i is ih =>
        intro es h
        cases es with
        | nil => cases h
        | cons e es =>
          unfold tgB.tgL at h
          split at h
          · rename_i h0 h1; cases h0
          · rename_i i' is' x p es' h0 h1
            cases h0; cases h1
            obtain ⟨h2, h3⟩ := both h
            obtain ⟨k1, k2, k3⟩ := ih _ h3
            refine ⟨pgs_cons (name h2) k1, ?_, ?_⟩
            · show (assignEach _ X.env).length + 1 = _
              rw [k2]; rfl
            · show List.findIdx? (·.1) ((false, _) :: assignEach _ X.env) = none
              rw [List.findIdx?_cons, k3]; rfl
          · cases h
    obtain ⟨k1, k2, k3⟩ := key is es h
    show PG X _ (gTup P.K is.length (gNms is))
    rw [← hX.o.K]
    exact pg_tup hX.o.calm k1 k2 k3
  · cases h
end
end Pv
set_option Elab.async false
set_option linter.all false
set_option maxRecDepth 100000
set_option maxHeartbeats 4000000
/-! Core 9: iterables, comprehensions over plain data. Own work. -/
set_option autoImplicit false
namespace Pv
open PySem PySem.Spec L2

/-- what an iterator walks; b: a list that a name alone holds may be walked -/
inductive ItD (b : Bool) (K : PySem.W.Frag) (DF : DFt) (G H : Hp) : It → List PyData → Prop
  | l {a : Addr} {xs : List V} {as : List PyData} : (G a = some (.lst xs) ∨ (b = true ∧ NotIn a DF ∧ H a = some (.lst xs))) → Rps K G xs as → as.length ≤ sizeLine → ItD b K DF G H (Itl K a) as
  | t {a : Addr} {xs : List V} {as : List PyData} : SqT K G a xs → Rps K G xs as → as.length ≤ sizeLine → ItD b K DF G H (Itt K a) as
  | r {lo : Int} {n : Nat} : n ≤ 2 * LIM → ItD b K DF G H (Itr lo n) (range lo n)
theorem range_length (lo : Int) (n : Nat) : (range lo n).length = n := by unfold range; rw [List.length_map, List.length_range]
theorem range_get (lo : Int) {n i : Nat} (h : i < n) : (range lo n)[i]? = some (.int (lo + (i : Int))) := by
  unfold range
  rw [List.getElem?_map, List.getElem?_range h]
  rfl
section
variable {b : Bool} {K : PySem.W.Frag} {DF : DFt} {G H G' H' : Hp} {J : It} {as : List PyData}
theorem ItD.grow {T : List (Addr × Str)} (h : ItD b K DF G H J as) (g : Gr T DF G H G' H') : ItD b K DF G' H' J as := by
  cases h with
  | l e r z =>
    refine .l ?_ (r.mono g.sub) z
    rcases e with e | ⟨h1, h2, h3⟩
    · exact .inl (g.sub _ _ e)
    · exact .inr ⟨h1, h2, g.keep _ _ h3 trivial h2⟩
  | t e r z => exact .t (g.sub.sqT e) (r.mono g.sub) z
  | r z => exact .r z
theorem ItD.sub {DF' : DFt} (h : ItD false K DF G H J as) (s : Sub G G') : ItD false K DF' G' H' J as := by
  cases h with
  | l e r z =>
    refine .l ?_ (r.mono s) z
    rcases e with e | ⟨h1, h2, h3⟩
    · exact .inl (s _ _ e)
    · cases h1
  | t e r z => exact .t (s.sqT e) (r.mono s) z
  | r z => exact .r z
theorem ItD.len (h : ItD b K DF G H J as) : as.length ≤ sizeLine := by
  cases h with
  | l _ _ z => exact z
  | t _ _ z => exact z
  | r z => rw [range_length]; exact Nat.le_trans z (by rw [sizeLine_eq]; decide)
theorem ItD.stop (h : ItD b K DF G H J as) (s : Sub G H) : J.stop as.length H := by
  cases h with
  | l e r z =>
    refine ⟨_, .inl (.inl ?_), Nat.le_of_eq r.length⟩
    rcases e with e | ⟨h1, h2, h3⟩
    · exact s _ _ e
    · exact h3
  | t e r z => exact ⟨_, s.sqT e, Nat.le_of_eq r.length⟩
  | r z => exact Nat.le_of_eq (range_length _ _).symm
theorem ItD.go (h : ItD b K DF G H J as) (s : Sub G H) {i : Nat} (hi : i < as.length) : J.go i H := by
  cases h with
  | @l a xs as e r z =>
    obtain ⟨v, hv, _⟩ := r.get (List.getElem?_eq_getElem hi)
    refine ⟨xs, v, .inl (.inl ?_), hv⟩
    rcases e with e | ⟨h1, h2, h3⟩
    · exact s _ _ e
    · exact h3
  | @t a xs as e r z =>
    obtain ⟨v, hv, _⟩ := r.get (List.getElem?_eq_getElem hi)
    exact ⟨xs, v, s.sqT e, hv⟩
  | @r lo n z => exact (range_length lo n) ▸ hi
theorem ItD.yld (h : ItD b K DF G H J as) (s : Sub G H) {i : Nat} (hi : i < as.length) {x : V} {H1 : Hp} (y : J.yld i H x H1) : H1 = H ∧ ∃ d, as[i]? = some d ∧ Rp K G x d := by
  cases h with
  | @l a xs as e r z =>
    obtain ⟨rfl, y⟩ := y
    refine ⟨rfl, r.getV (y xs (.inl (.inl ?_)))⟩
    rcases e with e | ⟨h1, h2, h3⟩
    · exact s _ _ e
    · exact h3
  | @t a xs as e r z =>
    obtain ⟨rfl, y⟩ := y
    exact ⟨rfl, r.getV (y xs (s.sqT e))⟩
  | @r lo n z =>
    obtain ⟨rfl, rfl⟩ := y
    rw [range_length] at hi
    exact ⟨rfl, _, range_get lo hi, .int _⟩
end
section
variable {P : Px} {C : Orc} {fns : List Str} {cs : List (Str × PyData)} {N : List Str} {X : Cx} {S : Scope} {W : WX}
/-- an iterable's reading -/
def tI (P : Px) (C : Orc) (W : WX) (b : Bool) (c : CI) : TI := fun σ H R => ∃ DF G ρ p e, FrD P DF σ ρ G H ∧ evI C c ρ p e ∧ (∀ J H' G' as, p as → FrD P DF σ ρ G' H' → Gr P.T DF G H G' H' → ItD b P.K DF G' H' J as → R J H') ∧ KX P W DF σ ρ G H e
/-- a value's reading; b: or a list that a name alone holds -/
def tQ (P : Px) (C : Orc) (W : WX) (b : Bool) (c : CE) : TE := fun σ H Q => ∃ DF G ρ p e, FrD P DF σ ρ G H ∧ evE C c ρ p e ∧ (∀ v H' G' d, p d → FrD P DF σ ρ G' H' → Gr P.T DF G H G' H' → (Rp P.K G' v d ∨ (b = true ∧ Rb P.K DF G' H' v d)) → Q v H') ∧ KX P W DF σ ρ G H e
theorem tB_of_tV {c : CE} {e : Expr} (h : PE X e (tV P C W c)) : PE X e (tB P C W c) := PE.mono h fun σ H Q ⟨DF, G, ρ, p, e, F, ev, k, kx⟩ => ⟨DF, G, ρ, p, e, F, ev, fun v H' G' d hd F' g r => k v H' G' d hd F' g (.inl r), kx⟩
theorem tQ_of_tV {b : Bool} {c : CE} {e : Expr} (h : PE X e (tV P C W c)) : PE X e (tQ P C W b c) := PE.mono h fun σ H Q ⟨DF, G, ρ, p, e, F, ev, k, kx⟩ => ⟨DF, G, ρ, p, e, F, ev, fun v H' G' d hd F' g r => k v H' G' d hd F' g (.inl r), kx⟩
theorem tQ_of_tB {c : CE} {e : Expr} (h : PE X e (tB P C W c)) : PE X e (tQ P C W true c) := PE.mono h fun σ H Q ⟨DF, G, ρ, p, e, F, ev, k, kx⟩ => ⟨DF, G, ρ, p, e, F, ev, fun v H' G' d hd F' g r => k v H' G' d hd F' g (.inr ⟨rfl, r⟩), kx⟩
theorem tV_of_tF {c : CE} {e : Expr} (h : PE X e (tF P C W c)) (l : ∀ ρ p e, evE C c ρ p e → evE C c ρ (fun d => asL d fun xs => p (.list xs)) e) : PE X e (tV P C W c) :=
  PE.mono h fun σ H Q ⟨DF, G, ρ, p, e, F, ev, k, kx⟩ => ⟨DF, G, ρ, _, e, F, l _ _ _ ev, fun a xs H' G' ds hd F' g n gn eq r => KV.kf k F a xs H' G' ds hd F' g n gn eq r, kx⟩
theorem pie_new {pins : List (Addr × Obj)} {σ : L2.St} {H : Hp} {s : Shared} {R : It → Hp → Prop} {tg : Expr} {J : It} {tn : Nat → Heap → Prop} {o : Obj} (I : Inv X pins σ H s) (T : Turn X.prog X.w X.K tg J [s.heap.objs.size] s.heap.objs.size tn)
    (st : tn 0 (s.heap.push o)) (q : R J H) : PIE X pins σ tg R (.ref s.heap.objs.size) { s with heap := s.heap.push o } := by
  refine ⟨_, _, tn, J, H, rfl, I.kept (t' := s.toks) fun b o e => Heap.get?_push_of_some _ e, T, st, fun b hb => ?_, q⟩
  obtain rfl : b = s.heap.objs.size := by simpa using hb
  exact I.fpOk (Nat.le_refl _) (I.hok.fresh (Nat.le_refl _))
theorem pi_anyW (hX : Cxf P C fns cs N X S W) {φ : L2.St → Hp → Prop} {b : Bool} {tg l : Expr} {c : CE} (h : PE X l (fun σ H Q => tQ P C W b c σ H Q ∧ φ σ H)) : PI X tg l (fun σ H R => tI P C W b (.seq c) σ H R ∧ φ σ H) := by
  refine ⟨fun pins s σ H R I hw => ?_⟩
  obtain ⟨⟨DF, G, ρ, p, e, F, ev, k, kx⟩, hφ⟩ := hw
  have hK := hX.o.K
  refine thn (h.run pins s σ H (fun x H1 => ∃ G1 d as, FrD P DF σ ρ G1 H1 ∧ Gr P.T DF G H G1 H1 ∧ (Rp P.K G1 x d ∨ (b = true ∧ Rb P.K DF G1 H1 x d)) ∧ (d = .list as ∨ d = .tuple as) ∧ p as) I
    ⟨⟨DF, G, ρ, _, e, F, ev, fun v H' G' d hd F' g r => (by obtain ⟨as, h1, h2⟩ := asS_inv hd; exact ⟨G', d, as, F', g, r, h1, h2⟩), kx⟩, hφ⟩) fun v s1 ⟨x, H1, I1, r1, G1, d, as, F1, g, rb, hd, hp⟩ => ?_
  rcases hd with rfl | rfl
  · obtain ⟨a, xs, rfl, e0, e1, q1⟩ : ∃ a xs, x = .ref a ∧ (G1 a = some (.lst xs) ∨ (b = true ∧ NotIn a DF ∧ H1 a = some (.lst xs))) ∧ H1 a = some (.lst xs) ∧ Rps P.K G1 xs as := by
      rcases rb with r | ⟨hb, r | ⟨q, e, n, ys, z, r⟩⟩
      · cases r with
        | lst e r => exact ⟨_, _, rfl, .inl e, F1.sub _ _ e, r⟩
      · cases r with
        | lst e r => exact ⟨_, _, rfl, .inl e, F1.sub _ _ e, r⟩
      · exact ⟨q, ys, e, .inr ⟨hb, n, z⟩, z, r⟩
    cases r1
    obtain ⟨its, rv, pl, hz⟩ := I1.list (SqL.of (K := X.K) e1)
    exact wpAny_pyIter_list pl.isList (pie_new I1 (tn := fun i h => h.IsListIter s1.heap.objs.size a i) (by rw [← hK]; exact turn_list a _) ⟨_, Heap.get?_push_size _ rfl, rfl, rfl⟩ (k _ _ _ as hp F1 g (.l e0 q1 (by rw [← q1.length]; exact hz))))
  · obtain ⟨a, xs, rfl, e1, q1⟩ : ∃ a xs, x = .ref a ∧ SqT P.K G1 a xs ∧ Rps P.K G1 xs as := by
      rcases rb with r | ⟨hb, r | ⟨q, e, n, z⟩⟩
      · cases r with
        | tup e r => exact ⟨_, _, rfl, e, r⟩
      · cases r with
        | tup e r => exact ⟨_, _, rfl, e, r⟩
      · exact z.elim
    cases r1
    have e2 : SqT X.K H1 a xs := by rw [hK]; exact F1.sub.sqT e1
    obtain ⟨its, rv, pl, hz⟩ := I1.tuple e2
    exact wpAny_pyIter_tuple (show s1.heap.IsTuple a its.toArray from pl) (pie_new I1 (tn := fun i h => h.IsTupleIter s1.heap.objs.size a i) (by rw [← hK]; exact turn_tuple a _) ⟨_, Heap.get?_push_size _ rfl, rfl, rfl⟩ (k _ _ _ as hp F1 g (.t e1 q1 (by rw [← q1.length]; exact hz))))

theorem pi_any (hX : Cxf P C fns cs N X S W) {b : Bool} {tg l : Expr} {c : CE} (h : PE X l (tQ P C W b c)) : PI X tg l (tI P C W b (.seq c)) :=
  have q := pi_anyW hX (φ := fun _ _ => True) (tg := tg) (PE.mono h fun σ H Q z => z.1)
  ⟨fun pins s σ H R I hw => q.run pins s σ H R I ⟨hw, trivial⟩⟩

/-! ### comprehensions -/
theorem cmpF_nil {F : PyData → (List PyData → Prop) → Prop} {p : List PyData → Prop} : cmpF F [] p = p [] := rfl
theorem cmpF_cons {F : PyData → (List PyData → Prop) → Prop} {a : PyData} {as : List PyData} {p : List PyData → Prop} : cmpF F (a :: as) p = F a fun r => cmpF F as fun ds => p (r ++ ds) := rfl
theorem drop_get {α : Type} {l : List α} {i : Nat} {d : α} (h : l[i]? = some d) : l.drop i = d :: l.drop (i + 1) := by
  obtain ⟨hi, e⟩ := List.getElem?_eq_some_iff.mp h
  rw [List.drop_eq_getElem_cons hi, e]
/-- one clause's turn: F's item -/
def oneF (C : Orc) (elt : CE) (tg : Tg) (t : CE) (ρ : Env) (a : PyData) (k : List PyData → Prop) : Prop :=
  setTg tg a ρ fun ρ1 => evE C t ρ1 (fun c => asB c fun c => if c = true then evE C elt ρ1 (fun d => k [d]) noE else k []) noE
/-- what holds of the new list D along a walk: G1, H1 the start -/
structure Grown (P : Px) (DF : DFt) (σ : L2.St) (ρ : Env) (G1 H1 : Hp) (D : Addr) (G2 H2 : Hp) (acc : List V) (ds : List PyData) : Prop where
  F : FrD P DF σ ρ G2 H2
  g : Gr P.T DF G1 H1 G2 H2
  nG : G2 D = none
  at_ : H2 D = some (.lst acc)
  rs : Rps P.K G2 acc ds
section
variable {DF : DFt} {σ σ' : L2.St} {ρ ρ' : Env} {G1 H1 G2 H2 G3 H3 : Hp} {D : Addr} {acc : List V} {ds : List PyData}
theorem Grown.start (F : FrD P DF σ ρ G1 H1) (n : H1 D = none) : Grown P DF σ ρ G1 H1 D G1 (upd H1 D (.lst [])) [] [] := by
  obtain ⟨F1, g⟩ := F.more (o := .lst []) n
  exact ⟨F1, g, F.none_of n, upd_same, .nil⟩
theorem Grown.on (h : Grown P DF σ ρ G1 H1 D G2 H2 acc ds) (nd : NotIn D DF) (g : Gr P.T DF G2 H2 G3 H3) (F' : FrD P DF σ' ρ' G3 H3) : Grown P DF σ ρ G1 H1 D G3 H3 acc ds where
  F := h.F.swap g F'
  g := h.g.trans g
  nG := by
    cases e : G3 D with
    | none => rfl
    | some o =>
      rcases g.new D o e with z | z
      · rw [h.nG] at z; cases z
      · exact (z.no h.at_).elim
  at_ := g.keep D _ h.at_ trivial nd
  rs := h.rs.mono g.sub
theorem Grown.push (h : Grown P DF σ ρ G1 H1 D G2 H2 acc ds) (n : H1 D = none) (nd : Fr0 P.H0 D ∧ NotIn D DF) (no : ∀ (i : Nat) d, ρ[i]? = some (.own d) → σ[i]? ≠ some (some (.ref D))) {y : V} {d : PyData} (r : Rp P.K G2 y d) :
    Grown P DF σ ρ G1 H1 D G2 (upd H2 D (.lst (acc ++ [y]))) (acc ++ [y]) (ds ++ [d]) where
  F := h.F.poke h.at_ h.nG nd.1 nd.2 no
  g := ⟨h.g.sub, fun a o e nt m => by rw [upd_ne (ne_of_none e n)]; exact h.g.keep a o e nt m, h.g.new, fun a e => h.g.live a (fr0_wr (xs := acc) a e), fun t => tabs_wr (h.g.tab t) h.at_⟩
  nG := h.nG
  at_ := upd_same
  rs := h.rs.append (.cons r .nil)
/-- by another frame of ours that was there at the start -/
theorem Grown.to (h : Grown P DF σ ρ G1 H1 D G2 H2 acc ds) (F1 : FrD P DF σ' ρ' G1 H1) : Grown P DF σ' ρ' G1 H1 D G2 H2 acc ds := ⟨F1.swap h.g h.F, h.g, h.nG, h.at_, h.rs⟩
theorem Grown.as (h : Grown P DF σ ρ G1 H1 D G2 H2 acc ds) (F' : FrD P DF σ' ρ' G2 H2) : Grown P DF σ' ρ' G1 H1 D G2 H2 acc ds := ⟨F', h.g, h.nG, h.at_, h.rs⟩
end
/-- the reading of one clause's turn, wants in Nx -/
theorem one_ok {DF : DFt} {σ σ0 : L2.St} {ρ ρ0 : Env} {G1 H1 G2 H2 : Hp} {D : Addr} {acc : List V} {ds : List PyData} {elt t : CE} {tg : Tg} {x : V} {d : PyData} {k : List PyData → Prop} {Nx : Hp → Prop} {vs : List Nat} {w : L2.St} (hw : L2.wipe σ0 vs = w)
    (n : H1 D = none) (nd : Fr0 P.H0 D ∧ NotIn D DF) (no : ∀ (i : Nat) d, ρ[i]? = some (.own d) → σ[i]? ≠ some (some (.ref D))) (g : Grown P DF σ ρ G1 H1 D G2 H2 acc ds) (F0 : FrD P DF σ0 ρ0 G2 H2) (rx : Rp P.K G2 x d) (h : oneF C elt tg t ρ0 d k)
    (hv : ∀ i ∈ tgs tg, i ∈ vs) (hz : acc.length < sizeLine)
    (q1 : ∀ G3 H3 y dy, k [dy] → Sub G2 G3 → Grown P DF σ ρ G1 H1 D G3 (upd H3 D (.lst (acc ++ [y]))) (acc ++ [y]) (ds ++ [dy]) → Nx (upd H3 D (.lst (acc ++ [y]))))
    (q0 : ∀ G3 H3, k [] → Sub G2 G3 → Grown P DF σ ρ G1 H1 D G3 H3 acc ds → Nx H3) :
    gT P.K tg x σ0 H2 fun σ2 H2 => L2.wipe σ2 vs = w ∧ tT P C WF t σ2 H2 fun b H3 => if b = true then tV P C WF elt σ2 H3 fun y H4 => ∃ acc, H4 D = some (.lst acc) ∧ acc.length < sizeLine ∧ Nx (upd H4 D (.lst (acc ++ [y]))) else Nx H3 := by
  refine gT_ok tg F0 rx h fun σ3 ρ3 hev F3 so ol => ⟨(so.more hv).wipe_eq.trans hw, DF, G2, ρ3, _, noE, F3, hev, fun b H4 G4 hb F4 g4 => ?_, KX.noE⟩
  cases b with
  | true =>
    rw [if_pos rfl] at hb ⊢
    refine ⟨DF, G4, ρ3, _, noE, F4, hb, fun y H5 G5 dy hy F5 g5 ry => ?_, KX.noE⟩
    have gg := g.on nd.2 (g4.trans g5) F5
    exact ⟨acc, gg.at_, hz, q1 _ _ y dy hy (g4.sub.trans g5.sub) (gg.push n nd no ry)⟩
  | false =>
    rw [if_neg (by decide)] at hb ⊢
    exact q0 _ _ hb g4.sub (g.on nd.2 g4 F4)
theorem lc_ok {it : CI} {elt t : CE} {tg : Tg} {vs : List Nat} (hvs : vs = tgs tg) (σ : L2.St) (H : Hp) (Q : VK) (h : tF P C W (.comp elt tg it t) σ H Q) :
    tLc (tI P C W true it) (gT P.K tg) (tT P C WF t) (tV P C WF elt) vs σ H Q := by
  subst hvs
  obtain ⟨DF, G, ρ, p, e, F, ev, k, kx⟩ := h
  rw [evE] at ev
  refine ⟨DF, G, ρ, _, e, F, ev, fun J H1 G1 as hp F1 g1 it D hD => ?_, kx⟩
  have hp : cmpF (oneF C elt tg t (wipeE ρ (tgs tg))) as (fun ds => p (.list ds)) := hp
  refine ⟨fun i m H2 => m = as.length - i ∧ i ≤ as.length ∧ ∃ G2 acc ds, Grown P DF σ ρ G1 H1 D G2 H2 acc ds ∧ acc.length ≤ i ∧ cmpF (oneF C elt tg t (wipeE ρ (tgs tg))) (as.drop i) (fun r => p (.list (ds ++ r))),
    ⟨as.length, rfl, Nat.zero_le _, G1, [], [], Grown.start F1 hD, Nat.le_refl _, hp⟩, ?_⟩
  rintro i m H2 ⟨rfl, hi, G2, acc, ds, gr, hl, hc⟩
  have it2 := it.grow gr.g
  by_cases hlt : i < as.length
  · refine .inr ⟨it2.go gr.F.sub hlt, fun H3 => ∃ G3 acc ds, Grown P DF σ ρ G1 H1 D G3 H3 acc ds ∧ acc.length ≤ i + 1 ∧ cmpF (oneF C elt tg t (wipeE ρ (tgs tg))) (as.drop (i + 1)) (fun r => p (.list (ds ++ r))),
      fun H3 h3 => ⟨as.length - (i + 1), by omega, rfl, hlt, h3⟩, fun x H3 hy => ?_⟩
    obtain ⟨rfl, d, hd, rx⟩ := it2.yld gr.F.sub hlt hy
    rw [drop_get hd, cmpF_cons] at hc
    have hz := it.len
    exact one_ok (vs := tgs tg) (w := L2.wipe σ (tgs tg)) (Same.wiped σ (tgs tg)).wipe_eq (Nx := fun H3 => ∃ G3 acc ds, Grown P DF σ ρ G1 H1 D G3 H3 acc ds ∧ acc.length ≤ i + 1 ∧ cmpF (oneF C elt tg t (wipeE ρ (tgs tg))) (as.drop (i + 1)) (fun r => p (.list (ds ++ r)))) hD (F1.h0 (.of hD)) (F1.notOwn (.of hD)) gr (gr.F.wipe (tgs tg)) rx hc (fun _ m => m) (by omega)
      (fun G3 H3 y dy hk _ gn => ⟨G3, _, _, gn, by rw [List.length_append, List.length_singleton]; omega, by simpa using hk⟩)
      (fun G3 H3 hk _ gn => ⟨G3, _, _, gn, by omega, by simpa using hk⟩)
  · obtain rfl : i = as.length := by omega
    rw [List.drop_length, cmpF_nil, List.append_nil] at hc
    exact .inl ⟨it2.stop gr.F.sub, k D acc H2 G2 ds hc gr.F (g1.trans gr.g) (g1.live D (.of hD)) gr.nG gr.at_ gr.rs⟩
/-- a clause over a clause: the first one's turn -/
def twoF (C : Orc) (elt : CE) (tg : Tg) (t : CE) (tg1 : Tg) (it1 : CI) (t1 : CE) (ρ : Env) (n : Nat) (a : PyData) (k : List PyData → Prop) : Prop :=
  setTg tg a ρ fun ρ1 => evE C t ρ1 (fun c => asB c fun c => if c = true then evI C it1 ρ1 (fun as1 => n + as1.length ≤ LIM ∧ cmpF (oneF C elt tg1 t1 (wipeE ρ1 (tgs tg1))) as1 k) noE else k []) noE
theorem cmpN_nil {F : Nat → PyData → (List PyData → Prop) → Prop} {n : Nat} {p : List PyData → Prop} : cmpN F n [] p = p [] := rfl
theorem cmpN_cons {F : Nat → PyData → (List PyData → Prop) → Prop} {n : Nat} {a : PyData} {as : List PyData} {p : List PyData → Prop} : cmpN F n (a :: as) p = F n a fun r => cmpN F (n + r.length) as fun ds => p (r ++ ds) := rfl
theorem lc2_ok {it it1 : CI} {elt t t1 : CE} {tg tg1 : Tg} {vs vs1 : List Nat} (hvs : vs = tgs tg ++ tgs tg1) (hvs1 : vs1 = tgs tg1) (σ : L2.St) (H : Hp) (Q : VK) (h : tF P C W (.comp2 elt tg it t tg1 it1 t1) σ H Q) :
    tLc2 (tI P C W true it) (gT P.K tg) (tT P C WF t) (tI P C WF false it1) (gT P.K tg1) (tT P C WF t1) (tV P C WF elt) vs vs1 σ H Q := by
  subst hvs hvs1
  obtain ⟨DF, G, ρ, p, e, F, ev, k, kx⟩ := h
  rw [evE] at ev
  refine ⟨DF, G, ρ, _, e, F, ev, fun J H1 G1 as hp F1 g1 it D hD => ?_, kx⟩
  generalize hρ : wipeE ρ (tgs tg ++ tgs tg1) = ρw at hp
  generalize hσ : L2.wipe σ (tgs tg ++ tgs tg1) = σw
  have hp : cmpN (twoF C elt tg t tg1 it1 t1 ρw) 0 as (fun ds => p (.list ds)) := hp
  have hll := line_lim
  have nd := F1.h0 (.of hD)
  have no := F1.notOwn (.of hD)
  refine ⟨fun i m H2 => m = as.length - i ∧ i ≤ as.length ∧ ∃ G2 acc ds, Grown P DF σ ρ G1 H1 D G2 H2 acc ds ∧ ds.length ≤ LIM ∧ cmpN (twoF C elt tg t tg1 it1 t1 ρw) ds.length (as.drop i) (fun r => p (.list (ds ++ r))),
    ⟨as.length, rfl, Nat.zero_le _, G1, [], [], Grown.start F1 hD, Nat.zero_le _, hp⟩, ?_⟩
  rintro i m H2 ⟨rfl, hi, G2, acc, ds, gr, hl, hc⟩
  have it2 := it.grow gr.g
  by_cases hlt : i < as.length
  · refine .inr ⟨it2.go gr.F.sub hlt, fun H3 => ∃ G3 acc ds, Grown P DF σ ρ G1 H1 D G3 H3 acc ds ∧ ds.length ≤ LIM ∧ cmpN (twoF C elt tg t tg1 it1 t1 ρw) ds.length (as.drop (i + 1)) (fun r => p (.list (ds ++ r))),
      fun H3 h3 => ⟨as.length - (i + 1), by omega, rfl, hlt, h3⟩, fun x H3 hy => ?_⟩
    obtain ⟨rfl, d, hd, rx⟩ := it2.yld gr.F.sub hlt hy
    rw [drop_get hd, cmpN_cons] at hc
    have Fw : FrD P DF σw ρw G2 H3 := by rw [← hσ, ← hρ]; exact gr.F.wipe _
    have olw : OwnLe σ ρ σw ρw := by rw [← hσ, ← hρ]; exact OwnLe.wipe gr.F.len _
    refine gT_ok tg Fw rx hc fun σ3 ρ3 hev F3 so ol => ⟨?_, DF, G2, ρ3, _, noE, F3, hev, fun b H4 G4 hb F4 g4 => ?_, KX.noE⟩
    · rw [← hσ] at so ⊢
      exact (so.more fun i m => List.mem_append_left _ m).wipe_eq.trans ((Same.wiped σ _).wipe_eq)
    cases b with
    | false =>
      rw [if_neg (by decide)] at hb ⊢
      refine ⟨G4, acc, ds, gr.on nd.2 g4 F4, hl, ?_⟩
      have hb : cmpN (twoF C elt tg t tg1 it1 t1 ρw) (ds.length + 0) (as.drop (i + 1)) (fun ds' => p (.list (ds ++ ([] ++ ds')))) := hb
      exact hb
    | true =>
      rw [if_pos rfl] at hb ⊢
      refine ⟨DF, G4, ρ3, _, noE, F4, hb, fun J1 H5 G5 as1 ⟨hn, hp1⟩ F5 g5 itd => ?_, KX.noE⟩
      have gr5 := (gr.on nd.2 (g4.trans g5) F5).as F5
      have no3 : ∀ (i : Nat) d, ρ3[i]? = some (.own d) → σ3[i]? ≠ some (some (.ref D)) := fun i d e => by
        obtain ⟨e1, e2⟩ := (olw.trans ol) i d e
        rw [e2]; exact no i d e1
      refine ⟨fun j k H6 => k = as1.length - j ∧ j ≤ as1.length ∧ ∃ G6 acc6 r, Grown P DF σ3 ρ3 G1 H1 D G6 H6 acc6 (ds ++ r) ∧ Sub G5 G6 ∧ r.length ≤ j ∧
        cmpF (oneF C elt tg1 t1 (wipeE ρ3 (tgs tg1))) (as1.drop j) (fun r' => cmpN (twoF C elt tg t tg1 it1 t1 ρw) (ds.length + (r ++ r').length) (as.drop (i + 1)) fun ds' => p (.list (ds ++ ((r ++ r') ++ ds')))),
        ⟨as1.length, rfl, Nat.zero_le _, G5, acc, [], by rw [List.append_nil]; exact gr5, Sub.refl _, Nat.le_refl _, hp1⟩, ?_⟩
      rintro j k6 H6 ⟨rfl, hj, G6, acc6, r, gr6, s6, hr, hc6⟩
      have it6 : ItD false P.K DF G6 H6 J1 as1 := itd.sub s6
      by_cases hjl : j < as1.length
      · refine .inr ⟨it6.go gr6.F.sub hjl, fun H7 => ∃ G7 acc7 r, Grown P DF σ3 ρ3 G1 H1 D G7 H7 acc7 (ds ++ r) ∧ Sub G5 G7 ∧ r.length ≤ j + 1 ∧
            cmpF (oneF C elt tg1 t1 (wipeE ρ3 (tgs tg1))) (as1.drop (j + 1)) (fun r' => cmpN (twoF C elt tg t tg1 it1 t1 ρw) (ds.length + (r ++ r').length) (as.drop (i + 1)) fun ds' => p (.list (ds ++ ((r ++ r') ++ ds')))),
          fun H7 h7 => ⟨as1.length - (j + 1), by omega, rfl, hjl, h7⟩, fun x1 H7 hy1 => ?_⟩
        obtain ⟨rfl, d1, hd1, rx1⟩ := it6.yld gr6.F.sub hjl hy1
        rw [drop_get hd1, cmpF_cons] at hc6
        have hz : acc6.length < sizeLine := by
          have := gr6.rs.length
          rw [List.length_append] at this
          omega
        refine one_ok (vs := tgs tg1) (w := L2.wipe σ3 (tgs tg1)) (Same.wiped σ3 (tgs tg1)).wipe_eq (Nx := fun H7 => ∃ G7 acc7 r, Grown P DF σ3 ρ3 G1 H1 D G7 H7 acc7 (ds ++ r) ∧ Sub G5 G7 ∧ r.length ≤ j + 1 ∧
            cmpF (oneF C elt tg1 t1 (wipeE ρ3 (tgs tg1))) (as1.drop (j + 1)) (fun r' => cmpN (twoF C elt tg t tg1 it1 t1 ρw) (ds.length + (r ++ r').length) (as.drop (i + 1)) fun ds' => p (.list (ds ++ ((r ++ r') ++ ds')))))
          hD nd no3 gr6 (gr6.F.wipe (tgs tg1)) rx1 hc6 (fun _ m => m) hz (fun G8 H8 y dy hk s8 gn => ⟨G8, _, r ++ [dy], by rw [← List.append_assoc]; exact gn, s6.trans s8, ?_, ?_⟩) (fun G8 H8 hk s8 gn => ⟨G8, _, r, gn, s6.trans s8, by omega, ?_⟩)
        · rw [List.length_append, List.length_singleton]; omega
        · have hk : cmpF (oneF C elt tg1 t1 (wipeE ρ3 (tgs tg1))) (as1.drop (j + 1)) (fun r' => cmpN (twoF C elt tg t tg1 it1 t1 ρw) (ds.length + (r ++ ([dy] ++ r')).length) (as.drop (i + 1)) fun ds' => p (.list (ds ++ ((r ++ ([dy] ++ r')) ++ ds')))) := hk
          simpa only [List.append_assoc] using hk
        · exact hk
      · obtain rfl : j = as1.length := by omega
        rw [List.drop_length, cmpF_nil, List.append_nil] at hc6
        refine .inl ⟨it6.stop gr6.F.sub, G6, acc6, ds ++ r, gr6.to F1, by rw [List.length_append]; omega, ?_⟩
        rw [List.length_append]
        simpa only [List.append_assoc] using hc6
  · obtain rfl : i = as.length := by omega
    rw [List.drop_length, cmpN_nil, List.append_nil] at hc
    exact .inl ⟨it2.stop gr.F.sub, k D acc H2 G2 ds hc gr.F (g1.trans gr.g) (g1.live D (.of hD)) gr.nG gr.at_ gr.rs⟩
end
end Pv
set_option Elab.async false
set_option linter.all false
set_option maxRecDepth 100000
set_option maxHeartbeats 4000000
/-! Core 10: every expression means what its compact text says. Own work. -/
set_option autoImplicit false
namespace Pv
open PySem PySem.Spec L2

section
variable {P : Px} {C : Orc} {fns : List Str} {cs : List (Str × PyData)} {N : List Str} {X : Cx} {S : Scope} {W : WX}
/-! ### one step each -/
theorem e_cst (hX : Cxf P C fns cs N X S W) {d : PyData} {e : Expr} (h : mCst d e = true) : PE X e (tV P C W (.cst d)) := by
  obtain ⟨c, k, p, rfl, hc⟩ := mCst_inv h
  rcases cstB_inv hc with ⟨rfl, rfl⟩ | ⟨b, rfl, rfl⟩ | ⟨b, rfl, rfl⟩ | ⟨b, rfl, rfl⟩
  · exact PE.mono pe_non fun σ H Q ⟨DF, G, ρ, p, e, F, ev, k, kx⟩ => KV.here k F ev .non
  · exact PE.mono pe_bl fun σ H Q ⟨DF, G, ρ, p, e, F, ev, k, kx⟩ => KV.here k F ev (.bl b)
  · exact PE.mono pe_int fun σ H Q ⟨DF, G, ρ, p, e, F, ev, k, kx⟩ => KV.here k F ev (.int b)
  · exact PE.mono pe_str fun σ H Q ⟨DF, G, ρ, p, e, F, ev, k, kx⟩ => KV.here k F ev (.str b)
theorem slotV_inv {o : Option Slot} {p : PyData → Prop} (h : slotV o p) : ∃ d, o = some (.v d) ∧ p d := by
  unfold slotV at h
  split at h
  · exact ⟨_, rfl, h⟩
  · exact h.elim
theorem slotO_inv {o : Option Slot} {p : PyData → Prop} (h : slotO o p) : ∃ d, o = some (.own d) ∧ p d := by
  unfold slotO at h
  split at h
  · exact ⟨_, rfl, h⟩
  · exact h.elim
theorem slotS_inv {o : Option Slot} {p : Slot → Prop} (h : slotS o p) : o = some .st ∧ p .st := by
  unfold slotS at h
  split at h
  · exact ⟨rfl, h⟩
  · exact h.elim
theorem e_var (hX : Cxf P C fns cs N X S W) {i : Nat} {e : Expr} (h : mNm N S i e = true) : PE X e (tVar i) := by
  obtain ⟨x, p, rfl, hx⟩ := mNm_inv h
  obtain ⟨h1, h2, h3, h4⟩ := nmB_inv hx
  rw [← hX.o.hN] at h1
  rw [← hX.o.sc] at h2
  exact pe_var h1 h2 h3 h4
theorem e_nm (hX : Cxf P C fns cs N X S W) {i : Nat} {e : Expr} (h : mNm N S i e = true) : PE X e (tV P C W (.nm i)) :=
  PE.mono (e_var hX h) fun σ H Q ⟨DF, G, ρ, p, e, F, ev, k, kx⟩ => by
    rw [evE] at ev
    obtain ⟨d, h1, h2⟩ := slotV_inv ev
    obtain ⟨v, h3, h4⟩ := F.slots i _ h1
    exact ⟨v, h3, KV.here k F h2 h4⟩
theorem e_bo (hX : Cxf P C fns cs N X S W) {c : CE} {e : Expr} (h : boB N S c e = true) : PE X e (tB P C W c) := by
  cases c with
  | bo i =>
    refine PE.mono (e_var hX (show mNm N S i e = true from h)) fun σ H Q ⟨DF, G, ρ, p, e, F, ev, k, kx⟩ => ?_
    rw [evE] at ev
    obtain ⟨d, h1, h2⟩ := slotO_inv ev
    obtain ⟨p, h3, h4, h5, h6, h7⟩ := F.slots i _ h1
    exact ⟨.ref p, h3, k _ H G d h2 F (Gr.refl _ _ _ _) (.inr ⟨p, rfl, h6, h7⟩)⟩
  | _ => cases h
theorem e_gl (hX : Cxf P C fns cs N X S W) {k : Nat} {x : Str} {d : PyData} {e : Expr} (h : mGl cs S k x d e = true) : PE X e (tV P C W (.gl k x d)) := by
  obtain ⟨p, rfl, h1, h2⟩ := mGl_inv h
  obtain ⟨g1, g2⟩ := hX.glo h1
  obtain ⟨v, u, m, r, rp⟩ := hX.o.gl k x d h2
  exact PE.mono (pe_glob g1 m r g2) fun σ H Q ⟨DF, G, ρ, p, e, F, ev, k, kx⟩ => KV.here k F ev (rp.mono fun _ _ z => by cases z)
theorem e_neg {a : CE} {x : Expr} {p : Pos} (h : PE X x (tV P C W a)) : PE X (.UnaryOp .USub x p) (tV P C W (.neg a)) :=
  PE.mono (pe_un un_neg h) fun σ H Q ⟨DF, G, ρ, p, e, F, ev, k, kx⟩ => ⟨DF, G, ρ, _, e, F, ev, fun v H' G' d hd F' g r => (by
    replace hd := asI_inv hd; obtain ⟨i, rfl, hd⟩ := hd
    cases r
    exact ⟨i, rfl, k _ _ _ _ hd F' g (.int _)⟩), kx⟩
theorem tOp_of {g : PyData → PyData → (PyData → Prop) → Prop} {a b : CE} {σ : L2.St} {H : Hp} {Q : VK} {DF : DFt} {G : Hp} {ρ : Env} {p : PyData → Prop} {e : Ex → Prop} (F : FrD P DF σ ρ G H) (ev : evE C a ρ (fun x => evE C b ρ (fun y => g x y p) e) e)
    (k : KV P DF σ ρ G H p Q) (kx : KX P W DF σ ρ G H e) : tOp (rO P g) (tB P C W a) (tB P C W b) σ H Q :=
  ⟨DF, G, ρ, _, e, F, ev, fun v H1 G1 d hd F1 g1 r1 => ⟨DF, G1, ρ, _, e, F1, hd, fun u H2 G2 d2 hd2 F2 g2 r2 => ⟨DF, G2, σ, ρ, p, d, d2, F2, r1.keep g2, r2, hd2, k.step (g1.trans g2)⟩, kx.step g1⟩, kx⟩
theorem e_bin (hX : Cxf P C fns cs N X S W) {o : Op2} {a b : CE} {x y : Expr} {p : Pos} (ha : PE X x (tB P C W a)) (hb : PE X y (tB P C W b)) : PE X (.BinOp x (op2O o) y p) (tV P C W (.bin o a b)) :=
  PE.mono (pe_op (op2_ok hX.o o) ha hb) fun σ H Q ⟨DF, G, ρ, p, e, F, ev, k, kx⟩ => tOp_of (p := p) F ev k kx
theorem e_cmp (hX : Cxf P C fns cs N X S W) {o : Cmp} {a b : CE} {x y : Expr} {p : Pos} (ha : PE X x (tB P C W a)) (hb : PE X y (tB P C W b)) (hy : fineX y = true) : PE X (.Compare x [cmpO o] [y] p) (tV P C W (.cmp o a b)) :=
  PE.mono (pe_cmpR (cmp_ok hX.o o) ha hb (nomarks hy)) fun σ H Q ⟨DF, G, ρ, p, e, F, ev, k, kx⟩ => tOp_of (p := p) F ev k kx
theorem e_cmpT (hX : Cxf P C fns cs N X S W) {o : Cmp} {a b : CE} {x y : Expr} {p : Pos} (ha : PE X x (tB P C W a)) (hb : PE X y (tB P C W b)) (hy : fineX y = true) : PT X (.Compare x [cmpO o] [y] p) (tT P C W (.cmp o a b)) :=
  PT.mono (pt_cmpR (cmp_ok hX.o o) ha hb (nomarks hy)) fun σ H Q ⟨DF, G, ρ, p, e, F, ev, k, kx⟩ => tOp_of (g := cmpB o) (p := fun d => asB d p) F ev (fun v H' G' d hd F' g r => by
    replace hd := asB_inv hd; obtain ⟨b, rfl, hd⟩ := hd
    cases r
    exact ⟨b, rfl, k _ _ _ hd F' g⟩) kx
/-- a value's test -/
theorem t_of {c : CE} {e : Expr} (h : PE X e (tV P C W c)) (he : ∀ whole, isTrue e X.env whole = (do let v ← whole; standAt e.pos; holding [v] (truthy v))) : PT X e (tT P C W c) :=
  PT.mono (pt_val h he) fun σ H Q ⟨DF, G, ρ, p, e, F, ev, k, kx⟩ => ⟨DF, G, ρ, _, e, F, ev, fun v H' G' d hd F' g r => (by
    replace hd := asB_inv hd; obtain ⟨b, rfl, hd⟩ := hd
    cases r
    exact ⟨b, rfl, k _ _ _ hd F' g⟩), kx⟩
theorem tChain_of {o o' : Cmp} {a b c : CE} {σ : L2.St} {H : Hp} {Q : VK} {DF : DFt} {G : Hp} {ρ : Env} {p : PyData → Prop} {e : Ex → Prop} (F : FrD P DF σ ρ G H) (ev : evE C (.chn o o' a b c) ρ p e)
    (k : KV P DF σ ρ G H p Q) (kx : KX P W DF σ ρ G H e) : tChain (rO P (cmpB o)) (rO P (cmpB o')) (tV P C W a) (tV P C W b) (tV P C W c) σ H Q := by
  rw [evE] at ev
  refine ⟨DF, G, ρ, _, e, F, ev, fun v H1 G1 d hd F1 g1 r1 => ⟨DF, G1, ρ, _, e, F1, hd, fun u H2 G2 d2 hd2 F2 g2 r2 => ?_, kx.step g1⟩, kx⟩
  refine ⟨DF, G2, σ, ρ, fun z => asB z fun z => if z = true then evE C c ρ (fun w => cmpD o' d2 w fun c => p (.bool c)) e else p (.bool false), d, d2, F2, .inl (r1.mono g2.sub), .inl r2, hd2, fun z H3 G3 d3 hd3 F3 g3 r3 => ?_⟩
  replace hd3 := asB_inv hd3; obtain ⟨q, rfl, hd3⟩ := hd3
  cases r3
  refine ⟨q, rfl, ?_⟩
  cases q with
  | true =>
    rw [if_pos rfl] at hd3 ⊢
    exact ⟨DF, G3, ρ, _, e, F3, hd3, fun w H4 G4 d4 hd4 F4 g4 r4 => ⟨DF, G4, σ, ρ, p, d2, d4, F4, .inl (r2.mono (g3.sub.trans g4.sub)), .inl r4, hd4, k.step (g1.trans (g2.trans (g3.trans g4)))⟩, kx.step (g1.trans (g2.trans g3))⟩
  | false =>
    rw [if_neg (by decide)] at hd3 ⊢
    exact (k.step (g1.trans (g2.trans g3))).here F3 hd3 (.bl false)
theorem lastm {o o' : CmpOp} {y z : Expr} (h : fineX z = true) : lastMarks [o, o'] [y, z] = false := by
  show behindInMarks o' z = false
  exact nomarks h
theorem e_chn (hX : Cxf P C fns cs N X S W) {o o' : Cmp} {a b c : CE} {x y z : Expr} {p : Pos} (ha : PE X x (tV P C W a)) (hb : PE X y (tV P C W b)) (hc : PE X z (tV P C W c)) (hz : fineX z = true) : PE X (.Compare x [cmpO o, cmpO o'] [y, z] p) (tV P C W (.chn o o' a b c)) :=
  PE.mono (pe_chain (cmp_ok hX.o o) (cmp_ok hX.o o') ha hb hc (lastm hz)) fun σ H Q ⟨DF, G, ρ, p, e, F, ev, k, kx⟩ => tChain_of F ev k kx
theorem e_chnT (hX : Cxf P C fns cs N X S W) {o o' : Cmp} {a b c : CE} {x y z : Expr} {p : Pos} (ha : PE X x (tV P C W a)) (hb : PE X y (tV P C W b)) (hc : PE X z (tV P C W c)) (hz : fineX z = true) : PT X (.Compare x [cmpO o, cmpO o'] [y, z] p) (tT P C W (.chn o o' a b c)) :=
  PT.mono (pt_chain (cmp_ok hX.o o) (cmp_ok hX.o o') ha hb hc (lastm hz)) fun σ H Q ⟨DF, G, ρ, p, e, F, ev, k, kx⟩ => tChain_of (p := fun d => asB d p) F ev (fun v H' G' d hd F' g r => by
    replace hd := asB_inv hd; obtain ⟨b, rfl, hd⟩ := hd
    cases r
    exact ⟨b, rfl, k _ _ _ hd F' g⟩) kx
theorem e_and {a b : CE} {x : Expr} {xs : List Expr} {p : Pos} (ha : PE X x (tV P C W a)) (hb : ∀ y, mtE fns cs N S b y = true → PE X y (tV P C W b)) (h : mRest .And p (mtE fns cs N S b) xs = true) : PE X (.BoolOp .And (x :: xs) p) (tV P C W (.and a b)) := by
  have key : ∀ y r, PE X (.BoolOp .And (y :: r) p) (tV P C W b) → PE X (.BoolOp .And (x :: y :: r) p) (tV P C W (.and a b)) := fun y r hb =>
    PE.mono (pe_and ha hb) fun σ H Q ⟨DF, G, ρ, p, e, F, ev, k, kx⟩ => ⟨DF, G, ρ, _, e, F, ev, fun v H' G' d hd F' g r => (by
      replace hd := asB_inv hd; obtain ⟨c, rfl, hd⟩ := hd
      cases r
      refine ⟨c, rfl, ?_⟩
      cases c with
      | true => rw [if_pos rfl] at hd ⊢; exact ⟨DF, G', ρ, p, e, F', hd, KV.step k g, KX.step kx g⟩
      | false => rw [if_neg (by decide)] at hd ⊢; exact (KV.step k g).here F' hd (.bl _)), kx⟩
  unfold mRest at h
  split at h
  · exact key _ _ (pe_one (hb _ h))
  · exact key _ _ (hb _ h)
  · cases h
theorem e_or {a b : CE} {x : Expr} {xs : List Expr} {p : Pos} (ha : PE X x (tV P C W a)) (hb : ∀ y, mtE fns cs N S b y = true → PE X y (tV P C W b)) (h : mRest .Or p (mtE fns cs N S b) xs = true) : PE X (.BoolOp .Or (x :: xs) p) (tV P C W (.or a b)) := by
  have key : ∀ y r, PE X (.BoolOp .Or (y :: r) p) (tV P C W b) → PE X (.BoolOp .Or (x :: y :: r) p) (tV P C W (.or a b)) := fun y r hb =>
    PE.mono (pe_or ha hb) fun σ H Q ⟨DF, G, ρ, p, e, F, ev, k, kx⟩ => ⟨DF, G, ρ, _, e, F, ev, fun v H' G' d hd F' g r => (by
      replace hd := asB_inv hd; obtain ⟨c, rfl, hd⟩ := hd
      cases r
      refine ⟨c, rfl, ?_⟩
      cases c with
      | false => rw [if_neg (by decide)] at hd ⊢; exact ⟨DF, G', ρ, p, e, F', hd, KV.step k g, KX.step kx g⟩
      | true => rw [if_pos rfl] at hd ⊢; exact (KV.step k g).here F' hd (.bl _)), kx⟩
  unfold mRest at h
  split at h
  · exact key _ _ (pe_one (hb _ h))
  · exact key _ _ (hb _ h)
  · cases h
theorem PW.mono {e : Expr} {t t' : TT} (h : PW X e t) (m : ∀ σ H Q, t' σ H Q → t σ H Q) : PW X e t' := ⟨fun wh pins s σ H Q I q => h.run wh pins s σ H Q I (m σ H Q q)⟩
theorem e_andT {a b : CE} {x : Expr} {xs : List Expr} {p : Pos} (ha : PT X x (tT P C W a)) (hb : ∀ y, mtE fns cs N S b y = true → PT X y (tT P C W b) ∧ ∀ ys q, y = .BoolOp .And ys q → PW X y (tT P C W b)) (h : mRest .And p (mtE fns cs N S b) xs = true) : PW X (.BoolOp .And (x :: xs) p) (tT P C W (.and a b)) := by
  have key : ∀ y r, PW X (.BoolOp .And (y :: r) p) (tT P C W b) → PW X (.BoolOp .And (x :: y :: r) p) (tT P C W (.and a b)) := fun y r hb =>
    PW.mono (pw_and ha hb) fun σ H Q ⟨DF, G, ρ, p, e, F, ev, k, kx⟩ => by
      rw [evE] at ev
      refine ⟨DF, G, ρ, _, e, F, ev, fun c H' G' hd F' g => ?_, kx⟩
      cases c with
      | true => rw [if_pos rfl] at hd ⊢; exact ⟨DF, G', ρ, p, e, F', hd, fun b H2 G2 h2 F2 g2 => k b H2 G2 h2 F2 (g.trans g2), KX.step kx g⟩
      | false => rw [if_neg (by decide)] at hd ⊢; exact k _ _ _ hd F' g
  unfold mRest at h
  split at h
  · exact key _ _ (pw_and1 (hb _ h).1)
  · exact key _ _ ((hb _ h).2 _ _ rfl)
  · cases h
theorem e_orT {a b : CE} {x : Expr} {xs : List Expr} {p : Pos} (ha : PT X x (tT P C W a)) (hb : ∀ y, mtE fns cs N S b y = true → PT X y (tT P C W b) ∧ ∀ ys q, y = .BoolOp .Or ys q → PW X y (tT P C W b)) (h : mRest .Or p (mtE fns cs N S b) xs = true) : PW X (.BoolOp .Or (x :: xs) p) (tT P C W (.or a b)) := by
  have key : ∀ y r, PW X (.BoolOp .Or (y :: r) p) (tT P C W b) → PW X (.BoolOp .Or (x :: y :: r) p) (tT P C W (.or a b)) := fun y r hb =>
    PW.mono (pw_or ha hb) fun σ H Q ⟨DF, G, ρ, p, e, F, ev, k, kx⟩ => by
      rw [evE] at ev
      refine ⟨DF, G, ρ, _, e, F, ev, fun c H' G' hd F' g => ?_, kx⟩
      cases c with
      | false => rw [if_neg (by decide)] at hd ⊢; exact ⟨DF, G', ρ, p, e, F', hd, fun b H2 G2 h2 F2 g2 => k b H2 G2 h2 F2 (g.trans g2), KX.step kx g⟩
      | true => rw [if_pos rfl] at hd ⊢; exact k _ _ _ hd F' g
  unfold mRest at h
  split at h
  · exact key _ _ (pw_or1 (hb _ h).1)
  · exact key _ _ ((hb _ h).2 _ _ rfl)
  · cases h
theorem e_not {a : CE} {x : Expr} {p : Pos} (ha : PE X x (tV P C W a)) : PE X (.UnaryOp .Not x p) (tV P C W (.not a)) :=
  PE.mono (pe_not ha) fun σ H Q ⟨DF, G, ρ, p, e, F, ev, k, kx⟩ => ⟨DF, G, ρ, _, e, F, ev, fun v H' G' d hd F' g r => (by
    replace hd := asB_inv hd; obtain ⟨c, rfl, hd⟩ := hd
    cases r
    exact ⟨c, rfl, (KV.step k g).here F' hd (.bl _)⟩), kx⟩
theorem e_notT {a : CE} {x : Expr} {p : Pos} (ha : PT X x (tT P C W a)) : PT X (.UnaryOp .Not x p) (tT P C W (.not a)) :=
  PT.mono (pt_not ha) fun σ H Q ⟨DF, G, ρ, p, e, F, ev, k, kx⟩ => by
    rw [evE] at ev
    exact ⟨DF, G, ρ, _, e, F, ev, fun c H' G' hd F' g => k _ _ _ hd F' g, kx⟩
theorem e_ife {t a b : CE} {x y z : Expr} {p : Pos} (ht : PT X x (tT P C W t)) (ha : PE X y (tV P C W a)) (hb : PE X z (tV P C W b)) : PE X (.IfExp x y z p) (tV P C W (.ife t a b)) :=
  PE.mono (pe_ifExp ht ha hb) fun σ H Q ⟨DF, G, ρ, p, e, F, ev, k, kx⟩ => by
    rw [evE] at ev
    refine ⟨DF, G, ρ, _, e, F, ev, fun c H' G' hd F' g => ?_, kx⟩
    cases c with
    | true => rw [if_pos rfl] at hd ⊢; exact ⟨DF, G', ρ, p, e, F', hd, KV.step k g, KX.step kx g⟩
    | false => rw [if_neg (by decide)] at hd ⊢; exact ⟨DF, G', ρ, p, e, F', hd, KV.step k g, KX.step kx g⟩
theorem small_line {n : Nat} (h : n ≤ 1000) : n ≤ sizeLine := by rw [sizeLine_eq]; omega
theorem e_tup {es : CEs} {xs : List Expr} {c : Nat} {p : Pos} (hz : cesLen es ≤ 1000) (h : PA X xs (tEs P C W es)) : PE X (.Tuple xs c p) (tV P C W (.tup es)) :=
  PE.mono (pe_tup h) fun σ H Q ⟨DF, G, ρ, p, e, F, ev, k, kx⟩ => ⟨DF, G, ρ, _, e, F, ev, fun vs H' G' ds hd F' g r hl => ⟨by rw [r.length, hl]; exact small_line hz, fun a ha => (KV.step k g).newT F' hd r ha⟩, kx⟩
theorem e_lst {es : CEs} {xs : List Expr} {p : Pos} (hz : cesLen es ≤ 1000) (h : PA X xs (tEs P C W es)) : PE X (.List xs p) (tF P C W (.lst es)) :=
  PE.mono (pe_lst h) fun σ H Q ⟨DF, G, ρ, p, e, F, ev, k, kx⟩ => ⟨DF, G, ρ, _, e, F, ev, fun vs H' G' ds hd F' g r hl => ⟨by rw [r.length, hl]; exact small_line hz, fun a ha => (KF.step k g).new F' hd r ha⟩, kx⟩
theorem e_idx (hX : Cxf P C fns cs N X S W) {a i : CE} {x y : Expr} {p : Pos} (ha : PE X x (tB P C W a)) (hi : PE X y (tB P C W i)) (hy : fineX y = true) : PE X (.Subscript x y p) (tV P C W (.idx a i)) :=
  PE.mono (pe_ix (ix_ok hX.o) ha hi (plainIx hy)) fun σ H Q ⟨DF, G, ρ, p, e, F, ev, k, kx⟩ => tOp_of (g := ixD) F ev k kx
/-- a slice's part -/
def tP (P : Px) (C : Orc) (W : WX) (c : CE) : TO := fun σ H Q => ∃ DF G ρ p e, FrD P DF σ ρ G H ∧ evE C c ρ (fun l => asP (isNo c) l p) e ∧ (∀ o H' G', p o → FrD P DF σ ρ G' H' → Gr P.T DF G H G' H' → Q o H') ∧ KX P W DF σ ρ G H e
theorem PO.mono {e : Option Expr} {t t' : TO} (h : PO X e t) (m : ∀ σ H Q, t' σ H Q → t σ H Q) : PO X e t' := ⟨fun pins s σ H Q I q => h.run pins s σ H Q I (m σ H Q q)⟩
theorem isNo_inv {c : CE} (h : isNo c = true) : c = .cst .none := by
  unfold isNo at h; split at h
  · rfl
  · cases h
theorem po_ok {c : CE} {o : Option Expr} (h : mPart (isNo c) (mtE fns cs N S c) o = true) (hc : ∀ e, mtE fns cs N S c e = true → PE X e (tV P C W c)) : PO X o (tP P C W c) := by
  cases o with
  | none =>
    obtain rfl := isNo_inv (show isNo c = true from h)
    exact PO.mono po_none fun σ H Q ⟨DF, G, ρ, p, e, F, ev, k, kx⟩ => k none H G ev F (Gr.refl _ _ _ _)
  | some e =>
    obtain ⟨hn, h⟩ := both (show (!isNo c && mtE fns cs N S c e) = true from h)
    have hn : isNo c = false := by simpa using hn
    refine PO.mono (po_some (hc e h)) fun σ H Q ⟨DF, G, ρ, p, e, F, ev, k, kx⟩ => ⟨DF, G, ρ, _, e, F, ev, fun v H' G' d hd F' g r => ?_, kx⟩
    rw [hn] at hd
    cases d <;> first | exact (show False from hd).elim | skip
    cases r
    exact ⟨_, rfl, k _ _ _ hd F' g⟩
theorem e_sl (hX : Cxf P C fns cs N X S W) {a lo hi : CE} {x : Expr} {l u : Option Expr} {p q : Pos} (ha : PE X x (tB P C W a)) (hl : PO X l (tP P C W lo)) (hu : PO X u (tP P C W hi)) : PE X (.Subscript x (.Slice l u none p) q) (tV P C W (.sl a lo hi)) :=
  PE.mono (pe_slice (sl_ok hX.o) ha hl hu) fun σ H Q ⟨DF, G, ρ, p, e, F, ev, k, kx⟩ => by
    rw [evE] at ev
    exact ⟨DF, G, ρ, _, e, F, ev, fun v H1 G1 d hd F1 g1 r1 => ⟨DF, G1, ρ, _, e, F1, hd, fun lo H2 G2 h2 F2 g2 => ⟨DF, G2, ρ, _, e, F2, h2, fun hi H3 G3 h3 F3 g3 =>
      ⟨DF, G3, σ, ρ, p, d, F3, r1.keep (g2.trans g3), h3, KV.step k (g1.trans (g2.trans g3))⟩, KX.step kx (g1.trans g2)⟩, KX.step kx g1⟩, kx⟩
/-! ### argument lists -/
theorem a_nil : PA X [] (tEs P C W .nil) := PA.mono pa_nil fun σ H Q ⟨DF, G, ρ, p, e, F, ev, k, kx⟩ => k _ _ _ _ ev F (Gr.refl _ _ _ _) .nil rfl
theorem a_cons {a : CE} {es : CEs} {x : Expr} {xs : List Expr} (h : PE X x (tV P C W a)) (hs : PA X xs (tEs P C W es)) (hx : fineX x = true) : PA X (x :: xs) (tEs P C W (.cons a es)) :=
  PA.mono (pa_cons h hs (star_fine hx _ _)) fun σ H Q ⟨DF, G, ρ, p, e, F, ev, k, kx⟩ => ⟨DF, G, ρ, _, e, F, ev, fun v H1 G1 d hd F1 g1 r1 => ⟨DF, G1, ρ, _, e, F1, hd, fun vs H2 G2 ds hd2 F2 g2 rs hl =>
    k _ _ _ _ hd2 F2 (g1.trans g2) (.cons (r1.mono g2.sub) rs) (by rw [List.length_cons, hl]; rfl), KX.step kx g1⟩, kx⟩
theorem b_nil : PA X [] (tBs P C W .nil) := PA.mono pa_nil fun σ H Q ⟨DF, G, ρ, p, e, F, ev, k, kx⟩ => k _ _ _ _ ev F (Gr.refl _ _ _ _) .nil
theorem b_cons {a : CE} {es : CEs} {x : Expr} {xs : List Expr} (h : PE X x (tB P C W a)) (hs : PA X xs (tBs P C W es)) (hx : fineX x = true) : PA X (x :: xs) (tBs P C W (.cons a es)) :=
  PA.mono (pa_cons h hs (star_fine hx _ _)) fun σ H Q ⟨DF, G, ρ, p, e, F, ev, k, kx⟩ => ⟨DF, G, ρ, _, e, F, ev, fun v H1 G1 d hd F1 g1 r1 => ⟨DF, G1, ρ, _, e, F1, hd, fun vs H2 G2 ds hd2 F2 g2 rs =>
    k _ _ _ _ hd2 F2 (g1.trans g2) (.cons (r1.keep g2) rs), KX.step kx g1⟩, kx⟩
theorem r_nil : PA X [] (tAr P C W .nil) := PA.mono pa_nil fun σ H Q ⟨DF, G, ρ, p, e, F, ev, k, kx⟩ => k _ _ _ _ ev F (Gr.refl _ _ _ _) .nil
theorem RA.mono {K : PySem.W.Frag} {DF : DFt} {G G' : Hp} {v : V} {s : Slot} (r : RA K DF G v s) (h : Sub G G') : RA K DF G' v s := by
  cases s with
  | v d => exact Rp.mono h r
  | st => exact r
  | _ => exact r.elim
theorem RAs.mono {K : PySem.W.Frag} {DF : DFt} {G G' : Hp} (h : Sub G G') : ∀ {vs : List V} {ss : List Slot}, RAs K DF G vs ss → RAs K DF G' vs ss
  | _, _, .nil => .nil
  | _, _, .cons a b => .cons (a.mono h) (RAs.mono h b)
theorem r_cons {a : CE} {es : CEs} {x : Expr} {xs : List Expr} (ns : ∀ i, a ≠ .stn i) (h : PE X x (tV P C W a)) (hs : PA X xs (tAr P C W es)) (hx : fineX x = true) : PA X (x :: xs) (tAr P C W (.cons a es)) :=
  PA.mono (pa_cons h hs (star_fine hx _ _)) fun σ H Q ⟨DF, G, ρ, p, e, F, ev, k, kx⟩ => by
    have ev' : evE C a ρ (fun x => evAr C es ρ (fun xs => p (.v x :: xs)) e) e := by
      cases a <;> first | exact ev | exact absurd rfl (ns _)
    exact ⟨DF, G, ρ, _, e, F, ev', fun v H1 G1 d hd F1 g1 r1 => ⟨DF, G1, ρ, _, e, F1, hd, fun vs H2 G2 ds hd2 F2 g2 rs =>
      k _ _ _ _ hd2 F2 (g1.trans g2) (.cons (show RA P.K DF G2 v (.v d) from r1.mono g2.sub) rs), KX.step kx g1⟩, kx⟩
theorem r_cons_st (hX : Cxf P C fns cs N X S W) {i : Nat} {es : CEs} {x : Expr} {xs : List Expr} (h : mNm N S i x = true) (hs : PA X xs (tAr P C W es)) (hx : fineX x = true) : PA X (x :: xs) (tAr P C W (.cons (.stn i) es)) :=
  PA.mono (pa_cons (e_var hX h) hs (star_fine hx _ _)) fun σ H Q ⟨DF, G, ρ, p, e, F, ev, k, kx⟩ => by
    have ev' : slotS ρ[i]? fun s => evAr C es ρ (fun xs => p (s :: xs)) e := by rw [evAr] at ev; exact ev
    obtain ⟨h1, h2⟩ := slotS_inv ev'
    obtain ⟨q, h3, h4⟩ := F.slots i _ h1
    exact ⟨_, h3, DF, G, ρ, _, e, F, h2, fun vs H2 G2 ds hd2 F2 g2 rs => k _ _ _ _ hd2 F2 g2 (.cons (show RA P.K DF G2 _ .st from ⟨q, rfl, h4⟩) rs), kx⟩
/-! ### calls -/
theorem e_call (hX : Cxf P C fns cs N X S W) {f : Nat} {es : CEs} {x : Str} {p q : Pos} {y : Expr} {ys : List Expr} (hf : fns[f]? = some x) (hg : glB S x = true) (h : PA X (y :: ys) (tAr P C W es)) (fy : ∀ e ∈ y :: ys, fineX e = true) :
    PE X (.Call (.Name x p) (y :: ys) [] q) (tV P C W (.call f es)) := by
  obtain ⟨k, fa, fd, ps, hF, hr, hm, hk, hb⟩ := hX.cal f x hf
  obtain ⟨g1, g2⟩ := hX.glo hg
  refine PE.mono (pe_callS hF hr g1 hm hk hb (fun σ => passAt hX.tk σ) h g2 (star_fine (fy _ List.mem_cons_self) _ _) (noplain fun e m => fy e (List.mem_cons_of_mem _ m))) fun σ H Q ⟨DF, G, ρ, p, e, F, ev, k, kx⟩ => ?_
  rw [evE] at ev
  exact ⟨DF, G, ρ, _, e, F, ev, fun vs H1 G1 sl hs F1 g1 ra => ⟨DF, G1, sl, _, _, F1.sub, F1.dr, F1.tab, ra, hs, fun v H' G' d sl' hp g s d' r => k v H' G' d hp (F1.grow g s d') (g1.trans g) r,
    fun x H' G' sl' cls dx he g s d' ex => kx x H' G' cls dx he (F1.grow g s d') (g1.trans g) ex⟩, kx⟩
theorem p_of {q : Prim} {es : CEs} {xs : List Expr} (e : Expr) (h : PE X e (tCB (rP P q) (tBs P C W es))) : PE X e (tV P C W (.prim q es)) :=
  PE.mono h fun σ H Q ⟨DF, G, ρ, p, e, F, ev, k, kx⟩ => ⟨DF, G, ρ, _, e, F, ev, fun vs H1 G1 ds hs F1 g1 ra => ⟨DF, G1, σ, ρ, p, ds, F1, ra, hs, KV.step k g1⟩, kx⟩
theorem pF_of {q : Prim} {es : CEs} {xs : List Expr} (e : Expr) (h : PE X e (tCB (rPF P q) (tBs P C W es))) : PE X e (tF P C W (.prim q es)) :=
  PE.mono h fun σ H Q ⟨DF, G, ρ, p, e, F, ev, k, kx⟩ => ⟨DF, G, ρ, _, e, F, ev, fun vs H1 G1 ds hs F1 g1 ra => ⟨DF, G1, σ, ρ, p, ds, F1, ra, hs, KF.step k g1⟩, kx⟩
end
end Pv
set_option Elab.async false
set_option linter.all false
set_option maxRecDepth 100000
set_option maxHeartbeats 4000000
/-! Core 11: every expression means what its compact text says: the rest and the whole. Own work. -/
set_option autoImplicit false
namespace Pv
open PySem PySem.Spec L2

section
variable {P : Px} {C : Orc} {fns : List Str} {cs : List (Str × PyData)} {N : List Str} {X : Cx} {S : Scope} {W : WX}
theorem prim_sum : CallR X (.builtin "sum") (rP P .sum) := by
  intro pins s σ0 H vs us Q I r h
  obtain ⟨DF, G, σ, ρ, p, ds, F, rs, h, k⟩ := h
  exact (show False from h).elim
/-- a new list by its prim -/
def frB : CE → Bool
  | .lst _ => true
  | .comp _ _ _ _ => true
  | .comp2 _ _ _ _ _ _ _ => true
  | .rng t _ => !t
  | .prim .lst _ => true
  | .prim .srt _ => true
  | _ => false
theorem e_prim (hX : Cxf P C fns cs N X S W) {q : Prim} {es : CEs} {x : Str} {p r : Pos} {y : Expr} {ys : List Expr} (hq : primN q = x) (hg : glB S x = true) (h : PA X (y :: ys) (tBs P C W es)) (fy : ∀ e ∈ y :: ys, fineX e = true) :
    (frB (.prim q es) = false → PE X (.Call (.Name x p) (y :: ys) [] r) (tV P C W (.prim q es))) ∧ (frB (.prim q es) = true → PE X (.Call (.Name x p) (y :: ys) [] r) (tF P C W (.prim q es))) := by
  obtain ⟨g1, g2⟩ := hX.glo hg
  have s1 := fun env => star_fine (fy _ List.mem_cons_self) ys env
  have s2 := fun pos env => noplain (pos := pos) (env := env) fun e m => fy e (List.mem_cons_of_mem _ m)
  subst hq
  have fr : ∀ b ∈ (["len", "range", "min", "max", "abs", "sorted", "tuple", "list", "int", "isinstance", "set", "all", "any", "sum", "bool", "str", "dict"] : List Str), X.mg b = none := hX.o.free
  cases q with
  | len => exact ⟨fun _ => p_of (xs := []) _ (pe_callB (prim_len hX.o) g1 (fr _ (by decide)) PySem.boot_len h (by decide) g2 (s1 _) (s2 _ _)), fun z => by cases z⟩
  | mn => exact ⟨fun _ => p_of (xs := []) _ (pe_callB (prim_mn hX.o) g1 (fr _ (by decide)) PyProof.Rows.boot_min h (by decide) g2 (s1 _) (s2 _ _)), fun z => by cases z⟩
  | mx => exact ⟨fun _ => p_of (xs := []) _ (pe_callB (prim_mx hX.o) g1 (fr _ (by decide)) PyProof.Rows.boot_max h (by decide) g2 (s1 _) (s2 _ _)), fun z => by cases z⟩
  | abs => exact ⟨fun _ => p_of (xs := []) _ (pe_callB (prim_abs hX.o) g1 (fr _ (by decide)) PyProof.Rows.boot_abs h (by decide) g2 (s1 _) (s2 _ _)), fun z => by cases z⟩
  | srt => exact ⟨fun z => (by cases z), fun _ => pF_of (xs := []) _ (pe_callB (prim_srt hX.o) g1 (fr _ (by decide)) PyProof.Rows.boot_sorted h (by decide) g2 (s1 _) (s2 _ _))⟩
  | tup => exact ⟨fun _ => p_of (xs := []) _ (pe_callTy (prim_tup hX.o) g1 (fr _ (by decide)) PyProof.Rows.boot_tuple h (by decide) g2 (s1 _) (s2 _ _)), fun z => by cases z⟩
  | lst => exact ⟨fun z => (by cases z), fun _ => pF_of (xs := []) _ (pe_callTy (prim_lst hX.o) g1 (fr _ (by decide)) PyProof.Rows.boot_list h (by decide) g2 (s1 _) (s2 _ _))⟩
  | int => exact ⟨fun _ => p_of (xs := []) _ (pe_callTy (prim_int hX.o) g1 (fr _ (by decide)) PyProof.Rows.boot_int h (by decide) g2 (s1 _) (s2 _ _)), fun z => by cases z⟩
  | all => exact ⟨fun _ => p_of (xs := []) _ (pe_callB (prim_all hX.o) g1 (fr _ (by decide)) PyProof.Rows.boot_all h (by decide) g2 (s1 _) (s2 _ _)), fun z => by cases z⟩
  | any => exact ⟨fun _ => p_of (xs := []) _ (pe_callB (prim_any hX.o) g1 (fr _ (by decide)) PyProof.Rows.boot_any h (by decide) g2 (s1 _) (s2 _ _)), fun z => by cases z⟩
  | sum => exact ⟨fun _ => p_of (xs := []) _ (pe_callB (prim_sum (P := P)) g1 (fr _ (by decide)) PyProof.Rows.boot_sum h (by decide) g2 (s1 _) (s2 _ _)), fun z => by cases z⟩
theorem isa_boot : ∀ t : Nat, t ≤ 5 → bootBuiltins (isaN t) = some (.type (isaT t)) ∧ (isaN t) ∈ (["len", "range", "min", "max", "abs", "sorted", "tuple", "list", "int", "isinstance", "set", "all", "any", "sum", "bool", "str", "dict"] : List Str) ∧ isaN t ≠ "__name__"
  | 0, _ => ⟨PyProof.Rows.boot_tuple, by decide, by decide⟩
  | 1, _ => ⟨PyProof.Rows.boot_int, by decide, by decide⟩
  | 2, _ => ⟨PyProof.Rows.boot_bool, by decide, by decide⟩
  | 3, _ => ⟨PyProof.Rows.boot_str, by decide, by decide⟩
  | 4, _ => ⟨PyProof.Rows.boot_list, by decide, by decide⟩
  | 5, _ => ⟨PyProof.Rows.boot_dict, by decide, by decide⟩
theorem e_isa (hX : Cxf P C fns cs N X S W) {t : Nat} {a : CE} {y : Expr} {p q r : Pos} (ht : t ≤ 5) (hg : glB S "isinstance" = true) (hg2 : glB S (isaN t) = true) (h : PE X y (tV P C W a)) (fy : fineX y = true) :
    PE X (.Call (.Name "isinstance" p) [y, .Name (isaN t) q] [] r) (tV P C W (.isa t a)) := by
  obtain ⟨b1, b2, b3⟩ := isa_boot t ht
  obtain ⟨g1, g2⟩ := hX.glo hg
  obtain ⟨g3, g4⟩ := hX.glo hg2
  have pa := pa_cons h (pa_cons (pe_bltn (pos := q) (v := .ty (isaT t)) g3 (hX.o.free _ b2) b1 rfl b3 g4) pa_nil) (star_fine fy _ _)
  refine PE.mono (pe_callB (isa_ok hX.o t ht) g1 (hX.o.free _ (by decide)) PyProof.Rows.boot_isinstance pa (by decide) (by decide) (star_fine fy _ _) rfl) fun σ H Q ⟨DF, G, ρ, p, e, F, ev, k, kx⟩ => ?_
  rw [evE] at ev
  exact ⟨DF, G, ρ, _, e, F, ev, fun v H1 G1 d hd F1 g1 r1 => ⟨DF, G1, σ, ρ, p, d, v, F1, .inl r1, rfl, hd, KV.step k g1⟩, kx⟩
theorem e_lenset (hX : Cxf P C fns cs N X S W) {a : CE} {z : Expr} {p q r t : Pos} (hg : glB S "len" = true) (hg2 : glB S "set" = true) (h : PE X z (tB P C W a)) (fz : fineX z = true) :
    PE X (.Call (.Name "len" p) [.Call (.Name "set" q) [z] [] r] [] t) (tV P C W (.lenset a)) := by
  refine PE.mono (pe_lenset hX.o (hX.glo hg).1 (hX.glo hg2).1 h (star_fine fz _ _)) fun σ H Q ⟨DF, G, ρ, p, e, F, ev, k, kx⟩ => ?_
  rw [evE] at ev
  refine ⟨DF, G, ρ, _, e, F, ev, fun v H1 G1 d hd F1 g1 r1 => ?_, kx⟩
  replace hd := asL_inv hd
  obtain ⟨xs, rfl, h1, h2, h3⟩ := hd
  exact ⟨DF, G1, σ, ρ, p, xs, F1, r1, h1, h2, h3, KV.step k g1⟩
theorem rg_rel {K : PySem.W.Frag} {G : Hp} (n : Int) : Rps K G (rgV 0 n) (range 0 n.toNat) := by
  have key : ∀ l : List Nat, Rps K G (l.map fun (i : Nat) => V.int (0 + (i : Int))) (l.map fun (k : Nat) => PyData.int (0 + (k : Int))) := by
    intro l
    induction l with
    | nil => exact .nil
    | cons a l ih => exact .cons (.int _) ih
  unfold rgV range
  rw [Int.sub_zero]
  exact key _
theorem rgOk_lim {n : Int} (h : -LIM ≤ n ∧ n ≤ LIM) : RgOk 0 n := by
  obtain ⟨h1, h2⟩ := h
  have : (LIM : Int) = 1000000 := rfl
  exact ⟨by omega, by omega, by omega, by omega, by omega⟩
theorem e_rngT (hX : Cxf P C fns cs N X S W) {a : CE} {z : Expr} {p q r t : Pos} (hg : glB S "tuple" = true) (hg2 : glB S "range" = true) (h : PE X z (tV P C W a)) (fz : fineX z = true) :
    PE X (.Call (.Name "tuple" p) [.Call (.Name "range" q) [z] [] r] [] t) (tV P C W (.rng true a)) := by
  refine PE.mono (pe_tupRg hX.o.calm (hX.glo hg).1 (hX.o.free _ (by decide)) (prg_1 (hX.glo hg2).1 (hX.o.free _ (by decide)) h (star_fine fz _ _))) fun σ H Q ⟨DF, G, ρ, p, e, F, ev, k, kx⟩ => ?_
  rw [evE] at ev
  refine ⟨DF, G, ρ, _, e, F, ev, fun v H1 G1 d hd F1 g1 r1 => ?_, kx⟩
  replace hd := asI_inv hd
  obtain ⟨n, rfl, h1, h2⟩ := hd
  cases r1
  exact ⟨n, rfl, rgOk_lim h1, fun a ha => (KV.step k g1).newT F1 h2 (rg_rel n) ha⟩
theorem e_rngL (hX : Cxf P C fns cs N X S W) {a : CE} {z : Expr} {p q r t : Pos} (hg : glB S "list" = true) (hg2 : glB S "range" = true) (h : PE X z (tV P C W a)) (fz : fineX z = true) :
    PE X (.Call (.Name "list" p) [.Call (.Name "range" q) [z] [] r] [] t) (tF P C W (.rng false a)) := by
  refine PE.mono (pe_listRg hX.o.calm (hX.glo hg).1 (hX.o.free _ (by decide)) (prg_1 (hX.glo hg2).1 (hX.o.free _ (by decide)) h (star_fine fz _ _))) fun σ H Q ⟨DF, G, ρ, p, e, F, ev, k, kx⟩ => ?_
  rw [evE] at ev
  refine ⟨DF, G, ρ, _, e, F, ev, fun v H1 G1 d hd F1 g1 r1 => ?_, kx⟩
  replace hd := asI_inv hd
  obtain ⟨n, rfl, h1, h2⟩ := hd
  cases r1
  exact ⟨n, rfl, rgOk_lim h1, fun a ha => (KF.step k g1).new F1 h2 (rg_rel n) ha⟩
/-! ### iterables -/
theorem PI.mono {tg e : Expr} {t t' : TI} (h : PI X tg e t) (m : ∀ σ H Q, t' σ H Q → t σ H Q) : PI X tg e t' := ⟨fun pins s σ H Q I q => h.run pins s σ H Q I (m σ H Q q)⟩
theorem i_rng (hX : Cxf P C fns cs N X S W) {b : Bool} {a : CE} {tg z : Expr} {p r : Pos} (hg : glB S "range" = true) (h : PE X z (tV P C W a)) (fz : fineX z = true) : PI X tg (.Call (.Name "range" p) [z] [] r) (tI P C W b (.rng a)) := by
  refine PI.mono (pi_range1 (hX.glo hg).1 (hX.o.free _ (by decide)) (pa_cons h pa_nil (star_fine fz _ _)) (star_fine fz _ _)) fun σ H R ⟨DF, G, ρ, p, e, F, ev, k, kx⟩ => ?_
  rw [evI] at ev
  refine ⟨DF, G, ρ, _, e, F, ev, fun v H1 G1 d hd F1 g1 r1 => ?_, kx⟩
  replace hd := asI_inv hd
  obtain ⟨n, rfl, ⟨h1, h1'⟩, h2⟩ := hd
  cases r1
  have : (LIM : Int) = 1000000 := rfl
  exact ⟨n, rfl, by omega, by omega, k _ _ _ _ h2 F1 g1 (.r (by omega))⟩
theorem i_rng2 (hX : Cxf P C fns cs N X S W) {b : Bool} {a c : CE} {tg z u : Expr} {p r : Pos} (hg : glB S "range" = true) (h : PE X z (tV P C W a)) (fz : fineX z = true) (h' : PE X u (tV P C W c)) (fu : fineX u = true) :
    PI X tg (.Call (.Name "range" p) [z, u] [] r) (tI P C W b (.rng2 a c)) := by
  refine PI.mono (pi_range2 (hX.glo hg).1 (hX.o.free _ (by decide)) (pa_cons h (pa_cons h' pa_nil (star_fine fu _ _)) (star_fine fz _ _)) (by rw [star_fine fz, star_fine fu]; rfl) (by rw [star_fine fu]; rfl)) fun σ H R ⟨DF, G, ρ, p, e, F, ev, k, kx⟩ => ?_
  rw [evI] at ev
  refine ⟨DF, G, ρ, _, e, F, ev, fun v H1 G1 d hd F1 g1 r1 => ⟨DF, G1, ρ, _, e, F1, hd, fun w H2 G2 d2 hd2 F2 g2 r2 => ?_, KX.step kx g1⟩, kx⟩
  replace hd2 := asI_inv hd2
  obtain ⟨n, rfl, hd2⟩ := hd2
  replace hd2 := asI_inv hd2
  obtain ⟨m, rfl, ⟨h1, h2, h3, h4⟩, h5⟩ := hd2
  cases r1
  cases r2
  have : (LIM : Int) = 1000000 := rfl
  exact ⟨n, m, rfl, ⟨by omega, by omega, by omega, by omega⟩, k _ _ _ _ h5 F2 (g1.trans g2) (.r (by omega))⟩
/-! ### comprehensions -/
theorem own_of : ∀ {is : List Nat}, (∀ i ∈ is, ∃ x, N[i]? = some x) → (ownOf N is).map (·.2) = is
  | [], _ => rfl
  | i :: is, h => by
    obtain ⟨x, hx⟩ := h i List.mem_cons_self
    have ih := own_of fun j m => h j (List.mem_cons_of_mem _ m)
    unfold ownOf at ih ⊢
    rw [List.filterMap_cons]
    simp only [hx, Option.map_some]
    rw [List.map_cons, ih]
theorem tgB_ix {raw : Scope} {tg : Tg} {e : Expr} (h : tgB N S raw tg e = true) : ∀ i ∈ tgs tg, ∃ x, N[i]? = some x := by
  unfold tgB at h
  split at h
  · intro i m
    obtain rfl : i = _ := by simpa using m
    exact ⟨_, (stoB_inv h).1⟩
  · rename_i is es _ _
    have key : ∀ (is : List Nat) (es : List Expr), tgB.tgL N S raw is es = true → ∀ i ∈ is, ∃ x, N[i]? = some x := by
      intro is
      induction is with
      | nil => intro es h i m; cases m
      | cons i is ih =>
        intro es h j m
        cases es with
        | nil => cases h
        | cons e es =>
          unfold tgB.tgL at h
          split at h
          · rename_i h0 h1; cases h0
          · rename_i i' is' x p es' h0 h1
            cases h0; cases h1
            obtain ⟨h2, h3⟩ := both h
            rcases List.mem_cons.mp m with rfl | m
            · exact ⟨_, (stoB_inv h2).1⟩
            · exact ih _ h3 j m
          · cases h
    exact key is es h
  · cases h
theorem PTs.mono {ifs : List Expr} {t t' : TT} (h : PTs X ifs t) (m : ∀ σ H Q, t' σ H Q → t σ H Q) : PTs X ifs t' := ⟨fun pins s σ H Q I q => h.run pins s σ H Q I (m σ H Q q)⟩
theorem isYes_inv {c : CE} (h : isYes c = true) : c = .cst (.bool true) := by
  unfold isYes at h; split at h
  · rfl
  · cases h
theorem ifs_ok {t : CE} {ifs : List Expr} {f : Expr → Bool} (h : mIfs (isYes t) f ifs = true) (ht : ∀ e, f e = true → PT X e (tT P C W t)) : PTs X ifs (tT P C W t) := by
  unfold mIfs at h
  split at h
  · obtain rfl := isYes_inv h
    exact PTs.mono pts_nil fun σ H Q ⟨DF, G, ρ, p, e, F, ev, k, kx⟩ => k true H G ev F (Gr.refl _ _ _ _)
  · exact pts_one (ht _ h)
  · cases h
theorem celB_fn {raw : Scope} (s : Shared) (H : Hp) (D : Addr) (cl : List (Str × Addr)) (fp : List Addr) : ∀ x, celB raw x = true → (X.blk s H raw (compEnvC raw cl D X.env) fp).fn x = true := fun x h => by
  unfold celB at h
  split at h
  · rename_i e
    show (raw.names.lookup x == some .cell) = true
    rw [e]; rfl
  · cases h
theorem e_comp (hX : Cxf P C fns cs N X S W) {elt t : CE} {tg : Tg} {it : CI} {x tg' it' : Expr} {ifs : List Expr} {sc : Scope} {p : Pos} (hb : blkC N S sc (ownOf N (tgs tg)) = true) (hg : tgB N (relS sc S) sc tg tg' = true)
    (hi : PI X tg' it' (tI P C W true it)) (fi : fineX it' = true)
    (he : ∀ X', Cxf P C fns cs N X' (relS sc S) WF → PE X' x (tV P C WF elt)) (ht : ∀ X', Cxf P C fns cs N X' (relS sc S) WF → PTs X' ifs (tT P C WF t)) : PE X (.ListComp x [⟨tg', it', ifs, 0⟩] sc p) (tF P C W (.comp elt tg it t)) := by
  have ok : BlkOk X.N X.env.scope sc (ownOf N (tgs tg)) := by rw [hX.o.hN, hX.o.sc]; exact blkOk_by hb
  have bx := fun s H D cl fp => hX.blk s H sc D cl fp
  exact PE.mono (pe_lc hX.o.calm hX.o.nd hi ok (fun s H D cl fp => pg_ok (bx s H D cl fp) (celB_fn s H D cl fp) hg) (fun s H D cl fp => ht _ (bx s H D cl fp)) (fun s H D cl fp => he _ (bx s H D cl fp)) (nofold fi _))
    fun σ H Q h => lc_ok (own_of (tgB_ix hg)) σ H Q h
theorem e_comp2 (hX : Cxf P C fns cs N X S W) {elt t t1 : CE} {tg tg1 : Tg} {it it1 : CI} {x tg' it' tg1' it1' : Expr} {ifs ifs1 : List Expr} {sc : Scope} {p : Pos} (hb : blkC N S sc (ownOf N (tgs tg ++ tgs tg1)) = true) (hg : tgB N (relS sc S) sc tg tg' = true)
    (hg1 : tgB N (relS sc S) sc tg1 tg1' = true) (hi : PI X tg' it' (tI P C W true it)) (fi : fineX it' = true) (fi1 : fineX it1' = true) (hi1 : ∀ X', Cxf P C fns cs N X' (relS sc S) WF → PI X' tg1' it1' (tI P C WF false it1))
    (he : ∀ X', Cxf P C fns cs N X' (relS sc S) WF → PE X' x (tV P C WF elt)) (ht : ∀ X', Cxf P C fns cs N X' (relS sc S) WF → PTs X' ifs (tT P C WF t)) (ht1 : ∀ X', Cxf P C fns cs N X' (relS sc S) WF → PTs X' ifs1 (tT P C WF t1)) :
    PE X (.ListComp x [⟨tg', it', ifs, 0⟩, ⟨tg1', it1', ifs1, 0⟩] sc p) (tF P C W (.comp2 elt tg it t tg1 it1 t1)) := by
  have ok : BlkOk X.N X.env.scope sc (ownOf N (tgs tg ++ tgs tg1)) := by rw [hX.o.hN, hX.o.sc]; exact blkOk_by hb
  have bx := fun s H D cl fp => hX.blk s H sc D cl fp
  have ho : (ownOf N (tgs tg ++ tgs tg1)).map (·.2) = tgs tg ++ tgs tg1 := own_of fun i m => by
    rcases List.mem_append.mp m with m | m
    · exact tgB_ix hg i m
    · exact tgB_ix hg1 i m
  exact PE.mono (pe_lc2 (vs1 := tgs tg1) hX.o.calm hX.o.nd hi ok (fun i m => by rw [ho]; exact List.mem_append_right _ m) (fun s H D cl fp => pg_ok (bx s H D cl fp) (celB_fn s H D cl fp) hg) (fun s H D cl fp => ht _ (bx s H D cl fp))
    (fun s H D cl fp => hi1 _ (bx s H D cl fp)) (fun s H D cl fp => pg_ok (bx s H D cl fp) (celB_fn s H D cl fp) hg1) (fun s H D cl fp => ht1 _ (bx s H D cl fp)) (fun s H D cl fp => he _ (bx s H D cl fp)) (nofold fi _) (nofold fi1))
    fun σ H Q h => lc2_ok ho rfl σ H Q h
/-! ### a new list is a list -/
theorem fr_list {c : CE} (h : frB c = true) (ρ : Env) (p : PyData → Prop) (e : Ex → Prop) (ev : evE C c ρ p e) : evE C c ρ (fun d => asL d fun xs => p (.list xs)) e := by
  cases c with
  | lst es => exact ev
  | comp elt tg it t => exact ev
  | comp2 elt tg it t tg1 it1 t1 => exact ev
  | rng t a =>
    cases t with
    | false =>
      rw [evE] at ev ⊢
      simp only [Bool.false_eq_true, if_false, asL_l] at ev ⊢
      exact ev
    | true => cases h
  | prim q es =>
    cases q with
    | lst => exact ev
    | srt => exact ev
    | _ => cases h
  | _ => cases h
theorem fine_or {c : CE} {e : Expr} (h : (boB N S c e || mtE fns cs N S c e) = true) : fineX e = true := by
  rw [Bool.or_eq_true] at h
  exact h.elim boB_fine mtE_fine
theorem fines_E : ∀ {es : CEs} {xs : List Expr}, mtEs fns cs N S es xs = true → ∀ e ∈ xs, fineX e = true
  | .nil, xs, h => by rw [mtEs] at h; rw [isNil_inv h]; intro e m; cases m
  | .cons a es, xs, h => by
    rw [mtEs] at h
    obtain ⟨x, ys, rfl, h1, h2⟩ := mCons_inv h
    intro e m
    rcases List.mem_cons.mp m with rfl | m
    · exact mtE_fine h1
    · exact fines_E h2 e m
theorem fines_B : ∀ {es : CEs} {xs : List Expr}, mtBs fns cs N S es xs = true → ∀ e ∈ xs, fineX e = true
  | .nil, xs, h => by rw [mtBs] at h; rw [isNil_inv h]; intro e m; cases m
  | .cons a es, xs, h => by
    rw [mtBs] at h
    obtain ⟨x, ys, rfl, h1, h2⟩ := mCons_inv h
    intro e m
    rcases List.mem_cons.mp m with rfl | m
    · exact fine_or h1
    · exact fines_B h2 e m
theorem fines_A : ∀ {es : CEs} {xs : List Expr}, mtAs fns cs N S es xs = true → ∀ e ∈ xs, fineX e = true
  | .nil, xs, h => by rw [mtAs] at h; rw [isNil_inv h]; intro e m; cases m
  | .cons a es, xs, h => by
    rw [mtAs] at h
    obtain ⟨x, ys, rfl, h1, h2⟩ := mCons_inv h
    intro e m
    rcases List.mem_cons.mp m with rfl | m
    · rw [Bool.or_eq_true] at h1
      exact h1.elim stB_fine mtE_fine
    · exact fines_A h2 e m
theorem fine_I {c : CI} {e : Expr} (h : mtI fns cs N S c e = true) : fineX e = true := by
  cases c with
  | seq a => rw [mtI] at h; exact fine_or h
  | rng a => rw [mtI] at h; obtain ⟨p, z, r, rfl, _⟩ := mRg_inv h; rfl
  | rng2 a b => rw [mtI] at h; obtain ⟨p, z, u, r, rfl, _⟩ := mRg2_inv h; rfl

/-! ### the whole -/
theorem b_or (hX : Cxf P C fns cs N X S W) {c : CE} {e : Expr} (h : (boB N S c e || mtE fns cs N S c e) = true) (k : ∀ e, mtE fns cs N S c e = true → PE X e (tV P C W c)) : PE X e (tB P C W c) := by
  rw [Bool.or_eq_true] at h
  rcases h with h | h
  · exact e_bo hX h
  · exact tB_of_tV (k e h)
/-- all that is shown of an expression -/
structure Ok (P : Px) (C : Orc) (fns : List Str) (cs : List (Str × PyData)) (N : List Str) (c : CE) : Prop where
  v : ∀ {X : Cx} {S : Scope} {W : WX} {e : Expr}, Cxf P C fns cs N X S W → mtE fns cs N S c e = true → PE X e (tV P C W c)
  f : ∀ {X : Cx} {S : Scope} {W : WX} {e : Expr}, Cxf P C fns cs N X S W → frB c = true → mtE fns cs N S c e = true → PE X e (tF P C W c)
  t : ∀ {X : Cx} {S : Scope} {W : WX} {e : Expr}, Cxf P C fns cs N X S W → tstB c = true → mtE fns cs N S c e = true → PT X e (tT P C W c) ∧ (∀ ys q, e = .BoolOp .And ys q → PW X e (tT P C W c)) ∧ (∀ ys q, e = .BoolOp .Or ys q → PW X e (tT P C W c))
section
variable {c : CE}
/-- no new list, no and, or: its value is enough -/
theorem Ok.plain (hf : frB c = false) (v : ∀ {X : Cx} {S : Scope} {W : WX} {e : Expr}, Cxf P C fns cs N X S W → mtE fns cs N S c e = true → PE X e (tV P C W c) ∧ (∀ whole, isTrue e X.env whole = (do let v ← whole; standAt e.pos; holding [v] (truthy v))) ∧ ∀ o ys q, e ≠ .BoolOp o ys q) : Ok P C fns cs N c where
  v := fun hX h => (v hX h).1
  f := fun _ h => by rw [hf] at h; cases h
  t := fun hX _ h => by
    obtain ⟨h1, h2, h3⟩ := v hX h
    exact ⟨t_of h1 h2, fun ys q e => absurd e (h3 _ _ _), fun ys q e => absurd e (h3 _ _ _)⟩
theorem Ok.fresh (hf : frB c = true) (v : ∀ {X : Cx} {S : Scope} {W : WX} {e : Expr}, Cxf P C fns cs N X S W → mtE fns cs N S c e = true → PE X e (tF P C W c) ∧ (∀ whole, isTrue e X.env whole = (do let v ← whole; standAt e.pos; holding [v] (truthy v))) ∧ ∀ o ys q, e ≠ .BoolOp o ys q) : Ok P C fns cs N c where
  v := fun hX h => tV_of_tF (v hX h).1 (fr_list hf)
  f := fun hX _ h => (v hX h).1
  t := fun hX _ h => by
    obtain ⟨h1, h2, h3⟩ := v hX h
    exact ⟨t_of (tV_of_tF h1 (fr_list hf)) h2, fun ys q e => absurd e (h3 _ _ _), fun ys q e => absurd e (h3 _ _ _)⟩
end
mutual
theorem okE : ∀ c : CE, Ok P C fns cs N c
  | .cst d => .plain rfl fun hX h => by
    rw [mtE] at h
    have := e_cst hX h
    obtain ⟨c, k, p, rfl, _⟩ := mCst_inv h
    exact ⟨this, fun _ => rfl, fun _ _ _ z => (nomatch z)⟩
  | .nm i => .plain rfl fun hX h => by
    rw [mtE] at h
    have := e_nm hX h
    obtain ⟨x, p, rfl, _⟩ := mNm_inv h
    exact ⟨this, fun _ => rfl, fun _ _ _ z => (nomatch z)⟩
  | .bo i => .plain rfl fun hX h => by rw [mtE] at h; cases h
  | .stn i => .plain rfl fun hX h => by rw [mtE] at h; cases h
  | .gl k x d => .plain rfl fun hX h => by
    rw [mtE] at h
    have := e_gl hX h
    obtain ⟨p, rfl, _⟩ := mGl_inv h
    exact ⟨this, fun _ => rfl, fun _ _ _ z => (nomatch z)⟩
  | .neg a => .plain rfl fun hX h => by
    rw [mtE] at h
    obtain ⟨x, p, rfl, h⟩ := mNeg_inv h
    exact ⟨e_neg ((okE a).v hX h), fun _ => rfl, fun _ _ _ z => (nomatch z)⟩
  | .bin o a b => .plain rfl fun hX h => by
    rw [mtE] at h
    obtain ⟨x, y, p, rfl, h1, h2⟩ := mBin_inv h
    exact ⟨e_bin hX (b_or hX h1 fun e z => (okE a).v hX z) (b_or hX h2 fun e z => (okE b).v hX z), fun _ => rfl, fun _ _ _ z => (nomatch z)⟩
  | .cmp o a b => ⟨fun hX h => by
    rw [mtE] at h
    obtain ⟨x, y, p, rfl, h1, h2⟩ := mCmp_inv h
    exact e_cmp hX (b_or hX h1 fun e z => (okE a).v hX z) (b_or hX h2 fun e z => (okE b).v hX z) (fine_or h2), fun _ z => (by cases z), fun hX _ h => by
    rw [mtE] at h
    obtain ⟨x, y, p, rfl, h1, h2⟩ := mCmp_inv h
    exact ⟨e_cmpT hX (b_or hX h1 fun e z => (okE a).v hX z) (b_or hX h2 fun e z => (okE b).v hX z) (fine_or h2), fun _ _ z => (nomatch z), fun _ _ z => (nomatch z)⟩⟩
  | .chn o o' a b c => ⟨fun hX h => by
    rw [mtE] at h
    obtain ⟨x, y, z, p, rfl, h1, h2, h3⟩ := mChn_inv h
    exact e_chn hX ((okE a).v hX h1) ((okE b).v hX h2) ((okE c).v hX h3) (mtE_fine h3), fun _ z => (by cases z), fun hX _ h => by
    rw [mtE] at h
    obtain ⟨x, y, z, p, rfl, h1, h2, h3⟩ := mChn_inv h
    exact ⟨e_chnT hX ((okE a).v hX h1) ((okE b).v hX h2) ((okE c).v hX h3) (mtE_fine h3), fun _ _ z => (nomatch z), fun _ _ z => (nomatch z)⟩⟩
  | .and a b => ⟨fun hX h => by
    rw [mtE] at h
    obtain ⟨x, xs, p, rfl, h1, h2⟩ := mAnd_inv h
    exact e_and ((okE a).v hX h1) (fun y z => (okE b).v hX z) h2, fun _ z => (by cases z), fun hX ht h => by
    rw [mtE] at h
    rw [tstB] at ht
    obtain ⟨t1, t2⟩ := both ht
    obtain ⟨x, xs, p, rfl, h1, h2⟩ := mAnd_inv h
    have := e_andT ((okE a).t hX t1 h1).1 (fun y z => ⟨((okE b).t hX t2 z).1, ((okE b).t hX t2 z).2.1⟩) h2
    exact ⟨this.pt, fun _ _ _ => this, fun _ _ z => (nomatch z)⟩⟩
  | .or a b => ⟨fun hX h => by
    rw [mtE] at h
    obtain ⟨x, xs, p, rfl, h1, h2⟩ := mOr_inv h
    exact e_or ((okE a).v hX h1) (fun y z => (okE b).v hX z) h2, fun _ z => (by cases z), fun hX ht h => by
    rw [mtE] at h
    rw [tstB] at ht
    obtain ⟨t1, t2⟩ := both ht
    obtain ⟨x, xs, p, rfl, h1, h2⟩ := mOr_inv h
    have := e_orT ((okE a).t hX t1 h1).1 (fun y z => ⟨((okE b).t hX t2 z).1, ((okE b).t hX t2 z).2.2⟩) h2
    exact ⟨this.pt, fun _ _ z => (nomatch z), fun _ _ _ => this⟩⟩
  | .not a => ⟨fun hX h => by
    rw [mtE] at h
    obtain ⟨x, p, rfl, h1⟩ := mNot_inv h
    exact e_not ((okE a).v hX h1), fun _ z => (by cases z), fun hX ht h => by
    rw [mtE] at h
    rw [tstB] at ht
    obtain ⟨x, p, rfl, h1⟩ := mNot_inv h
    exact ⟨e_notT ((okE a).t hX ht h1).1, fun _ _ z => (nomatch z), fun _ _ z => (nomatch z)⟩⟩
  | .ife t a b => ⟨fun hX h => by
    rw [mtE] at h
    obtain ⟨x, y, z, p, rfl, h1, h2, h3⟩ := mIfe_inv h
    obtain ⟨t1, h1⟩ := both h1
    exact e_ife ((okE t).t hX t1 h1).1 ((okE a).v hX h2) ((okE b).v hX h3), fun _ z => (by cases z), fun hX ht h => by cases ht⟩
  | .tup es => .plain rfl fun hX h => by
    rw [mtE] at h
    obtain ⟨xs, c, p, rfl, h⟩ := mTup_inv h
    obtain ⟨h1, h2⟩ := both h
    exact ⟨e_tup (dec h1) (okEs es hX h2), fun _ => rfl, fun _ _ _ z => (nomatch z)⟩
  | .lst es => .fresh rfl fun hX h => by
    rw [mtE] at h
    obtain ⟨xs, p, rfl, h⟩ := mLst_inv h
    obtain ⟨h1, h2⟩ := both h
    exact ⟨e_lst (dec h1) (okEs es hX h2), fun _ => rfl, fun _ _ _ z => (nomatch z)⟩
  | .idx a i => .plain rfl fun hX h => by
    rw [mtE] at h
    obtain ⟨x, y, p, rfl, h1, h2, h3⟩ := mIdx_inv h
    exact ⟨e_idx hX (b_or hX h1 fun e z => (okE a).v hX z) (tB_of_tV ((okE i).v hX h3)) (mtE_fine h3), fun _ => rfl, fun _ _ _ z => (nomatch z)⟩
  | .sl a lo hi => .plain rfl fun hX h => by
    rw [mtE] at h
    obtain ⟨x, l, u, p, q, rfl, h1, h2, h3⟩ := mSl_inv h
    exact ⟨e_sl hX (b_or hX h1 fun e z => (okE a).v hX z) (po_ok h2 fun e z => (okE lo).v hX z) (po_ok h3 fun e z => (okE hi).v hX z), fun _ => rfl, fun _ _ _ z => (nomatch z)⟩
  | .call f es => .plain rfl fun hX h => by
    rw [mtE] at h
    obtain ⟨x, p, y, ys, q, rfl, h1, h2, h3⟩ := mCall_inv h
    exact ⟨e_call hX h1 h2 (okAr es hX h3) (fines_A h3), fun _ => rfl, fun _ _ _ z => (nomatch z)⟩
  | .prim q es => by
    have key : ∀ {X : Cx} {S : Scope} {W : WX} {e : Expr}, Cxf P C fns cs N X S W → mtE fns cs N S (.prim q es) e = true → ((frB (.prim q es) = false → PE X e (tV P C W (.prim q es))) ∧ (frB (.prim q es) = true → PE X e (tF P C W (.prim q es)))) ∧
        (∀ whole, isTrue e X.env whole = (do let v ← whole; standAt e.pos; holding [v] (truthy v))) ∧ ∀ o ys q, e ≠ .BoolOp o ys q := fun hX h => by
      rw [mtE] at h
      obtain ⟨x, p, y, ys, r, rfl, h1, h2, h3⟩ := mCall_inv h
      exact ⟨e_prim hX (Option.some.inj h1) h2 (okBs es hX h3) (fines_B h3), fun _ => rfl, fun _ _ _ z => (nomatch z)⟩
    cases hf : frB (.prim q es) with
    | false => exact .plain hf fun hX h => ⟨(key hX h).1.1 hf, (key hX h).2⟩
    | true => exact .fresh hf fun hX h => ⟨(key hX h).1.2 hf, (key hX h).2⟩
  | .isa t a => .plain rfl fun hX h => by
    rw [mtE] at h
    obtain ⟨p, y, q, r, rfl, h1, h2, h3, h4⟩ := mIsa_inv h
    exact ⟨e_isa hX h3 h1 h2 ((okE a).v hX h4) (mtE_fine h4), fun _ => rfl, fun _ _ _ z => (nomatch z)⟩
  | .lenset a => .plain rfl fun hX h => by
    rw [mtE] at h
    obtain ⟨p, q, z, r, t, rfl, h1, h2, h3⟩ := mWrap_inv h
    exact ⟨e_lenset hX h1 h2 (b_or hX h3 fun e z => (okE a).v hX z) (fine_or h3), fun _ => rfl, fun _ _ _ z => (nomatch z)⟩
  | .rng true a => .plain rfl fun hX h => by
    rw [mtE] at h
    obtain ⟨p, q, z, r, t, rfl, h1, h2, h3⟩ := mWrap_inv h
    exact ⟨e_rngT hX h1 h2 ((okE a).v hX h3) (mtE_fine h3), fun _ => rfl, fun _ _ _ z => (nomatch z)⟩
  | .rng false a => .fresh rfl fun hX h => by
    rw [mtE] at h
    obtain ⟨p, q, z, r, t, rfl, h1, h2, h3⟩ := mWrap_inv h
    exact ⟨e_rngL hX h1 h2 ((okE a).v hX h3) (mtE_fine h3), fun _ => rfl, fun _ _ _ z => (nomatch z)⟩
  | .comp elt tg it t => .fresh rfl fun hX h => by
    rw [mtE] at h
    obtain ⟨x, tg', it', ifs, sc, p, rfl, h1, h2, h3, h4, h5⟩ := mComp_inv h
    exact ⟨e_comp hX h1 h2 (okI it hX (.inl rfl) h3) (fine_I h3) (fun X' hX' => (okE elt).v hX' h4) (fun X' hX' => ifs_ok h5 fun e z => ((okE t).t hX' (both z).1 (both z).2).1), fun _ => rfl, fun _ _ _ z => (nomatch z)⟩
  | .comp2 elt tg it t tg1 it1 t1 => .fresh rfl fun hX h => by
    rw [mtE] at h
    obtain ⟨x, tg', it', ifs, tg1', it1', ifs1, sc, p, rfl, h1, h2, h3, h4, h5, h6, h7, h8⟩ := mComp2_inv h
    obtain ⟨h5, h9⟩ := both h5
    exact ⟨e_comp2 hX h1 h2 h4 (okI it hX (.inl rfl) h3) (fine_I h3) (fine_I h9) (fun X' hX' => okI it1 hX' (.inr h5) h9) (fun X' hX' => (okE elt).v hX' h6) (fun X' hX' => ifs_ok h7 fun e z => ((okE t).t hX' (both z).1 (both z).2).1)
      (fun X' hX' => ifs_ok h8 fun e z => ((okE t1).t hX' (both z).1 (both z).2).1), fun _ => rfl, fun _ _ _ z => (nomatch z)⟩
theorem okEs : ∀ (c : CEs) {X : Cx} {S : Scope} {W : WX} {es : List Expr}, Cxf P C fns cs N X S W → mtEs fns cs N S c es = true → PA X es (tEs P C W c)
  | .nil, X, S, W, es, hX, h => by
    rw [mtEs] at h
    rw [isNil_inv h]
    exact a_nil
  | .cons a c, X, S, W, es, hX, h => by
    rw [mtEs] at h
    obtain ⟨x, xs, rfl, h1, h2⟩ := mCons_inv h
    exact a_cons ((okE a).v hX h1) (okEs c hX h2) (mtE_fine h1)
theorem okBs : ∀ (c : CEs) {X : Cx} {S : Scope} {W : WX} {es : List Expr}, Cxf P C fns cs N X S W → mtBs fns cs N S c es = true → PA X es (tBs P C W c)
  | .nil, X, S, W, es, hX, h => by
    rw [mtBs] at h
    rw [isNil_inv h]
    exact b_nil
  | .cons a c, X, S, W, es, hX, h => by
    rw [mtBs] at h
    obtain ⟨x, xs, rfl, h1, h2⟩ := mCons_inv h
    exact b_cons (b_or hX h1 fun e z => (okE a).v hX z) (okBs c hX h2) (fine_or h1)
theorem okAr : ∀ (c : CEs) {X : Cx} {S : Scope} {W : WX} {es : List Expr}, Cxf P C fns cs N X S W → mtAs fns cs N S c es = true → PA X es (tAr P C W c)
  | .nil, X, S, W, es, hX, h => by
    rw [mtAs] at h
    rw [isNil_inv h]
    exact r_nil
  | .cons a c, X, S, W, es, hX, h => by
    rw [mtAs] at h
    obtain ⟨x, xs, rfl, h1, h2⟩ := mCons_inv h
    rw [Bool.or_eq_true] at h1
    rcases h1 with h1 | h1
    · have fx := stB_fine h1
      cases a with
      | stn i => exact r_cons_st hX h1 (okAr c hX h2) fx
      | _ => cases h1
    · refine r_cons (fun i e => ?_) ((okE a).v hX h1) (okAr c hX h2) (mtE_fine h1)
      subst e
      rw [mtE] at h1
      cases h1
theorem okI : ∀ (c : CI) {X : Cx} {S : Scope} {W : WX} {b : Bool} {tg e : Expr}, Cxf P C fns cs N X S W → (b = true ∨ noBo c = true) → mtI fns cs N S c e = true → PI X tg e (tI P C W b c)
  | .seq a, X, S, W, b, tg, e, hX, hb, h => by
    rw [mtI] at h
    rw [Bool.or_eq_true] at h
    rcases h with h | h
    · rcases hb with rfl | hb
      · exact pi_any hX (tQ_of_tB (e_bo hX h))
      · cases a with
        | bo i => cases hb
        | _ => cases h
    · exact pi_any hX (tQ_of_tV ((okE a).v hX h))
  | .rng a, X, S, W, b, tg, e, hX, hb, h => by
    rw [mtI] at h
    obtain ⟨p, z, r, rfl, h1, h2⟩ := mRg_inv h
    exact i_rng hX h1 ((okE a).v hX h2) (mtE_fine h2)
  | .rng2 a c, X, S, W, b, tg, e, hX, hb, h => by
    rw [mtI] at h
    obtain ⟨p, z, u, r, rfl, h1, h2, h3⟩ := mRg2_inv h
    exact i_rng2 hX h1 ((okE a).v hX h2) (mtE_fine h2) ((okE c).v hX h3) (mtE_fine h3)
end
end
end Pv
set_option Elab.async false
set_option linter.all false
set_option maxRecDepth 100000
set_option maxHeartbeats 4000000
/-! Core L: sorted(range(len(row)), key=lambda k: row[k]). Own work. -/
set_option autoImplicit false
namespace Pv
open PySem PySem.Spec L2

mutual
theorem reads_flat {h : Heap} : ∀ {v : Value} {d : PyData} {as : List Addr}, Reads h v d as → noLst d = true → as = []
  | _, _, _, .none, _ => rfl
  | _, _, _, .bool _, _ => rfl
  | _, _, _, .int _ _, _ => rfl
  | _, _, _, .str _ _, _ => rfl
  | _, _, _, .list _ _ _ _, h => by cases h
  | _, _, _, .tuple _ _ _ r, h => readsAll_flat r (by rw [noLst] at h; exact h)
  | _, _, _, .dict _ _ _ _ _, h => by cases h
theorem readsAll_flat {h : Heap} : ∀ {vs : List Value} {ds : List PyData} {as : List Addr}, ReadsAll h vs ds as → noLsts ds = true → as = []
  | _, _, _, .nil, _ => rfl
  | _, _, _, .cons a b, h => by
    rw [noLsts, Bool.and_eq_true] at h
    rw [reads_flat a h.1, readsAll_flat b h.2]; rfl
end
/-- the lambda's text: key by row[k] -/
structure LamK (params : Arguments) (body : Expr) (scope : Scope) (row k : Str) : Prop where
  eb : ∃ p1 p2 p3, body = .Subscript (.Name row p1) (.Name k p2) p3
  kind : scope.kind = .function
  co : scope.isCoroutine = false
  gen : scope.isGenerator = false
  nocell : ∀ x ∈ scope.names, x.2 ≠ .cell
  ek : scope.names.lookup k = some .local
  er : scope.names.lookup row = some .free
  one : ∀ x ∈ scope.names, x.2 = .free → x.1 = row
  bind : ∀ (q : Str) (cl : List (Str × Addr)) (pm cv ctv v : Value), bindArgs (PySem.W.kla_fn "<lambda>" q params body scope cl pm cv ctv) ⟨[v], []⟩ = pure [(k, v)]
  d1 : (row == ("__debug__" : Str)) = false
  d2 : (row == ("__classdict__" : Str)) = false
  d3 : (k == ("__debug__" : Str)) = false
section
variable {prog : Program} {w : World} {A : Around} {s : Shared} {f c' c u : Addr} {pm ctv : Value} {params : Arguments} {body : Expr} {scope : Scope} {row k q : Str} {cl : List (Str × Addr)} {its : List Value} {v : Value} {d : PyData} {i : Nat} {t : Tok}
/-- the lambda, called with i -/
theorem lam_call (L : LamK params body scope row k) (hroom : A.depth < recursionLimit) (hf : s.heap.get? f = some (PySem.W.kla_obj "<lambda>" q params body scope cl pm c' ctv)) (hc : s.heap.CodeRec (.ref c') q) (hl : cl.lookup row = some c)
    (cell : s.heap.IsCell c (some (.ref u))) (nl : s.heap.NoLimit) (hu : s.heap.IsList u its.toArray ∨ PyProof.Rows.IsTup s.heap u its.toArray) (hz : its.length ≤ sizeLine) (hi : its[i]? = some v) (hr : Reads s.heap v d []) :
    wpAny (model prog w) A (call (.ref f) [.int i t]) (PySem.W.KeyPure d s) (fun _ _ => False) s := by
  obtain ⟨p1, p2, p3, rfl⟩ := L.eb
  refine wpAny_call (PySem.W.kla_callFunE hroom hf rfl L.co L.gen rfl hc ?_)
  rw [L.bind]
  refine wpAny_pure (wpAny_newFunctionEnv L.nocell (fun x hx => ?_) (fun h₁ hns hsb => ?_) L.kind)
  · obtain rfl : x = (k, .int i t) := by simpa using hx
    exact L.ek
  have kp : ∀ b o, s.heap.get? b = some o → h₁.get? b = some o := fun b o e => hsb.extBut b o (Nat.ne_of_lt (Heap.lt_size e)) (Heap.get?_push_of_some _ e)
  refine ⟨nl.fresh _ hsb, PySem.W.kla_codeExpr ?_⟩
  have hcell : h₁.IsCell c (some (.ref u)) := by
    obtain ⟨o, ho, hd⟩ := cell
    exact ⟨o, kp _ _ ho, hd⟩
  refine PyProof.Rows.Subscript_ (wpAny_Name (wpAny_loadName_free L.kind L.er hl hcell (wpAny_Name (wpAny_loadName_local L.kind L.ek hns (v := .int i t) (by simp) ?_) L.d3) L.d2) L.d1)
  have fin : PySem.W.KeyPure d s v { s with heap := h₁, toks := s.toks + ([(k, Value.int i t)] : List (Str × Value)).length } := ⟨h₁, _, rfl, kp, PyProof.Rows.Reads.keeps kp hr⟩
  have hlt : i < its.length := (List.getElem?_eq_some_iff.mp hi).1
  have e63 := line63
  have e0 : (0 : Int) ≤ (i : Int) := by omega
  have ei : ((i : Nat) : Int).toNat = i := by omega
  rcases hu with hu | hu
  · have hu' : h₁.IsList u its.toArray := (fun ⟨o, e, r⟩ => ⟨o, kp _ _ e, r⟩) hu
    exact PyProof.Rows.item_listR hu' e0 (by omega) (by rw [ei]; simpa using hi) fin rfl
  · have hu' : PyProof.Rows.IsTup h₁ u its.toArray := (fun ⟨o, e, r⟩ => ⟨o, kp _ _ e, r⟩) hu
    exact PyProof.Rows.subscriptTail_builtinR (x := v) hu'.typeIs PyProof.Rows.slot_tuple_getitem.lookup
      (PyProof.Rows.getItem_tuple (j := i) hu' (by omega) (by omega) (by rw [seqIndex_of e0 (by simp; omega), ei]) (by simpa using hi) ⟨rfl, fin⟩) rfl
end
/-! ### sorted(range(n), key=f) -/
theorem each_range : ∀ (us : List Value) (k : Nat), (∀ j x, us[j]? = some x → ∃ tt, x = Value.int ((k + j : Nat) : Int) tt) → W.EachIs (fun (x : Value) (i : Nat) => ∃ tt, x = Value.int (i : Int) tt) us (List.range' k us.length)
  | [], _, _ => .nil
  | u :: r, k, h => by
    rw [List.length_cons, List.range'_succ]
    refine .cons (h 0 u rfl) (each_range r (k + 1) fun j x e => ?_)
    obtain ⟨tt, e2⟩ := h (j + 1) x (by simpa using e)
    exact ⟨tt, by rw [e2]; congr 1; omega⟩
section
open PySem.Calls PyProof.Rows
variable {prog : Program} {w : World} {A : Around} {E : Value → Shared → Prop} {s : Shared} {r : Addr} {t u v : Tok} {n : Nat}
/-- the items of a range, taken into a list of the machine's own: it stands at the heap's end of before -/
theorem range_taken {Q : List Value → Shared → Prop} (hh : A.handled = none) (hr : IsRange s.heap r 0 (n : Int) 1 t u v) (hsm : Builtin.Range.small 0 (n : Int) 1 = true) (hn : Builtin.Range.rangeSize 0 (n : Int) 1 = n) (hl : n ≤ 2 ^ 24)
    (q : ∀ (g : Heap) (tk : Nat) (acc : Array Value), s.heap.objs.size < g.objs.size → (∀ b o, s.heap.get? b = some o → g.get? b = some o) → ItemsOf (fun i v => ∃ t, v = .int (0 + i * 1) t) acc n → Q acc.toList { s with heap := g, toks := tk }) : wpAny (model prog w) A (collect (.ref r)) Q E s := by
  have e0 : (s.heap.push (seqObj "list" #[] 0)).get? s.heap.objs.size = some (seqObj "list" #[] 0) := Heap.get?_push_size _ rfl
  have body : ∀ R : Result → Shared → Prop, (∀ (g : Heap) (tk : Nat) (acc : Array Value) (c : Nat), (∀ b o, s.heap.get? b = some o → g.get? b = some o) → g.get? s.heap.objs.size = some (seqObj "list" acc c) → ItemsOf (fun i v => ∃ t, v = .int (0 + i * 1) t) acc n → R (.ok (.ret (.ref s.heap.objs.size))) { s with heap := g, toks := tk }) →
      codeAny (model prog w) A (.builtin "proto.collect" ⟨[.ref r], []⟩) R s := fun R q => by
    refine codeAny_builtin PySem.F.entry_proto_collect ?_
    rw [Around.under_plainId PySem.F.plain_proto_collect _]
    refine wpAny_bind (m := newList []) (wpAny_newList ?_)
    refine wpAny_pure ⟨plainId_quiet PySem.F.plain_list_iadd _, codeAny_builtin PySem.F.entry_list_iadd ?_⟩
    rw [Around.under_plainId PySem.F.plain_list_iadd _]
    exact wpAny_extend_range (A := A) hh (Heap.get?_push_of_some _ hr) hsm hn hl _ _ 0 e0 fun g tk acc c kg at_ hi => q g tk acc c (fun b o e => kg b o (Nat.ne_of_lt (Heap.lt_size e)) (Heap.get?_push_of_some _ e)) at_ hi
  unfold collect
  refine wpAny_bind (wpAny_runValue (body _ fun g tk acc c kg at_ hi => ?_))
  show wpAny _ _ (load s.heap.objs.size >>= fun o => _) _ _ _
  exact wpAny_bind (wpAny_load at_ (wpAny_pure (q g tk acc (Heap.lt_size at_) kg hi)))
theorem sorted_range_key {q : Addr} {key : Nat → PyData} {Q : Value → Shared → Prop} (hh : A.handled = none) (hr : IsRange s.heap r 0 (n : Int) 1 t u v) (hlen : n ≤ 2 ^ 24)
    (hal : W.AllAlike ((List.range n).map key)) (hk : W.Sortable ((List.range n).map key)) (hu : ∀ i < n, A.units + 2 + (key i).depth < cLine)
    (turn : ∀ (i : Nat) (tt : Tok), i < n → ∀ (h : Heap) (tk : Nat), (∀ b o, s.heap.get? b = some o → h.get? b = some o) → wpAny (model prog w) A.in1.in1 (call (.ref q) [.int i tt]) (W.KeyPure (key i) { s with heap := h, toks := tk }) (fun _ _ => False) { s with heap := h, toks := tk })
    (h : ∀ (a : Addr) (out : List Value) (c : Nat) (h' : Heap) (tk : Nat), s.heap.objs.size ≤ a → (∀ b o, s.heap.get? b = some o → h'.get? b = some o) → h'.get? a = some (seqObj "list" (List.toArray out) c) →
      W.EachIs (fun (x : Value) (i : Nat) => ∃ tt, x = Value.int i tt) out ((List.range n).mergeSort (W.dataLe false key)) → Q (.ref a) { s with heap := h', toks := tk }) :
    wpAny (model prog w) A (call (.builtin "sorted") [.ref r] [(Str.ofString "key", .ref q)]) Q E s := by
  refine call_function_entry_kw kind_sorted plain_sorted entry_sorted (ksk_s1 _ _) ?_
  unfold Builtin.«sorted»
  refine wpAny_bind (m := checkCount "sorted" 1 1 _) (wpAny_pure ?_)
  have hsm : Builtin.Range.small 0 (n : Int) 1 = true := small_one (by omega) (by omega) (by omega) (by omega)
  have hn : Builtin.Range.rangeSize 0 (n : Int) 1 = n := by rw [rangeSize_one]; split <;> omega
  refine wpAny_bind (range_taken (by exact hh) hr hsm hn hlen fun h1 tk1 acc hsz k1 hi => ?_)
  have hal0 : acc.toList.length = n := by rw [Array.length_toList]; exact hi.1
  have hLs : acc.toList.length ≤ sizeLine := by rw [hal0, sizeLine_eq]; omega
  refine wpAny_bind (wpAny_newList ?_ hLs)
  refine wpAny_bind (wpAny_holding (wpAny_call_entry_kw slot_list_sort ⟨_, Heap.get?_push_size _ rfl, rfl⟩ entry_list_sort ?body (ksk_l1 _ _)))
  case body =>
    rw [ksk_t1]
    have each : W.EachIs (fun (x : Value) (i : Nat) => ∃ tt, x = Value.int i tt) acc.toList (List.range n) := by
      have := each_range acc.toList 0 fun j x e => by
        obtain ⟨tt, e2⟩ := hi.2 j x (by rw [← e, Array.getElem?_toList])
        have e3 : (0 + (j : Int) * 1) = ((0 + j : Nat) : Int) := by omega
        exact ⟨tt, by rw [e2, e3]⟩
      rw [hal0, ← List.range_eq_range'] at this
      exact this
    have lt1 : ∀ b o, s.heap.get? b = some o → b ≠ h1.objs.size := fun b o e => Nat.ne_of_lt (Heap.lt_size (k1 b o e))
    refine wpAny_mono (W.keyH_tree (P := fun f s' => f = .done (.ret .none) ∧ Q (.ref h1.objs.size) s') (kz := (List.range n).map key) (n := 0) (b := false) (vs := acc.toList) ?_ (by rw [List.length_map, List.length_range, hal0]) hLs hal hk ?_ (W.keyH_turns (h₁ := h1.push (seqObj "list" acc.toList.toArray 0)) each fun x i hx hm h tk kp => ?_) fun h' tk out c kp hD ko => ⟨rfl, ?_⟩) (fun f s' hf => ?_) fun _ _ e => e
    · exact Heap.get?_push_size _ rfl
    · intro d hd
      obtain ⟨i, hm, rfl⟩ := List.mem_map.mp hd
      have := hu i (List.mem_range.mp hm)
      show A.units + 1 + 1 + (key i).depth < cLine
      omega
    · obtain ⟨tt, rfl⟩ := hx
      exact turn i tt (List.mem_range.mp hm) h tk fun b o e => kp b o (lt1 b o e) (Heap.get?_push_of_some _ (k1 b o e))
    · exact h h1.objs.size out c h' tk (Nat.le_of_lt hsz) (fun b o e => kp b o (lt1 b o e) (Heap.get?_push_of_some _ (k1 b o e))) hD (W.keyedOut_each key ko each)
    · obtain ⟨rfl, hq⟩ := hf
      exact ⟨_, rfl, wpAny_pure ⟨_, rfl, hq⟩⟩
end

/-! ### the text -/
def lamKB (sc : Scope) (r : Str) : Bool :=
  ((match sc.kind with | .function => true | _ => false) && (!sc.isCoroutine && !sc.isGenerator)) && (((sc.names.all fun x => match x.2 with | .cell => false | .free => decide (x.1 = r) | _ => true) && (loclB sc "k" && (match sc.names.lookup r with | some .free => true | _ => false))) &&
    (!(r == ("__debug__" : Str)) && !(r == ("__classdict__" : Str))))
theorem lamK_of {sc : Scope} {r : Str} {an : Option Expr} {p p1 p2 p3 : Pos} (h : lamKB sc r = true) : LamK ⟨[], [⟨"k", an, p⟩], none, [], [], none, []⟩ (.Subscript (.Name r p1) (.Name "k" p2) p3) sc r "k" := by
  unfold lamKB at h
  obtain ⟨h1, h2⟩ := both h
  obtain ⟨h1, h3⟩ := both h1
  obtain ⟨h3, h4⟩ := both h3
  obtain ⟨h2, h5⟩ := both h2
  obtain ⟨h2, h6⟩ := both h2
  obtain ⟨h6, h7⟩ := both h6
  obtain ⟨h5, h8⟩ := both h5
  rw [List.all_eq_true] at h2
  refine ⟨⟨p1, p2, p3, rfl⟩, ?_, by simpa using h3, by simpa using h4, fun x m z => ?_, ?_, ?_, fun x m z => ?_, fun _ _ _ _ _ _ => rfl, by simpa using h5, by simpa using h8, by decide⟩
  · split at h1
    · assumption
    · cases h1
  · have := h2 x m
    rw [z] at this
    cases this
  · unfold loclB at h6
    split at h6
    · assumption
    · cases h6
  · split at h7
    · assumption
    · cases h7
  · have := h2 x m
    rw [z] at this
    exact dec this
def mSrt (N : List Str) (S : Scope) (j : Nat) : Expr → Bool
  | .Call (.Name so _) [.Call (.Name ra _) [.Call (.Name le p0) [.Name r p2] [] p1] [] _] [⟨some kw, .Lambda ⟨[], [⟨k, _, _⟩], none, [], [], none, []⟩ (.Subscript (.Name r2 _) (.Name k2 _) _) lsc _, _⟩] _ =>
    ((((decide (so = ("sorted" : Str)) && glB S so) && (decide (ra = ("range" : Str)) && glB S ra)) && ((decide (le = ("len" : Str)) && glB S le) && decide (kw = ("key" : Str)))) && ((decide (k = ("k" : Str)) && decide (k2 = ("k" : Str))) && decide (r2 = r))) &&
      ((mNm N S j (.Name r p2) && celB S r) && lamKB lsc r)
  | _ => false
/-- the def may make its lambda -/
def LamOk (P : Px) (X : Cx) : Prop := ∃ c Pt, LamX.TabB X.base X.mg c Pt ∧ X.env.code = .ref c ∧ (Pt, X.env.qual ++ "<lambda>") ∈ P.T ∧ ∀ p ∈ P.T, p.1 = Pt → p.2 = X.env.qual ++ "<lambda>"
section
variable {P : Px} {C : Orc} {fns : List Str} {cs : List (Str × PyData)} {N : List Str} {X : Cx} {S : Scope} {W : WX}
/-- the sorted places of what name j tells -/
def tAs (P : Px) (j : Nat) : TE := fun σ H Q => ∃ DF G ρ d ys, FrD P DF σ ρ G H ∧ ρ[j]? = some (.v d) ∧ (d = .list ys ∨ d = .tuple ys) ∧ (ordOk ys ∧ PySem.W.Sortable ys ∧ noLsts ys = true ∧ ys.length ≤ LIM) ∧
  ∀ a H' G' xs, FrD P DF σ ρ G' H' → Gr P.T DF G H G' H' → G' a = none → Fr0 H a → H' a = some (.lst xs) → Rps P.K G' xs (asortD ys) → Q (.ref a) H'
theorem reads_get {h : Heap} : ∀ {its : List Value} {xs : List PyData} {as : List Addr} {i : Nat} {d : PyData}, ReadsAll h its xs as → noLsts xs = true → xs[i]? = some d → ∃ v, its[i]? = some v ∧ Reads h v d []
  | _, _, _, _, _, .nil, _, e => by simp at e
  | _, _, _, 0, _, .cons a b, n, e => by
    rw [noLsts, Bool.and_eq_true] at n
    simp at e
    subst e
    have := reads_flat a n.1
    subst this
    exact ⟨_, rfl, a⟩
  | _, _, _, i + 1, d, .cons a b, n, e => by
    rw [noLsts, Bool.and_eq_true] at n
    obtain ⟨v, h1, h2⟩ := reads_get (i := i) (d := d) b n.2 (by simpa using e)
    exact ⟨v, by simpa using h1, h2⟩
theorem map_getD (xs : List PyData) : (List.range xs.length).map (fun k => xs.getD k .none) = xs := by
  refine List.ext_getElem? fun i => ?_
  rw [List.getElem?_map]
  by_cases h : i < xs.length
  · rw [List.getElem?_range h, List.getElem?_eq_getElem h]
    simp [List.getD_eq_getElem?_getD, List.getElem?_eq_getElem h]
  · rw [List.getElem?_eq_none (by simpa using h), List.getElem?_eq_none (by simpa using h)]
    rfl
theorem ints_out : ∀ {out : List Value} {l : List Nat}, PySem.W.EachIs (fun (x : Value) (i : Nat) => ∃ tt, x = Value.int i tt) out l → Vals (l.map fun (k : Nat) => V.int (k : Int)) out
  | _, _, .nil => .nil
  | _, _, .cons h t => .cons h (ints_out t)
theorem ints_rel {K : PySem.W.Frag} {G : Hp} : ∀ l : List Nat, Rps K G (l.map fun (k : Nat) => V.int (k : Int)) (l.map fun (k : Nat) => PyData.int (k : Int))
  | [] => .nil
  | _ :: r => .cons (.int _) (ints_rel r)
theorem srt_rest (hX : Cxf P C fns cs N X S W) {params : Arguments} {body : Expr} {lsc : Scope} {r2 : Str} (L : LamK params body lsc r2 "k") (lam : LamOk P X) (hcl : X.env.scope.names.lookup r2 = some .cell) {j : Nat} (hN : X.N[j]? = some r2) (hvis : Vis X.env.scope r2)
    {DF : DFt} {σ : L2.St} {ρ : Env} {G G2 H2 : Hp} {v : V} {d : PyData} {ys : List PyData} {Q : VK} (hσ : σ[j]? = some (some v)) (rp : Rp P.K G v d) (hd : d = .list ys ∨ d = .tuple ys) (ho1 : ordOk ys) (ho2 : PySem.W.Sortable ys) (ho3 : noLsts ys = true) (ho4 : ys.length ≤ LIM)
    (F2 : FrD P DF σ ρ G2 H2) {pins : List (Addr × Obj)} {s3 : Shared} {r : Addr} {t0 t1 t2 : Tok} (I3 : Inv X pins σ H2 s3) (hr : IsRange s3.heap r 0 (ys.length : Int) 1 t0 t1 t2) (hf : FpOk X pins H2 r) (sg : Sub G G2) {lp kp pos : Pos}
    (kq : ∀ a H' G' xs, FrD P DF σ ρ G' H' → Gr P.T DF G2 H2 G' H' → G' a = none → Fr0 H2 a → H' a = some (.lst xs) → Rps P.K G' xs (asortD ys) → Q (.ref a) H')
    (hdef : defaultsOf params X.env = ([], []) := by rfl) :
    wpAny (model X.prog X.w) X.A (evalAll (List.map (fun x => x.2) (backToKw pos (keywordEach [⟨some "key", .Lambda params body lsc lp, kp⟩] X.env)))) (fun kvs s₂ => wpAny (model X.prog X.w) X.A (call (.builtin "sorted") [.ref r] ((List.filterMap (fun x => x.1) (backToKw pos (keywordEach [⟨some "key", .Lambda params body lsc lp, kp⟩] X.env))).zip kvs)) (EP X pins σ Q) X.xe s₂) X.xe s3 := by
  obtain ⟨cc, Pt, TB, hcode, hmT, huT⟩ := lam
  have hfree : ∀ y ∈ lsc.names, y.2 = .free → ∃ c, X.env.cells.lookup y.1 = some c := fun y m z => by
    rw [L.one y m z]
    exact I3.ok.has _ (.inl hcl)
  have I3' := I3.pinned (fp := [r]) (fun b hb => by
    obtain rfl : b = r := by simpa using hb
    exact hf) (fun b hb => by
    obtain rfl : b = r := by simpa using hb
    exact ⟨_, hr, fun v z => by cases z⟩)
  show wpAny _ _ (evalAll [do let v ← eval (.Lambda params body lsc lp) X.env; standAt pos; pure v]) _ _ _
  refine wpAny_evalAll_cons (wpAny_bind (LamX.lam_make2 I3' TB hcode hmT huT F2.tab hdef hfree fun f c' pm ctv H4 s4 I4 eN T4 hf4 hfn hfr hco => wpAny_bind (wpAny_standAt (wpAny_pure (wpAny_evalAll_nil ?_)))))
  show wpAny _ _ (call (.builtin "sorted") [.ref r] [(Str.ofString "key", .ref f)]) _ _ s4
  have hr4 : IsRange s4.heap r 0 (ys.length : Int) 1 t0 t1 t2 := (I4.pin (r, _) (List.mem_append_right _ (List.mem_append_right _ (mem_pinsAt (List.mem_cons_self) hr)))).1
  have ntE : ∀ b o, H2 b = some o → noTbl o → H4 b = some o := fun b o e n => eN b o e fun ps z => by rw [z] at n; exact n
  have g24 : Gr P.T DF G2 H2 G2 H4 := ⟨Sub.refl _, fun b o e n _ => ntE b o e n, fun _ _ e => .inl e, fun a e o z n => e o (ntE a o z n) n, fun _ => T4⟩
  have sH4 : Sub G2 H4 := fun b o e => ntE b o (F2.sub b o e) (F2.dr.1 b o e)
  have F4 : FrD P DF σ ρ G2 H4 := F2.grow g24 sH4 (by
    refine ⟨F2.dr.1, ?_⟩
    have D := F2.dr.2
    cases hdf : DF with
    | none => trivial
    | some q =>
      rw [hdf] at D
      obtain ⟨d1, d2, d3, pp, cells, d4, d5, d6⟩ := D
      exact ⟨d1, d2, d3, pp, cells, ntE _ _ d4 trivial, ntE _ _ d5 trivial, d6⟩)
  have I5 : Inv X pins σ H4 s4 := I4.unpinned
  obtain ⟨m, hns, hl⟩ := I5.loc
  obtain ⟨u, ru, l⟩ := hl j r2 v hN hσ hvis
  have rp4 : Rb P.K DF G2 H4 v d := .inl (rp.mono sg)
  obtain ⟨a, vs, its, as, rfl, rfl, q1, rv, hrd, hz, hh⟩ := seq_read hX.o I5 F4 rp4 ru hd
  obtain ⟨c, hc, hcell⟩ : ∃ c, X.env.cells.lookup r2 = some c ∧ s4.heap.IsCell c (some (.ref a)) := by
    rcases l with ⟨hk, _⟩ | ⟨_, c, hc, hcell⟩
    · have hk : X.env.scope.names.lookup r2 = some .local := hk
      rw [hcl] at hk; cases hk
    · exact ⟨c, hc, hcell⟩
  have hy : (r2, NameKind.free) ∈ lsc.names := PySem.mem_of_lookup L.er
  obtain ⟨c2, hc2⟩ := mem_lookup (cloFrom_has (cells := X.env.cells) (acc := []) hy)
  have ec : c2 = c := by
    rcases cloFrom_mem (PySem.mem_of_lookup hc2) with hm | ⟨_, h2⟩
    · cases hm
    · rw [h2, hc]; rfl
  subst ec
  obtain ⟨⟨oc, ovs, ot, hoc, hdc, hvc⟩, _, _⟩ := I5.hok c' _ hco
  have hu := hX.o.units
  have hlim : ys.length ≤ 2 ^ 24 := Nat.le_trans ho4 (by decide)
  have hgd : ∀ i, i < ys.length → ys[i]? = some (ys.getD i .none) := fun i hi => by
    rw [List.getElem?_eq_getElem hi]
    simp [List.getD_eq_getElem?_getD, List.getElem?_eq_getElem hi]
  refine sorted_range_key (key := fun i => ys.getD i .none) hX.o.hd hr4 hlim (by rw [map_getD]; exact fun x m y m' => ho1.1.1 x m y m') (by rw [map_getD]; exact ho2) (fun i hi => ?_) (fun i tt hi h tk kp => ?_) fun b out cc2 h' tk hn kp hat he => ?_
  · have := depth_mem (List.mem_of_getElem? (hgd i hi))
    have := ho1.2.1
    show X.A.units + 2 + (ys.getD i .none).depth < cLine
    omega
  · obtain ⟨x, hx, hrx⟩ := reads_get hrd ho3 (hgd i hi)
    refine lam_call (s := { s4 with heap := h, toks := tk }) L hX.o.depth (kp _ _ hf4) ⟨c', oc, ovs, ot, rfl, kp _ _ hoc, hdc, hvc⟩ hc2 ((fun ⟨o, e, q⟩ => ⟨o, kp _ _ e, q⟩) hcell) (I5.nolimit.keeps kp) ?_ hz hx (PyProof.Rows.Reads.keeps kp hrx)
    rcases hh with ⟨_, _, hl⟩ | ⟨_, _, hl, _⟩
    · exact .inl ((fun ⟨o, e, q⟩ => ⟨o, kp _ _ e, q⟩) hl)
    · exact .inr ((fun ⟨o, e, q⟩ => ⟨o, kp _ _ e, q⟩) hl)
  · have hb : H4 b = none := I5.hok.fresh hn
    have vs1 := ints_out he
    have hlen : (((List.range ys.length).mergeSort (PySem.W.dataLe false fun i => ys.getD i .none)).map fun (k : Nat) => V.int (k : Int)).length ≤ sizeLine := by
      rw [List.length_map, List.length_mergeSort, List.length_range]
      exact Nat.le_trans ho4 line_lim
    obtain ⟨F6, g6⟩ := F4.more (o := .lst (((List.range ys.length).mergeSort (PySem.W.dataLe false fun i => ys.getD i .none)).map fun (k : Nat) => V.int (k : Int))) hb
    refine ⟨.ref b, _, I5.laid (t' := tk) (o := .lst (((List.range ys.length).mergeSort (PySem.W.dataLe false fun i => ys.getD i .none)).map fun (k : Nat) => V.int (k : Int))) kp ?_ ⟨hlen, out, cc2, vs1, hat⟩, rfl, kq b _ G2 _ F6 (g24.trans g6) (F4.none_of hb) (g24.live b (.of hb)) upd_same (ints_rel _)⟩
    exact hn
theorem pe_srt (hX : Cxf P C fns cs N X S W) (lam : LamOk P X) {j : Nat} {e : Expr} (h : mSrt N S j e = true) : PE X e (tAs P j) := by
  unfold mSrt at h
  split at h
  · rename_i so p6 ra p7 le p0 r p2 p1 p8 kw k an p9 r2 q1 k2 q2 q3 lsc lp kp pos
    obtain ⟨h1, h2⟩ := both h
    obtain ⟨h1, h3⟩ := both h1
    obtain ⟨h1, h4⟩ := both h1
    obtain ⟨h1, h5⟩ := both h1
    obtain ⟨h1, g1⟩ := both h1
    obtain ⟨h5, g2⟩ := both h5
    obtain ⟨h4, h6⟩ := both h4
    obtain ⟨h4, g3⟩ := both h4
    obtain ⟨h3, h7⟩ := both h3
    obtain ⟨h3, h8⟩ := both h3
    obtain ⟨h2, hlk⟩ := both h2
    obtain ⟨hnm, hcell⟩ := both h2
    obtain rfl := dec h1
    obtain rfl := dec h5
    obtain rfl := dec h4
    obtain rfl := dec h6
    obtain rfl := dec h3
    obtain rfl := dec h8
    obtain rfl := dec h7
    have L : LamK ⟨[], [⟨"k", an, p9⟩], none, [], [], none, []⟩ (.Subscript (.Name r2 q1) (.Name "k" q2) q3) lsc r2 "k" := lamK_of hlk
    obtain ⟨cc, Pt, TB, hcode, hmT, huT⟩ := lam
    have hcl : X.env.scope.names.lookup r2 = some .cell := by
      rw [hX.o.sc]
      unfold celB at hcell
      split at hcell
      · assumption
      · cases hcell
    refine ⟨fun pins s σ H Q I hq => ?_⟩
    obtain ⟨DF, G, ρ, d, ys, F, hρ, hd, ⟨ho1, ho2, ho3, ho4⟩, kq⟩ := hq
    obtain ⟨v, hσ, rp⟩ := F.slots j _ hρ
    obtain ⟨x', p', e', hx⟩ := mNm_inv hnm
    cases e'
    obtain ⟨hN, hvis, hdb, hcd⟩ := nmB_inv hx
    rw [← hX.o.hN] at hN
    rw [← hX.o.sc] at hvis
    obtain ⟨gs1, gs2⟩ := hX.glo g1
    obtain ⟨gr1, gr2⟩ := hX.glo g2
    obtain ⟨gl1, gl2⟩ := hX.glo g3
    have hlen : PE X (.Call (.Name "len" p0) [.Name r2 p2] [] p1) (tV P C W (.prim .len (.cons (.nm j) .nil))) := (okE _).v hX (by
      rw [mtE]
      simp [mCall, mtBs, mCons, isNil, boB, mtE, primN, g3, hnm])
    refine wpAny_Call_Name_kw (ld_blt I gs1 (hX.o.free _ (by decide)) PyProof.Rows.boot_sorted ?_ (by decide) (by decide))
    refine PyProof.Rows.callWith_kw ?_ rfl rfl rfl rfl
    -- range(len(row))
    refine PyProof.Rows.args_cons ?_ rfl
    refine PyProof.Rows.Call_ (ld_blt I gr1 (hX.o.free _ (by decide)) PyProof.Rows.boot_range ?_ (by decide) (by decide))
    refine PyProof.Rows.callWith_type1 (one_arg (R := fun x H1 => ∃ G1, x = .int ys.length ∧ FrD P DF σ ρ G1 H1 ∧ Gr P.T DF G H G1 H1) hlen I ⟨DF, G, ρ, fun z => z = .int ys.length, noE, F, ?_, fun w H' G' z hz F' g rz => ?_, KX.noE⟩ (fun u s2 x H2 I2 r3 ⟨G2, ex, F2, g2⟩ => ?_) rfl) rfl rfl
    · rw [evE, evEs, evE, hρ]
      rw [slotV_v, evEs]
      rcases hd with rfl | rfl <;> rfl
    · subst hz
      cases rz
      exact ⟨G', rfl, F', g⟩
    subst ex
    obtain ⟨t0, rfl⟩ := r3
    refine call_range_1 (PyProof.Rows.args_nil ?_)
    refine srt_rest hX L ⟨cc, Pt, TB, hcode, hmT, huT⟩ hcl hN hvis hσ rp hd ho1 ho2 ho3 ho4 F2 (I2.kept fun b o e => Heap.get?_push_of_some _ e) (IsRange.new _ _ _ _ _ _ _) (I2.fpOk (Nat.le_refl _) (I2.hok.fresh (Nat.le_refl _))) (g2.sub) fun a H' G' xs F' g' n1 n2 e r => kq a H' G' xs F' (g2.trans g') n1 (g2.live a n2) e r
  · cases h
end
end Pv
set_option Elab.async false
set_option linter.all false
set_option maxRecDepth 100000
set_option maxHeartbeats 4000000
/-! Core 12: which rows a compact statement stands for; the frame behind stores. Own work. -/
set_option autoImplicit false
namespace Pv
open PySem PySem.Spec L2

/-! ### which rows -/
def lcB : Expr → Bool
  | .ListComp _ _ _ _ => true
  | .SetComp _ _ _ _ => true
  | .DictComp _ _ _ _ _ => true
  | _ => false
def tuB : Expr → Bool
  | .Tuple _ _ _ => true
  | _ => false
/-- the store of a comprehension that is made over the store -/
def swB (S : Scope) (t : Str) (pos : Pos) (value : Expr) : Bool := match value with
  | .ListComp _ _ sc _ => S.kind == .function && S.names.lookup t == some .local && pos.line == value.pos.line && !(sc.names.any fun (n, k) => n == t && (k == .local || k == .cell))
  | _ => false
/-- name = e -/
def mSet (N : List Str) (S : Scope) (i : Nat) (lc : Bool) (f : Expr → Bool) : Stmt → Bool
  | .Assign [.Name x _] e _ => stoB N S S i x && ((lc || !lcB e) && f e)
  | _ => false
def mUnp (N : List Str) (S : Scope) (is : List Nat) (f : Expr → Bool) : Stmt → Bool
  | .Assign [.Tuple ts k p] e _ => tgB N S S (.tp is) (.Tuple ts k p) && ((!lcB e && !tuB e) && f e)
  | _ => false
def locs (N : List Str) (S : Scope) : List Nat → List Expr → Bool
  | [], [] => true
  | i :: is, .Name x _ :: ts => (ixB N i x && loclB S x) && locs N S is ts
  | _, _ => false
/-- the names on one line -/
def onLine : List Expr → Bool
  | .Name _ p :: ts => ts.all fun
    | .Name _ q => q.line == p.line
    | _ => false
  | _ => false
def nodupB : List Nat → Bool
  | [] => true
  | i :: is => !is.contains i && nodupB is
/-- a, b = x, y: stored from the right -/
def mPar (N : List Str) (S : Scope) (is : List Nat) (f : List Expr → Bool) : Stmt → Bool
  | .Assign [.Tuple ts _ _] (.Tuple vs _ _) _ => (((is.length == 2 || is.length == 3) && vs.length == is.length) && (nodupB is && (locs N S is ts && onLine ts))) && ((S.kind == .function && (!vs.all (foldedForSure 8) && !vs.all (constantsAlone 8))) && f vs)
  | _ => false
/-- a name that is captured stands among the targets -/
def capB (S : Scope) (ts : List Expr) : Bool := ts.any fun
  | .Name x _ => !loclB S x
  | _ => false
/-- a, b = x, y: a tuple is made and taken apart -/
def mParT (N : List Str) (S : Scope) (is : List Nat) (f : List Expr → Bool) : Stmt → Bool
  | .Assign [.Tuple ts k p] (.Tuple vs _ _) _ => tgB N S S (.tp is) (.Tuple ts k p) && ((vs.all (foldedForSure 8) || (decide (4 ≤ is.length) || capB S ts)) && f vs)
  | _ => false
def mAug (N : List Str) (S : Scope) (o : Op2) (i : Nat) (f : Expr → Bool) : Stmt → Bool
  | .AugAssign (.Name x _) op e _ => stoB N S S i x && ((decide (op2O o = op) && (o == .add || o == .sub)) && f e)
  | _ => false
def mMeth (N : List Str) (S : Scope) (i : Nat) (m : Str) (f : Expr → Bool) : Stmt → Bool
  | .Expr (.Call (.Attribute (.Name x _) m' ap) [e] [] cp) _ => nmB N S i x && ((decide (m = m') && (ap.endLine == cp.line)) && f e)
  | _ => false
def mTs (S : Scope) (f : Expr → Bool) : Expr → Bool
  | .Call (.Name t _) [e] [] _ => (decide (t = ("tuple" : Str)) && glB S t) && f e
  | _ => false
/-- a def that makes a lambda bears this name among its names -/
def lamNm : Str := "<lambda>"
def mSeti (N : List Str) (S : Scope) (i : Nat) (f g : Expr → Bool) : Stmt → Bool
  | .Assign [.Subscript (.Name x _) a _] e _ => nmB N S i x && (!lcB e && (f a && g e))
  | _ => false
def mEx (f : Expr → Bool) : Stmt → Bool
  | .Expr e _ => !lcB e && f e
  | _ => false
def mRet (no : Bool) (f : Expr → Bool) : Stmt → Bool
  | .Return (some e) _ => f e
  | .Return none _ => no
  | _ => false
def mIf (f : Expr → Bool) (g h : List Stmt → Bool) : Stmt → Bool
  | .If c a b _ => f c && (g a && h b)
  | _ => false
def mWhl (f : Expr → Bool) (g : List Stmt → Bool) : Stmt → Bool
  | .While c b [] _ => f c && g b
  | _ => false
def mFor (N : List Str) (S : Scope) (tg : Tg) (f : Expr → Bool) (g : List Stmt → Bool) : Stmt → Bool
  | .For t it b [] _ => tgB N S S tg t && (f it && g b)
  | _ => false
def mBrk : Stmt → Bool
  | .Break _ => true
  | _ => false
def mCon : Stmt → Bool
  | .Continue _ => true
  | _ => false
def nilS : List Stmt → Bool
  | [] => true
  | _ => false
def consS (f : Stmt → Bool) (g : List Stmt → Bool) : List Stmt → Bool
  | s :: ss => f s && g ss
  | [] => false
section
variable (fns : List Str) (cs : List (Str × PyData)) (N : List Str)
def mtPs (S : Scope) : List (Nat × Bool) → CEs → List Expr → Bool
  | [], .nil => isNil
  | i :: is, .cons a es => mCons (fun x => (!i.2 || frB a) && mtE fns cs N S a x) (mtPs S is es)
  | _, _ => fun _ => false
def isFrz : CS → Bool
  | .frz _ => true
  | _ => false
mutual
def mtS (S : Scope) : CS → Stmt → Bool
  | .set i e => mSet N S i (frB e) (mtE fns cs N S e)
  | .own i e => mSet N S i true (fun x => frB e && mtE fns cs N S e x)
  | .mks _ _ _ => fun _ => false
  | .unp is e => mUnp N S is (mtE fns cs N S e)
  | .par is es => fun s => mPar N S (is.map (·.1)) (mtPs fns cs N S is es) s || mParT N S (is.map (·.1)) (fun xs => (is.all fun i => !i.2) && (decide (cesLen es ≤ 1000) && mtEs fns cs N S es xs)) s
  | .aug o i e => mAug N S o i (mtE fns cs N S e)
  | .app i e => mMeth N S i "append" (mtE fns cs N S e)
  | .ext i e => mMeth N S i "extend" (mtE fns cs N S e)
  | .apps i j => fun s => N.contains lamNm && mMeth N S i "append" (mTs S (mSrt N S j)) s
  | .seti i a e => mSeti N S i (mtE fns cs N S a) (mtE fns cs N S e)
  | .pop _ _ _ => fun _ => false
  | .ex e => mEx (mtE fns cs N S e)
  | .ret e => mRet (isNo e) (mtE fns cs N S e)
  | .ifs t a b => mIf (fun x => tstB t && mtE fns cs N S t x) (mtSs S a) (mtSs S b)
  | .whl t b => mWhl (fun x => tstB t && mtE fns cs N S t x) (mtSs S b)
  | .fors tg it b _ => mFor N S tg (fun x => noBo it && mtI fns cs N S it x) (mtSs S b)
  | .brk => mBrk
  | .cont => mCon
  | .frz _ => fun _ => false
  | .rai _ _ => fun _ => false
  | .never => fun _ => true
def mtSs (S : Scope) : CSs → List Stmt → Bool
  | .nil => nilS
  | .cons s ss => fun sts => if isFrz s = true then mtSs S ss sts else consS (mtS S s) (mtSs S ss) sts
end
end

/-! ### the frame behind a store -/
section
variable {P : Px} {DF : DFt} {σ : L2.St} {ρ : Env} {G H G' H' : Hp}
/-- a slot is seen otherwise -/
theorem FrD.reslot (F : FrD P DF σ ρ G H) {i : Nat} {s : Slot} (ok : SlotOk P DF G H σ[i]? s) (no : ∀ d, s ≠ .own d) : FrD P DF σ (ρ.set i s) G H where
  len := by rw [List.length_set]; exact F.len
  sub := F.sub
  sub0 := F.sub0
  new := F.new
  keep0 := F.keep0
  df := F.df
  slots := fun j t e => by
    rw [get_set] at e
    split at e
    · rename_i h
      cases e
      rw [h.1]; exact ok
    · exact F.slots j t e
  own1 := fun j k d d' p h1 h2 h3 h4 => by
    rw [get_set] at h1 h2
    split at h1
    · cases h1; exact absurd rfl (no d)
    · split at h2
      · cases h2; exact absurd rfl (no d')
      · exact F.own1 j k d d' p h1 h2 h3 h4
  dr := F.dr
  live0 := F.live0
  tab := F.tab
theorem FrD.drops (F : FrD P DF σ ρ G H) : ∀ ws : List Nat, FrD P DF σ (wipeE ρ ws) G H
  | [] => F
  | w :: ws => (FrD.drops F ws).reslot trivial fun _ z => (nomatch z)
/-- a slot is set to a new list -/
theorem FrD.setO (F : FrD P DF σ ρ G H) {i : Nat} {a : Addr} {xs : List V} {ds : List PyData} (g : G a = none) (h0 : Fr0 P.H0 a) (hn : NotIn a DF) (e : H a = some (.lst xs)) (r : Rps P.K G xs ds) (no : ∀ (i : Nat) d, ρ[i]? = some (.own d) → σ[i]? ≠ some (some (.ref a))) :
    FrD P DF (σ.set i (some (.ref a))) (ρ.set i (.own (.list ds))) G H where
  len := by rw [List.length_set, List.length_set]; exact F.len
  sub := F.sub
  sub0 := F.sub0
  new := F.new
  keep0 := F.keep0
  df := F.df
  slots := fun j t q => by
    rw [get_set] at q ⊢
    rw [← F.len]
    split at q
    · rename_i h
      rw [if_pos h]
      cases q
      exact ⟨a, rfl, g, h0, hn, xs, e, r⟩
    · rename_i h
      rw [if_neg h]
      exact F.slots j t q
  own1 := fun j k d d' p h1 h2 h3 h4 => by
    rw [get_set] at h1 h2 h3 h4
    rw [← F.len] at h3 h4
    by_cases n1 : j = i ∧ i < ρ.length
    · rw [if_pos n1] at h1 h3
      by_cases n2 : k = i ∧ i < ρ.length
      · exact n1.1.trans n2.1.symm
      · rw [if_neg n2] at h2 h4
        cases h3
        exact absurd h4 (no k d' h2)
    · rw [if_neg n1] at h1 h3
      by_cases n2 : k = i ∧ i < ρ.length
      · rw [if_pos n2] at h2 h4
        cases h4
        exact absurd h3 (no j d h1)
      · rw [if_neg n2] at h2 h4
        exact F.own1 j k d d' p h1 h2 h3 h4
  dr := F.dr
  live0 := F.live0
  tab := F.tab
/-- a list of ours is written -/
theorem FrD.wr (F : FrD P DF σ ρ G H) {i : Nat} {a : Addr} {d : PyData} {ys : List V} {ds : List PyData} (e : ρ[i]? = some (.own d)) (s : σ[i]? = some (some (.ref a))) (r : Rps P.K G ys ds) : FrD P DF σ (ρ.set i (.own (.list ds))) G (upd H a (.lst ys)) := by
  obtain ⟨p, h1, h2, h3, h4, h5⟩ := F.slots i _ e
  obtain rfl : p = a := by rw [s] at h1; cases h1; rfl
  obtain ⟨zs, h6⟩ : ∃ zs, H p = some (.lst zs) := by
    cases d with
    | list ds => obtain ⟨xs, z, _⟩ := h5; exact ⟨xs, z⟩
    | _ => exact h5.elim
  have hi : i < ρ.length := (List.getElem?_eq_some_iff.mp e).1
  have F1 : FrD P DF σ (ρ.set i .un) G H := F.reslot trivial fun _ z => (nomatch z)
  have no : ∀ (j : Nat) d, (ρ.set i .un)[j]? = some (.own d) → σ[j]? ≠ some (some (.ref p)) := fun j d' q z => by
    rw [get_set] at q
    split at q
    · cases q
    · rename_i n
      exact n ⟨F.own1 j i d' d p q e z s, hi⟩
  have F2 := F1.poke (ys := ys) h6 h2 h3 h4 no
  have F3 := F2.setO (i := i) (a := p) h2 h3 h4 upd_same r no
  rw [List.set_set] at F3
  have : σ.set i (some (.ref p)) = σ := by
    refine List.ext_getElem? fun j => ?_
    rw [get_set]
    split
    · rename_i n; rw [n.1, s]
    · rfl
  rw [this] at F3
  exact F3
/-- a list of ours is from now on a value -/
theorem FrD.frz (F : FrD P DF σ ρ G H) {i : Nat} {d : PyData} (e : ρ[i]? = some (.own d)) : ∃ G', Sub G G' ∧ FrD P DF σ (ρ.set i (.v d)) G' H := by
  obtain ⟨p, h1, h2, h3, h4, h5⟩ := F.slots i _ e
  have hi : i < ρ.length := (List.getElem?_eq_some_iff.mp e).1
  cases d with
  | list ds =>
    obtain ⟨xs, z, r⟩ := h5
    have F1 : FrD P DF σ (ρ.set i .un) G H := F.reslot trivial fun _ z => (nomatch z)
    have no : ∀ (j : Nat) d, (ρ.set i .un)[j]? = some (.own d) → σ[j]? ≠ some (some (.ref p)) := fun j d' q z => by
      rw [get_set] at q
      split at q
      · cases q
      · rename_i n
        exact n ⟨F.own1 j i d' _ p q e z h1, hi⟩
    have F2 := F1.ice z h2 h3 h4 no
    have F3 := F2.reslot (i := i) (s := .v (.list ds)) ⟨.ref p, h1, .lst upd_same (r.mono (Sub.upd h2))⟩ fun _ z => (nomatch z)
    rw [List.set_set] at F3
    exact ⟨_, Sub.upd h2, F3⟩
  | _ => exact h5.elim
end
end Pv
set_option Elab.async false
set_option linter.all false
set_option maxRecDepth 100000
set_option maxHeartbeats 4000000
/-! Core 13: every row means what its compact text says. Own work. -/
set_option autoImplicit false
namespace Pv
open PySem PySem.Spec L2

/-- what is wanted behind rows, from the frozen part G on -/
structure KS (P : Px) (W : WX) (G : Hp) (D : Ends) (p : Fl → Prop) (e : Ex → Env → Prop) : Prop where
  nx : ∀ ρ' σ' H' DF' G', p (.nx ρ') → FrD P DF' σ' ρ' G' H' → Sub G G' → D.nx σ' H'
  bk : ∀ ρ' σ' H' DF' G', p (.bk ρ') → FrD P DF' σ' ρ' G' H' → Sub G G' → D.bk σ' H'
  ct : ∀ ρ' σ' H' DF' G', p (.ct ρ') → FrD P DF' σ' ρ' G' H' → Sub G G' → D.ct σ' H'
  rt : ∀ d ρ' σ' H' DF' G' v, p (.rt d ρ') → FrD P DF' σ' ρ' G' H' → Sub G G' → Rp P.K G' v d → D.rt v H'
  ex : ∀ x ρ' σ' H' DF' G' cls dx, e x ρ' → FrD P DF' σ' ρ' G' H' → Sub G G' → ExAt P G' x cls dx H' → W cls dx σ' H'
section
variable (P : Px) (C : Orc) (W : WX)
def tS (s : CS) : TS := fun D σ H => ∃ DF G ρ p e, FrD P DF σ ρ G H ∧ evS C s ρ p e ∧ KS P W G D p e
def tSs (s : CSs) : TS := fun D σ H => ∃ DF G ρ p e, FrD P DF σ ρ G H ∧ evSs C s ρ p e ∧ KS P W G D p e
end
/-- a def's own context -/
structure Cxs (P : Px) (C : Orc) (fns : List Str) (cs : List (Str × PyData)) (N : List Str) (X : Cx) (S : Scope) (W : WX) : Prop where
  f : Cxf P C fns cs N X S W
  fn : ∀ x, X.fn x = true
  po : PassesOwn (model X.prog X.w) X.A X.env X.xe
  lam : N.contains lamNm = true → LamOk P X
section
variable {P : Px} {C : Orc} {fns : List Str} {cs : List (Str × PyData)} {N : List Str} {X : Cx} {S : Scope} {W : WX}
theorem PS.mono {st : Stmt} {t t' : TS} (h : PS X st t) (m : ∀ D σ H, t' D σ H → t D σ H) : PS X st t' := ⟨fun pins s σ H D I q => h.run pins s σ H D I (m D σ H q)⟩
theorem PSs.mono {st : List Stmt} {t t' : TS} (h : PSs X st t) (m : ∀ D σ H, t' D σ H → t D σ H) : PSs X st t' := ⟨fun pins s σ H D I q => h.run pins s σ H D I (m D σ H q)⟩
section
variable {G G1 : Hp} {D : Ends} {p : Fl → Prop} {e : Ex → Env → Prop}
theorem KS.step (k : KS P W G D p e) (s : Sub G G1) : KS P W G1 D p e :=
  ⟨fun ρ' σ' H' DF' G' h F q => k.nx ρ' σ' H' DF' G' h F (s.trans q), fun ρ' σ' H' DF' G' h F q => k.bk ρ' σ' H' DF' G' h F (s.trans q), fun ρ' σ' H' DF' G' h F q => k.ct ρ' σ' H' DF' G' h F (s.trans q),
    fun d ρ' σ' H' DF' G' v h F q r => k.rt d ρ' σ' H' DF' G' v h F (s.trans q) r, fun x ρ' σ' H' DF' G' cls dx h F q r => k.ex x ρ' σ' H' DF' G' cls dx h F (s.trans q) r⟩
theorem KS.kx (k : KS P W G D p e) {DF : DFt} {σ : L2.St} {ρ : Env} {H : Hp} : KX P W DF σ ρ G H (fun x => e x ρ) := fun x H' G' cls dx hx F g ex => k.ex x ρ σ H' DF G' cls dx hx F g.sub ex
end
/-! ### stores of comprehensions -/
theorem swaps_no {e : Expr} (h : lcB e = false) (t : Option Expr) (l : Nat) (env : PySem.Env) : swapsWith e t l env = pure false := by
  cases e <;> first | rfl | cases h
theorem store_sc (hX : Cxs P C fns cs N X S W) {i : Nat} {x : Str} (h : stoB N S S i x = true) : X.N[i]? = some x ∧ Loc X.env.scope x := by
  obtain ⟨h1, h2⟩ := stoB_inv h
  rw [← hX.f.o.hN] at h1
  rw [← hX.f.o.sc] at h2
  exact ⟨h1, h2.elim .inl fun z => .inr z.2⟩
/-- name = e by e's value -/
theorem s_setV (hX : Cxs P C fns cs N X S W) {i : Nat} {x : Str} {py pos : Pos} {e : Expr} {t : TE} (h : stoB N S S i x = true) (he : PE X e t) (hs : swapsWith e (some (.Name x py)) pos.line X.env = pure false) : PS X (.Assign [.Name x py] e pos) (tAsg t (gName i)) := by
  obtain ⟨h1, h2⟩ := store_sc hX h
  exact ps_set hX.f.o.nd h1 h2 he hs (.inl (hX.fn x))
theorem comp_kind (hX : Cxs P C fns cs N X S W) {y : Str} {py p : Pos} {x : Expr} {gens : List Comprehension} {sc : Scope} {l : Nat} :
    swapsWith (.ListComp x gens sc p) (some (.Name y py)) l X.env = pure (X.env.blockKind == .function && X.env.kindOf y == some .local && py.line == p.line && !(sc.names.any fun (n, k) => n == y && (k == .local || k == .cell))) := rfl
/-- name = a new list -/
theorem s_setF (hX : Cxs P C fns cs N X S W) {i : Nat} {x : Str} {py pos : Pos} {e : Expr} {c : CE} (h : stoB N S S i x = true) (hf : frB c = true) (hm : mtE fns cs N S c e = true) : PS X (.Assign [.Name x py] e pos) (tAsg (tF P C W c) (gName i)) := by
  have hF := (okE (P := P) (C := C) (fns := fns) (cs := cs) (N := N) c).f hX.f hf hm
  by_cases hl : lcB e = false
  · exact s_setV hX h hF (swaps_no hl _ _ _)
  cases c with
  | lst es => rw [mtE] at hm; obtain ⟨xs, p, rfl, _⟩ := mLst_inv hm; exact absurd rfl hl
  | rng t a => rw [mtE] at hm; obtain ⟨p, q, z, r, t, rfl, _⟩ := mWrap_inv hm; exact absurd rfl hl
  | prim q es => rw [mtE] at hm; obtain ⟨x, p, y, ys, q, rfl, _⟩ := mCall_inv hm; exact absurd rfl hl
  | comp elt tg it t =>
    rw [mtE] at hm
    obtain ⟨x', tg', it', ifs, sc, p, rfl, h1, h2, h3, h4, h5⟩ := mComp_inv hm
    cases hb : (X.env.blockKind == .function && X.env.kindOf x == some .local && py.line == p.line && !(sc.names.any fun (n, k) => n == x && (k == .local || k == .cell))) with
    | false => exact s_setV hX h hF (by rw [comp_kind hX, hb])
    | true =>
      have hloc : X.env.scope.names.lookup x = some .local := by
        obtain ⟨hb, _⟩ := both hb
        obtain ⟨hb, _⟩ := both hb
        obtain ⟨_, hb⟩ := both hb
        exact eq_of_beq hb
      have ok : BlkOk X.N X.env.scope sc (ownOf N (tgs tg)) := by rw [hX.f.o.hN, hX.f.o.sc]; exact blkOk_by h1
      have bx := fun s H D cl fp => hX.f.blk s H sc D cl fp
      exact PS.mono (ps_setLc hX.f.o.calm hX.f.o.nd (store_sc hX h).1 hloc (by rw [comp_kind hX, hb]) (okI it hX.f (.inl rfl) h3) ok (fun s H D cl fp => pg_ok (bx s H D cl fp) (celB_fn s H D cl fp) h2)
        (fun s H D cl fp => ifs_ok h5 fun e z => ((okE t).t (bx s H D cl fp) (both z).1 (both z).2).1) (fun s H D cl fp => (okE elt).v (bx s H D cl fp) h4) (nofold (fine_I h3) _)) fun D σ H q => lc_ok (own_of (tgB_ix h2)) σ H _ q
  | comp2 elt tg it t tg1 it1 t1 =>
    rw [mtE] at hm
    obtain ⟨x', tg', it', ifs, tg1', it1', ifs1, sc, p, rfl, h1, h2, h3, h4, h5, h6, h7, h8⟩ := mComp2_inv hm
    obtain ⟨h5, h9⟩ := both h5
    cases hb : (X.env.blockKind == .function && X.env.kindOf x == some .local && py.line == p.line && !(sc.names.any fun (n, k) => n == x && (k == .local || k == .cell))) with
    | false => exact s_setV hX h hF (by rw [comp_kind hX, hb])
    | true =>
      have hloc : X.env.scope.names.lookup x = some .local := by
        obtain ⟨hb, _⟩ := both hb
        obtain ⟨hb, _⟩ := both hb
        obtain ⟨_, hb⟩ := both hb
        exact eq_of_beq hb
      have ok : BlkOk X.N X.env.scope sc (ownOf N (tgs tg ++ tgs tg1)) := by rw [hX.f.o.hN, hX.f.o.sc]; exact blkOk_by h1
      have bx := fun s H D cl fp => hX.f.blk s H sc D cl fp
      have ho : (ownOf N (tgs tg ++ tgs tg1)).map (·.2) = tgs tg ++ tgs tg1 := own_of fun i m => by
        rcases List.mem_append.mp m with m | m
        · exact tgB_ix h2 i m
        · exact tgB_ix h4 i m
      exact PS.mono (ps_setLc2 (vs1 := tgs tg1) hX.f.o.calm hX.f.o.nd (store_sc hX h).1 hloc (by rw [comp_kind hX, hb]) (okI it hX.f (.inl rfl) h3) ok (fun i m => by rw [ho]; exact List.mem_append_right _ m)
        (fun s H D cl fp => pg_ok (bx s H D cl fp) (celB_fn s H D cl fp) h2) (fun s H D cl fp => ifs_ok h7 fun e z => ((okE t).t (bx s H D cl fp) (both z).1 (both z).2).1) (fun s H D cl fp => okI it1 (bx s H D cl fp) (.inr h5) h9)
        (fun s H D cl fp => pg_ok (bx s H D cl fp) (celB_fn s H D cl fp) h4) (fun s H D cl fp => ifs_ok h8 fun e z => ((okE t1).t (bx s H D cl fp) (both z).1 (both z).2).1) (fun s H D cl fp => (okE elt).v (bx s H D cl fp) h6) (nofold (fine_I h3) _) (nofold (fine_I h9)))
        fun D σ H q => lc2_ok ho rfl σ H _ q
  | _ => cases hf
theorem mSet_inv {i : Nat} {lc : Bool} {f : Expr → Bool} {st : Stmt} (h : mSet N S i lc f st = true) : ∃ x p e q, st = .Assign [.Name x p] e q ∧ stoB N S S i x = true ∧ (lc || !lcB e) = true ∧ f e = true := by
  unfold mSet at h; split at h
  · obtain ⟨h1, h2⟩ := both h
    exact ⟨_, _, _, _, rfl, h1, both h2⟩
  · cases h
theorem s_set (hX : Cxs P C fns cs N X S W) {i : Nat} {c : CE} {st : Stmt} (h : mSet N S i (frB c) (mtE fns cs N S c) st = true) : PS X st (tS P C W (.set i c)) := by
  obtain ⟨x, p, e, q, rfl, h1, h2, h3⟩ := mSet_inv h
  cases hf : frB c with
  | true =>
    refine PS.mono (s_setF hX h1 hf h3) fun D σ H ⟨DF, G, ρ, p, e, F, ev, ks⟩ => ?_
    rw [evS] at ev
    refine ⟨DF, G, ρ, _, _, F, fr_list hf _ _ _ ev, fun a xs H' G' ds hd F' g n gn eq r => ?_, ks.kx⟩
    have kv : KV P DF σ ρ G H (fun d => p (.nx (ρ.set i (.v d)))) (fun v H' => D.nx (σ.set i (some v)) H') := fun v H' G' d hd F' g r => ks.nx _ _ _ _ _ hd (F'.setv r) g.sub
    exact KV.kf kv F a xs H' G' ds hd F' g n gn eq r
  | false =>
    rw [hf] at h2
    refine PS.mono (s_setV hX h1 ((okE c).v hX.f h3) (swaps_no (by simpa using h2) _ _ _)) fun D σ H ⟨DF, G, ρ, p, e, F, ev, ks⟩ => ?_
    rw [evS] at ev
    exact ⟨DF, G, ρ, _, _, F, ev, fun v H' G' d hd F' g r => ks.nx _ _ _ _ _ hd (F'.setv r) g.sub, ks.kx⟩
theorem s_own (hX : Cxs P C fns cs N X S W) {i : Nat} {c : CE} {st : Stmt} (h : mSet N S i true (fun x => frB c && mtE fns cs N S c x) st = true) : PS X st (tS P C W (.own i c)) := by
  obtain ⟨x, p, e, q, rfl, h1, h2, h3⟩ := mSet_inv h
  obtain ⟨hf, h3⟩ := both h3
  refine PS.mono (s_setF hX h1 hf h3) fun D σ H ⟨DF, G, ρ, p, e, F, ev, ks⟩ => ?_
  rw [evS] at ev
  exact ⟨DF, G, ρ, _, _, F, ev, fun a xs H' G' ds hd F' g n gn eq r => ks.nx _ _ _ _ _ hd (F'.setO gn (F.h0 n).1 (F.h0 n).2 eq r (fun j d z w => F.notOwn n j d z w)) g.sub, ks.kx⟩
theorem mUnp_inv {is : List Nat} {f : Expr → Bool} {st : Stmt} (h : mUnp N S is f st = true) : ∃ ts k p e q, st = .Assign [.Tuple ts k p] e q ∧ tgB N S S (.tp is) (.Tuple ts k p) = true ∧ lcB e = false ∧ tuB e = false ∧ f e = true := by
  unfold mUnp at h; split at h
  · obtain ⟨h1, h2⟩ := both h
    obtain ⟨h2, h3⟩ := both h2
    obtain ⟨h2, h4⟩ := both h2
    exact ⟨_, _, _, _, _, rfl, h1, by simpa using h2, by simpa using h4, h3⟩
  · cases h
theorem noswap {t e : Expr} (h : tuB e = false) (env : PySem.Env) : swappedStores [t] e env = pure none := by
  cases e <;> first | (cases t <;> rfl) | cases h
theorem s_unp (hX : Cxs P C fns cs N X S W) {is : List Nat} {c : CE} {st : Stmt} (h : mUnp N S is (mtE fns cs N S c) st = true) : PS X st (tS P C W (.unp is c)) := by
  obtain ⟨ts, k, p, e, q, rfl, h1, h2, h3, h4⟩ := mUnp_inv h
  refine PS.mono (ps_asg ((okE c).v hX.f h4) (pg_ok hX.f (fun x _ => hX.fn x) h1) (by rw [swapsWithSole]; exact swaps_no h2 _ _ _) (noswap h3 _) rfl) fun D σ H ⟨DF, G, ρ, p, e, F, ev, ks⟩ => ?_
  rw [evS] at ev
  refine ⟨DF, G, ρ, _, _, F, ev, fun v H' G' d hd F' g r => ?_, ks.kx⟩
  exact gT_ok (.tp is) (k := fun ρ' => p (.nx ρ')) F' r hd fun σ' ρ' hk F2 _ _ => ks.nx _ _ _ _ _ hk F2 g.sub
theorem mAug_inv {o : Op2} {i : Nat} {f : Expr → Bool} {st : Stmt} (h : mAug N S o i f st = true) : ∃ x p e q, st = .AugAssign (.Name x p) (op2O o) e q ∧ stoB N S S i x = true ∧ (o = .add ∨ o = .sub) ∧ f e = true := by
  unfold mAug at h; split at h
  · obtain ⟨h1, h2⟩ := both h
    obtain ⟨h2, h3⟩ := both h2
    obtain ⟨h2, h4⟩ := both h2
    obtain rfl := dec h2
    refine ⟨_, _, _, _, rfl, h1, ?_, h3⟩
    rw [Bool.or_eq_true] at h4
    exact h4.imp eq_of_beq eq_of_beq
  · cases h
theorem s_aug (hX : Cxs P C fns cs N X S W) {o : Op2} {i : Nat} {c : CE} {st : Stmt} (h : mAug N S o i (mtE fns cs N S c) st = true) : PS X st (tS P C W (.aug o i c)) := by
  obtain ⟨x, p, e, q, rfl, h1, h2, h3⟩ := mAug_inv h
  obtain ⟨k1, k2⟩ := store_sc hX h1
  have key : ∀ (g : Int → Int → Int), (∀ m n k, opD o (.int m) (.int n) k → k (.int (g m n))) → ∀ D σ H, tS P C W (.aug o i c) D σ H → tAug i (tV P C W c) (ipI g) D σ H := fun g hg D σ H ⟨DF, G, ρ, p, e, F, ev, ks⟩ => by
    rw [evS] at ev
    obtain ⟨d, e1, ev⟩ := slotV_inv ev
    obtain ⟨v, e2, r⟩ := F.slots i _ e1
    refine ⟨v, e2, DF, G, ρ, _, _, F, ev, fun y H' G' d2 hd F' g' r2 => ?_, ks.kx⟩
    replace hd := asI_inv hd
    obtain ⟨m, rfl, hd⟩ := hd
    replace hd := asI_inv hd
    obtain ⟨n, rfl, hd⟩ := hd
    cases r
    cases r2
    exact ⟨m, n, rfl, rfl, ks.nx _ _ _ _ _ (hg _ _ _ hd) (F'.setv (.int _)) g'.sub⟩
  rcases h2 with rfl | rfl
  · exact PS.mono (ps_aug hX.f.o.nd k1 k2 ((okE c).v hX.f h3) ip_add (.inl (hX.fn x))) (key _ fun m n k z => z)
  · exact PS.mono (ps_aug hX.f.o.nd k1 k2 ((okE c).v hX.f h3) ip_sub (.inl (hX.fn x))) (key _ fun m n k z => z)
theorem mMeth_inv {i : Nat} {m : Str} {f : Expr → Bool} {st : Stmt} (h : mMeth N S i m f st = true) : ∃ x p ap e cp q, st = .Expr (.Call (.Attribute (.Name x p) m ap) [e] [] cp) q ∧ mNm N S i (.Name x p) = true ∧ (ap.endLine == cp.line) = true ∧ f e = true := by
  unfold mMeth at h; split at h
  · obtain ⟨h1, h2⟩ := both h
    obtain ⟨h2, h3⟩ := both h2
    obtain ⟨h2, h4⟩ := both h2
    obtain rfl := dec h2
    exact ⟨_, _, _, _, _, _, rfl, h1, h4, h3⟩
  · cases h
theorem few1 {e : Expr} (h : fineX e = true) (env : PySem.Env) (cp : Pos) : ((backTo cp (starEach [e] env)).all (fun x => !x.1) && (backToKw cp (keywordEach [] env)).all (fun x => x.1.isSome)
      && decide (([e] : List Expr).length + ([] : List Keyword).length + (if ([] : List Keyword).isEmpty then 0 else 1) < 30)) = true := by
  rw [star_fine h]; rfl
theorem own_at {DF : DFt} {σ : L2.St} {ρ : Env} {G H : Hp} {i : Nat} {ds : List PyData} (F : FrD P DF σ ρ G H) (e : ρ[i]? = some (.own (.list ds))) : ∃ a xs, σ[i]? = some (some (.ref a)) ∧ H a = some (.lst xs) ∧ Rps P.K G xs ds ∧ NotIn a DF := by
  obtain ⟨p, h1, h2, h3, h4, xs, h5, h6⟩ := F.slots i _ e
  exact ⟨p, xs, h1, h5, h6, h4⟩
theorem s_app (hX : Cxs P C fns cs N X S W) {i : Nat} {c : CE} {st : Stmt} (h : mMeth N S i "append" (mtE fns cs N S c) st = true) : PS X st (tS P C W (.app i c)) := by
  obtain ⟨x, p, ap, e, cp, q, rfl, h1, h2, h3⟩ := mMeth_inv h
  have fx := mtE_fine h3
  have he := (okE (P := P) (C := C) c).v hX.f h3
  refine PS.mono (ps_expr (pe_bm PySem.F.plainAttrs_list PySem.F.slot_list_append PySem.F.type_list_append mt_append (e_var hX.f h1) (pa_cons he pa_nil (star_fine fx _ _)) rfl (few1 fx _ _) h2 (star_fine fx _ _) rfl)) fun D σ H ⟨DF, G, ρ, p, e, F, ev, ks⟩ => ?_
  rw [evS] at ev
  obtain ⟨o, e1, ev⟩ := slotO_inv ev
  obtain ⟨ds, rfl, ev⟩ := asL_inv ev
  obtain ⟨a, xs, s1, s2, r, nd⟩ := own_at F e1
  refine ⟨.ref a, s1, .inl ⟨rfl, xs, SqL.of s2⟩, DF, G, ρ, _, _, F, ev, fun v H' G' d ⟨hz, hd⟩ F' g r' => ?_, ks.kx⟩
  have s3 := g.keep a _ s2 trivial nd
  refine ⟨a, xs, v, rfl, rfl, s3, ?_, ks.nx _ _ _ _ _ hd (F'.wr e1 s1 ((r.mono g.sub).append (.cons r' .nil))) g.sub⟩
  rw [r.length]
  exact Nat.lt_of_lt_of_le hz line_lim
theorem s_ext (hX : Cxs P C fns cs N X S W) {i : Nat} {c : CE} {st : Stmt} (h : mMeth N S i "extend" (mtE fns cs N S c) st = true) : PS X st (tS P C W (.ext i c)) := by
  obtain ⟨x, p, ap, e, cp, q, rfl, h1, h2, h3⟩ := mMeth_inv h
  have fx := mtE_fine h3
  have he := (okE (P := P) (C := C) c).v hX.f h3
  refine PS.mono (ps_expr (pe_bm PySem.F.plainAttrs_list PySem.F.slot_list_extend PySem.F.type_list_extend mt_extend (e_var hX.f h1) (pa_cons he pa_nil (star_fine fx _ _)) rfl (few1 fx _ _) h2 (star_fine fx _ _) rfl)) fun D σ H ⟨DF, G, ρ, p, e, F, ev, ks⟩ => ?_
  rw [evS] at ev
  obtain ⟨o, e1, ev⟩ := slotO_inv ev
  obtain ⟨ds, rfl, ev⟩ := asL_inv ev
  obtain ⟨a, xs, s1, s2, r, nd⟩ := own_at F e1
  refine ⟨.ref a, s1, .inl ⟨rfl, xs, SqL.of s2⟩, DF, G, ρ, _, _, F, ev, fun v H' G' d hd F' g r' => ?_, ks.kx⟩
  replace hd := asL_inv hd
  obtain ⟨es, rfl, hz, hd⟩ := hd
  have s3 := g.keep a _ s2 trivial nd
  cases r' with
  | lst e r' =>
    refine ⟨a, _, xs, _, rfl, rfl, s3, F'.sub _ _ e, ?_, ks.nx _ _ _ _ _ hd (F'.wr e1 s1 ((r.mono g.sub).append r')) g.sub⟩
    rw [r.length, r'.length]
    exact Nat.le_trans hz line_lim
theorem mTs_inv {f : Expr → Bool} {e : Expr} (h : mTs S f e = true) : ∃ p x q, e = .Call (.Name "tuple" p) [x] [] q ∧ glB S "tuple" = true ∧ f x = true := by
  unfold mTs at h; split at h
  · obtain ⟨h1, h2⟩ := both h
    obtain ⟨h1, h3⟩ := both h1
    obtain rfl := dec h1
    exact ⟨_, _, _, rfl, h3, h2⟩
  · cases h
theorem mSrt_fine {j : Nat} {e : Expr} (h : mSrt N S j e = true) : fineX e = true := by
  unfold mSrt at h; split at h
  · rfl
  · cases h
theorem s_apps (hX : Cxs P C fns cs N X S W) {i j : Nat} {st : Stmt} (h : (N.contains lamNm && mMeth N S i "append" (mTs S (mSrt N S j)) st) = true) : PS X st (tS P C W (.apps i j)) := by
  obtain ⟨hl, h⟩ := both h
  obtain ⟨x, p, ap, e, cp, q, rfl, h1, h2, h3⟩ := mMeth_inv h
  obtain ⟨p1, z, q1, rfl, g, h4⟩ := mTs_inv h3
  have fz := mSrt_fine h4
  obtain ⟨g1, g2⟩ := hX.f.glo g
  have hs := pe_srt hX.f (hX.lam hl) h4
  have ht := pe_callTy (pos := q1) (p := p1) call_tuple_of g1 (hX.f.o.free _ (by decide)) PyProof.Rows.boot_tuple (pa_cons hs pa_nil (star_fine fz _ _)) (by decide) g2 (star_fine fz _ _) rfl
  refine PS.mono (ps_expr (pe_bm PySem.F.plainAttrs_list PySem.F.slot_list_append PySem.F.type_list_append mt_append (e_var hX.f h1) (pa_cons ht pa_nil (star_fine rfl _ _)) rfl (few1 rfl _ _) h2 (star_fine rfl _ _) rfl)) fun D σ H ⟨DF, G, ρ, p, e, F, ev, ks⟩ => ?_
  rw [evS] at ev
  obtain ⟨o, e1, ev⟩ := slotO_inv ev
  obtain ⟨ds, rfl, ev⟩ := asL_inv ev
  obtain ⟨d, e2, ev⟩ := slotV_inv ev
  obtain ⟨ys, hd, hc, hz, hp⟩ := asS_inv ev
  obtain ⟨a, xs, s1, s2, r, nd⟩ := own_at F e1
  refine ⟨.ref a, s1, .inl ⟨rfl, xs, SqL.of s2⟩, DF, G, ρ, d, ys, F, e2, hd, hc, fun b H' G' zs F' g n1 n2 eb rb => ?_⟩
  refine ⟨b, zs, rfl, .inl ⟨SqL.of eb, fun l hl' => ?_⟩⟩
  obtain ⟨F2, g2, e3⟩ := F'.freeze (o := .tup zs) hl'
  have s3 := (g.trans g2).keep a _ s2 trivial nd
  refine ⟨a, xs, .ref l, rfl, rfl, s3, ?_, ks.nx _ _ _ _ _ hp (F2.wr e1 s1 ((r.mono (g.trans g2).sub).append (.cons (.tup (SqT.of e3) (rb.mono g2.sub)) .nil))) (g.trans g2).sub⟩
  rw [r.length]
  exact Nat.lt_of_lt_of_le hz line_lim
theorem mSeti_inv {i : Nat} {f g : Expr → Bool} {st : Stmt} (h : mSeti N S i f g st = true) : ∃ x p a q e r, st = .Assign [.Subscript (.Name x p) a q] e r ∧ mNm N S i (.Name x p) = true ∧ lcB e = false ∧ f a = true ∧ g e = true := by
  unfold mSeti at h; split at h
  · obtain ⟨h1, h2⟩ := both h
    obtain ⟨h2, h3⟩ := both h2
    exact ⟨_, _, _, _, _, _, rfl, h1, by simpa using h2, both h3⟩
  · cases h
theorem asg_sub {o b : Expr} {q : Pos} (h : fineX b = true) (env : PySem.Env) : ∀ v, assign (.Subscript o b q) env v = (do
      let ov ← holding [v] (eval o env)
      let iv ← holding [v, ov] (eval b env)
      standAt q
      holding [v, ov, iv] (setItem ov iv v)
      release [v, ov, iv] []) := fun v => by
  cases b <;> first | rfl | cases h
theorem s_seti (hX : Cxs P C fns cs N X S W) {i : Nat} {a c : CE} {st : Stmt} (h : mSeti N S i (mtE fns cs N S a) (mtE fns cs N S c) st = true) : PS X st (tS P C W (.seti i a c)) := by
  obtain ⟨x, p, b, q, e, r, rfl, h1, h2, h3, h4⟩ := mSeti_inv h
  refine PS.mono (ps_asg ((okE (P := P) (C := C) c).v hX.f h4) (pg_sub (e_var hX.f h1) ((okE (P := P) (C := C) a).v hX.f h3) set_list (asg_sub (mtE_fine h3) _)) (by rw [swapsWithSole]; exact swaps_no h2 _ _ _) (by cases e <;> rfl) rfl) fun D σ H ⟨DF, G, ρ, p, e, F, ev, ks⟩ => ?_
  rw [evS] at ev
  refine ⟨DF, G, ρ, _, _, F, ev, fun v H1 G1 d hd F1 g1 r1 => ?_, ks.kx⟩
  obtain ⟨o, e1, hd⟩ := slotO_inv hd
  replace hd := asL_inv hd
  obtain ⟨ds, rfl, hd⟩ := hd
  obtain ⟨a, xs, s1, s2, r, nd⟩ := own_at F1 e1
  refine ⟨.ref a, s1, DF, G1, ρ, _, _, F1, hd, fun u H2 G2 d2 hd2 F2 g2 r2 => ?_, ks.kx.step g1⟩
  replace hd2 := asI_inv hd2
  obtain ⟨n, rfl, hd2⟩ := hd2
  have : ∃ j, ixN ds.length n = some j ∧ p (.nx (ρ.set i (.own (.list (ds.set j d))))) := by
    cases hj : ixN ds.length n with
    | none => rw [hj] at hd2; exact hd2.elim
    | some j => rw [hj] at hd2; exact ⟨j, rfl, hd2⟩
  obtain ⟨j, hj, hp⟩ := this
  cases r2
  refine ⟨a, xs, n, j, rfl, rfl, g2.keep a _ s2 trivial nd, by rw [r.length]; exact hj, ks.nx _ _ _ _ _ hp (F2.wr e1 s1 (Rps.set (r1.mono g2.sub) j (r.mono g2.sub))) (g1.sub.trans g2.sub)⟩
/-! ### small rows -/
theorem s_ex (hX : Cxs P C fns cs N X S W) {c : CE} {st : Stmt} (h : mEx (mtE fns cs N S c) st = true) : PS X st (tS P C W (.ex c)) := by
  unfold mEx at h; split at h
  · rename_i e q
    obtain ⟨h1, h2⟩ := both h
    refine PS.mono (ps_expr ((okE (P := P) (C := C) c).v hX.f h2) (swaps_no (by simpa using h1) _ _ _)) fun D σ H ⟨DF, G, ρ, p, e, F, ev, ks⟩ => ?_
    rw [evS] at ev
    exact ⟨DF, G, ρ, _, _, F, ev, fun v H1 G1 d hd F1 g1 r1 => ks.nx _ _ _ _ _ hd F1 g1.sub, ks.kx⟩
  · cases h
theorem s_ret (hX : Cxs P C fns cs N X S W) {c : CE} {st : Stmt} (h : mRet (isNo c) (mtE fns cs N S c) st = true) : PS X st (tS P C W (.ret c)) := by
  unfold mRet at h; split at h
  · refine PS.mono (ps_ret ((okE (P := P) (C := C) c).v hX.f h)) fun D σ H ⟨DF, G, ρ, p, e, F, ev, ks⟩ => ?_
    rw [evS] at ev
    exact ⟨DF, G, ρ, _, _, F, ev, fun v H1 G1 d hd F1 g1 r1 => ks.rt _ _ _ _ _ _ _ hd F1 g1.sub r1, ks.kx⟩
  · obtain rfl := isNo_inv h
    refine PS.mono ps_retN fun D σ H ⟨DF, G, ρ, p, e, F, ev, ks⟩ => ?_
    exact ks.rt .none ρ σ H DF G .non ev F (Sub.refl _) .non
  · cases h
theorem s_never {st : Stmt} : PS X st (tS P C W .never) := PS.mono ps_never fun D σ H ⟨DF, G, ρ, p, e, F, ev, ks⟩ => ev
theorem s_brk {st : Stmt} (h : mBrk st = true) : PS X st (tS P C W .brk) := by
  unfold mBrk at h; split at h
  · exact PS.mono ps_break fun D σ H ⟨DF, G, ρ, p, e, F, ev, ks⟩ => ks.bk _ _ _ _ _ ev F (Sub.refl _)
  · cases h
theorem s_cont {st : Stmt} (h : mCon st = true) : PS X st (tS P C W .cont) := by
  unfold mCon at h; split at h
  · exact PS.mono ps_continue fun D σ H ⟨DF, G, ρ, p, e, F, ev, ks⟩ => ks.ct _ _ _ _ _ ev F (Sub.refl _)
  · cases h
theorem s_ifs (hX : Cxs P C fns cs N X S W) {t : CE} {a b : CSs} {st : Stmt} {g k : List Stmt → Bool} (h : mIf (fun x => tstB t && mtE fns cs N S t x) g k st = true) (ha : ∀ ss, g ss = true → PSs X ss (tSs P C W a)) (hb : ∀ ss, k ss = true → PSs X ss (tSs P C W b)) : PS X st (tS P C W (.ifs t a b)) := by
  unfold mIf at h; split at h
  · obtain ⟨h1, h2⟩ := both h
    obtain ⟨h1, h3⟩ := both h1
    obtain ⟨h2, h4⟩ := both h2
    refine PS.mono (ps_if ((okE (P := P) (C := C) t).t hX.f h1 h3).1 (ha _ h2) (hb _ h4)) fun D σ H ⟨DF, G, ρ, p, e, F, ev, ks⟩ => ?_
    rw [evS] at ev
    refine ⟨DF, G, ρ, _, _, F, ev, fun c H1 G1 hd F1 g1 => ?_, ks.kx⟩
    cases c with
    | true => rw [if_pos rfl] at hd ⊢; exact ⟨DF, G1, ρ, p, e, F1, hd, ks.step g1.sub⟩
    | false => rw [if_neg (by decide)] at hd ⊢; exact ⟨DF, G1, ρ, p, e, F1, hd, ks.step g1.sub⟩
  · cases h
/-! ### loops -/
theorem s_whl (hX : Cxs P C fns cs N X S W) {t : CE} {b : CSs} {st : Stmt} {g : List Stmt → Bool} (h : mWhl (fun x => tstB t && mtE fns cs N S t x) g st = true) (hb : ∀ ss, g ss = true → PSs X ss (tSs P C W b)) : PS X st (tS P C W (.whl t b)) := by
  unfold mWhl at h; split at h
  · obtain ⟨h1, h2⟩ := both h
    obtain ⟨h1, h3⟩ := both h1
    refine PS.mono (ps_while hX.po ((okE (P := P) (C := C) t).t hX.f h1 h3).1 (hb _ h2)) fun D σ H ⟨DF, G, ρ, p, e, F, ev, ks⟩ => ?_
    rw [evS] at ev
    obtain ⟨M, ⟨n0, m0⟩, step⟩ := ev
    refine ⟨fun n σ H => ∃ DF' G' ρ', FrD P DF' σ ρ' G' H ∧ Sub G G' ∧ M n ρ', ⟨n0, DF, G, ρ, F, Sub.refl _, m0⟩, ?_⟩
    rintro n σ1 H1 ⟨DF1, G1, ρ1, F1, s1, m1⟩
    refine ⟨DF1, G1, ρ1, _, _, F1, step n ρ1 m1, fun c H2 G2 hd F2 g2 => ?_, (ks.step s1).kx⟩
    cases c with
    | true =>
      rw [if_pos rfl] at hd ⊢
      refine ⟨fun σ' H' => ∃ m', m' < n ∧ ∃ DF' G' ρ', FrD P DF' σ' ρ' G' H' ∧ Sub G G' ∧ M m' ρ', fun σ' H' hN => hN, DF1, G2, ρ1, _, e, F2, hd, ?_⟩
      have nn : ∀ ρ' σ' H' DF' G', (∃ m, m < n ∧ M m ρ') → FrD P DF' σ' ρ' G' H' → Sub G2 G' → ∃ m', m' < n ∧ ∃ DF' G' ρ', FrD P DF' σ' ρ' G' H' ∧ Sub G G' ∧ M m' ρ' := fun ρ' σ' H' DF' G' ⟨m, hm, hM⟩ F' s' => ⟨m, hm, DF', G', ρ', F', s1.trans (g2.sub.trans s'), hM⟩
      have k2 := ks.step (s1.trans g2.sub)
      exact ⟨nn, fun ρ' σ' H' DF' G' hp F' s' => k2.nx _ _ _ _ _ hp F' s', nn, fun d ρ' σ' H' DF' G' v hp F' s' r => k2.rt _ _ _ _ _ _ _ hp F' s' r, k2.ex⟩
    | false =>
      rw [if_neg (by decide)] at hd ⊢
      exact ks.nx _ _ _ _ _ hd F2 (s1.trans g2.sub)
  · cases h
theorem s_fors (hX : Cxs P C fns cs N X S W) {tg : Tg} {it : CI} {b : CSs} {ws : List Nat} {st : Stmt} {g : List Stmt → Bool} (h : mFor N S tg (fun x => noBo it && mtI fns cs N S it x) g st = true) (hb : ∀ ss, g ss = true → PSs X ss (tSs P C W b)) : PS X st (tS P C W (.fors tg it b ws)) := by
  unfold mFor at h; split at h
  · obtain ⟨h1, h2⟩ := both h
    obtain ⟨h2, h3⟩ := both h2
    obtain ⟨h2, h4⟩ := both h2
    refine PS.mono (ps_for hX.po hX.f.o.calm (okI (P := P) (C := C) it hX.f (b := false) (.inr h2) h4) (pg_ok hX.f (fun x _ => hX.fn x) h1) (hb _ h3) (nofold (fine_I h4) _)) fun D σ H ⟨DF, G, ρ, p, e, F, ev, ks⟩ => ?_
    rw [evS] at ev
    refine ⟨DF, G, ρ, _, _, F, ev, fun J H1 G1 as hp F1 g1 itd => ?_, ks.kx⟩
    refine ⟨fun i m σ2 H2 => m = as.length - i ∧ i ≤ as.length ∧ ∃ DF2 G2 ρ2, FrD P DF2 σ2 ρ2 G2 H2 ∧ Sub G1 G2 ∧ forL tg ws (fun ρ1 q => evSs C b ρ1 q e) (as.drop i) ρ2 p, ⟨as.length, rfl, Nat.zero_le _, DF, G1, ρ, F1, Sub.refl _, hp⟩, ?_⟩
    rintro i m σ2 H2 ⟨rfl, hi, DF2, G2, ρ2, F2, s2, hf⟩
    have it2 : ItD false P.K DF2 G2 H2 J as := itd.sub s2
    by_cases hlt : i < as.length
    · refine .inr ⟨it2.go F2.sub hlt, fun σ3 H3 => ∃ DF3 G3 ρ3, FrD P DF3 σ3 ρ3 G3 H3 ∧ Sub G1 G3 ∧ forL tg ws (fun ρ1 q => evSs C b ρ1 q e) (as.drop (i + 1)) ρ3 p, fun σ3 H3 h3 => ⟨as.length - (i + 1), by omega, rfl, hlt, h3⟩, fun x H3 hy => ?_⟩
      obtain ⟨rfl, d, hd, rx⟩ := it2.yld F2.sub hlt hy
      rw [drop_get hd, forL] at hf
      refine gT_ok tg F2 rx hf fun σ3 ρ3 hev F3 _ _ => ⟨DF2, G2, ρ3, _, e, F3, hev, ?_⟩
      have k2 := ks.step (g1.sub.trans s2)
      have nn : ∀ ρ' σ' H' DF' G', forL tg ws (fun ρ1 q => evSs C b ρ1 q e) (as.drop (i + 1)) (wipeE ρ' ws) p → FrD P DF' σ' ρ' G' H' → Sub G2 G' → ∃ DF3 G3 ρ3, FrD P DF3 σ' ρ3 G3 H' ∧ Sub G1 G3 ∧ forL tg ws (fun ρ1 q => evSs C b ρ1 q e) (as.drop (i + 1)) ρ3 p :=
        fun ρ' σ' H' DF' G' hl F' s' => ⟨DF', G', wipeE ρ' ws, F'.drops ws, s2.trans s', hl⟩
      exact ⟨nn, fun ρ' σ' H' DF' G' hp F' s' => k2.nx _ _ _ _ _ hp (F'.drops ws) s', nn, fun d ρ' σ' H' DF' G' v hp F' s' r => k2.rt _ _ _ _ _ _ _ hp F' s' r, k2.ex⟩
    · obtain rfl : i = as.length := by omega
      rw [List.drop_length, forL] at hf
      exact .inl ⟨it2.stop F2.sub, ks.nx _ _ _ _ _ hf F2 (g1.sub.trans s2)⟩
  · cases h
end
end Pv
set_option Elab.async false
set_option linter.all false
set_option maxRecDepth 100000
set_option maxHeartbeats 4000000
/-! Core 14: rows of several names; blocks of rows. Own work. -/
set_option autoImplicit false
namespace Pv
open PySem PySem.Spec L2

theorem dups2 {x y : Str} (hxy : x ≠ y) : ([x, y] : List Str).eraseDups = [x, y] := by
  have : (y == x) = false := by simpa using Ne.symm hxy
  simp [List.eraseDups, List.eraseDupsBy, List.eraseDupsBy.loop, this]
theorem dups3 {x y z : Str} (hxy : x ≠ y) (hxz : x ≠ z) (hyz : y ≠ z) : ([x, y, z] : List Str).eraseDups = [x, y, z] := by
  have h1 : (y == x) = false := by simpa using Ne.symm hxy
  have h2 : (z == x) = false := by simpa using Ne.symm hxz
  have h3 : (z == y) = false := by simpa using Ne.symm hyz
  simp [List.eraseDups, List.eraseDupsBy, List.eraseDupsBy.loop, h1, h2, h3]
theorem sw2 {env : PySem.Env} {x y : Str} {px py pt p2 : Pos} {kt k2 : Nat} {v w : Expr} (hb : env.blockKind = .function) (kx : env.kindOf x = some .local) (ky : env.kindOf y = some .local) (hl : py.line = px.line) (hxy : x ≠ y)
    (g1 : [v, w].all (foldedForSure 8) = false) (g2 : [v, w].all (constantsAlone 8) = false) (f : ∀ e ∈ [v, w], fineX e = true) : swappedStores [.Tuple [.Name x px, .Name y py] kt pt] (.Tuple [v, w] k2 p2) env = pure (some [x, y]) := by
  have hd := dups2 hxy
  unfold swappedStores
  dsimp only
  rw [if_neg (by simp [hb])]
  split
  · rename_i h
    obtain ⟨e, m, q⟩ := List.any_eq_true.mp h
    have := f e m
    cases e <;> first | (cases this; done) | (cases q; done)
  · split
    · rename_i h
      simp [kx, ky, hl, hd, Expr.pos] at h
    · rw [if_neg (by rw [g1]; decide), if_neg (by rw [g2]; decide)]
      simp [kx, ky, hl, Expr.pos]
theorem sw3 {env : PySem.Env} {x y z : Str} {px py pz pt p2 : Pos} {kt k2 : Nat} {v w u : Expr} (hb : env.blockKind = .function) (kx : env.kindOf x = some .local) (ky : env.kindOf y = some .local) (kz : env.kindOf z = some .local) (hl : py.line = px.line) (hl3 : pz.line = px.line)
    (hxy : x ≠ y) (hxz : x ≠ z) (hyz : y ≠ z) (g1 : [v, w, u].all (foldedForSure 8) = false) (g2 : [v, w, u].all (constantsAlone 8) = false) (f : ∀ e ∈ [v, w, u], fineX e = true) :
    swappedStores [.Tuple [.Name x px, .Name y py, .Name z pz] kt pt] (.Tuple [v, w, u] k2 p2) env = pure (some [x, y, z]) := by
  have hd := dups3 hxy hxz hyz
  unfold swappedStores
  dsimp only
  rw [if_neg (by simp [hb])]
  split
  · rename_i h
    obtain ⟨e, m, q⟩ := List.any_eq_true.mp h
    have := f e m
    cases e <;> first | (cases this; done) | (cases q; done)
  · split
    · rename_i h
      simp [kx, ky, kz, hl, hl3, hd, Expr.pos] at h
    · rw [if_neg (by rw [g1]; decide), if_neg (by rw [g2]; decide)]
      simp [kx, ky, kz, hl, hl3, Expr.pos]
/-- the flagged ones -/
def flg : List Bool → List V → List V
  | true :: fl, v :: vs => v :: flg fl vs
  | false :: fl, _ :: vs => flg fl vs
  | _, _ => []
/-- values, and (flagged) new lists; H: the heap before -/
inductive Rfs (K : PySem.W.Frag) (H G' H' : Hp) : List Bool → List V → List PyData → Prop
  | nil : Rfs K H G' H' [] [] []
  | v {fl vs ds v d} : Rp K G' v d → Rfs K H G' H' fl vs ds → Rfs K H G' H' (false :: fl) (v :: vs) (d :: ds)
  | o {fl vs ds a xs ys} : Fr0 H a → G' a = none → H' a = some (.lst xs) → Rps K G' xs ys → V.ref a ∉ flg fl vs → Rfs K H G' H' fl vs ds → Rfs K H G' H' (true :: fl) (.ref a :: vs) (.list ys :: ds)
section
variable {P : Px} {C : Orc} {fns : List Str} {cs : List (Str × PyData)} {N : List Str} {X : Cx} {S : Scope} {W : WX}
theorem Rfs.new {K : PySem.W.Frag} {H G' H' : Hp} : ∀ {fl : List Bool} {vs : List V} {ds : List PyData} {a : Addr}, Rfs K H G' H' fl vs ds → V.ref a ∈ flg fl vs → Fr0 H a
  | _, _, _, a, .nil, m => by cases m
  | _, _, _, a, .v _ r, m => Rfs.new r m
  | _, _, _, a, .o h _ _ _ _ r, m => by
    rcases List.mem_cons.mp m with e | m
    · cases e; exact h
    · exact Rfs.new r m
theorem Rfs.weak {K : PySem.W.Frag} {H H0 G' H' : Hp} (l : ∀ a, Fr0 H a → Fr0 H0 a) : ∀ {fl : List Bool} {vs : List V} {ds : List PyData}, Rfs K H G' H' fl vs ds → Rfs K H0 G' H' fl vs ds
  | _, _, _, .nil => .nil
  | _, _, _, .v h r => .v h (Rfs.weak l r)
  | _, _, _, .o a b c d e r => .o (l _ a) b c d e (Rfs.weak l r)
def tPa (P : Px) (C : Orc) (W : WX) (fl : List Bool) (c : CEs) : TA := fun σ H Q => ∃ DF G ρ p e, FrD P DF σ ρ G H ∧ evEs C c ρ p e ∧ (∀ vs H' G' ds, p ds → FrD P DF σ ρ G' H' → Gr P.T DF G H G' H' → Rfs P.K H G' H' fl vs ds → Q vs H') ∧ KX P W DF σ ρ G H e
theorem pa_ok (hX : Cxf P C fns cs N X S W) : ∀ (is : List (Nat × Bool)) (c : CEs) (es : List Expr), mtPs fns cs N S is c es = true → PA X es (tPa P C W (is.map (·.2)) c) ∧ ∀ e ∈ es, fineX e = true
  | [], .nil, es, h => by
    rw [mtPs] at h
    rw [isNil_inv h]
    exact ⟨PA.mono pa_nil fun σ H Q ⟨DF, G, ρ, p, e, F, ev, k, kx⟩ => k _ _ _ _ ev F (Gr.refl _ _ _ _) .nil, fun _ m => by cases m⟩
  | [], .cons _ _, es, h => by cases (show false = true from h)
  | i :: is, .nil, es, h => by cases (show false = true from h)
  | (i, fl) :: is, .cons a c, es, h => by
    rw [mtPs] at h
    obtain ⟨x, xs, rfl, h1, h2⟩ := mCons_inv h
    obtain ⟨h1, h3⟩ := both h1
    obtain ⟨ih, ifx⟩ := pa_ok hX is c xs h2
    have fx := mtE_fine h3
    refine ⟨?_, fun e m => (List.mem_cons.mp m).elim (fun z => z ▸ fx) (ifx e)⟩
    cases fl with
    | false =>
      refine PA.mono (pa_cons ((okE a).v hX h3) ih (star_fine fx _ _)) fun σ H Q ⟨DF, G, ρ, p, e, F, ev, k, kx⟩ => ?_
      rw [evEs] at ev
      exact ⟨DF, G, ρ, _, e, F, ev, fun v H1 G1 d hd F1 g1 r1 => ⟨DF, G1, ρ, _, e, F1, hd, fun vs H2 G2 ds hd2 F2 g2 rs =>
        k _ _ _ _ hd2 F2 (g1.trans g2) (.v (r1.mono g2.sub) (rs.weak fun a n => g1.live a n)), KX.step kx g1⟩, kx⟩
    | true =>
      have hf : frB a = true := by simpa using h1
      refine PA.mono (pa_cons ((okE a).f hX hf h3) ih (star_fine fx _ _)) fun σ H Q ⟨DF, G, ρ, p, e, F, ev, k, kx⟩ => ?_
      rw [evEs] at ev
      refine ⟨DF, G, ρ, _, e, F, ev, fun b xs H1 G1 d hd F1 g1 n1 n2 e1 r1 => ⟨DF, G1, ρ, _, e, F1, hd, fun vs H2 G2 ds hd2 F2 g2 rs => ?_, KX.step kx g1⟩, kx⟩
      have e2 := g2.keep b _ e1 trivial (F.notDF n1)
      have n3 : G2 b = none := by
        cases q : G2 b with
        | none => rfl
        | some o =>
          rcases g2.new b o q with z | z
          · rw [n2] at z; cases z
          · exact (z.no e1).elim
      exact k _ _ _ _ hd2 F2 (g1.trans g2) (.o n1 n3 e2 (r1.mono g2.sub) (fun m => (rs.new m).no e1) (rs.weak fun a n => g1.live a n))
/-- the slots set, from the left -/
def setVs : List Nat → List V → L2.St → L2.St
  | i :: is, v :: vs, σ => setVs is vs (σ.set i (some v))
  | _, _, σ => σ
theorem sets_ok {DF : DFt} {G H H0 : Hp} {k : Env → Prop} (h0 : ∀ a, Fr0 H0 a → Fr0 P.H0 a ∧ NotIn a DF) : ∀ (is : List (Nat × Bool)) {vs : List V} {ds : List PyData} {σ : L2.St} {ρ : Env}, FrD P DF σ ρ G H → Rfs P.K H0 G H (is.map (·.2)) vs ds →
    (∀ a, V.ref a ∈ flg (is.map (·.2)) vs → ∀ (j : Nat) d, ρ[j]? = some (.own d) → σ[j]? ≠ some (some (.ref a))) → setsL is ds ρ k → ∃ ρ', k ρ' ∧ FrD P DF (setVs (is.map (·.1)) vs σ) ρ' G H ∧ vs.length = is.length
  | [], vs, ds, σ, ρ, F, r, no, h => by
    cases r
    exact ⟨ρ, h, F, rfl⟩
  | (i, fl) :: is, vs, ds, σ, ρ, F, r, no, h => by
    cases r with
    | v r1 r2 =>
      obtain ⟨ρ', a, b, c⟩ := sets_ok h0 is (F.setv (i := i) r1) r2 (fun a m j d e => by
        rw [get_set] at e ⊢
        rw [← F.len]
        split at e
        · cases e
        · rename_i n; rw [if_neg n]; exact no a m j d e) h
      exact ⟨ρ', a, b, by rw [List.length_cons, c]; rfl⟩
    | @o _ vs ds a xs ys n1 n2 e1 r1 nm r2 =>
      have na := no a List.mem_cons_self
      obtain ⟨ρ', p, q, c⟩ := sets_ok h0 is (F.setO (i := i) n2 (h0 a n1).1 (h0 a n1).2 e1 r1 na) r2 (fun b m j d e => by
        rw [get_set] at e ⊢
        rw [← F.len]
        split at e
        · rename_i n
          rw [if_pos n]
          intro z
          cases z
          exact nm m
        · rename_i n
          rw [if_neg n]; exact no b (List.mem_cons_of_mem _ m) j d e) h
      exact ⟨ρ', p, q, by rw [List.length_cons, c]; rfl⟩
theorem par_ok {is : List (Nat × Bool)} {c : CEs} {D : Ends} {σ : L2.St} {H : Hp} (h : tS P C W (.par is c) D σ H) : tPa P C W (is.map (·.2)) c σ H (fun vs H1 => vs.length = is.length ∧ D.nx (setVs (is.map (·.1)) vs σ) H1) := by
  obtain ⟨DF, G, ρ, p, e, F, ev, ks⟩ := h
  rw [evS] at ev
  refine ⟨DF, G, ρ, _, _, F, ev, fun vs H' G' ds hd F' g r => ?_, ks.kx⟩
  obtain ⟨ρ', h1, h2, h3⟩ := sets_ok (H0 := H) (fun a n => F.h0 n) is F' r (fun a m j d q => F.notOwn (r.new m) j d q) hd
  exact ⟨h3, ks.nx _ _ _ _ _ h1 h2 g.sub⟩
theorem setsL_flat {k : Env → Prop} : ∀ (is : List (Nat × Bool)) {ds : List PyData} {ρ : Env}, (is.all fun i => !i.2) = true → setsL is ds ρ k → ds.length = (is.map (·.1)).length ∧ k (setAll (is.map (·.1)) ds ρ)
  | [], [], ρ, _, h => ⟨rfl, h⟩
  | [], _ :: _, ρ, _, h => by simp only [setsL] at h
  | _ :: _, [], ρ, _, h => by simp only [setsL] at h
  | (i, b) :: is, d :: ds, ρ, ha, h => by
    rw [List.all_cons] at ha
    obtain ⟨h1, h2⟩ := both ha
    have hb : b = false := by simpa using h1
    subst hb
    rw [setsL_c, if_neg (by decide)] at h
    obtain ⟨h3, h4⟩ := setsL_flat is h2 h
    exact ⟨by rw [List.length_cons, h3]; rfl, h4⟩
theorem tgL_len {is : List Nat} {ts : List Expr} {k : Nat} {p : Pos} (h : tgB N S S (.tp is) (.Tuple ts k p) = true) : ts.length = is.length := by
  have key : ∀ (is : List Nat) (es : List Expr), tgB.tgL N S S is es = true → es.length = is.length := by
    intro is
    induction is with
    | nil =>
      intro es h
      cases es with
      | nil => rfl
      | cons _ _ => cases h
    | cons i is ih =>
      intro es h
      cases es with
      | nil => cases h
      | cons e es =>
        unfold tgB.tgL at h
        split at h
        · rename_i h0 h1; cases h0
        · rename_i i' is' x p es' h0 h1
          cases h0; cases h1
          rw [List.length_cons, List.length_cons, ih _ (both h).2]
        · cases h
  exact key is ts h
theorem fm_all {α β : Type} {f : α → Option β} : ∀ {l : List α}, (l.filterMap f).length = l.length → ∀ x ∈ l, (f x).isSome = true
  | [], _, x, m => by cases m
  | a :: l, h, x, m => by
    have hle := List.length_filterMap_le f l
    rw [List.filterMap_cons] at h
    cases e : f a with
    | none => rw [e] at h; simp at h; omega
    | some b =>
      rw [e] at h
      rcases List.mem_cons.mp m with rfl | m
      · rw [e]; rfl
      · exact fm_all (by simpa using h) x m
theorem s_parT (hX : Cxs P C fns cs N X S W) {is : List (Nat × Bool)} {c : CEs} {st : Stmt} (h : mParT N S (is.map (·.1)) (fun xs => (is.all fun i => !i.2) && (decide (cesLen c ≤ 1000) && mtEs fns cs N S c xs)) st = true) : PS X st (tS P C W (.par is c)) := by
  unfold mParT at h; split at h
  · rename_i ts kt p vs k2 p2 q
    obtain ⟨h1, h2⟩ := both h
    obtain ⟨h2, h3⟩ := both h2
    obtain ⟨h3, h4⟩ := both h3
    obtain ⟨h4, h5⟩ := both h4
    have hw : swappedStores [.Tuple ts kt p] (.Tuple vs k2 p2) X.env = pure none := by
      unfold swappedStores
      dsimp only
      split
      · rfl
      · rename_i g1
        split
        · rfl
        · split
          · rfl
          · split
            · rfl
            · rename_i g4
              rw [Bool.or_eq_true, Bool.or_eq_true] at h2
              rcases h2 with h2 | h2 | h2
              · exact absurd h2 g4
              · exfalso
                have hl := tgL_len h1
                have h4 := dec h2
                rw [← hl] at h4
                have e2 : (ts.length == 2) = false := by simp; omega
                have e3 : (ts.length == 3) = false := by simp; omega
                rw [e2, e3] at g1
                exact g1 rfl
              · exfalso
                rename_i g2 g3
                obtain ⟨x, m, hx⟩ := List.any_eq_true.mp h2
                rw [Bool.or_eq_true, not_or] at g3
                have g3 := g3.1
                simp only [bne_iff_ne, ne_eq, Decidable.not_not] at g3
                have := fm_all g3 x m
                cases x with
                | Name id q =>
                  have hk : X.env.kindOf id ≠ some .local := fun z => by
                    have z : X.env.scope.names.lookup id = some .local := z
                    rw [hX.f.o.sc] at z
                    simp [loclB, z] at hx
                  simp [hk] at this
                | _ => cases hx
    refine PS.mono (ps_asg (e_tup (c := k2) (p := p2) (dec h4) (okEs (P := P) (C := C) c hX.f h5)) (pg_ok hX.f (fun x _ => hX.fn x) h1) (by rw [swapsWithSole]; rfl) hw rfl) fun D σ H ⟨DF, G, ρ, p, e, F, ev, ks⟩ => ?_
    rw [evS] at ev
    refine ⟨DF, G, ρ, fun d => asT d fun ds => setsL is ds ρ fun ρ1 => p (.nx ρ1), _, F, ev, fun v H' G' d hd F' g r => ?_, ks.kx⟩
    replace hd := asT_inv hd
    obtain ⟨ds, rfl, hd⟩ := hd
    obtain ⟨k1, k2⟩ := setsL_flat is h3 hd
    exact gT_ok (.tp (is.map (·.1))) (k := fun ρ' => p (.nx ρ')) F' r ⟨k1, k2⟩ fun σ' ρ' hk F2 _ _ => ks.nx _ _ _ _ _ hk F2 g.sub
  · cases h
theorem locs_cons {i : Nat} {is : List Nat} {ts : List Expr} (h : locs N S (i :: is) ts = true) : ∃ x p r, ts = .Name x p :: r ∧ N[i]? = some x ∧ S.names.lookup x = some .local ∧ locs N S is r = true := by
  cases ts with
  | nil => cases h
  | cons t r =>
    unfold locs at h
    split at h
    · rename_i h0 _; cases h0
    · rename_i i' is' x p r' h0 h1
      cases h0; cases h1
      obtain ⟨h1, h2⟩ := both h
      obtain ⟨h1, h3⟩ := both h1
      refine ⟨x, p, _, rfl, ?_, ?_, h2⟩
      · unfold ixB at h1
        split at h1
        · rename_i y e; rw [e, dec h1]
        · cases h1
      · unfold loclB at h3
        split at h3
        · assumption
        · cases h3
    · cases h
theorem locs_nil {ts : List Expr} (h : locs N S [] ts = true) : ts = [] := by
  cases ts with
  | nil => rfl
  | cons t r => cases h
theorem nd_ne {i j : Nat} {x y : Str} (nd : N.Nodup) (h : i ≠ j) (hi : N[i]? = some x) (hj : N[j]? = some y) : x ≠ y := fun e => h (nodup_ix nd hi (e ▸ hj))
theorem fine_star {e : Expr} (h : fineX e = true) : (match e with | .Starred _ _ => true | _ => false) = false := by cases e <;> first | rfl | cases h
theorem s_par (hX : Cxs P C fns cs N X S W) {is : List (Nat × Bool)} {c : CEs} {st : Stmt} (h : mPar N S (is.map (·.1)) (mtPs fns cs N S is c) st = true) : PS X st (tS P C W (.par is c)) := by
  unfold mPar at h; split at h
  · rename_i ts kt pt vs k2 p2 q
    obtain ⟨h1, h2⟩ := both h
    obtain ⟨h1, h3⟩ := both h1
    obtain ⟨h1, h4⟩ := both h1
    obtain ⟨h3, h5⟩ := both h3
    obtain ⟨h5, h6⟩ := both h5
    obtain ⟨h2, h7⟩ := both h2
    obtain ⟨h2, h8⟩ := both h2
    obtain ⟨h8, h9⟩ := both h8
    obtain ⟨hpa, hfx⟩ := pa_ok (P := P) (C := C) hX.f is c vs h7
    have hsc := hX.f.o.sc
    have hN := hX.f.o.hN
    have hbk : X.env.blockKind = .function := by
      have : X.env.scope.kind = .function := by rw [hsc]; exact eq_of_beq h2
      unfold PySem.Env.blockKind
      rw [this]; rfl
    have hlen : vs.length = is.length := by rw [eq_of_beq h4, List.length_map]
    have hk : ∀ x, S.names.lookup x = some .local → X.env.kindOf x = some .local := fun x e => by show X.env.scope.names.lookup x = _; rw [hsc]; exact e
    have g1 : (vs.all (foldedForSure 8)) = false := by simpa using h8
    have g2 : (vs.all (constantsAlone 8)) = false := by simpa using h9
    match is, vs, hlen with
    | [], _, _ => cases h1
    | [a], _, _ => cases h1
    | [(i, bi), (j, bj)], [v, w], _ =>
      obtain ⟨x, px, r, rfl, n1, l1, hr⟩ := locs_cons h5
      obtain ⟨y, py, r, rfl, n2, l2, hr⟩ := locs_cons hr
      obtain rfl := locs_nil hr
      have hij : i ≠ j := by
        intro e
        subst e
        simp [nodupB] at h3
      have hxy := nd_ne (by rw [← hN]; exact hX.f.o.nd) hij n1 n2
      have hline : (py.line == px.line) = true := by simpa [onLine] using h6
      have hw := sw2 (kt := kt) (pt := pt) (k2 := k2) (p2 := p2) hbk (hk x l1) (hk y l2) (eq_of_beq hline) hxy g1 g2 hfx
      rw [← hN] at n1 n2
      refine PS.mono (ps_par hX.f.o.calm hX.f.o.nd n1 n2 hij (by rw [hsc]; exact l1) (by rw [hsc]; exact l2) hpa hw (by rw [swapsWithSole]; rfl)) fun D σ H q => ?_
      obtain ⟨DF, G, ρ, p, e, F, ev, k, kx⟩ := par_ok q
      refine ⟨DF, G, ρ, p, e, F, ev, fun us H' G' ds hd F' g r => ?_, kx⟩
      obtain ⟨hl, hn⟩ := k us H' G' ds hd F' g r
      match us, hl with
      | [u1, u2], _ => exact ⟨u1, u2, rfl, hn⟩
    | [(i, bi), (j, bj), (l, bl)], [v, w, u], _ =>
      obtain ⟨x, px, r, rfl, n1, l1, hr⟩ := locs_cons h5
      obtain ⟨y, py, r, rfl, n2, l2, hr⟩ := locs_cons hr
      obtain ⟨z, pz, r, rfl, n3, l3, hr⟩ := locs_cons hr
      obtain rfl := locs_nil hr
      have hij : i ≠ j := by
        intro e
        subst e
        simp [nodupB] at h3
      have hil : i ≠ l := by
        intro e
        subst e
        simp [nodupB] at h3
      have hjl : j ≠ l := by
        intro e
        subst e
        simp [nodupB] at h3
      have nd : N.Nodup := by rw [← hN]; exact hX.f.o.nd
      have hline : (py.line == px.line) = true ∧ (pz.line == px.line) = true := by simpa [onLine] using h6
      have hw := sw3 (kt := kt) (pt := pt) (k2 := k2) (p2 := p2) hbk (hk x l1) (hk y l2) (hk z l3) (eq_of_beq hline.1) (eq_of_beq hline.2) (nd_ne nd hij n1 n2) (nd_ne nd hil n1 n3) (nd_ne nd hjl n2 n3) g1 g2 hfx
      rw [← hN] at n1 n2 n3
      refine PS.mono (ps_par3 hX.f.o.calm hX.f.o.nd n1 n2 n3 hij hil hjl (by rw [hsc]; exact l1) (by rw [hsc]; exact l2) (by rw [hsc]; exact l3) hpa hw (by rw [swapsWithSole]; rfl)) fun D σ H q => ?_
      obtain ⟨DF, G, ρ, p, e, F, ev, k, kx⟩ := par_ok q
      refine ⟨DF, G, ρ, p, e, F, ev, fun us H' G' ds hd F' g r => ?_, kx⟩
      obtain ⟨hl, hn⟩ := k us H' G' ds hd F' g r
      match us, hl with
      | [u1, u2, u3], _ => exact ⟨u1, u2, u3, rfl, hn⟩
    | _ :: _ :: _ :: _ :: _, _, _ => simp at h1
  · cases h

/-! ### the whole -/
mutual
theorem okS : ∀ (s : CS) {X : Cx} {S : Scope} {W : WX} {st : Stmt}, Cxs P C fns cs N X S W → mtS fns cs N S s st = true → PS X st (tS P C W s)
  | .set i e, X, S, W, st, hX, h => by rw [mtS] at h; exact s_set hX h
  | .own i e, X, S, W, st, hX, h => by rw [mtS] at h; exact s_own hX h
  | .mks i f e, X, S, W, st, hX, h => by rw [mtS] at h; cases h
  | .unp is e, X, S, W, st, hX, h => by rw [mtS] at h; exact s_unp hX h
  | .par is es, X, S, W, st, hX, h => by
    rw [mtS] at h
    rw [Bool.or_eq_true] at h
    exact h.elim (s_par hX) (s_parT hX)
  | .aug o i e, X, S, W, st, hX, h => by rw [mtS] at h; exact s_aug hX h
  | .app i e, X, S, W, st, hX, h => by rw [mtS] at h; exact s_app hX h
  | .ext i e, X, S, W, st, hX, h => by rw [mtS] at h; exact s_ext hX h
  | .apps i j, X, S, W, st, hX, h => by rw [mtS] at h; exact s_apps hX h
  | .seti i a e, X, S, W, st, hX, h => by rw [mtS] at h; exact s_seti hX h
  | .pop _ _ _, X, S, W, st, hX, h => by rw [mtS] at h; cases h
  | .ex e, X, S, W, st, hX, h => by rw [mtS] at h; exact s_ex hX h
  | .ret e, X, S, W, st, hX, h => by rw [mtS] at h; exact s_ret hX h
  | .ifs t a b, X, S, W, st, hX, h => by rw [mtS] at h; exact s_ifs hX h (fun ss z => okSs a hX z) (fun ss z => okSs b hX z)
  | .whl t b, X, S, W, st, hX, h => by rw [mtS] at h; exact s_whl hX h (fun ss z => okSs b hX z)
  | .fors tg it b ws, X, S, W, st, hX, h => by rw [mtS] at h; exact s_fors hX h (fun ss z => okSs b hX z)
  | .brk, X, S, W, st, hX, h => by rw [mtS] at h; exact s_brk h
  | .cont, X, S, W, st, hX, h => by rw [mtS] at h; exact s_cont h
  | .frz _, X, S, W, st, hX, h => by rw [mtS] at h; cases h
  | .rai _ _, X, S, W, st, hX, h => by rw [mtS] at h; cases h
  | .never, X, S, W, st, hX, h => s_never
theorem okSs : ∀ (s : CSs) {X : Cx} {S : Scope} {W : WX} {st : List Stmt}, Cxs P C fns cs N X S W → mtSs fns cs N S s st = true → PSs X st (tSs P C W s)
  | .nil, X, S, W, st, hX, h => by
    rw [mtSs] at h
    have : st = [] := by
      cases st with
      | nil => rfl
      | cons _ _ => cases h
    subst this
    exact PSs.mono pss_nil fun D σ H ⟨DF, G, ρ, p, e, F, ev, ks⟩ => ks.nx _ _ _ _ _ ev F (Sub.refl _)
  | .cons s ss, X, S, W, st, hX, h => by
    rw [mtSs] at h
    replace h : (if isFrz s = true then mtSs fns cs N S ss st else consS (mtS fns cs N S s) (mtSs fns cs N S ss) st) = true := h
    by_cases hz : isFrz s = true
    · rw [if_pos hz] at h
      cases s with
      | frz i =>
        refine PSs.mono (okSs ss hX h) fun D σ H ⟨DF, G, ρ, p, e, F, ev, ks⟩ => ?_
        rw [evSs, evS] at ev
        obtain ⟨d, h1, h2⟩ := slotO_inv ev
        obtain ⟨G', sg, F'⟩ := F.frz h1
        exact ⟨DF, G', _, p, e, F', h2, ks.step sg⟩
      | _ => cases hz
    · rw [if_neg hz] at h
      cases st with
      | nil => cases h
      | cons x xs =>
        obtain ⟨h1, h2⟩ := both h
        refine PSs.mono (pss_cons (okS s hX h1) (okSs ss hX h2)) fun D σ H ⟨DF, G, ρ, p, e, F, ev, ks⟩ => ?_
        rw [evSs] at ev
        refine ⟨DF, G, ρ, _, e, F, ev, ⟨fun ρ' σ' H' DF' G' hp F' s' => ⟨DF', G', ρ', p, e, F', hp, ks.step s'⟩, fun ρ' σ' H' DF' G' hp F' s' => ks.bk _ _ _ _ _ hp F' s', fun ρ' σ' H' DF' G' hp F' s' => ks.ct _ _ _ _ _ hp F' s',
          fun d ρ' σ' H' DF' G' v hp F' s' r => ks.rt _ _ _ _ _ _ _ hp F' s' r, ks.ex⟩⟩
end
end
end Pv
set_option Elab.async false
set_option linter.all false
set_option maxRecDepth 100000
set_option maxHeartbeats 4000000
/-! Core 15: every function of the table keeps what its compact text promises. Own work. -/
set_option autoImplicit false
namespace Pv
open PySem PySem.Spec L2

/-- what is known of the module, from a head -/
structure Md (P : Px) (K : PySem.W.Frag) (mg : Str → Option Value) (cs : List (Str × PyData)) : Prop where
  K : K = P.K
  free : ∀ b ∈ (["len", "range", "min", "max", "abs", "sorted", "tuple", "list", "int", "isinstance", "set", "all", "any", "sum", "bool", "str", "dict"] : List Str), mg b = none
  gl : ∀ (k : Nat) (x : Str) (d : PyData), cs[k]? = some (x, d) → ∃ v u, mg x = some u ∧ RelV v u ∧ Rp P.K (fun _ => none) v d
abbrev FnP (K : PySem.W.Frag) (x : Str) (st : Stmt) (f : Addr) (fd : FuncData) : Prop := FunD K x x (defArgs st) (defBody st) (defScope st) [] [] f fd
/-- a function at hand, its promise by C -/
def CalM (P : Px) (C : Orc) (prog : Program) (w : World) (K : PySem.W.Frag) (mg : Str → Option Value) (base : Heap) (k : Nat) (f : Nat) (x : Str) : Prop :=
  ∃ (fa : Addr) (fd : FuncData) (ps : List Str), FnOk prog w K mg base (L2.CX prog w) k fa fd ps (spF P C f) ∧ mg x = some (.ref fa) ∧ PySem.W.keepIn K (.ref fa) = true ∧ Binds K fd ps []
section
variable {P : Px} {prog : Program} {w : World} {K : PySem.W.Frag} {mg : Str → Option Value} {base : Heap}
theorem RAs.len {K : PySem.W.Frag} {DF : DFt} {G : Hp} : ∀ {vs : List V} {ss : List Slot}, RAs K DF G vs ss → vs.length = ss.length
  | _, _, .nil => rfl
  | _, _, .cons _ r => by rw [List.length_cons, List.length_cons, RAs.len r]
theorem RAs.get {K : PySem.W.Frag} {DF : DFt} {G : Hp} : ∀ {vs : List V} {ss : List Slot} {i : Nat} {s : Slot}, RAs K DF G vs ss → ss[i]? = some s → ∃ v, vs[i]? = some v ∧ RA K DF G v s
  | _, _, _, _, .nil, e => by simp at e
  | _, _, 0, _, .cons a _, e => by simp at e; subst e; exact ⟨_, rfl, a⟩
  | _, _, i + 1, s, .cons _ b, e => by
    obtain ⟨v, h1, h2⟩ := RAs.get (i := i) (s := s) b (by simpa using e)
    exact ⟨v, by simpa using h1, h2⟩
/-- the frame at a def's entry -/
theorem start_fr {DF : DFt} {G H : Hp} {vs : List V} {sl : List Slot} {N : List Str} {n : Nat} (s : Sub G H) (d : DrOk G H DF) (tb : LamX.Tabs P.T H) (ra : RAs P.K DF G vs sl) (hl : sl.length = n) (hn : n ≤ N.length) :
    FrD { P with DF0 := DF, G0 := G, H0 := H } DF (L2.start N vs) (sl ++ List.replicate (N.length - n) .un) G H where
  len := by
    unfold L2.start
    rw [List.length_append, List.length_append, List.length_map, List.length_replicate, List.length_replicate, ra.len]
    omega
  sub := s
  sub0 := Sub.refl G
  new := fun _ _ e => .inl e
  keep0 := Keep.refl DF H
  df := .inl rfl
  slots := fun i t e => by
    by_cases hi : i < sl.length
    · rw [List.getElem?_append_left hi] at e
      obtain ⟨v, h1, h2⟩ := ra.get e
      have h3 : (L2.start N vs)[i]? = some (some v) := by
        unfold L2.start
        rw [List.getElem?_append_left (by rw [List.length_map, ra.len]; exact hi), List.getElem?_map, h1]
        rfl
      rw [h3]
      cases t with
      | v d => exact ⟨v, rfl, h2⟩
      | st =>
        obtain ⟨q, rfl, h5⟩ := h2
        exact ⟨q, rfl, h5⟩
      | _ => exact h2.elim
    · rw [List.getElem?_append_right (by omega), List.getElem?_replicate] at e
      split at e
      · cases e; trivial
      · cases e
  own1 := fun i j d d' p h1 _ _ _ => by
    exfalso
    by_cases hi : i < sl.length
    · rw [List.getElem?_append_left hi] at h1
      obtain ⟨v, _, h2⟩ := ra.get h1
      exact h2
    · rw [List.getElem?_append_right (by omega), List.getElem?_replicate] at h1
      split at h1 <;> cases h1
  dr := d
  live0 := fun _ e => e
  tab := tb
/-- from a def's frame back to its caller -/
theorem back_gr {DF DF' : DFt} {G H G' H' : Hp} {σ : L2.St} {ρ : Env} (F : FrD { P with DF0 := DF, G0 := G, H0 := H } DF' σ ρ G' H') : Gr P.T DF G H G' H' ∧ DrOk G' H' DF := by
  have hk : ∀ a o, H a = some o → noTbl o → NotIn a DF → NotIn a DF' := fun a o e nt n => by
    rcases F.df with e1 | ⟨e1, e2⟩
    · rw [e1]; exact n
    · cases hd : DF' with
      | none => trivial
      | some q =>
        obtain ⟨z1, z2⟩ := e2 q hd
        exact ⟨fun z => z1 o (by rw [← z]; exact e) nt, fun z => z2 o (by rw [← z]; exact e) nt⟩
  refine ⟨⟨F.sub0, fun a o e nt n => F.keep0 a o e nt (hk a o e nt n), F.new, F.live0, fun _ => F.tab⟩, ?_⟩
  · rcases F.df with e1 | ⟨e1, _⟩
    · have e1 : DF' = DF := e1
      rw [← e1]; exact F.dr
    · have e1 : DF = none := e1
      rw [e1]; exact ⟨F.dr.1, trivial⟩
theorem fn_code {T : List FnI} {fns : List Str} {cs : List (Str × PyData)} {i d : Nat} {nm : Str} {ps ns : List Str} {body : CSs} {st : Stmt} {f : Addr} {fd : FuncData} (M : Md P K mg cs)
    (hT : T[i]? = some ⟨nm, ps, ns, .code body⟩) (Fn : FnP K nm st f fd) (sc : FnScope ns ps (defScope st)) (hm : mtSs fns cs ns (defScope st) body (defBody st) = true) (hnl : ns.contains lamNm = false)
    (cal : ∀ (f : Nat) (x : Str), fns[f]? = some x → CalM P (callD T d) prog w K mg base d f x) : FnOk prog w K mg base (L2.CX prog w) (d + 1) f fd ps (spF P (callD T (d + 1)) i) := by
  have hpl : ps.length ≤ ns.length := by have := congrArg List.length sc.pre; rw [List.length_take] at this; omega
  refine Fn.ok sc (fun vs H Q E h => ?_) (fun cdv A outer s H vs Q E hr h => ?_)
  · obtain ⟨DF, G, sl, p, e, h1, h2, htb, ra, hc, _⟩ := h
    rw [callD_s hT, runF_code] at hc
    rw [ra.len, hc.1]
  · obtain ⟨DF, G, sl, p, e, h1, h2, htb, ra, hc, kv, kx⟩ := h
    rw [callD_s hT, runF_code] at hc
    obtain ⟨hl, hev⟩ := hc
    have F0 := start_fr (P := P) (N := ns) h1 h2 htb ra hl hpl
    generalize hP : ({ P with DF0 := DF, G0 := G, H0 := H } : Px) = P' at F0
    have eK : P'.K = P.K := by rw [← hP]
    have hsp : ∀ f, spF P' (callD T d) f = spF P (callD T d) f := fun f => by rw [← hP]; rfl
    have hX : Cxs P' (callD T d) fns cs ns (cxOf (L2.CX prog w) prog w K mg base ns nm (defScope st) f cdv A outer s H E) (defScope st) (fun cls dx _ H => E cls dx H) :=
      { f := { o := ⟨M.K.trans eK.symm, rfl, rfl, sc.nd, rfl, hr.hd, M.free, fun k x dd e => (by rw [eK]; exact M.gl k x dd e), (by have := hr.un; show (A.deeper _).units + 200 < _; omega), hr.depth⟩
               cal := fun f x e => (by
                obtain ⟨fa, fd, ps, a1, a2, a3, a4⟩ := cal f x e
                exact ⟨d, fa, fd, ps, (by rw [hsp]; exact a1), hr, a2, a3, a4⟩)
               tk := takes_of rfl rfl rfl rfl }
        fn := fun _ => rfl
        po := passes_of rfl
        lam := fun h => by rw [hnl] at h; cases h }
    refine ⟨_, okSs body hX hm, DF, G, _, _, _, F0, hev, ?_⟩
    have fin : ∀ v d ρ' σ' H' DF' G', p d (ρ'.take ps.length) → FrD P' DF' σ' ρ' G' H' → Rp P'.K G' v d → Q v H' := fun v d ρ' σ' H' DF' G' hp F' r => by
      rw [eK] at r
      subst hP
      obtain ⟨g, d'⟩ := back_gr F'
      exact kv _ _ _ _ _ hp g F'.sub d' r
    refine ⟨fun ρ' σ' H' DF' G' hp F' s' => fin _ _ _ _ _ _ _ hp F' .non, fun ρ' σ' H' DF' G' hp F' s' => hp.elim, fun ρ' σ' H' DF' G' hp F' s' => hp.elim, fun dd ρ' σ' H' DF' G' v hp F' s' r => fin _ _ _ _ _ _ _ hp F' r, fun x ρ' σ' H' DF' G' cls dx hp F' s' ex => ?_⟩
    subst hP
    obtain ⟨g, d'⟩ := back_gr F'
    exact kx _ _ _ _ _ _ hp g F'.sub d' ex
end
end Pv
set_option Elab.async false
set_option linter.all false
set_option maxRecDepth 100000
set_option maxHeartbeats 4000000
/-! Core 16: the law's state, the law's first row. Own work. -/
set_option autoImplicit false
namespace Pv
open PySem PySem.Spec L2
/-- the new state -/
def spSt (T : List (Addr × Str)) (K : PySem.W.Frag) : Sp := fun vs H Q _ => ∃ (a : Addr) (ns : List Int), vs = [.ref a] ∧ SqL K H a (ns.map V.int) ∧ LamX.Tabs T H ∧
  ∀ (q : Addr × Addr) (H' : Hp) (cells : List Int), CellsOk cells → Fr0 H q.1 → Fr0 H q.2 → q.1 ≠ q.2 → H' q.1 = some (.lst [.int 0, .ref q.2]) → H' q.2 = some (.lst (cells.map V.int)) → (∀ b o, H b = some o → noTbl o → H' b = some o) → (∀ b, Fr0 H' b → Fr0 H b) → LamX.Tabs T H' → Q (.ref q.1) H'
def cElt : CE := .prim .abs (.cons (.nm 2) .nil)
def cRow2 : CS := .ifs (.cmp .eq (.prim .len (.cons (.bo 1) .nil)) (.cst (.int 0))) (.cons (.own 1 (.lst (.cons (.cst (.int 0)) .nil))) .nil) .nil
def mState (cs : List (Str × PyData)) (N : List Str) (S : Scope) : List Stmt → Bool
  | [.Assign [.Name x _] (.ListComp e [⟨tg', .Subscript (.Name s p0) (.Slice none (some (.Constant (.int 63) _ _)) none _) _, [], 0⟩] sc _) _, st2, .Return (some (.List [.Constant (.int 0) _ _, .Name y p5] _)) _] =>
    (stoB N S S 1 x && (mNm N S 0 (.Name s p0) && mNm N S 1 (.Name y p5))) && ((blkC N S sc (ownOf N [2]) && tgB N (relS sc S) sc (.nm 2) tg') && (mtE [] cs N (relS sc S) cElt e && mtS [] cs N S cRow2 st2))
  | _ => false
section
variable {P : Px} {C : Orc} {fns : List Str} {cs : List (Str × PyData)} {N : List Str} {X : Cx} {S : Scope} {W : WX}
theorem s_setLcI (hX : Cxs P C fns cs N X S W) {i : Nat} {x : Str} {py pos p : Pos} {x' tg' it' : Expr} {ifs : List Expr} {sc : Scope} {tg : Tg} {elt t : CE} {wi : TI} (h : stoB N S S i x = true) (h1 : blkC N S sc (ownOf N (tgs tg)) = true) (h2 : tgB N (relS sc S) sc tg tg' = true)
    (hi : PI X tg' it' wi) (fi : fineX it' = true) (he : ∀ X', Cxf P C fns cs N X' (relS sc S) WF → PE X' x' (tV P C WF elt)) (ht : ∀ X', Cxf P C fns cs N X' (relS sc S) WF → PTs X' ifs (tT P C WF t)) :
    PS X (.Assign [.Name x py] (.ListComp x' [⟨tg', it', ifs, 0⟩] sc p) pos) (tAsg (tLc wi (gT P.K tg) (tT P C WF t) (tV P C WF elt) (tgs tg)) (gName i)) := by
  have ok : BlkOk X.N X.env.scope sc (ownOf N (tgs tg)) := by rw [hX.f.o.hN, hX.f.o.sc]; exact blkOk_by h1
  have bx := fun s H D cl fp => hX.f.blk s H sc D cl fp
  have ho := own_of (tgB_ix h2)
  cases hb : (X.env.blockKind == .function && X.env.kindOf x == some .local && py.line == p.line && !(sc.names.any fun (n, k) => n == x && (k == .local || k == .cell))) with
  | false =>
    have := pe_lc hX.f.o.calm hX.f.o.nd hi ok (fun s H D cl fp => pg_ok (bx s H D cl fp) (celB_fn s H D cl fp) h2) (fun s H D cl fp => ht _ (bx s H D cl fp)) (fun s H D cl fp => he _ (bx s H D cl fp)) (nofold fi _) (pos := p)
    rw [ho] at this
    exact s_setV hX h this (by rw [comp_kind hX, hb])
  | true =>
    have hloc : X.env.scope.names.lookup x = some .local := by
      obtain ⟨hb, _⟩ := both hb
      obtain ⟨hb, _⟩ := both hb
      obtain ⟨_, hb⟩ := both hb
      exact eq_of_beq hb
    have := ps_setLc hX.f.o.calm hX.f.o.nd (store_sc hX h).1 hloc (spos := pos) (py := py) (pos := p) (by rw [comp_kind hX, hb]) hi ok (fun s H D cl fp => pg_ok (bx s H D cl fp) (celB_fn s H D cl fp) h2) (fun s H D cl fp => ht _ (bx s H D cl fp)) (fun s H D cl fp => he _ (bx s H D cl fp)) (nofold fi _)
    rw [ho] at this
    exact this
/-- what is known of the script's name -/
def scF (K : PySem.W.Frag) (ns : List Int) (σ : L2.St) (H : Hp) : Prop := ∃ a, σ[0]? = some (some (V.ref a)) ∧ SqL K H a (ns.map V.int)
theorem cut63 (ns : List Int) : cutV (ns.map V.int) none (some 63) = (ns.take 63).map V.int := by
  unfold cutV
  rw [List.length_map]
  have e0 : HT.sIx ns.length 0 none = 0 := rfl
  have e1 : HT.sIx ns.length ns.length (some 63) = min 63 ns.length := by
    unfold HT.sIx
    simp <;> omega
  rw [e0, e1, List.drop_zero, Nat.sub_zero, ← List.map_take]
  congr 1
  rcases Nat.le_total 63 ns.length with h | h
  · rw [Nat.min_eq_left h]
  · rw [Nat.min_eq_right h, List.take_of_length_le (Nat.le_refl _), List.take_of_length_le h]
theorem p_cut (hX : Cxf P C fns cs N X S W) (ns : List Int) {s : Str} {p0 p1 p2 p3 : Pos} {j : Nat} (h : mNm N S 0 (.Name s p0) = true) :
    PE X (.Subscript (.Name s p0) (.Slice none (some (.Constant (.int 63) j p1)) none p2) p3) (fun σ H Q => tQ P C W true (.cst (.list ((ns.take 63).map .int))) σ H Q ∧ scF X.K ns σ H) :=
  PE.mono (pe_slice sl_list (e_var hX h) po_none (po_some pe_int)) fun σ H Q ⟨⟨DF, G, ρ, p, e, F, ev, k, kx⟩, a, h0, h1⟩ => ⟨_, h0, 63, rfl, a, ns.map V.int, rfl, h1, fun z hz => by
    rw [cut63]
    have kv : KV P DF σ ρ G H p Q := fun v H' G' d hd F' g r => k v H' G' d hd F' g (.inl r)
    exact kv.newL F ev (Rps.ints _) hz⟩
def tState (P : Px) (C : Orc) (W : WX) (K : PySem.W.Frag) (ns : List Int) : TS :=
  tSeq (tAsg (tLc (fun σ H R => tI P C W true (.seq (.cst (.list ((ns.take 63).map .int)))) σ H R ∧ scF K ns σ H) (gT P.K (.nm 2)) (tT P C WF (.cst (.bool true))) (tV P C WF cElt) [2]) (gName 1))
    (tSeq (tS P C W cRow2) (tRet (tLst (tCons (tC (.int 0)) (tCons (tVar 1) tNil)))))
theorem pts_yes : PTs X [] (tT P C W (.cst (.bool true))) := PTs.mono pts_nil fun σ H Q ⟨DF, G, ρ, p, e, F, ev, k, kx⟩ => k true H G ev F (Gr.refl _ _ _ _)
theorem state_body (hX : Cxs P C [] cs N X S W) (ns : List Int) {body : List Stmt} (h : mState cs N S body = true) : PSs X body (tState P C W X.K ns) := by
  unfold mState at h
  split at h
  · obtain ⟨h1, h2⟩ := both h
    obtain ⟨h1, h3⟩ := both h1
    obtain ⟨h3, h4⟩ := both h3
    obtain ⟨h2, h5⟩ := both h2
    obtain ⟨h2, h6⟩ := both h2
    obtain ⟨h5, h7⟩ := both h5
    exact pss_cons (s_setLcI hX (tg := .nm 2) (elt := cElt) (t := .cst (.bool true)) (ifs := []) h1 h2 h6 (pi_anyW hX.f (p_cut hX.f ns h3)) rfl (fun X' hX' => (okE cElt).v hX' h5) (fun X' hX' => pts_yes)) (pss_cons (okS cRow2 hX h7) (pss_one (ps_ret (pe_lst (pa_cons pe_int (pa_cons (e_var hX.f h4) pa_nil (star_fine rfl _ _)))))))
  · cases h
/-- a frame of which nothing is known -/
theorem frame0 {H : Hp} (tb : LamX.Tabs P.T H) (vs : List V) (hv : vs.length ≤ N.length) : FrD { P with DF0 := none, G0 := fun _ => none, H0 := H } none (L2.start N vs) (List.replicate N.length .un) (fun _ => none) H where
  len := by unfold L2.start; rw [List.length_append, List.length_map, List.length_replicate, List.length_replicate]; omega
  sub := fun _ _ e => by cases e
  sub0 := fun _ _ e => by cases e
  new := fun _ _ e => by cases e
  keep0 := fun _ _ e _ _ => e
  df := .inl rfl
  slots := fun i s e => by
    rw [List.getElem?_replicate] at e
    split at e
    · cases e; trivial
    · cases e
  own1 := fun i j d d' p e _ _ _ => by
    rw [List.getElem?_replicate] at e
    split at e <;> cases e
  dr := ⟨fun _ _ e => (by cases e), trivial⟩
  live0 := fun _ e => e
  tab := tb
theorem absAll : ∀ (ns : List Int) (p : List PyData → Prop), p (ns.map fun n => .int (absI n)) → cmpF (oneF C cElt (.nm 2) (.cst (.bool true)) [.un, .un, .un]) (ns.map .int) p
  | [], p, h => h
  | n :: r, p, h => by
    rw [List.map_cons, cmpF_cons]
    have ih := absAll r (fun ds => p ([.int (absI n)] ++ ds)) h
    simp only [oneF, cElt, setTg, evE, asB_b, if_true, evEs, primD, one_1, slotV_v, asI_i, List.set_cons_succ, List.set_cons_zero, List.getElem?_cons_succ, List.getElem?_cons_zero]
    exact ih
theorem FrD.kept {DF' : DFt} {σ : L2.St} {ρ : Env} {G' H' : Hp} (F : FrD P DF' σ ρ G' H') (h : P.DF0 = none) : ∀ b o, P.H0 b = some o → noTbl o → H' b = some o := fun b o e nt => F.keep0 b o e nt (by
  rcases F.df with e1 | ⟨_, e2⟩
  · rw [e1, h]; trivial
  · cases hd : DF' with
    | none => trivial
    | some q =>
      obtain ⟨z1, z2⟩ := e2 q hd
      exact ⟨fun z => z1 o (by rw [← z]; exact e) nt, fun z => z2 o (by rw [← z]; exact e) nt⟩)
theorem state_pure {K : PySem.W.Frag} {a : Addr} {ns : List Int} {H : Hp} {Q : VK} (hS : SqL K H a (ns.map V.int))
    (hQ : ∀ (q : Addr × Addr) (H' : Hp) (cells : List Int), CellsOk cells → Fr0 H q.1 → Fr0 H q.2 → q.1 ≠ q.2 → H' q.1 = some (.lst [.int 0, .ref q.2]) → H' q.2 = some (.lst (cells.map V.int)) → (∀ b o, H b = some o → noTbl o → H' b = some o) → (∀ b, Fr0 H' b → Fr0 H b) → LamX.Tabs P.T H' → Q (.ref q.1) H')
    (F0 : FrD P none [some (.ref a), none, none] [.un, .un, .un] (fun _ => none) H) (h0 : P.H0 = H) (hd0 : P.DF0 = none) : tState P (fun _ _ _ _ => False) W K ns { nx := fun _ H' => Q .non H', rt := Q } [some (.ref a), none, none] H := by
  have hlc : tLc (tI P (fun _ _ _ _ => False) W true (.seq (.cst (.list ((ns.take 63).map .int))))) (gT P.K (.nm 2)) (tT P (fun _ _ _ _ => False) WF (.cst (.bool true))) (tV P (fun _ _ _ _ => False) WF cElt) [2] [some (.ref a), none, none] H
      (fun x H1 => gName 1 x [some (.ref a), none, none] H1 (tSeq (tS P (fun _ _ _ _ => False) W cRow2) (tRet (tLst (tCons (tC (.int 0)) (tCons (tVar 1) tNil)))) { nx := fun _ H' => Q .non H', rt := Q })) := by
    refine lc_ok (tg := .nm 2) rfl _ _ _ ⟨none, fun _ => none, [.un, .un, .un], fun d => d = .list ((ns.take 63).map fun n => .int (absI n)), noE, F0, ?_, fun b xs H' G' ds hd F' g n gn eq r => ?_, KX.noE⟩
    · rw [evE, evI, evE]
      show cmpF (oneF _ cElt (.nm 2) (.cst (.bool true)) [.un, .un, .un]) _ _
      exact absAll _ _ rfl
    · cases hd
      have F1 : FrD P none ([some (.ref a), some (.ref b), none] : L2.St) [.un, .own (.list ((ns.take 63).map fun n => .int (absI n))), .un] G' H' := F'.setO (i := 1) gn (F0.h0 n).1 trivial eq r (fun j d z w => F0.notOwn n j d z w)
      have hcl : ((ns.take 63).map fun n => PyData.int (absI n)) = ((ns.take 63).map absI).map .int := by rw [List.map_map]; rfl
      rw [hcl] at F1
      have fin : ∀ cells : List Int, CellsOk cells → ∀ DF' σ' H' G', FrD P DF' σ' [.un, .own (.list (cells.map .int)), .un] G' H' → tRet (tLst (tCons (tC (.int 0)) (tCons (tVar 1) tNil))) { nx := fun _ H' => Q .non H', rt := Q } σ' H' := fun cells hc DF' σ' H' G' F2 => by
        obtain ⟨p, e1, e2, e3, _, xs, e5, e6⟩ := F2.slots 1 _ rfl
        obtain ⟨ns', rfl, he⟩ := ints_of e6 (by simp [List.all_eq_true, isIntT])
        have : ns' = cells := by
          have := congrArg (List.map fun d => match d with | PyData.int i => i | _ => 0) he
          simpa [List.map_map, Function.comp_def] using this.symm
        subst this
        refine ⟨.ref p, e1, by show 2 ≤ sizeLine; decide, fun c hc' => ?_⟩
        have hpc : c ≠ p := fun z => by rw [z, e5] at hc'; cases hc'
        rw [h0] at e3
        refine hQ (c, p) _ ns' hc (by have := (F2.h0 (.of hc')).1; rw [h0] at this; exact this) e3 hpc upd_same (by rw [upd_ne (Ne.symm hpc)]; exact e5) (fun b o eb nt => ?_) (fun b eb => ?_) (tabs_upd F2.tab hc')
        · rw [← h0] at eb
          have := F2.kept hd0 b o eb nt
          rw [upd_ne (ne_of_none this hc')]; exact this
        · rw [← h0]
          exact F2.live0 b (fr0_upd hc' b eb)
      generalize hL : (ns.take 63).map absI = L at F1
      have hL2 : L.length ≤ 1000 := by rw [← hL, List.length_map, List.length_take]; omega
      refine ⟨none, G', _, fun f => ∃ cells, CellsOk cells ∧ f = .nx [.un, .own (.list (cells.map .int)), .un], fun _ _ => False, F1, ?_, ⟨fun ρ' σ' H' DF' G' ⟨cells, hc, hp⟩ F' s' => ?_, fun ρ' σ' H' DF' G' ⟨cells, hc, hp⟩ F' s' => (by cases hp), fun ρ' σ' H' DF' G' ⟨cells, hc, hp⟩ F' s' => (by cases hp), fun d ρ' σ' H' DF' G' v ⟨cells, hc, hp⟩ F' s' r => (by cases hp), fun x ρ' σ' H' DF' G' cls dx hp => hp.elim⟩⟩
      · cases L with
        | nil =>
          simp [cRow2, slotO, fit, PyData.plain, PyData.depth, PyData.eqv]
          exact ⟨[0], ⟨by simp, by decide⟩, rfl⟩
        | cons x r =>
          simp [cRow2, slotO, fit, PyData.plain, PyData.depth, PyData.eqv]
          exact ⟨x :: r, ⟨by simp, hL2⟩, rfl⟩
      · cases hp
        exact fin cells hc DF' σ' H' G' F'
  obtain ⟨DF, G, ρ, p, e, F, ev, k, kx⟩ := hlc
  exact ⟨⟨DF, G, ρ, p, e, F, ev, k, kx⟩, a, rfl, hS⟩
section
variable {prog : Program} {w : World} {K : PySem.W.Frag} {mg : Str → Option Value} {base : Heap}
theorem ok_state {st : Stmt} {nm : Str} {f : Addr} {fd : FuncData} {a0 a1 a2 : Str} (M : Md P K mg cs) (Fn : FnP K nm st f fd) (sc : FnScope [a0, a1, a2] [a0] (defScope st)) (hm : mState cs [a0, a1, a2] (defScope st) (defBody st) = true) (hnl : ([a0, a1, a2] : List Str).contains lamNm = false) :
    FnOk prog w K mg base (L2.CX prog w) 1 f fd [a0] (spSt P.T K) := by
  refine Fn.ok sc (fun vs H Q E h => ?_) (fun cdv A outer s H vs Q E hr h => ?_)
  · obtain ⟨a, ns, rfl, _⟩ := h
    rfl
  · obtain ⟨a, ns, rfl, hS, htb, hQ⟩ := h
    have F0 := frame0 (P := P) (N := [a0, a1, a2]) (H := H) htb [.ref a] (by simp)
    generalize hP : ({ P with DF0 := none, G0 := fun _ => none, H0 := H } : Px) = P' at F0
    have eK : P'.K = P.K := by rw [← hP]
    have hX : Cxs P' (fun _ _ _ _ => False) [] cs [a0, a1, a2] (cxOf (L2.CX prog w) prog w K mg base [a0, a1, a2] nm (defScope st) f cdv A outer s H E) (defScope st) (fun cls dx _ H => E cls dx H) :=
      { f := { o := ⟨M.K.trans eK.symm, rfl, rfl, sc.nd, rfl, hr.hd, M.free, fun k x dd e => (by rw [eK]; exact M.gl k x dd e), (by have := hr.un; show (A.deeper _).units + 200 < _; omega), hr.depth⟩
               cal := fun f x e => by cases e
               tk := takes_of rfl rfl rfl rfl }
        fn := fun _ => rfl
        po := passes_of rfl
        lam := fun h => by rw [hnl] at h; cases h }
    have eT : P'.T = P.T := by rw [← hP]
    exact ⟨_, state_body hX ns hm, state_pure hS (by rw [eT]; exact hQ) F0 (by rw [← hP]) (by rw [← hP])⟩
/-- the law's promise -/
def spLaw (T : List (Addr × Str)) (K : PySem.W.Frag) : Sp := fun vs H Q _ => ∃ (a : Addr) (ns : List Int), vs = [.ref a] ∧ SqL K H a (ns.map V.int) ∧ LamX.Tabs T H ∧ ∀ H', Q (.bl true) H'
def mLaw1 (N : List Str) (S : Scope) : Stmt → Bool
  | .Assign [.Name x _] (.Call (.Name f _) [.Name s p] [] _) _ => (decide (f = ("_law_state" : Str)) && glB S f) && (stoB N S S 1 x && mNm N S 0 (.Name s p))
  | _ => false
theorem law1 {T : List (Addr × Str)} (hX : Cxs P C fns cs N X S W) {s1 : Stmt} (h : mLaw1 N S s1 = true) {k : Nat} {fs : Addr} {fds : FuncData} {ps : List Str} (F : FnOk X.prog X.w X.K X.mg X.base (L2.CX X.prog X.w) k fs fds ps (spSt T X.K)) (hr : Room k X.A) (hm : X.mg "_law_state" = some (.ref fs))
    (hk : PySem.W.keepIn X.K (.ref fs) = true) (hb : Binds X.K fds ps []) : PS X s1 (tAsg (tCallS (spSt T X.K) (WE W) (tCons (tVar 0) tNil)) (gName 1)) := by
  unfold mLaw1 at h
  split at h
  · obtain ⟨h1, h2⟩ := both h
    obtain ⟨h1, h3⟩ := both h1
    obtain ⟨h2, h4⟩ := both h2
    obtain rfl := dec h1
    obtain ⟨g1, g2⟩ := hX.f.glo h3
    exact s_setV hX h2 (pe_callS F hr g1 hm hk hb (fun σ => passAt hX.f.tk σ) (pa_cons (e_var hX.f h4) pa_nil (star_fine rfl _ _)) g2 (star_fine rfl _ _) rfl) rfl
  · cases h
theorem law_ok {T : List FnI} {d : Nat} {nm : Str} {st : Stmt} {f fs : Addr} {fd fds : FuncData} {ps pss : List Str} {s1 : Stmt} {tl : List Stmt} {body : CSs} (M : Md P K mg cs) (Fn : FnP K nm st f fd) (sc : FnScope N ps (defScope st)) (hps : ps.length = 1) (hb : defBody st = s1 :: tl)
    (h1 : mLaw1 N (defScope st) s1 = true) (hm : mtSs fns cs N (defScope st) body tl = true) (hnl : N.contains lamNm = false) (hN : 2 ≤ N.length)
    (cal : ∀ (f : Nat) (x : Str), fns[f]? = some x → CalM P (callD T d) prog w K mg base (d + 1) f x)
    (SS : FnOk prog w K mg base (L2.CX prog w) (d + 1) fs fds pss (spSt P.T K)) (gs : mg "_law_state" = some (.ref fs)) (ks : PySem.W.keepIn K (.ref fs) = true) (bs : Binds K fds pss [])
    (ev : evSs (callD T d) body (.un :: .st :: List.replicate (N.length - 2) .un) (endF 1 fun d _ => d = .bool true) fun _ _ => False) : FnOk prog w K mg base (L2.CX prog w) (d + 2) f fd ps (spLaw P.T K) := by
  refine Fn.ok sc (fun vs H Q E h => ?_) (fun cdv A outer s H vs Q E hr h => ?_)
  · obtain ⟨a, ns, rfl, _⟩ := h
    exact hps.symm
  · obtain ⟨a, ns, rfl, hS, htb, hQ⟩ := h
    have F0 := frame0 (P := P) (N := N) (H := H) htb [.ref a] (by show 1 ≤ N.length; omega)
    generalize hP : ({ P with DF0 := none, G0 := fun _ => none, H0 := H } : Px) = P' at F0
    have eK : P'.K = P.K := by rw [← hP]
    have hsp : ∀ f, spF P' (callD T d) f = spF P (callD T d) f := fun f => by rw [← hP]; rfl
    have hX : Cxs P' (callD T d) fns cs N (cxOf (L2.CX prog w) prog w K mg base N nm (defScope st) f cdv A outer s H E) (defScope st) (fun cls dx _ H => E cls dx H) :=
      { f := { o := ⟨M.K.trans eK.symm, rfl, rfl, sc.nd, rfl, hr.hd, M.free, fun k x dd e => (by rw [eK]; exact M.gl k x dd e), (by have := hr.un; show (A.deeper _).units + 200 < _; omega), hr.depth⟩
               cal := fun f x e => (by
                obtain ⟨fa, fd, ps, a1, a2, a3, a4⟩ := cal f x e
                exact ⟨d + 1, fa, fd, ps, (by rw [hsp]; exact a1), hr, a2, a3, a4⟩)
               tk := takes_of rfl rfl rfl rfl }
        fn := fun _ => rfl
        po := passes_of rfl
        lam := fun h => by rw [hnl] at h; cases h }
    rw [hb]
    refine ⟨_, pss_cons (law1 hX h1 SS hr gs ks bs) (okSs body hX hm), ?_⟩
    have hst : ∃ r, L2.start N [.ref a] = some (.ref a) :: none :: r ∧ r.length = N.length - 2 := by
      refine ⟨List.replicate (N.length - 2) none, ?_, List.length_replicate⟩
      unfold L2.start
      show some (V.ref a) :: List.replicate (N.length - 1) none = _
      have : N.length - 1 = (N.length - 2) + 1 := by omega
      rw [this, List.replicate_succ]
    obtain ⟨r, hst, hr2⟩ := hst
    rw [hst]
    refine ⟨.ref a, rfl, a, ns, rfl, hS, htb, fun q H' cells hc n1 n2 n3 e1 e2 kp lv tbs => ?_⟩
    refine ⟨some q, fun _ => none, .un :: .st :: List.replicate (N.length - 2) .un, _, _, ?_, ev, ⟨fun ρ' σ' H' DF' G' hp F' s' => (by cases (show PyData.none = .bool true from hp)), fun ρ' σ' H' DF' G' hp F' s' => hp.elim, fun ρ' σ' H' DF' G' hp F' s' => hp.elim, fun dd ρ' σ' H' DF' G' v hp F' s' r => ?_, fun x ρ' σ' H' DF' G' cls dx hp => hp.elim⟩⟩
    · subst hP
      refine ⟨?_, fun _ _ e => (by cases e), fun _ _ e => (by cases e), fun _ _ e => (by cases e), fun b o e nt _ => kp b o e nt, .inr ⟨rfl, fun q' e => (by cases e; exact ⟨n1, n2⟩)⟩, fun i t e => ?_, fun i j d d' p e _ _ _ => ?_, ⟨fun _ _ e => (by cases e), rfl, rfl, n3, 0, cells, e1, e2, hc⟩, lv, tbs⟩
      · show _ = ((some (V.ref a) :: some (V.ref q.1) :: r : L2.St)).length
        rw [List.length_cons, List.length_cons, List.length_cons, List.length_cons, List.length_replicate, hr2]
      · match i with
        | 0 => cases e; trivial
        | 1 => cases e; exact ⟨q, rfl, rfl⟩
        | i + 2 =>
          rw [List.getElem?_cons_succ, List.getElem?_cons_succ, List.getElem?_replicate] at e
          split at e
          · cases e; trivial
          · cases e
      · match i with
        | 0 => cases e
        | 1 => cases e
        | i + 2 =>
          rw [List.getElem?_cons_succ, List.getElem?_cons_succ, List.getElem?_replicate] at e
          split at e <;> cases e
    · have hp : dd = .bool true := hp
      subst hp
      cases r
      exact hQ _
end
end
end Pv
set_option Elab.async false
set_option linter.all false
set_option maxRecDepth 100000
set_option maxHeartbeats 4000000
/-! Core 18: a def with a lambda; the whole table. Own work. -/
set_option autoImplicit false
namespace Pv
open PySem PySem.Spec L2
section
variable {P : Px} {prog : Program} {w : World} {K : PySem.W.Frag} {mg : Str → Option Value} {base : Heap}
/-- the name of a def's lambda -/
def lamQ (nm : Str) : Str := (PyProof.Rows.envOfC nm { kind := .function, names := [], isGenerator := false, isCoroutine := false } 0 0 .none).qual ++ "<lambda>"
theorem fn_codeL {T : List FnI} {fns : List Str} {cs : List (Str × PyData)} {i d : Nat} {nm : Str} {ps ns : List Str} {body : CSs} {st : Stmt} {f c Pt : Addr} {dV kV doc pm ct oc : Value} {an od : Option Addr} {osl : Array (Option Value)} (M : Md P K mg cs)
    (hT : T[i]? = some ⟨nm, ps, ns, .code body⟩) (lk : K.lookup f = some ⟨oc, od, .func (PySem.W.fnOf nm nm (defArgs st) (defBody st) (defScope st) dV kV doc pm an (.ref c) ct), osl⟩) (hcd : PySem.W.codeIn K (.ref c) nm = true)
    (sc : FnScope ns ps (defScope st)) (hm : mtSs fns cs ns (defScope st) body (defBody st) = true) (TB : LamX.TabB base mg c Pt) (hT1 : (Pt, lamQ nm) ∈ P.T) (hT2 : ∀ p ∈ P.T, p.1 = Pt → p.2 = lamQ nm)
    (cal : ∀ (f : Nat) (x : Str), fns[f]? = some x → CalM P (callD T d) prog w K mg base d f x) : FnOk prog w K mg base (L2.CX prog w) (d + 1) f (PySem.W.fnOf nm nm (defArgs st) (defBody st) (defScope st) dV kV doc pm an (.ref c) ct) ps (spF P (callD T (d + 1)) i) := by
  have hpl : ps.length ≤ ns.length := by have := congrArg List.length sc.pre; rw [List.length_take] at this; omega
  refine fn_of lk hcd sc (fun vs H Q E h => ?_) (fun A outer s H vs Q E hr h => ?_)
  · obtain ⟨DF, G, sl, p, e, h1, h2, htb, ra, hc, _⟩ := h
    rw [callD_s hT, runF_code] at hc
    rw [ra.len, hc.1]
  · obtain ⟨DF, G, sl, p, e, h1, h2, htb, ra, hc, kv, kx⟩ := h
    rw [callD_s hT, runF_code] at hc
    obtain ⟨hl, hev⟩ := hc
    have F0 := start_fr (P := P) (N := ns) h1 h2 htb ra hl hpl
    generalize hP : ({ P with DF0 := DF, G0 := G, H0 := H } : Px) = P' at F0
    have eK : P'.K = P.K := by rw [← hP]
    have eT : P'.T = P.T := by rw [← hP]
    have hsp : ∀ f, spF P' (callD T d) f = spF P (callD T d) f := fun f => by rw [← hP]; rfl
    have hX : Cxs P' (callD T d) fns cs ns (cxOf (L2.CX prog w) prog w K mg base ns nm (defScope st) f (.ref c) A outer s H E) (defScope st) (fun cls dx _ H => E cls dx H) :=
      { f := { o := ⟨M.K.trans eK.symm, rfl, rfl, sc.nd, rfl, hr.hd, M.free, fun k x dd e => (by rw [eK]; exact M.gl k x dd e), (by have := hr.un; show (A.deeper _).units + 200 < _; omega), hr.depth⟩
               cal := fun f x e => (by
                obtain ⟨fa, fd, ps, a1, a2, a3, a4⟩ := cal f x e
                exact ⟨d, fa, fd, ps, (by rw [hsp]; exact a1), hr, a2, a3, a4⟩)
               tk := takes_of rfl rfl rfl rfl }
        fn := fun _ => rfl
        po := passes_of rfl
        lam := fun _ => ⟨c, Pt, TB, rfl, (by rw [eT]; exact hT1), (by rw [eT]; exact hT2)⟩ }
    refine ⟨_, okSs body hX hm, DF, G, _, _, _, F0, hev, ?_⟩
    have fin : ∀ v d ρ' σ' H' DF' G', p d (ρ'.take ps.length) → FrD P' DF' σ' ρ' G' H' → Rp P'.K G' v d → Q v H' := fun v d ρ' σ' H' DF' G' hp F' r => by
      rw [eK] at r
      subst hP
      obtain ⟨g, d'⟩ := back_gr F'
      exact kv _ _ _ _ _ hp g F'.sub d' r
    refine ⟨fun ρ' σ' H' DF' G' hp F' s' => fin _ _ _ _ _ _ _ hp F' .non, fun ρ' σ' H' DF' G' hp F' s' => hp.elim, fun ρ' σ' H' DF' G' hp F' s' => hp.elim, fun dd ρ' σ' H' DF' G' v hp F' s' r => fin _ _ _ _ _ _ _ hp F' r, fun x ρ' σ' H' DF' G' cls dx hp F' s' ex => ?_⟩
    subst hP
    obtain ⟨g, d'⟩ := back_gr F'
    exact kx _ _ _ _ _ _ hp g F'.sub d' ex
/-- an entry of the table keeps its promise where its callees do -/
def EntOk (P : Px) (prog : Program) (w : World) (K : PySem.W.Frag) (mg : Str → Option Value) (base : Heap) (T : List FnI) (fns : List Str) (i : Nat) (fi : FnI) : Prop :=
  ∃ (f : Addr) (fd : FuncData), mg fi.name = some (.ref f) ∧ PySem.W.keepIn K (.ref f) = true ∧ Binds K fd fi.ps [] ∧
    ∀ d, (∀ (g : Nat) (x : Str), fns[g]? = some x → CalM P (callD T d) prog w K mg base d g x) → FnOk prog w K mg base (L2.CX prog w) (d + 1) f fd fi.ps (spF P (callD T (d + 1)) i)
theorem cal_all {T : List FnI} {fns : List Str} (h : ∀ i fi, T[i]? = some fi → EntOk P prog w K mg base T fns i fi) (hf : fns = T.map (·.name)) : ∀ (d f : Nat) (x : Str), fns[f]? = some x → CalM P (callD T d) prog w K mg base d f x
  | 0, f, x, e => by
    rw [hf, List.getElem?_map] at e
    cases q : T[f]? with
    | none => rw [q] at e; cases e
    | some fi =>
      rw [q] at e
      obtain rfl : fi.name = x := by simpa using e
      obtain ⟨fa, fd, h1, h2, h3, h4⟩ := h f fi q
      refine ⟨fa, fd, fi.ps, ⟨fun vs H Q E z => ?_, fun A outer s H args us vs Q E _ _ _ _ z => ?_⟩, h1, h2, h3⟩
      · obtain ⟨_, _, _, _, _, _, _, _, _, hc, _⟩ := z
        exact hc.elim
      · obtain ⟨_, _, _, _, _, _, _, _, _, hc, _⟩ := z
        exact hc.elim
  | d + 1, f, x, e => by
    have ih := cal_all h hf d
    rw [hf, List.getElem?_map] at e
    cases q : T[f]? with
    | none => rw [q] at e; cases e
    | some fi =>
      rw [q] at e
      obtain rfl : fi.name = x := by simpa using e
      obtain ⟨fa, fd, h1, h2, h3, h4⟩ := h f fi q
      exact ⟨fa, fd, fi.ps, h4 d ih, h1, h2, h3⟩
/-- an entry by its text -/
theorem ent_code {T : List FnI} {fns : List Str} {cs : List (Str × PyData)} {i : Nat} {nm : Str} {ps ns : List Str} {body : CSs} {st : Stmt} {f : Addr} {fd : FuncData} (M : Md P K mg cs) (hT : T[i]? = some ⟨nm, ps, ns, .code body⟩) (Fn : FnP K nm st f fd) (hg : mg nm = some (.ref f)) (hb : Binds K fd ps [])
    (sc : FnScope ns ps (defScope st)) (hm : mtSs fns cs ns (defScope st) body (defBody st) = true) (hnl : ns.contains lamNm = false) : EntOk P prog w K mg base T fns i ⟨nm, ps, ns, .code body⟩ :=
  ⟨f, fd, hg, Fn.kp, hb, fun d cal => fn_code M hT Fn sc hm hnl cal⟩
end
end Pv
set_option Elab.async false
set_option linter.all false
set_option maxRecDepth 100000
set_option maxHeartbeats 4000000
/-! Core 19: from a head's facts to the module. Own work. -/
set_option autoImplicit false
namespace Pv
open PySem PySem.Spec L2
mutual
/-- the value u is the data d, by the objects of K (tuples, ints, texts, ..) -/
def gotV (K : PySem.W.Frag) : Nat → Value → PyData → Bool
  | _, .none, .none => true
  | _, .bool a, .bool b => a == b
  | _, .int a _, .int b => decide (a = b)
  | _, .str a _, .str b => decide (a = b)
  | n + 1, .ref a, .tuple ds => (match K.lookup a with
    | some ⟨.type c, _, .seq its _, _⟩ => decide (c = "tuple") && (decide (its.size ≤ 1000) && gotVs K n its.toList ds)
    | _ => false)
  | _, _, _ => false
def gotVs (K : PySem.W.Frag) : Nat → List Value → List PyData → Bool
  | _, [], [] => true
  | n + 1, u :: us, d :: ds => gotV K n u d && gotVs K n us ds
  | _, _, _ => false
end
theorem gots {K : PySem.W.Frag} : ∀ n : Nat, (∀ (u : Value) (d : PyData), gotV K n u d = true → ∃ v, RelV v u ∧ Rp K (fun _ => none) v d) ∧ (∀ (us : List Value) (ds : List PyData), gotVs K n us ds = true → ∃ vs, Vals vs us ∧ Rps K (fun _ => none) vs ds) := by
  intro n
  induction n with
  | zero =>
    refine ⟨fun u d h => ?_, fun us ds h => ?_⟩
    · unfold gotV at h
      split at h
      · exact ⟨.non, rfl, .non⟩
      · obtain rfl := eq_of_beq h; exact ⟨.bl _, rfl, .bl _⟩
      · obtain rfl := dec h; exact ⟨.int _, ⟨_, rfl⟩, .int _⟩
      · obtain rfl := dec h; exact ⟨.str _, ⟨_, rfl⟩, .str _⟩
      · omega
      · cases h
    · unfold gotVs at h
      split at h
      · exact ⟨[], .nil, .nil⟩
      · omega
      · cases h
  | succ n ih =>
    refine ⟨fun u d h => ?_, fun us ds h => ?_⟩
    · unfold gotV at h
      split at h
      · exact ⟨.non, rfl, .non⟩
      · obtain rfl := eq_of_beq h; exact ⟨.bl _, rfl, .bl _⟩
      · obtain rfl := dec h; exact ⟨.int _, ⟨_, rfl⟩, .int _⟩
      · obtain rfl := dec h; exact ⟨.str _, ⟨_, rfl⟩, .str _⟩
      · rename_i m a ds en
        split at h
        · rename_i c od its ep sl e
          obtain ⟨h1, h2⟩ := both h
          obtain ⟨hsz, h3⟩ := both h2
          obtain rfl := dec h1
          obtain rfl : n = m := by omega
          obtain ⟨vs, r1, r2⟩ := ih.2 _ _ h3
          exact ⟨.ref a, rfl, .tup (.inr ⟨_, its, ep, e, rfl, rfl, Nat.le_trans (dec hsz) (by rw [sizeLine_eq]; decide), r1⟩) r2⟩
        · cases h
      · cases h
    · unfold gotVs at h
      split at h
      · exact ⟨[], .nil, .nil⟩
      · rename_i m u us d ds en
        obtain rfl : n = m := by omega
        obtain ⟨h1, h2⟩ := both h
        obtain ⟨v, a1, a2⟩ := ih.1 _ _ h1
        obtain ⟨vs, b1, b2⟩ := ih.2 _ _ h2
        exact ⟨v :: vs, .cons a1 b1, .cons a2 b2⟩
      · cases h
theorem gotV_ok {K : PySem.W.Frag} {n : Nat} {u : Value} {d : PyData} (h : gotV K n u d = true) : ∃ v, RelV v u ∧ Rp K (fun _ => none) v d := (gots n).1 u d h
/-- the constants -/
def exC (cs : List (Str × PyData)) (K : PySem.W.Frag) : Bool := cs.all fun p => match PySem.W.nsIn K mainGlobals p.1 with
  | some (some u) => gotV K 40 u p.2
  | _ => false
theorem md_of {P : Px} {K : PySem.W.Frag} {mg : Str → Option Value} {h : Heap} {cs : List (Str × PyData)} (hK : K = P.K) (X : K.In h) (G : h.Ns mainGlobals mg) (ex : exC cs K = true)
    (fr : ∀ b ∈ (["len", "range", "min", "max", "abs", "sorted", "tuple", "list", "int", "isinstance", "set", "all", "any", "sum", "bool", "str", "dict"] : List Str), mg b = none) : Md P K mg cs := by
  refine ⟨hK, fr, fun k x d e => ?_⟩
  have hm := List.mem_of_getElem? e
  have := List.all_eq_true.mp ex _ hm
  cases q : PySem.W.nsIn K mainGlobals x with
  | none => simp [q] at this
  | some o =>
    cases o with
    | none => simp [q] at this
    | some u =>
      simp only [q] at this
      obtain ⟨v, r, rp⟩ := gotV_ok this
      subst hK
      exact ⟨v, u, PySem.W.mg_of X G q, r, rp⟩
end Pv
set_option Elab.async false
set_option linter.all false
set_option maxRecDepth 100000
namespace Pv
open PySem
def top (i : Nat) : Stmt := PySem.Challenge.pw_callswright_k01_whole_places_turned.main.body.getD i (.Pass ⟨0, 0, 0, 0⟩)
end Pv
set_option Elab.async false
set_option linter.all false
set_option maxRecDepth 100000
set_option maxHeartbeats 4000000
/-! The law's drawing. Own work. -/
set_option autoImplicit false
namespace Pv
open PySem PySem.Spec L2
abbrev sTake : Stmt := top 21
abbrev nTake : List Str := ["state", "bound", "cells", "spot", "cell", "mixed"]
abbrev pTake : List Str := ["state", "bound"]
theorem scTake : FnScope nTake pTake (defScope sTake) := ⟨rfl, rfl, rfl, by decide +kernel, rfl, by decide +kernel, by decide +kernel⟩
theorem takeF_inv {sl : List Slot} {p : PyData → List Slot → Prop} (h : takeF sl p) : ∃ b : Int, sl = [.st, .v (.int b)] ∧ if b < 2 then p (.int 0) [.st, .v (.int b)] else b < 1000000000 ∧ ∀ n : Nat, (n : Int) < b → p (.int n) [.st, .v (.int b)] := by
  unfold takeF at h
  split at h
  · exact ⟨_, rfl, h⟩
  · exact h.elim
section
variable {P : Px} {prog : Program} {w : World} {K : PySem.W.Frag} {mg : Str → Option Value} {base : Heap}
theorem ok_take {T : List FnI} {cs : List (Str × PyData)} {i d : Nat} {nm : Str} {ns0 : List Str} {f : Addr} {fd : FuncData} (M : Md P K mg cs) (hT : T[i]? = some ⟨nm, pTake, ns0, .take⟩) (Fn : FnP K nm sTake f fd) :
    FnOk prog w K mg base (L2.CX prog w) 1 f fd pTake (spF P (callD T (d + 1)) i) := by
  refine Fn.ok scTake (fun vs H Q E h => ?_) (fun cdv A outer s H vs Q E hr h => ?_)
  · obtain ⟨DF, G, sl, p, e, h1, h2, htb, ra, hc, _⟩ := h
    rw [callD_s hT, runF_take] at hc
    obtain ⟨b, rfl, _⟩ := takeF_inv hc
    exact ra.len
  · obtain ⟨DF, G, sl, p, e, h1, h2, htb, ra, hc, kv, kx⟩ := h
    rw [callD_s hT, runF_take] at hc
    replace hc := takeF_inv hc
    obtain ⟨b, rfl, hc⟩ := hc
    have gInt : mg "int" = none := M.free _ (by decide)
    have gLen : mg "len" = none := M.free _ (by decide)
    refine ⟨_, (show PSs _ (defBody sTake) _ from pss_cons (ps_if (pt_cmpR op_lt (pv 1) pe_int (nomark _)) (pss_one (ps_ret pe_int)) pss_nil) <|
        pss_cons (ps_set (i := 2) scTake.nd rfl (.inl rfl) (pe_ix ix_list (pv 0) pe_int (fun _ _ => rfl))) <|
        pss_cons (ps_set (i := 3) scTake.nd rfl (.inl rfl) (pe_op op_mod (pe_callTy call_int1 rfl gInt PyProof.Rows.boot_int (pa_cons (pe_ix ix_list (pv 0) pe_int (fun _ _ => rfl)) pa_nil)) (pe_callB call_len_seq rfl gLen boot_len (pa_cons (pv 2) pa_nil)))) <|
        pss_cons (ps_set (i := 4) scTake.nd rfl (.inl rfl) (pe_ix ix_list (pv 2) (pv 3) (fun _ _ => rfl))) <|
        pss_cons (ps_if (pt_cmpR op_ge (pv 4) pe_int (nomark _)) (pss_cons (ps_asg (pe_op op_fdiv (pv 4) (pv 1)) (pg_sub (pv 2) (pv 3) set_list)) (pss_one (ps_ret (pe_op op_mod (pe_callTy call_int1 rfl gInt PyProof.Rows.boot_int (pa_cons (pv 4) pa_nil)) (pv 1))))) pss_nil) <|
        pss_cons (ps_asg (pe_op op_add (pe_ix ix_list (pv 0) pe_int (fun _ _ => rfl)) pe_int) (pg_sub (pv 0) pe_int set_list)) <|
        pss_cons (ps_set (i := 5) scTake.nd rfl (.inl rfl) (pe_op op_mod (pe_callTy call_int1 rfl gInt PyProof.Rows.boot_int (pa_cons (pe_op op_add (pe_op op_mul (pv 4) pe_int) (pe_op op_mul (pe_ix ix_list (pv 0) pe_int (fun _ _ => rfl)) pe_int)) pa_nil)) pe_int)) <|
        pss_cons (ps_set (i := 5) scTake.nd rfl (.inl rfl) (pe_op op_mod (pe_callTy call_int1 rfl gInt PyProof.Rows.boot_int (pa_cons (pe_op op_add (pe_op op_mul (pv 5) pe_int) (pe_op op_mul (pe_ix ix_list (pv 0) pe_int (fun _ _ => rfl)) pe_int)) pa_nil)) pe_int)) <|
        pss_one (ps_ret (pe_op op_mod (pe_callTy call_int1 rfl gInt PyProof.Rows.boot_int (pa_cons (pe_op op_fdiv (pv 5) pe_int) pa_nil)) (pv 1)))), ?pure⟩
    case pure =>
      cases ra with
      | cons a1 ra =>
        cases ra with
        | cons a2 ra =>
          cases ra
          obtain ⟨q, rfl, rfl⟩ := a1
          cases a2
          obtain ⟨hnt, g1, g2, g3, pos, cells, e1, e2, hc1, hc2⟩ := h2
          have fin : ∀ (n : Int) (H' : Hp) (pos' : Int) (cells' : List Int), p (.int n) [.st, .v (.int b)] → cells'.length = cells.length → H' q.1 = some (.lst [.int pos', .ref q.2]) → H' q.2 = some (.lst (cells'.map V.int)) → (∀ a, a ≠ q.1 → a ≠ q.2 → H' a = H a) → Q (.int n) H' := fun n H' pos' cells' hp hl k1 k2 k3 => by
            refine kv _ H' G _ _ hp ⟨Sub.refl G, fun a o e _ m => (k3 a m.1 m.2).trans e, fun _ _ e => .inl e, fun a e u z => ?_, fun t => tabs_lst t fun a o e n => (k3 a (fun z => n _ (by rw [z, e1] at e; cases e; rfl)) (fun z => n _ (by rw [z, e2] at e; cases e; rfl))).trans e⟩ (fun a o e => ?_) ⟨hnt, g1, g2, g3, pos', cells', k1, k2, fun z => ?_, by omega⟩ (.int n)
            · by_cases z1 : a = q.1
              · exact (e.no (by rw [z1]; exact k1)).elim
              · by_cases z2 : a = q.2
                · exact (e.no (by rw [z2]; exact k2)).elim
                · exact e u ((k3 a z1 z2).trans z)
            · rw [k3 a (fun z => by rw [z, g1] at e; cases e) (fun z => by rw [z, g2] at e; cases e)]
              exact h1 a o e
            · subst z
              cases cells with
              | nil => exact hc1 rfl
              | cons _ _ => cases hl
          have hlen : 0 < cells.length := by
            cases cells with
            | nil => exact absurd rfl hc1
            | cons _ _ => simp
          refine ⟨_, rfl, b, 2, rfl, rfl, _, rfl, ?_⟩
          show ite _ _ _
          by_cases hb : b < 2
          · rw [if_pos hb] at hc
            rw [if_pos (decide_eq_true hb)]
            exact fin 0 H pos cells hc rfl e1 e2 fun _ _ _ => rfl
          · rw [if_neg hb] at hc
            rw [if_neg (by simpa using hb)]
            obtain ⟨hb2, hc⟩ := hc
            have hn : ∀ x : Int, p (.int (x % b)) [.st, .v (.int b)] := fun x => by
              have h0 := Int.emod_nonneg x (show b ≠ 0 by omega)
              have h1 := Int.emod_lt_of_pos x (show 0 < b by omega)
              have := hc (x % b).toNat (by omega)
              rwa [Int.toNat_of_nonneg h0] at this
            have s0 : 0 ≤ pos % ((cells.map V.int).length : Int) := Int.emod_nonneg _ (by rw [List.length_map]; omega)
            have s1 : pos % ((cells.map V.int).length : Int) < cells.length := by rw [List.length_map]; exact Int.emod_lt_of_pos _ (by omega)
            have hix : ixN (cells.map V.int).length (pos % ((cells.map V.int).length : Int)) = some (pos % ((cells.map V.int).length : Int)).toNat := by
              unfold ixN
              rw [if_pos s0, if_pos (by rw [List.length_map] at s1 ⊢; exact s1)]
            obtain ⟨x, hx⟩ : ∃ x, cells[(pos % ((cells.map V.int).length : Int)).toNat]? = some x := ⟨_, List.getElem?_eq_getElem (by omega)⟩
            have hat : atI (cells.map V.int) (pos % ((cells.map V.int).length : Int)) = some (.int x) := by
              unfold atI
              rw [hix]
              show (cells.map V.int)[(pos % ((cells.map V.int).length : Int)).toNat]? = _
              rw [List.getElem?_map, hx]; rfl
            refine ⟨.ref q.1, rfl, q.1, [.int pos, .ref q.2], 1, .ref q.2, rfl, rfl, SqL.of e1, rfl, ?_⟩
            refine ⟨.ref q.1, rfl, q.1, [.int pos, .ref q.2], 0, .int pos, rfl, rfl, SqL.of e1, rfl, .inl ⟨pos, rfl, .ref q.2, rfl, q.2, cells.map V.int, rfl, .inl (SqL.of e2), pos, (cells.map V.int).length, rfl, rfl, by rw [List.length_map]; omega, ?_⟩⟩
            refine ⟨.ref q.2, rfl, .int _, rfl, q.2, cells.map V.int, _, .int x, rfl, rfl, SqL.of e2, hat, ?_⟩
            refine ⟨.int x, rfl, x, 1000000000000000000, rfl, rfl, _, rfl, ?_⟩
            show ite _ _ _
            by_cases hx8 : (1000000000000000000 : Int) ≤ x
            · rw [if_pos (decide_eq_true hx8)]
              refine ⟨.int x, rfl, .int b, rfl, x, b, rfl, rfl, ⟨by omega, by omega⟩, .ref q.2, rfl, .int _, rfl, q.2, cells.map V.int, _, _, rfl, rfl, e2, hix, ?_⟩
              refine ⟨.int x, rfl, .inl ⟨x, rfl, .int b, rfl, x, b, rfl, rfl, by omega, ?_⟩⟩
              exact fin _ _ pos (cells.set (pos % ((cells.map V.int).length : Int)).toNat (x / b)) (hn x) (by simp) (by rw [upd_ne g3]; exact e1) (by rw [upd_same, List.map_set]) fun a _ h => upd_ne h
            · rw [if_neg (by simpa using hx8)]
              refine ⟨.ref q.1, rfl, q.1, [.int pos, .ref q.2], 0, .int pos, rfl, rfl, SqL.of e1, rfl, pos, 1, rfl, rfl, .ref q.1, rfl, q.1, [.int pos, .ref q.2], 0, 0, rfl, rfl, e1, rfl, ?_⟩
              have e3 : (upd H q.1 (.lst [.int (pos + 1), .ref q.2])) q.1 = some (.lst [.int (pos + 1), .ref q.2]) := upd_same
              refine ⟨.int x, rfl, x, 48271, rfl, rfl, .inr ⟨by omega, by omega⟩, .ref q.1, rfl, q.1, [.int (pos + 1), .ref q.2], 0, .int (pos + 1), rfl, rfl, SqL.of e3, rfl, pos + 1, 69621, rfl, rfl, .inr ⟨by omega, by omega⟩, _, _, rfl, rfl, .inl ⟨_, rfl, _, 2147483647, rfl, rfl, by omega, ?_⟩⟩
              refine ⟨_, rfl, _, 16807, rfl, rfl, .inr ⟨by omega, by omega⟩, .ref q.1, rfl, q.1, [.int (pos + 1), .ref q.2], 0, .int (pos + 1), rfl, rfl, SqL.of e3, rfl, pos + 1, 7919, rfl, rfl, .inr ⟨by omega, by omega⟩, _, _, rfl, rfl, .inl ⟨_, rfl, _, 1000000007, rfl, rfl, by omega, ?_⟩⟩
              refine ⟨_, rfl, _, 7, rfl, rfl, ⟨by omega, by omega⟩, .inl ⟨_, rfl, .int b, rfl, _, b, rfl, rfl, by omega, ?_⟩⟩
              exact fin _ _ (pos + 1) cells (hn _) rfl upd_same (by rw [upd_ne (Ne.symm g3)]; exact e2) fun a h _ => upd_ne h
end
end Pv
set_option linter.all false
set_option maxRecDepth 100000
namespace Pv
open PySem
def Fis_place : FnI := ⟨"is_place", ["value"], ["value", "one"], .code
    (.cons (.ifs (.or (.not (.isa 0 (.nm 0))) (.cmp .ne (.prim .len (.cons (.nm 0) .nil)) (.cst (.int 3)))) (.cons (.ret (.cst (.bool false)))
    .nil) .nil)
    (.cons (.ifs (.not (.prim .all (.cons (.comp (.and (.isa 1 (.nm 1)) (.not (.isa 2 (.nm 1)))) (.nm 1) (.seq (.nm 0)) (.cst (.bool true))) .nil))) (.cons (.ret (.cst (.bool false)))
    .nil) .nil)
    (.cons (.ret (.and (.cmp .le (.prim .abs (.cons (.idx (.nm 0) (.cst (.int 0))) .nil)) (.gl 0 "MOST_PLACE" (.int 20))) (.and (.cmp .le (.prim .abs (.cons (.idx (.nm 0) (.cst (.int 1))) .nil)) (.gl 0 "MOST_PLACE" (.int 20))) (.chn .le .le (.cst (.int 0)) (.idx (.nm 0) (.cst (.int 2))) (.cst (.int 3))))))
    .nil)))⟩
def Fare_places : FnI := ⟨"are_places", ["value"], ["value", "one"], .code
    (.cons (.ifs (.or (.not (.isa 0 (.nm 0))) (.or (.not (.chn .le .le (.cst (.int 1)) (.prim .len (.cons (.nm 0) .nil)) (.cst (.int 8)))) (.not (.prim .all (.cons (.comp (.call 0 (.cons (.nm 1) .nil)) (.nm 1) (.seq (.nm 0)) (.cst (.bool true))) .nil))))) (.cons (.ret (.cst (.bool false)))
    .nil) .nil)
    (.cons (.ret (.cmp .eq (.lenset (.comp (.sl (.nm 1) (.cst .none) (.cst (.int 2))) (.nm 1) (.seq (.nm 0)) (.cst (.bool true)))) (.prim .len (.cons (.nm 0) .nil))))
    .nil))⟩
def Bturned_1 : CSs :=
    (.cons (.par [(2, false), (3, false), (4, false)] (.cons (.nm 3) (.cons (.bin .sub (.cst (.int 0)) (.nm 2)) (.cons (.bin .mod (.bin .add (.nm 4) (.cst (.int 1))) (.cst (.int 4))) .nil))))
    .nil)
def Fturned : FnI := ⟨"turned", ["place", "quarters"], ["place", "quarters", "x", "y", "facing", "turn"], .code
    (.cons (.unp [2, 3, 4] (.nm 0))
    (.cons (.fors (.nm 5) (.rng (.nm 1)) Bturned_1 [5])
    (.cons (.ret (.tup (.cons (.nm 2) (.cons (.nm 3) (.cons (.nm 4) .nil)))))
    .nil)))⟩
def Fmoved : FnI := ⟨"moved", ["place", "x", "y"], ["place", "x", "y"], .code
    (.cons (.ret (.tup (.cons (.bin .add (.idx (.nm 0) (.cst (.int 0))) (.nm 1)) (.cons (.bin .add (.idx (.nm 0) (.cst (.int 1))) (.nm 2)) (.cons (.idx (.nm 0) (.cst (.int 2))) .nil)))))
    .nil)⟩
def Fmirrored : FnI := ⟨"mirrored", ["place"], ["place"], .code
    (.cons (.ret (.tup (.cons (.bin .sub (.cst (.int 0)) (.idx (.nm 0) (.cst (.int 0)))) (.cons (.idx (.nm 0) (.cst (.int 1))) (.cons (.bin .mod (.bin .sub (.cst (.int 4)) (.idx (.nm 0) (.cst (.int 2)))) (.cst (.int 4))) .nil)))))
    .nil)⟩
def Fstepped : FnI := ⟨"stepped", ["place", "many"], ["place", "many", "x", "y"], .code
    (.cons (.unp [2, 3] (.idx (.gl 1 "STEPS" (.tuple [(.tuple [(.int 0), (.int 1)]), (.tuple [(.int 1), (.int 0)]), (.tuple [(.int 0), (.int (-1))]), (.tuple [(.int (-1)), (.int 0)])])) (.idx (.nm 0) (.cst (.int 2)))))
    (.cons (.ret (.tup (.cons (.bin .add (.idx (.nm 0) (.cst (.int 0))) (.bin .mul (.nm 1) (.nm 2))) (.cons (.bin .add (.idx (.nm 0) (.cst (.int 1))) (.bin .mul (.nm 1) (.nm 3))) (.cons (.idx (.nm 0) (.cst (.int 2))) .nil)))))
    .nil))⟩
def Ffaced : FnI := ⟨"faced", ["place", "quarters"], ["place", "quarters"], .code
    (.cons (.ret (.tup (.cons (.idx (.nm 0) (.cst (.int 0))) (.cons (.idx (.nm 0) (.cst (.int 1))) (.cons (.bin .mod (.bin .add (.idx (.nm 0) (.cst (.int 2))) (.nm 1)) (.cst (.int 4))) .nil)))))
    .nil)⟩
def Flaid : FnI := ⟨"laid", ["places"], ["places", "x", "y", "one"], .code
    (.cons (.par [(1, false), (2, false)] (.cons (.prim .mn (.cons (.comp (.idx (.nm 3) (.cst (.int 0))) (.nm 3) (.seq (.nm 0)) (.cst (.bool true))) .nil)) (.cons (.prim .mn (.cons (.comp (.idx (.nm 3) (.cst (.int 1))) (.nm 3) (.seq (.nm 0)) (.cst (.bool true))) .nil)) .nil)))
    (.cons (.ret (.prim .tup (.cons (.comp (.call 3 (.cons (.nm 3) (.cons (.bin .sub (.cst (.int 0)) (.nm 1)) (.cons (.bin .sub (.cst (.int 0)) (.nm 2)) .nil)))) (.nm 3) (.seq (.nm 0)) (.cst (.bool true))) .nil)))
    .nil))⟩
def Fall_turns : FnI := ⟨"all_turns", ["places"], ["places", "quarters", "one"], .code
    (.cons (.ret (.comp (.call 7 (.cons (.comp (.call 2 (.cons (.nm 2) (.cons (.nm 1) .nil))) (.nm 2) (.seq (.nm 0)) (.cst (.bool true))) .nil)) (.nm 1) (.rng (.cst (.int 4))) (.cst (.bool true))))
    .nil)⟩
def Fleast : FnI := ⟨"least", ["places"], ["places"], .code
    (.cons (.ret (.prim .mn (.cons (.call 8 (.cons (.nm 0) .nil)) .nil)))
    .nil)⟩
def Fbare : FnI := ⟨"bare", ["places"], ["places", "one"], .code
    (.cons (.ret (.prim .mn (.cons (.comp (.prim .tup (.cons (.prim .srt (.cons (.nm 1) .nil)) .nil)) (.nm 1) (.seq (.call 8 (.cons (.nm 0) .nil))) (.cst (.bool true))) .nil)))
    .nil)⟩
def Fturns_to_bare : FnI := ⟨"turns_to_bare", ["places"], ["places", "told", "rows", "quarters"], .code
    (.cons (.par [(1, false), (2, false)] (.cons (.call 10 (.cons (.nm 0) .nil)) (.cons (.call 8 (.cons (.nm 0) .nil)) .nil)))
    (.cons (.ret (.comp (.nm 3) (.nm 3) (.rng (.cst (.int 4))) (.cmp .eq (.prim .tup (.cons (.prim .srt (.cons (.idx (.nm 2) (.nm 3)) .nil)) .nil)) (.nm 1))))
    .nil))⟩
def Borders_1 : CSs :=
    (.cons (.set 4 (.idx (.nm 2) (.nm 3)))
    (.cons (.apps 1 4)
    .nil))
def Forders : FnI := ⟨"orders", ["places"], ["places", "found", "rows", "quarters", "row", "<lambda>"], .code
    (.cons (.own 1 (.lst .nil))
    (.cons (.set 2 (.call 8 (.cons (.nm 0) .nil)))
    (.cons (.fors (.nm 3) (.seq (.call 11 (.cons (.nm 0) .nil))) Borders_1 [3, 4])
    (.cons (.frz 1)
    (.cons (.ret (.nm 1))
    .nil)))))⟩
def Fare_alike : FnI := ⟨"are_alike", ["one", "other"], ["one", "other"], .code
    (.cons (.ret (.and (.cmp .eq (.prim .len (.cons (.nm 0) .nil)) (.prim .len (.cons (.nm 1) .nil))) (.cmp .eq (.call 9 (.cons (.nm 0) .nil)) (.call 9 (.cons (.nm 1) .nil)))))
    .nil)⟩
def Fwide : FnI := ⟨"wide", ["places"], ["places", "told", "one"], .code
    (.cons (.set 1 (.call 7 (.cons (.nm 0) .nil)))
    (.cons (.ret (.tup (.cons (.bin .add (.prim .mx (.cons (.comp (.idx (.nm 2) (.cst (.int 0))) (.nm 2) (.seq (.nm 1)) (.cst (.bool true))) .nil)) (.cst (.int 1))) (.cons (.bin .add (.prim .mx (.cons (.comp (.idx (.nm 2) (.cst (.int 1))) (.nm 2) (.seq (.nm 1)) (.cst (.bool true))) .nil)) (.cst (.int 1))) .nil))))
    .nil))⟩
def F_law_take : FnI := ⟨"_law_take", ["state", "bound"], ["state", "bound"], .take⟩
def B_law_turn_1 : CSs :=
    (.cons (.par [(2, false), (3, false), (4, false)] (.cons (.nm 3) (.cons (.bin .sub (.cst (.int 0)) (.nm 2)) (.cons (.bin .mod (.prim .int (.cons (.bin .add (.nm 4) (.cst (.int 1))) .nil)) (.cst (.int 4))) .nil))))
    .nil)
def F_law_turn : FnI := ⟨"_law_turn", ["place", "quarters"], ["place", "quarters", "x", "y", "facing", "turn"], .code
    (.cons (.unp [2, 3, 4] (.nm 0))
    (.cons (.fors (.nm 5) (.rng (.nm 1)) B_law_turn_1 [5])
    (.cons (.ret (.tup (.cons (.nm 2) (.cons (.nm 3) (.cons (.nm 4) .nil)))))
    .nil)))⟩
def F_law_laid : FnI := ⟨"_law_laid", ["places"], ["places", "x", "y", "one"], .code
    (.cons (.par [(1, false), (2, false)] (.cons (.prim .mn (.cons (.comp (.idx (.nm 3) (.cst (.int 0))) (.nm 3) (.seq (.nm 0)) (.cst (.bool true))) .nil)) (.cons (.prim .mn (.cons (.comp (.idx (.nm 3) (.cst (.int 1))) (.nm 3) (.seq (.nm 0)) (.cst (.bool true))) .nil)) .nil)))
    (.cons (.ret (.prim .tup (.cons (.comp (.tup (.cons (.bin .sub (.idx (.nm 3) (.cst (.int 0))) (.nm 1)) (.cons (.bin .sub (.idx (.nm 3) (.cst (.int 1))) (.nm 2)) (.cons (.idx (.nm 3) (.cst (.int 2))) .nil)))) (.nm 3) (.seq (.nm 0)) (.cst (.bool true))) .nil)))
    .nil))⟩
def F_law_turns : FnI := ⟨"_law_turns", ["places"], ["places", "k", "one"], .code
    (.cons (.ret (.comp (.call 17 (.cons (.comp (.call 16 (.cons (.nm 2) (.cons (.nm 1) .nil))) (.nm 2) (.seq (.nm 0)) (.cst (.bool true))) .nil)) (.nm 1) (.rng (.cst (.int 4))) (.cst (.bool true))))
    .nil)⟩
def F_law_least : FnI := ⟨"_law_least", ["places"], ["places"], .code
    (.cons (.ret (.prim .mn (.cons (.call 18 (.cons (.nm 0) .nil)) .nil)))
    .nil)⟩
def F_law_bare : FnI := ⟨"_law_bare", ["places"], ["places", "one"], .code
    (.cons (.ret (.prim .mn (.cons (.comp (.prim .tup (.cons (.prim .srt (.cons (.prim .lst (.cons (.nm 1) .nil)) .nil)) .nil)) (.nm 1) (.seq (.call 18 (.cons (.nm 0) .nil))) (.cst (.bool true))) .nil)))
    .nil)⟩
def B_law_places_1 : CSs :=
    (.cons (.set 4 (.tup (.cons (.bin .sub (.call 15 (.cons (.stn 0) (.cons (.cst (.int 5)) .nil))) (.cst (.int 2))) (.cons (.bin .sub (.call 15 (.cons (.stn 0) (.cons (.cst (.int 5)) .nil))) (.cst (.int 2))) (.cons (.call 15 (.cons (.stn 0) (.cons (.cst (.int 4)) .nil))) .nil)))))
    (.cons (.set 2 (.ife (.or (.cmp .eq (.prim .len (.cons (.nm 2) .nil)) (.nm 1)) (.cmp .in_ (.sl (.nm 4) (.cst .none) (.cst (.int 2))) (.comp (.sl (.nm 5) (.cst .none) (.cst (.int 2))) (.nm 5) (.seq (.nm 2)) (.cst (.bool true))))) (.nm 2) (.bin .add (.nm 2) (.lst (.cons (.nm 4) .nil)))))
    .nil))
def F_law_places : FnI := ⟨"_law_places", ["state", "many"], ["state", "many", "found", "k", "place", "one"], .code
    (.cons (.set 2 (.lst .nil))
    (.cons (.fors (.nm 3) (.rng (.cst (.int 40))) B_law_places_1 [3, 4, 5])
    (.cons (.ret (.prim .tup (.cons (.nm 2) .nil)))
    .nil)))⟩
def T : List FnI := [Fis_place, Fare_places, Fturned, Fmoved, Fmirrored, Fstepped, Ffaced, Flaid, Fall_turns, Fleast, Fbare, Fturns_to_bare, Forders, Fare_alike, Fwide, F_law_take, F_law_turn, F_law_laid, F_law_turns, F_law_least, F_law_bare, F_law_places]
def fns : List Str := ["is_place", "are_places", "turned", "moved", "mirrored", "stepped", "faced", "laid", "all_turns", "least", "bare", "turns_to_bare", "orders", "are_alike", "wide", "_law_take", "_law_turn", "_law_laid", "_law_turns", "_law_least", "_law_bare", "_law_places"]
def Blaw_1 : CSs :=
    (.cons (.par [(12, false), (13, false)] (.cons (.idx (.call 18 (.cons (.nm 3) .nil)) (.idx (.nm 10) (.nm 11))) (.cons (.idx (.call 12 (.cons (.nm 3) .nil)) (.nm 11)) .nil)))
    (.cons (.ifs (.or (.cmp .ne (.prim .srt (.cons (.prim .lst (.cons (.nm 13) .nil)) .nil)) (.rng false (.prim .len (.cons (.nm 3) .nil)))) (.cmp .ne (.prim .tup (.cons (.comp (.idx (.nm 12) (.nm 22)) (.nm 22) (.seq (.nm 13)) (.cst (.bool true))) .nil)) (.call 20 (.cons (.nm 3) .nil)))) (.cons (.ret (.cst (.bool false)))
    .nil) .nil)
    .nil))
def Blaw_2 : CSs :=
    (.cons (.set 3 (.call 21 (.cons (.stn 1) (.cons (.bin .add (.cst (.int 1)) (.call 15 (.cons (.stn 1) (.cons (.cst (.int 6)) .nil)))) .nil))))
    (.cons (.par [(4, false), (5, false)] (.cons (.idx (.nm 3) (.cst (.int 0))) (.cons (.call 15 (.cons (.stn 1) (.cons (.cst (.int 6)) .nil))) .nil)))
    (.cons (.ifs (.or (.cmp .isn (.call 1 (.cons (.nm 3) .nil)) (.cst (.bool true))) (.or (.cmp .ne (.call 2 (.cons (.nm 4) (.cons (.nm 5) .nil))) (.call 16 (.cons (.nm 4) (.cons (.nm 5) .nil)))) (.cmp .ne (.call 2 (.cons (.nm 4) (.cons (.cst (.int 4)) .nil))) (.nm 4)))) (.cons (.ret (.cst (.bool false)))
    .nil) .nil)
    (.cons (.par [(6, false), (7, false), (8, false)] (.cons (.bin .sub (.call 15 (.cons (.stn 1) (.cons (.cst (.int 9)) .nil))) (.cst (.int 4))) (.cons (.bin .sub (.call 15 (.cons (.stn 1) (.cons (.cst (.int 9)) .nil))) (.cst (.int 4))) (.cons (.bin .sub (.call 15 (.cons (.stn 1) (.cons (.cst (.int 9)) .nil))) (.cst (.int 4))) .nil))))
    (.cons (.set 9 (.idx (.lst (.cons (.tup (.cons (.cst (.int 0)) (.cons (.cst (.int 1)) .nil))) (.cons (.tup (.cons (.cst (.int 1)) (.cons (.cst (.int 0)) .nil))) (.cons (.tup (.cons (.cst (.int 0)) (.cons (.neg (.cst (.int 1))) .nil))) (.cons (.tup (.cons (.neg (.cst (.int 1))) (.cons (.cst (.int 0)) .nil))) .nil))))) (.idx (.nm 4) (.cst (.int 2)))))
    (.cons (.ifs (.or (.cmp .ne (.call 3 (.cons (.nm 4) (.cons (.nm 6) (.cons (.nm 7) .nil)))) (.tup (.cons (.bin .add (.idx (.nm 4) (.cst (.int 0))) (.nm 6)) (.cons (.bin .add (.idx (.nm 4) (.cst (.int 1))) (.nm 7)) (.cons (.idx (.nm 4) (.cst (.int 2))) .nil))))) (.cmp .ne (.call 5 (.cons (.nm 4) (.cons (.nm 8) .nil))) (.tup (.cons (.bin .add (.idx (.nm 4) (.cst (.int 0))) (.bin .mul (.nm 8) (.idx (.nm 9) (.cst (.int 0))))) (.cons (.bin .add (.idx (.nm 4) (.cst (.int 1))) (.bin .mul (.nm 8) (.idx (.nm 9) (.cst (.int 1))))) (.cons (.idx (.nm 4) (.cst (.int 2))) .nil)))))) (.cons (.ret (.cst (.bool false)))
    .nil) .nil)
    (.cons (.ifs (.or (.cmp .ne (.call 6 (.cons (.nm 4) (.cons (.nm 5) .nil))) (.bin .add (.sl (.nm 4) (.cst .none) (.cst (.int 2))) (.tup (.cons (.bin .mod (.prim .int (.cons (.bin .add (.idx (.nm 4) (.cst (.int 2))) (.nm 5)) .nil)) (.cst (.int 4))) .nil)))) (.or (.cmp .ne (.call 4 (.cons (.nm 4) .nil)) (.tup (.cons (.bin .sub (.cst (.int 0)) (.idx (.nm 4) (.cst (.int 0)))) (.cons (.idx (.nm 4) (.cst (.int 1))) (.cons (.idx (.lst (.cons (.cst (.int 0)) (.cons (.cst (.int 3)) (.cons (.cst (.int 2)) (.cons (.cst (.int 1)) .nil))))) (.idx (.nm 4) (.cst (.int 2)))) .nil))))) (.cmp .ne (.call 4 (.cons (.call 4 (.cons (.nm 4) .nil)) .nil)) (.nm 4)))) (.cons (.ret (.cst (.bool false)))
    .nil) .nil)
    (.cons (.ifs (.cmp .ne (.call 4 (.cons (.call 2 (.cons (.nm 4) (.cons (.cst (.int 1)) .nil))) .nil)) (.call 2 (.cons (.call 4 (.cons (.nm 4) .nil)) (.cons (.cst (.int 3)) .nil)))) (.cons (.ret (.cst (.bool false)))
    .nil) .nil)
    (.cons (.ifs (.or (.cmp .ne (.call 7 (.cons (.nm 3) .nil)) (.call 17 (.cons (.nm 3) .nil))) (.or (.cmp .ne (.prim .lst (.cons (.call 8 (.cons (.nm 3) .nil)) .nil)) (.call 18 (.cons (.nm 3) .nil))) (.or (.cmp .ne (.call 9 (.cons (.nm 3) .nil)) (.call 19 (.cons (.nm 3) .nil))) (.cmp .ne (.call 10 (.cons (.nm 3) .nil)) (.call 20 (.cons (.nm 3) .nil)))))) (.cons (.ret (.cst (.bool false)))
    .nil) .nil)
    (.cons (.set 10 (.comp (.nm 11) (.nm 11) (.rng (.cst (.int 4))) (.cmp .eq (.prim .tup (.cons (.prim .srt (.cons (.prim .lst (.cons (.idx (.call 18 (.cons (.nm 3) .nil)) (.nm 11)) .nil)) .nil)) .nil)) (.call 20 (.cons (.nm 3) .nil)))))
    (.cons (.ifs (.or (.cmp .ne (.prim .lst (.cons (.call 11 (.cons (.nm 3) .nil)) .nil)) (.nm 10)) (.cmp .ne (.prim .len (.cons (.call 12 (.cons (.nm 3) .nil)) .nil)) (.prim .len (.cons (.nm 10) .nil)))) (.cons (.ret (.cst (.bool false)))
    .nil) .nil)
    (.cons (.fors (.nm 11) (.rng (.prim .len (.cons (.nm 10) .nil))) Blaw_1 [11, 12, 13, 22])
    (.cons (.set 14 (.idx (.call 18 (.cons (.nm 3) .nil)) (.call 15 (.cons (.stn 1) (.cons (.cst (.int 4)) .nil)))))
    (.cons (.set 15 (.prim .tup (.cons (.comp (.tup (.cons (.bin .add (.nm 18) (.nm 6)) (.cons (.bin .add (.nm 19) (.nm 7)) (.cons (.nm 20) .nil)))) (.tp [18, 19, 20]) (.seq (.nm 14)) (.cst (.bool true))) .nil)))
    (.cons (.set 16 (.call 21 (.cons (.stn 1) (.cons (.prim .len (.cons (.nm 3) .nil)) .nil))))
    (.cons (.ifs (.or (.cmp .isn (.call 13 (.cons (.nm 3) (.cons (.nm 15) .nil))) (.cst (.bool true))) (.or (.cmp .ne (.call 9 (.cons (.nm 15) .nil)) (.call 9 (.cons (.nm 3) .nil))) (.cmp .ne (.call 13 (.cons (.nm 3) (.cons (.nm 16) .nil))) (.and (.cmp .eq (.prim .len (.cons (.nm 16) .nil)) (.prim .len (.cons (.nm 3) .nil))) (.cmp .eq (.call 19 (.cons (.nm 16) .nil)) (.call 19 (.cons (.nm 3) .nil))))))) (.cons (.ret (.cst (.bool false)))
    .nil) .nil)
    (.cons (.ifs (.cmp .ne (.call 14 (.cons (.nm 3) .nil)) (.tup (.cons (.bin .add (.bin .sub (.prim .mx (.cons (.comp (.idx (.nm 4) (.cst (.int 0))) (.nm 4) (.seq (.nm 3)) (.cst (.bool true))) .nil)) (.prim .mn (.cons (.comp (.idx (.nm 4) (.cst (.int 0))) (.nm 4) (.seq (.nm 3)) (.cst (.bool true))) .nil))) (.cst (.int 1))) (.cons (.bin .add (.bin .sub (.prim .mx (.cons (.comp (.idx (.nm 4) (.cst (.int 1))) (.nm 4) (.seq (.nm 3)) (.cst (.bool true))) .nil)) (.prim .mn (.cons (.comp (.idx (.nm 4) (.cst (.int 1))) (.nm 4) (.seq (.nm 3)) (.cst (.bool true))) .nil))) (.cst (.int 1))) .nil)))) (.cons (.ret (.cst (.bool false)))
    .nil) .nil)
    (.cons (.ifs (.and (.cmp .gt (.prim .len (.cons (.nm 3) .nil)) (.cst (.int 1))) (.cmp .isn (.call 1 (.cons (.bin .add (.nm 3) (.sl (.nm 3) (.cst .none) (.cst (.int 1)))) .nil)) (.cst (.bool false)))) (.cons (.ret (.cst (.bool false)))
    .nil) .nil)
    .nil))))))))))))))))))
def lawN : List Str := ["script", "state", "turn", "places", "one", "quarters", "x", "y", "many", "ahead", "good", "k", "row", "order", "told", "shifted", "other", "odd", "a", "b", "c", "value", "j"]
def lawB : CSs :=
    (.cons (.ifs (.cmp .ne (.tup (.cons (.gl 2 "FACINGS" (.tuple [(.str "north"), (.str "east"), (.str "south"), (.str "west")])) (.cons (.gl 1 "STEPS" (.tuple [(.tuple [(.int 0), (.int 1)]), (.tuple [(.int 1), (.int 0)]), (.tuple [(.int 0), (.int (-1))]), (.tuple [(.int (-1)), (.int 0)])])) (.cons (.gl 0 "MOST_PLACE" (.int 20)) .nil)))) (.tup (.cons (.tup (.cons (.cst (.str "north")) (.cons (.cst (.str "east")) (.cons (.cst (.str "south")) (.cons (.cst (.str "west")) .nil))))) (.cons (.tup (.cons (.tup (.cons (.cst (.int 0)) (.cons (.cst (.int 1)) .nil))) (.cons (.tup (.cons (.cst (.int 1)) (.cons (.cst (.int 0)) .nil))) (.cons (.tup (.cons (.cst (.int 0)) (.cons (.neg (.cst (.int 1))) .nil))) (.cons (.tup (.cons (.neg (.cst (.int 1))) (.cons (.cst (.int 0)) .nil))) .nil))))) (.cons (.cst (.int 20)) .nil))))) (.cons (.ret (.cst (.bool false)))
    .nil) .nil)
    (.cons (.fors (.nm 2) (.rng (.cst (.int 6))) Blaw_2 [2, 3, 4, 5, 6, 7, 8, 9, 10, 11, 12, 13, 14, 15, 16, 18, 19, 20, 22])
    (.cons (.set 17 (.lst (.cons (.tup (.cons (.cst (.int 0)) (.cons (.cst (.int 0)) (.cons (.cst (.int 4)) .nil)))) (.cons (.tup (.cons (.cst (.int 0)) (.cons (.cst (.int 0)) (.cons (.neg (.cst (.int 1))) .nil)))) (.cons (.tup (.cons (.cst (.int 21)) (.cons (.cst (.int 0)) (.cons (.cst (.int 0)) .nil)))) (.cons (.tup (.cons (.cst (.int 0)) (.cons (.cst (.int 0)) .nil))) (.cons (.tup (.cons (.cst (.int 0)) (.cons (.cst (.bool true)) (.cons (.cst (.int 0)) .nil)))) (.cons (.lst (.cons (.cst (.int 0)) (.cons (.cst (.int 0)) (.cons (.cst (.int 0)) .nil)))) (.cons (.cst .none) (.cons (.tup (.cons (.cst (.str "0")) (.cons (.cst (.int 0)) (.cons (.cst (.int 0)) .nil)))) (.cons (.tup (.cons (.cst (.int 0)) (.cons (.cst (.int 0)) (.cons (.cst (.int 0)) (.cons (.cst (.int 0)) .nil))))) .nil)))))))))))
    (.cons (.ifs (.or (.cmp .gt (.prim .len (.cons (.comp (.nm 21) (.nm 21) (.seq (.nm 17)) (.cmp .isn (.call 0 (.cons (.nm 21) .nil)) (.cst (.bool false)))) .nil)) (.cst (.int 0))) (.cmp .isn (.call 0 (.cons (.tup (.cons (.neg (.cst (.int 20))) (.cons (.cst (.int 20)) (.cons (.cst (.int 3)) .nil)))) .nil)) (.cst (.bool true)))) (.cons (.ret (.cst (.bool false)))
    .nil) .nil)
    (.cons (.set 17 (.lst (.cons (.tup .nil) (.cons (.lst (.cons (.tup (.cons (.cst (.int 0)) (.cons (.cst (.int 0)) (.cons (.cst (.int 0)) .nil)))) .nil)) (.cons (.tup (.cons (.tup (.cons (.cst (.int 0)) (.cons (.cst (.int 0)) (.cons (.cst (.int 0)) .nil)))) (.cons (.tup (.cons (.cst (.int 0)) (.cons (.cst (.int 0)) (.cons (.cst (.int 1)) .nil)))) .nil))) (.cons (.cst .none) (.cons (.tup (.cons (.tup (.cons (.cst (.int 0)) (.cons (.cst (.int 0)) (.cons (.cst (.int 4)) .nil)))) .nil)) (.cons (.prim .tup (.cons (.comp (.tup (.cons (.nm 11) (.cons (.cst (.int 0)) (.cons (.cst (.int 0)) .nil)))) (.nm 11) (.rng (.cst (.int 9))) (.cst (.bool true))) .nil)) .nil))))))))
    (.cons (.ret (.and (.cmp .eq (.prim .len (.cons (.comp (.nm 21) (.nm 21) (.seq (.nm 17)) (.cmp .isn (.call 1 (.cons (.nm 21) .nil)) (.cst (.bool false)))) .nil)) (.cst (.int 0))) (.cmp .is_ (.call 1 (.cons (.prim .tup (.cons (.comp (.tup (.cons (.nm 11) (.cons (.cst (.int 0)) (.cons (.cst (.int 0)) .nil)))) (.nm 11) (.rng (.cst (.int 8))) (.cst (.bool true))) .nil)) .nil)) (.cst (.bool true)))))
    .nil))))))
def cs : List (Str × PyData) := [("MOST_PLACE", (.int 20)), ("STEPS", (.tuple [(.tuple [(.int 0), (.int 1)]), (.tuple [(.int 1), (.int 0)]), (.tuple [(.int 0), (.int (-1))]), (.tuple [(.int (-1)), (.int 0)])])), ("FACINGS", (.tuple [(.str "north"), (.str "east"), (.str "south"), (.str "west")]))]
end Pv
set_option Elab.async false
set_option linter.all false
set_option maxRecDepth 100000
set_option maxHeartbeats 4000000
namespace Pv
open PySem PySem.Spec L2
theorem sc_is_place : FnScope Fis_place.ns Fis_place.ps (defScope (top 4)) := ⟨rfl, rfl, rfl, by decide +kernel, rfl, by decide +kernel, by decide +kernel⟩
theorem mt_is_place : mtSs fns cs Fis_place.ns (defScope (top 4)) (match Fis_place.k with | .code b => b | .take => .nil) (defBody (top 4)) = true := by decide +kernel
theorem sc_are_places : FnScope Fare_places.ns Fare_places.ps (defScope (top 5)) := ⟨rfl, rfl, rfl, by decide +kernel, rfl, by decide +kernel, by decide +kernel⟩
theorem mt_are_places : mtSs fns cs Fare_places.ns (defScope (top 5)) (match Fare_places.k with | .code b => b | .take => .nil) (defBody (top 5)) = true := by decide +kernel
theorem sc_turned : FnScope Fturned.ns Fturned.ps (defScope (top 6)) := ⟨rfl, rfl, rfl, by decide +kernel, rfl, by decide +kernel, by decide +kernel⟩
theorem mt_turned : mtSs fns cs Fturned.ns (defScope (top 6)) (match Fturned.k with | .code b => b | .take => .nil) (defBody (top 6)) = true := by decide +kernel
theorem sc_moved : FnScope Fmoved.ns Fmoved.ps (defScope (top 7)) := ⟨rfl, rfl, rfl, by decide +kernel, rfl, by decide +kernel, by decide +kernel⟩
theorem mt_moved : mtSs fns cs Fmoved.ns (defScope (top 7)) (match Fmoved.k with | .code b => b | .take => .nil) (defBody (top 7)) = true := by decide +kernel
theorem sc_mirrored : FnScope Fmirrored.ns Fmirrored.ps (defScope (top 8)) := ⟨rfl, rfl, rfl, by decide +kernel, rfl, by decide +kernel, by decide +kernel⟩
theorem mt_mirrored : mtSs fns cs Fmirrored.ns (defScope (top 8)) (match Fmirrored.k with | .code b => b | .take => .nil) (defBody (top 8)) = true := by decide +kernel
theorem sc_stepped : FnScope Fstepped.ns Fstepped.ps (defScope (top 9)) := ⟨rfl, rfl, rfl, by decide +kernel, rfl, by decide +kernel, by decide +kernel⟩
theorem mt_stepped : mtSs fns cs Fstepped.ns (defScope (top 9)) (match Fstepped.k with | .code b => b | .take => .nil) (defBody (top 9)) = true := by decide +kernel
theorem sc_faced : FnScope Ffaced.ns Ffaced.ps (defScope (top 10)) := ⟨rfl, rfl, rfl, by decide +kernel, rfl, by decide +kernel, by decide +kernel⟩
theorem mt_faced : mtSs fns cs Ffaced.ns (defScope (top 10)) (match Ffaced.k with | .code b => b | .take => .nil) (defBody (top 10)) = true := by decide +kernel
theorem sc_laid : FnScope Flaid.ns Flaid.ps (defScope (top 11)) := ⟨rfl, rfl, rfl, by decide +kernel, rfl, by decide +kernel, by decide +kernel⟩
theorem mt_laid : mtSs fns cs Flaid.ns (defScope (top 11)) (match Flaid.k with | .code b => b | .take => .nil) (defBody (top 11)) = true := by decide +kernel
theorem sc_all_turns : FnScope Fall_turns.ns Fall_turns.ps (defScope (top 12)) := ⟨rfl, rfl, rfl, by decide +kernel, rfl, by decide +kernel, by decide +kernel⟩
theorem mt_all_turns : mtSs fns cs Fall_turns.ns (defScope (top 12)) (match Fall_turns.k with | .code b => b | .take => .nil) (defBody (top 12)) = true := by decide +kernel
theorem sc_least : FnScope Fleast.ns Fleast.ps (defScope (top 13)) := ⟨rfl, rfl, rfl, by decide +kernel, rfl, by decide +kernel, by decide +kernel⟩
theorem mt_least : mtSs fns cs Fleast.ns (defScope (top 13)) (match Fleast.k with | .code b => b | .take => .nil) (defBody (top 13)) = true := by decide +kernel
theorem sc_bare : FnScope Fbare.ns Fbare.ps (defScope (top 14)) := ⟨rfl, rfl, rfl, by decide +kernel, rfl, by decide +kernel, by decide +kernel⟩
theorem mt_bare : mtSs fns cs Fbare.ns (defScope (top 14)) (match Fbare.k with | .code b => b | .take => .nil) (defBody (top 14)) = true := by decide +kernel
theorem sc_turns_to_bare : FnScope Fturns_to_bare.ns Fturns_to_bare.ps (defScope (top 15)) := ⟨rfl, rfl, rfl, by decide +kernel, rfl, by decide +kernel, by decide +kernel⟩
theorem mt_turns_to_bare : mtSs fns cs Fturns_to_bare.ns (defScope (top 15)) (match Fturns_to_bare.k with | .code b => b | .take => .nil) (defBody (top 15)) = true := by decide +kernel
theorem sc_orders : FnScope Forders.ns Forders.ps (defScope (top 16)) := ⟨rfl, rfl, rfl, by decide +kernel, rfl, by decide +kernel, by decide +kernel⟩
theorem mt_orders : mtSs fns cs Forders.ns (defScope (top 16)) (match Forders.k with | .code b => b | .take => .nil) (defBody (top 16)) = true := by decide +kernel
theorem sc_are_alike : FnScope Fare_alike.ns Fare_alike.ps (defScope (top 17)) := ⟨rfl, rfl, rfl, by decide +kernel, rfl, by decide +kernel, by decide +kernel⟩
theorem mt_are_alike : mtSs fns cs Fare_alike.ns (defScope (top 17)) (match Fare_alike.k with | .code b => b | .take => .nil) (defBody (top 17)) = true := by decide +kernel
theorem sc_wide : FnScope Fwide.ns Fwide.ps (defScope (top 18)) := ⟨rfl, rfl, rfl, by decide +kernel, rfl, by decide +kernel, by decide +kernel⟩
theorem mt_wide : mtSs fns cs Fwide.ns (defScope (top 18)) (match Fwide.k with | .code b => b | .take => .nil) (defBody (top 18)) = true := by decide +kernel
theorem sc__law_turn : FnScope F_law_turn.ns F_law_turn.ps (defScope (top 28)) := ⟨rfl, rfl, rfl, by decide +kernel, rfl, by decide +kernel, by decide +kernel⟩
theorem mt__law_turn : mtSs fns cs F_law_turn.ns (defScope (top 28)) (match F_law_turn.k with | .code b => b | .take => .nil) (defBody (top 28)) = true := by decide +kernel
theorem sc__law_laid : FnScope F_law_laid.ns F_law_laid.ps (defScope (top 29)) := ⟨rfl, rfl, rfl, by decide +kernel, rfl, by decide +kernel, by decide +kernel⟩
theorem mt__law_laid : mtSs fns cs F_law_laid.ns (defScope (top 29)) (match F_law_laid.k with | .code b => b | .take => .nil) (defBody (top 29)) = true := by decide +kernel
theorem sc__law_turns : FnScope F_law_turns.ns F_law_turns.ps (defScope (top 30)) := ⟨rfl, rfl, rfl, by decide +kernel, rfl, by decide +kernel, by decide +kernel⟩
theorem mt__law_turns : mtSs fns cs F_law_turns.ns (defScope (top 30)) (match F_law_turns.k with | .code b => b | .take => .nil) (defBody (top 30)) = true := by decide +kernel
theorem sc__law_least : FnScope F_law_least.ns F_law_least.ps (defScope (top 31)) := ⟨rfl, rfl, rfl, by decide +kernel, rfl, by decide +kernel, by decide +kernel⟩
theorem mt__law_least : mtSs fns cs F_law_least.ns (defScope (top 31)) (match F_law_least.k with | .code b => b | .take => .nil) (defBody (top 31)) = true := by decide +kernel
theorem sc__law_bare : FnScope F_law_bare.ns F_law_bare.ps (defScope (top 32)) := ⟨rfl, rfl, rfl, by decide +kernel, rfl, by decide +kernel, by decide +kernel⟩
theorem mt__law_bare : mtSs fns cs F_law_bare.ns (defScope (top 32)) (match F_law_bare.k with | .code b => b | .take => .nil) (defBody (top 32)) = true := by decide +kernel
theorem sc__law_places : FnScope F_law_places.ns F_law_places.ps (defScope (top 33)) := ⟨rfl, rfl, rfl, by decide +kernel, rfl, by decide +kernel, by decide +kernel⟩
theorem mt__law_places : mtSs fns cs F_law_places.ns (defScope (top 33)) (match F_law_places.k with | .code b => b | .take => .nil) (defBody (top 33)) = true := by decide +kernel
theorem sc_law : FnScope lawN ["script"] (defScope (top 34)) := ⟨rfl, rfl, rfl, by decide +kernel, rfl, by decide +kernel, by decide +kernel⟩
theorem mt_law : mtSs fns cs lawN (defScope (top 34)) lawB (defBody (top 34)).tail = true := by decide +kernel
theorem m1_law : mLaw1 lawN (defScope (top 34)) ((defBody (top 34)).headD (.Pass ⟨0, 0, 0, 0⟩)) = true := by decide +kernel
theorem mt_state : mState cs ["script", "cells", "cell"] (defScope (top 20)) (defBody (top 20)) = true := by decide +kernel
theorem sc_state : FnScope ["script", "cells", "cell"] ["script"] (defScope (top 20)) := ⟨rfl, rfl, rfl, by decide +kernel, rfl, by decide +kernel, by decide +kernel⟩
end Pv
set_option Elab.async false
set_option linter.all false
set_option maxRecDepth 100000
set_option maxHeartbeats 0
namespace Pv
open PySem PySem.Spec L2
def dd (x : Str) (i : Nat) : He.DefD := ⟨(x, none), x, x, defArgs (top i), defBody (top i), defScope (top i), [], []⟩
def hdFn_0 : List He.DefD := [dd "is_place" 4, dd "are_places" 5, dd "turned" 6, dd "moved" 7, dd "mirrored" 8, dd "stepped" 9, dd "faced" 10, dd "laid" 11, dd "all_turns" 12, dd "least" 13, dd "bare" 14, dd "turns_to_bare" 15, dd "orders" 16, dd "are_alike" 17, dd "wide" 18, dd "_law_take" 21, dd "_law_turn" 28, dd "_law_laid" 29, dd "_law_turns" 30, dd "_law_least" 31, dd "_law_bare" 32, dd "_law_places" 33, dd "_law_state" 20, dd "law" 34]
def hdFn : List He.DefD := hdFn_0
def hdFg_0 : List He.Fa := [.glo "is_place", .glo "are_places", .glo "turned", .glo "moved", .glo "mirrored", .glo "stepped", .glo "faced", .glo "laid", .glo "all_turns", .glo "least", .glo "bare", .glo "turns_to_bare", .glo "orders", .glo "are_alike", .glo "wide", .glo "_law_take", .glo "_law_turn", .glo "_law_laid", .glo "_law_turns", .glo "_law_least", .glo "_law_bare", .glo "_law_places", .glo "_law_state", .glo "law"]
def hdFg : List He.Fa := hdFg_0
def hdFa : List He.Fa := hdFg ++ (["len", "range", "min", "max", "abs", "sorted", "tuple", "list", "int", "isinstance", "set", "all", "any", "sum", "bool", "str", "dict"] : List Str).map He.Fa.free
def hdLo_0 : List Str := ["FACINGS", "STEPS", "MOST_PLACE", "is_place", "are_places", "turned", "moved", "mirrored", "stepped", "faced", "laid", "all_turns", "least", "bare", "turns_to_bare", "orders", "are_alike", "wide", "_law_state", "_law_take", "_law_pick", "_law_fr", "_law_add", "_law_mul", "_law_sub"]
def hdLo_1 : List Str := ["_law_sum", "_law_turn", "_law_laid", "_law_turns", "_law_least", "_law_bare", "_law_places"]
def hdLo : List Str := hdLo_0 ++ hdLo_1
def hdTf : List He.Defn := [("orders", none)]
abbrev hdR : PySem.W.OpenRow := PySem.W.OpenLaw.row PySem.Challenge.rw_callswright_k01_whole_places_turned
abbrev hk : PySem.W.Hook := He.hookX 4 hdFa hdFn [] hdTf (exC cs)
def hdOb (s : PySem.W.SharedT) : He.AlX := He.obsX 4 hdFa hdFn [] hdTf (exC cs) (HandSHeadRun.getT s)
theorem ob_eq (s : PySem.W.SharedT) : hdOb s = hk.obs s.abs := He.obsX_eq (HandSHeadRun.getT_eq s)
theorem hdRun (w : World) : HandSHeadRun.RunEq hdR (PySem.W.view hdR.prog [34]) hk hdOb 6000 hdLo w := by
  intro os
  kernel_rfl
end Pv
set_option Elab.async false
set_option linter.all false
set_option maxRecDepth 100000
set_option maxHeartbeats 0
namespace Pv
open PySem PySem.Spec L2
section
variable {w : World} {K : PySem.W.Frag} {h : Heap} {mg : Str → Option Value}
def prog0 : Program := PySem.Challenge.rw_callswright_k01_whole_places_turned.prog
def hdT (K : PySem.W.Frag) : List (Addr × Str) := [((He.cT K ("orders", none)).2, lamQ "orders")]
def hdP (K : PySem.W.Frag) : Px := ⟨hdT K, K, fun _ => 0, fun _ => Str.empty, none, fun _ => none, fun _ => none⟩
theorem memFn {d : He.DefD} {i : Nat} (e : hdFn[i]? = some d) : d ∈ hdFn := List.mem_of_getElem? e
theorem memFa {f : He.Fa} {i : Nat} (e : hdFa[i]? = some f) : f ∈ hdFa := List.mem_of_getElem? e
theorem hd_md (X : K.In h) (G : h.Ns mainGlobals mg) (c : He.SaysX hdFa hdFn [] hdTf (exC cs) w h K) : Md (hdP K) K mg cs := by
  exact md_of rfl X G c.more fun b m => He.free_ok X G (x := b) (He.SaysD.facts (He.SaysT.d c.t) (List.mem_append_right _ (List.mem_map.mpr ⟨b, m, rfl⟩)))

theorem fd_is_place (c : He.SaysX hdFa hdFn [] hdTf (exC cs) w h K) : ∃ fd, FnP K "is_place" (top 4) (He.ga K "is_place") fd ∧ Binds K fd Fis_place.ps [] ∧ ∀ (s : Shared) (us : List Value), us.length = 1 → BindsTo s fd ⟨us, []⟩ ((Fis_place.ps : List Str).zip us) := by
  obtain ⟨fd, F⟩ := He.SaysD.defs (He.SaysT.d c.t) (memFn (i := 0) (d := dd "is_place" 4) rfl)
  have hb := fun (kV doc pm : Value) (an : Option Addr) (cdv ct : Value) (us : List Value) (hl : us.length = (Fis_place.ps : List Str).length) => (match us, hl with | [_], _ => rfl : bindArgs (PySem.W.fnOf "is_place" "is_place" (defArgs (top 4)) (defBody (top 4)) (defScope (top 4)) .none kV doc pm an cdv ct) ⟨us, []⟩ = pure ((Fis_place.ps : List Str).zip us))
  exact ⟨fd, F, FunD.bindsN F hb, fun s us hl => FunD.bindsA F hb s us hl⟩
theorem gl_is_place (X : K.In h) (G : h.Ns mainGlobals mg) (c : He.SaysX hdFa hdFn [] hdTf (exC cs) w h K) : mg "is_place" = some (.ref (He.ga K "is_place")) := He.glo_ok X G (He.SaysD.facts (He.SaysT.d c.t) (memFa (i := 0) rfl))
theorem fd_are_places (c : He.SaysX hdFa hdFn [] hdTf (exC cs) w h K) : ∃ fd, FnP K "are_places" (top 5) (He.ga K "are_places") fd ∧ Binds K fd Fare_places.ps [] ∧ ∀ (s : Shared) (us : List Value), us.length = 1 → BindsTo s fd ⟨us, []⟩ ((Fare_places.ps : List Str).zip us) := by
  obtain ⟨fd, F⟩ := He.SaysD.defs (He.SaysT.d c.t) (memFn (i := 1) (d := dd "are_places" 5) rfl)
  have hb := fun (kV doc pm : Value) (an : Option Addr) (cdv ct : Value) (us : List Value) (hl : us.length = (Fare_places.ps : List Str).length) => (match us, hl with | [_], _ => rfl : bindArgs (PySem.W.fnOf "are_places" "are_places" (defArgs (top 5)) (defBody (top 5)) (defScope (top 5)) .none kV doc pm an cdv ct) ⟨us, []⟩ = pure ((Fare_places.ps : List Str).zip us))
  exact ⟨fd, F, FunD.bindsN F hb, fun s us hl => FunD.bindsA F hb s us hl⟩
theorem gl_are_places (X : K.In h) (G : h.Ns mainGlobals mg) (c : He.SaysX hdFa hdFn [] hdTf (exC cs) w h K) : mg "are_places" = some (.ref (He.ga K "are_places")) := He.glo_ok X G (He.SaysD.facts (He.SaysT.d c.t) (memFa (i := 1) rfl))
theorem fd_turned (c : He.SaysX hdFa hdFn [] hdTf (exC cs) w h K) : ∃ fd, FnP K "turned" (top 6) (He.ga K "turned") fd ∧ Binds K fd Fturned.ps [] ∧ ∀ (s : Shared) (us : List Value), us.length = 2 → BindsTo s fd ⟨us, []⟩ ((Fturned.ps : List Str).zip us) := by
  obtain ⟨fd, F⟩ := He.SaysD.defs (He.SaysT.d c.t) (memFn (i := 2) (d := dd "turned" 6) rfl)
  have hb := fun (kV doc pm : Value) (an : Option Addr) (cdv ct : Value) (us : List Value) (hl : us.length = (Fturned.ps : List Str).length) => (match us, hl with | [_, _], _ => rfl : bindArgs (PySem.W.fnOf "turned" "turned" (defArgs (top 6)) (defBody (top 6)) (defScope (top 6)) .none kV doc pm an cdv ct) ⟨us, []⟩ = pure ((Fturned.ps : List Str).zip us))
  exact ⟨fd, F, FunD.bindsN F hb, fun s us hl => FunD.bindsA F hb s us hl⟩
theorem gl_turned (X : K.In h) (G : h.Ns mainGlobals mg) (c : He.SaysX hdFa hdFn [] hdTf (exC cs) w h K) : mg "turned" = some (.ref (He.ga K "turned")) := He.glo_ok X G (He.SaysD.facts (He.SaysT.d c.t) (memFa (i := 2) rfl))
theorem fd_moved (c : He.SaysX hdFa hdFn [] hdTf (exC cs) w h K) : ∃ fd, FnP K "moved" (top 7) (He.ga K "moved") fd ∧ Binds K fd Fmoved.ps [] ∧ ∀ (s : Shared) (us : List Value), us.length = 3 → BindsTo s fd ⟨us, []⟩ ((Fmoved.ps : List Str).zip us) := by
  obtain ⟨fd, F⟩ := He.SaysD.defs (He.SaysT.d c.t) (memFn (i := 3) (d := dd "moved" 7) rfl)
  have hb := fun (kV doc pm : Value) (an : Option Addr) (cdv ct : Value) (us : List Value) (hl : us.length = (Fmoved.ps : List Str).length) => (match us, hl with | [_, _, _], _ => rfl : bindArgs (PySem.W.fnOf "moved" "moved" (defArgs (top 7)) (defBody (top 7)) (defScope (top 7)) .none kV doc pm an cdv ct) ⟨us, []⟩ = pure ((Fmoved.ps : List Str).zip us))
  exact ⟨fd, F, FunD.bindsN F hb, fun s us hl => FunD.bindsA F hb s us hl⟩
theorem gl_moved (X : K.In h) (G : h.Ns mainGlobals mg) (c : He.SaysX hdFa hdFn [] hdTf (exC cs) w h K) : mg "moved" = some (.ref (He.ga K "moved")) := He.glo_ok X G (He.SaysD.facts (He.SaysT.d c.t) (memFa (i := 3) rfl))
theorem fd_mirrored (c : He.SaysX hdFa hdFn [] hdTf (exC cs) w h K) : ∃ fd, FnP K "mirrored" (top 8) (He.ga K "mirrored") fd ∧ Binds K fd Fmirrored.ps [] ∧ ∀ (s : Shared) (us : List Value), us.length = 1 → BindsTo s fd ⟨us, []⟩ ((Fmirrored.ps : List Str).zip us) := by
  obtain ⟨fd, F⟩ := He.SaysD.defs (He.SaysT.d c.t) (memFn (i := 4) (d := dd "mirrored" 8) rfl)
  have hb := fun (kV doc pm : Value) (an : Option Addr) (cdv ct : Value) (us : List Value) (hl : us.length = (Fmirrored.ps : List Str).length) => (match us, hl with | [_], _ => rfl : bindArgs (PySem.W.fnOf "mirrored" "mirrored" (defArgs (top 8)) (defBody (top 8)) (defScope (top 8)) .none kV doc pm an cdv ct) ⟨us, []⟩ = pure ((Fmirrored.ps : List Str).zip us))
  exact ⟨fd, F, FunD.bindsN F hb, fun s us hl => FunD.bindsA F hb s us hl⟩
theorem gl_mirrored (X : K.In h) (G : h.Ns mainGlobals mg) (c : He.SaysX hdFa hdFn [] hdTf (exC cs) w h K) : mg "mirrored" = some (.ref (He.ga K "mirrored")) := He.glo_ok X G (He.SaysD.facts (He.SaysT.d c.t) (memFa (i := 4) rfl))
theorem fd_stepped (c : He.SaysX hdFa hdFn [] hdTf (exC cs) w h K) : ∃ fd, FnP K "stepped" (top 9) (He.ga K "stepped") fd ∧ Binds K fd Fstepped.ps [] ∧ ∀ (s : Shared) (us : List Value), us.length = 2 → BindsTo s fd ⟨us, []⟩ ((Fstepped.ps : List Str).zip us) := by
  obtain ⟨fd, F⟩ := He.SaysD.defs (He.SaysT.d c.t) (memFn (i := 5) (d := dd "stepped" 9) rfl)
  have hb := fun (kV doc pm : Value) (an : Option Addr) (cdv ct : Value) (us : List Value) (hl : us.length = (Fstepped.ps : List Str).length) => (match us, hl with | [_, _], _ => rfl : bindArgs (PySem.W.fnOf "stepped" "stepped" (defArgs (top 9)) (defBody (top 9)) (defScope (top 9)) .none kV doc pm an cdv ct) ⟨us, []⟩ = pure ((Fstepped.ps : List Str).zip us))
  exact ⟨fd, F, FunD.bindsN F hb, fun s us hl => FunD.bindsA F hb s us hl⟩
theorem gl_stepped (X : K.In h) (G : h.Ns mainGlobals mg) (c : He.SaysX hdFa hdFn [] hdTf (exC cs) w h K) : mg "stepped" = some (.ref (He.ga K "stepped")) := He.glo_ok X G (He.SaysD.facts (He.SaysT.d c.t) (memFa (i := 5) rfl))
theorem fd_faced (c : He.SaysX hdFa hdFn [] hdTf (exC cs) w h K) : ∃ fd, FnP K "faced" (top 10) (He.ga K "faced") fd ∧ Binds K fd Ffaced.ps [] ∧ ∀ (s : Shared) (us : List Value), us.length = 2 → BindsTo s fd ⟨us, []⟩ ((Ffaced.ps : List Str).zip us) := by
  obtain ⟨fd, F⟩ := He.SaysD.defs (He.SaysT.d c.t) (memFn (i := 6) (d := dd "faced" 10) rfl)
  have hb := fun (kV doc pm : Value) (an : Option Addr) (cdv ct : Value) (us : List Value) (hl : us.length = (Ffaced.ps : List Str).length) => (match us, hl with | [_, _], _ => rfl : bindArgs (PySem.W.fnOf "faced" "faced" (defArgs (top 10)) (defBody (top 10)) (defScope (top 10)) .none kV doc pm an cdv ct) ⟨us, []⟩ = pure ((Ffaced.ps : List Str).zip us))
  exact ⟨fd, F, FunD.bindsN F hb, fun s us hl => FunD.bindsA F hb s us hl⟩
theorem gl_faced (X : K.In h) (G : h.Ns mainGlobals mg) (c : He.SaysX hdFa hdFn [] hdTf (exC cs) w h K) : mg "faced" = some (.ref (He.ga K "faced")) := He.glo_ok X G (He.SaysD.facts (He.SaysT.d c.t) (memFa (i := 6) rfl))
theorem fd_laid (c : He.SaysX hdFa hdFn [] hdTf (exC cs) w h K) : ∃ fd, FnP K "laid" (top 11) (He.ga K "laid") fd ∧ Binds K fd Flaid.ps [] ∧ ∀ (s : Shared) (us : List Value), us.length = 1 → BindsTo s fd ⟨us, []⟩ ((Flaid.ps : List Str).zip us) := by
  obtain ⟨fd, F⟩ := He.SaysD.defs (He.SaysT.d c.t) (memFn (i := 7) (d := dd "laid" 11) rfl)
  have hb := fun (kV doc pm : Value) (an : Option Addr) (cdv ct : Value) (us : List Value) (hl : us.length = (Flaid.ps : List Str).length) => (match us, hl with | [_], _ => rfl : bindArgs (PySem.W.fnOf "laid" "laid" (defArgs (top 11)) (defBody (top 11)) (defScope (top 11)) .none kV doc pm an cdv ct) ⟨us, []⟩ = pure ((Flaid.ps : List Str).zip us))
  exact ⟨fd, F, FunD.bindsN F hb, fun s us hl => FunD.bindsA F hb s us hl⟩
theorem gl_laid (X : K.In h) (G : h.Ns mainGlobals mg) (c : He.SaysX hdFa hdFn [] hdTf (exC cs) w h K) : mg "laid" = some (.ref (He.ga K "laid")) := He.glo_ok X G (He.SaysD.facts (He.SaysT.d c.t) (memFa (i := 7) rfl))
theorem fd_all_turns (c : He.SaysX hdFa hdFn [] hdTf (exC cs) w h K) : ∃ fd, FnP K "all_turns" (top 12) (He.ga K "all_turns") fd ∧ Binds K fd Fall_turns.ps [] ∧ ∀ (s : Shared) (us : List Value), us.length = 1 → BindsTo s fd ⟨us, []⟩ ((Fall_turns.ps : List Str).zip us) := by
  obtain ⟨fd, F⟩ := He.SaysD.defs (He.SaysT.d c.t) (memFn (i := 8) (d := dd "all_turns" 12) rfl)
  have hb := fun (kV doc pm : Value) (an : Option Addr) (cdv ct : Value) (us : List Value) (hl : us.length = (Fall_turns.ps : List Str).length) => (match us, hl with | [_], _ => rfl : bindArgs (PySem.W.fnOf "all_turns" "all_turns" (defArgs (top 12)) (defBody (top 12)) (defScope (top 12)) .none kV doc pm an cdv ct) ⟨us, []⟩ = pure ((Fall_turns.ps : List Str).zip us))
  exact ⟨fd, F, FunD.bindsN F hb, fun s us hl => FunD.bindsA F hb s us hl⟩
theorem gl_all_turns (X : K.In h) (G : h.Ns mainGlobals mg) (c : He.SaysX hdFa hdFn [] hdTf (exC cs) w h K) : mg "all_turns" = some (.ref (He.ga K "all_turns")) := He.glo_ok X G (He.SaysD.facts (He.SaysT.d c.t) (memFa (i := 8) rfl))
theorem fd_least (c : He.SaysX hdFa hdFn [] hdTf (exC cs) w h K) : ∃ fd, FnP K "least" (top 13) (He.ga K "least") fd ∧ Binds K fd Fleast.ps [] ∧ ∀ (s : Shared) (us : List Value), us.length = 1 → BindsTo s fd ⟨us, []⟩ ((Fleast.ps : List Str).zip us) := by
  obtain ⟨fd, F⟩ := He.SaysD.defs (He.SaysT.d c.t) (memFn (i := 9) (d := dd "least" 13) rfl)
  have hb := fun (kV doc pm : Value) (an : Option Addr) (cdv ct : Value) (us : List Value) (hl : us.length = (Fleast.ps : List Str).length) => (match us, hl with | [_], _ => rfl : bindArgs (PySem.W.fnOf "least" "least" (defArgs (top 13)) (defBody (top 13)) (defScope (top 13)) .none kV doc pm an cdv ct) ⟨us, []⟩ = pure ((Fleast.ps : List Str).zip us))
  exact ⟨fd, F, FunD.bindsN F hb, fun s us hl => FunD.bindsA F hb s us hl⟩
theorem gl_least (X : K.In h) (G : h.Ns mainGlobals mg) (c : He.SaysX hdFa hdFn [] hdTf (exC cs) w h K) : mg "least" = some (.ref (He.ga K "least")) := He.glo_ok X G (He.SaysD.facts (He.SaysT.d c.t) (memFa (i := 9) rfl))
theorem fd_bare (c : He.SaysX hdFa hdFn [] hdTf (exC cs) w h K) : ∃ fd, FnP K "bare" (top 14) (He.ga K "bare") fd ∧ Binds K fd Fbare.ps [] ∧ ∀ (s : Shared) (us : List Value), us.length = 1 → BindsTo s fd ⟨us, []⟩ ((Fbare.ps : List Str).zip us) := by
  obtain ⟨fd, F⟩ := He.SaysD.defs (He.SaysT.d c.t) (memFn (i := 10) (d := dd "bare" 14) rfl)
  have hb := fun (kV doc pm : Value) (an : Option Addr) (cdv ct : Value) (us : List Value) (hl : us.length = (Fbare.ps : List Str).length) => (match us, hl with | [_], _ => rfl : bindArgs (PySem.W.fnOf "bare" "bare" (defArgs (top 14)) (defBody (top 14)) (defScope (top 14)) .none kV doc pm an cdv ct) ⟨us, []⟩ = pure ((Fbare.ps : List Str).zip us))
  exact ⟨fd, F, FunD.bindsN F hb, fun s us hl => FunD.bindsA F hb s us hl⟩
theorem gl_bare (X : K.In h) (G : h.Ns mainGlobals mg) (c : He.SaysX hdFa hdFn [] hdTf (exC cs) w h K) : mg "bare" = some (.ref (He.ga K "bare")) := He.glo_ok X G (He.SaysD.facts (He.SaysT.d c.t) (memFa (i := 10) rfl))
theorem fd_turns_to_bare (c : He.SaysX hdFa hdFn [] hdTf (exC cs) w h K) : ∃ fd, FnP K "turns_to_bare" (top 15) (He.ga K "turns_to_bare") fd ∧ Binds K fd Fturns_to_bare.ps [] ∧ ∀ (s : Shared) (us : List Value), us.length = 1 → BindsTo s fd ⟨us, []⟩ ((Fturns_to_bare.ps : List Str).zip us) := by
  obtain ⟨fd, F⟩ := He.SaysD.defs (He.SaysT.d c.t) (memFn (i := 11) (d := dd "turns_to_bare" 15) rfl)
  have hb := fun (kV doc pm : Value) (an : Option Addr) (cdv ct : Value) (us : List Value) (hl : us.length = (Fturns_to_bare.ps : List Str).length) => (match us, hl with | [_], _ => rfl : bindArgs (PySem.W.fnOf "turns_to_bare" "turns_to_bare" (defArgs (top 15)) (defBody (top 15)) (defScope (top 15)) .none kV doc pm an cdv ct) ⟨us, []⟩ = pure ((Fturns_to_bare.ps : List Str).zip us))
  exact ⟨fd, F, FunD.bindsN F hb, fun s us hl => FunD.bindsA F hb s us hl⟩
theorem gl_turns_to_bare (X : K.In h) (G : h.Ns mainGlobals mg) (c : He.SaysX hdFa hdFn [] hdTf (exC cs) w h K) : mg "turns_to_bare" = some (.ref (He.ga K "turns_to_bare")) := He.glo_ok X G (He.SaysD.facts (He.SaysT.d c.t) (memFa (i := 11) rfl))
theorem fd_orders (c : He.SaysX hdFa hdFn [] hdTf (exC cs) w h K) : ∃ fd, FnP K "orders" (top 16) (He.ga K "orders") fd ∧ Binds K fd Forders.ps [] ∧ ∀ (s : Shared) (us : List Value), us.length = 1 → BindsTo s fd ⟨us, []⟩ ((Forders.ps : List Str).zip us) := by
  obtain ⟨fd, F⟩ := He.SaysD.defs (He.SaysT.d c.t) (memFn (i := 12) (d := dd "orders" 16) rfl)
  have hb := fun (kV doc pm : Value) (an : Option Addr) (cdv ct : Value) (us : List Value) (hl : us.length = (Forders.ps : List Str).length) => (match us, hl with | [_], _ => rfl : bindArgs (PySem.W.fnOf "orders" "orders" (defArgs (top 16)) (defBody (top 16)) (defScope (top 16)) .none kV doc pm an cdv ct) ⟨us, []⟩ = pure ((Forders.ps : List Str).zip us))
  exact ⟨fd, F, FunD.bindsN F hb, fun s us hl => FunD.bindsA F hb s us hl⟩
theorem gl_orders (X : K.In h) (G : h.Ns mainGlobals mg) (c : He.SaysX hdFa hdFn [] hdTf (exC cs) w h K) : mg "orders" = some (.ref (He.ga K "orders")) := He.glo_ok X G (He.SaysD.facts (He.SaysT.d c.t) (memFa (i := 12) rfl))
theorem fd_are_alike (c : He.SaysX hdFa hdFn [] hdTf (exC cs) w h K) : ∃ fd, FnP K "are_alike" (top 17) (He.ga K "are_alike") fd ∧ Binds K fd Fare_alike.ps [] ∧ ∀ (s : Shared) (us : List Value), us.length = 2 → BindsTo s fd ⟨us, []⟩ ((Fare_alike.ps : List Str).zip us) := by
  obtain ⟨fd, F⟩ := He.SaysD.defs (He.SaysT.d c.t) (memFn (i := 13) (d := dd "are_alike" 17) rfl)
  have hb := fun (kV doc pm : Value) (an : Option Addr) (cdv ct : Value) (us : List Value) (hl : us.length = (Fare_alike.ps : List Str).length) => (match us, hl with | [_, _], _ => rfl : bindArgs (PySem.W.fnOf "are_alike" "are_alike" (defArgs (top 17)) (defBody (top 17)) (defScope (top 17)) .none kV doc pm an cdv ct) ⟨us, []⟩ = pure ((Fare_alike.ps : List Str).zip us))
  exact ⟨fd, F, FunD.bindsN F hb, fun s us hl => FunD.bindsA F hb s us hl⟩
theorem gl_are_alike (X : K.In h) (G : h.Ns mainGlobals mg) (c : He.SaysX hdFa hdFn [] hdTf (exC cs) w h K) : mg "are_alike" = some (.ref (He.ga K "are_alike")) := He.glo_ok X G (He.SaysD.facts (He.SaysT.d c.t) (memFa (i := 13) rfl))
theorem fd_wide (c : He.SaysX hdFa hdFn [] hdTf (exC cs) w h K) : ∃ fd, FnP K "wide" (top 18) (He.ga K "wide") fd ∧ Binds K fd Fwide.ps [] ∧ ∀ (s : Shared) (us : List Value), us.length = 1 → BindsTo s fd ⟨us, []⟩ ((Fwide.ps : List Str).zip us) := by
  obtain ⟨fd, F⟩ := He.SaysD.defs (He.SaysT.d c.t) (memFn (i := 14) (d := dd "wide" 18) rfl)
  have hb := fun (kV doc pm : Value) (an : Option Addr) (cdv ct : Value) (us : List Value) (hl : us.length = (Fwide.ps : List Str).length) => (match us, hl with | [_], _ => rfl : bindArgs (PySem.W.fnOf "wide" "wide" (defArgs (top 18)) (defBody (top 18)) (defScope (top 18)) .none kV doc pm an cdv ct) ⟨us, []⟩ = pure ((Fwide.ps : List Str).zip us))
  exact ⟨fd, F, FunD.bindsN F hb, fun s us hl => FunD.bindsA F hb s us hl⟩
theorem gl_wide (X : K.In h) (G : h.Ns mainGlobals mg) (c : He.SaysX hdFa hdFn [] hdTf (exC cs) w h K) : mg "wide" = some (.ref (He.ga K "wide")) := He.glo_ok X G (He.SaysD.facts (He.SaysT.d c.t) (memFa (i := 14) rfl))
theorem fd__law_take (c : He.SaysX hdFa hdFn [] hdTf (exC cs) w h K) : ∃ fd, FnP K "_law_take" (top 21) (He.ga K "_law_take") fd ∧ Binds K fd F_law_take.ps [] ∧ ∀ (s : Shared) (us : List Value), us.length = 2 → BindsTo s fd ⟨us, []⟩ ((F_law_take.ps : List Str).zip us) := by
  obtain ⟨fd, F⟩ := He.SaysD.defs (He.SaysT.d c.t) (memFn (i := 15) (d := dd "_law_take" 21) rfl)
  have hb := fun (kV doc pm : Value) (an : Option Addr) (cdv ct : Value) (us : List Value) (hl : us.length = (F_law_take.ps : List Str).length) => (match us, hl with | [_, _], _ => rfl : bindArgs (PySem.W.fnOf "_law_take" "_law_take" (defArgs (top 21)) (defBody (top 21)) (defScope (top 21)) .none kV doc pm an cdv ct) ⟨us, []⟩ = pure ((F_law_take.ps : List Str).zip us))
  exact ⟨fd, F, FunD.bindsN F hb, fun s us hl => FunD.bindsA F hb s us hl⟩
theorem gl__law_take (X : K.In h) (G : h.Ns mainGlobals mg) (c : He.SaysX hdFa hdFn [] hdTf (exC cs) w h K) : mg "_law_take" = some (.ref (He.ga K "_law_take")) := He.glo_ok X G (He.SaysD.facts (He.SaysT.d c.t) (memFa (i := 15) rfl))
theorem fd__law_turn (c : He.SaysX hdFa hdFn [] hdTf (exC cs) w h K) : ∃ fd, FnP K "_law_turn" (top 28) (He.ga K "_law_turn") fd ∧ Binds K fd F_law_turn.ps [] ∧ ∀ (s : Shared) (us : List Value), us.length = 2 → BindsTo s fd ⟨us, []⟩ ((F_law_turn.ps : List Str).zip us) := by
  obtain ⟨fd, F⟩ := He.SaysD.defs (He.SaysT.d c.t) (memFn (i := 16) (d := dd "_law_turn" 28) rfl)
  have hb := fun (kV doc pm : Value) (an : Option Addr) (cdv ct : Value) (us : List Value) (hl : us.length = (F_law_turn.ps : List Str).length) => (match us, hl with | [_, _], _ => rfl : bindArgs (PySem.W.fnOf "_law_turn" "_law_turn" (defArgs (top 28)) (defBody (top 28)) (defScope (top 28)) .none kV doc pm an cdv ct) ⟨us, []⟩ = pure ((F_law_turn.ps : List Str).zip us))
  exact ⟨fd, F, FunD.bindsN F hb, fun s us hl => FunD.bindsA F hb s us hl⟩
theorem gl__law_turn (X : K.In h) (G : h.Ns mainGlobals mg) (c : He.SaysX hdFa hdFn [] hdTf (exC cs) w h K) : mg "_law_turn" = some (.ref (He.ga K "_law_turn")) := He.glo_ok X G (He.SaysD.facts (He.SaysT.d c.t) (memFa (i := 16) rfl))
theorem fd__law_laid (c : He.SaysX hdFa hdFn [] hdTf (exC cs) w h K) : ∃ fd, FnP K "_law_laid" (top 29) (He.ga K "_law_laid") fd ∧ Binds K fd F_law_laid.ps [] ∧ ∀ (s : Shared) (us : List Value), us.length = 1 → BindsTo s fd ⟨us, []⟩ ((F_law_laid.ps : List Str).zip us) := by
  obtain ⟨fd, F⟩ := He.SaysD.defs (He.SaysT.d c.t) (memFn (i := 17) (d := dd "_law_laid" 29) rfl)
  have hb := fun (kV doc pm : Value) (an : Option Addr) (cdv ct : Value) (us : List Value) (hl : us.length = (F_law_laid.ps : List Str).length) => (match us, hl with | [_], _ => rfl : bindArgs (PySem.W.fnOf "_law_laid" "_law_laid" (defArgs (top 29)) (defBody (top 29)) (defScope (top 29)) .none kV doc pm an cdv ct) ⟨us, []⟩ = pure ((F_law_laid.ps : List Str).zip us))
  exact ⟨fd, F, FunD.bindsN F hb, fun s us hl => FunD.bindsA F hb s us hl⟩
theorem gl__law_laid (X : K.In h) (G : h.Ns mainGlobals mg) (c : He.SaysX hdFa hdFn [] hdTf (exC cs) w h K) : mg "_law_laid" = some (.ref (He.ga K "_law_laid")) := He.glo_ok X G (He.SaysD.facts (He.SaysT.d c.t) (memFa (i := 17) rfl))
theorem fd__law_turns (c : He.SaysX hdFa hdFn [] hdTf (exC cs) w h K) : ∃ fd, FnP K "_law_turns" (top 30) (He.ga K "_law_turns") fd ∧ Binds K fd F_law_turns.ps [] ∧ ∀ (s : Shared) (us : List Value), us.length = 1 → BindsTo s fd ⟨us, []⟩ ((F_law_turns.ps : List Str).zip us) := by
  obtain ⟨fd, F⟩ := He.SaysD.defs (He.SaysT.d c.t) (memFn (i := 18) (d := dd "_law_turns" 30) rfl)
  have hb := fun (kV doc pm : Value) (an : Option Addr) (cdv ct : Value) (us : List Value) (hl : us.length = (F_law_turns.ps : List Str).length) => (match us, hl with | [_], _ => rfl : bindArgs (PySem.W.fnOf "_law_turns" "_law_turns" (defArgs (top 30)) (defBody (top 30)) (defScope (top 30)) .none kV doc pm an cdv ct) ⟨us, []⟩ = pure ((F_law_turns.ps : List Str).zip us))
  exact ⟨fd, F, FunD.bindsN F hb, fun s us hl => FunD.bindsA F hb s us hl⟩
theorem gl__law_turns (X : K.In h) (G : h.Ns mainGlobals mg) (c : He.SaysX hdFa hdFn [] hdTf (exC cs) w h K) : mg "_law_turns" = some (.ref (He.ga K "_law_turns")) := He.glo_ok X G (He.SaysD.facts (He.SaysT.d c.t) (memFa (i := 18) rfl))
theorem fd__law_least (c : He.SaysX hdFa hdFn [] hdTf (exC cs) w h K) : ∃ fd, FnP K "_law_least" (top 31) (He.ga K "_law_least") fd ∧ Binds K fd F_law_least.ps [] ∧ ∀ (s : Shared) (us : List Value), us.length = 1 → BindsTo s fd ⟨us, []⟩ ((F_law_least.ps : List Str).zip us) := by
  obtain ⟨fd, F⟩ := He.SaysD.defs (He.SaysT.d c.t) (memFn (i := 19) (d := dd "_law_least" 31) rfl)
  have hb := fun (kV doc pm : Value) (an : Option Addr) (cdv ct : Value) (us : List Value) (hl : us.length = (F_law_least.ps : List Str).length) => (match us, hl with | [_], _ => rfl : bindArgs (PySem.W.fnOf "_law_least" "_law_least" (defArgs (top 31)) (defBody (top 31)) (defScope (top 31)) .none kV doc pm an cdv ct) ⟨us, []⟩ = pure ((F_law_least.ps : List Str).zip us))
  exact ⟨fd, F, FunD.bindsN F hb, fun s us hl => FunD.bindsA F hb s us hl⟩
theorem gl__law_least (X : K.In h) (G : h.Ns mainGlobals mg) (c : He.SaysX hdFa hdFn [] hdTf (exC cs) w h K) : mg "_law_least" = some (.ref (He.ga K "_law_least")) := He.glo_ok X G (He.SaysD.facts (He.SaysT.d c.t) (memFa (i := 19) rfl))
theorem fd__law_bare (c : He.SaysX hdFa hdFn [] hdTf (exC cs) w h K) : ∃ fd, FnP K "_law_bare" (top 32) (He.ga K "_law_bare") fd ∧ Binds K fd F_law_bare.ps [] ∧ ∀ (s : Shared) (us : List Value), us.length = 1 → BindsTo s fd ⟨us, []⟩ ((F_law_bare.ps : List Str).zip us) := by
  obtain ⟨fd, F⟩ := He.SaysD.defs (He.SaysT.d c.t) (memFn (i := 20) (d := dd "_law_bare" 32) rfl)
  have hb := fun (kV doc pm : Value) (an : Option Addr) (cdv ct : Value) (us : List Value) (hl : us.length = (F_law_bare.ps : List Str).length) => (match us, hl with | [_], _ => rfl : bindArgs (PySem.W.fnOf "_law_bare" "_law_bare" (defArgs (top 32)) (defBody (top 32)) (defScope (top 32)) .none kV doc pm an cdv ct) ⟨us, []⟩ = pure ((F_law_bare.ps : List Str).zip us))
  exact ⟨fd, F, FunD.bindsN F hb, fun s us hl => FunD.bindsA F hb s us hl⟩
theorem gl__law_bare (X : K.In h) (G : h.Ns mainGlobals mg) (c : He.SaysX hdFa hdFn [] hdTf (exC cs) w h K) : mg "_law_bare" = some (.ref (He.ga K "_law_bare")) := He.glo_ok X G (He.SaysD.facts (He.SaysT.d c.t) (memFa (i := 20) rfl))
theorem fd__law_places (c : He.SaysX hdFa hdFn [] hdTf (exC cs) w h K) : ∃ fd, FnP K "_law_places" (top 33) (He.ga K "_law_places") fd ∧ Binds K fd F_law_places.ps [] ∧ ∀ (s : Shared) (us : List Value), us.length = 2 → BindsTo s fd ⟨us, []⟩ ((F_law_places.ps : List Str).zip us) := by
  obtain ⟨fd, F⟩ := He.SaysD.defs (He.SaysT.d c.t) (memFn (i := 21) (d := dd "_law_places" 33) rfl)
  have hb := fun (kV doc pm : Value) (an : Option Addr) (cdv ct : Value) (us : List Value) (hl : us.length = (F_law_places.ps : List Str).length) => (match us, hl with | [_, _], _ => rfl : bindArgs (PySem.W.fnOf "_law_places" "_law_places" (defArgs (top 33)) (defBody (top 33)) (defScope (top 33)) .none kV doc pm an cdv ct) ⟨us, []⟩ = pure ((F_law_places.ps : List Str).zip us))
  exact ⟨fd, F, FunD.bindsN F hb, fun s us hl => FunD.bindsA F hb s us hl⟩
theorem gl__law_places (X : K.In h) (G : h.Ns mainGlobals mg) (c : He.SaysX hdFa hdFn [] hdTf (exC cs) w h K) : mg "_law_places" = some (.ref (He.ga K "_law_places")) := He.glo_ok X G (He.SaysD.facts (He.SaysT.d c.t) (memFa (i := 21) rfl))
theorem fd__law_state (c : He.SaysX hdFa hdFn [] hdTf (exC cs) w h K) : ∃ fd, FnP K "_law_state" (top 20) (He.ga K "_law_state") fd ∧ Binds K fd ["script"] [] ∧ ∀ (s : Shared) (us : List Value), us.length = 1 → BindsTo s fd ⟨us, []⟩ ((["script"] : List Str).zip us) := by
  obtain ⟨fd, F⟩ := He.SaysD.defs (He.SaysT.d c.t) (memFn (i := 22) (d := dd "_law_state" 20) rfl)
  have hb := fun (kV doc pm : Value) (an : Option Addr) (cdv ct : Value) (us : List Value) (hl : us.length = (["script"] : List Str).length) => (match us, hl with | [_], _ => rfl : bindArgs (PySem.W.fnOf "_law_state" "_law_state" (defArgs (top 20)) (defBody (top 20)) (defScope (top 20)) .none kV doc pm an cdv ct) ⟨us, []⟩ = pure ((["script"] : List Str).zip us))
  exact ⟨fd, F, FunD.bindsN F hb, fun s us hl => FunD.bindsA F hb s us hl⟩
theorem gl__law_state (X : K.In h) (G : h.Ns mainGlobals mg) (c : He.SaysX hdFa hdFn [] hdTf (exC cs) w h K) : mg "_law_state" = some (.ref (He.ga K "_law_state")) := He.glo_ok X G (He.SaysD.facts (He.SaysT.d c.t) (memFa (i := 22) rfl))
theorem fd_law (c : He.SaysX hdFa hdFn [] hdTf (exC cs) w h K) : ∃ fd, FnP K "law" (top 34) (He.ga K "law") fd ∧ Binds K fd ["script"] [] ∧ ∀ (s : Shared) (us : List Value), us.length = 1 → BindsTo s fd ⟨us, []⟩ ((["script"] : List Str).zip us) := by
  obtain ⟨fd, F⟩ := He.SaysD.defs (He.SaysT.d c.t) (memFn (i := 23) (d := dd "law" 34) rfl)
  have hb := fun (kV doc pm : Value) (an : Option Addr) (cdv ct : Value) (us : List Value) (hl : us.length = (["script"] : List Str).length) => (match us, hl with | [_], _ => rfl : bindArgs (PySem.W.fnOf "law" "law" (defArgs (top 34)) (defBody (top 34)) (defScope (top 34)) .none kV doc pm an cdv ct) ⟨us, []⟩ = pure ((["script"] : List Str).zip us))
  exact ⟨fd, F, FunD.bindsN F hb, fun s us hl => FunD.bindsA F hb s us hl⟩
theorem gl_law (X : K.In h) (G : h.Ns mainGlobals mg) (c : He.SaysX hdFa hdFn [] hdTf (exC cs) w h K) : mg "law" = some (.ref (He.ga K "law")) := He.glo_ok X G (He.SaysD.facts (He.SaysT.d c.t) (memFa (i := 23) rfl))
variable {base : Heap}
theorem hd_ents (X : K.In h) (G : h.Ns mainGlobals mg) (c : He.SaysX hdFa hdFn [] hdTf (exC cs) w h K) (TB : ∀ p ∈ hdTf, LamX.TabB base mg (He.cT K p).1 (He.cT K p).2) : ∀ i fi, T[i]? = some fi → EntOk (hdP K) prog0 w K mg base T fns i fi := by
  have Mm := hd_md X G c
  intro i fi e
  have hi : i < 22 := (List.getElem?_eq_some_iff.mp e).1
  match i, hi with
  | 0, _ =>
    obtain rfl : Fis_place = fi := Option.some.inj e
    obtain ⟨fd, F, b, _⟩ := fd_is_place c
    exact ent_code Mm rfl F (gl_is_place X G c) b sc_is_place mt_is_place rfl
  | 1, _ =>
    obtain rfl : Fare_places = fi := Option.some.inj e
    obtain ⟨fd, F, b, _⟩ := fd_are_places c
    exact ent_code Mm rfl F (gl_are_places X G c) b sc_are_places mt_are_places rfl
  | 2, _ =>
    obtain rfl : Fturned = fi := Option.some.inj e
    obtain ⟨fd, F, b, _⟩ := fd_turned c
    exact ent_code Mm rfl F (gl_turned X G c) b sc_turned mt_turned rfl
  | 3, _ =>
    obtain rfl : Fmoved = fi := Option.some.inj e
    obtain ⟨fd, F, b, _⟩ := fd_moved c
    exact ent_code Mm rfl F (gl_moved X G c) b sc_moved mt_moved rfl
  | 4, _ =>
    obtain rfl : Fmirrored = fi := Option.some.inj e
    obtain ⟨fd, F, b, _⟩ := fd_mirrored c
    exact ent_code Mm rfl F (gl_mirrored X G c) b sc_mirrored mt_mirrored rfl
  | 5, _ =>
    obtain rfl : Fstepped = fi := Option.some.inj e
    obtain ⟨fd, F, b, _⟩ := fd_stepped c
    exact ent_code Mm rfl F (gl_stepped X G c) b sc_stepped mt_stepped rfl
  | 6, _ =>
    obtain rfl : Ffaced = fi := Option.some.inj e
    obtain ⟨fd, F, b, _⟩ := fd_faced c
    exact ent_code Mm rfl F (gl_faced X G c) b sc_faced mt_faced rfl
  | 7, _ =>
    obtain rfl : Flaid = fi := Option.some.inj e
    obtain ⟨fd, F, b, _⟩ := fd_laid c
    exact ent_code Mm rfl F (gl_laid X G c) b sc_laid mt_laid rfl
  | 8, _ =>
    obtain rfl : Fall_turns = fi := Option.some.inj e
    obtain ⟨fd, F, b, _⟩ := fd_all_turns c
    exact ent_code Mm rfl F (gl_all_turns X G c) b sc_all_turns mt_all_turns rfl
  | 9, _ =>
    obtain rfl : Fleast = fi := Option.some.inj e
    obtain ⟨fd, F, b, _⟩ := fd_least c
    exact ent_code Mm rfl F (gl_least X G c) b sc_least mt_least rfl
  | 10, _ =>
    obtain rfl : Fbare = fi := Option.some.inj e
    obtain ⟨fd, F, b, _⟩ := fd_bare c
    exact ent_code Mm rfl F (gl_bare X G c) b sc_bare mt_bare rfl
  | 11, _ =>
    obtain rfl : Fturns_to_bare = fi := Option.some.inj e
    obtain ⟨fd, F, b, _⟩ := fd_turns_to_bare c
    exact ent_code Mm rfl F (gl_turns_to_bare X G c) b sc_turns_to_bare mt_turns_to_bare rfl
  | 12, _ =>
    obtain rfl : Forders = fi := Option.some.inj e
    obtain ⟨fd, F, b, _⟩ := fd_orders c
    refine ⟨_, fd, gl_orders X G c, F.kp, b, fun dd cal => ?_⟩
    obtain ⟨oc, od, dV, kV, doc, pm, an, cdv, ct, osl, efd, lk, hcd, _, _⟩ := F.ex
    subst efd
    obtain ⟨cc, rfl⟩ := He.codeIn_ref hcd
    have ec : He.codeOf K ("orders", none) = cc := He.codeOf_eq lk rfl
    have TB := TB ("orders", none) (by simp [hdTf])
    have e1 : (He.cT K ("orders", none)).1 = cc := ec
    rw [e1] at TB
    exact fn_codeL Mm rfl lk hcd sc_orders mt_orders TB (by simp [hdP, hdT]) (fun p hp _ => by simp [hdP, hdT] at hp; rw [hp]) cal
  | 13, _ =>
    obtain rfl : Fare_alike = fi := Option.some.inj e
    obtain ⟨fd, F, b, _⟩ := fd_are_alike c
    exact ent_code Mm rfl F (gl_are_alike X G c) b sc_are_alike mt_are_alike rfl
  | 14, _ =>
    obtain rfl : Fwide = fi := Option.some.inj e
    obtain ⟨fd, F, b, _⟩ := fd_wide c
    exact ent_code Mm rfl F (gl_wide X G c) b sc_wide mt_wide rfl
  | 15, _ =>
    obtain rfl : F_law_take = fi := Option.some.inj e
    obtain ⟨fd, F, b, _⟩ := fd__law_take c
    exact ⟨_, fd, gl__law_take X G c, F.kp, b, fun dd _ => (ok_take Mm rfl F).mono (by omega)⟩
  | 16, _ =>
    obtain rfl : F_law_turn = fi := Option.some.inj e
    obtain ⟨fd, F, b, _⟩ := fd__law_turn c
    exact ent_code Mm rfl F (gl__law_turn X G c) b sc__law_turn mt__law_turn rfl
  | 17, _ =>
    obtain rfl : F_law_laid = fi := Option.some.inj e
    obtain ⟨fd, F, b, _⟩ := fd__law_laid c
    exact ent_code Mm rfl F (gl__law_laid X G c) b sc__law_laid mt__law_laid rfl
  | 18, _ =>
    obtain rfl : F_law_turns = fi := Option.some.inj e
    obtain ⟨fd, F, b, _⟩ := fd__law_turns c
    exact ent_code Mm rfl F (gl__law_turns X G c) b sc__law_turns mt__law_turns rfl
  | 19, _ =>
    obtain rfl : F_law_least = fi := Option.some.inj e
    obtain ⟨fd, F, b, _⟩ := fd__law_least c
    exact ent_code Mm rfl F (gl__law_least X G c) b sc__law_least mt__law_least rfl
  | 20, _ =>
    obtain rfl : F_law_bare = fi := Option.some.inj e
    obtain ⟨fd, F, b, _⟩ := fd__law_bare c
    exact ent_code Mm rfl F (gl__law_bare X G c) b sc__law_bare mt__law_bare rfl
  | 21, _ =>
    obtain rfl : F_law_places = fi := Option.some.inj e
    obtain ⟨fd, F, b, _⟩ := fd__law_places c
    exact ent_code Mm rfl F (gl__law_places X G c) b sc__law_places mt__law_places rfl
end
end Pv
set_option linter.all false
set_option maxRecDepth 100000
set_option maxHeartbeats 1000000
namespace Pv
open PySem PySem.W

def mnD (xs : List PyData) (p : PyData → Prop) : Prop := headOr xs fun x r => ordOk (x :: r) ∧ p (W.minD x r)
def mxD (xs : List PyData) (p : PyData → Prop) : Prop := headOr xs fun x r => ordOk (x :: r) ∧ p (W.maxD x r)
def stD (xs : List PyData) (p : PyData → Prop) : Prop := (ordOk xs ∧ W.Sortable xs) ∧ p (.list (srtD xs))
section
variable (d : PyData) (p : PyData → Prop)
@[simp] theorem pr_len : primD .len [d] p = lenD d fun n => p (.int n) := rfl
@[simp] theorem pr_mn : primD .mn [d] p = asS d fun xs => mnD xs p := rfl
@[simp] theorem pr_mx : primD .mx [d] p = asS d fun xs => mxD xs p := rfl
@[simp] theorem pr_abs : primD .abs [d] p = asI d fun i => p (.int (absI i)) := rfl
@[simp] theorem pr_srt : primD .srt [d] p = asS d fun xs => stD xs p := rfl
@[simp] theorem pr_tup : primD .tup [d] p = asS d fun xs => p (.tuple xs) := rfl
@[simp] theorem pr_lst : primD .lst [d] p = asS d fun xs => p (.list xs) := rfl
@[simp] theorem pr_int : primD .int [d] p = intD d p := rfl
@[simp] theorem pr_all : primD .all [d] p = asS d fun xs => xs.all isBoolD = true ∧ p (.bool (xs.all isTrueD)) := rfl
@[simp] theorem pr_any : primD .any [d] p = asS d fun xs => xs.all isBoolD = true ∧ p (.bool (xs.any isTrueD)) := rfl
end
theorem cmpF_map {α : Type} (enc : α → PyData) (g : α → PyData) {F : PyData → (List PyData → Prop) → Prop} : ∀ {l : List α}, (∀ a ∈ l, ∀ k, F (enc a) k = k [g a]) → ∀ p, cmpF F (l.map enc) p = p (l.map g)
  | [], _, p => rfl
  | a :: l, h, p => by
    rw [List.map_cons, cmpF, h a List.mem_cons_self, cmpF_map enc g (l := l) fun b hb => h b (List.mem_cons_of_mem _ hb)]
    rfl
theorem cmpF_filter {α : Type} (enc : α → PyData) (g : α → PyData) (t : α → Bool) {F : PyData → (List PyData → Prop) → Prop} : ∀ {l : List α}, (∀ a ∈ l, ∀ k, F (enc a) k = if t a = true then k [g a] else k []) → ∀ p, cmpF F (l.map enc) p = p ((l.filter t).map g)
  | [], _, p => rfl
  | a :: l, h, p => by
    rw [List.map_cons, cmpF, h a List.mem_cons_self]
    rw [cmpF_filter enc g t (l := l) fun b hb => h b (List.mem_cons_of_mem _ hb), cmpF_filter enc g t (l := l) fun b hb => h b (List.mem_cons_of_mem _ hb)]
    cases e : t a <;> simp [e]
theorem cm {α : Type} (enc : α → PyData) (g : α → PyData) {F : PyData → (List PyData → Prop) → Prop} {l : List α} {p : List PyData → Prop} (h : ∀ a ∈ l, ∀ k, F (enc a) k = k [g a]) : cmpF F (l.map enc) p ↔ p (l.map g) := iff_of_eq (cmpF_map enc g h p)
theorem cf {α : Type} (enc : α → PyData) (g : α → PyData) (t : α → Bool) {F : PyData → (List PyData → Prop) → Prop} {l : List α} {p : List PyData → Prop} (h : ∀ a ∈ l, ∀ k, F (enc a) k = if t a = true then k [g a] else k []) : cmpF F (l.map enc) p ↔ p ((l.filter t).map g) := iff_of_eq (cmpF_filter enc g t h p)
def mnI : List Int → Int
  | [] => 0
  | x :: r => r.foldl min x
def mxI : List Int → Int
  | [] => 0
  | x :: r => r.foldl max x
theorem ordOk_map {α : Type} [DecidableEq α] [DatumOrd α] (l : List α) (h : Datum.depth α ≤ 60) : ordOk (l.map Datum.toD) :=
  ⟨alikeAll_datum l, Nat.le_trans (depthAll_map l) h, plainAll_map l⟩
theorem mn_map {α : Type} (f : α → Int) (l : List α) (h : l ≠ []) (p : PyData → Prop) : mnD (l.map fun a => .int (f a)) p = p (.int (mnI (l.map f))) := by
  cases l with
  | nil => exact absurd rfl h
  | cons a r =>
    have o : ordOk ((a :: r).map fun a => .int (f a)) := by
      have := ordOk_map ((a :: r).map f) (by decide)
      rw [List.map_map] at this
      exact this
    have e : (r.map fun a => PyData.int (f a)) = (r.map f).map .int := by rw [List.map_map]; rfl
    simp only [mnD, mxD, List.map_cons, headOr_c] at o ⊢
    rw [eq_true o, true_and, e, minD_ints]
    rfl
theorem mx_map {α : Type} (f : α → Int) (l : List α) (h : l ≠ []) (p : PyData → Prop) : mxD (l.map fun a => .int (f a)) p = p (.int (mxI (l.map f))) := by
  cases l with
  | nil => exact absurd rfl h
  | cons a r =>
    have o : ordOk ((a :: r).map fun a => .int (f a)) := by
      have := ordOk_map ((a :: r).map f) (by decide)
      rw [List.map_map] at this
      exact this
    have e : (r.map fun a => PyData.int (f a)) = (r.map f).map .int := by rw [List.map_map]; rfl
    simp only [mnD, mxD, List.map_cons, headOr_c] at o ⊢
    rw [eq_true o, true_and, e, maxD_ints]
    rfl
/-- the least of typed data -/
def mnL {α : Type} [DecidableEq α] [DatumOrd α] [Inhabited α] : List α → α
  | [] => default
  | x :: r => minOf x r
theorem mn_data {α β : Type} [DecidableEq α] [DatumOrd α] [Inhabited α] (f : β → α) (l : List β) (h : l ≠ []) (hd : Datum.depth α ≤ 60) (p : PyData → Prop) : mnD (l.map fun a => Datum.toD (f a)) p = p (Datum.toD (mnL (l.map f))) := by
  cases l with
  | nil => exact absurd rfl h
  | cons a r =>
    have o : ordOk ((a :: r).map fun a => Datum.toD (f a)) := by
      have := ordOk_map ((a :: r).map f) hd
      rw [List.map_map] at this
      exact this
    have e : (r.map fun a => Datum.toD (f a)) = (r.map f).map Datum.toD := by rw [List.map_map]; rfl
    simp only [mnD, mxD, List.map_cons, headOr_c] at o ⊢
    rw [eq_true o, true_and, e, minD_map]
    rfl
abbrev Pl := T3 Int Int Int
def pl (p : Pl) : PyData := .tuple [.int p.a, .int p.b, .int p.c]
def pls (l : List Pl) : PyData := .tuple (l.map pl)
theorem pl_toD : pl = Datum.toD := rfl
theorem pls_toD (l : List Pl) : pls l = Datum.toD (Tup.mk l) := rfl

def movedM (p : Pl) (x y : Int) : Pl := ⟨p.a + x, p.b + y, p.c⟩
theorem c_moved (d : Nat) (p : Pl) (x y : Int) (q) (e) : callD T (d + 1) 3 [.v (pl p), .v (.int x), .v (.int y)] q e = q (pl (movedM p x y)) [.v (pl p), .v (.int x), .v (.int y)] := by
  rw [callD_s (fi := Fmoved) rfl, Fmoved, runF_code]
  simp [L2.atI, L2.ixN, pl, movedM]
def mirroredM (p : Pl) : Pl := ⟨0 - p.a, p.b, (4 - p.c) % 4⟩
theorem c_mirrored (d : Nat) (p : Pl) (q) (e) : callD T (d + 1) 4 [.v (pl p)] q e = q (pl (mirroredM p)) [.v (pl p)] := by
  rw [callD_s (fi := Fmirrored) rfl, Fmirrored, runF_code]
  simp [L2.atI, L2.ixN, pl, mirroredM]
def facedM (p : Pl) (n : Int) : Pl := ⟨p.a, p.b, (p.c + n) % 4⟩
theorem c_faced (d : Nat) (p : Pl) (n : Int) (q) (e) : callD T (d + 1) 6 [.v (pl p), .v (.int n)] q e = q (pl (facedM p n)) [.v (pl p), .v (.int n)] := by
  rw [callD_s (fi := Ffaced) rfl, Ffaced, runF_code]
  simp [L2.atI, L2.ixN, pl, facedM]
def turn1 (p : Pl) : Pl := ⟨p.b, 0 - p.a, (p.c + 1) % 4⟩
def turnM : Nat → Pl → Pl
  | 0, p => p
  | n + 1, p => turnM n (turn1 p)
theorem b_turned (C A B T q e) (p : Pl) : evSs C Bturned_1 [A, B, .v (.int p.a), .v (.int p.b), .v (.int p.c), T] q e = q (.nx [A, B, .v (.int (turn1 p).a), .v (.int (turn1 p).b), .v (.int (turn1 p).c), T]) := by
  simp [Bturned_1, turn1]
theorem turned_loop (C : Orc) (A B : Slot) (e) : ∀ (l : List PyData) (p : Pl) (q : Fl → Prop),
    forL (.nm 5) [5] (fun ρ1 q => evSs C Bturned_1 ρ1 q e) l [A, B, .v (.int p.a), .v (.int p.b), .v (.int p.c), .un] q = q (.nx [A, B, .v (.int (turnM l.length p).a), .v (.int (turnM l.length p).b), .v (.int (turnM l.length p).c), .un]) := by
  intro l
  induction l with
  | nil => intro p q; rfl
  | cons a l ih =>
    intro p q
    simp [forL, b_turned, ih, turnM]
theorem c_turned (d : Nat) (p : Pl) (n : Nat) (h : n ≤ 1000) (q) (e) : callD T (d + 1) 2 [.v (pl p), .v (.int n)] q e = q (pl (turnM n p)) [.v (pl p), .v (.int n)] := by
  rw [callD_s (fi := Fturned) rfl, Fturned, runF_code]
  have hn : (n : Int) ≤ 1000000 := by omega
  have hm : (-1000000 : Int) ≤ n := by omega
  simp [pl, Pv.range, turned_loop, hn, hm]
theorem b_lturn (C A B T q e) (p : Pl) : evSs C B_law_turn_1 [A, B, .v (.int p.a), .v (.int p.b), .v (.int p.c), T] q e = q (.nx [A, B, .v (.int (turn1 p).a), .v (.int (turn1 p).b), .v (.int (turn1 p).c), T]) := by
  simp [B_law_turn_1, turn1]
theorem lturn_loop (C : Orc) (A B : Slot) (e) : ∀ (l : List PyData) (p : Pl) (q : Fl → Prop),
    forL (.nm 5) [5] (fun ρ1 q => evSs C B_law_turn_1 ρ1 q e) l [A, B, .v (.int p.a), .v (.int p.b), .v (.int p.c), .un] q = q (.nx [A, B, .v (.int (turnM l.length p).a), .v (.int (turnM l.length p).b), .v (.int (turnM l.length p).c), .un]) := by
  intro l
  induction l with
  | nil => intro p q; rfl
  | cons a l ih =>
    intro p q
    simp [forL, b_lturn, ih, turnM]
theorem c_lturn (d : Nat) (p : Pl) (n : Nat) (h : n ≤ 1000) (q) (e) : callD T (d + 1) 16 [.v (pl p), .v (.int n)] q e = q (pl (turnM n p)) [.v (pl p), .v (.int n)] := by
  rw [callD_s (fi := F_law_turn) rfl, F_law_turn, runF_code]
  have hn : (n : Int) ≤ 1000000 := by omega
  have hm : (-1000000 : Int) ≤ n := by omega
  simp [pl, Pv.range, lturn_loop, hn, hm]
def laidM (l : List Pl) : List Pl := l.map fun p => ⟨p.a - mnI (l.map (·.a)), p.b - mnI (l.map (·.b)), p.c⟩
theorem c_laid (d : Nat) (l : List Pl) (h : l ≠ []) (S : PyData) (hS : ∀ k, asS S k = k (l.map pl)) (q) (e) : callD T (d + 2) 7 [.v S] q e = q (pls (laidM l)) [.v S] := by
  rw [callD_s (fi := Flaid) rfl, Flaid, runF_code]
  simp [-primD, pls, hS]
  refine (cm pl (fun p => .int p.a) ?_).trans ?_
  · intro p _ k
    simp [pl, L2.atI, L2.ixN]
  rw [mn_map _ l h]
  refine (cm pl (fun p => .int p.b) ?_).trans ?_
  · intro p _ k
    simp [pl, L2.atI, L2.ixN]
  rw [mn_map _ l h]
  simp
  refine (cm pl (fun p => pl (movedM p (- mnI (l.map (·.a))) (- mnI (l.map (·.b))))) ?_).trans ?_
  · intro p _ k
    simp [c_moved]
  simp [laidM, movedM, Function.comp_def, Int.sub_eq_add_neg]
theorem c_llaid (d : Nat) (l : List Pl) (h : l ≠ []) (S : PyData) (hS : ∀ k, asS S k = k (l.map pl)) (q) (e) : callD T (d + 1) 17 [.v S] q e = q (pls (laidM l)) [.v S] := by
  rw [callD_s (fi := F_law_laid) rfl, F_law_laid, runF_code]
  simp [-primD, pls, hS]
  refine (cm pl (fun p => .int p.a) ?_).trans ?_
  · intro p _ k
    simp [pl, L2.atI, L2.ixN]
  rw [mn_map _ l h]
  refine (cm pl (fun p => .int p.b) ?_).trans ?_
  · intro p _ k
    simp [pl, L2.atI, L2.ixN]
  rw [mn_map _ l h]
  refine (cm pl (fun p => pl ⟨p.a - mnI (l.map (·.a)), p.b - mnI (l.map (·.b)), p.c⟩) ?_).trans ?_
  · intro p _ k
    simp [pl, L2.atI, L2.ixN]
  simp [laidM, Function.comp_def]
end Pv
set_option linter.all false
set_option maxRecDepth 100000
set_option maxHeartbeats 1000000
namespace Pv
open PySem PySem.W
theorem laidM_ne {l : List Pl} (h : l ≠ []) : laidM l ≠ [] := fun e => h (by simpa [laidM] using e)
def turnsM (l : List Pl) : List (List Pl) := (List.range 4).map fun k => laidM (l.map (turnM k))
theorem c_allturns (d : Nat) (l : List Pl) (h : l ≠ []) (q) (e) : callD T (d + 3) 8 [.v (pls l)] q e = q (.list ((turnsM l).map pls)) [.v (pls l)] := by
  rw [callD_s (fi := Fall_turns) rfl, Fall_turns, runF_code]
  simp [-primD, pls, Pv.range, -List.map_map]
  refine (cm (fun k : Nat => .int (k : Int)) (fun k => pls (laidM (l.map (turnM k)))) ?_).trans ?_
  · intro k hk K
    have hk := List.mem_range.mp hk
    refine propext ?_
    refine (cm pl (fun p => pl (turnM k p)) ?_).trans ?_
    · intro p _ K
      simp [c_turned _ p k (by omega)]
    rw [c_laid d (l.map (turnM k)) (by simpa using h) _ (fun K => by simp [Function.comp_def])]
  simp [turnsM, pls, Function.comp_def]
theorem c_lturns (d : Nat) (l : List Pl) (h : l ≠ []) (q) (e) : callD T (d + 2) 18 [.v (pls l)] q e = q (.list ((turnsM l).map pls)) [.v (pls l)] := by
  rw [callD_s (fi := F_law_turns) rfl, F_law_turns, runF_code]
  simp [-primD, pls, Pv.range, -List.map_map]
  refine (cm (fun k : Nat => .int (k : Int)) (fun k => pls (laidM (l.map (turnM k)))) ?_).trans ?_
  · intro k hk K
    have hk := List.mem_range.mp hk
    refine propext ?_
    refine (cm pl (fun p => pl (turnM k p)) ?_).trans ?_
    · intro p _ K
      simp [c_lturn _ p k (by omega)]
    rw [c_llaid d (l.map (turnM k)) (by simpa using h) _ (fun K => by simp [Function.comp_def])]
  simp [turnsM, pls, Function.comp_def]
instance : Inhabited (Tup Pl) := ⟨⟨[]⟩⟩
def leastM (l : List Pl) : Tup Pl := mnL ((turnsM l).map Tup.mk)
theorem turnsM_ne (l : List Pl) : turnsM l ≠ [] := by simp [turnsM]
theorem c_least (d : Nat) (l : List Pl) (h : l ≠ []) (q) (e) : callD T (d + 4) 9 [.v (pls l)] q e = q (Datum.toD (leastM l)) [.v (pls l)] := by
  rw [callD_s (fi := Fleast) rfl, Fleast, runF_code]
  simp [-primD, c_allturns _ l h]
  rw [show (turnsM l).map pls = (turnsM l).map fun a => Datum.toD (Tup.mk a) from rfl, mn_data _ _ (turnsM_ne l) (by decide)]
  simp [leastM]
theorem c_lleast (d : Nat) (l : List Pl) (h : l ≠ []) (q) (e) : callD T (d + 3) 19 [.v (pls l)] q e = q (Datum.toD (leastM l)) [.v (pls l)] := by
  rw [callD_s (fi := F_law_least) rfl, F_law_least, runF_code]
  simp [-primD, c_lturns _ l h]
  rw [show (turnsM l).map pls = (turnsM l).map fun a => Datum.toD (Tup.mk a) from rfl, mn_data _ _ (turnsM_ne l) (by decide)]
  simp [leastM]
/-- in order -/
def sortM {α : Type} [DecidableEq α] [DatumOrd α] (l : List α) : List α := l.mergeSort fun a b => !DatumOrd.lt b a
theorem srtD_map {α : Type} [DecidableEq α] [DatumOrd α] (l : List α) : srtD (l.map Datum.toD) = (sortM l).map Datum.toD := by
  refine (List.map_mergeSort fun a _ b _ => ?_).symm
  rw [dataLe_eq]
  simp [DatumOrd.lt_eq]
theorem st_pl (l : List Pl) (p : PyData → Prop) : stD (l.map pl) p ↔ p (.list ((sortM l).map pl)) := by
  have e := srtD_map l
  rw [← pl_toD] at e
  unfold stD
  rw [e]
  exact and_iff_right ⟨ordOk_map l (by decide), Sortable.tuples (enc := pl) fun b => ⟨_, _, rfl⟩⟩
def bareM (l : List Pl) : Tup Pl := mnL ((turnsM l).map fun m => Tup.mk (sortM m))
theorem c_bare (d : Nat) (l : List Pl) (h : l ≠ []) (q) (e) : callD T (d + 4) 10 [.v (pls l)] q e = q (Datum.toD (bareM l)) [.v (pls l)] := by
  rw [callD_s (fi := Fbare) rfl, Fbare, runF_code]
  simp [-primD, c_allturns _ l h]
  refine (cm pls (fun m => pls (sortM m)) ?_).trans ?_
  · intro m _ K
    simp [-primD, pls, st_pl]
  rw [show ((turnsM l).map fun m => pls (sortM m)) = (turnsM l).map fun a => Datum.toD (Tup.mk (sortM a)) from rfl, mn_data _ _ (turnsM_ne l) (by decide)]
  simp [bareM]
theorem c_lbare (d : Nat) (l : List Pl) (h : l ≠ []) (q) (e) : callD T (d + 3) 20 [.v (pls l)] q e = q (Datum.toD (bareM l)) [.v (pls l)] := by
  rw [callD_s (fi := F_law_bare) rfl, F_law_bare, runF_code]
  simp [-primD, c_lturns _ l h]
  refine (cm pls (fun m => pls (sortM m)) ?_).trans ?_
  · intro m _ K
    simp [-primD, pls, st_pl]
  rw [show ((turnsM l).map fun m => pls (sortM m)) = (turnsM l).map fun a => Datum.toD (Tup.mk (sortM a)) from rfl, mn_data _ _ (turnsM_ne l) (by decide)]
  simp [bareM]
end Pv
set_option linter.all false
set_option maxRecDepth 100000
set_option maxHeartbeats 1000000
namespace Pv
open PySem PySem.W
theorem fit_datum {α : Type} [DecidableEq α] [Datum α] (a : α) (h : Datum.depth α ≤ 60) : fit (Datum.toD a) = true := by
  unfold fit
  rw [Datum.plain, Bool.true_and, decide_eq_true_eq]
  exact Nat.le_trans (Datum.depth_le a) h
theorem fit_pls (l : List Pl) : fit (pls l) = true := fit_datum (Tup.mk l) (by decide)
theorem fit_pl (p : Pl) : fit (pl p) = true := fit_datum p (by decide)
theorem fit_tup (l : Tup Pl) : fit (Datum.toD l) = true := fit_datum l (by decide)
theorem eqv_tup (a b : Tup Pl) : PyData.eqv (Datum.toD a) (Datum.toD b) = decide (a = b) := Datum.eqv a b
theorem eqv_pls (a : List Pl) (b : Tup Pl) : PyData.eqv (pls a) (Datum.toD b) = decide (Tup.mk a = b) := Datum.eqv (Tup.mk a) b
theorem eqv_pl (a b : Pl) : PyData.eqv (pl a) (pl b) = decide (a = b) := Datum.eqv a b
/-- the turns that lead to the pattern -/
def goodM (l : List Pl) : List Nat := (List.range 4).filter fun k => decide (Tup.mk (sortM (laidM (l.map (turnM k)))) = bareM l)
theorem turnsM_at (l : List Pl) {k : Nat} (h : k < 4) : L2.atI ((turnsM l).map pls) k = some (pls (laidM (l.map (turnM k)))) := by
  have : k = 0 ∨ k = 1 ∨ k = 2 ∨ k = 3 := by omega
  rcases this with rfl | rfl | rfl | rfl <;> rfl
theorem c_ttb (d : Nat) (l : List Pl) (h : l ≠ []) (q) (e) : callD T (d + 5) 11 [.v (pls l)] q e = q (.list ((goodM l).map fun k : Nat => .int (k : Int))) [.v (pls l)] := by
  rw [callD_s (fi := Fturns_to_bare) rfl, Fturns_to_bare, runF_code]
  simp [-primD, Pv.range, c_allturns _ l h, c_bare _ l h, -List.map_map]
  refine (cf (fun k : Nat => .int (k : Int)) (fun k : Nat => .int (k : Int)) (fun k => decide (Tup.mk (sortM (laidM (l.map (turnM k)))) = bareM l)) ?_).trans ?_
  · intro k hk K
    have hk := List.mem_range.mp hk
    simp only [asI_i, turnsM_at l hk, asO_s]
    rw [pls]
    simp only [asS_t, asS_l, st_pl]
    rw [show PyData.tuple ((sortM (laidM (l.map (turnM k)))).map pl) = pls (sortM (laidM (l.map (turnM k)))) from rfl]
    simp [fit_pls, fit_tup, eqv_pls]
  simp [goodM]
theorem c_alike (d : Nat) (l m : List Pl) (h : l ≠ []) (h' : m ≠ []) (q) (e) : callD T (d + 5) 13 [.v (pls l), .v (pls m)] q e = q (.bool (decide (l.length = m.length) && decide (leastM l = leastM m))) [.v (pls l), .v (pls m)] := by
  rw [callD_s (fi := Fare_alike) rfl, Fare_alike, runF_code]
  simp [-primD, c_least _ l h, c_least _ m h', fit_tup, eqv_tup]
  have e : ∀ n : Nat, fit (.int n) = true := fun n => rfl
  simp [pls, e, PyData.eqv]
  by_cases hh : l.length = m.length
  · simp [hh]
  · have : ¬ ((l.length : Int) = m.length) := by omega
    simp [hh, this]
/-- a row's place in its order -/
def asortN (l : List Pl) : List Nat := (List.range l.length).mergeSort (W.dataLe false fun k => (l.map pl).getD k .none)
theorem asortD_eq (l : List Pl) : asortD (l.map pl) = (asortN l).map fun k : Nat => .int (k : Int) := by simp [asortD, asortN]
def ordersM (l : List Pl) : List (List Nat) := (goodM l).map fun k => asortN (laidM (l.map (turnM k)))
def ords (m : List Nat) : PyData := .tuple (m.map fun k : Nat => .int (k : Int))
theorem noLsts_pl : ∀ l : List Pl, noLsts (l.map pl) = true
  | [] => rfl
  | p :: l => by rw [List.map_cons, noLsts, noLsts_pl l]; rfl
theorem turnM_len (l : List Pl) (k : Nat) : (laidM (l.map (turnM k))).length = l.length := by simp [laidM]
theorem b_orders (C : Orc) (l : List Pl) (n : l.length ≤ 1000) (A B : Slot) (R : List PyData) (hR : R.length ≤ 1000) (k : Nat) (h : k < 4) (S : Slot) (q e) : evSs C Borders_1 [A, .own (.list R), .v (.list ((turnsM l).map pls)), .v (.int k), S, B] q e = q (.nx [A, .own (.list (R ++ [ords (asortN (laidM (l.map (turnM k))))])), .v (.list ((turnsM l).map pls)), .v (.int k), .v (pls (laidM (l.map (turnM k)))), B]) := by
  have o : ordOk ((laidM (l.map (turnM k))).map pl) := ordOk_map _ (by decide)
  have s : Sortable ((laidM (l.map (turnM k))).map pl) := Sortable.tuples (enc := pl) fun b => ⟨_, _, rfl⟩
  have r : R.length < 1000000 := by omega
  simp [Borders_1, turnsM_at l h, -List.map_map]
  simp [pls, o, s, noLsts_pl, turnM_len, asortD_eq, ords, r]
  intro hh; have : LIM = 1000000 := rfl; omega
theorem orders_loop (C : Orc) (l : List Pl) (n : l.length ≤ 1000) (A B : Slot) (e) : ∀ (ks : List Nat), (∀ k ∈ ks, k < 4) → ∀ (R : List PyData), R.length + ks.length ≤ 1000 → ∀ (q : Fl → Prop),
    forL (.nm 3) [3, 4] (fun ρ1 q => evSs C Borders_1 ρ1 q e) (ks.map fun k : Nat => .int (k : Int)) [A, .own (.list R), .v (.list ((turnsM l).map pls)), .un, .un, B] q = q (.nx [A, .own (.list (R ++ ks.map fun k => ords (asortN (laidM (l.map (turnM k)))))), .v (.list ((turnsM l).map pls)), .un, .un, B]) := by
  intro ks
  induction ks with
  | nil => intro _ R _ q; simp [forL]
  | cons k ks ih =>
    intro h R hR q
    rw [List.map_cons, forL]
    simp only [setTg, List.set_cons_succ, List.set_cons_zero]
    rw [b_orders C l n A B R (by simp at hR; omega) k (h k List.mem_cons_self)]
    simp only [turnK_n, wipeE, List.set_cons_succ, List.set_cons_zero]
    rw [ih (fun k hk => h k (List.mem_cons_of_mem _ hk)) _ (by simp at hR ⊢; omega)]
    simp
theorem goodM_lt (l : List Pl) : ∀ k ∈ goodM l, k < 4 := fun k h => List.mem_range.mp (List.mem_filter.mp h).1
theorem goodM_len (l : List Pl) : (goodM l).length ≤ 4 := by
  refine Nat.le_trans (List.length_filter_le _ _) (by simp)
theorem c_orders (d : Nat) (l : List Pl) (h : l ≠ []) (n : l.length ≤ 1000) (q) (e) : callD T (d + 6) 12 [.v (pls l)] q e = q (.list ((ordersM l).map ords)) [.v (pls l)] := by
  rw [callD_s (fi := Forders) rfl, Forders, runF_code]
  simp [-primD, c_allturns _ l h, c_ttb _ l h, -List.map_map]
  rw [orders_loop _ l n _ _ _ _ (goodM_lt l) _ (by have := goodM_len l; simp; omega)]
  simp [ordersM, Function.comp_def]
end Pv
set_option linter.all false
set_option maxRecDepth 100000
set_option maxHeartbeats 1000000
namespace Pv
open PySem PySem.W
def wideM (l : List Pl) : Int × Int := (mxI ((laidM l).map (·.a)) + 1, mxI ((laidM l).map (·.b)) + 1)
theorem c_wide (d : Nat) (l : List Pl) (h : l ≠ []) (q) (e) : callD T (d + 3) 14 [.v (pls l)] q e = q (.tuple [.int (mxI ((laidM l).map (·.a)) + 1), .int (mxI ((laidM l).map (·.b)) + 1)]) [.v (pls l)] := by
  rw [callD_s (fi := Fwide) rfl, Fwide, runF_code]
  simp [-primD]
  rw [c_laid d l h _ (fun k => rfl)]
  rw [pls]
  simp only [asS_t]
  refine (cm pl (fun p => .int p.a) ?_).trans ?_
  · intro p _ k
    simp [pl, L2.atI, L2.ixN]
  rw [mx_map _ _ (laidM_ne h)]
  simp only [opD_add]
  refine (cm pl (fun p => .int p.b) ?_).trans ?_
  · intro p _ k
    simp [pl, L2.atI, L2.ixN]
  rw [mx_map _ _ (laidM_ne h)]
  simp [pls]
/-- a good place -/
def OkP (p : Pl) : Prop := (-20 ≤ p.a ∧ p.a ≤ 20) ∧ (-20 ≤ p.b ∧ p.b ≤ 20) ∧ 0 ≤ p.c ∧ p.c ≤ 3
instance (p : Pl) : Decidable (OkP p) := by unfold OkP; infer_instance
theorem c_isplace (d : Nat) (p : Pl) (h : OkP p) (q) (e) : callD T (d + 1) 0 [.v (pl p)] q e = q (.bool true) [.v (pl p)] := by
  obtain ⟨⟨a1, a2⟩, ⟨b1, b2⟩, c1, c2⟩ := h
  rw [callD_s (fi := Fis_place) rfl, Fis_place, runF_code]
  have A : (if p.a < 0 then -p.a else p.a) ≤ 20 := by split <;> omega
  have B : (if p.b < 0 then -p.b else p.b) ≤ 20 := by split <;> omega
  have f : fit (.int 3) = true := rfl
  simp [-primD, pl, L2.atI, L2.ixN, cmpF, f, A, B, c1, c2, PyData.eqv]
theorem memD_map {α : Type} [DecidableEq α] [Datum α] (a : α) (l : List α) : memD (Datum.toD a) (l.map Datum.toD) = decide (a ∈ l) := by
  unfold memD
  rw [List.any_map, Bool.eq_iff_iff, List.any_eq_true, decide_eq_true_eq]
  simp only [Function.comp, Datum.eqv, decide_eq_true_eq]
  exact ⟨fun ⟨x, m, e⟩ => e ▸ m, fun m => ⟨a, m, rfl⟩⟩
theorem unlike_le : ∀ l : List PyData, unlike l ≤ l.length
  | [] => Nat.le_refl _
  | x :: r => by
    unfold unlike
    have := unlike_le r
    split <;> simp <;> omega
theorem unlike_nodup {α : Type} [DecidableEq α] [Datum α] : ∀ l : List α, unlike (l.map Datum.toD) = l.length ↔ l.Nodup
  | [] => by simp [unlike]
  | x :: r => by
    rw [List.map_cons, unlike, memD_map, List.nodup_cons, ← unlike_nodup r]
    have := unlike_le (r.map Datum.toD)
    rw [List.length_map] at this
    by_cases h : x ∈ r <;> simp [h]
    omega
/-- no two on one spot -/
def Spots (l : List Pl) : Prop := (l.map fun p => (p.a, p.b)).Nodup
instance (l : List Pl) : Decidable (Spots l) := by unfold Spots; infer_instance
theorem spots_eq (l : List Pl) : PyData.eqv (.int (unlike (l.map fun p => Datum.toD (p.a, p.b)))) (.int l.length) = decide (Spots l) := by
  have e : (l.map fun p => Datum.toD (p.a, p.b)) = (l.map fun p => (p.a, p.b)).map Datum.toD := by rw [List.map_map]; rfl
  have := unlike_nodup (l.map fun p => (p.a, p.b))
  rw [List.length_map] at this
  rw [e, PyData.eqv, Bool.eq_iff_iff, decide_eq_true_eq]
  show _ ↔ (l.map fun p => (p.a, p.b)).Nodup
  rw [← this]
  exact beq_iff_eq.trans Int.ofNat_inj
theorem fit_int (n : Int) : fit (.int n) = true := rfl
theorem c_arepl (d : Nat) (l : List Pl) (h : l ≠ []) (n : l.length ≤ 8) (hp : ∀ p ∈ l, OkP p) (q) (e) : callD T (d + 2) 1 [.v (pls l)] q e = q (.bool (decide (Spots l))) [.v (pls l)] := by
  rw [callD_s (fi := Fare_places) rfl, Fare_places, runF_code]
  have n1 : 1 ≤ (l.length : Int) := by have := List.length_pos_iff.mpr h; omega
  have n2 : (l.length : Int) ≤ 8 := by omega
  simp [-primD, pls, n1, n2]
  refine (cm pl (fun p => .bool true) ?_).trans ?_
  · intro p m k
    rw [c_isplace d p (hp p m)]
  have a1 : ∀ x ∈ l.map (fun _ => PyData.bool true), isBoolD x = true := by simp
  have a2 : ∀ x ∈ l.map (fun _ => PyData.bool true), isTrueD x = true := by simp
  rw [eq_true a1, if_pos a2, true_and]
  refine (cm pl (fun p => Datum.toD (p.a, p.b)) ?_).trans ?_
  · intro p m k
    rfl
  rw [spots_eq]
  have a3 : ∀ x ∈ l.map (fun p : Pl => Datum.toD (p.a, p.b)), intsT x = true := by
    intro x hx
    obtain ⟨p, _, rfl⟩ := List.mem_map.mp hx
    rfl
  simp only [eq_true a3, fit_int, List.length_map, true_and, and_self]
  exact and_iff_right (by omega)
end Pv
set_option linter.all false
set_option maxRecDepth 100000
set_option maxHeartbeats 1000000
namespace Pv
open PySem PySem.W
theorem c_take (d : Nat) (b : Int) (h : 2 ≤ b) (h' : b < 1000000000) (q) (e) : callD T (d + 1) 15 [.st, .v (.int b)] q e ↔ ∀ n : Nat, (n : Int) < b → q (.int n) [.st, .v (.int b)] := by
  rw [callD_s (fi := F_law_take) rfl, F_law_take, runF_take]
  have : ¬ b < 2 := by omega
  simp [takeF, this, h']
/-- what is drawn -/
def DrP (p : Pl) : Prop := (-2 ≤ p.a ∧ p.a ≤ 2) ∧ (-2 ≤ p.b ∧ p.b ≤ 2) ∧ 0 ≤ p.c ∧ p.c ≤ 3
def DrL (m : Int) (l : List Pl) : Prop := (l.length : Int) ≤ m ∧ (∀ p ∈ l, DrP p) ∧ Spots l
theorem b_places (d : Nat) (m : Int) (m6 : m ≤ 6) (m1 : 1 ≤ m) (l : List Pl) (D : DrL m l) (K S : Slot) (q e) (h : ∀ l' S', DrL m l' → l' ≠ [] → q (.nx [.st, .v (.int m), .v (.list (l'.map pl)), K, S', .un])) :
    evSs (callD T (d + 1)) B_law_places_1 [.st, .v (.int m), .v (.list (l.map pl)), K, S, .un] q e := by
  simp [B_law_places_1, -primD, c_take]
  intro x hx y hy z hz
  refine ⟨⟨rfl, rfl⟩, ?_⟩
  have e0 : PyData.eqv (.int (l.length : Int)) (.int m) = decide ((l.length : Int) = m) := by rw [PyData.eqv]; exact beq_decide _ _
  rw [e0]
  by_cases c : (l.length : Int) = m
  · rw [if_pos (decide_eq_true c)]
    exact h l _ D (by rintro rfl; simp at c; omega)
  · rw [if_neg (by simpa using c)]
    refine (cm pl (fun p => Datum.toD (p.a, p.b)) (fun p _ k => rfl)).mpr ?_
    have e1 : PyData.tuple (cutG [PyData.int (↑x - 2), PyData.int (↑y - 2), PyData.int ↑z] none (some 2)) = Datum.toD ((x : Int) - 2, (y : Int) - 2) := rfl
    have e2 : (l.map fun p => Datum.toD (p.a, p.b)) = (l.map fun p => (p.a, p.b)).map Datum.toD := by rw [List.map_map]; rfl
    have f2 : fit (PyData.list ((l.map fun p => (p.a, p.b)).map Datum.toD)) = true := fit_datum (l.map fun p => (p.a, p.b)) (by decide)
    rw [e1, e2, memD_map, f2, fit_datum _ (by decide)]
    refine ⟨⟨rfl, rfl⟩, ?_⟩
    obtain ⟨D1, D2, D3⟩ := D
    simp only [decide_eq_true_eq]
    by_cases c2 : ((x : Int) - 2, (y : Int) - 2) ∈ l.map fun p => (p.a, p.b)
    · rw [if_pos c2]
      exact h l _ ⟨D1, D2, D3⟩ (by rintro rfl; simp at c2)
    · rw [if_neg c2]
      have L : LIM = 1000000 := rfl
      refine ⟨by omega, ?_⟩
      have := h (l ++ [⟨x - 2, y - 2, z⟩]) (.v (pl ⟨x - 2, y - 2, z⟩)) ⟨by simp; omega, ?_, ?_⟩ (by simp)
      · rw [List.map_append] at this
        exact this
      · intro p hp
        rcases List.mem_append.mp hp with hp | hp
        · exact D2 p hp
        · rw [List.mem_singleton.mp hp]
          exact ⟨⟨by show (-2 : Int) ≤ (x : Int) - 2; omega, by show (x : Int) - 2 ≤ 2; omega⟩, ⟨by show (-2 : Int) ≤ (y : Int) - 2; omega, by show (y : Int) - 2 ≤ 2; omega⟩, by show (0 : Int) ≤ (z : Int); omega, by show (z : Int) ≤ 3; omega⟩
      · show (List.map _ (l ++ _)).Nodup
        rw [List.map_append, List.nodup_append]
        refine ⟨D3, by simp, ?_⟩
        intro a ha b hb
        simp only [List.map_cons, List.map_nil, List.mem_singleton] at hb
        rintro rfl
        exact c2 (hb ▸ ha)
theorem places_loop (d : Nat) (m : Int) (m6 : m ≤ 6) (m1 : 1 ≤ m) (e) : ∀ (ks : List PyData) (l : List Pl) (D : DrL m l) (q : Fl → Prop) (h0 : ks = [] → l ≠ []) (h : ∀ l', DrL m l' → l' ≠ [] → q (.nx [.st, .v (.int m), .v (.list (l'.map pl)), .un, .un, .un])),
    forL (.nm 3) [3, 4, 5] (fun ρ1 q => evSs (callD T (d + 1)) B_law_places_1 ρ1 q e) ks [.st, .v (.int m), .v (.list (l.map pl)), .un, .un, .un] q := by
  intro ks
  induction ks with
  | nil => intro l D q h0 h; exact h l D (h0 rfl)
  | cons k ks ih =>
    intro l D q h0 h
    rw [forL]
    simp only [setTg, List.set_cons_succ, List.set_cons_zero]
    refine b_places d m m6 m1 l D _ _ _ _ fun l' S' D' ne => ?_
    simp only [turnK_n, wipeE, List.set_cons_succ, List.set_cons_zero]
    exact ih l' D' q (fun _ => ne) h
theorem c_places (d : Nat) (m : Int) (m6 : m ≤ 6) (m1 : 1 ≤ m) (q) (e) (h : ∀ l, DrL m l → l ≠ [] → q (pls l) [.st, .v (.int m)]) : callD T (d + 2) 21 [.st, .v (.int m)] q e := by
  rw [callD_s (fi := F_law_places) rfl, F_law_places, runF_code]
  simp [-primD]
  refine places_loop d m m6 m1 _ _ [] ⟨by simp; omega, by simp, by simp [Spots]⟩ _ (by simp [Pv.range]) fun l D ne => ?_
  simp [-primD]
  exact h l D ne
end Pv
set_option linter.all false
set_option maxRecDepth 100000
set_option maxHeartbeats 1000000
namespace Pv
open PySem PySem.W
theorem turn4 (p : Pl) (h : DrP p) : turnM 4 p = p := by
  obtain ⟨_, _, c1, c2⟩ := h
  refine T3.same ?_ ?_ ?_ <;> simp [turnM, turn1]
  omega
theorem mir2 (p : Pl) (h : DrP p) : mirroredM (mirroredM p) = p := by
  obtain ⟨_, _, c1, c2⟩ := h
  refine T3.same ?_ ?_ ?_ <;> simp [mirroredM]
  omega
theorem mirT (p : Pl) (h : DrP p) : mirroredM (turnM 1 p) = turnM 3 (mirroredM p) := by
  obtain ⟨_, _, c1, c2⟩ := h
  refine T3.same ?_ ?_ ?_ <;> simp [mirroredM, turnM, turn1]
  omega
theorem turnM_add (m : Nat) : ∀ n p, turnM (n + m) p = turnM m (turnM n p)
  | 0, p => by rw [Nat.zero_add]; rfl
  | n + 1, p => by
    rw [show n + 1 + m = (n + m) + 1 by omega]
    exact turnM_add m n (turn1 p)
/-- shifted -/
def shM (x y : Int) (l : List Pl) : List Pl := l.map fun p => ⟨p.a + x, p.b + y, p.c⟩
theorem shM_sh (x y x' y' : Int) (l : List Pl) : shM x' y' (shM x y l) = shM (x + x') (y + y') l := by
  simp [shM, Int.add_assoc]
theorem foldl_min_add (x : Int) : ∀ (l : List Int) (a : Int), (l.map (· + x)).foldl min (a + x) = l.foldl min a + x
  | [], a => rfl
  | b :: l, a => by
    simp only [List.map_cons, List.foldl_cons]
    rw [← foldl_min_add x l, show min (a + x) (b + x) = min a b + x by omega]
theorem mnI_add (x : Int) (l : List Int) (h : l ≠ []) : mnI (l.map (· + x)) = mnI l + x := by
  cases l with
  | nil => exact absurd rfl h
  | cons a l => exact foldl_min_add x l a
theorem foldl_max_add (x : Int) : ∀ (l : List Int) (a : Int), (l.map (· + x)).foldl max (a + x) = l.foldl max a + x
  | [], a => rfl
  | b :: l, a => by
    simp only [List.map_cons, List.foldl_cons]
    rw [← foldl_max_add x l, show max (a + x) (b + x) = max a b + x by omega]
theorem mxI_add (x : Int) (l : List Int) (h : l ≠ []) : mxI (l.map (· + x)) = mxI l + x := by
  cases l with
  | nil => exact absurd rfl h
  | cons a l => exact foldl_max_add x l a
theorem laid_sh (x y : Int) (l : List Pl) (h : l ≠ []) : laidM (shM x y l) = laidM l := by
  have e1 : (shM x y l).map (·.a) = (l.map (·.a)).map (· + x) := by simp [shM]
  have e2 : (shM x y l).map (·.b) = (l.map (·.b)).map (· + y) := by simp [shM]
  unfold laidM
  rw [e1, e2, mnI_add _ _ (by simpa using h), mnI_add _ _ (by simpa using h)]
  simp only [shM, List.map_map, Function.comp_def]
  refine List.map_congr_left fun p _ => T3.same ?_ ?_ rfl
  · show p.a + x - (mnI (l.map (·.a)) + x) = p.a - mnI (l.map (·.a)); omega
  · show p.b + y - (mnI (l.map (·.b)) + y) = p.b - mnI (l.map (·.b)); omega
theorem laid_is (l : List Pl) : laidM l = shM (- mnI (l.map (·.a))) (- mnI (l.map (·.b))) l := by
  simp [laidM, shM, Int.sub_eq_add_neg]
theorem turn_sh : ∀ (k : Nat) (x y : Int), ∃ x' y', ∀ l, (shM x y l).map (turnM k) = shM x' y' (l.map (turnM k))
  | 0, x, y => ⟨x, y, fun l => by simp [turnM]⟩
  | k + 1, x, y => by
    obtain ⟨x', y', h⟩ := turn_sh k y (-x)
    refine ⟨x', y', fun l => ?_⟩
    have e : (shM x y l).map turn1 = shM y (-x) (l.map turn1) := by
      simp only [shM, List.map_map, Function.comp_def]
      refine List.map_congr_left fun p _ => T3.same rfl ?_ rfl
      show 0 - (p.a + x) = 0 - p.a + -x
      omega
    have f : ∀ l : List Pl, l.map (turnM (k + 1)) = (l.map turn1).map (turnM k) := fun l => by rw [List.map_map]; rfl
    rw [f, f, e, h]
theorem wide_eq (l : List Pl) (h : l ≠ []) : mxI ((laidM l).map (·.a)) + 1 = mxI (l.map (·.a)) - mnI (l.map (·.a)) + 1 ∧ mxI ((laidM l).map (·.b)) + 1 = mxI (l.map (·.b)) - mnI (l.map (·.b)) + 1 := by
  have e1 : (laidM l).map (·.a) = (l.map (·.a)).map (· + - mnI (l.map (·.a))) := by simp [laidM, Int.sub_eq_add_neg, Function.comp_def]
  have e2 : (laidM l).map (·.b) = (l.map (·.b)).map (· + - mnI (l.map (·.b))) := by simp [laidM, Int.sub_eq_add_neg, Function.comp_def]
  rw [e1, e2, mxI_add _ _ (by simpa using h), mxI_add _ _ (by simpa using h)]
  constructor <;> omega
/-- a turn of a turn, laid -/
theorem laid_turn (l : List Pl) (h : l ≠ []) (k j : Nat) (x y : Int) : laidM ((shM x y (laidM (l.map (turnM j)))).map (turnM k)) = laidM (l.map (turnM (j + k))) := by
  obtain ⟨x', y', e⟩ := turn_sh k x y
  obtain ⟨x1, y1, e1⟩ := turn_sh k (- mnI ((l.map (turnM j)).map (·.a))) (- mnI ((l.map (turnM j)).map (·.b)))
  rw [e, laid_sh _ _ _ (by simpa [laidM] using h), laid_is (l.map (turnM j)), e1, laid_sh _ _ _ (by simpa using h), List.map_map]
  congr 1
  exact List.map_congr_left fun p _ => (turnM_add k j p).symm
end Pv
set_option linter.all false
set_option maxRecDepth 100000
set_option maxHeartbeats 1000000
namespace Pv
open PySem PySem.W
class Lin (α : Type) [DecidableEq α] [DatumOrd α] : Prop where
  tot : ∀ a b : α, DatumOrd.lt a b = false → DatumOrd.lt b a = false → a = b
section
variable {α β γ : Type} [DecidableEq α] [DatumOrd α] [DecidableEq β] [DatumOrd β] [DecidableEq γ] [DatumOrd γ]
theorem lt_self (a : α) : DatumOrd.lt a a = false := (DatumOrd.lt_eq a a).symm.trans (dataLt_self _)
theorem lt_neg (a b c : α) (h : DatumOrd.lt a c = true) : DatumOrd.lt a b = true ∨ DatumOrd.lt b c = true := by
  rw [← DatumOrd.lt_eq] at h ⊢
  rw [← DatumOrd.lt_eq b c]
  exact PyProof.Rows.lex_negTrans _ _ _ h
theorem lt_tr (a b c : α) (h : DatumOrd.lt a b = true) (h' : DatumOrd.lt b c = true) : DatumOrd.lt a c = true := by
  rw [← DatumOrd.lt_eq] at h h' ⊢
  exact PyProof.Rows.lex_trans _ _ _ h h'
theorem lt_asym (a b : α) (h : DatumOrd.lt a b = true) : DatumOrd.lt b a = false := by
  cases e : DatumOrd.lt b a
  · rfl
  · exact absurd (lt_tr a b a h e) (by rw [lt_self]; decide)
instance : Lin Int := ⟨fun a b h h' => by
  have h := of_decide_eq_false h
  have h' := of_decide_eq_false h'
  omega⟩
instance [Lin α] [Lin β] [Lin γ] : Lin (T3 α β γ) := ⟨fun p q h h' => by
  change (if p.a = q.a then (if p.b = q.b then (DatumOrd.lt p.c q.c) else DatumOrd.lt p.b q.b) else DatumOrd.lt p.a q.a) = false at h
  change (if q.a = p.a then (if q.b = p.b then (DatumOrd.lt q.c p.c) else DatumOrd.lt q.b p.b) else DatumOrd.lt q.a p.a) = false at h'
  by_cases e : p.a = q.a
  · rw [if_pos e] at h
    rw [if_pos e.symm] at h'
    by_cases e1 : p.b = q.b
    · rw [if_pos e1] at h
      rw [if_pos e1.symm] at h'
      exact T3.same e e1 (Lin.tot _ _ h h')
    · rw [if_neg e1] at h
      rw [if_neg (Ne.symm e1)] at h'
      exact absurd (Lin.tot _ _ h h') e1
  · rw [if_neg e] at h
    rw [if_neg (Ne.symm e)] at h'
    exact absurd (Lin.tot _ _ h h') e⟩
theorem listLt_tot [Lin α] : ∀ a b : List α, listLt a b = false → listLt b a = false → a = b
  | [], [], _, _ => rfl
  | [], _ :: _, h, _ => by cases h
  | _ :: _, [], _, h => by cases h
  | x :: xs, y :: ys, h, h' => by
    rw [listLt] at h h'
    by_cases e : x = y
    · rw [if_pos e] at h
      rw [if_pos e.symm] at h'
      rw [e, listLt_tot xs ys h h']
    · rw [if_neg e] at h
      rw [if_neg (Ne.symm e)] at h'
      exact absurd (Lin.tot _ _ h h') e
instance [Lin α] : Lin (Tup α) := ⟨fun a b h h' => by
  cases a; cases b
  exact congrArg Tup.mk (listLt_tot _ _ h h')⟩
theorem minOf_spec : ∀ (l : List α) (x : α), minOf x l ∈ x :: l ∧ ∀ y ∈ x :: l, DatumOrd.lt y (minOf x l) = false
  | [], x => ⟨List.mem_cons_self, fun y hy => by rw [List.mem_singleton.mp hy]; exact lt_self x⟩
  | z :: l, x => by
    have e : minOf x (z :: l) = minOf (if DatumOrd.lt z x = true then z else x) l := rfl
    obtain ⟨h1, h2⟩ := minOf_spec l (if DatumOrd.lt z x = true then z else x)
    rw [e]
    refine ⟨?_, fun y hy => ?_⟩
    · rcases List.mem_cons.mp h1 with h1 | h1
      · rw [h1]; split <;> simp
      · exact List.mem_cons_of_mem _ (List.mem_cons_of_mem _ h1)
    · have hb := h2 _ List.mem_cons_self
      rcases List.mem_cons.mp hy with rfl | hy
      · cases c : DatumOrd.lt y (minOf (if DatumOrd.lt z y = true then z else y) l)
        · rfl
        · rcases lt_neg _ (if DatumOrd.lt z y = true then z else y) _ c with c' | c'
          · split at c'
            · rename_i c2; rw [lt_asym _ _ c2] at c'; cases c'
            · rw [lt_self] at c'; cases c'
          · rw [hb] at c'; cases c'
      · rcases List.mem_cons.mp hy with rfl | hy
        · cases c : DatumOrd.lt y (minOf (if DatumOrd.lt y x = true then y else x) l)
          · rfl
          · rcases lt_neg _ (if DatumOrd.lt y x = true then y else x) _ c with c' | c'
            · split at c'
              · rw [lt_self] at c'; cases c'
              · rename_i c2; exact absurd c' c2
            · rw [hb] at c'; cases c'
        · exact h2 y (List.mem_cons_of_mem _ hy)
theorem mnL_mem [Inhabited α] (l : List α) (h : l ≠ []) : mnL l ∈ l ∧ ∀ y ∈ l, DatumOrd.lt y (mnL l) = false := by
  cases l with
  | nil => exact absurd rfl h
  | cons x l => exact minOf_spec l x
theorem mnL_same [Inhabited α] [Lin α] (l m : List α) (h : l ≠ []) (e : ∀ x, x ∈ l ↔ x ∈ m) : mnL l = mnL m := by
  have h' : m ≠ [] := by
    rintro rfl
    obtain ⟨x, r, rfl⟩ := List.exists_cons_of_ne_nil h
    exact absurd ((e x).mp List.mem_cons_self) (by simp)
  obtain ⟨a1, a2⟩ := mnL_mem l h
  obtain ⟨b1, b2⟩ := mnL_mem m h'
  exact Lin.tot _ _ (b2 _ ((e _).mp a1)) (a2 _ ((e _).mpr b1))
end
theorem turn_per (p : Pl) (h : DrP p) (k : Nat) : turnM (4 + k) p = turnM k p := by rw [turnM_add, turn4 p h]
theorem least_sh (l : List Pl) (h : l ≠ []) (hd : ∀ p ∈ l, DrP p) (j : Nat) (hj : j < 4) (x y : Int) : leastM (shM x y (laidM (l.map (turnM j)))) = leastM l := by
  have per : ∀ k, l.map (turnM (4 + k)) = l.map (turnM k) := fun k => List.map_congr_left fun p hp => turn_per p (hd p hp) k
  have e : turnsM (shM x y (laidM (l.map (turnM j)))) = (List.range 4).map fun k => laidM (l.map (turnM (j + k))) := List.map_congr_left fun k _ => laid_turn l h k j x y
  refine mnL_same _ _ (by simpa using turnsM_ne _) fun z => ?_
  rw [e]
  have p0 := per 0
  have p1 := per 1
  have p2 := per 2
  have : j = 0 ∨ j = 1 ∨ j = 2 ∨ j = 3 := by omega
  rcases this with rfl | rfl | rfl | rfl <;> simp only [turnsM, List.range, List.range.loop, List.map_cons, List.map_nil, List.mem_cons, List.not_mem_nil, Nat.zero_add, or_false] <;> simp only [Nat.add_zero, Nat.reduceAdd] at p0 p1 p2 ⊢ <;> simp only [p0, p1, p2]
  · constructor <;> (rintro (h | h | h | h) <;> simp [h])
  · constructor <;> (rintro (h | h | h | h) <;> simp [h])
  · constructor <;> (rintro (h | h | h | h) <;> simp [h])
end Pv
set_option linter.all false
set_option maxRecDepth 100000
set_option maxHeartbeats 1000000
namespace Pv
open PySem PySem.W
section
variable {α : Type} [DecidableEq α] [DatumOrd α]
def leM (a b : α) : Bool := !DatumOrd.lt b a
theorem leM_tr (a b c : α) (h : leM a b = true) (h' : leM b c = true) : leM a c = true := by
  unfold leM at *
  cases e : DatumOrd.lt c a
  · rfl
  · rcases lt_neg c b a e with e | e
    · rw [e] at h'; cases h'
    · rw [e] at h; cases h
theorem leM_tot (a b : α) : (leM a b || leM b a) = true := by
  unfold leM
  cases e : DatumOrd.lt b a
  · rfl
  · rw [lt_asym _ _ e]; rfl
theorem leM_anti [Lin α] (a b : α) (h : leM a b = true) (h' : leM b a = true) : a = b := by
  unfold leM at *
  exact Lin.tot a b (by simpa using h') (by simpa using h)
theorem sort_uniq [Lin α] (l m : List α) (p : l.Perm m) (s : l.Pairwise fun a b => leM a b = true) : sortM m = l := by
  have s' : (sortM m).Pairwise fun a b => leM a b = true := List.pairwise_mergeSort leM_tr leM_tot m
  exact List.Perm.eq_of_pairwise (fun a b _ _ h h' => leM_anti a b h h') s' s ((List.mergeSort_perm m _).trans p.symm)
end
theorem asortN_perm (l : List Pl) : (asortN l).Perm (List.range l.length) := List.mergeSort_perm _ _
theorem asortN_row (l : List Pl) : (asortN l).map (fun k => l.getD k ⟨0, 0, 0⟩) = sortM l := by
  have e : asortN l = (List.range l.length).mergeSort fun i j => leM (l.getD i ⟨0, 0, 0⟩) (l.getD j ⟨0, 0, 0⟩) := by
    have := List.map_mergeSort (f := id) (l := List.range l.length) (r := W.dataLe false fun k => (l.map pl).getD k .none) (s := fun i j => leM (l.getD i ⟨0, 0, 0⟩) (l.getD j ⟨0, 0, 0⟩)) fun a ha b hb => by
      have ha := List.mem_range.mp ha
      have hb := List.mem_range.mp hb
      have g : ∀ i, i < l.length → (l.map pl).getD i .none = Datum.toD (l.getD i ⟨0, 0, 0⟩) := fun i h => by
        simp only [List.getD_eq_getElem?_getD, List.getElem?_map]
        rw [List.getElem?_eq_getElem h]
        rfl
      rw [dataLe_eq]
      simp only [cond_false, id, leM, g a ha, g b hb, DatumOrd.lt_eq]
    rw [List.map_id, List.map_id] at this
    exact this
  refine (sort_uniq _ _ ?_ ?_).symm
  · refine ((asortN_perm l).map _).trans ?_
    have : (List.range l.length).map (fun k => l.getD k ⟨0, 0, 0⟩) = l := by
      refine List.ext_getElem (by simp) fun i h h' => ?_
      simp [List.getD_eq_getElem?_getD]
      rw [List.getElem?_eq_getElem h']; rfl
    rw [this]
  · rw [e, List.pairwise_map]
    exact List.pairwise_mergeSort (le := fun i j => leM (l.getD i ⟨0, 0, 0⟩) (l.getD j ⟨0, 0, 0⟩)) (fun a b c h h' => leM_tr _ _ _ h h') (fun a b => leM_tot _ _) _
theorem sort_ints (m : List Nat) (n : Nat) (p : m.Perm (List.range n)) : srtD (m.map fun k : Nat => .int (k : Int)) = range 0 n := by
  have e : (m.map fun k : Nat => PyData.int (k : Int)) = (m.map fun k : Nat => (k : Int)).map Datum.toD := by rw [List.map_map]; rfl
  have u : sortM (m.map fun k : Nat => (k : Int)) = (List.range n).map fun k : Nat => (k : Int) := by
    refine sort_uniq _ _ (p.map _).symm ?_
    rw [List.pairwise_map]
    refine List.pairwise_lt_range.imp fun {a b} h => ?_
    show (!decide ((b : Int) < a)) = true
    simp; omega
  rw [e, srtD_map, u]
  simp [Pv.range]
  intro a _; rfl
end Pv
set_option linter.all false
set_option maxRecDepth 100000
set_option maxHeartbeats 4000000
namespace Pv
open PySem PySem.W
theorem odd1 (d : Nat) (q : PyData → List Slot → Prop) (e) (v : PyData) (hv : v ∈ [PyData.tuple [.int 0, .int 0, .int 4], .tuple [.int 0, .int 0, .int (-1)], .tuple [.int 21, .int 0, .int 0], .tuple [.int 0, .int 0], .tuple [.int 0, .bool true, .int 0], .list [.int 0, .int 0, .int 0], .none, .tuple [.str "0", .int 0, .int 0], .tuple [.int 0, .int 0, .int 0, .int 0]]) : callD T (d + 1) 0 [.v v] q e = q (.bool false) [.v v] := by
  rw [callD_s (fi := Fis_place) rfl, Fis_place, runF_code]
  have f : ∀ n, fit (.int n) = true := fun _ => rfl
  simp only [List.mem_cons, List.not_mem_nil, or_false] at hv
  rcases hv with rfl | rfl | rfl | rfl | rfl | rfl | rfl | rfl | rfl <;> simp [-primD, L2.atI, L2.ixN, cmpF, f, PyData.eqv]
theorem odd2 (d : Nat) (q : PyData → List Slot → Prop) (e) (v : PyData) (hv : v ∈ [PyData.tuple [], .list [.tuple [.int 0, .int 0, .int 0]], .tuple [.tuple [.int 0, .int 0, .int 0], .tuple [.int 0, .int 0, .int 1]], .none, .tuple [.tuple [.int 0, .int 0, .int 4]], .tuple ((List.range 9).map fun k : Nat => pl ⟨k, 0, 0⟩)]) : callD T (d + 2) 1 [.v v] q e = q (.bool false) [.v v] := by
  simp only [List.mem_cons, List.not_mem_nil, or_false] at hv
  rcases hv with rfl | rfl | rfl | rfl | rfl | rfl
  · rw [callD_s (fi := Fare_places) rfl, Fare_places, runF_code]; simp [-primD]
  · rw [callD_s (fi := Fare_places) rfl, Fare_places, runF_code]; simp [-primD]
  · exact c_arepl d [⟨0, 0, 0⟩, ⟨0, 0, 1⟩] (by decide) (by decide) (by decide) q e
  · rw [callD_s (fi := Fare_places) rfl, Fare_places, runF_code]; simp [-primD]
  · rw [callD_s (fi := Fare_places) rfl, Fare_places, runF_code]; simp [-primD, cmpF, odd1]
  · rw [callD_s (fi := Fare_places) rfl, Fare_places, runF_code]; simp [-primD]
end Pv
set_option linter.all false
set_option maxRecDepth 100000
set_option maxHeartbeats 4000000
namespace Pv
open PySem PySem.W
theorem step_places (A K : Slot) (q : Fl → Prop) (e : Ex → Env → Prop) (ss : CSs) (r : List Slot)
   (h : ∀ l : List Pl, DrL 6 l → l ≠ [] → evSs (callD T 8) ss (A :: .st :: K :: .v (pls l) :: r) q e) (S : Slot) :
   evSs (callD T 8) (.cons (.set 3 (.call 21 (.cons (.stn 1) (.cons (.bin .add (.cst (.int 1)) (.call 15 (.cons (.stn 1) (.cons (.cst (.int 6)) .nil)))) .nil)))) ss) (A :: .st :: K :: S :: r) q e := by
  simp [-primD, c_take]
  intro n hn
  refine c_places 6 _ (by omega) (by omega) _ _ fun l D ne => ?_
  exact h l ⟨by have := D.1; omega, D.2⟩ ne
end Pv
set_option linter.all false
set_option maxRecDepth 100000
set_option maxHeartbeats 4000000
namespace Pv
open PySem PySem.W
def tlB : CSs → CSs
  | .cons _ ss => ss
  | .nil => .nil
def takeB : Nat → CSs → CSs
  | n + 1, .cons s ss => .cons s (takeB n ss)
  | _, _ => .nil
theorem b1 (A K : Slot) (S4 S5 : Slot) (r : List Slot) (q : Fl → Prop) (e : Ex → Env → Prop) (ss : CSs) (p : Pl) (t : List Pl)
   (h : ∀ n : Nat, n < 6 → evSs (callD T 8) ss (A :: .st :: K :: .v (pls (p :: t)) :: .v (pl p) :: .v (.int n) :: r) q e) :
   evSs (callD T 8) (.cons (.par [(4, false), (5, false)] (.cons (.idx (.nm 3) (.cst (.int 0))) (.cons (.call 15 (.cons (.stn 1) (.cons (.cst (.int 6)) .nil))) .nil))) ss) (A :: .st :: K :: .v (pls (p :: t)) :: S4 :: S5 :: r) q e := by
  have e0 : L2.atI ((p :: t).map pl) 0 = some (pl p) := by simp [L2.atI, L2.ixN]
  simp [-primD, c_take, pls, -List.map_cons, e0]
  intro n hn
  exact h n (by omega)
end Pv
set_option linter.all false
set_option maxRecDepth 100000
set_option maxHeartbeats 4000000
namespace Pv
open PySem PySem.W
theorem DrP.ok {p : Pl} (h : DrP p) : OkP p := by
  obtain ⟨⟨a, b⟩, ⟨c, d⟩, e, f⟩ := h
  exact ⟨⟨by omega, by omega⟩, ⟨by omega, by omega⟩, e, f⟩
theorem b2 (A K : Slot) (n : Nat) (hn : n < 6) (r : List Slot) (q : Fl → Prop) (e : Ex → Env → Prop) (ss : CSs) (p : Pl) (t : List Pl) (D : DrL 6 (p :: t))
   (h : evSs (callD T 8) ss (A :: .st :: K :: .v (pls (p :: t)) :: .v (pl p) :: .v (.int n) :: r) q e) :
   evSs (callD T 8) (.cons (.ifs (.or (.cmp .isn (.call 1 (.cons (.nm 3) .nil)) (.cst (.bool true))) (.or (.cmp .ne (.call 2 (.cons (.nm 4) (.cons (.nm 5) .nil))) (.call 16 (.cons (.nm 4) (.cons (.nm 5) .nil)))) (.cmp .ne (.call 2 (.cons (.nm 4) (.cons (.cst (.int 4)) .nil))) (.nm 4)))) (.cons (.ret (.cst (.bool false)))
    .nil) .nil) ss) (A :: .st :: K :: .v (pls (p :: t)) :: .v (pl p) :: .v (.int n) :: r) q e := by
  have hl := D.1
  have c1 := c_arepl 6 (p :: t) (by simp) (by omega) (fun p hp => (D.2.1 p hp).ok)
  have c2 := fun n h => c_turned 7 p n h
  have c3 := fun n h => c_lturn 7 p n h
  have c4 : ∀ q e, callD T 8 2 [.v (pl p), .v (.int 4)] q e = q (pl (turnM 4 p)) [.v (pl p), .v (.int 4)] := fun q e => c_turned 7 p 4 (by omega) q e
  simp [-primD, c1, D.2.2, c2 n (by omega), c3 n (by omega), c4, fit_pl, eqv_pl, turn4 p (D.2.1 p List.mem_cons_self)]
  exact h
end Pv
set_option linter.all false
set_option maxRecDepth 100000
set_option maxHeartbeats 4000000
namespace Pv
open PySem PySem.W
def sx (c : Int) : Int := if c = 1 then 1 else if c = 3 then -1 else 0
def sy (c : Int) : Int := if c = 0 then 1 else if c = 2 then -1 else 0
theorem steps_at (c : Int) (h : 0 ≤ c) (h' : c ≤ 3) : L2.atI [PyData.tuple [.int 0, .int 1], .tuple [.int 1, .int 0], .tuple [.int 0, .int (-1)], .tuple [.int (-1), .int 0]] c = some (.tuple [.int (sx c), .int (sy c)]) := by
  have : c = 0 ∨ c = 1 ∨ c = 2 ∨ c = 3 := by omega
  rcases this with rfl | rfl | rfl | rfl <;> rfl
theorem mir_at (c : Int) (h : 0 ≤ c) (h' : c ≤ 3) : L2.atI [PyData.int 0, .int 3, .int 2, .int 1] c = some (.int ((4 - c) % 4)) := by
  have : c = 0 ∨ c = 1 ∨ c = 2 ∨ c = 3 := by omega
  rcases this with rfl | rfl | rfl | rfl <;> rfl
theorem sx_le (c : Int) : -1 ≤ sx c ∧ sx c ≤ 1 := by unfold sx; split <;> (try split) <;> omega
theorem sy_le (c : Int) : -1 ≤ sy c ∧ sy c ≤ 1 := by unfold sy; split <;> (try split) <;> omega
def steppedM (p : Pl) (n : Int) : Pl := ⟨p.a + n * sx p.c, p.b + n * sy p.c, p.c⟩
theorem c_stepped (d : Nat) (p : Pl) (D : DrP p) (n : Int) (h : -10 ≤ n) (h' : n ≤ 10) (q) (e) : callD T (d + 1) 5 [.v (pl p), .v (.int n)] q e = q (pl (steppedM p n)) [.v (pl p), .v (.int n)] := by
  obtain ⟨_, _, c1, c2⟩ := D
  rw [callD_s (fi := Fstepped) rfl, Fstepped, runF_code]
  have e0 : ∀ a b c : PyData, L2.atI [a, b, c] 0 = some a := fun _ _ _ => rfl
  have e1 : ∀ a b c : PyData, L2.atI [a, b, c] 1 = some b := fun _ _ _ => rfl
  have e2 : ∀ a b c : PyData, L2.atI [a, b, c] 2 = some c := fun _ _ _ => rfl
  have m1 : L2.CMul n (sx p.c) := .inl ⟨by omega, by omega⟩
  have m2 : L2.CMul n (sy p.c) := .inl ⟨by omega, by omega⟩
  simp [-primD, pl, e0, e1, e2, steps_at _ c1 c2, m1, m2, steppedM]
theorem b3 (A K P O N S6 S7 S8 : Slot) (r : List Slot) (q : Fl → Prop) (e : Ex → Env → Prop) (ss : CSs)
   (h : ∀ x y m : Int, (-4 ≤ x ∧ x ≤ 4) → (-4 ≤ y ∧ y ≤ 4) → (-4 ≤ m ∧ m ≤ 4) → evSs (callD T 8) ss (A :: .st :: K :: P :: O :: N :: .v (.int x) :: .v (.int y) :: .v (.int m) :: r) q e) :
   evSs (callD T 8) (.cons (.par [(6, false), (7, false), (8, false)] (.cons (.bin .sub (.call 15 (.cons (.stn 1) (.cons (.cst (.int 9)) .nil))) (.cst (.int 4))) (.cons (.bin .sub (.call 15 (.cons (.stn 1) (.cons (.cst (.int 9)) .nil))) (.cst (.int 4))) (.cons (.bin .sub (.call 15 (.cons (.stn 1) (.cons (.cst (.int 9)) .nil))) (.cst (.int 4))) .nil)))) ss) (A :: .st :: K :: P :: O :: N :: S6 :: S7 :: S8 :: r) q e := by
  simp [-primD, c_take]
  intro a ha b hb c hc
  exact h _ _ _ (by omega) (by omega) (by omega)
end Pv
set_option linter.all false
namespace Pv
open PySem
def R1 : CS := (.set 3 (.call 21 (.cons (.stn 1) (.cons (.bin .add (.cst (.int 1)) (.call 15 (.cons (.stn 1) (.cons (.cst (.int 6)) .nil)))) .nil))))
def R2 : CS := (.par [(4, false), (5, false)] (.cons (.idx (.nm 3) (.cst (.int 0))) (.cons (.call 15 (.cons (.stn 1) (.cons (.cst (.int 6)) .nil))) .nil)))
def R3 : CS := (.ifs (.or (.cmp .isn (.call 1 (.cons (.nm 3) .nil)) (.cst (.bool true))) (.or (.cmp .ne (.call 2 (.cons (.nm 4) (.cons (.nm 5) .nil))) (.call 16 (.cons (.nm 4) (.cons (.nm 5) .nil)))) (.cmp .ne (.call 2 (.cons (.nm 4) (.cons (.cst (.int 4)) .nil))) (.nm 4)))) (.cons (.ret (.cst (.bool false))) .nil) .nil)
def R4 : CS := (.par [(6, false), (7, false), (8, false)] (.cons (.bin .sub (.call 15 (.cons (.stn 1) (.cons (.cst (.int 9)) .nil))) (.cst (.int 4))) (.cons (.bin .sub (.call 15 (.cons (.stn 1) (.cons (.cst (.int 9)) .nil))) (.cst (.int 4))) (.cons (.bin .sub (.call 15 (.cons (.stn 1) (.cons (.cst (.int 9)) .nil))) (.cst (.int 4))) .nil))))
def R5 : CS := (.set 9 (.idx (.lst (.cons (.tup (.cons (.cst (.int 0)) (.cons (.cst (.int 1)) .nil))) (.cons (.tup (.cons (.cst (.int 1)) (.cons (.cst (.int 0)) .nil))) (.cons (.tup (.cons (.cst (.int 0)) (.cons (.neg (.cst (.int 1))) .nil))) (.cons (.tup (.cons (.neg (.cst (.int 1))) (.cons (.cst (.int 0)) .nil))) .nil))))) (.idx (.nm 4) (.cst (.int 2)))))
def R6 : CS := (.ifs (.or (.cmp .ne (.call 3 (.cons (.nm 4) (.cons (.nm 6) (.cons (.nm 7) .nil)))) (.tup (.cons (.bin .add (.idx (.nm 4) (.cst (.int 0))) (.nm 6)) (.cons (.bin .add (.idx (.nm 4) (.cst (.int 1))) (.nm 7)) (.cons (.idx (.nm 4) (.cst (.int 2))) .nil))))) (.cmp .ne (.call 5 (.cons (.nm 4) (.cons (.nm 8) .nil))) (.tup (.cons (.bin .add (.idx (.nm 4) (.cst (.int 0))) (.bin .mul (.nm 8) (.idx (.nm 9) (.cst (.int 0))))) (.cons (.bin .add (.idx (.nm 4) (.cst (.int 1))) (.bin .mul (.nm 8) (.idx (.nm 9) (.cst (.int 1))))) (.cons (.idx (.nm 4) (.cst (.int 2))) .nil)))))) (.cons (.ret (.cst (.bool false))) .nil) .nil)
def R7 : CS := (.ifs (.or (.cmp .ne (.call 6 (.cons (.nm 4) (.cons (.nm 5) .nil))) (.bin .add (.sl (.nm 4) (.cst .none) (.cst (.int 2))) (.tup (.cons (.bin .mod (.prim .int (.cons (.bin .add (.idx (.nm 4) (.cst (.int 2))) (.nm 5)) .nil)) (.cst (.int 4))) .nil)))) (.or (.cmp .ne (.call 4 (.cons (.nm 4) .nil)) (.tup (.cons (.bin .sub (.cst (.int 0)) (.idx (.nm 4) (.cst (.int 0)))) (.cons (.idx (.nm 4) (.cst (.int 1))) (.cons (.idx (.lst (.cons (.cst (.int 0)) (.cons (.cst (.int 3)) (.cons (.cst (.int 2)) (.cons (.cst (.int 1)) .nil))))) (.idx (.nm 4) (.cst (.int 2)))) .nil))))) (.cmp .ne (.call 4 (.cons (.call 4 (.cons (.nm 4) .nil)) .nil)) (.nm 4)))) (.cons (.ret (.cst (.bool false))) .nil) .nil)
def R8 : CS := (.ifs (.cmp .ne (.call 4 (.cons (.call 2 (.cons (.nm 4) (.cons (.cst (.int 1)) .nil))) .nil)) (.call 2 (.cons (.call 4 (.cons (.nm 4) .nil)) (.cons (.cst (.int 3)) .nil)))) (.cons (.ret (.cst (.bool false))) .nil) .nil)
def R9 : CS := (.ifs (.or (.cmp .ne (.call 7 (.cons (.nm 3) .nil)) (.call 17 (.cons (.nm 3) .nil))) (.or (.cmp .ne (.prim .lst (.cons (.call 8 (.cons (.nm 3) .nil)) .nil)) (.call 18 (.cons (.nm 3) .nil))) (.or (.cmp .ne (.call 9 (.cons (.nm 3) .nil)) (.call 19 (.cons (.nm 3) .nil))) (.cmp .ne (.call 10 (.cons (.nm 3) .nil)) (.call 20 (.cons (.nm 3) .nil)))))) (.cons (.ret (.cst (.bool false))) .nil) .nil)
def R10 : CS := (.set 10 (.comp (.nm 11) (.nm 11) (.rng (.cst (.int 4))) (.cmp .eq (.prim .tup (.cons (.prim .srt (.cons (.prim .lst (.cons (.idx (.call 18 (.cons (.nm 3) .nil)) (.nm 11)) .nil)) .nil)) .nil)) (.call 20 (.cons (.nm 3) .nil)))))
def R11 : CS := (.ifs (.or (.cmp .ne (.prim .lst (.cons (.call 11 (.cons (.nm 3) .nil)) .nil)) (.nm 10)) (.cmp .ne (.prim .len (.cons (.call 12 (.cons (.nm 3) .nil)) .nil)) (.prim .len (.cons (.nm 10) .nil)))) (.cons (.ret (.cst (.bool false))) .nil) .nil)
def R12 : CS := (.fors (.nm 11) (.rng (.prim .len (.cons (.nm 10) .nil))) Blaw_1 [11, 12, 13, 22])
def R13 : CS := (.set 14 (.idx (.call 18 (.cons (.nm 3) .nil)) (.call 15 (.cons (.stn 1) (.cons (.cst (.int 4)) .nil)))))
def R14 : CS := (.set 15 (.prim .tup (.cons (.comp (.tup (.cons (.bin .add (.nm 18) (.nm 6)) (.cons (.bin .add (.nm 19) (.nm 7)) (.cons (.nm 20) .nil)))) (.tp [18, 19, 20]) (.seq (.nm 14)) (.cst (.bool true))) .nil)))
def R15 : CS := (.set 16 (.call 21 (.cons (.stn 1) (.cons (.prim .len (.cons (.nm 3) .nil)) .nil))))
def R16 : CS := (.ifs (.or (.cmp .isn (.call 13 (.cons (.nm 3) (.cons (.nm 15) .nil))) (.cst (.bool true))) (.or (.cmp .ne (.call 9 (.cons (.nm 15) .nil)) (.call 9 (.cons (.nm 3) .nil))) (.cmp .ne (.call 13 (.cons (.nm 3) (.cons (.nm 16) .nil))) (.and (.cmp .eq (.prim .len (.cons (.nm 16) .nil)) (.prim .len (.cons (.nm 3) .nil))) (.cmp .eq (.call 19 (.cons (.nm 16) .nil)) (.call 19 (.cons (.nm 3) .nil))))))) (.cons (.ret (.cst (.bool false))) .nil) .nil)
def R17 : CS := (.ifs (.cmp .ne (.call 14 (.cons (.nm 3) .nil)) (.tup (.cons (.bin .add (.bin .sub (.prim .mx (.cons (.comp (.idx (.nm 4) (.cst (.int 0))) (.nm 4) (.seq (.nm 3)) (.cst (.bool true))) .nil)) (.prim .mn (.cons (.comp (.idx (.nm 4) (.cst (.int 0))) (.nm 4) (.seq (.nm 3)) (.cst (.bool true))) .nil))) (.cst (.int 1))) (.cons (.bin .add (.bin .sub (.prim .mx (.cons (.comp (.idx (.nm 4) (.cst (.int 1))) (.nm 4) (.seq (.nm 3)) (.cst (.bool true))) .nil)) (.prim .mn (.cons (.comp (.idx (.nm 4) (.cst (.int 1))) (.nm 4) (.seq (.nm 3)) (.cst (.bool true))) .nil))) (.cst (.int 1))) .nil)))) (.cons (.ret (.cst (.bool false))) .nil) .nil)
def R18 : CS := (.ifs (.and (.cmp .gt (.prim .len (.cons (.nm 3) .nil)) (.cst (.int 1))) (.cmp .isn (.call 1 (.cons (.bin .add (.nm 3) (.sl (.nm 3) (.cst .none) (.cst (.int 1)))) .nil)) (.cst (.bool false)))) (.cons (.ret (.cst (.bool false))) .nil) .nil)
theorem R_rows : Blaw_2 = .cons R1 (.cons R2 (.cons R3 (.cons R4 (.cons R5 (.cons R6 (.cons R7 (.cons R8 (.cons R9 (.cons R10 (.cons R11 (.cons R12 (.cons R13 (.cons R14 (.cons R15 (.cons R16 (.cons R17 (.cons R18 (.nil)))))))))))))))))) := rfl
def I1 : CS := (.par [(12, false), (13, false)] (.cons (.idx (.call 18 (.cons (.nm 3) .nil)) (.idx (.nm 10) (.nm 11))) (.cons (.idx (.call 12 (.cons (.nm 3) .nil)) (.nm 11)) .nil)))
def I2 : CS := (.ifs (.or (.cmp .ne (.prim .srt (.cons (.prim .lst (.cons (.nm 13) .nil)) .nil)) (.rng false (.prim .len (.cons (.nm 3) .nil)))) (.cmp .ne (.prim .tup (.cons (.comp (.idx (.nm 12) (.nm 22)) (.nm 22) (.seq (.nm 13)) (.cst (.bool true))) .nil)) (.call 20 (.cons (.nm 3) .nil)))) (.cons (.ret (.cst (.bool false))) .nil) .nil)
theorem I_rows : Blaw_1 = .cons I1 (.cons I2 (.nil)) := rfl
def L1 : CS := (.ifs (.cmp .ne (.tup (.cons (.gl 2 "FACINGS" (.tuple [(.str "north"), (.str "east"), (.str "south"), (.str "west")])) (.cons (.gl 1 "STEPS" (.tuple [(.tuple [(.int 0), (.int 1)]), (.tuple [(.int 1), (.int 0)]), (.tuple [(.int 0), (.int (-1))]), (.tuple [(.int (-1)), (.int 0)])])) (.cons (.gl 0 "MOST_PLACE" (.int 20)) .nil)))) (.tup (.cons (.tup (.cons (.cst (.str "north")) (.cons (.cst (.str "east")) (.cons (.cst (.str "south")) (.cons (.cst (.str "west")) .nil))))) (.cons (.tup (.cons (.tup (.cons (.cst (.int 0)) (.cons (.cst (.int 1)) .nil))) (.cons (.tup (.cons (.cst (.int 1)) (.cons (.cst (.int 0)) .nil))) (.cons (.tup (.cons (.cst (.int 0)) (.cons (.neg (.cst (.int 1))) .nil))) (.cons (.tup (.cons (.neg (.cst (.int 1))) (.cons (.cst (.int 0)) .nil))) .nil))))) (.cons (.cst (.int 20)) .nil))))) (.cons (.ret (.cst (.bool false))) .nil) .nil)
def L2 : CS := (.fors (.nm 2) (.rng (.cst (.int 6))) Blaw_2 [2, 3, 4, 5, 6, 7, 8, 9, 10, 11, 12, 13, 14, 15, 16, 18, 19, 20, 22])
def L3 : CS := (.set 17 (.lst (.cons (.tup (.cons (.cst (.int 0)) (.cons (.cst (.int 0)) (.cons (.cst (.int 4)) .nil)))) (.cons (.tup (.cons (.cst (.int 0)) (.cons (.cst (.int 0)) (.cons (.neg (.cst (.int 1))) .nil)))) (.cons (.tup (.cons (.cst (.int 21)) (.cons (.cst (.int 0)) (.cons (.cst (.int 0)) .nil)))) (.cons (.tup (.cons (.cst (.int 0)) (.cons (.cst (.int 0)) .nil))) (.cons (.tup (.cons (.cst (.int 0)) (.cons (.cst (.bool true)) (.cons (.cst (.int 0)) .nil)))) (.cons (.lst (.cons (.cst (.int 0)) (.cons (.cst (.int 0)) (.cons (.cst (.int 0)) .nil)))) (.cons (.cst .none) (.cons (.tup (.cons (.cst (.str "0")) (.cons (.cst (.int 0)) (.cons (.cst (.int 0)) .nil)))) (.cons (.tup (.cons (.cst (.int 0)) (.cons (.cst (.int 0)) (.cons (.cst (.int 0)) (.cons (.cst (.int 0)) .nil))))) .nil)))))))))))
def L4 : CS := (.ifs (.or (.cmp .gt (.prim .len (.cons (.comp (.nm 21) (.nm 21) (.seq (.nm 17)) (.cmp .isn (.call 0 (.cons (.nm 21) .nil)) (.cst (.bool false)))) .nil)) (.cst (.int 0))) (.cmp .isn (.call 0 (.cons (.tup (.cons (.neg (.cst (.int 20))) (.cons (.cst (.int 20)) (.cons (.cst (.int 3)) .nil)))) .nil)) (.cst (.bool true)))) (.cons (.ret (.cst (.bool false))) .nil) .nil)
def L5 : CS := (.set 17 (.lst (.cons (.tup .nil) (.cons (.lst (.cons (.tup (.cons (.cst (.int 0)) (.cons (.cst (.int 0)) (.cons (.cst (.int 0)) .nil)))) .nil)) (.cons (.tup (.cons (.tup (.cons (.cst (.int 0)) (.cons (.cst (.int 0)) (.cons (.cst (.int 0)) .nil)))) (.cons (.tup (.cons (.cst (.int 0)) (.cons (.cst (.int 0)) (.cons (.cst (.int 1)) .nil)))) .nil))) (.cons (.cst .none) (.cons (.tup (.cons (.tup (.cons (.cst (.int 0)) (.cons (.cst (.int 0)) (.cons (.cst (.int 4)) .nil)))) .nil)) (.cons (.prim .tup (.cons (.comp (.tup (.cons (.nm 11) (.cons (.cst (.int 0)) (.cons (.cst (.int 0)) .nil)))) (.nm 11) (.rng (.cst (.int 9))) (.cst (.bool true))) .nil)) .nil))))))))
def L6 : CS := (.ret (.and (.cmp .eq (.prim .len (.cons (.comp (.nm 21) (.nm 21) (.seq (.nm 17)) (.cmp .isn (.call 1 (.cons (.nm 21) .nil)) (.cst (.bool false)))) .nil)) (.cst (.int 0))) (.cmp .is_ (.call 1 (.cons (.prim .tup (.cons (.comp (.tup (.cons (.nm 11) (.cons (.cst (.int 0)) (.cons (.cst (.int 0)) .nil)))) (.nm 11) (.rng (.cst (.int 8))) (.cst (.bool true))) .nil)) .nil)) (.cst (.bool true)))))
theorem L_rows : lawB = .cons L1 (.cons L2 (.cons L3 (.cons L4 (.cons L5 (.cons L6 (.nil)))))) := rfl
end Pv
set_option linter.all false
set_option maxRecDepth 100000
set_option maxHeartbeats 4000000
namespace Pv
open PySem PySem.W
theorem at0 (a b c : PyData) : L2.atI [a, b, c] 0 = some a := rfl
theorem at1 (a b c : PyData) : L2.atI [a, b, c] 1 = some b := rfl
theorem at2 (a b c : PyData) : L2.atI [a, b, c] 2 = some c := rfl
theorem at20 (a b : PyData) : L2.atI [a, b] 0 = some a := rfl
theorem at21 (a b : PyData) : L2.atI [a, b] 1 = some b := rfl
theorem asS_pl (p : Pl) (k) : asS (pl p) k = k [.int p.a, .int p.b, .int p.c] := rfl
theorem asS_pls (l : List Pl) (k) : asS (pls l) k = k (l.map pl) := rfl
theorem tup_pl (a b c : Int) : PyData.tuple [.int a, .int b, .int c] = pl ⟨a, b, c⟩ := rfl
theorem cut_pl (p : Pl) (k) : cutD (pl p) none (some 2) k = k (.tuple [.int p.a, .int p.b]) := rfl
def ahd (c : Int) : PyData := .tuple [.int (sx c), .int (sy c)]
theorem asS_ahd (c : Int) (k) : asS (ahd c) k = k [.int (sx c), .int (sy c)] := rfl
theorem b5 (A K P N X Y M S : Slot) (r : List Slot) (q : Fl → Prop) (e : Ex → Env → Prop) (ss : CSs) (p : Pl) (D : DrP p)
   (h : evSs (callD T 8) ss (A :: .st :: K :: P :: .v (pl p) :: N :: X :: Y :: M :: .v (ahd p.c) :: r) q e) :
   evSs (callD T 8) (.cons R5 ss) (A :: .st :: K :: P :: .v (pl p) :: N :: X :: Y :: M :: S :: r) q e := by
  simp [-primD, R5, asS_pl, at2, steps_at _ D.2.2.1 D.2.2.2]
  exact h
theorem b6 (A K P N : Slot) (x y m : Int) (hm : -4 ≤ m ∧ m ≤ 4) (r : List Slot) (q : Fl → Prop) (e : Ex → Env → Prop) (ss : CSs) (p : Pl) (D : DrP p)
   (h : evSs (callD T 8) ss (A :: .st :: K :: P :: .v (pl p) :: N :: .v (.int x) :: .v (.int y) :: .v (.int m) :: .v (ahd p.c) :: r) q e) :
   evSs (callD T 8) (.cons R6 ss) (A :: .st :: K :: P :: .v (pl p) :: N :: .v (.int x) :: .v (.int y) :: .v (.int m) :: .v (ahd p.c) :: r) q e := by
  have c1 := fun q e => c_moved 7 p x y q e
  have c2 := fun q e => c_stepped 7 p D m (by omega) (by omega) q e
  have m1 : L2.CMul m (sx p.c) := .inl ⟨by omega, by omega⟩
  have m2 : L2.CMul m (sy p.c) := .inl ⟨by omega, by omega⟩
  simp [-primD, R6, c1, c2, asS_pl, asS_ahd, at0, at1, at2, at20, at21, m1, m2, tup_pl, fit_pl, eqv_pl, movedM, steppedM]
  exact h
theorem b7 (A K P : Slot) (n : Nat) (hn : n < 6) (r : List Slot) (q : Fl → Prop) (e : Ex → Env → Prop) (ss : CSs) (p : Pl) (D : DrP p)
   (h : evSs (callD T 8) ss (A :: .st :: K :: P :: .v (pl p) :: .v (.int n) :: r) q e) :
   evSs (callD T 8) (.cons R7 ss) (A :: .st :: K :: P :: .v (pl p) :: .v (.int n) :: r) q e := by
  have c1 := fun q e => c_faced 7 p n q e
  have c2 := fun p q e => c_mirrored 7 p q e
  simp [-primD, R7, c1, c2, asS_pl, cut_pl, at0, at1, at2, mir_at _ D.2.2.1 D.2.2.2, tup_pl, fit_pl, eqv_pl, facedM, mirroredM]
  have := mir2 p D
  simp [mirroredM] at this
  simp [this]
  exact ⟨by decide, h⟩
theorem b8 (A K P N : Slot) (r : List Slot) (q : Fl → Prop) (e : Ex → Env → Prop) (ss : CSs) (p : Pl) (D : DrP p)
   (h : evSs (callD T 8) ss (A :: .st :: K :: P :: .v (pl p) :: N :: r) q e) :
   evSs (callD T 8) (.cons R8 ss) (A :: .st :: K :: P :: .v (pl p) :: N :: r) q e := by
  have c1 : ∀ q e, callD T 8 2 [.v (pl p), .v (.int 1)] q e = q (pl (turnM 1 p)) [.v (pl p), .v (.int 1)] := fun q e => c_turned 7 p 1 (by omega) q e
  have c3 : ∀ p q e, callD T 8 2 [.v (pl p), .v (.int 3)] q e = q (pl (turnM 3 p)) [.v (pl p), .v (.int 3)] := fun p q e => c_turned 7 p 3 (by omega) q e
  have c2 := fun p q e => c_mirrored 7 p q e
  simp [-primD, R8, c1, c2, c3, fit_pl, eqv_pl, mirT p D]
  exact h
end Pv
set_option linter.all false
set_option maxRecDepth 100000
set_option maxHeartbeats 4000000
namespace Pv
open PySem PySem.W
def LT (l : List (List Pl)) : PyData := .list (l.map pls)
theorem LT_toD (l : List (List Pl)) : LT l = Datum.toD (l.map Tup.mk) := by
  show _ = PyData.list (List.map Datum.toD _)
  rw [List.map_map]
  rfl
theorem fit_LT (l : List (List Pl)) : fit (LT l) = true := by rw [LT_toD]; exact fit_datum _ (by decide)
theorem eqv_same {d : PyData} (h : d.eqv d = true) : d.eqv d = true := h
theorem eqv_LT (l : List (List Pl)) : PyData.eqv (LT l) (LT l) = true := by rw [LT_toD, Datum.eqv]; exact decide_eq_true rfl
theorem eqv_plsr (l : List Pl) : PyData.eqv (pls l) (pls l) = true := (Datum.eqv (Tup.mk l) (Tup.mk l)).trans (decide_eq_true rfl)
theorem eqv_tupr (l : Tup Pl) : PyData.eqv (Datum.toD l) (Datum.toD l) = true := (Datum.eqv l l).trans (decide_eq_true rfl)
theorem b9 (A K : Slot) (r : List Slot) (q : Fl → Prop) (e : Ex → Env → Prop) (ss : CSs) (l : List Pl) (ne : l ≠ [])
   (h : evSs (callD T 8) ss (A :: .st :: K :: .v (pls l) :: r) q e) :
   evSs (callD T 8) (.cons R9 ss) (A :: .st :: K :: .v (pls l) :: r) q e := by
  have c1 := fun q e => c_laid 6 l ne (pls l) (fun _ => rfl) q e
  have c2 := fun q e => c_llaid 7 l ne (pls l) (fun _ => rfl) q e
  have c3 := fun q e => c_allturns 5 l ne q e
  have c4 := fun q e => c_lturns 6 l ne q e
  have c5 := fun q e => c_least 4 l ne q e
  have c6 := fun q e => c_lleast 5 l ne q e
  have c7 := fun q e => c_bare 4 l ne q e
  have c8 := fun q e => c_lbare 5 l ne q e
  have f1 := fit_LT (turnsM l)
  have f2 := eqv_LT (turnsM l)
  rw [LT] at f1 f2
  simp [-primD, -List.map_map, R9, c1, c2, c3, c4, c5, c6, c7, c8, fit_pls, eqv_plsr, fit_tup, eqv_tupr, f1, f2]
  exact h
def NL (l : List Nat) : PyData := .list (l.map fun k : Nat => .int (k : Int))
theorem b10 (A K B1 B2 B3 B4 B5 B6 S B7 : Slot) (r : List Slot) (q : Fl → Prop) (e : Ex → Env → Prop) (ss : CSs) (l : List Pl) (ne : l ≠ [])
   (h : evSs (callD T 8) ss (A :: .st :: K :: .v (pls l) :: B1 :: B2 :: B3 :: B4 :: B5 :: B6 :: .v (NL (goodM l)) :: B7 :: r) q e) :
   evSs (callD T 8) (.cons R10 ss) (A :: .st :: K :: .v (pls l) :: B1 :: B2 :: B3 :: B4 :: B5 :: B6 :: S :: B7 :: r) q e := by
  have c4 := fun q e => c_lturns 6 l ne q e
  have c8 := fun q e => c_lbare 5 l ne q e
  simp [-primD, -List.map_map, R10, Pv.range]
  refine (cf (fun k : Nat => .int (k : Int)) (fun k : Nat => .int (k : Int)) (fun k => decide (Tup.mk (sortM (laidM (l.map (turnM k)))) = bareM l)) ?_).mpr ?_
  · intro k hk K
    have hk := List.mem_range.mp hk
    simp only [c4, c8, pr_lst, pr_srt, pr_tup, asS_l, asI_i, turnsM_at l hk, asO_s]
    rw [pls]
    simp only [asS_t, asS_l, st_pl, pr_lst, pr_srt, pr_tup]
    rw [show PyData.tuple ((sortM (laidM (l.map (turnM k)))).map pl) = pls (sortM (laidM (l.map (turnM k)))) from rfl]
    simp [fit_pls, fit_tup, eqv_pls]
  · exact h
end Pv
set_option linter.all false
set_option maxRecDepth 100000
set_option maxHeartbeats 4000000
namespace Pv
open PySem PySem.W
theorem NL_toD (l : List Nat) : NL l = Datum.toD (l.map fun k : Nat => (k : Int)) := by
  show _ = PyData.list (List.map Datum.toD _)
  rw [List.map_map]
  rfl
theorem fit_NL (l : List Nat) : fit (NL l) = true := by rw [NL_toD]; exact fit_datum _ (by decide)
theorem eqv_NL (l : List Nat) : PyData.eqv (NL l) (NL l) = true := by rw [NL_toD, Datum.eqv]; exact decide_eq_true rfl
theorem atI_nat {α : Type} (xs : List α) (k : Nat) (h : k < xs.length) : L2.atI xs (k : Int) = some xs[k] := by
  have : (k : Int) < xs.length := by omega
  simp [L2.atI, L2.ixN, this, h]
theorem b11 (A K B1 B2 B3 B4 B5 B6 : Slot) (r : List Slot) (q : Fl → Prop) (e : Ex → Env → Prop) (ss : CSs) (l : List Pl) (ne : l ≠ []) (n : l.length ≤ 1000)
   (h : evSs (callD T 8) ss (A :: .st :: K :: .v (pls l) :: B1 :: B2 :: B3 :: B4 :: B5 :: B6 :: .v (NL (goodM l)) :: r) q e) :
   evSs (callD T 8) (.cons R11 ss) (A :: .st :: K :: .v (pls l) :: B1 :: B2 :: B3 :: B4 :: B5 :: B6 :: .v (NL (goodM l)) :: r) q e := by
  have c1 := fun q e => c_ttb 3 l ne q e
  have c2 := fun q e => c_orders 2 l ne n q e
  have f1 := fit_NL (goodM l)
  have f2 := eqv_NL (goodM l)
  have f3 : ∀ n : Nat, fit (.int n) = true := fun _ => rfl
  have f4 : ∀ n : Int, PyData.eqv (.int n) (.int n) = true := fun n => by rw [PyData.eqv]; simp
  unfold NL at *
  simp [-primD, -List.map_map, R11, c1, c2, f1, f2, f3, f4, ordersM]
  exact h
theorem inner (A K B1 B2 B3 B4 B5 B6 C3 C4 C5 C6 C7 C8 C9 C0 : Slot) (q : Fl → Prop) (e : Ex → Env → Prop) (l : List Pl) (ne : l ≠ []) (n : l.length ≤ 1000) (k : Nat) (hk : k < (goodM l).length)
   (h : ∀ S12 S13, q (.nx [A, .st, K, .v (pls l), B1, B2, B3, B4, B5, B6, .v (NL (goodM l)), .v (.int k), S12, S13, C3, C4, C5, C6, C7, C8, C9, C0, .un])) :
   evSs (callD T 8) Blaw_1 [A, .st, K, .v (pls l), B1, B2, B3, B4, B5, B6, .v (NL (goodM l)), .v (.int k), .un, .un, C3, C4, C5, C6, C7, C8, C9, C0, .un] q e := by
  have c1 := fun q e => c_lturns 6 l ne q e
  have c2 := fun q e => c_orders 2 l ne n q e
  have c3 := fun q e => c_lbare 5 l ne q e
  have hg : (goodM l)[k] ∈ goodM l := List.getElem_mem hk
  have a1 : L2.atI ((goodM l).map fun k : Nat => PyData.int (k : Int)) (k : Int) = some (.int (goodM l)[k]) := by rw [atI_nat _ _ (by simpa using hk)]; simp
  have a2 := turnsM_at l (goodM_lt l _ hg)
  have a3 : L2.atI ((ordersM l).map ords) (k : Int) = some (ords (asortN (laidM (l.map (turnM (goodM l)[k]))))) := by rw [atI_nat _ _ (by simpa [ordersM] using hk)]; simp [ordersM]
  generalize hm : laidM (l.map (turnM (goodM l)[k])) = m at *
  have ml : m.length = l.length := by rw [← hm, turnM_len]
  have bm : Tup.mk (sortM m) = bareM l := by
    have := (List.mem_filter.mp hg).2
    rw [← hm]
    exact of_decide_eq_true this
  have s1 := sort_ints (asortN m) m.length (asortN_perm m)
  have s2 : stD ((asortN m).map fun k : Nat => PyData.int (k : Int)) = fun p => p (.list (Pv.range 0 m.length)) := by
    funext p
    refine propext ?_
    unfold stD
    rw [s1]
    refine and_iff_right ⟨?_, Sortable.others fun b => ⟨by simp, by simp⟩⟩
    have := ordOk_map ((asortN m).map fun k : Nat => (k : Int)) (by decide)
    rw [List.map_map] at this
    exact this
  rw [I_rows]
  simp only [NL] at h ⊢
  simp [-primD, -List.map_map, I1, I2, c1, c2, c3, a1, a2, a3, ords, s2]
  have e6 : ∀ k, lenD (pls l) k = k l.length := fun k => by simp [pls]
  have rd : ∀ n : Nat, PyData.list (Pv.range 0 n) = Datum.toD ((List.range n).map fun k : Nat => (0 + k : Int)) := fun n => by
    show _ = PyData.list (List.map Datum.toD _)
    rw [List.map_map]
    rfl
  have fr : ∀ n : Nat, fit (PyData.list (Pv.range 0 n)) = true := fun n => by rw [rd]; exact fit_datum _ (by decide)
  have er : ∀ n : Nat, PyData.eqv (PyData.list (Pv.range 0 n)) (PyData.list (Pv.range 0 n)) = true := fun n => by rw [rd, Datum.eqv]; exact decide_eq_true rfl
  rw [e6]
  refine ⟨by omega, ⟨fr _, fr _⟩, ?_⟩
  rw [ml, if_pos (er _)]
  refine (cm (fun k : Nat => .int (k : Int)) (fun k => pl (m.getD k ⟨0, 0, 0⟩)) ?_).mpr ?_
  · intro k hk K
    have hk : k < m.length := List.mem_range.mp ((asortN_perm m).mem_iff.mp hk)
    simp only [asS_pls, asI_i]
    rw [atI_nat _ _ (by simpa using hk)]
    simp [hk]
  · have : PyData.tuple ((asortN m).map fun k => pl (m.getD k ⟨0, 0, 0⟩)) = pls (sortM m) := by
      rw [← asortN_row, pls, List.map_map]
      rfl
    rw [this, eqv_pls, if_pos (decide_eq_true bm)]
    exact ⟨⟨fit_pls _, fit_tup _⟩, h _ _⟩
end Pv
set_option linter.all false
set_option maxRecDepth 100000
set_option maxHeartbeats 4000000
namespace Pv
open PySem PySem.W
theorem b13 (A K B1 B2 B3 B4 B5 B6 B7 B8 B9 B0 S : Slot) (r : List Slot) (q : Fl → Prop) (e : Ex → Env → Prop) (ss : CSs) (l : List Pl) (ne : l ≠ [])
   (h : ∀ j : Nat, j < 4 → evSs (callD T 8) ss (A :: .st :: K :: .v (pls l) :: B1 :: B2 :: B3 :: B4 :: B5 :: B6 :: B7 :: B8 :: B9 :: B0 :: .v (pls (laidM (l.map (turnM j)))) :: r) q e) :
   evSs (callD T 8) (.cons R13 ss) (A :: .st :: K :: .v (pls l) :: B1 :: B2 :: B3 :: B4 :: B5 :: B6 :: B7 :: B8 :: B9 :: B0 :: S :: r) q e := by
  have c1 := fun q e => c_lturns 6 l ne q e
  simp [-primD, -List.map_map, R13, c1, c_take]
  intro j hj
  have hj' : j < 4 := by omega
  rw [turnsM_at l hj']
  exact h j hj'
theorem b14 (A K P B1 B2 B4 B5 B6 B7 B8 B9 S C6 C7 C8 C9 C0 : Slot) (x y : Int) (r : List Slot) (q : Fl → Prop) (e : Ex → Env → Prop) (ss : CSs) (m : List Pl)
   (h : evSs (callD T 8) ss (A :: .st :: K :: P :: B1 :: B2 :: .v (.int x) :: .v (.int y) :: B4 :: B5 :: B6 :: B7 :: B8 :: B9 :: .v (pls m) :: .v (pls (shM x y m)) :: C6 :: C7 :: C8 :: C9 :: C0 :: r) q e) :
   evSs (callD T 8) (.cons R14 ss) (A :: .st :: K :: P :: B1 :: B2 :: .v (.int x) :: .v (.int y) :: B4 :: B5 :: B6 :: B7 :: B8 :: B9 :: .v (pls m) :: S :: C6 :: C7 :: C8 :: C9 :: C0 :: r) q e := by
  simp [-primD, -List.map_map, R14, asS_pls]
  refine (cm pl (fun p => pl ⟨p.a + x, p.b + y, p.c⟩) ?_).mpr ?_
  · intro p _ k
    simp [pl]
  have : shM x y m = m.map fun p => ⟨p.a + x, p.b + y, p.c⟩ := rfl
  rw [this] at h
  unfold pls at h ⊢
  rw [List.map_map] at h
  exact h
theorem b15 (A K B1 B2 B3 B4 B5 B6 B7 B8 B9 B0 B14 B15 S : Slot) (r : List Slot) (q : Fl → Prop) (e : Ex → Env → Prop) (ss : CSs) (l : List Pl) (ne : l ≠ []) (n : l.length ≤ 6)
   (h : ∀ l' : List Pl, DrL l.length l' → l' ≠ [] → evSs (callD T 8) ss (A :: .st :: K :: .v (pls l) :: B1 :: B2 :: B3 :: B4 :: B5 :: B6 :: B7 :: B8 :: B9 :: B0 :: B14 :: B15 :: .v (pls l') :: r) q e) :
   evSs (callD T 8) (.cons R15 ss) (A :: .st :: K :: .v (pls l) :: B1 :: B2 :: B3 :: B4 :: B5 :: B6 :: B7 :: B8 :: B9 :: B0 :: B14 :: B15 :: S :: r) q e := by
  have := List.length_pos_iff.mpr ne
  have e1 : (l.map pl).length = l.length := by simp
  simp only [R15, evSs, evS, evE, evEs, evAr, pr_len, slotV_v, slotS_s, List.getElem?_cons_succ, List.getElem?_cons_zero]
  rw [pls]
  simp only [lenD_t, e1]
  refine c_places 6 _ (by omega) (by omega) _ _ fun l' D ne' => ?_
  exact h l' D ne'
theorem b16 (A K B1 B2 B3 B4 B5 B6 B7 B8 B9 B0 B14 : Slot) (r : List Slot) (q : Fl → Prop) (e : Ex → Env → Prop) (ss : CSs) (l s l' : List Pl) (ne : l ≠ []) (ne1 : s ≠ []) (ne2 : l' ≠ []) (hl : s.length = l.length) (hs : leastM s = leastM l)
   (h : evSs (callD T 8) ss (A :: .st :: K :: .v (pls l) :: B1 :: B2 :: B3 :: B4 :: B5 :: B6 :: B7 :: B8 :: B9 :: B0 :: B14 :: .v (pls s) :: .v (pls l') :: r) q e) :
   evSs (callD T 8) (.cons R16 ss) (A :: .st :: K :: .v (pls l) :: B1 :: B2 :: B3 :: B4 :: B5 :: B6 :: B7 :: B8 :: B9 :: B0 :: B14 :: .v (pls s) :: .v (pls l') :: r) q e := by
  have c1 := fun q e => c_alike 3 l s ne ne1 q e
  have c2 := fun q e => c_alike 3 l l' ne ne2 q e
  have c3 := fun q e => c_least 4 l ne q e
  have c4 := fun q e => c_least 4 s ne1 q e
  have c5 := fun q e => c_lleast 5 l ne q e
  have c6 := fun q e => c_lleast 5 l' ne2 q e
  have f3 : ∀ n : Nat, fit (.int n) = true := fun _ => rfl
  have f5 : ∀ b : Bool, fit (.bool b) = true := fun _ => rfl
  have f4 : ∀ b : Bool, PyData.eqv (.bool b) (.bool b) = true := fun n => by rw [PyData.eqv]; simp
  have f6 : ∀ l : List Pl, lenD (pls l) = fun k => k l.length := fun l => by funext k; simp [pls]
  have f7 : ∀ n m : Nat, PyData.eqv (.int n) (.int m) = decide (n = m) := fun n m => by
    rw [PyData.eqv]
    exact (beq_decide _ _).trans (by simp [Int.ofNat_inj])
  simp [-primD, R16, c1, c2, c3, c4, c5, c6, hl, hs, fit_tup, eqv_tup, eqv_tupr, f3, f5, f6, f7]
  by_cases h1 : l'.length = l.length
  · rw [if_pos h1]
    have : PyData.eqv (PyData.bool (decide (l.length = l'.length) && decide (leastM l = leastM l'))) (PyData.bool (decide (leastM l' = leastM l))) = true := by
      rw [decide_eq_true h1.symm, Bool.true_and, decide_eq_decide.mpr (eq_comm (a := leastM l))]
      exact f4 _
    rw [if_pos this]
    exact h
  · rw [if_neg h1]
    have : PyData.eqv (PyData.bool (decide (l.length = l'.length) && decide (leastM l = leastM l'))) (PyData.bool false) = true := by
      rw [decide_eq_false (Ne.symm h1), Bool.false_and]
      exact f4 _
    rw [if_pos this]
    exact h
end Pv
set_option linter.all false
set_option maxRecDepth 100000
set_option maxHeartbeats 4000000
namespace Pv
open PySem PySem.W
theorem b17 (A K B1 : Slot) (r : List Slot) (q : Fl → Prop) (e : Ex → Env → Prop) (ss : CSs) (l : List Pl) (ne : l ≠ [])
   (h : evSs (callD T 8) ss (A :: .st :: K :: .v (pls l) :: B1 :: r) q e) :
   evSs (callD T 8) (.cons R17 ss) (A :: .st :: K :: .v (pls l) :: B1 :: r) q e := by
  have c1 := fun q e => c_wide 5 l ne q e
  obtain ⟨w1, w2⟩ := wide_eq l ne
  have f1 : ∀ a b : Int, fit (.tuple [.int a, .int b]) = true := fun a b => fit_datum (a, b) (by decide)
  have f2 : ∀ a b : Int, PyData.eqv (.tuple [.int a, .int b]) (.tuple [.int a, .int b]) = true := fun a b => (Datum.eqv (a, b) (a, b)).trans (decide_eq_true rfl)
  have ga : ∀ p : List PyData → Prop, cmpF (fun a k => asS a fun xs => asO (L2.atI xs 0) fun d => k [d]) (l.map pl) p ↔ p (l.map fun p => .int p.a) := fun p => cm pl (fun p => .int p.a) fun p _ k => by simp [asS_pl, at0]
  have gb : ∀ p : List PyData → Prop, cmpF (fun a k => asS a fun xs => asO (L2.atI xs 1) fun d => k [d]) (l.map pl) p ↔ p (l.map fun p => .int p.b) := fun p => cm pl (fun p => .int p.b) fun p _ k => by simp [asS_pl, at1]
  simp [-primD, R17, c1, asS_pls]
  refine (ga _).mpr ?_
  rw [mx_map _ l ne]
  refine (ga _).mpr ?_
  rw [mn_map _ l ne]
  simp only [opD_sub, opD_add]
  refine (gb _).mpr ?_
  rw [mx_map _ l ne]
  refine (gb _).mpr ?_
  rw [mn_map _ l ne]
  simp only [opD_sub, opD_add]
  rw [w1, w2, if_pos (f2 _ _)]
  exact ⟨⟨f1 _ _, f1 _ _⟩, h⟩
end Pv
set_option linter.all false
set_option maxRecDepth 100000
set_option maxHeartbeats 4000000
namespace Pv
open PySem PySem.W
theorem b12 (A K B1 B2 B3 B4 B5 B6 C3 C4 C5 C6 C7 C8 C9 C0 : Slot) (q : Fl → Prop) (e : Ex → Env → Prop) (ss : CSs) (l : List Pl) (ne : l ≠ []) (n : l.length ≤ 1000)
   (h : evSs (callD T 8) ss [A, .st, K, .v (pls l), B1, B2, B3, B4, B5, B6, .v (NL (goodM l)), .un, .un, .un, C3, C4, C5, C6, C7, C8, C9, C0, .un] q e) :
   evSs (callD T 8) (.cons R12 ss) [A, .st, K, .v (pls l), B1, B2, B3, B4, B5, B6, .v (NL (goodM l)), .un, .un, .un, C3, C4, C5, C6, C7, C8, C9, C0, .un] q e := by
  have g : ∀ (ks : List Nat) (hk : ∀ k ∈ ks, k < (goodM l).length) (q' : Fl → Prop), q' (.nx [A, .st, K, .v (pls l), B1, B2, B3, B4, B5, B6, .v (NL (goodM l)), .un, .un, .un, C3, C4, C5, C6, C7, C8, C9, C0, .un]) →
      forL (.nm 11) [11, 12, 13, 22] (fun ρ1 q => evSs (callD T 8) Blaw_1 ρ1 q e) (ks.map fun k : Nat => .int (0 + (k : Int))) [A, .st, K, .v (pls l), B1, B2, B3, B4, B5, B6, .v (NL (goodM l)), .un, .un, .un, C3, C4, C5, C6, C7, C8, C9, C0, .un] q' := by
    intro ks
    induction ks with
    | nil => intro _ q' h; exact h
    | cons k ks ih =>
      intro hk q' h
      rw [List.map_cons, forL]
      simp only [setTg, List.set_cons_succ, List.set_cons_zero, Int.zero_add]
      refine inner A K B1 B2 B3 B4 B5 B6 C3 C4 C5 C6 C7 C8 C9 C0 _ e l ne n k (hk k List.mem_cons_self) fun S12 S13 => ?_
      simp only [turnK_n, wipeE, List.set_cons_succ, List.set_cons_zero]
      have := ih (fun k h => hk k (List.mem_cons_of_mem _ h)) q' h
      simpa only [Int.zero_add] using this
  have gl := goodM_len l
  have e1 : lenD (NL (goodM l)) = fun k => k (goodM l).length := by funext k; simp [NL]
  have L : (LIM : Int) = 1000000 := rfl
  simp only [R12, evSs, evS, evI, evE, evEs, pr_len, slotV_v, List.getElem?_cons_succ, List.getElem?_cons_zero, e1, asI_i]
  refine ⟨⟨by omega, by omega⟩, ?_⟩
  rw [Int.toNat_natCast, Pv.range]
  exact g _ (fun k h => List.mem_range.mp h) _ h
theorem b18 (A K : Slot) (r : List Slot) (q : Fl → Prop) (e : Ex → Env → Prop) (ss : CSs) (l : List Pl) (D : DrL 6 l) (ne : l ≠ [])
   (h : evSs (callD T 8) ss (A :: .st :: K :: .v (pls l) :: r) q e) :
   evSs (callD T 8) (.cons R18 ss) (A :: .st :: K :: .v (pls l) :: r) q e := by
  obtain ⟨p, t, rfl⟩ : ∃ p t, l = p :: t := by
    cases l with
    | nil => exact absurd rfl ne
    | cons p t => exact ⟨p, t, rfl⟩
  have hl : (p :: t).length ≤ 6 := by have := D.1; omega
  have c1 := fun q e => c_arepl 6 (p :: t ++ [p]) (by simp) (by simp at hl ⊢; omega) (fun x hx => (D.2.1 x (by rcases List.mem_append.mp hx with hx | hx; exact hx; rw [List.mem_singleton.mp hx]; exact List.mem_cons_self)).ok) q e
  have ns : ¬ Spots (p :: t ++ [p]) := by
    intro hh
    unfold Spots at hh
    simp at hh
  have cut : ∀ k, cutD (pls (p :: t)) none (some 1) k = k (.tuple [pl p]) := fun k => by
    have e : cutG (pl p :: t.map pl) none (some 1) = [pl p] := by
      have := HT.sIx_nat (pl p :: t.map pl).length (pl p :: t.map pl).length 1
      simp only [cutG, HT.sIx_none]
      rw [show (1 : Int) = ((1 : Nat) : Int) from rfl, this]
      simp
    rw [pls, List.map_cons, cutD_t, e]
  have e6 : lenD (pls (p :: t)) = fun k => k (t.length + 1) := by funext k; simp [pls]
  have ad : ∀ k, opD .add (pls (p :: t)) (.tuple [pl p]) k = ((t.length + 1 + 1 ≤ LIM) ∧ k (pls (p :: t ++ [p]))) := fun k => by simp [pls]
  have L : LIM = 1000000 := rfl
  simp [-primD, -List.cons_append, R18, e6, cut, ad, c1, ns]
  split
  · have hl' : t.length + 1 ≤ 6 := hl
    refine ⟨by omega, ?_⟩
    rw [show p :: (t ++ [p]) = p :: t ++ [p] from rfl, c1, decide_eq_false ns]
    exact h
  · exact h
theorem step (C17 C21 : Slot) (k : PyData) (q : Fl → Prop) (e : Ex → Env → Prop)
   (h : ∀ S3 S4 S5 S6 S7 S8 S9 S10 S14 S15 S16, q (.nx [.un, .st, .v k, S3, S4, S5, S6, S7, S8, S9, S10, .un, .un, .un, S14, S15, S16, C17, .un, .un, .un, C21, .un])) :
   evSs (callD T 8) Blaw_2 [.un, .st, .v k, .un, .un, .un, .un, .un, .un, .un, .un, .un, .un, .un, .un, .un, .un, C17, .un, .un, .un, C21, .un] q e := by
  rw [R_rows]
  refine step_places _ _ q e _ _ (fun l D ne => ?_) _
  obtain ⟨p, t, rfl⟩ : ∃ p t, l = p :: t := by
    cases l with
    | nil => exact absurd rfl ne
    | cons p t => exact ⟨p, t, rfl⟩
  have hl : (p :: t).length ≤ 6 := by have := D.1; omega
  have dp := D.2.1 p List.mem_cons_self
  refine b1 _ _ _ _ _ q e _ p t fun n hn => ?_
  refine b2 _ _ n hn _ q e _ p t D ?_
  refine b3 _ _ _ _ _ _ _ _ _ q e _ fun x y m hx hy hm => ?_
  refine b5 _ _ _ _ _ _ _ _ _ q e _ p dp ?_
  refine b6 _ _ _ _ x y m hm _ q e _ p dp ?_
  refine b7 _ _ _ n hn _ q e _ p dp ?_
  refine b8 _ _ _ _ _ q e _ p dp ?_
  refine b9 _ _ _ q e _ _ ne ?_
  refine b10 _ _ _ _ _ _ _ _ _ _ _ q e _ _ ne ?_
  refine b11 _ _ _ _ _ _ _ _ _ q e _ _ ne (by omega) ?_
  refine b12 _ _ _ _ _ _ _ _ _ _ _ _ _ _ _ _ q e _ _ ne (by omega) ?_
  refine b13 _ _ _ _ _ _ _ _ _ _ _ _ _ _ q e _ _ ne fun j hj => ?_
  refine b14 _ _ _ _ _ _ _ _ _ _ _ _ _ _ _ _ _ x y _ q e _ _ ?_
  refine b15 _ _ _ _ _ _ _ _ _ _ _ _ _ _ _ _ q e _ _ ne hl fun l' D' ne' => ?_
  refine b16 _ _ _ _ _ _ _ _ _ _ _ _ _ _ q e _ _ _ l' ne ?_ ne' ?_ (least_sh (p :: t) ne D.2.1 j hj x y) ?_
  · simp [shM, laidM]
  · simp [shM, laidM]
  refine b17 _ _ _ _ q e _ _ ne ?_
  refine b18 _ _ _ q e _ _ D ne ?_
  exact h _ _ _ _ _ _ _ _ _ _ _
end Pv
set_option linter.all false
set_option maxRecDepth 100000
set_option maxHeartbeats 4000000
namespace Pv
open PySem PySem.W
def lawD : Nat := 8
def env0 : Env := [.un, .st, .un, .un, .un, .un, .un, .un, .un, .un, .un, .un, .un, .un, .un, .un, .un, .un, .un, .un, .un, .un, .un]
theorem turns_loop (e : Ex → Env → Prop) : ∀ (ks : List PyData) (q : Fl → Prop), q (.nx env0) →
   forL (.nm 2) [2, 3, 4, 5, 6, 7, 8, 9, 10, 11, 12, 13, 14, 15, 16, 18, 19, 20, 22] (fun ρ1 q => evSs (callD T 8) Blaw_2 ρ1 q e) ks env0 q := by
  intro ks
  induction ks with
  | nil => intro q h; exact h
  | cons k ks ih =>
    intro q h
    rw [forL]
    simp only [env0, setTg, List.set_cons_succ, List.set_cons_zero]
    refine step _ _ k _ e fun S3 S4 S5 S6 S7 S8 S9 S10 S14 S15 S16 => ?_
    simp only [turnK_n, wipeE, List.set_cons_succ, List.set_cons_zero]
    exact ih q h
theorem l1 (ss : CSs) (q e) (h : evSs (callD T 8) ss env0 q e) : evSs (callD T 8) (.cons L1 ss) env0 q e := by
  have f : ∀ d : PyData, d = .tuple [.tuple [.str "north", .str "east", .str "south", .str "west"], .tuple [.tuple [.int 0, .int 1], .tuple [.int 1, .int 0], .tuple [.int 0, .int (-1)], .tuple [.int (-1), .int 0]], .int 20] → fit d = true ∧ PyData.eqv d d = true := by
    rintro d rfl
    exact ⟨by decide, by decide⟩
  obtain ⟨f1, f2⟩ := f _ rfl
  simp [-primD, L1, f1, f2]
  exact h
def odds1 : List PyData := [PyData.tuple [.int 0, .int 0, .int 4], .tuple [.int 0, .int 0, .int (-1)], .tuple [.int 21, .int 0, .int 0], .tuple [.int 0, .int 0], .tuple [.int 0, .bool true, .int 0], .list [.int 0, .int 0, .int 0], .none, .tuple [.str "0", .int 0, .int 0], .tuple [.int 0, .int 0, .int 0, .int 0]]
def odds2 : List PyData := [PyData.tuple [], .list [.tuple [.int 0, .int 0, .int 0]], .tuple [.tuple [.int 0, .int 0, .int 0], .tuple [.int 0, .int 0, .int 1]], .none, .tuple [.tuple [.int 0, .int 0, .int 4]], .tuple ((List.range 9).map fun k : Nat => pl ⟨k, 0, 0⟩)]
def env1 (v : PyData) : Env := [.un, .st, .un, .un, .un, .un, .un, .un, .un, .un, .un, .un, .un, .un, .un, .un, .un, .v v, .un, .un, .un, .un, .un]
theorem cmpF_none {F : PyData → (List PyData → Prop) → Prop} : ∀ {l : List PyData}, (∀ a ∈ l, ∀ k, F a k = k []) → ∀ p, cmpF F l p = p []
  | [], _, p => rfl
  | a :: l, h, p => by
    rw [cmpF, h a List.mem_cons_self, cmpF_none (l := l) fun b hb => h b (List.mem_cons_of_mem _ hb)]
    rfl
theorem l3 (ss : CSs) (q e) (h : evSs (callD T 8) ss (env1 (.list odds1)) q e) : evSs (callD T 8) (.cons L3 ss) env0 q e := by
  simp [-primD, L3, env0]
  exact h
theorem l4 (ss : CSs) (q e) (h : evSs (callD T 8) ss (env1 (.list odds1)) q e) : evSs (callD T 8) (.cons L4 ss) (env1 (.list odds1)) q e := by
  have c1 := fun q e => c_isplace 7 ⟨-20, 20, 3⟩ (by decide) q e
  rw [pl] at c1
  simp [-primD, L4, env1]
  rw [cmpF_none fun a ha k => by rw [odd1 7 _ _ a ha]; simp]
  simp [-primD, c1]
  exact h
theorem l5 (ss : CSs) (q e) (v) (h : evSs (callD T 8) ss (env1 (.list odds2)) q e) : evSs (callD T 8) (.cons L5 ss) (env1 v) q e := by
  simp [-primD, L5, env1, Pv.range]
  refine (cm (fun k : Nat => .int (k : Int)) (fun k => pl ⟨k, 0, 0⟩) ?_).mpr ?_
  · intro k _ K
    simp [pl]
  · exact h
theorem l6 (q e) (h : ∀ ρ, q (.rt (.bool true) ρ)) : evSs (callD T 8) (.cons L6 .nil) (env1 (.list odds2)) q e := by
  have c1 := fun q e => c_arepl 6 ((List.range 8).map fun k : Nat => ⟨k, 0, 0⟩) (by decide) (by decide) (by decide) q e
  simp [-primD, L6, env1, Pv.range]
  rw [cmpF_none fun a ha k => by rw [odd2 6 _ _ a ha]; simp]
  have f3 : ∀ n : Nat, fit (.int n) = true := fun _ => rfl
  simp [-primD]
  rw [if_pos (by decide)]
  refine ⟨rfl, ?_⟩
  refine (cm (fun k : Nat => .int (k : Int)) (fun k => pl ⟨k, 0, 0⟩) ?_).mpr ?_
  · intro k _ K
    simp [pl]
  have c2 : callD T 8 1 [Slot.v (PyData.tuple (List.map (fun k : Nat => pl ⟨k, 0, 0⟩) (List.range 8)))] = callD T (6 + 2) 1 [.v (pls ((List.range 8).map fun k : Nat => ⟨k, 0, 0⟩))] := by
    rw [pls, List.map_map]
    rfl
  rw [c2, c1]
  exact h _
theorem lawEv : evSs (callD T lawD) lawB (.un :: .st :: List.replicate (lawN.length - 2) .un) (endF 1 fun d _ => d = .bool true) (fun _ _ => False) := by
  show evSs (callD T 8) lawB env0 _ _
  rw [L_rows]
  refine l1 _ _ _ ?_
  rw [evSs]
  simp only [L2, evS, evI, evE, asI_i]
  refine ⟨by decide, ?_⟩
  refine turns_loop _ _ _ ?_
  rw [seqK_n]
  refine l3 _ _ _ ?_
  refine l4 _ _ _ ?_
  refine l5 _ _ _ _ ?_
  refine l6 _ _ fun ρ => ?_
  rfl
end Pv
set_option Elab.async false
set_option linter.all false
set_option maxRecDepth 100000
set_option maxHeartbeats 0
namespace Pv
open PySem PySem.Spec L2
theorem noCX {P : Program} {w : World} {l : List PySem.Env} {H : Hp} {s : Shared} {e : Value} {s' : Shared} (h : L2.CX P w l H s (fun _ _ _ => False) e s') : False := by
  obtain ⟨_, _, _, _, _, _, _, _, _, _, _, _, z⟩ := h
  exact z
theorem cons_ht {α : Type} (d : α) : ∀ l : List α, l.isEmpty = false → l = l.headD d :: l.tail
  | [], h => by cases h
  | _ :: _, _ => rfl
theorem law_at {w : World} {K : PySem.W.Frag} {h : Heap} {mg : Str → Option Value} {fa : Addr} (X : K.In h) (G : h.Ns mainGlobals mg) (hfa : mg "law" = some (.ref fa)) (c : He.SaysX hdFa hdFn [] hdTf (exC cs) w h K) :
    LamX.LawAtS PySem.Challenge.rw_callswright_k01_whole_places_turned w K (L2.CX prog0 w) (lawD + 2) 63 "script" mg fa h := by
  obtain ⟨fd, F, b, bA⟩ := fd_law c
  obtain ⟨fds, Fs, bs, _⟩ := fd__law_state c
  have e := hfa.symm.trans (gl_law X G c)
  cases e
  have Mm := hd_md X G c
  refine ⟨fd, hdTf.map (He.cT K), spLaw (hdT K) K, fun p hp => ?_, fun p hp => ?_, fun p hp => ?_, fun s u => bA s [u] rfl, fun H a ns hl _ hT hS => ⟨a, ns, rfl, hS, fun p hp => ?_, fun _ => rfl⟩, fun base Xb Gb TB => ?_⟩
  · obtain ⟨q, m, rfl⟩ := List.mem_map.mp hp
    exact c.empty q m
  · obtain ⟨q, m, rfl⟩ := List.mem_map.mp hp
    exact c.out q m
  · obtain ⟨q, m, rfl⟩ := List.mem_map.mp hp
    exact PySem.W.codeHd_of_K X (c.hd q m)
  · have : ∃ q ∈ hdTf, p.1 = (He.cT K q).2 := by
      obtain rfl : p = ((He.cT K ("orders", none)).2, lamQ "orders") := List.mem_singleton.mp hp
      exact ⟨("orders", none), List.mem_cons_self, rfl⟩
    obtain ⟨q, m, e⟩ := this
    have := hT (He.cT K q) (List.mem_map.mpr ⟨q, m, rfl⟩)
    exact LamX.TabS.nil (by rw [e]; exact this)
  · have ents := hd_ents (base := base) X G c fun p hp => TB _ (List.mem_map.mpr ⟨p, hp, rfl⟩)
    have cal := cal_all ents rfl
    have ST : FnOk prog0 w K mg base (L2.CX prog0 w) 1 (He.ga K "_law_state") fds ["script"] (spSt (hdP K).T K) := ok_state Mm Fs sc_state mt_state rfl
    exact law_ok (P := hdP K) (T := T) (d := lawD) Mm F sc_law rfl (cons_ht (.Pass ⟨0, 0, 0, 0⟩) _ (by decide +kernel)) m1_law mt_law rfl (by decide) (fun f x e => by
      obtain ⟨fa, fd, ps, a1, a2, a3, a4⟩ := cal lawD f x e
      exact ⟨fa, fd, ps, a1.mono (Nat.le_succ _), a2, a3, a4⟩) (ST.mono (by omega)) (gl__law_state X G c) Fs.kp bs lawEv
end Pv
open PySem PySem.W PySem.Calls PyProof.Rows
theorem PySem.Challenge.cw_callswright_k01_whole_places_turned_holds : PySem.Challenge.rw_callswright_k01_whole_places_turned.Holds := by
  w_on; o_law
  refine HandSHeadRun.head_any (r := OpenLaw.row PySem.Challenge.rw_callswright_k01_whole_places_turned) (q := view (OpenLaw.row PySem.Challenge.rw_callswright_k01_whole_places_turned).prog [34]) (H := Pv.hk) (ob := Pv.hdOb) (M := 6000) (loose := Pv.hdLo) (d := HandSHeadRun.topDef (OpenLaw.row PySem.Challenge.rw_callswright_k01_whole_places_turned).prog 34) (kwd := []) Pv.ob_eq
    (by kernel_rfl) (fun s => by kernel_rfl) Pv.hdRun (by kernel_rfl) (by kernel_rfl) (by kernel_rfl) (by rfl) (by first | assumption | decide +kernel) (by decide +kernel) ⟨rfl, rfl, rfl, rfl, rfl, by decide +kernel⟩ ?hw ?hc
  case hw => w_witness2
  case hc =>
    refine LamX.walk_ofTsE (l := PySem.Challenge.rw_callswright_k01_whole_places_turned) (n := 63) (k := Pv.lawD + 2) (x := "script") (CX := fun w => L2.CX Pv.prog0 w) rfl (by decide) (by kernel_rfl) ⟨rfl, by decide, by decide⟩ ?F (fun w H s e s' h => Pv.noCX h)
    intro w mg fa h Y G hmg0
    obtain ⟨K, KX, c⟩ := Y
    have hmg : mg ("law" : PySem.Str) = some (.ref fa) := by
      have e : (HandSHeadRun.topDef (OpenLaw.row PySem.Challenge.rw_callswright_k01_whole_places_turned).prog 34).name = ("law" : PySem.Str) := by kernel_rfl
      rw [← e]
      exact hmg0
    exact ⟨K, KX, Pv.law_at KX G hmg c⟩
