import PyProof.Rows.All
import Wide.All
import OpenK.AllK
import Wide.FinOn
import HandS.ForMost
import HandS.ForExc
import HandS.Walk
import KE.SortData
import KE.DatumOrd
import KE.KRevSl
import HandS.IsInst
import HandS.TupAny
import HandS.Deep
import PyProof.ReprRoads
import PyProof.P3In
import HandS.SortKw
import HandS.Style
import HandS.Zip
import HandS.Defaults
import HandS.Small
import HandS.Ends
import HandS.HeadEnd
import HandS.HeadHook1
import HandS.HeadHook2
import HandS.HeadHook4
import HandS.Head0
import HandS.Head1
import HandS.Head2
import HandS.Base
import HandS.Call
import HandS.More
import HandS.Words
import KE.KStateDown
import PySem.Challenge.RW_tiekeep_k15_how_deep_and_how_heavy
set_option Elab.async false
set_option linter.all false
set_option maxRecDepth 100000
set_option maxHeartbeats 4000000
namespace Tk
open PySem L2
abbrev D := PyData
/-- what a name of the frame holds: data, a list of its own, the drawing's state -/
inductive Slot where
  | val (d : D)
  | own (ds : List D)
  | st
abbrev Dl := List (Option Slot)
/-- an exception: its class by name, what it was made of -/
structure Exc where
  cls : Str
  args : List D
/-- operations on one, on two things of data -/
inductive Op1 where
  | len | all | any | sum | sorted | tuple | list | repr | isN | notN | notV | neg | max0 | int | rev
  | isi (ts : List Str)
  | cut (lo hi : Bool)
deriving DecidableEq
inductive Op2 where
  | add | sub | mul | fdiv | mod | pow
  | eq | ne | lt | le | gt | ge | inn | nin
  | ix | split | join | index | max2 | min2
deriving DecidableEq
/-- targets -/
inductive Tg where
  | name (i : Nat)
  | nil
  | cons (t u : Tg)
  | tup (t : Tg)
/-- expressions (nil, cons: lists of them; pair: of two) -/
inductive CE where
  | const (d : D)
  | var (i : Nat)
  | glob (x : Str)
  | nil
  | cons (a r : CE)
  | tup (r : CE)
  | lst (r : CE)
  | op1 (o : Op1) (a : CE)
  | op2 (o : Op2) (a b : CE)
  | slc (a : CE) (lo hi : CE)
  | nopart
  | chain (o o' : Op2) (a b c : CE)
  | and_ (a r : CE)
  | or_ (a r : CE)
  | not_ (a : CE)
  | ifx (c a b : CE)
  | call (f : Nat) (r : CE)
  | comp (own : List Nat) (e : CE) (t : Tg) (it : CE) (ifs : CE)
  | iter (a : CE)
  | range1 (a : CE)
  | range2 (a b : CE)
  | zip2 (a b : CE)
  | enum (a : CE)
inductive CS where
  | nop
  | seq (a b : CS)
  | expr (e : CE)
  | ret (e : CE)
  | retO (e : CE)
  | retV (i : Nat)
  | retN
  | asg (t : Tg) (e : CE)
  | asgO (i : Nat) (e : CE)
  | par (is : List Nat) (es : CE)
  | app (i : Nat) (e : CE)
  | frz (i : Nat)
  | ite (c : CE) (a b : CS)
  | for_ (t : Tg) (it : CE) (b : CS)
  | brk
  | cnt
  | never
/-! ### what the operations do -/
def wordLe (a b : Str) : Bool := decide (a.cps.toList ≤ b.cps.toList)
def ltS (a b : Str) : Bool := decide (a.cps.toList < b.cps.toList)
def atD (xs : List D) (i : Int) : Option D := atI xs i
def lenD : D → Option Nat
  | .str x => some x.length
  | .list xs => some xs.length
  | .tuple xs => some xs.length
  | _ => none
def boolsD : List D → Option (List Bool)
  | [] => some []
  | .bool b :: r => (boolsD r).map (b :: ·)
  | _ => none
def intsD : List D → Option (List Int)
  | [] => some []
  | .int i :: r => (intsD r).map (i :: ·)
  | _ => none
def strsD : List D → Option (List Str)
  | [] => some []
  | .str x :: r => (strsD r).map (x :: ·)
  | _ => none
def isiD (t : Str) : D → Bool
  | .none => decide (t = "NoneType")
  | .bool _ => decide (t = "bool") || decide (t = "int")
  | .int _ => decide (t = "int")
  | .str _ => decide (t = "str")
  | .list _ => decide (t = "list")
  | .tuple _ => decide (t = "tuple")
  | .dict _ => decide (t = "dict")
def kD : Key → D
  | .inl i => .int i
  | .inr x => .str x
def inD (d : D) (xs : List D) : Bool := xs.any fun y => PyData.eqv y d
def allShaped (xs : List D) : Bool := xs.all SeqAt.shaped
def chars (x : Str) : List D := x.cps.toList.map fun c => .str ⟨#[c]⟩
def itemsD : D → Option (List D)
  | .list xs => some xs
  | .tuple xs => some xs
  | .str x => some (chars x)
  | _ => none
def cutD {α : Type} (xs : List α) (lo hi : Option Int) : List α := (xs.drop (HT.sIx xs.length 0 lo)).take (HT.sIx xs.length xs.length hi - HT.sIx xs.length 0 lo)
def firstAt (d : D) : List D → Option Nat
  | [] => none
  | x :: r => if PyData.eqv x d then some 0 else (firstAt d r).map (· + 1)
def isNoneD : D → Bool
  | .none => true
  | _ => false
/-- may be sorted -/
def tupNE : D → Bool
  | .tuple (_ :: _) => true
  | _ => false
def noTup : D → Bool
  | .none => false
  | .tuple _ => false
  | _ => true
def sortOk (xs : List D) : Bool := allShaped xs && (xs.all fun d => xs.all fun e => PySem.W.alike d e) && (xs.all tupNE || xs.all noTup)
def sortD (xs : List D) : List D := xs.mergeSort (PySem.W.dataLe false id)
def maxI : List Int → Int
  | [] => 0
  | x :: r => r.foldl (fun a y => if a < y then y else a) x
def sem1 : Op1 → D → Option D
  | .len, d => (lenD d).map fun n => .int (n : Nat)
  | .all, .list xs => (boolsD xs).map fun bs => .bool (bs.all id)
  | .any, .list xs => (boolsD xs).map fun bs => .bool (bs.any id)
  | .sum, .list xs => (intsD xs).map fun is => .int is.sum
  | .tuple, .list xs => some (.tuple xs)
  | .tuple, .tuple xs => some (.tuple xs)
  | .list, .list xs => some (.list xs)
  | .list, .tuple xs => some (.list xs)
  | .repr, d => if d.showable = true ∧ d.hasDict = false ∧ d.depth ≤ 100 ∧ d.shown.length ≤ sizeLine then some (.str d.shown) else none
  | .isN, d => some (.bool (isNoneD d))
  | .notN, d => some (.bool (!isNoneD d))
  | .notV, .bool b => some (.bool (!b))
  | .neg, .int i => some (.int (-i))
  | .sorted, .list xs => if sortOk xs = true then some (.list (sortD xs)) else none
  | .max0, .list xs => (intsD xs).map fun is => .int (maxI is)
  | .int, .bool b => some (.int (if b then 1 else 0))
  | .int, .int i => some (.int i)
  | .rev, .list xs => some (.list xs.reverse)
  | .rev, .tuple xs => some (.tuple xs.reverse)
  | .isi ts, d => some (.bool (ts.any fun t => isiD t d))
  | _, _ => none
def bothS : D → D → Bool
  | .str _, .str _ => true
  | _, _ => false
def sem2 : Op2 → D → D → Option D
  | .add, .int i, .int j => some (.int (i + j))
  | .add, .str x, .str y => if x.length + y.length ≤ sizeLine then some (.str (x ++ y)) else none
  | .add, .list x, .list y => if x.length + y.length ≤ sizeLine then some (.list (x ++ y)) else none
  | .add, .tuple x, .tuple y => if x.length + y.length ≤ sizeLine then some (.tuple (x ++ y)) else none
  | .sub, .int i, .int j => some (.int (i - j))
  | .mul, .int i, .int j => if (-(2 ^ 64) < i ∧ i < 2 ^ 64) ∨ (-(2 ^ 64) < j ∧ j < 2 ^ 64) then some (.int (i * j)) else none
  | .fdiv, .int i, .int j => if j ≠ 0 ∧ j.natAbs < 1073741824 then some (.int (i.fdiv j)) else none
  | .mod, .int i, .int j => if j ≠ 0 then some (.int (i.fmod j)) else none
  | .pow, .int i, .int j => if 0 ≤ j ∧ j ≤ 1000000 ∧ i.natAbs < 2 ^ 64 then some (.int (i ^ j.toNat)) else none
  | .eq, x, y => if bothS x y = true ∨ (SeqAt.shaped x = true ∧ SeqAt.shaped y = true) then some (.bool (PyData.eqv x y)) else none
  | .ne, x, y => if bothS x y = true ∨ (SeqAt.shaped x = true ∧ SeqAt.shaped y = true) then some (.bool (!PyData.eqv x y)) else none
  | .lt, .int i, .int j => some (.bool (decide (i < j)))
  | .le, .int i, .int j => some (.bool (decide (i ≤ j)))
  | .gt, .int i, .int j => some (.bool (decide (j < i)))
  | .ge, .int i, .int j => some (.bool (decide (j ≤ i)))
  | .lt, .str x, .str y => some (.bool (ltS x y))
  | .inn, .str c, .str z => match c.cps.toList with
    | [n] => some (.bool (decide (n ∈ z.cps.toList)))
    | _ => none
  | .nin, .str c, .str z => match c.cps.toList with
    | [n] => some (.bool (!decide (n ∈ z.cps.toList)))
    | _ => none
  | .inn, x, .list ys => if SeqAt.shaped x = true ∧ allShaped ys = true then some (.bool (inD x ys)) else none
  | .inn, x, .tuple ys => if SeqAt.shaped x = true ∧ allShaped ys = true then some (.bool (inD x ys)) else none
  | .nin, x, .list ys => if SeqAt.shaped x = true ∧ allShaped ys = true then some (.bool (!inD x ys)) else none
  | .nin, x, .tuple ys => if SeqAt.shaped x = true ∧ allShaped ys = true then some (.bool (!inD x ys)) else none
  | .ix, .list xs, .int i => atI xs i
  | .ix, .tuple xs, .int i => atI xs i
  | .ix, .str x, .int i => (atI x.cps.toList i).map fun c => .str ⟨#[c]⟩
  | .split, .str a, .str b => if b.length ≠ 0 ∧ a.length + 2 ≤ sizeLine ∧ ((Txt.split a b).all fun y => decide (y.length ≤ sizeLine)) = true then some (.list ((Txt.split a b).map .str)) else none
  | .join, .str a, .list xs => (strsD xs).bind fun ys => if (ys.map (·.length)).sum + ys.length * a.length ≤ 16777216 ∧ (Txt.join a ys).length ≤ sizeLine then some (.str (Txt.join a ys)) else none
  | .join, .str a, .tuple xs => (strsD xs).bind fun ys => if (ys.map (·.length)).sum + ys.length * a.length ≤ 16777216 ∧ (Txt.join a ys).length ≤ sizeLine then some (.str (Txt.join a ys)) else none
  | .max2, .int i, .int j => some (.int (if j > i then j else i))
  | .min2, .int i, .int j => some (.int (if j < i then j else i))
  | .index, .list xs, x => if SeqAt.shaped x = true ∧ SeqAt.shaped (.list xs) = true then (firstAt x xs).map fun n => .int (n : Nat) else none
  | _, _, _ => none
/-- what a method is asked of -/
def recv : Op2 → D → Bool
  | .split, .str _ => true
  | .join, .str _ => true
  | .index, .list _ => true
  | .split, _ => false
  | .join, _ => false
  | .index, _ => false
  | _, _ => true
def semSl : D → Option Int → Option Int → Option D
  | .list xs, lo, hi => some (.list (cutD xs lo hi))
  | .tuple xs, lo, hi => some (.tuple (cutD xs lo hi))
  | .str x, lo, hi => some (.str (cutS x lo hi))
  | _, _, _ => none
def truthD : D → Option Bool
  | .none => some false
  | .bool b => some b
  | .int i => some (i != 0)
  | .str x => some ((x.length : Int) != 0)
  | .list xs => some (!xs.isEmpty)
  | .tuple xs => some (!xs.isEmpty)
  | .dict _ => none
/-! ### what the code does -/
abbrev KX := Exc → Prop
structure Cfg where
  call : Nat → List Slot → (Slot → Prop) → KX → Prop
  glob : Str → Option D
abbrev NX : KX := fun _ => False
def slotD : Slot → Option D
  | .val d => some d
  | .own ds => some (.list ds)
  | .st => none
def valsD : List Slot → Option (List D)
  | [] => some []
  | .val d :: r => (valsD r).map (d :: ·)
  | _ => none
def wipeD (δ : Dl) : List Nat → Dl
  | [] => δ
  | v :: vs => (wipeD δ vs).set v none
/-! a target takes a thing; a list of targets takes a list of things -/
mutual
def bindT : Tg → D → Dl → (Dl → Prop) → Prop
  | .name i, d, δ, k => i < δ.length ∧ k (δ.set i (some (.val d)))
  | .tup t, .tuple ds, δ, k => bindTs t ds δ k
  | _, _, _, _ => False
def bindTs : Tg → List D → Dl → (Dl → Prop) → Prop
  | .nil, [], δ, k => k δ
  | .cons t u, d :: ds, δ, k => bindT t d δ fun δ' => bindTs u ds δ' k
  | _, _, _, _ => False
end
def loopC (bd : D → List D → (List D → Prop) → Prop) : List D → List D → (List D → Prop) → Prop
  | [], acc, k => k acc
  | x :: xs, acc, k => bd x acc fun acc' => loopC bd xs acc' k
def rangeD (lo hi : Int) : List D := (List.range (hi - lo).toNat).map fun i => .int (lo + (i : Nat))
def zipD (xs ys : List D) : List D := (xs.zip ys).map fun p => .tuple [p.1, p.2]
def enumD (xs : List D) : List D := xs.zipIdx.map fun p => .tuple [.int (p.2 : Nat), p.1]
mutual
/-- the value (rd: it is only read, so a list of a name's own may be meant) -/
def ev (C : Cfg) (rd : Bool) : CE → Dl → (D → Prop) → KX → Prop
  | .const d, _, k, _ => k d
  | .var i, δ, k, _ => match δ[i]? with
    | some (some (.val d)) => k d
    | some (some (.own ds)) => rd = true ∧ k (.list ds)
    | _ => False
  | .glob x, _, k, _ => ∃ d, C.glob x = some d ∧ k d
  | .tup r, δ, k, x => evA C r δ (fun ss => ∃ ds, valsD ss = some ds ∧ ds.length ≤ sizeLine ∧ k (.tuple ds)) x
  | .lst r, δ, k, x => evA C r δ (fun ss => ∃ ds, valsD ss = some ds ∧ ds.length ≤ sizeLine ∧ k (.list ds)) x
  | .op1 o a, δ, k, x => ev C true a δ (fun d => ∃ r, sem1 o d = some r ∧ k r) x
  | .op2 o a b, δ, k, x => ev C true a δ (fun d => recv o d = true ∧ ev C true b δ (fun e => ∃ r, sem2 o d e = some r ∧ k r) x) x
  | .slc a lo hi, δ, k, x => ev C true a δ (fun d => evP C lo δ (fun l => evP C hi δ (fun h => ∃ r, semSl d l h = some r ∧ k r) x) x) x
  | .chain o o' a b c, δ, k, x => ev C true a δ (fun d => ev C true b δ (fun e => ∃ z, sem2 o d e = some (.bool z) ∧
      if z = true then ev C true c δ (fun f => ∃ r, sem2 o' e f = some r ∧ k r) x else k (.bool false)) x) x
  | .and_ a r, δ, k, x => ev C false a δ (fun d => ∃ b, d = .bool b ∧ if b = true then ev C false r δ k x else k (.bool false)) x
  | .or_ a r, δ, k, x => ev C false a δ (fun d => ∃ b, d = .bool b ∧ if b = true then k (.bool true) else ev C false r δ k x) x
  | .not_ a, δ, k, x => ev C true a δ (fun d => ∃ b, d = .bool b ∧ k (.bool (!b))) x
  | .ifx c a b, δ, k, x => evT C c δ (fun z => if z = true then ev C rd a δ k x else ev C rd b δ k x) x
  | .call f r, δ, k, x => evA C r δ (fun ss => C.call f ss (fun s => ∃ d, slotD s = some d ∧ k d) x) x
  | .comp own e t it ifs, δ, k, x => evI C true it δ (fun xs => loopC (fun y acc k' => bindT t y (wipeD δ own) fun δ1 => evT C ifs δ1 (fun b =>
      if b = true then ev C false e δ1 (fun d => acc.length < sizeLine ∧ k' (acc ++ [d])) NX else k' acc) NX) xs [] fun acc => k (.list acc)) x
  | _, _, _, _ => False
/-- a part of a slice -/
def evP (C : Cfg) : CE → Dl → (Option Int → Prop) → KX → Prop
  | .nopart, _, k, _ => k none
  | .cons a .nil, δ, k, x => ev C true a δ (fun d => ∃ i, d = .int i ∧ k (some i)) x
  | _, _, _, _ => False
/-- the arguments -/
def evA (C : Cfg) : CE → Dl → (List Slot → Prop) → KX → Prop
  | .nil, _, k, _ => k []
  | .cons (.var i) r, δ, k, x => match δ[i]? with
    | some (some (.val d)) => evA C r δ (fun ss => k (.val d :: ss)) x
    | some (some .st) => evA C r δ (fun ss => k (.st :: ss)) x
    | _ => False
  | .cons a r, δ, k, x => ev C false a δ (fun d => evA C r δ (fun ss => k (.val d :: ss)) x) x
  | _, _, _, _ => False
/-- a test -/
def evT (C : Cfg) : CE → Dl → (Bool → Prop) → KX → Prop
  | .nil, _, k, _ => k true
  | .and_ a r, δ, k, x => evT C a δ (fun b => if b = true then evT C r δ k x else k false) x
  | .or_ a r, δ, k, x => evT C a δ (fun b => if b = true then k true else evT C r δ k x) x
  | .not_ a, δ, k, x => evT C a δ (fun b => k (!b)) x
  | .op1 o a, δ, k, x => ev C true a δ (fun d => ∃ b, sem1 o d = some (.bool b) ∧ k b) x
  | .op2 o a b, δ, k, x => ev C true a δ (fun d => recv o d = true ∧ ev C true b δ (fun e => ∃ z, sem2 o d e = some (.bool z) ∧ k z) x) x
  | .chain o o' a b c, δ, k, x => ev C true a δ (fun d => ev C true b δ (fun e => ∃ z, sem2 o d e = some (.bool z) ∧
      if z = true then ev C true c δ (fun f => ∃ z, sem2 o' e f = some (.bool z) ∧ k z) x else k false) x) x
  | .var i, δ, k, _ => match δ[i]? with
    | some (some (.val (.bool b))) => k b
    | _ => False
  | .call f r, δ, k, x => evA C r δ (fun ss => C.call f ss (fun s => ∃ d, slotD s = some d ∧ ∃ b, d = .bool b ∧ k b) x) x
  | .const (.bool b), _, k, _ => k b
  | _, _, _, _ => False
/-- what is walked -/
def evI (C : Cfg) (rd : Bool) : CE → Dl → (List D → Prop) → KX → Prop
  | .iter a, δ, k, x => ev C rd a δ (fun d => ∃ xs, itemsD d = some xs ∧ k xs) x
  | .range1 a, δ, k, x => ev C rd a δ (fun d => ∃ n, d = .int n ∧ (-(2 ^ 62) ≤ n ∧ n < 2 ^ 62) ∧ k (rangeD 0 n)) x
  | .range2 a b, δ, k, x => ev C rd a δ (fun d => ev C rd b δ (fun e => ∃ m n, d = .int m ∧ e = .int n ∧ (-(2 ^ 62) ≤ m ∧ m < 2 ^ 62 ∧ -(2 ^ 62) ≤ n ∧ n < 2 ^ 62) ∧ k (rangeD m n)) x) x
  | .zip2 a b, δ, k, x => ev C rd a δ (fun d => ev C rd b δ (fun e => ∃ xs ys, (d = .list xs ∧ e = .list ys ∨ d = .tuple xs ∧ e = .tuple ys) ∧ k (zipD xs ys)) x) x
  | .enum a, δ, k, x => ev C rd a δ (fun d => ∃ xs, d = .list xs ∧ k (enumD xs)) x
  | _, _, _, _ => False
end
/-- one turn of a comprehension -/
def compB (C : Cfg) (own : List Nat) (e : CE) (t : Tg) (ifs : CE) (δ : Dl) : D → List D → (List D → Prop) → Prop := fun y acc k' => bindT t y (wipeD δ own) fun δ1 => evT C ifs δ1 (fun b =>
  if b = true then ev C false e δ1 (fun d => acc.length < sizeLine ∧ k' (acc ++ [d])) NX else k' acc) NX
theorem ev_comp {C : Cfg} {rd : Bool} {own : List Nat} {e it ifs : CE} {t : Tg} {δ : Dl} {k : D → Prop} {x : KX} :
    ev C rd (.comp own e t it ifs) δ k x = evI C true it δ (fun xs => loopC (compB C own e t ifs δ) xs [] fun acc => k (.list acc)) x := by
  simp only [ev]; rfl
/-- a list of one's own, where it is made anew -/
def toOwn : D → Slot
  | .list ds => .own ds
  | d => .val d
def evO (C : Cfg) : CE → Dl → (Slot → Prop) → KX → Prop
  | .call f r, δ, k, x => evA C r δ (fun ss => C.call f ss k x) x
  | .lst r, δ, k, x => ev C false (.lst r) δ (fun d => k (toOwn d)) x
  | .comp own e t it ifs, δ, k, x => ev C false (.comp own e t it ifs) δ (fun d => k (toOwn d)) x
  | c, δ, k, x => ev C false c δ (fun d => k (.val d)) x
structure En where
  nx : Dl → Prop
  rt : Slot → Prop
  bk : Dl → Prop
  ct : Dl → Prop
  xc : Exc → Dl → Prop
def loopS (bd : D → Dl → En → Prop) : List D → Dl → En → Prop
  | [], δ, E => E.nx δ
  | x :: xs, δ, E => bd x δ { E with nx := fun δ' => loopS bd xs δ' E, ct := fun δ' => loopS bd xs δ' E, bk := E.nx }
def setAll (δ : Dl) : List Nat → List Slot → Option Dl
  | [], [] => some δ
  | i :: is, s :: ss => if i < δ.length then setAll (δ.set i (some s)) is ss else none
  | _, _ => none
/-- several things, each its own -/
def evOs (C : Cfg) : CE → Dl → (List Slot → Prop) → KX → Prop
  | .nil, _, k, _ => k []
  | .cons a r, δ, k, x => evO C a δ (fun s => evOs C r δ (fun ss => k (s :: ss)) x) x
  | _, _, _, _ => False
def ex (C : Cfg) : CS → Dl → En → Prop
  | .nop, δ, E => E.nx δ
  | .seq a b, δ, E => ex C a δ { E with nx := fun δ' => ex C b δ' E }
  | .expr e, δ, E => ev C false e δ (fun _ => E.nx δ) fun x => E.xc x δ
  | .ret e, δ, E => ev C false e δ (fun d => E.rt (.val d)) fun x => E.xc x δ
  | .retO e, δ, E => evO C e δ E.rt fun x => E.xc x δ
  | .retV i, δ, E => match δ[i]? with
    | some (some s) => E.rt s
    | _ => False
  | .retN, _, E => E.rt (.val .none)
  | .asg t e, δ, E => ev C false e δ (fun d => bindT t d δ E.nx) fun x => E.xc x δ
  | .asgO i e, δ, E => evO C e δ (fun s => i < δ.length ∧ E.nx (δ.set i (some s))) fun x => E.xc x δ
  | .par is es, δ, E => evOs C es δ (fun ss => ∃ δ', setAll δ is ss = some δ' ∧ E.nx δ') fun x => E.xc x δ
  | .app i e, δ, E => match δ[i]? with
    | some (some (.own ds)) => ev C false e δ (fun d => ds.length < sizeLine ∧ E.nx (δ.set i (some (.own (ds ++ [d]))))) fun x => E.xc x δ
    | _ => False
  | .frz i, δ, E => match δ[i]? with
    | some (some (.own ds)) => E.nx (δ.set i (some (.val (.list ds))))
    | _ => E.nx δ
  | .ite c a b, δ, E => evT C c δ (fun z => if z = true then ex C a δ E else ex C b δ E) fun x => E.xc x δ
  | .for_ t it b, δ, E => evI C false it δ (fun xs => loopS (fun y δ' E' => bindT t y δ' fun δ1 => ex C b δ1 E') xs δ E) fun x => E.xc x δ
  | .brk, δ, E => E.bk δ
  | .cnt, δ, E => E.ct δ
  | .never, _, _ => False
end Tk
namespace Tk
open PySem L2
/-- the state stands at am, its cells at cl, its great cells at gl -/
def StW (am cl gl : Addr) (H : Hp) : Prop := ∃ (cs gs : List Int) (a b : Int), cs ≠ [] ∧ H am = some (.lst [.ref cl, .int a, .int b, .ref gl]) ∧ H cl = some (.lst (cs.map V.int)) ∧ H gl = some (.lst (gs.map V.int))
def StOk (M : Addr → Prop) (W : Hp → Prop) (sv : V) : Prop := sv = .non ∨ ∃ am cl gl, am ≠ cl ∧ am ≠ gl ∧ cl ≠ gl ∧ sv = .ref am ∧ (M = fun b => b = am ∨ b = cl ∨ b = gl) ∧ W = StW am cl gl
end Tk
namespace Tk
open PySem L2
/-- a list that is read: tracked and not in O, or the module's own -/
def SqO (K : PySem.W.Frag) (H : Hp) (O : Addr → Prop) (a : Addr) (xs : List V) : Prop :=
  (Rd H a (.lst xs) ∧ ¬ O a) ∨
    ∃ (o : Obj) (its : Array Value) (n : Nat), K.lookup a = some o ∧ o.cls = .type "list" ∧ o.dict = none ∧ o.data = .seq its n ∧ its.size ≤ sizeLine ∧ Vals xs its.toList
theorem SqO.sq {K H O a xs} (h : SqO K H O a xs) : SqL K H a xs := by
  rcases h with h | h
  · exact .inl h.1
  · exact .inr h
mutual
inductive Rep (K : PySem.W.Frag) (H : Hp) (O : Addr → Prop) : V → D → Prop
  | non : Rep K H O .non .none
  | bl (b : Bool) : Rep K H O (.bl b) (.bool b)
  | int (i : Int) : Rep K H O (.int i) (.int i)
  | str (x : Str) : x.length ≤ sizeLine → Rep K H O (.str x) (.str x)
  | lst {a : Addr} {xs : List V} {ds : List D} : SqO K H O a xs → Reps K H O xs ds → Rep K H O (.ref a) (.list ds)
  | tup {a : Addr} {xs : List V} {ds : List D} : SqT K H a xs → Reps K H O xs ds → Rep K H O (.ref a) (.tuple ds)
  | dct {a : Addr} {kvs : List (Key × V)} {ds : List (D × D)} : H a = some (.dK kvs) → ¬ O a → RepsK K H O kvs ds → Rep K H O (.ref a) (.dict ds)
inductive Reps (K : PySem.W.Frag) (H : Hp) (O : Addr → Prop) : List V → List D → Prop
  | nil : Reps K H O [] []
  | cons {v : V} {vs : List V} {d : D} {ds : List D} : Rep K H O v d → Reps K H O vs ds → Reps K H O (v :: vs) (d :: ds)
inductive RepsK (K : PySem.W.Frag) (H : Hp) (O : Addr → Prop) : List (Key × V) → List (D × D) → Prop
  | nil : RepsK K H O [] []
  | cons {k : Key} {v : V} {vs : List (Key × V)} {d : D} {ds : List (D × D)} : Rep K H O v d → RepsK K H O vs ds → RepsK K H O ((k, v) :: vs) ((kD k, d) :: ds)
end
section
variable {K : PySem.W.Frag} {H H' : Hp} {O O' : Addr → Prop}
/-- from one heap to a later one: what isn't in O stays; what is new in O' was free -/
structure Ext (H H' : Hp) (O O' : Addr → Prop) : Prop where
  keep : ∀ b u, H b = some u → ¬ O b → H' b = some u
  new : ∀ b, O' b → O b ∨ H b = none
  tup : ∀ b xs, H b = some (.tup xs) → H' b = some (.tup xs)
  frz : ∀ b o u, H b = some (.frz o u) → H' b = some (.frz o u)
theorem SqO.ext {a xs} (x : Ext H H' O O') (h : SqO K H O a xs) : SqO K H' O' a xs := by
  rcases h with ⟨h, n⟩ | h
  · refine .inl ⟨?_, fun z => ?_⟩
    · rcases h with h | ⟨o, h⟩
      · exact .inl (x.keep _ _ h n)
      · exact .inr ⟨o, x.keep _ _ h n⟩
    · rcases x.new _ z with z | z
      · exact n z
      · rcases h with h | ⟨o, h⟩ <;> (rw [z] at h; cases h)
  · exact .inr h
theorem SqT.ext {a xs} (x : Ext H H' O O') (h : SqT K H a xs) : SqT K H' a xs := by
  rcases h with (h | ⟨o, h⟩) | h
  · exact .inl (.inl (x.tup _ _ h))
  · exact .inl (.inr ⟨o, x.frz _ _ _ h⟩)
  · exact .inr h
mutual
theorem Rep.ext (x : Ext H H' O O') : ∀ (d : D) (v : V), Rep K H O v d → Rep K H' O' v d
  | .none, _, h => by cases h; exact .non
  | .bool b, _, h => by cases h; exact .bl b
  | .int i, _, h => by cases h; exact .int i
  | .str s, _, h => by cases h with | str _ hl => exact .str _ hl
  | .list ds, _, h => by cases h with | lst h1 h2 => exact .lst (h1.ext x) (Reps.ext x ds _ h2)
  | .tuple ds, _, h => by cases h with | tup h1 h2 => exact .tup (SqT.ext x h1) (Reps.ext x ds _ h2)
  | .dict ds, _, h => by
    cases h with
    | dct h1 h2 h3 =>
      refine .dct (x.keep _ _ h1 h2) (fun z => ?_) (RepsK.ext x ds _ h3)
      rcases x.new _ z with z | z
      · exact h2 z
      · rw [z] at h1; cases h1
theorem Reps.ext (x : Ext H H' O O') : ∀ (ds : List D) (vs : List V), Reps K H O vs ds → Reps K H' O' vs ds
  | [], _, h => by cases h; exact .nil
  | d :: ds, _, h => by cases h with | cons h1 h2 => exact .cons (Rep.ext x d _ h1) (Reps.ext x ds _ h2)
theorem RepsK.ext (x : Ext H H' O O') : ∀ (ds : List (D × D)) (vs : List (Key × V)), RepsK K H O vs ds → RepsK K H' O' vs ds
  | [], _, h => by cases h; exact .nil
  | (k, d) :: ds, _, h => by cases h with | cons h1 h2 => exact .cons (Rep.ext x d _ h1) (RepsK.ext x ds _ h2)
end
theorem Ext.refl : Ext H H O O := ⟨fun _ _ h _ => h, fun _ h => .inl h, fun _ _ h => h, fun _ _ _ h => h⟩
theorem Ext.sub (h : ∀ b, O' b → O b) : Ext H H O O' := ⟨fun _ _ h _ => h, fun b z => .inl (h b z), fun _ _ h => h, fun _ _ _ h => h⟩
theorem Ext.same (s : Same H H') : Ext H H' O O := ⟨fun b u h _ => s b u h, fun _ h => .inl h, fun b xs h => s b _ h, fun b o u h => s b _ h⟩
theorem Reps.length : ∀ {vs : List V} {ds : List D}, Reps K H O vs ds → vs.length = ds.length
  | [], [], _ => rfl
  | [], _ :: _, h => by cases h
  | _ :: _, [], h => by cases h
  | _ :: _, _ :: _, h => by cases h with | cons _ h2 => simp [h2.length]
theorem Reps.get : ∀ {vs : List V} {ds : List D} {i : Nat} {v : V}, Reps K H O vs ds → vs[i]? = some v → ∃ d, ds[i]? = some d ∧ Rep K H O v d
  | [], _, _, _, _, e => by simp at e
  | _ :: _, [], _, _, h, _ => by cases h
  | _ :: _, _ :: _, 0, _, h, e => by
    cases h with | cons h1 h2 => simp at e; subst e; exact ⟨_, rfl, h1⟩
  | _ :: _, _ :: _, i + 1, v, h, e => by
    cases h with | cons h1 h2 =>
      obtain ⟨d, e1, e2⟩ := Reps.get (i := i) (v := v) h2 (by simpa using e)
      exact ⟨d, by simpa using e1, e2⟩
theorem Reps.get' : ∀ {vs : List V} {ds : List D} {i : Nat} {d : D}, Reps K H O vs ds → ds[i]? = some d → ∃ v, vs[i]? = some v ∧ Rep K H O v d
  | _, [], _, _, _, e => by simp at e
  | [], _ :: _, _, _, h, _ => by cases h
  | _ :: _, _ :: _, 0, _, h, e => by
    cases h with | cons h1 h2 => simp at e; subst e; exact ⟨_, rfl, h1⟩
  | _ :: _, _ :: _, i + 1, v, h, e => by
    cases h with | cons h1 h2 =>
      obtain ⟨d, e1, e2⟩ := Reps.get' (i := i) (d := v) h2 (by simpa using e)
      exact ⟨d, by simpa using e1, e2⟩
theorem Reps.append : ∀ {vs us : List V} {ds es : List D}, Reps K H O vs ds → Reps K H O us es → Reps K H O (vs ++ us) (ds ++ es)
  | [], _, [], _, _, h => h
  | [], _, _ :: _, _, h, _ => by cases h
  | _ :: _, _, [], _, h, _ => by cases h
  | _ :: _, _, _ :: _, _, h, h' => by cases h with | cons h1 h2 => exact .cons h1 (Reps.append h2 h')
theorem Reps.drop : ∀ (n : Nat) {vs : List V} {ds : List D}, Reps K H O vs ds → Reps K H O (vs.drop n) (ds.drop n)
  | 0, _, _, h => h
  | _ + 1, [], [], h => by simpa using h
  | _ + 1, [], _ :: _, h => by cases h
  | _ + 1, _ :: _, [], h => by cases h
  | n + 1, _ :: _, _ :: _, h => by cases h with | cons h1 h2 => exact Reps.drop n h2
theorem Reps.take : ∀ (n : Nat) {vs : List V} {ds : List D}, Reps K H O vs ds → Reps K H O (vs.take n) (ds.take n)
  | 0, _, _, h => by simpa using Reps.nil
  | _ + 1, [], [], h => by simpa using h
  | _ + 1, [], _ :: _, h => by cases h
  | _ + 1, _ :: _, [], h => by cases h
  | n + 1, _ :: _, _ :: _, h => by cases h with | cons h1 h2 => exact .cons h1 (Reps.take n h2)
end
/-- what is fixed while a def runs: the heap and the avoided addresses at its entry; the drawing's addresses, what holds of them, the value that stands for them -/
structure Gh where
  H0 : Hp
  O0 : Addr → Prop
  M : Addr → Prop
  W : Hp → Prop
  sv : V
structure Gh.Ok (Γ : Gh) : Prop where
  so : StOk Γ.M Γ.W Γ.sv
  mo : ∀ b, Γ.M b → Γ.O0 b
  ot : ∀ b, Γ.O0 b → Γ.H0 b ≠ none
  wm : ∀ H, Γ.W H → ∀ b, Γ.M b → H b ≠ none
  ws : ∀ H H', (∀ b, Γ.M b → H' b = H b) → Γ.W H → Γ.W H'
  wt : ∀ H H', Γ.W H → Γ.W H' → ∀ b, Γ.M b → ∀ xs, H b = some (.tup xs) → False
  wf : ∀ H b, Γ.W H → Γ.M b → ∀ o u, H b = some (.frz o u) → False
/-- all that was tracked is as it was, but for the drawing's own -/
def SameM (Γ : Gh) (H H' : Hp) : Prop := ∀ b u, H b = some u → ¬ Γ.M b → H' b = some u
/-- what an evaluation leaves -/
structure Later (Γ : Gh) (H H' : Hp) : Prop where
  same : SameM Γ H H'
  w : Γ.W H'
section
variable {K : PySem.W.Frag} {Γ : Gh} {H H' H1 H2 : Hp} {O O' : Addr → Prop}
theorem Later.of_same (g : Γ.Ok) (w : Γ.W H) (s : Same H H') : Later Γ H H' := by
  refine ⟨fun b u h _ => s b u h, g.ws H H' (fun b hb => ?_) w⟩
  cases e : H b with
  | none => exact absurd e (g.wm H w b hb)
  | some u => exact s b u e
theorem Later.trans (a : Later Γ H H1) (b : Later Γ H1 H2) : Later Γ H H2 := ⟨fun c u h n => b.same c u (a.same c u h n) n, b.w⟩
theorem Later.ext (g : Γ.Ok) (w : Γ.W H) (hm : ∀ b, Γ.M b → O b) (l : Later Γ H H') : Ext H H' O O :=
  ⟨fun b u h n => l.same b u h fun z => n (hm b z), fun _ z => .inl z,
    fun b xs h => l.same b _ h fun z => g.wt H H' w l.w b z xs h, fun b o u h => l.same b _ h fun z => g.wf H b w z o u h⟩
end
/-- a thing that is only read: a list of a name's own, too -/
def RRep (K : PySem.W.Frag) (Γ : Gh) (H : Hp) (O : Addr → Prop) (v : V) : D → Prop
  | .list ds => ∃ a xs, v = .ref a ∧ SqO K H Γ.M a xs ∧ Reps K H O xs ds
  | d => Rep K H O v d
def SRep (K : PySem.W.Frag) (Γ : Gh) (H : Hp) (O : Addr → Prop) : Slot → V → Prop
  | .val d, v => Rep K H O v d
  | .own ds, v => ∃ a vs, v = .ref a ∧ H a = some (.lst vs) ∧ O a ∧ Γ.H0 a = none ∧ Reps K H O vs ds
  | .st, v => v = Γ.sv ∧ v ≠ .non
structure Fr (K : PySem.W.Frag) (Γ : Gh) (δ : Dl) (σ : St) (H : Hp) (O : Addr → Prop) : Prop where
  gh : Γ.Ok
  len : δ.length = σ.length
  same : SameM Γ Γ.H0 H
  sub : ∀ b, Γ.O0 b → O b
  otr : ∀ b, O b → H b ≠ none
  w : Γ.W H
  slot : ∀ (i : Nat) s, δ[i]? = some (some s) → ∃ v, σ[i]? = some (some v) ∧ SRep K Γ H O s v
  dist : ∀ (i j : Nat) a ds es, δ[i]? = some (some (.own ds)) → δ[j]? = some (some (.own es)) → σ[i]? = some (some (.ref a)) → σ[j]? = some (some (.ref a)) → i = j
section
variable {K : PySem.W.Frag} {Γ : Gh} {H H' H1 H2 : Hp} {O O' : Addr → Prop} {δ : Dl} {σ : St}
theorem Fr.m (f : Fr K Γ δ σ H O) : ∀ b, Γ.M b → O b := fun b z => f.sub b (f.gh.mo b z)
theorem Fr.noM (f : Fr K Γ δ σ H O) {a : Addr} (h : Γ.H0 a = none) : ¬ Γ.M a := fun z => f.gh.ot a (f.gh.mo a z) h
theorem Fr.ext (f : Fr K Γ δ σ H O) (l : Later Γ H H') : Ext H H' O O := l.ext f.gh f.w f.m
theorem SRep.later (f : Fr K Γ δ σ H O) (l : Later Γ H H') : ∀ {s : Slot} {v : V}, SRep K Γ H O s v → SRep K Γ H' O s v
  | .val d, v, h => Rep.ext (f.ext l) d v h
  | .own ds, v, ⟨a, vs, e, h1, h2, h3, h4⟩ => ⟨a, vs, e, l.same a _ h1 (f.noM h3), h2, h3, Reps.ext (f.ext l) ds vs h4⟩
  | .st, v, h => h
theorem Fr.later (f : Fr K Γ δ σ H O) (l : Later Γ H H') : Fr K Γ δ σ H' O where
  gh := f.gh
  len := f.len
  same := fun b u h n => l.same b u (f.same b u h n) n
  sub := f.sub
  otr := fun b h e => by
    cases q : H b with
    | none => exact f.otr b h q
    | some u =>
      by_cases m : Γ.M b
      · exact f.gh.wm H' l.w b m e
      · rw [l.same b u q m] at e; cases e
  w := l.w
  slot := fun i s h => by
    obtain ⟨v, e, r⟩ := f.slot i s h
    exact ⟨v, e, r.later f l⟩
  dist := f.dist
theorem Rep.r (f : ∀ b, Γ.M b → O b) : ∀ {d : D} {v : V}, Rep K H O v d → RRep K Γ H O v d
  | .list ds, v, h => by
    cases h with
    | lst h1 h2 =>
      refine ⟨_, _, rfl, ?_, h2⟩
      rcases h1 with ⟨h1, n⟩ | h1
      · exact .inl ⟨h1, fun z => n (f _ z)⟩
      · exact .inr h1
  | .none, _, h => h
  | .bool _, _, h => h
  | .int _, _, h => h
  | .str _, _, h => h
  | .tuple _, _, h => h
  | .dict _, _, h => h
theorem RRep.later (f : Fr K Γ δ σ H O) (l : Later Γ H H') : ∀ {d : D} {v : V}, RRep K Γ H O v d → RRep K Γ H' O v d
  | .list ds, v, h => by
    obtain ⟨a, xs, e, h1, h2⟩ := h
    exact ⟨a, xs, e, h1.ext (l.ext f.gh f.w fun _ z => z), Reps.ext (f.ext l) ds xs h2⟩
  | .none, _, h => Rep.ext (f.ext l) _ _ h
  | .bool _, _, h => Rep.ext (f.ext l) _ _ h
  | .int _, _, h => Rep.ext (f.ext l) _ _ h
  | .str _, _, h => Rep.ext (f.ext l) _ _ h
  | .tuple _, _, h => Rep.ext (f.ext l) _ _ h
  | .dict _, _, h => Rep.ext (f.ext l) _ _ h
mutual
theorem Rep.dp : ∀ (d : D) (v : V), d.hasDict = false → Rep K H O v d → Dp K H v d
  | .none, _, _, h => by cases h; exact .non
  | .bool b, _, _, h => by cases h; exact .bl b
  | .int i, _, _, h => by cases h; exact .int i
  | .str s, _, _, h => by cases h with | str _ hl => exact .str _
  | .list ds, _, n, h => by cases h with | lst h1 h2 => exact .lst h1.sq (Reps.dp ds _ (by simpa [PyData.hasDict] using n) h2)
  | .tuple ds, _, n, h => by cases h with | tup h1 h2 => exact .tup h1 (Reps.dp ds _ (by simpa [PyData.hasDict] using n) h2)
  | .dict ds, _, n, h => by simp [PyData.hasDict] at n
theorem Reps.dp : ∀ (ds : List D) (vs : List V), PyData.hasDictAll ds = false → Reps K H O vs ds → DpAll K H vs ds
  | [], _, _, h => by cases h; exact .nil
  | d :: ds, _, n, h => by
    cases h with | cons h1 h2 =>
      simp [PyData.hasDictAll] at n
      exact .cons (Rep.dp d _ n.1 h1) (Reps.dp ds _ n.2 h2)
end
theorem RRep.dp : ∀ {d : D} {v : V}, d.hasDict = false → RRep K Γ H O v d → Dp K H v d
  | .list ds, v, n, h => by
    obtain ⟨a, xs, rfl, h1, h2⟩ := h
    exact .lst h1.sq (Reps.dp ds xs (by simpa [PyData.hasDict] using n) h2)
  | .none, _, n, h => Rep.dp _ _ n h
  | .bool _, _, n, h => Rep.dp _ _ n h
  | .int _, _, n, h => Rep.dp _ _ n h
  | .str _, _, n, h => Rep.dp _ _ n h
  | .tuple _, _, n, h => Rep.dp _ _ n h
  | .dict _, _, n, h => Rep.dp _ _ n h
theorem shaped_dict {d : D} (h : SeqAt.shaped d = true) : d.hasDict = false := by
  unfold SeqAt.shaped at h
  rw [Bool.and_eq_true] at h
  exact PyData.hasDict_of_canLay d h.1
end
end Tk
namespace Tk
open PySem PySem.Spec PyProof.Rows L2
abbrev OTr (O : Addr → Prop) (H : Hp) : Prop := ∀ b, O b → H b ≠ none
def R1 (K : PySem.W.Frag) (o : Op1) : V → Hp → VK → Prop := fun v H Q => ∃ Γ O d r, OTr O H ∧ RRep K Γ H O v d ∧ sem1 o d = some r ∧ ∀ v' H', Same H H' → Rep K H' O v' r → Q v' H'
def R2 (K : PySem.W.Frag) (o : Op2) : L2.R2 := fun v u H Q => ∃ Γ O d e r, OTr O H ∧ RRep K Γ H O v d ∧ RRep K Γ H O u e ∧ sem2 o d e = some r ∧ ∀ v' H', Same H H' → Rep K H' O v' r → Q v' H'
section
variable {K : PySem.W.Frag} {Γ : Gh} {H H' : Hp} {O : Addr → Prop} {p : Addr} {vs : List V} {ds : List D}
theorem same_upd {o : HO} (h : H p = none) : Same H (upd H p o) := fun b u e => by rw [upd_ne (ne_of_none e h)]; exact e
theorem Reps.same (s : Same H H') (r : Reps K H O vs ds) : Reps K H' O vs ds := Reps.ext (Ext.same s) ds vs r
theorem mkL (ho : OTr O H) (hp : H p = none) (r : Reps K H O vs ds) : Rep K (upd H p (.lst vs)) O (.ref p) (.list ds) :=
  .lst (.inl ⟨.inl upd_same, fun z => ho p z hp⟩) (r.same (same_upd hp))
theorem mkT (hp : H p = none) (r : Reps K H O vs ds) : Rep K (upd H p (.tup vs)) O (.ref p) (.tuple ds) :=
  .tup (.inl (.inl upd_same)) (r.same (same_upd hp))
theorem Reps.bools : ∀ {ds : List D} {vs : List V} {bs : List Bool}, Reps K H O vs ds → boolsD ds = some bs → vs = bs.map V.bl
  | [], vs, bs, h, e => by cases h; simp [boolsD] at e; subst e; rfl
  | d :: ds, vs, bs, h, e => by
    cases h with | cons h1 h2 =>
      cases d with
      | bool b =>
        simp only [boolsD, Option.map_eq_some_iff] at e
        obtain ⟨cs, e1, rfl⟩ := e
        cases h1
        rw [Reps.bools h2 e1]; rfl
      | _ => simp [boolsD] at e
theorem Reps.ints : ∀ {ds : List D} {vs : List V} {bs : List Int}, Reps K H O vs ds → intsD ds = some bs → vs = bs.map V.int
  | [], vs, bs, h, e => by cases h; simp [intsD] at e; subst e; rfl
  | d :: ds, vs, bs, h, e => by
    cases h with | cons h1 h2 =>
      cases d with
      | int b =>
        simp only [intsD, Option.map_eq_some_iff] at e
        obtain ⟨cs, e1, rfl⟩ := e
        cases h1
        rw [Reps.ints h2 e1]; rfl
      | _ => simp [intsD] at e
theorem Reps.strs : ∀ {ds : List D} {vs : List V} {bs : List Str}, Reps K H O vs ds → strsD ds = some bs → vs = bs.map V.str
  | [], vs, bs, h, e => by cases h; simp [strsD] at e; subst e; rfl
  | d :: ds, vs, bs, h, e => by
    cases h with | cons h1 h2 =>
      cases d with
      | str b =>
        simp only [strsD, Option.map_eq_some_iff] at e
        obtain ⟨cs, e1, rfl⟩ := e
        cases h1
        rw [Reps.strs h2 e1]; rfl
      | _ => simp [strsD] at e
theorem Reps.ofStrs : ∀ {ys : List Str}, (∀ y ∈ ys, y.length ≤ sizeLine) → Reps K H O (ys.map V.str) (ys.map PyData.str)
  | [], _ => .nil
  | y :: ys, h => .cons (.str y (h y List.mem_cons_self)) (Reps.ofStrs fun z hz => h z (List.mem_cons_of_mem _ hz))
end
section
variable {X : Cx} {Γ : Gh} {e : Expr} {te : TE}
def l1 (r : V → Hp → VK → Prop) : List V → Hp → VK → Prop
  | [v], H, Q => r v H Q
  | _, _, _ => False
def l2 (r : L2.R2) : List V → Hp → VK → Prop
  | [v, u], H, Q => r v u H Q
  | _, _, _ => False
theorem CallR.l1_of {f : Value} {r : V → Hp → VK → Prop} (h : ∀ (pins : List (Addr × Obj)) (s : Shared) (σ : L2.St) (H : Hp) (x : V) (u : Value) (Q : VK), Inv X pins σ H s → RelV x u → r x H Q → wpAny (model X.prog X.w) X.A (call f [u]) (EP X pins σ Q) X.xe s) : CallR X f (l1 r) := by
  intro pins s σ H xs us Q I rv hq
  match xs, rv, hq with
  | [x], rv, hq =>
    obtain ⟨u, rfl, rx⟩ := vals1 rv
    exact h pins s σ H x u Q I rx hq
/-- from a rule over lists of arguments -/
theorem CallR.to1 {f : Value} {r : List V → Hp → VK → Prop} {r1 : V → Hp → VK → Prop} (h : CallR X f r) (hi : ∀ v H Q, r1 v H Q → r [v] H Q) : CallR X f (l1 r1) :=
  CallR.l1_of fun pins s σ H x u Q I rx hq => h pins s σ H [x] [u] Q I (.cons rx .nil) (hi _ _ _ hq)
theorem c_len : CallR X (.builtin "len") (l1 (R1 X.K .len)) := by
  refine CallR.to1 call_len fun v H Q h => ?_
  obtain ⟨Γ, O, d, r, ho, hr, hs, q⟩ := h
  cases d with
  | str x =>
    cases hr with
    | str _ hl =>
      simp [sem1, lenD] at hs; subst hs
      exact ⟨_, x.length, rfl, ⟨hl, rfl⟩, q _ _ (Same.refl _) (.int _)⟩
  | list ds =>
    obtain ⟨a, xs, rfl, h1, h2⟩ := hr
    simp [sem1, lenD] at hs; subst hs
    refine ⟨_, xs.length, rfl, .inl ⟨xs, h1.sq, rfl⟩, ?_⟩
    rw [h2.length]
    exact q _ _ (Same.refl _) (.int _)
  | tuple ds =>
    cases hr with
    | tup h1 h2 =>
      simp [sem1, lenD] at hs; subst hs
      refine ⟨_, _, rfl, .inr ⟨_, h1, rfl⟩, ?_⟩
      rw [h2.length]
      exact q _ _ (Same.refl _) (.int _)
  | _ => simp [sem1, lenD] at hs
theorem c_all (hc : X.calm = true) : CallR X (.builtin "all") (l1 (R1 X.K .all)) := by
  refine CallR.to1 (cr_all hc) fun v H Q h => ?_
  obtain ⟨Γ, O, d, r, ho, hr, hs, q⟩ := h
  cases d with
  | list ds =>
    obtain ⟨a, xs, rfl, h1, h2⟩ := hr
    simp only [sem1, Option.map_eq_some_iff] at hs
    obtain ⟨bs, e, rfl⟩ := hs
    have e2 := h2.bools e
    subst e2
    exact ⟨a, bs, rfl, h1.sq, q _ _ (Same.refl _) (.bl _)⟩
  | _ => simp [sem1] at hs
theorem c_any (hc : X.calm = true) : CallR X (.builtin "any") (l1 (R1 X.K .any)) := by
  refine CallR.to1 (cr_any hc) fun v H Q h => ?_
  obtain ⟨Γ, O, d, r, ho, hr, hs, q⟩ := h
  cases d with
  | list ds =>
    obtain ⟨a, xs, rfl, h1, h2⟩ := hr
    simp only [sem1, Option.map_eq_some_iff] at hs
    obtain ⟨bs, e, rfl⟩ := hs
    have e2 := h2.bools e
    subst e2
    exact ⟨a, bs, rfl, h1.sq, q _ _ (Same.refl _) (.bl _)⟩
  | _ => simp [sem1] at hs
theorem c_sum (hc : X.calm = true) : CallR X (.builtin "sum") (l1 (R1 X.K .sum)) := by
  refine CallR.to1 (cr_sum hc) fun v H Q h => ?_
  obtain ⟨Γ, O, d, r, ho, hr, hs, q⟩ := h
  cases d with
  | list ds =>
    obtain ⟨a, xs, rfl, h1, h2⟩ := hr
    simp only [sem1, Option.map_eq_some_iff] at hs
    obtain ⟨bs, e, rfl⟩ := hs
    have e2 := h2.ints e
    subst e2
    exact ⟨a, bs, rfl, h1.sq, q _ _ (Same.refl _) (.int _)⟩
  | _ => simp [sem1] at hs
theorem c_tuple : CallR X (.type "tuple") (l1 (R1 X.K .tuple)) := by
  refine CallR.to1 call_tuple_of fun v H Q h => ?_
  obtain ⟨Γ, O, d, r, ho, hr, hs, q⟩ := h
  cases d with
  | list ds =>
    obtain ⟨a, xs, rfl, h1, h2⟩ := hr
    simp [sem1] at hs; subst hs
    exact ⟨a, xs, rfl, .inl ⟨h1.sq, fun l hl => q _ _ (same_upd hl) (mkT hl h2)⟩⟩
  | tuple ds =>
    cases hr with
    | tup h1 h2 =>
      simp [sem1] at hs; subst hs
      exact ⟨_, _, rfl, .inr ⟨h1, q _ _ (Same.refl _) (.tup h1 h2)⟩⟩
  | _ => simp [sem1] at hs
theorem c_list : CallR X (.type "list") (l1 (R1 X.K .list)) := by
  refine CallR.to1 call_list_of fun v H Q h => ?_
  obtain ⟨Γ, O, d, r, ho, hr, hs, q⟩ := h
  cases d with
  | list ds =>
    obtain ⟨a, xs, rfl, h1, h2⟩ := hr
    simp [sem1] at hs; subst hs
    exact ⟨a, xs, rfl, .inl h1.sq, fun l hl => q _ _ (same_upd hl) (mkL ho hl h2)⟩
  | tuple ds =>
    cases hr with
    | tup h1 h2 =>
      simp [sem1] at hs; subst hs
      exact ⟨_, _, rfl, .inr h1, fun l hl => q _ _ (same_upd hl) (mkL ho hl h2)⟩
  | _ => simp [sem1] at hs
theorem RRep.isN : ∀ {d : D} {v : V} {H : Hp} {O : Addr → Prop}, RRep X.K Γ H O v d → decide (v = V.non) = isNoneD d
  | .none, _, _, _, h => by cases h; rfl
  | .bool _, _, _, _, h => by cases h; rfl
  | .int _, _, _, _, h => by cases h; rfl
  | .str _, _, _, _, h => by cases h; rfl
  | .tuple _, _, _, _, h => by cases h; rfl
  | .dict _, _, _, _, h => by cases h; rfl
  | .list _, _, _, _, h => by obtain ⟨a, xs, rfl, _⟩ := h; rfl
end
section
variable {X : Cx} {Γ : Gh}
theorem o_add : OpR X (binaryOp .Add) (R2 X.K .add) := by
  intro pins s σ H x y v u Q I rx ry h
  obtain ⟨Γ, O, d, e, r, ho, h1, h2, hs, q⟩ := h
  cases d with
  | int i =>
    cases e with
    | int j =>
      cases h1; cases h2
      simp [sem2] at hs; subst hs
      exact op_add pins s σ H _ _ v u Q I rx ry ⟨i, j, rfl, rfl, q _ _ (Same.refl _) (.int _)⟩
    | _ => simp [sem2] at hs
  | str a =>
    cases e with
    | str b =>
      cases h1; cases h2
      simp only [sem2] at hs
      split at hs
      · rename_i hl
        cases hs
        exact op_add_str pins s σ H _ _ v u Q I rx ry ⟨a, b, rfl, rfl, hl, q _ _ (Same.refl _) (.str _ (by rw [TL.len_tl, TL.tl_append, List.length_append, ← TL.len_tl, ← TL.len_tl]; exact hl))⟩
      · cases hs
    | _ => simp [sem2] at hs
  | tuple a =>
    cases e with
    | tuple b =>
      cases h1 with
      | tup t1 r1 =>
        cases h2 with
        | tup t2 r2 =>
          simp only [sem2] at hs
          split at hs
          · rename_i hl
            cases hs
            refine op_catA pins s σ H _ _ v u Q I rx ry ⟨_, _, _, _, rfl, rfl, t1, t2, by rw [r1.length, r2.length]; exact hl, fun e0 => ?_, fun _ e1 => ?_, fun _ _ p hp => ?_⟩
            · subst e0
              have : a = [] := by cases a with | nil => rfl | cons _ _ => cases r1
              subst this
              exact q _ _ (Same.refl _) (.tup t2 r2)
            · subst e1
              have : b = [] := by cases b with | nil => rfl | cons _ _ => cases r2
              subst this
              rw [List.append_nil] at q
              exact q _ _ (Same.refl _) (.tup t1 r1)
            · exact q _ _ (same_upd hp) (mkT hp (r1.append r2))
          · cases hs
    | _ => simp [sem2] at hs
  | list a =>
    cases e with
    | list b =>
      obtain ⟨p1, xs, rfl, t1, r1⟩ := h1
      obtain ⟨p2, ys, rfl, t2, r2⟩ := h2
      simp only [sem2] at hs
      split at hs
      · rename_i hl
        cases hs
        cases rx; cases ry
        obtain ⟨its1, v1, l1, z1⟩ := I.list t1.sq
        obtain ⟨its2, v2, l2, z2⟩ := I.list t2.sq
        obtain ⟨⟨cls, dd, data, sl⟩, n, ho1, hc, hd', hd⟩ := l1
        obtain ⟨⟨cls2, dd2, data2, sl2⟩, n2, ho2, hc2, hd2', hd2⟩ := l2
        simp only at hc hd hc2 hd2
        subst hc hd hc2 hd2
        have hl' : xs.length + ys.length ≤ sizeLine := by rw [r1.length, r2.length]; exact hl
        have ea : its1.toArray ++ its2.toArray = (its1 ++ its2).toArray := by simp
        refine concat_meets ⟨_, ho1, rfl⟩ ⟨_, ho2, rfl⟩ noFill_list_add seq_list_add PySem.F.slot_list_add PySem.F.entry_list_add (PySem.F.args_list_add_2 _ _) (list_addW p1 p2 its1.toArray its2.toArray n n2 dd dd2 sl sl2 (by simpa [← v1.length, ← v2.length] using hl')) ⟨ho1, ho2, ?_⟩
        rw [ea]
        exact ⟨.ref _, _, I.lnew (t' := s.toks) (v1.append v2) (by rw [List.length_append]; exact hl'), rfl, q _ _ (same_upd I.fresh) (mkL ho I.fresh (r1.append r2))⟩
      · cases hs
    | _ => simp [sem2] at hs
  | _ => cases e <;> simp [sem2] at hs
theorem o_sub : OpR X (binaryOp .Sub) (R2 X.K .sub) := by
  intro pins s σ H x y v u Q I rx ry h
  obtain ⟨Γ, O, d, e, r, ho, h1, h2, hs, q⟩ := h
  cases d with
  | int i =>
    cases e with
    | int j =>
      cases h1; cases h2
      simp [sem2] at hs; subst hs
      exact op_sub pins s σ H _ _ v u Q I rx ry ⟨i, j, rfl, rfl, q _ _ (Same.refl _) (.int _)⟩
    | _ => simp [sem2] at hs
  | _ => cases e <;> simp [sem2] at hs
theorem o_mul : OpR X (binaryOp .Mult) (R2 X.K .mul) := by
  intro pins s σ H x y v u Q I rx ry h
  obtain ⟨Γ, O, d, e, r, ho, h1, h2, hs, q⟩ := h
  cases d with
  | int i =>
    cases e with
    | int j =>
      cases h1; cases h2
      simp only [sem2] at hs
      split at hs
      · rename_i hc
        cases hs
        exact op_mul pins s σ H _ _ v u Q I rx ry ⟨i, j, rfl, rfl, hc, q _ _ (Same.refl _) (.int _)⟩
      · cases hs
    | _ => simp [sem2] at hs
  | _ => cases e <;> simp [sem2] at hs
theorem o_fdiv : OpR X (binaryOp .FloorDiv) (R2 X.K .fdiv) := by
  intro pins s σ H x y v u Q I rx ry h
  obtain ⟨Γ, O, d, e, r, ho, h1, h2, hs, q⟩ := h
  cases d with
  | int i =>
    cases e with
    | int j =>
      cases h1; cases h2
      simp only [sem2] at hs
      split at hs
      · rename_i hc
        cases hs
        exact op_fdivN pins s σ H _ _ v u Q I rx ry ⟨i, j, rfl, rfl, hc, q _ _ (Same.refl _) (.int _)⟩
      · cases hs
    | _ => simp [sem2] at hs
  | _ => cases e <;> simp [sem2] at hs
theorem o_mod : OpR X (binaryOp .Mod) (R2 X.K .mod) := by
  intro pins s σ H x y v u Q I rx ry h
  obtain ⟨Γ, O, d, e, r, ho, h1, h2, hs, q⟩ := h
  cases d with
  | int i =>
    cases e with
    | int j =>
      cases h1; cases h2
      simp only [sem2] at hs
      split at hs
      · rename_i hc
        cases hs
        exact op_modN pins s σ H _ _ v u Q I rx ry ⟨i, j, rfl, rfl, hc, q _ _ (Same.refl _) (.int _)⟩
      · cases hs
    | _ => simp [sem2] at hs
  | _ => cases e <;> simp [sem2] at hs
theorem o_pow : OpR X (binaryOp .Pow) (R2 X.K .pow) := by
  intro pins s σ H x y v u Q I rx ry h
  obtain ⟨Γ, O, d, e, r, ho, h1, h2, hs, q⟩ := h
  cases d with
  | int i =>
    cases e with
    | int j =>
      cases h1; cases h2
      simp only [sem2] at hs
      split at hs
      · rename_i hc
        cases hs
        exact op_pow pins s σ H _ _ v u Q I rx ry ⟨i, j, rfl, rfl, hc, q _ _ (Same.refl _) (.int _)⟩
      · cases hs
    | _ => simp [sem2] at hs
  | _ => cases e <;> simp [sem2] at hs
theorem dec_str' {a b : Str} : decide (V.str a = V.str b) = PyData.eqv (.str a) (.str b) := by
  simp only [PyData.eqv, V.str.injEq]
  rw [Bool.eq_iff_iff]; simp
theorem o_eq (hu : X.A.units + 64 < cLine) : OpR X (compareOp .Eq) (R2 X.K .eq) := by
  intro pins s σ H x y v u Q I rx ry h
  obtain ⟨Γ, O, d, e, r, ho, h1, h2, hs, q⟩ := h
  simp only [sem2] at hs
  split at hs
  · rename_i hc
    cases hs
    rcases hc with hc | hc
    · cases d <;> cases e <;> simp [bothS] at hc
      cases h1; cases h2
      refine op_eq pins s σ H _ _ v u Q I rx ry ⟨rfl, ?_⟩
      rw [dec_str']
      exact q _ _ (Same.refl _) (.bl _)
    · exact op_eqD hu pins s σ H _ _ v u Q I rx ry ⟨d, e, h1.dp (shaped_dict hc.1), h2.dp (shaped_dict hc.2), hc.1, hc.2, q _ _ (Same.refl _) (.bl _)⟩
  · cases hs
theorem o_ne (hu : X.A.units + 64 < cLine) : OpR X (compareOp .NotEq) (R2 X.K .ne) := by
  intro pins s σ H x y v u Q I rx ry h
  obtain ⟨Γ, O, d, e, r, ho, h1, h2, hs, q⟩ := h
  simp only [sem2] at hs
  split at hs
  · rename_i hc
    cases hs
    rcases hc with hc | hc
    · cases d <;> cases e <;> simp [bothS] at hc
      cases h1; cases h2
      refine op_ne pins s σ H _ _ v u Q I rx ry ⟨rfl, ?_⟩
      rw [dec_str']
      exact q _ _ (Same.refl _) (.bl _)
    · exact op_neD hu pins s σ H _ _ v u Q I rx ry ⟨d, e, h1.dp (shaped_dict hc.1), h2.dp (shaped_dict hc.2), hc.1, hc.2, q _ _ (Same.refl _) (.bl _)⟩
  · cases hs
theorem o_lt : OpR X (compareOp .Lt) (R2 X.K .lt) := by
  intro pins s σ H x y v u Q I rx ry h
  obtain ⟨Γ, O, d, e, r, ho, h1, h2, hs, q⟩ := h
  cases d with
  | int i =>
    cases e with
    | int j =>
      cases h1; cases h2
      simp [sem2] at hs; subst hs
      exact op_lt pins s σ H _ _ v u Q I rx ry ⟨i, j, rfl, rfl, q _ _ (Same.refl _) (.bl _)⟩
    | _ => simp [sem2] at hs
  | str i =>
    cases e with
    | str j =>
      cases h1; cases h2
      simp [sem2] at hs; subst hs
      exact op_lt_str pins s σ H _ _ v u Q I rx ry ⟨i, j, rfl, rfl, q _ _ (Same.refl _) (.bl _)⟩
    | _ => simp [sem2] at hs
  | _ => cases e <;> simp [sem2] at hs
theorem o_le : OpR X (compareOp .LtE) (R2 X.K .le) := by
  intro pins s σ H x y v u Q I rx ry h
  obtain ⟨Γ, O, d, e, r, ho, h1, h2, hs, q⟩ := h
  cases d with
  | int i =>
    cases e with
    | int j =>
      cases h1; cases h2
      simp [sem2] at hs; subst hs
      exact op_le pins s σ H _ _ v u Q I rx ry ⟨i, j, rfl, rfl, q _ _ (Same.refl _) (.bl _)⟩
    | _ => simp [sem2] at hs
  | _ => cases e <;> simp [sem2] at hs
theorem o_gt : OpR X (compareOp .Gt) (R2 X.K .gt) := by
  intro pins s σ H x y v u Q I rx ry h
  obtain ⟨Γ, O, d, e, r, ho, h1, h2, hs, q⟩ := h
  cases d with
  | int i =>
    cases e with
    | int j =>
      cases h1; cases h2
      simp [sem2] at hs; subst hs
      exact op_gt pins s σ H _ _ v u Q I rx ry ⟨i, j, rfl, rfl, q _ _ (Same.refl _) (.bl _)⟩
    | _ => simp [sem2] at hs
  | _ => cases e <;> simp [sem2] at hs
theorem o_ge : OpR X (compareOp .GtE) (R2 X.K .ge) := by
  intro pins s σ H x y v u Q I rx ry h
  obtain ⟨Γ, O, d, e, r, ho, h1, h2, hs, q⟩ := h
  cases d with
  | int i =>
    cases e with
    | int j =>
      cases h1; cases h2
      simp [sem2] at hs; subst hs
      exact op_ge pins s σ H _ _ v u Q I rx ry ⟨i, j, rfl, rfl, q _ _ (Same.refl _) (.bl _)⟩
    | _ => simp [sem2] at hs
  | _ => cases e <;> simp [sem2] at hs
theorem canLayAll_of : ∀ {xs : List D}, allShaped xs = true → PyData.canLayAll0 xs = true
  | [], _ => rfl
  | x :: xs, h => by
    simp only [allShaped, List.all_cons, Bool.and_eq_true] at h
    simp only [PyData.canLayAll0, Bool.and_eq_true]
    exact ⟨SeqAt.canLay_of_shaped h.1, canLayAll_of h.2⟩
theorem depth_of_shaped {d : D} (h : SeqAt.shaped d = true) : d.depth ≤ 64 := by
  unfold SeqAt.shaped at h
  simp only [Bool.and_eq_true, decide_eq_true_eq] at h
  exact h.2
theorem hasDictAll_of {xs : List D} (h : allShaped xs = true) : PyData.hasDictAll xs = false := PyData.hasDictAll_of_canLayAll xs (canLayAll_of h)
theorem sign1 {c : Str} {n : Nat} (e : c.cps.toList = [n]) : c = ⟨#[n]⟩ := TL.ext_tl e
theorem o_in (hu : X.A.units + 65 < cLine) : OpR X (compareOp .In) (R2 X.K .inn) := by
  intro pins s σ H x y v u Q I rx ry h
  obtain ⟨Γ, O, d, e, r, ho, h1, h2, hs, q⟩ := h
  have key : SeqAt.shaped d = true → ∀ ys, (e = .list ys ∨ e = .tuple ys) → allShaped ys = true → r = .bool (inD d ys) → wpAny (model X.prog X.w) X.A (compareOp .In v u) (EP X pins σ Q) X.xe s := fun hd ys he hys hr => by
    subst hr
    obtain ⟨as, r1⟩ := Dp.reads I d x v (h1.dp (shaped_dict hd)) rx
    have hroom : X.A.units + 1 + min (PyData.depthAll ys) d.depth < cLine := by have := depth_of_shaped hd; omega
    rcases he with rfl | rfl
    · obtain ⟨bs, r2⟩ := Dp.reads I _ y u (h2.dp (by simpa [PyData.hasDict] using hasDictAll_of hys)) ry
      exact SeqAt.in_list_reads r2 r1 (canLayAll_of hys) (SeqAt.canLay_of_shaped hd) hroom ⟨.bl _, H, I, rfl, q _ _ (Same.refl _) (.bl _)⟩
    · obtain ⟨bs, r2⟩ := Dp.reads I _ y u (h2.dp (by simpa [PyData.hasDict] using hasDictAll_of hys)) ry
      exact SeqAt.in_tuple_reads r2 r1 (canLayAll_of hys) (SeqAt.canLay_of_shaped hd) hroom ⟨.bl _, H, I, rfl, q _ _ (Same.refl _) (.bl _)⟩
  cases e with
  | list ys =>
    have hs' : (if SeqAt.shaped d = true ∧ allShaped ys = true then some (PyData.bool (inD d ys)) else none) = some r := by cases d <;> simpa [sem2] using hs
    split at hs'
    · rename_i hc
      exact key hc.1 ys (.inl rfl) hc.2 (Option.some.inj hs').symm
    · cases hs'
  | tuple ys =>
    have hs' : (if SeqAt.shaped d = true ∧ allShaped ys = true then some (PyData.bool (inD d ys)) else none) = some r := by cases d <;> simpa [sem2] using hs
    split at hs'
    · rename_i hc
      exact key hc.1 ys (.inr rfl) hc.2 (Option.some.inj hs').symm
    · cases hs'
  | str z =>
    cases d with
    | str c =>
      simp only [sem2] at hs
      split at hs
      · rename_i n hn
        cases hs
        cases h1; cases h2
        have ec := sign1 hn
        subst ec
        exact op_in_sign pins s σ H _ _ v u Q I rx ry ⟨n, z, rfl, rfl, q _ _ (Same.refl _) (.bl _)⟩
      · cases hs
    | _ => simp [sem2] at hs
  | _ => cases d <;> simp [sem2] at hs
theorem o_nin (hu : X.A.units + 65 < cLine) : OpR X (compareOp .NotIn) (R2 X.K .nin) := by
  intro pins s σ H x y v u Q I rx ry h
  obtain ⟨Γ, O, d, e, r, ho, h1, h2, hs, q⟩ := h
  have key : SeqAt.shaped d = true → ∀ ys, (e = .list ys ∨ e = .tuple ys) → allShaped ys = true → r = .bool (!inD d ys) → wpAny (model X.prog X.w) X.A (compareOp .NotIn v u) (EP X pins σ Q) X.xe s := fun hd ys he hys hr => by
    subst hr
    obtain ⟨as, r1⟩ := Dp.reads I d x v (h1.dp (shaped_dict hd)) rx
    have hroom : X.A.units + 1 + min (PyData.depthAll ys) d.depth < cLine := by have := depth_of_shaped hd; omega
    rcases he with rfl | rfl
    · obtain ⟨bs, r2⟩ := Dp.reads I _ y u (h2.dp (by simpa [PyData.hasDict] using hasDictAll_of hys)) ry
      exact SeqAt.notIn_list_reads r2 r1 (canLayAll_of hys) (SeqAt.canLay_of_shaped hd) hroom ⟨.bl _, H, I, rfl, q _ _ (Same.refl _) (.bl _)⟩
    · obtain ⟨bs, r2⟩ := Dp.reads I _ y u (h2.dp (by simpa [PyData.hasDict] using hasDictAll_of hys)) ry
      exact SeqAt.notIn_tuple_reads r2 r1 (canLayAll_of hys) (SeqAt.canLay_of_shaped hd) hroom ⟨.bl _, H, I, rfl, q _ _ (Same.refl _) (.bl _)⟩
  cases e with
  | list ys =>
    have hs' : (if SeqAt.shaped d = true ∧ allShaped ys = true then some (PyData.bool (!inD d ys)) else none) = some r := by cases d <;> simpa [sem2] using hs
    split at hs'
    · rename_i hc
      exact key hc.1 ys (.inl rfl) hc.2 (Option.some.inj hs').symm
    · cases hs'
  | tuple ys =>
    have hs' : (if SeqAt.shaped d = true ∧ allShaped ys = true then some (PyData.bool (!inD d ys)) else none) = some r := by cases d <;> simpa [sem2] using hs
    split at hs'
    · rename_i hc
      exact key hc.1 ys (.inr rfl) hc.2 (Option.some.inj hs').symm
    · cases hs'
  | str z =>
    cases d with
    | str c =>
      simp only [sem2] at hs
      split at hs
      · rename_i n hn
        cases hs
        cases h1; cases h2
        have ec := sign1 hn
        subst ec
        exact op_notIn_sign pins s σ H _ _ v u Q I rx ry ⟨n, z, rfl, rfl, q _ _ (Same.refl _) (.bl _)⟩
      · cases hs
    | _ => simp [sem2] at hs
  | _ => cases d <;> simp [sem2] at hs
theorem atI_reps {K : PySem.W.Frag} {H : Hp} {O : Addr → Prop} {vs : List V} {ds : List D} {i : Int} {d : D} (h : Reps K H O vs ds) (e : atI ds i = some d) : ∃ v, atI vs i = some v ∧ Rep K H O v d := by
  unfold atI at e ⊢
  rw [h.length]
  rw [Option.bind_eq_some_iff] at e
  obtain ⟨j, e1, e2⟩ := e
  obtain ⟨v, e3, r⟩ := h.get' e2
  exact ⟨v, by rw [e1]; exact e3, r⟩
theorem o_ix : IxR X (R2 X.K .ix) := by
  intro value slice pins s σ H x y v u Q I rx ry h hh
  obtain ⟨Γ, O, d, e, r, ho, h1, h2, hs, q⟩ := h
  cases e with
  | int i =>
    cases h2
    cases d with
    | list ds =>
      obtain ⟨a, xs, rfl, t1, r1⟩ := h1
      obtain ⟨w, ew, rw'⟩ := atI_reps r1 (by simpa [sem2] using hs)
      exact ix_seq value slice pins s σ H _ _ v u Q I rx ry (.inl ⟨a, xs, i, w, rfl, rfl, t1.sq, ew, q _ _ (Same.refl _) rw'⟩) hh
    | tuple ds =>
      cases h1 with
      | tup t1 r1 =>
        obtain ⟨w, ew, rw'⟩ := atI_reps r1 (by simpa [sem2] using hs)
        exact ix_seq value slice pins s σ H _ _ v u Q I rx ry (.inr (.inl ⟨_, _, i, w, rfl, rfl, t1, ew, q _ _ (Same.refl _) rw'⟩)) hh
    | str z =>
      cases h1 with
      | str _ hl =>
        simp only [sem2, Option.map_eq_some_iff] at hs
        obtain ⟨c, ec, rfl⟩ := hs
        exact ix_seq value slice pins s σ H _ _ v u Q I rx ry (.inr (.inr ⟨z, i, c, rfl, rfl, hl, ec, q _ _ (Same.refl _) (.str _ (by show 1 ≤ sizeLine; rw [sizeLine_eq]; decide))⟩)) hh
    | _ => simp [sem2] at hs
  | _ => cases d <;> simp [sem2] at hs
/-- slices -/
def RSl (K : PySem.W.Frag) : V → Option Int → Option Int → Hp → VK → Prop := fun v lo hi H Q => ∃ Γ O d r, OTr O H ∧ RRep K Γ H O v d ∧ semSl d lo hi = some r ∧ ∀ v' H', Same H H' → Rep K H' O v' r → Q v' H'
theorem cut_reps {K : PySem.W.Frag} {H : Hp} {O : Addr → Prop} {vs : List V} {ds : List D} {lo hi : Option Int} (h : Reps K H O vs ds) : Reps K H O (cutV vs lo hi) (cutD ds lo hi) := by
  unfold cutV cutD
  rw [h.length]
  exact (h.drop _).take _
theorem sl_any : SlR X (RSl X.K) := by
  intro pins s σ H x v vl vu lo hi sl Q I rx hs pl pu h
  obtain ⟨Γ, O, d, r, ho, h1, hsl, q⟩ := h
  cases d with
  | list ds =>
    obtain ⟨a, xs, rfl, t1, r1⟩ := h1
    simp [semSl] at hsl; subst hsl
    exact sl_list pins s σ H _ v vl vu lo hi sl Q I rx hs pl pu ⟨a, xs, rfl, t1.sq, fun p hp => q _ _ (same_upd hp) (mkL ho hp (cut_reps r1))⟩
  | tuple ds =>
    cases h1 with
    | tup t1 r1 =>
      simp [semSl] at hsl; subst hsl
      refine sl_tupA pins s σ H _ v vl vu lo hi sl Q I rx hs pl pu ⟨_, _, rfl, t1, fun hw => ?_, fun _ p hp => q _ _ (same_upd hp) (mkT hp (cut_reps r1))⟩
      have e : cutD ds lo hi = ds := by
        unfold cutD
        rw [← r1.length, hw.1, hw.2, r1.length]
        simp
      rw [e] at q
      exact q _ _ (Same.refl _) (.tup t1 r1)
  | str z =>
    cases h1 with
    | str _ hl =>
      simp [semSl] at hsl; subst hsl
      refine sl_str pins s σ H _ v vl vu lo hi sl Q I rx hs pl pu ⟨z, rfl, hl, q _ _ (Same.refl _) (.str _ ?_)⟩
      have : (cutS z lo hi).length ≤ z.length := by
        rw [TL.len_tl, TL.len_tl]
        show ((TL.tl z |>.drop _).take _).length ≤ _
        rw [List.length_take, List.length_drop]
        omega
      omega
  | _ => simp [semSl] at hsl
end
end Tk
namespace Tk
open PySem PySem.Spec PyProof.Rows L2
theorem l1_ex {r : V → Hp → VK → Prop} {xs : List V} {H : Hp} {Q : VK} (h : l1 r xs H Q) : ∃ x, xs = [x] ∧ r x H Q := by
  match xs, h with
  | [x], h => exact ⟨x, rfl, h⟩
theorem l2_ex {r : V → V → Hp → VK → Prop} {xs : List V} {H : Hp} {Q : VK} (h : l2 r xs H Q) : ∃ x y, xs = [x, y] ∧ r x y H Q := by
  match xs, h with
  | [x, y], h => exact ⟨x, y, rfl, h⟩
section
variable {X : Cx}
theorem c_int : CallR X (.type "int") (l1 (R1 X.K .int)) := by
  intro pins s σ H xs us Q I r h
  obtain ⟨x, rfl, Γ, O, d, r', ho, h1, hs, q⟩ := l1_ex h
  cases d with
  | int i =>
    cases h1; simp [sem1] at hs; subst hs
    exact call_int1 pins s σ H _ us Q I r (.inl ⟨i, rfl, q _ _ (Same.refl _) (.int _)⟩)
  | bool b =>
    cases h1; simp [sem1] at hs; subst hs
    exact call_int1 pins s σ H _ us Q I r (.inr ⟨b, rfl, q _ _ (Same.refl _) (by simpa using Rep.int _)⟩)
  | _ => simp [sem1] at hs
theorem c_max2 (hc : X.calm = true) : CallR X (.builtin "max") (l2 (R2 X.K .max2)) := by
  intro pins s σ H xs us Q I r h
  obtain ⟨x, y, rfl, Γ, O, d, e, r', ho, h1, h2, hs, q⟩ := l2_ex h
  cases d with
  | int i =>
    cases e with
    | int j =>
      cases h1; cases h2; simp only [sem2, Option.some.injEq] at hs; subst hs
      exact call_max2 hc pins s σ H _ us Q I r ⟨i, j, rfl, q _ _ (Same.refl _) (.int _)⟩
    | _ => simp [sem2] at hs
  | _ => cases e <;> simp [sem2] at hs
theorem c_min2 (hc : X.calm = true) : CallR X (.builtin "min") (l2 (R2 X.K .min2)) := by
  intro pins s σ H xs us Q I r h
  obtain ⟨x, y, rfl, Γ, O, d, e, r', ho, h1, h2, hs, q⟩ := l2_ex h
  cases d with
  | int i =>
    cases e with
    | int j =>
      cases h1; cases h2; simp only [sem2, Option.some.injEq] at hs; subst hs
      exact call_min2 hc pins s σ H _ us Q I r ⟨i, j, rfl, q _ _ (Same.refl _) (.int _)⟩
    | _ => simp [sem2] at hs
  | _ => cases e <;> simp [sem2] at hs
theorem each_of {K : PySem.W.Frag} {H : Hp} {O : Addr → Prop} {s : Shared} : ∀ {vs : List V} {us : List Value} {ds : List D}, Vals vs us → Reps K H O vs ds → PySem.W.EachIs (fun v d => ∃ x, RelV x v ∧ Rep K H O x d) us ds
  | [], _, _, .nil, h => by cases h; exact .nil
  | _ :: _, _, _, .cons r rs, h => by
    cases h with
    | cons h1 h2 => exact .cons ⟨_, r, h1⟩ (each_of (s := s) rs h2)
theorem of_each {K : PySem.W.Frag} {H : Hp} {O : Addr → Prop} : ∀ {us : List Value} {ds : List D}, PySem.W.EachIs (fun v d => ∃ x, RelV x v ∧ Rep K H O x d) us ds → ∃ vs, Vals vs us ∧ Reps K H O vs ds
  | _, _, .nil => ⟨[], .nil, .nil⟩
  | _, _, .cons ⟨x, r, h⟩ e => by
    obtain ⟨vs, a, b⟩ := of_each e
    exact ⟨x :: vs, .cons r a, .cons h b⟩
theorem c_sorted (hu : X.A.units + 100 < cLine) : CallR X (.builtin "sorted") (l1 (R1 X.K .sorted)) := by
  intro pins s σ H xs us Q I r h
  obtain ⟨x, rfl, Γ, O, d, r', ho, h1, hs, q⟩ := l1_ex h
  cases d with
  | list ds =>
    obtain ⟨a, vs, rfl, t1, r1⟩ := h1
    simp only [sem1] at hs
    split at hs
    · rename_i hk
      cases hs
      simp only [sortOk, Bool.and_eq_true, Bool.or_eq_true, List.all_eq_true] at hk
      obtain ⟨⟨k1, k2⟩, k3⟩ := hk
      obtain ⟨its, rv, hl, hz⟩ := I.list t1.sq
      rw [Vals.ref1 r]
      have sh : ∀ d ∈ ds, SeqAt.shaped d = true := List.all_eq_true.mp k1
      have hd : ∀ d ∈ ds, d.hasDict = false := fun d h => shaped_dict (sh d h)
      have e0 := each_of (s := s) rv r1
      have er : PySem.W.EachIs (fun v b => ∃ as, Reads s.heap v (id b) as) its ds := by
        have go : ∀ {us : List Value} {ds : List D}, (∀ d ∈ ds, d.hasDict = false) → PySem.W.EachIs (fun v d => ∃ x, RelV x v ∧ Rep X.K H O x d) us ds → PySem.W.EachIs (fun v b => ∃ as, Reads s.heap v (id b) as) us ds := by
          intro us ds hd e
          induction e with
          | nil => exact .nil
          | @cons a b as bs h e ih =>
            obtain ⟨x, rx, hx⟩ := h
            exact .cons (Dp.reads I b x a (Rep.dp b x (hd b (by simp)) hx) rx) (ih fun d h => hd d (by simp [h]))
        exact go hd e0
      refine PySem.W.sorted_data (enc := id) hl.isList e0 er ?_ ?_ ?_ ?_ fun out ho' eo => ?_
      · rw [List.map_id]
        exact fun d h d' h' => k2 d h d' h'
      · rw [List.map_id]
        rcases k3 with k3 | k3
        · refine .inl fun d h => ?_
          have := k3 d h
          cases d with
          | tuple xs =>
            cases xs with
            | nil => simp [tupNE] at this
            | cons x r => exact ⟨x, r, rfl⟩
          | _ => simp [tupNE] at this
        · refine .inr fun d h => ?_
          have := k3 d h
          cases d with
          | none => simp [noTup] at this
          | tuple xs => simp [noTup] at this
          | _ => exact ⟨by simp, fun xs z => by cases z⟩
      · rw [← r1.length]; exact hz
      · intro b hb
        have := depth_of_shaped (sh b hb)
        show X.A.units + 2 + b.depth < cLine
        omega
      · obtain ⟨ys, ry, hy⟩ := of_each eo
        obtain ⟨ep, he'⟩ := PyProof.Rows.sortedAll_at s.heap its out.toArray
        have hlen : ys.length ≤ sizeLine := by rw [ry.length, ho', ← r1.length]; exact hz
        have hp := I.hok.fresh (Nat.le_succ s.heap.objs.size)
        exact ⟨.ref _, upd H (s.heap.objs.size + 1) (.lst ys), I.laid (t' := s.toks) (fun _ _ => PyProof.Rows.sortedAll_old) (Nat.le_succ _) ⟨hlen, out, ep, by simpa using ry, he'⟩, rfl, q _ _ (same_upd hp) (mkL ho hp hy)⟩
    · cases hs
  | _ => simp [sem1] at hs
theorem ints_hold {h : Heap} : ∀ {is : List Int} {us : List Value}, Vals (is.map V.int) us → ∃ as, ReadsAll h us (is.map PyData.int) as
  | [], _, .nil => ⟨[], .nil⟩
  | i :: is, _, .cons r rs => by
    obtain ⟨t, rfl⟩ := r
    obtain ⟨as, q⟩ := ints_hold (h := h) (is := is) rs
    exact ⟨_, .cons (.int ..) q⟩
/-- max(xs, default=0) -/
def rMax0 (K : PySem.W.Frag) : List V → List V → Hp → VK → Prop := fun xs zs H Q => ∃ v, xs = [v] ∧ zs = [.int 0] ∧ R1 K .max0 v H Q
theorem maxOf_maxI (y : Int) (ys : List Int) : PySem.W.maxOf y ys = maxI (y :: ys) := by
  unfold PySem.W.maxOf maxI
  congr 1
  funext a b
  show (if decide (a < b) = true then b else a) = _
  simp
theorem ck_max0 (hc : X.calm = true) (hu : X.A.units + 100 < cLine) : CallRK X (.builtin "max") [Str.ofString "default"] (rMax0 X.K) := by
  intro pins s σ H xs zs us ws Q I r rz h
  obtain ⟨v, rfl, rfl, Γ, O, d, r', ho, h1, hs, q⟩ := h
  cases d with
  | list ds =>
    obtain ⟨a, vs, rfl, t1, r1⟩ := h1
    simp only [sem1, Option.map_eq_some_iff] at hs
    obtain ⟨is, e, rfl⟩ := hs
    have e2 := r1.ints e
    subst e2
    obtain ⟨its, rv, hl, hz⟩ := I.list t1.sq
    rw [Vals.ref1 r]
    cases rz with
    | cons rz0 rz1 =>
      cases rz1
      obtain ⟨t, rfl⟩ := rz0
      have hh : X.A.handled = none := I.ok.hd hc
      have hold : PySem.W.HoldAll s.heap its.toArray.toList is := ints_hold rv
      refine PySem.W.max_list_datum_default (d := .int 0 t) hh hl.isList hold (by show X.A.units + 1 + 0 < cLine; omega) (fun e0 h' tk hk => ?_) fun y ys i v h' tk ey hi hv hk => ?_
      · subst e0
        exact ⟨.int 0, H, I.kept hk, ⟨_, rfl⟩, q _ _ (Same.refl _) (.int _)⟩
      · subst ey
        obtain ⟨as, rd⟩ := hv
        rw [maxOf_maxI] at rd
        cases rd
        exact ⟨.int _, H, I.kept hk, ⟨_, rfl⟩, q _ _ (Same.refl _) (.int _)⟩
  | _ => simp [sem1] at hs
end
end Tk
namespace Tk
open PySem PySem.Spec PyProof.Rows L2 HT
open PySem.SeqAt
open PySem.MeetsSeq PySem.MeetsSeq2 PySem.MeetsSeq3
theorem Reps.rev {K : PySem.W.Frag} {H : Hp} {O : Addr → Prop} : ∀ {vs : List V} {ds : List D}, Reps K H O vs ds → Reps K H O vs.reverse ds.reverse
  | [], [], _ => .nil
  | [], _ :: _, h => by cases h
  | _ :: _, [], h => by cases h
  | v :: vs, d :: ds, h => by
    cases h with
    | cons h1 h2 =>
      rw [List.reverse_cons, List.reverse_cons]
      exact (Reps.rev h2).append (.cons h1 .nil)
theorem places_rev (n : Nat) : Builtin.Slice.slicePlaces ((n : Int) - 1) (-1) (-1) = n := by
  unfold Builtin.Slice.slicePlaces
  have h1 : ¬ ((-1 : Int) > 0) := by omega
  simp only [h1, if_false, Int.neg_neg, Int.ediv_one]
  split <;> omega
theorem fm_map {α β : Type} {f : α → Option β} {g : α → β} : ∀ l : List α, (∀ m ∈ l, f m = some (g m)) → l.filterMap f = l.map g
  | [], _ => rfl
  | a :: l, h => by
    rw [List.filterMap_cons, h a (by simp), List.map_cons, fm_map l fun m hm => h m (by simp [hm])]
theorem pick_rev (xs : Array Value) : ((List.range xs.size).filterMap fun (m : Nat) => xs[(((xs.size : Int) - 1) + (m : Int) * (-1)).toNat]?).toArray = xs.toList.reverse.toArray := by
  congr 1
  apply List.ext_getElem?
  intro i
  by_cases hi : i < xs.size
  · have h1 : ∀ m, m < xs.size → xs[(((xs.size : Int) - 1) + (m : Int) * (-1)).toNat]? = some (xs.toList.reverse.getD m .none) := fun m hm => by
      have e : (((xs.size : Int) - 1) + (m : Int) * (-1)).toNat = xs.size - 1 - m := by omega
      rw [e]
      have : xs.size - 1 - m < xs.size := by omega
      rw [Array.getElem?_eq_getElem this, List.getD_eq_getElem?_getD, List.getElem?_reverse (by simpa using hm)]
      simp [this]
    have h2 : (List.range xs.size).filterMap (fun (m : Nat) => xs[(((xs.size : Int) - 1) + (m : Int) * (-1)).toNat]?) = (List.range xs.size).map fun m => xs.toList.reverse.getD m .none := by
      exact fm_map _ fun m hm => h1 m (List.mem_range.mp hm)
    rw [h2, List.getElem?_map, List.getElem?_range hi]
    have : i < xs.toList.reverse.length := by simpa using hi
    simp only [Option.map_some, List.getD_eq_getElem?_getD, List.getElem?_eq_getElem this, Option.getD_some]
  · have h3 : ((List.range xs.size).filterMap fun (m : Nat) => xs[(((xs.size : Int) - 1) + (m : Int) * (-1)).toNat]?).length ≤ xs.size := by
      have := List.length_filterMap_le (fun (m : Nat) => xs[(((xs.size : Int) - 1) + (m : Int) * (-1)).toNat]?) (List.range xs.size)
      simpa using this
    rw [List.getElem?_eq_none (by omega), List.getElem?_eq_none (by simp; omega)]
section
variable {prog : Program} {w : World} {A : Around} {E : Value → Shared → Prop} {s : Shared}
theorem sliceApplied_rev {sl : Addr} {vl vu vs : Value} {n : Nat} {Q : Int × Int × Nat → Shared → Prop} (hs : s.heap.IsSliceOf sl vl vu vs) (pl : IsPart vl none) (pu : IsPart vu none) (ps : IsPart vs (some (-1)))
    (h : Q ((n : Int) - 1, -1, n) s) : wpAny (model prog w) A (Builtin.Slice.sliceApplied (.ref sl) (pure (n : Int))) Q E s := by
  obtain ⟨os, hos, hcs, hds⟩ := id hs
  unfold Builtin.Slice.sliceApplied Builtin.Slice.sliceFields
  refine wpAny_bind (wpAny_bind (wpAny_field hos hds (x := vl) rfl (wpAny_bind (wpAny_field hos hds (x := vu) rfl (wpAny_bind (wpAny_field hos hds (x := vs) rfl (wpAny_pure ?_)))))))
  refine wpAny_bind (slicePart_ ps ?_)
  show wpAny _ _ (if ((-1 : Int) == 0) = true then _ else _) _ _ s
  rw [if_neg (by decide)]
  refine wpAny_bind (slicePart_ pl (wpAny_bind (slicePart_ pu (wpAny_bind (wpAny_pure ?_)))))
  show wpAny _ _ (pure ((n : Int) - 1, (-1 : Int), Builtin.Slice.slicePlaces ((n : Int) - 1) (-1) (-1))) _ _ s
  rw [places_rev]
  exact wpAny_pure h
theorem getItem_tuple_rev {t sl : Addr} {items : Array Value} {vl vu vs : Value} {Q : Value → Shared → Prop} (ht : IsTup s.heap t items) (hs : s.heap.IsSliceOf sl vl vu vs) (pl : IsPart vl none) (pu : IsPart vu none) (ps : IsPart vs (some (-1)))
    (h : Q (.ref s.heap.objs.size) { s with heap := s.heap.push { cls := .type "tuple", data := .seq items.toList.reverse.toArray } })
    (hsz : items.size ≤ sizeLine) : wpAny (model prog w) A (getItem (.ref t) (.ref sl)) Q E s := by
  have htake : sizeOk (.seq items.toList.reverse.toArray) := by
    show items.toList.reverse.toArray.size ≤ sizeLine
    simpa using hsz
  obtain ⟨os, hos, hcs, hds⟩ := id hs
  have hTs : s.TypeIs (.ref sl) "slice" := ⟨os, hos, hcs⟩
  unfold getItem
  try with_reducible refine wpAny_holding ?_
  first | refine wpAny_bind (wpAny_pure ?_) | skip
  refine wpAny_bind (wpAny_sequenceKey ht.typeIs (by decide) ?_)
  refine wpAny_bind (wpAny_callSpecial?_slot (name := Str.ofString "__getitem__") ht.typeIs PyProof.Rows.slot_tuple_getitem
    (wpAny_call_entry PyProof.Rows.slot_tuple_getitem ht.typeIs entry_tuple_getitem ?_ (args_tuple_getitem _ _)))
  show wpAny _ _ (Builtin.Tuple.tupleItemsOf (.ref t) >>= _) _ _ s
  refine wpAny_bind (tupleItemsOf_ ht ?_)
  refine wpAny_bind (wpAny_typeOf hTs ?_)
  rw [if_pos (by decide)]
  refine wpAny_bind (sliceApplied_rev hs pl pu ps ?_)
  have hno : ¬ ((((items.size : Int) - 1) == 0 && (-1 : Int) == 1 && items.size == items.size) = true) := by simp
  show wpAny _ _ (if (((items.size : Int) - 1) == 0 && (-1 : Int) == 1 && items.size == items.size) = true then _ else _) _ _ s
  rw [if_neg hno, pick_rev]
  first
    | exact wpAny_bind (m := Builtin.Tuple.tupleExact _) (wpAny_newObj_type (wpAny_pure ⟨_, rfl, wpAny_pure h⟩) htake)
    | exact wpAny_bind (m := Builtin.Tuple.tupleExact _) (wpAny_newObj_type (wpAny_bind (wpAny_pure (wpAny_pure ⟨_, rfl, wpAny_pure h⟩))) htake)
    | exact wpAny_bind (wpAny_bind (m := Builtin.Tuple.tupleExact _) (wpAny_newObj_type (wpAny_pure (wpAny_pure ⟨_, rfl, wpAny_pure h⟩)) htake))
    | exact wpAny_bind (wpAny_bind (m := Builtin.Tuple.tupleExact _) (wpAny_newObj_type (wpAny_pure ⟨_, rfl, wpAny_pure h⟩) htake))
end
theorem pe_rev {X : Cx} {e : Expr} {te : TE} {k : Nat} {p1 p2 p3 pos : Pos} (he : PE X e te) : PE X (.Subscript e (.Slice none none (some (.UnaryOp .USub (.Constant (.int 1) k p1) p2)) p3) pos) (tUn (R1 X.K .rev) te) := by
  refine ⟨fun pins s σ H Q I h => ?_⟩
  refine Subscript_ (thn (he.run pins s σ H _ I h) fun v s1 ⟨x, H1, I1, r1, q1⟩ => ?_)
  obtain ⟨Γ, O, d, r, ho, h1, hs, q⟩ := q1
  have hst : PO X (some (.UnaryOp .USub (.Constant (.int 1) k p1) p2)) (tPart (tUn (rU fun i => .int (-i)) (tC (.int 1)))) := po_some (pe_un un_neg pe_int)
  refine wpAny_Slice (thn (po_none.run pins s1 σ H1 (fun o G => o = none ∧ G = H1) I1 ⟨rfl, rfl⟩) fun vl s2 ⟨l, G2, I2, pl, el, e2⟩ => ?_)
  subst el e2
  refine thn (po_none.run pins s2 σ G2 (fun o G => o = none ∧ G = G2) I2 ⟨rfl, rfl⟩) fun vu s3 ⟨u, G3, I3, pu, eu, e3⟩ => ?_
  subst eu e3
  refine thn (hst.run pins s3 σ G3 (fun o G => o = some (-1) ∧ G = G3) I3 ⟨1, rfl, -1, rfl, rfl, rfl⟩) fun vs s4 ⟨o, G4, I4, ps, eo, e4⟩ => ?_
  subst eo e4
  have I5 : Inv X pins σ G4 { s4 with heap := s4.heap.push { cls := .type "slice", data := .fields #[vl, vu, vs] } } := I4.kept (t' := s4.toks) fun b ob q => Heap.get?_push_of_some _ q
  have hp := I5.hok.fresh (Nat.le_refl _)
  cases d with
  | list ds =>
    obtain ⟨a, xs, rfl, t1, rs⟩ := h1
    cases r1
    simp only [sem1, Option.some.injEq] at hs
    subst hs
    obtain ⟨its, rv, ht, hz⟩ := I5.list t1.sq
    have hlen := rv.length
    show wpAny (model X.prog X.w) X.A (subscriptTail e (.Slice none none (some (.UnaryOp .USub (.Constant (.int 1) k p1) p2)) p3) (.ref a) (.ref s4.heap.objs.size)) (EP X pins σ Q) X.xe { s4 with heap := s4.heap.push { cls := .type "slice", data := .fields #[vl, vu, vs] } }
    refine tail_any (ops := [.ref a, .ref s4.heap.objs.size]) ht.isList.typeIs (PySem.slot_list_getitem.lookup) ?_ (by with_unfolding_all rfl)
    refine wpAny_getItem_list_slice ht.isList (Heap.IsSliceOf.new _ vl vu vs) pl pu ps (by decide) ?_ (by rw [List.size_toArray]; omega)
    rw [PySem.W.krv_pick]
    refine ⟨.ref _, _, I5.laid (t' := s4.toks) (o := .lst xs.reverse) (fun b ob q => Heap.get?_push_of_some _ q) (Nat.le_refl _) ?_, rfl, q _ _ (same_upd hp) (mkL ho hp (Reps.rev rs))⟩
    exact ⟨by rw [List.length_reverse]; exact hz, _, 0, rv.reverse, Heap.get?_push_size _ rfl⟩
  | tuple ds =>
    cases h1 with
    | @tup a xs _ t1 rs =>
      cases r1
      simp only [sem1, Option.some.injEq] at hs
      subst hs
      obtain ⟨its, rv, ht, hz⟩ := I5.tuple t1
      have hlen := rv.length
      show wpAny (model X.prog X.w) X.A (subscriptTail e (.Slice none none (some (.UnaryOp .USub (.Constant (.int 1) k p1) p2)) p3) (.ref a) (.ref s4.heap.objs.size)) (EP X pins σ Q) X.xe { s4 with heap := s4.heap.push { cls := .type "slice", data := .fields #[vl, vu, vs] } }
      refine tail_any (ops := [.ref a, .ref s4.heap.objs.size]) ht.typeIs (PyProof.Rows.slot_tuple_getitem.lookup) ?_ (by with_unfolding_all rfl)
      refine getItem_tuple_rev ht (Heap.IsSliceOf.new _ vl vu vs) pl pu ps ?_ (by rw [List.size_toArray]; omega)
      refine ⟨.ref _, _, I5.laid (t' := s4.toks) (o := .tup xs.reverse) (fun b ob q => Heap.get?_push_of_some _ q) (Nat.le_refl _) ?_, rfl, q _ _ (same_upd hp) (mkT hp (Reps.rev rs))⟩
      exact ⟨by rw [List.length_reverse]; exact hz, _, rv.reverse, IsTup.new _ _⟩
  | _ => simp [sem1] at hs
end Tk
namespace Tk
open PySem PySem.Spec PyProof.Rows L2
theorem PE.imp {X : Cx} {e : Expr} {t t' : TE} (h : PE X e t) (i : ∀ σ H Q, t' σ H Q → t σ H Q) : PE X e t' := ⟨fun pins s σ H Q I q => h.run pins s σ H Q I (i _ _ _ q)⟩
theorem PT.imp {X : Cx} {e : Expr} {t t' : TT} (h : PT X e t) (i : ∀ σ H Q, t' σ H Q → t σ H Q) : PT X e t' := ⟨fun pins s σ H Q I q => h.run pins s σ H Q I (i _ _ _ q)⟩
theorem PW.imp {X : Cx} {e : Expr} {t t' : TT} (h : PW X e t) (i : ∀ σ H Q, t' σ H Q → t σ H Q) : PW X e t' := ⟨fun wh pins s σ H Q I q => h.run wh pins s σ H Q I (i _ _ _ q)⟩
theorem PA.imp {X : Cx} {e : List Expr} {t t' : TA} (h : PA X e t) (i : ∀ σ H Q, t' σ H Q → t σ H Q) : PA X e t' := ⟨fun pos pins s σ H Q I q => h.run pos pins s σ H Q I (i _ _ _ q)⟩
theorem PS.imp {X : Cx} {e : Stmt} {t t' : TS} (h : PS X e t) (i : ∀ D σ H, t' D σ H → t D σ H) : PS X e t' := ⟨fun pins s σ H D I q => h.run pins s σ H D I (i _ _ _ q)⟩
theorem PSs.imp {X : Cx} {e : List Stmt} {t t' : TS} (h : PSs X e t) (i : ∀ D σ H, t' D σ H → t D σ H) : PSs X e t' := ⟨fun pins s σ H D I q => h.run pins s σ H D I (i _ _ _ q)⟩
theorem PI.imp {X : Cx} {tg e : Expr} {t t' : TI} (h : PI X tg e t) (i : ∀ σ H R, t' σ H R → t σ H R) : PI X tg e t' := ⟨fun pins s σ H R I q => h.run pins s σ H R I (i _ _ _ q)⟩
def Mono (t : TE) : Prop := ∀ σ H Q Q', (∀ v H', Q v H' → Q' v H') → t σ H Q → t σ H Q'
/-! ### looks at the text -/
def gl (sc : Scope) (x : Str) : Bool := decide (sc.names.lookup x = some .globalImplicit)
def notStar : Expr → Bool
  | .Starred _ _ => false
  | _ => true
def notSlice : Expr → Bool
  | .Slice _ _ _ _ => false
  | _ => true
def notSet : Expr → Bool
  | .Set _ _ _ => false
  | _ => true
def notSuper : Expr → Bool
  | .Call (.Name _ _) [] [] _ => false
  | _ => true
theorem star_cons {e : Expr} {es : List Expr} {env : Env} (h : notStar e = true) : starEach (e :: es) env = (false, eval e env) :: starEach es env := by
  cases e <;> first | rfl | simp [notStar] at h
def notStars (es : List Expr) : Bool := es.all notStar
theorem stars_any {env : Env} {pos : Pos} : ∀ {es : List Expr}, notStars es = true → (backTo pos (starEach es env)).any (·.1) = false
  | [], _ => rfl
  | e :: es, h => by
    simp only [notStars, List.all_cons, Bool.and_eq_true] at h
    rw [star_cons h.1]
    have := stars_any (env := env) (pos := pos) (es := es) h.2
    simpa [backTo] using this
theorem base_ok {o : Expr} {a : Str} {env : Env} {w : Sem Value} (h : notSuper o = true) : attributeBase o a env w = w := by
  unfold attributeBase
  split
  · simp [notSuper] at h
  · rfl
theorem marks_ok {op : CmpOp} {b : Expr} (h : notSet b = true) : behindInMarks op b = false := by
  cases b <;> first | rfl | simp [notSet] at h
theorem plainIx {b : Expr} (h : notSlice b = true) : PlainIx b := fun _ _ => by
  cases b <;> first | rfl | simp [notSlice] at h
def fnName : Op1 → Option Str
  | .len => some "len"
  | .all => some "all"
  | .any => some "any"
  | .sum => some "sum"
  | .tuple => some "tuple"
  | .list => some "list"
  | .repr => some "repr"
  | .sorted => some "sorted"
  | .int => some "int"
  | _ => none
/-- the built-ins that are used -/
def bltNames : List Str := ["len", "all", "any", "sum", "tuple", "list", "repr", "isinstance", "int", "str", "bool", "dict", "range", "zip", "enumerate", "sorted", "set", "max", "min", "reversed"]
def tyS : List String := ["int", "str", "bool", "list", "tuple", "dict"]
def tyNames : List Str := tyS.map Str.ofString
def isType (sc : Scope) (t : Str) : Expr → Bool
  | .Name x _ => decide (x = t) && gl sc x && decide (x ∈ tyNames)
  | _ => false
def isTypes (sc : Scope) : List Str → List Expr → Bool
  | [], [] => true
  | t :: ts, e :: es => isType sc t e && isTypes sc ts es
  | _, _ => false
def chkOp1 (sc : Scope) (o : Op1) (e : Expr) : Option Expr :=
  match o, e with
  | .isN, .Compare a [.Is] [.Constant .none _ _] _ => some a
  | .notN, .Compare a [.IsNot] [.Constant .none _ _] _ => some a
  | .neg, .UnaryOp .USub a _ => some a
  | .rev, .Subscript a (.Slice none none (some (.UnaryOp .USub (.Constant (.int i) _ _) _)) _) _ => if i = 1 then some a else none
  | .max0, .Call (.Name x _) [a] [⟨some n, .Constant (.int i) _ _, _⟩] _ => if x = "max" ∧ n = "default" ∧ i = 0 ∧ gl sc x = true ∧ notStar a = true then some a else none
  | .isi [t], .Call (.Name x _) [a, c] [] _ => if x = "isinstance" ∧ gl sc x = true ∧ notStar a = true ∧ isType sc t c = true then some a else none
  | .isi ts, .Call (.Name x _) [a, .Tuple cs _ _] [] _ => if x = "isinstance" ∧ gl sc x = true ∧ notStar a = true ∧ isTypes sc ts cs = true ∧ ts.length ≤ 20 then some a else none
  | o, .Call (.Name x _) [a] [] _ => if fnName o = some x ∧ gl sc x = true ∧ notStar a = true then some a else none
  | _, _ => none
def chkOp2 (sc : Scope) (o : Op2) (e : Expr) : Option (Expr × Expr) :=
  match o, e with
  | .add, .BinOp a .Add b _ => some (a, b)
  | .sub, .BinOp a .Sub b _ => some (a, b)
  | .mul, .BinOp a .Mult b _ => some (a, b)
  | .fdiv, .BinOp a .FloorDiv b _ => some (a, b)
  | .mod, .BinOp a .Mod b _ => some (a, b)
  | .pow, .BinOp a .Pow b _ => some (a, b)
  | .eq, .Compare a [.Eq] [b] _ => if notSet b = true then some (a, b) else none
  | .ne, .Compare a [.NotEq] [b] _ => if notSet b = true then some (a, b) else none
  | .lt, .Compare a [.Lt] [b] _ => if notSet b = true then some (a, b) else none
  | .le, .Compare a [.LtE] [b] _ => if notSet b = true then some (a, b) else none
  | .gt, .Compare a [.Gt] [b] _ => if notSet b = true then some (a, b) else none
  | .ge, .Compare a [.GtE] [b] _ => if notSet b = true then some (a, b) else none
  | .inn, .Compare a [.In] [b] _ => if notSet b = true then some (a, b) else none
  | .nin, .Compare a [.NotIn] [b] _ => if notSet b = true then some (a, b) else none
  | .ix, .Subscript a b _ => if notSlice b = true then some (a, b) else none
  | .split, .Call (.Attribute a n ap) [b] [] p => if n = "split" ∧ notSuper a = true ∧ notStar b = true ∧ (ap.endLine == p.line) = true then some (a, b) else none
  | .join, .Call (.Attribute a n ap) [b] [] p => if n = "join" ∧ notSuper a = true ∧ notStar b = true ∧ (ap.endLine == p.line) = true then some (a, b) else none
  | .max2, .Call (.Name x _) [a, b] [] _ => if x = "max" ∧ gl sc x = true ∧ notStar a = true ∧ notStar b = true then some (a, b) else none
  | .min2, .Call (.Name x _) [a, b] [] _ => if x = "min" ∧ gl sc x = true ∧ notStar a = true ∧ notStar b = true then some (a, b) else none
  | .index, .Call (.Attribute a n ap) [b] [] p => if n = "index" ∧ notSuper a = true ∧ notStar b = true ∧ (ap.endLine == p.line) = true then some (a, b) else none
  | _, _ => none
def cmpOf : Op2 → Option CmpOp
  | .eq => some .Eq
  | .ne => some .NotEq
  | .lt => some .Lt
  | .le => some .LtE
  | .gt => some .Gt
  | .ge => some .GtE
  | .inn => some .In
  | .nin => some .NotIn
  | _ => none
/-- what is known where code stands -/
structure Site (X : Cx) (sc : Scope) : Prop where
  sc : X.env.scope = sc
  calm : X.calm = true
  units : X.A.units + 200 < cLine
  guards : X.A.guards = some []
  blt : ∀ x ∈ bltNames, X.mg x = none
section
variable {X : Cx} {Γ : Gh} {sc : Scope} {e ea eb : Expr} {ta tb : TE}
theorem Site.gl (s : Site X sc) {x : Str} (h : gl sc x = true) : Gl X x := by
  unfold Gl
  show X.env.scope.names.lookup x = _
  rw [s.sc]
  exact of_decide_eq_true h
theorem pe_b1 {f : Value} {x : Str} {r : V → Hp → VK → Prop} {p pos : Pos} (S : Site X sc) (hc : CallR X f (l1 r)) (hg : Tk.gl sc x = true) (hm : x ∈ bltNames) (hv : bootBuiltins x = some f) (hf : (∃ id, f = .builtin id) ∨ ∃ T, f = .type T) (hs : notStar e = true)
    (ha : PE X e ta) : PE X (.Call (.Name x p) [e] [] pos) (tUn r ta) := by
  have hn : x ≠ "__name__" := by rintro rfl; exact absurd hm (by decide +kernel)
  have hdb : (x == ("__debug__" : Str)) = false := by
    cases q : x == ("__debug__" : Str) with
    | false => rfl
    | true => rw [eq_of_beq q] at hm; exact absurd hm (by decide +kernel)
  have A := pa_cons ha (pa_nil (X := X)) (star_cons hs)
  have B : starEach [e] X.env = (false, eval e X.env) :: starEach [] X.env := star_cons hs
  rcases hf with ⟨id, rfl⟩ | ⟨T, rfl⟩
  · exact PE.imp (pe_callB hc (S.gl hg) (S.blt x hm) hv A hn hdb B rfl) fun _ _ _ q => q
  · exact PE.imp (pe_callTy hc (S.gl hg) (S.blt x hm) hv A hn hdb B rfl) fun _ _ _ q => q
theorem RRep.ty : ∀ {d : D} {v : V} {H : Hp} {O : Addr → Prop}, RRep X.K Γ H O v d → ∃ t : String, TyX X.K H v (.type t) ∧ ∀ m ∈ tyS, kitB t m = some (isiD (Str.ofString m) d)
  | .none, _, _, _, h => by cases h; exact ⟨"NoneType", .base .non, by decide +kernel⟩
  | .bool b, _, _, _, h => by cases h; exact ⟨"bool", .base (.bl _), show ∀ m ∈ tyS, kitB "bool" m = some (decide (Str.ofString m = "bool") || decide (Str.ofString m = "int")) by decide +kernel⟩
  | .int i, _, _, _, h => by cases h; exact ⟨"int", .base (.int _), show ∀ m ∈ tyS, kitB "int" m = some (decide (Str.ofString m = "int")) by decide +kernel⟩
  | .str x, _, _, _, h => by cases h; exact ⟨"str", .base (.str _), show ∀ m ∈ tyS, kitB "str" m = some (decide (Str.ofString m = "str")) by decide +kernel⟩
  | .tuple ds, _, _, _, h => by
    cases h with
    | tup h1 h2 =>
      refine ⟨"tuple", ?_, show ∀ m ∈ tyS, kitB "tuple" m = some (decide (Str.ofString m = "tuple")) by decide +kernel⟩
      rcases h1 with (h1 | ⟨o, h1⟩) | ⟨o, its, n, h1, h2, _⟩
      · exact .base (.tup h1)
      · exact .fTuple h1
      · exact .kTuple h1 h2
  | .dict ds, _, _, _, h => by
    cases h with
    | dct h1 h2 h3 => exact ⟨"dict", .base (.dK h1), show ∀ m ∈ tyS, kitB "dict" m = some (decide (Str.ofString m = "dict")) by decide +kernel⟩
  | .list ds, _, _, _, h => by
    obtain ⟨a, xs, rfl, h1, h2⟩ := h
    refine ⟨"list", ?_, show ∀ m ∈ tyS, kitB "list" m = some (decide (Str.ofString m = "list")) by decide +kernel⟩
    rcases h1 with ⟨h1 | ⟨o, h1⟩, _⟩ | ⟨o, its, n, h1, h2, _⟩
    · exact .base (.lst h1)
    · exact .base (.frz h1)
    · exact .kList h1 h2
theorem RRep.same {K : PySem.W.Frag} {H H' : Hp} {O : Addr → Prop} (s : Same H H') : ∀ {d : D} {v : V}, RRep K Γ H O v d → RRep K Γ H' O v d
  | .list ds, v, h => by
    obtain ⟨a, xs, e, h1, h2⟩ := h
    exact ⟨a, xs, e, h1.ext (Ext.same s), h2.same s⟩
  | .none, _, h => Rep.ext (Ext.same s) _ _ h
  | .bool _, _, h => Rep.ext (Ext.same s) _ _ h
  | .int _, _, h => Rep.ext (Ext.same s) _ _ h
  | .str _, _, h => Rep.ext (Ext.same s) _ _ h
  | .tuple _, _, h => Rep.ext (Ext.same s) _ _ h
  | .dict _, _, h => Rep.ext (Ext.same s) _ _ h
theorem boot_ty : ∀ m ∈ tyS, bootBuiltins (Str.ofString m) = some (.type m) := by decide +kernel
theorem ty_blt : ∀ m ∈ tyS, Str.ofString m ∈ bltNames := by decide +kernel
theorem blt_ok {x : Str} (hm : x ∈ bltNames) : x ≠ "__name__" ∧ (x == ("__debug__" : Str)) = false := by
  refine ⟨by rintro rfl; exact absurd hm (by decide +kernel), ?_⟩
  cases q : x == ("__debug__" : Str) with
  | false => rfl
  | true => rw [eq_of_beq q] at hm; exact absurd hm (by decide +kernel)
/-- a type's name as a value -/
theorem pe_ty {t : Str} {c : Expr} (S : Site X sc) (h : isType sc t c = true) : ∃ m ∈ tyS, t = Str.ofString m ∧ PE X c (tC (.ty m)) := by
  cases c with
  | Name x p =>
    simp only [isType, Bool.and_eq_true, decide_eq_true_eq] at h
    obtain ⟨⟨rfl, hg⟩, hm⟩ := h
    obtain ⟨m, hm', rfl⟩ := List.mem_map.mp hm
    refine ⟨m, hm', rfl, ?_⟩
    have hb := ty_blt m hm'
    exact pe_bltn (S.gl hg) (S.blt _ hb) (boot_ty m hm') rfl (blt_ok hb).1 (blt_ok hb).2
  | _ => simp [isType] at h
theorem pa_tys : ∀ {ts : List Str} {cs : List Expr}, Site X sc → isTypes sc ts cs = true → ∃ ms : List String, (∀ m ∈ ms, m ∈ tyS) ∧ ts = ms.map Str.ofString ∧ PA X cs (fun _ H Q => Q (ms.map V.ty) H)
  | [], [], _, _ => ⟨[], by simp, rfl, pa_nil⟩
  | [], _ :: _, _, h => by simp [isTypes] at h
  | _ :: _, [], _, h => by simp [isTypes] at h
  | t :: ts, c :: cs, S, h => by
    simp only [isTypes, Bool.and_eq_true] at h
    obtain ⟨m, hm, rfl, P⟩ := pe_ty S h.1
    obtain ⟨ms, hms, rfl, A⟩ := pa_tys S h.2
    have hs : notStar c = true := by
      have h1 := h.1
      cases c <;> first | rfl | simp [isType] at h1
    exact ⟨m :: ms, by simpa using ⟨hm, hms⟩, rfl, PA.imp (pa_cons P A (star_cons hs)) fun _ _ _ q => q⟩
theorem kitAny_of {K : PySem.W.Frag} {t : String} {d : D} (h : ∀ m ∈ tyS, kitB t m = some (isiD (Str.ofString m) d)) : ∀ {ms : List String}, (∀ m ∈ ms, m ∈ tyS) → PySem.W.kitAny K (.type t) (ms.map Value.type) = some ((ms.map Str.ofString).any fun n => isiD n d)
  | [], _ => rfl
  | m :: ms, hm => by
    have h1 := h m (hm m List.mem_cons_self)
    have ih := kitAny_of (K := K) h (ms := ms) fun z hz => hm z (List.mem_cons_of_mem _ hz)
    exact kitAny_cons (kit_ty h1) (fun e => by rw [ih]; simp [e]) (fun e => by simp [e])
theorem cls_tys : ∀ ms : List String, Paired ClsV (ms.map V.ty) (ms.map Value.type)
  | [] => .nil
  | m :: ms => .cons (.ty m) (cls_tys ms)
theorem c_repr (S : Site X sc) : CallR X (.builtin "repr") (l1 (R1 X.K .repr)) := by
  refine CallR.l1_of fun pins s σ H x u Q I rx h => ?_
  obtain ⟨Γ, O, d, r, ho, hr, hs, q⟩ := h
  simp only [sem1] at hs
  split at hs
  · rename_i hc
    cases hs
    obtain ⟨c1, c2, c3, c4⟩ := hc
    have fin : Q (.str d.shown) H := q _ _ (Same.refl _) (.str _ c4)
    have hd := RRep.dp c2 hr
    obtain ⟨as, rd⟩ := Dp.reads I d x u hd rx
    have hu := S.units
    cases d with
    | none => cases hr; cases rx; exact PySem.P.repr_of_none ⟨.str _, H, I.tok _, ⟨_, rfl⟩, fin⟩
    | bool b => cases hr; cases rx; exact PySem.P.repr_of_bool ⟨.str _, H, I.tok _, ⟨_, rfl⟩, fin⟩
    | int i => cases hr; obtain ⟨t, rfl⟩ := rx; exact PySem.P.repr_of_int (by simpa [PyData.showable] using c1) ⟨.str _, H, I.tok _, ⟨_, rfl⟩, fin⟩
    | str y => cases hr; obtain ⟨t, rfl⟩ := rx; exact PySem.P.repr_of_str ⟨.str _, H, I.tok _, ⟨_, rfl⟩, fin⟩ c4
    | list ds =>
      obtain ⟨a, xs, rfl, _⟩ := hr
      cases rx
      exact repr_of_reads' rd c1 (fun z => by rw [c2] at z; cases z) S.guards (by omega) (fun _ _ z => z) (fun h' t tk hk => ⟨.str _, H, I.kept hk, ⟨_, rfl⟩, fin⟩) c4
    | tuple ds =>
      cases hr with
      | tup h1 h2 =>
        cases rx
        exact repr_of_reads' rd c1 (fun z => by rw [c2] at z; cases z) S.guards (by omega) (fun _ _ z => z) (fun h' t tk hk => ⟨.str _, H, I.kept hk, ⟨_, rfl⟩, fin⟩) c4
    | dict ds => simp [PyData.hasDict] at c2
  · cases hs
theorem op1_ok (S : Site X sc) {o : Op1} (h : chkOp1 sc o e = some ea) (ha : PE X ea ta) (ma : Mono ta) : PE X e (tUn (R1 X.K o) ta) := by
  have plain : ∀ {x : Str} {p pos : Pos} {a : Expr}, fnName o = some x → Tk.gl sc x = true → notStar a = true → PE X a ta → PE X (.Call (.Name x p) [a] [] pos) (tUn (R1 X.K o) ta) := fun {x p pos a} hf hg hs ha => by
    cases o with
    | len => cases hf; exact pe_b1 S c_len hg (by decide +kernel) boot_len (.inl ⟨_, rfl⟩) hs ha
    | all => cases hf; exact pe_b1 S (c_all S.calm) hg (by decide +kernel) (by decide +kernel) (.inl ⟨_, rfl⟩) hs ha
    | any => cases hf; exact pe_b1 S (c_any S.calm) hg (by decide +kernel) (by decide +kernel) (.inl ⟨_, rfl⟩) hs ha
    | sum => cases hf; exact pe_b1 S (c_sum S.calm) hg (by decide +kernel) (by decide +kernel) (.inl ⟨_, rfl⟩) hs ha
    | tuple => cases hf; exact pe_b1 S c_tuple hg (by decide +kernel) (by decide +kernel) (.inr ⟨_, rfl⟩) hs ha
    | list => cases hf; exact pe_b1 S c_list hg (by decide +kernel) (by decide +kernel) (.inr ⟨_, rfl⟩) hs ha
    | sorted => cases hf; exact pe_b1 S (c_sorted (by have := S.units; omega)) hg (by decide +kernel) (by decide +kernel) (.inl ⟨_, rfl⟩) hs ha
    | int => cases hf; exact pe_b1 S c_int hg (by decide +kernel) (by decide +kernel) (.inr ⟨_, rfl⟩) hs ha
    | repr => cases hf; exact pe_b1 S (c_repr S) hg (by decide +kernel) (by decide +kernel) (.inl ⟨_, rfl⟩) hs ha
    | _ => cases hf
  unfold chkOp1 at h
  split at h
  · cases h
    refine ⟨fun pins s σ H Q I h => ?_⟩
    refine wpAny_Compare1 (thn (ha.run pins s σ H _ I h) fun v s1 ⟨x, H1, I1, r1, Γ, O, d, r, ho, hr, hs, q⟩ => ?_) rfl
    simp only [sem1, Option.some.injEq] at hs
    subst hs
    exact Constant_none (is_none_gen ⟨.bl _, H1, I1, by rw [r1.none_iff, hr.isN]; rfl, q _ _ (Same.refl _) (.bl _)⟩)
  · cases h
    refine ⟨fun pins s σ H Q I h => ?_⟩
    refine wpAny_Compare1 (thn (ha.run pins s σ H _ I h) fun v s1 ⟨x, H1, I1, r1, Γ, O, d, r, ho, hr, hs, q⟩ => ?_) rfl
    simp only [sem1, Option.some.injEq] at hs
    subst hs
    exact Constant_none (isnot_none_gen ⟨.bl _, H1, I1, by rw [r1.none_iff, hr.isN]; rfl, q _ _ (Same.refl _) (.bl _)⟩)
  · cases h
    refine PE.imp (pe_un (r := R1 X.K .neg) ?_ ha) fun _ _ _ q => q
    intro pins s σ H x v Q I rx h
    obtain ⟨Γ, O, d, r, ho, hr, hs, q⟩ := h
    cases d with
    | int i =>
      cases hr
      simp [sem1] at hs; subst hs
      exact un_neg pins s σ H _ v Q I rx ⟨i, rfl, q _ _ (Same.refl _) (.int _)⟩
    | _ => simp [sem1] at hs
  · split at h
    · rename_i hi
      cases h
      subst hi
      exact pe_rev ha
    · cases h
  · split at h
    · rename_i hc
      cases h
      obtain ⟨rfl, rfl, rfl, hg, hs⟩ := hc
      have hb : ("max" : Str) ∈ bltNames := by decide +kernel
      refine PE.imp (pe_callBK (ck_max0 S.calm (by have := S.units; omega)) (S.gl hg) (S.blt _ hb) (by decide +kernel) (pa_cons ha pa_nil (star_cons hs)) (pk_cons pe_int pk_nil) (blt_ok hb).1 (blt_ok hb).2 (by rw [star_cons hs]; rfl) (by rw [star_cons hs]; rfl) rfl rfl rfl) fun σ H Q q => ?_
      exact ma σ H _ _ (fun v H1 z => ⟨v, rfl, rfl, z⟩) q
    · cases h
  · rename_i t x p a c pos
    split at h
    · rename_i hc
      cases h
      obtain ⟨rfl, hg, hs, ht⟩ := hc
      obtain ⟨m, hm, rfl, P⟩ := pe_ty S ht
      have hsc : notStar c = true := by
        cases c <;> first | rfl | simp [isType] at ht
      have hb : ("isinstance" : Str) ∈ bltNames := by decide +kernel
      refine PE.imp (pe_callB call_isi (S.gl hg) (S.blt _ hb) (by decide +kernel) (pa_cons ha (pa_cons P pa_nil (star_cons hsc)) (star_cons hs)) (blt_ok hb).1 (blt_ok hb).2 (star_cons hs) (stars_any (by simp [notStars, hsc]))) fun σ H Q q => ?_
      refine ma σ H _ _ (fun v H1 z => ?_) q
      obtain ⟨Γ, O, d, r, ho, hr, hs, q⟩ := z
      obtain ⟨t, ty, k⟩ := hr.ty
      simp only [sem1, Option.some.injEq] at hs
      subst hs
      exact ⟨v, .ty m, .type t, .type m, isiD (Str.ofString m) d, rfl, .ty m, ty, kit_ty (k m hm), q _ _ (Same.refl _) (by simpa using Rep.bl _)⟩
    · cases h
  · rename_i ts x p a cs k tp pos _
    split at h
    · rename_i hc
      cases h
      obtain ⟨rfl, hg, hs, ht, hlen⟩ := hc
      obtain ⟨ms, hms, rfl, A⟩ := pa_tys S ht
      have hb : ("isinstance" : Str) ∈ bltNames := by decide +kernel
      refine PE.imp (pe_callB call_isiT (S.gl hg) (S.blt _ hb) (by decide +kernel) (pa_cons ha (pa_cons (pe_tup A) pa_nil (star_cons rfl)) (star_cons hs)) (blt_ok hb).1 (blt_ok hb).2 (star_cons hs) (stars_any (by simp [notStars, notStar]))) fun σ H Q q => ?_
      refine ma σ H _ _ (fun v H1 z => ?_) q
      obtain ⟨Γ, O, d, r, ho, hr, hs, q⟩ := z
      simp only [sem1, Option.some.injEq] at hs
      subst hs
      refine ⟨by rw [sizeLine_eq]; simp only [List.length_map] at hlen ⊢; omega, fun p hp => ?_⟩
      have hr' := RRep.same (same_upd (o := .tup (ms.map V.ty)) hp) hr
      obtain ⟨t, ty, k⟩ := hr'.ty
      exact ⟨v, p, ms.map V.ty, .type t, ms.map Value.type, _, rfl, upd_same, cls_tys ms, ty, kitAny_of k hms, q _ _ (same_upd hp) (.bl _)⟩
    · cases h
  · split at h
    · rename_i hc
      cases h
      exact plain hc.1 hc.2.1 hc.2.2 ha
    · cases h
  · cases h
/-- what a method's receiver must be, ahead of the arguments -/
def rcv (K : PySem.W.Frag) (o : Op2) (x : V) (H : Hp) : Prop := match o with
  | .split => ∃ a, x = .str a
  | .join => ∃ a, x = .str a
  | .index => ∃ p xs, x = .ref p ∧ SqL K H p xs
  | _ => True
def tOp2 (K : PySem.W.Frag) (o : Op2) (ta tb : TE) : TE := fun σ H Q => ta σ H fun x H1 => rcv K o x H1 ∧ tb σ H1 fun y H2 => R2 K o x y H2 Q
theorem rcv_of : ∀ {o : Op2} {d : D} {v : V} {H : Hp} {O : Addr → Prop}, recv o d = true → RRep X.K Γ H O v d → rcv X.K o v H := by
  intro o d v H O h r
  cases o <;> first | trivial | skip
  · cases d <;> first | (simp [recv] at h; done) | skip
    cases r; exact ⟨_, rfl⟩
  · cases d <;> first | (simp [recv] at h; done) | skip
    cases r; exact ⟨_, rfl⟩
  · cases d <;> first | (simp [recv] at h; done) | skip
    obtain ⟨a, xs, rfl, h1, _⟩ := r
    exact ⟨a, xs, rfl, h1.sq⟩
theorem m_split : MtR X "str.split" (fun x xs H Q => ∃ y, xs = [y] ∧ R2 X.K .split x y H Q) := by
  intro pins s σ H x xs v us Q I rx rs h
  obtain ⟨y, rfl, Γ, O, d, e, r, ho, h1, h2, hs, q⟩ := h
  cases d with
  | str a =>
    cases e with
    | str b =>
      cases h1; cases h2
      simp only [sem2] at hs
      split at hs
      · rename_i hc
        cases hs
        refine mt_split pins s σ H _ _ v us Q I rx rs ⟨a, b, rfl, rfl, by simpa using hc.1, hc.2.1, fun p hp => q _ _ (same_upd hp) (mkL ho hp (Reps.ofStrs fun y hy => ?_))⟩
        exact of_decide_eq_true (List.all_eq_true.mp hc.2.2 y hy)
      · cases hs
    | _ => simp [sem2] at hs
  | _ => cases e <;> simp [sem2] at hs
theorem m_join : MtR X "str.join" (fun x xs H Q => ∃ y, xs = [y] ∧ R2 X.K .join x y H Q) := by
  intro pins s σ H x xs v us Q I rx rs h
  obtain ⟨y, rfl, Γ, O, d, e, r, ho, h1, h2, hs, q⟩ := h
  cases d with
  | str a =>
    cases e with
    | list ds =>
      cases h1
      obtain ⟨p, ys, rfl, t1, r1⟩ := h2
      simp only [sem2, Option.bind_eq_some_iff] at hs
      obtain ⟨zs, e1, hs⟩ := hs
      split at hs
      · rename_i hc
        cases hs
        have e2 := r1.strs e1
        subst e2
        exact mt_join pins s σ H _ _ v us Q I rx rs ⟨a, p, zs, rfl, rfl, .inl t1.sq, hc.1, q _ _ (Same.refl _) (.str _ hc.2)⟩
      · cases hs
    | tuple ds =>
      cases h1
      cases h2 with
      | tup t1 r1 =>
        simp only [sem2, Option.bind_eq_some_iff] at hs
        obtain ⟨zs, e1, hs⟩ := hs
        split at hs
        · rename_i hc
          cases hs
          have e2 := r1.strs e1
          subst e2
          exact mt_join pins s σ H _ _ v us Q I rx rs ⟨a, _, zs, rfl, rfl, .inr t1, hc.1, q _ _ (Same.refl _) (.str _ hc.2)⟩
        · cases hs
    | _ => simp [sem2] at hs
  | _ => cases e <;> simp [sem2] at hs
theorem firstAt_at {d : D} : ∀ {xs : List D} {j : Nat}, firstAt d xs = some j → ∃ z, xs[j]? = some z ∧ PyData.eqv z d = true ∧ ∀ (m : Nat) z', m < j → xs[m]? = some z' → PyData.eqv z' d = false
  | [], _, h => by simp [firstAt] at h
  | x :: xs, j, h => by
    unfold firstAt at h
    split at h
    · rename_i hx
      cases h
      exact ⟨x, rfl, hx, fun m _ hm => absurd hm (Nat.not_lt_zero m)⟩
    · rename_i hx
      rw [Option.map_eq_some_iff] at h
      obtain ⟨i, e, rfl⟩ := h
      obtain ⟨z, e1, e2, e3⟩ := firstAt_at e
      refine ⟨z, by simpa using e1, e2, fun m z' hm hz => ?_⟩
      cases m with
      | zero => simp at hz; subst hz; simpa using hx
      | succ m => exact e3 m z' (by omega) (by simpa using hz)
theorem depthAll_le : ∀ {xs : List D}, allShaped xs = true → PyData.depthAll xs ≤ 64
  | [], _ => by simp [PyData.depthAll]
  | x :: xs, h => by
    simp only [allShaped, List.all_cons, Bool.and_eq_true] at h
    have h1 := depth_of_shaped h.1
    have h2 := depthAll_le (xs := xs) h.2
    simp only [PyData.depthAll]
    omega
theorem m_index (S : Site X sc) : MtR X "list.index" (fun x xs H Q => ∃ y, xs = [y] ∧ R2 X.K .index x y H Q) := by
  intro pins s σ H x xs v us Q I rx rs h
  obtain ⟨y, rfl, Γ, O, d, e, r, ho, h1, h2, hs, q⟩ := h
  have hu := S.units
  cases d with
  | list ds =>
    obtain ⟨p, ys, rfl, t1, r1⟩ := id h1
    simp only [sem2] at hs
    split at hs
    · rename_i hc
      rw [Option.map_eq_some_iff] at hs
      obtain ⟨j, e1, rfl⟩ := hs
      obtain ⟨z, e2, e3, e4⟩ := firstAt_at e1
      exact mt_indexD (by omega) pins s σ H _ _ v us Q I rx rs ⟨p, y, e, ds, j, z, rfl, rfl, h1.dp (shaped_dict hc.2), h2.dp (shaped_dict hc.1), hc.2, hc.1, e2, e3, e4, q _ _ (Same.refl _) (.int _)⟩
    · cases hs
  | _ => cases e <;> simp [sem2] at hs
/-- the operator behind a comparison -/
theorem cmp_ok (S : Site X sc) {o : Op2} {op : CmpOp} (h : cmpOf o = some op) : OpR X (compareOp op) (R2 X.K o) := by
  have hu := S.units
  cases o <;> simp only [cmpOf, reduceCtorEq, Option.some.injEq] at h <;> subst h
  · exact o_eq (by omega)
  · exact o_ne (by omega)
  · exact o_lt
  · exact o_le
  · exact o_gt
  · exact o_ge
  · exact o_in (by omega)
  · exact o_nin (by omega)
theorem op2_ok (S : Site X sc) {o : Op2} (h : chkOp2 sc o e = some (ea, eb)) (ha : PE X ea ta) (hb : PE X eb tb) (ma : Mono ta) (mb : Mono tb) : PE X e (tOp2 X.K o ta tb) := by
  have drop : ∀ {o : Op2} {t : TE}, (∀ x H, rcv X.K o x H) → t = tOp (R2 X.K o) ta tb → PE X e t → PE X e (tOp2 X.K o ta tb) := fun {o t} _ et p => by
    subst et
    exact PE.imp p fun σ H Q q => ma σ H _ _ (fun v H1 z => z.2) q
  have cmp : ∀ {op : CmpOp} {a b : Expr} {pos : Pos}, (∀ x H, rcv X.K o x H) → cmpOf o = some op → e = .Compare a [op] [b] pos → (if notSet b = true then some (a, b) else none) = some (ea, eb) → PE X e (tOp2 X.K o ta tb) := fun {op a b pos} hr hc he h => by
    split at h
    · rename_i hn
      cases h
      subst he
      exact drop hr rfl (pe_cmpR (cmp_ok S hc) ha hb (marks_ok hn))
    · cases h
  unfold chkOp2 at h
  split at h
  · cases h; exact drop (fun _ _ => trivial) rfl (pe_op o_add ha hb)
  · cases h; exact drop (fun _ _ => trivial) rfl (pe_op o_sub ha hb)
  · cases h; exact drop (fun _ _ => trivial) rfl (pe_op o_mul ha hb)
  · cases h; exact drop (fun _ _ => trivial) rfl (pe_op o_fdiv ha hb)
  · cases h; exact drop (fun _ _ => trivial) rfl (pe_op o_mod ha hb)
  · cases h; exact drop (fun _ _ => trivial) rfl (pe_op o_pow ha hb)
  · exact cmp (fun _ _ => trivial) rfl rfl h
  · exact cmp (fun _ _ => trivial) rfl rfl h
  · exact cmp (fun _ _ => trivial) rfl rfl h
  · exact cmp (fun _ _ => trivial) rfl rfl h
  · exact cmp (fun _ _ => trivial) rfl rfl h
  · exact cmp (fun _ _ => trivial) rfl rfl h
  · exact cmp (fun _ _ => trivial) rfl rfl h
  · exact cmp (fun _ _ => trivial) rfl rfl h
  · split at h
    · rename_i hn
      cases h
      exact drop (fun _ _ => trivial) rfl (pe_ix o_ix ha hb (plainIx hn))
    · cases h
  · split at h
    · rename_i hc
      cases h
      obtain ⟨rfl, h1, h2, h3⟩ := hc
      refine PE.imp (pe_m1 F.slot_str_split F.type_str_split (m_split) ha hb (star_cons h2) (base_ok h1) h3) fun σ H Q q => ?_
      exact ma σ H _ _ (fun v H1 z => ⟨z.1, mb σ H1 _ _ (fun u H2 z2 => ⟨u, rfl, z2⟩) z.2⟩) q
    · cases h
  · split at h
    · rename_i hc
      cases h
      obtain ⟨rfl, h1, h2, h3⟩ := hc
      refine PE.imp (pe_m1 F.slot_str_join F.type_str_join (m_join) ha hb (star_cons h2) (base_ok h1) h3) fun σ H Q q => ?_
      exact ma σ H _ _ (fun v H1 z => ⟨z.1, mb σ H1 _ _ (fun u H2 z2 => ⟨u, rfl, z2⟩) z.2⟩) q
    · cases h
  · split at h
    · rename_i hc
      cases h
      obtain ⟨rfl, hg, h1, h2⟩ := hc
      have hbl : ("max" : Str) ∈ bltNames := by decide +kernel
      refine PE.imp (pe_callB (c_max2 S.calm) (S.gl hg) (S.blt _ hbl) (by decide +kernel) (pa_cons ha (pa_cons hb pa_nil (star_cons h2)) (star_cons h1)) (blt_ok hbl).1 (blt_ok hbl).2 (star_cons h1) (stars_any (by simp [notStars, h2]))) fun σ H Q q => ?_
      exact ma σ H _ _ (fun v H1 z => z.2) q
    · cases h
  · split at h
    · rename_i hc
      cases h
      obtain ⟨rfl, hg, h1, h2⟩ := hc
      have hbl : ("min" : Str) ∈ bltNames := by decide +kernel
      refine PE.imp (pe_callB (c_min2 S.calm) (S.gl hg) (S.blt _ hbl) (by decide +kernel) (pa_cons ha (pa_cons hb pa_nil (star_cons h2)) (star_cons h1)) (blt_ok hbl).1 (blt_ok hbl).2 (star_cons h1) (stars_any (by simp [notStars, h2]))) fun σ H Q q => ?_
      exact ma σ H _ _ (fun v H1 z => z.2) q
    · cases h
  · split at h
    · rename_i hc
      cases h
      obtain ⟨rfl, h1, h2, h3⟩ := hc
      refine PE.imp (pe_bm PySem.F.plainAttrs_list PySem.F.slot_list_index PySem.F.type_list_index (m_index S) ha (pa_cons hb pa_nil (star_cons h2)) (base_ok h1) ?_ h3 (star_cons h2) rfl) fun σ H Q q => ?_
      · rw [star_cons h2]; rfl
      · refine ma σ H _ _ (fun v H1 z => ⟨?_, mb σ H1 _ _ (fun u H2 z2 => ⟨u, rfl, z2⟩) z.2⟩) q
        obtain ⟨p, xs, rfl, hq⟩ := z.1
        exact .inl ⟨rfl, xs, hq⟩
    · cases h
  · cases h
end
end Tk
namespace Tk
open PySem PySem.Spec PyProof.Rows L2
abbrev FT := Nat → Option (Str × Nat)
def vis (sc : Scope) (x : Str) : Bool := match sc.names.lookup x with
  | some .local => true
  | some .cell => true
  | some .free => true
  | _ => false
def plainName (x : Str) : Bool := !(x == ("__debug__" : Str)) && !(x == ("__classdict__" : Str))
def constIs : D → Const → Bool
  | .none, .none => true
  | .bool b, .bool c => b == c
  | .int i, .int j => i == j
  | .str x, .str y => decide (x = y) && decide (x.length ≤ sizeLine)
  | _, _ => false
mutual
def chkT (N : List Str) (sc : Scope) (fn : Str → Bool) : Tg → Expr → Bool
  | .name i, .Name x _ => decide (N[i]? = some x) && (decide (sc.names.lookup x = some .local) || (decide (sc.names.lookup x = some .cell) && fn x))
  | .tup t, .Tuple es _ _ => chkTs N sc fn t es
  | _, _ => false
def chkTs (N : List Str) (sc : Scope) (fn : Str → Bool) : Tg → List Expr → Bool
  | .nil, [] => true
  | .cons t u, e :: es => notStar e && chkT N sc fn t e && chkTs N sc fn u es
  | _, _ => false
end
def tgs : Tg → List Nat
  | .name i => [i]
  | .nil => []
  | .cons t u => tgs t ++ tgs u
  | .tup t => tgs t
def isTup : Expr → Bool
  | .Tuple _ _ _ => true
  | _ => false
mutual
def chkE (F : FT) (N : List Str) : CE → Scope → Expr → Bool
  | .const d, _, .Constant c _ _ => constIs d c
  | .var i, sc, .Name x _ => decide (N[i]? = some x) && vis sc x && plainName x
  | .glob y, sc, .Name x _ => decide (x = y) && gl sc x && plainName x
  | .tup r, sc, .Tuple es _ _ => chkA F N r sc es
  | .lst r, sc, .List es _ => chkA F N r sc es
  | .op1 o a, sc, e => match chkOp1 sc o e with
    | some ea => chkE F N a sc ea
    | none => false
  | .op2 o a b, sc, e => match chkOp2 sc o e with
    | some (ea, eb) => chkE F N a sc ea && chkE F N b sc eb
    | none => false
  | .slc a lo hi, sc, .Subscript ea (.Slice l h none _) _ => chkE F N a sc ea && chkP F N lo sc l && chkP F N hi sc h
  | .chain o o' a b c, sc, .Compare ea [op, op'] [eb, ec] _ => decide (cmpOf o = some op) && decide (cmpOf o' = some op') && notSet ec && chkE F N a sc ea && chkE F N b sc eb && chkE F N c sc ec
  | .and_ a r, sc, .BoolOp .And (e1 :: e2 :: es) pos => chkE F N a sc e1 && (match es with
    | [] => chkE F N r sc e2
    | e3 :: es' => chkE F N r sc (.BoolOp .And (e2 :: e3 :: es') pos))
  | .or_ a r, sc, .BoolOp .Or (e1 :: e2 :: es) pos => chkE F N a sc e1 && (match es with
    | [] => chkE F N r sc e2
    | e3 :: es' => chkE F N r sc (.BoolOp .Or (e2 :: e3 :: es') pos))
  | .not_ a, sc, .UnaryOp .Not ea _ => chkE F N a sc ea
  | .ifx c a b, sc, .IfExp ec ea eb _ => chkE F N c sc ec && chkE F N a sc ea && chkE F N b sc eb
  | .call f r, sc, .Call (.Name x _) es [] _ => decide (F f = some (x, es.length)) && gl sc x && plainName x && notStars es && chkA F N r sc es
  | .comp own e t it ifs, sc, .ListComp elt [⟨tg, iter, ifs', a⟩] scope _ =>
      decide (a = 0) && blkC N sc scope (own.map fun i => (N.getD i "", i)) && notSet iter && chkI F N it sc tg iter
        && chkT N (relS scope sc) (fun x => scope.names.lookup x == some .cell) t tg && (tgs t).all (fun i => decide (i ∈ own))
        && (match ifs' with
          | [] => (match ifs with | .nil => true | _ => false)
          | [c] => chkE F N ifs (relS scope sc) c
          | _ => false)
        && chkE F N e (relS scope sc) elt
  | _, _, _ => false
def chkP (F : FT) (N : List Str) : CE → Scope → Option Expr → Bool
  | .nopart, _, none => true
  | .cons a .nil, sc, some e => chkE F N a sc e
  | _, _, _ => false
def chkA (F : FT) (N : List Str) : CE → Scope → List Expr → Bool
  | .nil, _, [] => true
  | .cons a r, sc, e :: es => notStar e && chkE F N a sc e && chkA F N r sc es
  | _, _, _ => false
def chkI (F : FT) (N : List Str) : CE → Scope → Expr → Expr → Bool
  | .iter a, sc, _, e => chkE F N a sc e
  | .range1 a, sc, _, .Call (.Name x _) [ea] [] _ => decide (x = "range") && gl sc x && notStar ea && chkE F N a sc ea
  | .range2 a b, sc, _, .Call (.Name x _) [ea, eb] [] _ => decide (x = "range") && gl sc x && notStar ea && notStar eb && chkE F N a sc ea && chkE F N b sc eb
  | .zip2 a b, sc, tg, .Call (.Name x _) [ea, eb] [] _ => isTup tg && decide (x = "zip") && gl sc x && notStar ea && notStar eb && chkE F N a sc ea && chkE F N b sc eb
  | .enum a, sc, tg, .Call (.Name x _) [ea] [] _ => isTup tg && decide (x = "enumerate") && gl sc x && notStar ea && chkE F N a sc ea
  | _, _, _, _ => false
end
end Tk
namespace Tk
open PySem PySem.Spec PyProof.Rows L2
abbrev XRep := Hp → (Addr → Prop) → Exc → Value → Option Addr → Prop
/-- an argument -/
def ARep (K : PySem.W.Frag) (Γ : Gh) (H : Hp) (O : Addr → Prop) : Slot → V → Prop
  | .val d, v => Rep K H O v d
  | .st, v => v = Γ.sv ∧ v ≠ .non
  | .own _, _ => False
inductive AReps (K : PySem.W.Frag) (Γ : Gh) (H : Hp) (O : Addr → Prop) : List Slot → List V → Prop
  | nil : AReps K Γ H O [] []
  | cons {s : Slot} {v : V} {ss : List Slot} {vs : List V} : ARep K Γ H O s v → AReps K Γ H O ss vs → AReps K Γ H O (s :: ss) (v :: vs)
/-- what a def hands back -/
def RRes (K : PySem.W.Frag) (Γ : Gh) (H H' : Hp) (O : Addr → Prop) : Slot → V → Prop
  | .val d, v => Rep K H' O v d
  | .own ds, v => ∃ a vs, v = .ref a ∧ H' a = some (.lst vs) ∧ H a = none ∧ Reps K H' (fun b => O b ∨ b = a) vs ds
  | .st, v => v = Γ.sv ∧ v ≠ .non
/-- a def's promise -/
def spC (K : PySem.W.Frag) (xr : XRep) (C : Nat → List Slot → (Slot → Prop) → KX → Prop) (f : Nat) (np : Nat) : Sp := fun vs H Q E => vs.length = np ∧ ∃ Γ O ss k x, Γ.Ok ∧ Γ.W H ∧ OTr O H ∧ (∀ b, Γ.M b → O b) ∧ AReps K Γ H O ss vs ∧ C f ss k x ∧
  (∀ s v H', k s → Later Γ H H' → RRes K Γ H H' O s v → Q v H') ∧ (∀ e cls dd H', x e → Later Γ H H' → xr H' O e cls dd → E cls dd H')
/-- as FnOk, where no repr is under way -/
structure FnG (P : Program) (w : World) (K : PySem.W.Frag) (mg : Str → Option Value) (base : Heap) (k : Nat) (f : Addr) (fd : FuncData) (ps : List Str) (sp : Sp) : Prop where
  len : ∀ vs H Q E, sp vs H Q E → vs.length = ps.length
  run : ∀ (A : Around) (outer : List Env) (s : Shared) (H : Hp) (args : Args) (us : List Value) (vs : List V) (Q : VK) (E : XK), Room k A → A.guards = some [] → Env0 P w K mg base A outer s H → BindsTo s fd args (ps.zip us) → Vals vs us → sp vs H Q E →
    codeAny (model P w) A (.call (.ref f) args) (CR (L2.CX P w) outer P w H s Q E) s
structure Stat (X : Cx) (F : FT) (C : Cfg) (xr : XRep) (n : Nat) : Prop where
  glob : ∀ x d, C.glob x = some d → ∃ u v, X.mg x = some u ∧ RelV v u ∧ ∀ H O, Rep X.K H O v d
  xm : ∀ H (O O1 : Addr → Prop) e cls dd, (∀ b, O b → O1 b) → xr H O1 e cls dd → xr H O e cls dd
  lens : ∀ f nm np, F f = some (nm, np) → ∀ ss k x, C.call f ss k x → ss.length = np
  fns : ∀ f nm np, F f = some (nm, np) → ∃ a fd ps, X.mg nm = some (.ref a) ∧ PySem.W.keepIn X.K (.ref a) = true ∧ ps.length = np ∧ Binds X.K fd ps [] ∧ FnG X.prog X.w X.K X.mg X.base n a fd ps (spC X.K xr C.call f np)
structure Here (X : Cx) (F : FT) (N : List Str) (sc : Scope) (C : Cfg) (xr : XRep) (n : Nat) (W : WX) : Prop where
  site : Site X sc
  stat : Stat X F C xr n
  room : Room n X.A
  hN : X.N = N
  nd : X.N.Nodup
  tk : Takes X W
section
variable {X : Cx} {F : FT} {N : List Str} {sc : Scope} {C : Cfg} {xr : XRep} {n : Nat} {W : WX}
theorem run_fnG {pins : List (Addr × Obj)} {σ : L2.St} {H : Hp} {s : Shared} {Q : VK} {us : List Value} {vs : List V} {f : Addr} {fd : FuncData} {ps : List Str} {sp : Sp} (G : FnG X.prog X.w X.K X.mg X.base n f fd ps sp) (hr : Room n X.A) (hg : X.A.guards = some []) (hb : Binds X.K fd ps []) (tk : Takes X W)
    (I : Inv X pins σ H s) (r : Vals vs us) (h : sp vs H Q fun cls dd H' => W cls dd σ H') : wpAny (model X.prog X.w) X.A (PySem.call (.ref f) us) (EP X pins σ Q) X.xe s := by
  have hl : us.length = ps.length := by rw [← r.length]; exact G.len _ _ _ _ h
  have hb' := hb s us I.kIn (by simpa using hl)
  simp only [List.append_nil] at hb'
  refine wpAny_call (codeAny_mono (G.run X.A X.stack s H ⟨us, []⟩ us vs Q _ hr hg I.env0 hb' r h) fun r s' hq => ?_)
  cases r with
  | error e => exact tk e s' (XE.of_call I (fun cls d H' h => h) hq)
  | ok fl =>
    cases fl with
    | ret u => exact I.after hq
    | _ => exact hq.elim
/-- f(..) of the program's own -/
theorem pe_fn {f : Nat} {x : Str} {e : Expr} {es : List Expr} {t : TA} {p pos : Pos} (h : Here X F N sc C xr n W) (hF : F f = some (x, (e :: es).length)) (hg : gl sc x = true) (hp : plainName x = true) (hs : notStars (e :: es) = true) (ha : PA X (e :: es) t) :
    PE X (.Call (.Name x p) (e :: es) [] pos) (fun σ H Q => t σ H fun vs H1 => spC X.K xr C.call f (e :: es).length vs H1 Q fun cls dd H' => W cls dd σ H') := by
  obtain ⟨a, fd, ps, m1, m2, m3, m4, m5⟩ := h.stat.fns f x _ hF
  have hdb : (x == ("__debug__" : Str)) = false := by
    simp only [plainName, Bool.and_eq_true, Bool.not_eq_true'] at hp
    exact hp.1
  refine ⟨fun pins s σ H Q I q => ?_⟩
  refine wpAny_Call_Name_kw (ld_glob I (h.site.gl hg) m1 ?_ hdb)
  simp only [notStars, List.all_cons, Bool.and_eq_true] at hs
  refine PySem.W.callWith_K (h₀ := X.base) I.ok.mod.kin m2 (thn (ha.run pos pins s σ H _ I q) fun us s1 ⟨vs, H1, I1, r, q⟩ => ⟨I1.kIn, ?_⟩) (star_cons hs.1) (stars_any hs.2)
  exact run_fnG m5 h.room h.site.guards m4 h.tk I1 r q
theorem pe_fn0 {f : Nat} {x : Str} {p pos : Pos} (h : Here X F N sc C xr n W) (hF : F f = some (x, 0)) (hg : gl sc x = true) (hp : plainName x = true) :
    PE X (.Call (.Name x p) [] [] pos) (fun σ H Q => spC X.K xr C.call f 0 [] H Q fun cls dd H' => W cls dd σ H') := by
  obtain ⟨a, fd, ps, m1, m2, m3, m4, m5⟩ := h.stat.fns f x _ hF
  have hdb : (x == ("__debug__" : Str)) = false := by
    simp only [plainName, Bool.and_eq_true, Bool.not_eq_true'] at hp
    exact hp.1
  refine ⟨fun pins s σ H Q I q => ?_⟩
  refine wpAny_Call_Name_kw (ld_glob I (h.site.gl hg) m1 ?_ hdb)
  exact PySem.W.callWith_K0 I.kIn m2 (run_fnG (us := []) m5 h.room h.site.guards m4 h.tk I .nil q)
/-! ### what the terms ask of the slots and the heap -/
def Vr (K : PySem.W.Frag) (Γ : Gh) (rd : Bool) (H : Hp) (O : Addr → Prop) (v : V) (d : D) : Prop := match rd with
  | true => RRep K Γ H O v d
  | false => Rep K H O v d
/-- what is wanted of an exception -/
def XOk (xr : XRep) (W : WX) (Γ : Gh) (O : Addr → Prop) (σ : L2.St) (H : Hp) (x : KX) : Prop := ∀ e cls dd H', x e → Later Γ H H' → xr H' O e cls dd → W cls dd σ H'
def tE (K : PySem.W.Frag) (xr : XRep) (C : Cfg) (W : WX) (rd : Bool) (c : CE) : TE := fun σ H Q => ∃ Γ δ O k x, Fr K Γ δ σ H O ∧ ev C rd c δ k x ∧
  (∀ d v H', k d → Later Γ H H' → Vr K Γ rd H' O v d → Q v H') ∧ XOk xr W Γ O σ H x
def tA (K : PySem.W.Frag) (xr : XRep) (C : Cfg) (W : WX) (c : CE) : TA := fun σ H Q => ∃ Γ δ O k x, Fr K Γ δ σ H O ∧ evA C c δ k x ∧
  (∀ ss vs H', k ss → Later Γ H H' → AReps K Γ H' O ss vs → Q vs H') ∧ XOk xr W Γ O σ H x
def tT (K : PySem.W.Frag) (xr : XRep) (C : Cfg) (W : WX) (c : CE) : TT := fun σ H Q => ∃ Γ δ O k x, Fr K Γ δ σ H O ∧ evT C c δ k x ∧
  (∀ b H', k b → Later Γ H H' → Q b H') ∧ XOk xr W Γ O σ H x
def tP (K : PySem.W.Frag) (xr : XRep) (C : Cfg) (W : WX) (c : CE) : TO := fun σ H Q => ∃ Γ δ O k x, Fr K Γ δ σ H O ∧ evP C c δ k x ∧
  (∀ i H', k i → Later Γ H H' → Q i H') ∧ XOk xr W Γ O σ H x
/-- a walk over things: it stands as long as nothing of it is changed -/
def WalkOf (K : PySem.W.Frag) (Γ : Gh) (O : Addr → Prop) (H : Hp) (rd : Bool) (J : It) (xs : List D) : Prop := ∃ G Y, Walk J xs.length G Y ∧
  ∀ H1 O1, Ext H H1 O O1 → (rd = true → SameM Γ H H1) → OTr O1 H1 → G H1 ∧ ∀ i v H2, i < xs.length → Y i H1 v H2 → Same H1 H2 ∧ ∃ d, xs[i]? = some d ∧ Rep K H2 O1 v d
def tI (K : PySem.W.Frag) (xr : XRep) (C : Cfg) (W : WX) (rd : Bool) (c : CE) : TI := fun σ H R => ∃ Γ δ O k x, Fr K Γ δ σ H O ∧ evI C rd c δ k x ∧
  (∀ xs J H', k xs → Later Γ H H' → WalkOf K Γ O H' rd J xs → R J H') ∧ XOk xr W Γ O σ H x
end
section
variable {K : PySem.W.Frag} {xr : XRep} {C : Cfg} {W : WX} {Γ : Gh} {δ : Dl} {σ : L2.St} {H H' H1 : Hp} {O : Addr → Prop} {x : KX}
theorem Later.refl (w : Γ.W H) : Later Γ H H := ⟨fun _ _ h _ => h, w⟩
theorem XOk.later (h : XOk xr W Γ O σ H x) (l : Later Γ H H1) : XOk xr W Γ O σ H1 x := fun e cls dd H' a b c => h e cls dd H' a (l.trans b) c
theorem mono_tE {rd : Bool} {c : CE} : Mono (tE K xr C W rd c) := fun σ H Q Q' hq ⟨Γ, δ, O, k, x, h1, h2, h3, h4⟩ => ⟨Γ, δ, O, k, x, h1, h2, fun d v H' a b c => hq _ _ (h3 d v H' a b c), h4⟩
theorem Vr.of (f : ∀ b, Γ.M b → O b) {rd : Bool} {v : V} {d : D} (h : Rep K H O v d) : Vr K Γ rd H O v d := by
  cases rd with
  | true => exact h.r f
  | false => exact h
theorem Vr.r (f : ∀ b, Γ.M b → O b) {rd : Bool} {v : V} {d : D} (h : Vr K Γ rd H O v d) : RRep K Γ H O v d := by
  cases rd with
  | true => exact h
  | false => exact Rep.r f h
theorem AReps.length : ∀ {ss : List Slot} {vs : List V}, AReps K Γ H O ss vs → ss.length = vs.length
  | _, _, .nil => rfl
  | _, _, .cons _ r => by simp [r.length]
theorem AReps.vals : ∀ {ss : List Slot} {vs : List V} {ds : List D}, AReps K Γ H O ss vs → valsD ss = some ds → Reps K H O vs ds
  | _, _, ds, .nil, e => by simp [valsD] at e; subst e; exact .nil
  | s :: ss, _, ds, .cons h r, e => by
    cases s with
    | val d =>
      simp only [valsD, Option.map_eq_some_iff] at e
      obtain ⟨es, e1, rfl⟩ := e
      exact .cons h (r.vals e1)
    | _ => simp [valsD] at e
theorem ARep.later (f : Fr K Γ δ σ H O) (l : Later Γ H H') : ∀ {s : Slot} {v : V}, ARep K Γ H O s v → ARep K Γ H' O s v
  | .val d, v, h => Rep.ext (f.ext l) d v h
  | .st, _, h => h
  | .own _, _, h => h
/-- a test's own form -/
def plainTest : Expr → Bool
  | .UnaryOp .Not _ _ => false
  | .BoolOp _ _ _ => false
  | .IfExp _ _ _ _ => false
  | .Compare _ _ _ _ => false
  | _ => true
theorem test_eq {e : Expr} {env : Env} (h : plainTest e = true) (whole : Sem Value) : isTrue e env whole = (do let v ← whole; standAt e.pos; holding [v] (truthy v)) := by
  cases e <;> first | rfl | (simp [plainTest] at h; done) | skip
  rename_i op a p
  cases op <;> first | rfl | (simp [plainTest] at h)
end
end Tk
namespace Tk
open PySem PySem.Spec PyProof.Rows L2
section
variable {K : PySem.W.Frag} {xr : XRep} {C : Cfg} {W : WX} {Γ : Gh} {δ δ' : Dl} {σ σ' : L2.St} {H H' H1 H2 : Hp} {O : Addr → Prop} {x : KX} {p : Addr}
theorem SameM.ext (f : Fr K Γ δ σ H O) {O' : Addr → Prop} (s : SameM Γ H H') (hn : ∀ b, O' b → O b ∨ H b = none) : Ext H H' O O' :=
  ⟨fun b u h n => s b u h fun z => n (f.m b z), hn, fun b xs h => s b _ h fun z => f.gh.wt H H f.w f.w b z xs h, fun b o u h => s b _ h fun z => f.gh.wf H b f.w z o u h⟩
theorem Fr.set {i : Nat} {v : V} {d : D} (f : Fr K Γ δ σ H O) (hi : i < δ.length) (r : Rep K H O v d) : Fr K Γ (δ.set i (some (.val d))) (σ.set i (some v)) H O where
  gh := f.gh
  len := by simp [f.len]
  same := f.same
  sub := f.sub
  otr := f.otr
  w := f.w
  slot := fun j s h => by
    by_cases e : i = j
    · subst e
      rw [List.getElem?_set_self hi] at h
      cases h
      exact ⟨v, List.getElem?_set_self (by rw [← f.len]; exact hi), r⟩
    · rw [List.getElem?_set_ne e] at h
      obtain ⟨u, e1, r1⟩ := f.slot j s h
      exact ⟨u, by rw [List.getElem?_set_ne e]; exact e1, r1⟩
  dist := fun j k a ds es h1 h2 h3 h4 => by
    by_cases e : i = j
    · subst e
      rw [List.getElem?_set_self hi] at h1
      cases h1
    · by_cases e' : i = k
      · subst e'
        rw [List.getElem?_set_self hi] at h2
        cases h2
      · rw [List.getElem?_set_ne e] at h1 h3
        rw [List.getElem?_set_ne e'] at h2 h4
        exact f.dist j k a ds es h1 h2 h3 h4
theorem wipeD_some {i : Nat} {s : Slot} : ∀ {vs : List Nat}, (wipeD δ vs)[i]? = some (some s) → δ[i]? = some (some s) ∧ i ∉ vs
  | [], h => ⟨h, by simp⟩
  | v :: vs, h => by
    unfold wipeD at h
    by_cases hi : v = i
    · subst hi
      by_cases hv : v < (wipeD δ vs).length
      · rw [List.getElem?_set_self hv] at h; cases h
      · rw [List.getElem?_eq_none (by simpa using hv)] at h; cases h
    · rw [List.getElem?_set_ne hi] at h
      obtain ⟨h1, h2⟩ := wipeD_some h
      exact ⟨h1, by simp only [List.mem_cons, not_or]; exact ⟨fun e => hi e.symm, h2⟩⟩
theorem wipe_get {i : Nat} : ∀ {vs : List Nat}, i ∉ vs → (wipe σ vs)[i]? = σ[i]?
  | [], _ => rfl
  | v :: vs, h => by
    simp only [List.mem_cons, not_or] at h
    unfold wipe
    rw [List.getElem?_set_ne (fun e => h.1 e.symm)]
    exact wipe_get h.2
theorem wipeD_length : ∀ vs : List Nat, (wipeD δ vs).length = δ.length
  | [] => rfl
  | v :: vs => by unfold wipeD; rw [List.length_set, wipeD_length vs]
theorem wipe_set_comm (τ : L2.St) (i : Nat) (v : Option V) : ∀ vs : List Nat, i ∈ vs → wipe (τ.set i v) vs = wipe τ vs
  | [], h => by cases h
  | w :: vs, h => by
    unfold wipe
    by_cases hi : i ∈ vs
    · rw [wipe_set_comm τ i v vs hi]
    · rcases List.mem_cons.mp h with rfl | h'
      · have key : ∀ ws : List Nat, i ∉ ws → wipe (τ.set i v) ws = (wipe τ ws).set i v := by
          intro ws
          induction ws with
          | nil => intro _; rfl
          | cons u ws ih =>
            intro hn
            simp only [List.mem_cons, not_or] at hn
            unfold wipe
            rw [ih hn.2, List.set_comm _ _ hn.1]
        rw [key vs hi, List.set_set]
      · exact absurd h' hi
theorem wipe_wipe (τ : L2.St) : ∀ (us vs : List Nat), (∀ i ∈ us, i ∈ vs) → wipe (wipe τ us) vs = wipe τ vs
  | [], _, _ => rfl
  | u :: us, vs, h => by
    show wipe ((wipe τ us).set u none) vs = _
    rw [wipe_set_comm _ u none vs (h u List.mem_cons_self)]
    exact wipe_wipe τ us vs fun i hi => h i (List.mem_cons_of_mem _ hi)
theorem Fr.wipe (f : Fr K Γ δ σ H O) (vs : List Nat) : Fr K Γ (wipeD δ vs) (L2.wipe σ vs) H O where
  gh := f.gh
  len := by rw [wipeD_length, wipe_length]; exact f.len
  same := f.same
  sub := f.sub
  otr := f.otr
  w := f.w
  slot := fun i s h => by
    obtain ⟨h1, h2⟩ := wipeD_some h
    obtain ⟨v, e, r⟩ := f.slot i s h1
    exact ⟨v, by rw [wipe_get h2]; exact e, r⟩
  dist := fun i j a ds es h1 h2 h3 h4 => by
    obtain ⟨h1', n1⟩ := wipeD_some h1
    obtain ⟨h2', n2⟩ := wipeD_some h2
    rw [wipe_get n1] at h3
    rw [wipe_get n2] at h4
    exact f.dist i j a ds es h1' h2' h3 h4
/-- a list of one's own is laid -/
theorem Fr.alloc {o : HO} (f : Fr K Γ δ σ H O) (hp : H p = none) : Fr K Γ δ σ (upd H p o) (fun b => O b ∨ b = p) := by
  have hs : Same H (upd H p o) := same_upd hp
  have l : Later Γ H (upd H p o) := Later.of_same f.gh f.w hs
  have hx : Ext H (upd H p o) O (fun b => O b ∨ b = p) := ⟨fun b u h _ => hs b u h, fun b h => h.elim .inl fun e => .inr (by rw [e]; exact hp), fun b xs h => hs b _ h, fun b _ _ h => hs b _ h⟩
  refine ⟨f.gh, f.len, fun b u h n => hs b u (f.same b u h n), fun b h => .inl (f.sub b h), fun b h e => ?_, l.w, fun i s h => ?_, f.dist⟩
  · rcases h with h | rfl
    · cases q : H b with
      | none => exact f.otr b h q
      | some u => rw [hs b u q] at e; cases e
    · rw [upd_same] at e; cases e
  · obtain ⟨v, e, r⟩ := f.slot i s h
    refine ⟨v, e, ?_⟩
    cases s with
    | val d => exact Rep.ext hx d v r
    | own ds =>
      obtain ⟨a, vs, e1, e2, e3, e4, e5⟩ := r
      exact ⟨a, vs, e1, hs a _ e2, .inl e3, e4, Reps.ext hx ds vs e5⟩
    | st => exact r
/-- a list of one's own that is no slot's is changed -/
theorem Fr.write {xs ys : List V} (f : Fr K Γ δ σ H O) (hp : H p = some (.lst xs)) (ho : O p) (h0 : Γ.H0 p = none) (hn : ∀ (i : Nat) ds, δ[i]? = some (some (.own ds)) → σ[i]? ≠ some (some (.ref p))) : Fr K Γ δ σ (upd H p (.lst ys)) O ∧ Ext H (upd H p (.lst ys)) O O := by
  have nm : ¬ Γ.M p := f.noM h0
  have keep : ∀ b u, H b = some u → b ≠ p → upd H p (.lst ys) b = some u := fun b u h n => by rw [upd_ne n]; exact h
  have hx : Ext H (upd H p (.lst ys)) O O := by
    refine ⟨fun b u h n => keep b u h (fun z => n (by rw [z]; exact ho)), fun b h => .inl h, fun b zs h => keep b _ h fun z => ?_, fun b o u h => keep b _ h fun z => ?_⟩
    · rw [z, hp] at h; cases h
    · rw [z, hp] at h; cases h
  refine ⟨⟨f.gh, f.len, fun b u h n => keep b u (f.same b u h n) (fun z => by rw [z, h0] at h; cases h), f.sub, fun b h e => ?_, ?_, fun i s h => ?_, f.dist⟩, hx⟩
  · by_cases z : b = p
    · subst z; rw [upd_same] at e; cases e
    · rw [upd_ne z] at e; exact f.otr b h e
  · exact f.gh.ws H _ (fun b hb => upd_ne fun z => nm (by rw [← z]; exact hb)) f.w
  · obtain ⟨v, e, r⟩ := f.slot i s h
    refine ⟨v, e, ?_⟩
    cases s with
    | val d => exact Rep.ext hx d v r
    | own ds =>
      obtain ⟨a, vs, e1, e2, e3, e4, e5⟩ := r
      subst e1
      have na : a ≠ p := fun z => hn i ds h (by rw [e, z])
      exact ⟨a, vs, rfl, keep a _ e2 na, e3, e4, Reps.ext hx ds vs e5⟩
    | st => exact r
end
/-! ### targets -/
def gT (K : PySem.W.Frag) (t : Tg) : TG := fun v σ H Q => ∃ Γ δ O d k, Fr K Γ δ σ H O ∧ bindT t d δ k ∧ Rep K H O v d ∧
  ∀ δ' σ', k δ' → Fr K Γ δ' σ' H O → (∀ vs : List Nat, (∀ i ∈ tgs t, i ∈ vs) → wipe σ' vs = wipe σ vs) → Q σ' H
def gTs (K : PySem.W.Frag) (t : Tg) : TGs := fun vs σ H Q => ∃ Γ δ O ds k, Fr K Γ δ σ H O ∧ bindTs t ds δ k ∧ Reps K H O vs ds ∧
  ∀ δ' σ', k δ' → Fr K Γ δ' σ' H O → (∀ vs : List Nat, (∀ i ∈ tgs t, i ∈ vs) → wipe σ' vs = wipe σ vs) → Q σ' H
theorem assign_cons {e : Expr} {es : List Expr} {env : Env} (h : notStar e = true) : assignEach (e :: es) env = (false, assign e env) :: assignEach es env := by
  cases e <;> first | rfl | simp [notStar] at h
section
variable {X : Cx} {N : List Str} {sc : Scope} {fn : Str → Bool}
theorem chkTs_stars : ∀ {t : Tg} {es : List Expr}, chkTs N sc fn t es = true → notStars es = true
  | .nil, [], _ => rfl
  | .cons t u, e :: es, h => by
    simp only [chkTs, Bool.and_eq_true] at h
    simp only [notStars, List.all_cons, Bool.and_eq_true]
    exact ⟨h.1.1, chkTs_stars h.2⟩
  | .nil, _ :: _, h => by simp [chkTs] at h
  | .cons _ _, [], h => by simp [chkTs] at h
  | .name _, _, h => by simp [chkTs] at h
  | .tup _, _, h => by simp [chkTs] at h
theorem assign_len {env : Env} : ∀ {es : List Expr}, notStars es = true → (assignEach es env).length = es.length ∧ (assignEach es env).findIdx? (·.1) = none
  | [], _ => ⟨rfl, rfl⟩
  | e :: es, h => by
    simp only [notStars, List.all_cons, Bool.and_eq_true] at h
    obtain ⟨h1, h2⟩ := assign_len (env := env) (es := es) h.2
    rw [assign_cons h.1]
    refine ⟨by simp [h1], ?_⟩
    rw [List.findIdx?_cons]
    simp [h2]
mutual
theorem bindT_ex : ∀ (t : Tg) (d : D) (δ : Dl) (k : Dl → Prop), bindT t d δ k → ∃ δ', k δ'
  | .name i, d, δ, k, h => ⟨_, h.2⟩
  | .tup t, .tuple ds, δ, k, h => bindTs_ex t ds δ k (by simpa [bindT] using h)
  | .tup t, .none, δ, k, h => by simp [bindT] at h
  | .tup t, .bool _, δ, k, h => by simp [bindT] at h
  | .tup t, .int _, δ, k, h => by simp [bindT] at h
  | .tup t, .str _, δ, k, h => by simp [bindT] at h
  | .tup t, .list _, δ, k, h => by simp [bindT] at h
  | .tup t, .dict _, δ, k, h => by simp [bindT] at h
  | .nil, _, _, _, h => by simp [bindT] at h
  | .cons _ _, _, _, _, h => by simp [bindT] at h
theorem bindTs_ex : ∀ (t : Tg) (ds : List D) (δ : Dl) (k : Dl → Prop), bindTs t ds δ k → ∃ δ', k δ'
  | .nil, [], δ, k, h => ⟨δ, by simpa [bindTs] using h⟩
  | .nil, _ :: _, _, _, h => by simp [bindTs] at h
  | .cons t u, d :: ds, δ, k, h => by
    simp only [bindTs] at h
    obtain ⟨δ', h'⟩ := bindT_ex t d δ _ h
    exact bindTs_ex u ds δ' k h'
  | .cons _ _, [], _, _, h => by simp [bindTs] at h
  | .name _, _, _, _, h => by simp [bindTs] at h
  | .tup _, _, _, _, h => by simp [bindTs] at h
end
theorem bindTs_length : ∀ {t : Tg} {es : List Expr} {ds : List D} {δ : Dl} {k : Dl → Prop}, chkTs N sc fn t es = true → bindTs t ds δ k → ds.length = es.length
  | .nil, [], [], _, _, _, _ => rfl
  | .nil, [], _ :: _, _, _, _, h => by simp [bindTs] at h
  | .nil, _ :: _, _, _, _, h, _ => by simp [chkTs] at h
  | .cons t u, e :: es, d :: ds, δ, k, hc, h => by
    simp only [bindTs] at h
    obtain ⟨δ', h'⟩ := bindT_ex t d δ _ h
    simp only [chkTs, Bool.and_eq_true] at hc
    simp [bindTs_length hc.2 h']
  | .cons _ _, _ :: _, [], _, _, _, h => by simp [bindTs] at h
  | .cons _ _, [], _, _, _, h, _ => by simp [chkTs] at h
  | .name _, _, _, _, _, h, _ => by simp [chkTs] at h
  | .tup _, _, _, _, _, h, _ => by simp [chkTs] at h
mutual
theorem sTg (hN : X.N = N) (nd : X.N.Nodup) (hsc : X.env.scope = sc) (hfn : X.fn = fn) (hc : X.calm = true) : ∀ (t : Tg) (e : Expr), chkT N sc fn t e = true → PG X e (gT X.K t)
  | .name i, e, h => by
    cases e with
    | Name y p =>
      simp only [chkT, Bool.and_eq_true, Bool.or_eq_true, decide_eq_true_eq] at h
      obtain ⟨h1, h2⟩ := h
      have hl : Loc X.env.scope y := by
        rw [hsc]
        rcases h2 with h2 | h2
        · exact .inl h2
        · exact .inr h2.1
      have hf : X.fn y = true ∨ X.env.scope.names.lookup y = some .local := by
        rw [hsc, hfn]
        rcases h2 with h2 | h2
        · exact .inr h2
        · exact .inl h2.2
      have P := pg_name (X := X) (i := i) (pos := p) nd (by rw [hN]; exact h1) hl hf
      refine ⟨fun pins s σ H v u Q I r q => P.run pins s σ H v u Q I r ?_⟩
      obtain ⟨Γ, δ, O, d, k, fr, ⟨hi, hk⟩, rp, q⟩ := q
      exact q _ _ hk (fr.set hi rp) fun vs hv => wipe_set_comm σ i (some v) vs (hv i (by simp [tgs]))
    | _ => simp [chkT] at h
  | .tup t, e, h => by
    cases e with
    | Tuple es k p =>
      simp only [chkT] at h
      have P := sTgs hN nd hsc hfn hc t es h
      obtain ⟨l1, l2⟩ := assign_len (env := X.env) (chkTs_stars h)
      have P2 := pg_tup (X := X) (k := k) (pos := p) hc P l1 l2
      refine ⟨fun pins s σ H v u Q I r q => P2.run pins s σ H v u Q I r ?_⟩
      obtain ⟨Γ, δ, O, d, k, fr, hb, rp, q⟩ := q
      cases d with
      | tuple ds =>
        cases rp with
        | tup h1 h2 =>
          simp only [bindT] at hb
          refine ⟨_, _, rfl, h1, ?_, Γ, δ, O, ds, k, fr, hb, h2, q⟩
          rw [h2.length]
          exact bindTs_length h hb
      | _ => simp [bindT] at hb
    | _ => simp [chkT] at h
  | .nil, e, h => by cases e <;> simp [chkT] at h
  | .cons _ _, e, h => by cases e <;> simp [chkT] at h
theorem sTgs (hN : X.N = N) (nd : X.N.Nodup) (hsc : X.env.scope = sc) (hfn : X.fn = fn) (hc : X.calm = true) : ∀ (t : Tg) (es : List Expr), chkTs N sc fn t es = true → PGs X es (gTs X.K t)
  | .nil, [], h => by
    refine ⟨fun pins s σ H vs us Q I r q => pgs_nil.run pins s σ H vs us Q I r ?_⟩
    obtain ⟨Γ, δ, O, ds, k, fr, hb, rp, q⟩ := q
    cases ds with
    | nil =>
      simp only [bindTs] at hb
      cases rp
      exact ⟨rfl, q δ σ hb fr fun _ _ => rfl⟩
    | cons _ _ => simp [bindTs] at hb
  | .cons t u, e :: es, h => by
    simp only [chkTs, Bool.and_eq_true] at h
    have P1 := sTg hN nd hsc hfn hc t e h.1.2
    have P2 := sTgs hN nd hsc hfn hc u es h.2
    refine ⟨fun pins s σ H vs us Q I r q => (pgs_cons P1 P2 (by rw [assign_cons h.1.1]; rfl)).run pins s σ H vs us Q I r ?_⟩
    obtain ⟨Γ, δ, O, ds, k, fr, hb, rp, q⟩ := q
    cases ds with
    | nil => simp [bindTs] at hb
    | cons d ds =>
      simp only [bindTs] at hb
      cases rp with
      | cons r1 r2 =>
        refine ⟨_, _, rfl, Γ, δ, O, d, _, fr, hb, r1, fun δ' σ' hk fr' wp => ⟨Γ, δ', O, ds, k, fr', hk, r2, fun δ2 σ2 hk2 fr2 wp2 => q δ2 σ2 hk2 fr2 fun vs hv => ?_⟩⟩
        rw [wp2 vs fun i hi => hv i (by simp [tgs, hi]), wp vs fun i hi => hv i (by simp [tgs, hi])]
  | .nil, _ :: _, h => by simp [chkTs] at h
  | .cons _ _, [], h => by simp [chkTs] at h
  | .name _, _, h => by simp [chkTs] at h
  | .tup _, _, h => by simp [chkTs] at h
end
end
end Tk
namespace Tk
open PySem PySem.Spec PyProof.Rows L2
section
variable {X : Cx} {tg e : Expr} {te : TE}
def iAny (K : PySem.W.Frag) (te : TE) : TI := fun σ H R => te σ H fun v H1 => (∃ a xs, v = .ref a ∧ SqL K H1 a xs ∧ R (Itl K a) H1) ∨ (∃ a xs, v = .ref a ∧ SqT K H1 a xs ∧ R (Itt K a) H1) ∨ ∃ z, v = .str z ∧ R (Its z) H1
theorem pi_any (hl : PE X e te) : PI X tg e (iAny X.K te) := by
  refine ⟨fun pins s σ H R I h => ?_⟩
  refine thn (hl.run pins s σ H _ I h) fun v s1 ⟨x, H1, I1, r1, q1⟩ => ?_
  rcases q1 with ⟨a, xs, rfl, hq, q⟩ | ⟨a, xs, rfl, hq, q⟩ | ⟨z, rfl, q⟩
  · cases r1
    obtain ⟨its, rv, p, hz⟩ := I1.list hq
    refine wpAny_pyIter_list p.isList ?_
    refine ⟨s1.heap.objs.size, [s1.heap.objs.size], _, _, H1, rfl, I1.kept (t' := s1.toks) fun b o e => Heap.get?_push_of_some _ e, turn_list a _, ⟨_, Heap.get?_push_size _ rfl, rfl, rfl⟩, fun b hb => ?_, q⟩
    have e : b = s1.heap.objs.size := by simpa using hb
    subst e
    exact I1.fpOk (Nat.le_refl _) (I1.hok.fresh (Nat.le_refl _))
  · cases r1
    obtain ⟨its, rv, p, hz⟩ := I1.tuple hq
    refine wpAny_pyIter_tuple (show s1.heap.IsTuple a its.toArray from p) ?_
    refine ⟨s1.heap.objs.size, [s1.heap.objs.size], _, _, H1, rfl, I1.kept (t' := s1.toks) fun b o e => Heap.get?_push_of_some _ e, turn_tuple a _, ⟨_, Heap.get?_push_size _ rfl, rfl, rfl⟩, fun b hb => ?_, q⟩
    have e : b = s1.heap.objs.size := by simpa using hb
    subst e
    exact I1.fpOk (Nat.le_refl _) (I1.hok.fresh (Nat.le_refl _))
  · obtain ⟨t, rfl⟩ := r1
    cases ha : z.cps.all (· < 128)
    · exact wpAny_pyIter_wide ha (pi_one (tk := s1.toks) I1 _ (turn_str _ z t "str_iterator" (.inr rfl)) ⟨_, Heap.get?_push_size _ rfl, rfl, rfl⟩ q)
    · exact wpAny_pyIter_ascii ha (pi_one (tk := s1.toks) I1 _ (turn_str _ z t "str_ascii_iterator" (.inl rfl)) ⟨_, Heap.get?_push_size _ rfl, rfl, rfl⟩ q)
end
section
variable {K : PySem.W.Frag} {Γ : Gh} {H : Hp} {O : Addr → Prop} {rd : Bool} {a b : Addr} {vs us : List V} {ds es : List D}
theorem SqO.extM {H1 : Hp} {O1 : Addr → Prop} (x : Ext H H1 O O1) (s : rd = true → SameM Γ H H1) {v : V} (hm : ∀ b, Γ.M b → O b) (h : rd = true ∧ SqO K H Γ.M a vs ∨ rd = false ∧ SqO K H O a vs) : SqL K H1 a vs := by
  rcases h with ⟨e, h⟩ | ⟨_, h⟩
  · rcases h with ⟨h, n⟩ | h
    · rcases h with h | ⟨o, h⟩
      · exact .inl (.inl (s e _ _ h n))
      · exact .inl (.inr ⟨o, s e _ _ h n⟩)
    · exact .inr h
  · exact (h.ext x).sq
theorem Vr.lst (h : Vr K Γ rd H O (.ref a) (.list ds)) : ∃ vs, (rd = true ∧ SqO K H Γ.M a vs ∨ rd = false ∧ SqO K H O a vs) ∧ Reps K H O vs ds := by
  cases rd with
  | true =>
    obtain ⟨b, xs, e, h1, h2⟩ := h
    cases e
    exact ⟨xs, .inl ⟨rfl, h1⟩, h2⟩
  | false =>
    cases h with
    | lst h1 h2 => exact ⟨_, .inr ⟨rfl, h1⟩, h2⟩
theorem Vr.not_list {v : V} {d : D} (h : Vr K Γ rd H O v d) (hd : ∀ ds, d ≠ .list ds) : Rep K H O v d := by
  cases rd with
  | false => exact h
  | true => cases d <;> first | exact h | exact absurd rfl (hd _)
theorem walk_of_list (hm : ∀ b, Γ.M b → O b) (h : rd = true ∧ SqO K H Γ.M a vs ∨ rd = false ∧ SqO K H O a vs) (r : Reps K H O vs ds) : WalkOf K Γ O H rd (Itl K a) ds := by
  have hl := r.length
  refine ⟨fun H => SqL K H a vs, YAt vs, by rw [← hl]; exact walk_list, fun H1 O1 x s ho => ⟨SqO.extM (v := .non) x s hm h, fun i v H2 hi y => ?_⟩⟩
  obtain ⟨rfl, y⟩ := y
  obtain ⟨d, e, rp⟩ := r.get y
  exact ⟨Same.refl _, d, e, Rep.ext x d v rp⟩
theorem walk_of_tup (h : SqT K H a vs) (r : Reps K H O vs ds) : WalkOf K Γ O H rd (Itt K a) ds := by
  have hl := r.length
  refine ⟨fun H => SqT K H a vs, YAt vs, by rw [← hl]; exact walk_tup, fun H1 O1 x s ho => ⟨SqT.ext x h, fun i v H2 hi y => ?_⟩⟩
  obtain ⟨rfl, y⟩ := y
  obtain ⟨d, e, rp⟩ := r.get y
  exact ⟨Same.refl _, d, e, Rep.ext x d v rp⟩
theorem walk_of_str {z : Str} : WalkOf K Γ O H rd (Its z) (chars z) := by
  have hl : (chars z).length = z.cps.size := by simp [chars]
  refine ⟨fun _ => True, _, by rw [hl]; exact walk_str, fun H1 O1 x s ho => ⟨trivial, fun i v H2 hi y => ?_⟩⟩
  obtain ⟨rfl, c, ec, rfl⟩ := y
  refine ⟨Same.refl _, .str ⟨#[c]⟩, ?_, .str _ (by show 1 ≤ sizeLine; rw [sizeLine_eq]; decide)⟩
  unfold chars
  rw [List.getElem?_map, Array.getElem?_toList, ec]
  rfl
theorem walk_of_range {lo hi : Int} : WalkOf K Γ O H rd (Itr lo (hi - lo).toNat) (rangeD lo hi) := by
  have hl : (rangeD lo hi).length = (hi - lo).toNat := by simp [rangeD]
  refine ⟨fun _ => True, _, by rw [hl]; exact walk_range, fun H1 O1 x s ho => ⟨trivial, fun i v H2 hi' y => ?_⟩⟩
  obtain ⟨rfl, rfl⟩ := y
  refine ⟨Same.refl _, .int (lo + (i : Nat)), ?_, .int _⟩
  rw [hl] at hi'
  unfold rangeD
  rw [List.getElem?_map, List.getElem?_range hi']
  rfl
theorem pair_new {H1 H2 : Hp} {O1 : Addr → Prop} {T : Addr} {v u : V} {d f : D} (hT : H1 T = none) (e : H2 = upd H1 T (.tup [v, u])) (r1 : Rep K H1 O1 v d) (r2 : Rep K H1 O1 u f) : Same H1 H2 ∧ Rep K H2 O1 (.ref T) (.tuple [d, f]) := by
  subst e
  exact ⟨same_upd hT, mkT hT (.cons r1 (.cons r2 .nil))⟩
theorem zip_at {xs ys : List D} {i : Nat} {d f : D} (h1 : xs[i]? = some d) (h2 : ys[i]? = some f) : (zipD xs ys)[i]? = some (.tuple [d, f]) := by
  unfold zipD
  rw [List.getElem?_map]
  have : (xs.zip ys)[i]? = some (d, f) := by rw [List.getElem?_zip_eq_some]; exact ⟨h1, h2⟩
  rw [this]; rfl
theorem walk_of_zip (hm : ∀ b, Γ.M b → O b) (h : rd = true ∧ SqO K H Γ.M a vs ∨ rd = false ∧ SqO K H O a vs) (h' : rd = true ∧ SqO K H Γ.M b us ∨ rd = false ∧ SqO K H O b us) (r : Reps K H O vs ds) (r' : Reps K H O us es) : WalkOf K Γ O H rd (Itz K a b) (zipD ds es) := by
  have hl : (zipD ds es).length = min vs.length us.length := by simp [zipD, r.length, r'.length]
  refine ⟨fun H => SqL K H a vs ∧ SqL K H b us, YPair (fun i => vs[i]?) (fun i => us[i]?), walk_zip hl, fun H1 O1 x s ho => ⟨⟨SqO.extM (v := .non) x s hm h, SqO.extM (v := .non) x s hm h'⟩, fun i v H2 hi y => ?_⟩⟩
  obtain ⟨T, w, z, rfl, hT, eH, e1, e2⟩ := y
  obtain ⟨d, ed, rd'⟩ := r.get e1
  obtain ⟨f, ef, rf⟩ := r'.get e2
  obtain ⟨s1, s2⟩ := pair_new hT eH (Rep.ext x d w rd') (Rep.ext x f z rf)
  exact ⟨s1, _, zip_at ed ef, s2⟩
theorem walk_zipT' {xs ys : List V} {n : Nat} (hn : n = min xs.length ys.length) : Walk (RZ.ItzT K a b) n (fun H => SqT K H a xs ∧ SqT K H b ys) (YPair (fun i => xs[i]?) (fun i => ys[i]?)) := by
  subst hn
  refine ⟨fun i _ hi q => ?_, fun _ q => ⟨xs, ys, q.1, q.2, by omega⟩, fun i H v H' _ q y => ?_⟩
  · have h1 : i < xs.length := by omega
    have h2 : i < ys.length := by omega
    exact ⟨xs, ys, xs[i], ys[i], q.1, q.2, by simp [h1], by simp [h2]⟩
  · obtain ⟨T, x, z, h1, h2, h3, h4, h5⟩ := y
    exact ⟨T, x, z, h1, h2, h3, h4 xs q.1, h5 ys q.2⟩
theorem walk_of_zipT (h : SqT K H a vs) (h' : SqT K H b us) (r : Reps K H O vs ds) (r' : Reps K H O us es) : WalkOf K Γ O H rd (RZ.ItzT K a b) (zipD ds es) := by
  have hl : (zipD ds es).length = min vs.length us.length := by simp [zipD, r.length, r'.length]
  refine ⟨fun H => SqT K H a vs ∧ SqT K H b us, YPair (fun i => vs[i]?) (fun i => us[i]?), walk_zipT' hl, fun H1 O1 x s ho => ⟨⟨SqT.ext x h, SqT.ext x h'⟩, fun i v H2 hi y => ?_⟩⟩
  obtain ⟨T, w, z, rfl, hT, eH, e1, e2⟩ := y
  obtain ⟨d, ed, rd'⟩ := r.get e1
  obtain ⟨f, ef, rf⟩ := r'.get e2
  obtain ⟨s1, s2⟩ := pair_new hT eH (Rep.ext x d w rd') (Rep.ext x f z rf)
  exact ⟨s1, _, zip_at ed ef, s2⟩
theorem walk_of_enum (hm : ∀ b, Γ.M b → O b) (h : rd = true ∧ SqO K H Γ.M a vs ∨ rd = false ∧ SqO K H O a vs) (r : Reps K H O vs ds) : WalkOf K Γ O H rd (Ite K a) (enumD ds) := by
  have hl : (enumD ds).length = vs.length := by simp [enumD, r.length]
  refine ⟨fun H => SqL K H a vs, YPair (fun i => some (.int (i : Nat))) (fun i => vs[i]?), by rw [hl]; exact walk_enum, fun H1 O1 x s ho => ⟨SqO.extM (v := .non) x s hm h, fun i v H2 hi y => ?_⟩⟩
  obtain ⟨T, w, z, rfl, hT, eH, e1, e2⟩ := y
  cases e1
  obtain ⟨f, ef, rf⟩ := r.get e2
  obtain ⟨s1, s2⟩ := pair_new hT eH (Rep.int (i : Nat)) (Rep.ext x f z rf)
  refine ⟨s1, _, ?_, s2⟩
  unfold enumD
  rw [List.getElem?_map]
  have : ds.zipIdx[i]? = some (f, i) := by rw [List.getElem?_zipIdx]; simp [ef]
  rw [this]; rfl
end
end Tk
namespace Tk
open PySem PySem.Spec PyProof.Rows L2
section
variable {F : FT} {N : List Str} {C : Cfg} {xr : XRep} {n : Nat}
theorem const_ok {X : Cx} {d : D} {c : Const} {k : Nat} {p : Pos} (h : constIs d c = true) : ∃ v, PE X (.Constant c k p) (tC v) ∧ ∀ K H O, Rep K H O v d := by
  cases d <;> cases c <;> simp [constIs] at h
  · exact ⟨.non, pe_non, fun _ _ _ => .non⟩
  · subst h; exact ⟨.bl _, pe_bl, fun _ _ _ => .bl _⟩
  · subst h; exact ⟨.int _, pe_int, fun _ _ _ => .int _⟩
  · obtain ⟨rfl, h⟩ := h; exact ⟨.str _, pe_str, fun _ _ _ => .str _ h⟩
theorem Here.blk {X : Cx} {sc scope : Scope} {W : WX} (h : Here X F N sc C xr n W) (s : Shared) (H : Hp) (A : Addr) (cl : List (Str × Addr)) (fp : List Addr) :
    Here (X.blk s H scope (compEnvC scope cl A X.env) fp) F N (relS scope sc) C xr n (fun _ _ _ _ => False) where
  site := ⟨by show relS scope X.env.scope = _; rw [h.site.sc], h.site.calm, h.site.units, h.site.guards, h.site.blt⟩
  stat := ⟨h.stat.glob, h.stat.xm, h.stat.lens, h.stat.fns⟩
  room := h.room
  hN := h.hN
  nd := h.nd
  tk := takes0
theorem plain_dbg {x : Str} (h : plainName x = true) : (x == ("__debug__" : Str)) = false ∧ (x == ("__classdict__" : Str)) = false := by
  simpa [plainName, Bool.and_eq_true, Bool.not_eq_true'] using h
/-- the new list of a comprehension -/
theorem comp_core {K : PySem.W.Frag} {W : WX} {own : List Nat} {t : Tg} {it e ifs : CE} {σ : L2.St} {H : Hp} {Q : VK} {Γ : Gh} {δ : Dl} {O : Addr → Prop} {k : D → Prop} {x : KX} (ht : ∀ i ∈ tgs t, i ∈ own) (fr : Fr K Γ δ σ H O)
    (hev : ev C false (.comp own e t it ifs) δ k x) (hx : XOk xr W Γ O σ H x)
    (hq : ∀ acc p vs H', k (.list acc) → Later Γ H H' → H p = none → H' p = some (.lst vs) → Reps K H' (fun b => O b ∨ b = p) vs acc → OTr O H' → ¬ O p → Q (.ref p) H') :
    tLc (tI K xr C W true it) (gT K t) (tT K xr C (fun _ _ _ _ => False) ifs) (tE K xr C (fun _ _ _ _ => False) false e) own σ H Q := by
  rw [ev_comp] at hev
  refine ⟨Γ, δ, O, _, x, fr, hev, fun xs J H1 hk l wk => fun p hp => ?_, hx⟩
  obtain ⟨G, Y, w, hw⟩ := wk
  have f1 : Fr K Γ δ σ H1 O := fr.later l
  have nOp : ¬ O p := fun z => f1.otr p z hp
  have h0p : Γ.H0 p = none := by
    cases q : Γ.H0 p with
    | none => rfl
    | some u =>
      by_cases m : Γ.M p
      · exact absurd hp (f1.gh.wm H1 f1.w p m)
      · rw [f1.same p u q m] at hp; cases hp
  have nslot : ∀ (i : Nat) ds, δ[i]? = some (some (.own ds)) → σ[i]? ≠ some (some (.ref p)) := fun i ds e1 e2 => by
    obtain ⟨v, e3, a, vs, e4, e5, _⟩ := f1.slot i _ e1
    rw [e2] at e3
    cases e3
    cases e4
    rw [hp] at e5; cases e5
  have nslotW : ∀ (δ' : Dl) (σ' : L2.St), True := fun _ _ => trivial
  refine lc_it (Qd := fun H2 => Q (.ref p) H2) w (fun i H2 => ∃ acc vs, loopC (compB C own e t ifs δ) (xs.drop i) acc (fun acc => k (.list acc)) ∧ Fr K Γ δ σ H2 (fun b => O b ∨ b = p) ∧ H2 p = some (.lst vs) ∧ Reps K H2 (fun b => O b ∨ b = p) vs acc ∧ SameM Γ H1 H2) ?_ ?_ ?_ ?_
  · exact ⟨[], [], hk, f1.alloc hp, upd_same, .nil, fun b u h _ => same_upd hp b u h⟩
  · rintro i H2 _ ⟨acc, vs, _, f2, _, _, s2⟩
    exact (hw H2 _ (SameM.ext f1 s2 fun b h => h.elim .inl fun e => .inr (by rw [e]; exact hp)) (fun _ => s2) f2.otr).1
  · rintro i y H2 H3 hi ⟨acc, vs, hl, f2, e2, r2, s2⟩ hy
    obtain ⟨s3, d, ed, rd⟩ := (hw H2 _ (SameM.ext f1 s2 fun b h => h.elim .inl fun e => .inr (by rw [e]; exact hp)) (fun _ => s2) f2.otr).2 i y H3 hi hy
    have hdrop : xs.drop i = d :: xs.drop (i + 1) := by
      obtain ⟨h', e'⟩ := List.getElem?_eq_some_iff.mp ed
      rw [List.drop_eq_getElem_cons h', e']
    rw [hdrop] at hl
    simp only [loopC, compB] at hl
    have l3 : Later Γ H2 H3 := Later.of_same f2.gh f2.w s3
    have f3 : Fr K Γ δ σ H3 (fun b => O b ∨ b = p) := f2.later l3
    refine ⟨Γ, wipeD δ own, _, d, _, f3.wipe own, hl, rd, fun δ' σ' hk' f4 wp => ⟨?_, ?_⟩⟩
    · rw [wp own ht, wipe_wipe σ own own fun _ h => h]
    · refine ⟨Γ, δ', _, _, NX, f4, hk', fun b H5 hb l5 => ?_, fun _ _ _ _ z => z.elim⟩
      have f5 : Fr K Γ δ σ H5 (fun b => O b ∨ b = p) := f3.later l5
      have nm : ¬ Γ.M p := f1.noM h0p
      have e5 : H5 p = some (.lst vs) := l5.same p _ (s3 p _ e2) nm
      have r5 : Reps K H5 (fun b => O b ∨ b = p) vs acc := Reps.ext (f2.ext (l3.trans l5)) acc vs r2
      have s5 : SameM Γ H1 H5 := fun c u h m => l5.same c u (s3 c u (s2 c u h m)) m
      cases b with
      | false => exact ⟨acc, vs, hb, f5, e5, r5, s5⟩
      | true =>
        refine ⟨Γ, δ', _, _, NX, f4.later l5, hb, fun d' y' H6 hk6 l6 rp => ?_, fun _ _ _ _ z => z.elim⟩
        have f6 : Fr K Γ δ σ H6 (fun b => O b ∨ b = p) := f5.later l6
        have e6 : H6 p = some (.lst vs) := l6.same p _ e5 nm
        have r6 : Reps K H6 (fun b => O b ∨ b = p) vs acc := Reps.ext (f5.ext l6) acc vs r5
        obtain ⟨f7, x7⟩ := f6.write (ys := vs ++ [y']) e6 (.inr rfl) h0p nslot
        refine ⟨vs, e6, by rw [r6.length]; exact hk6.1, acc ++ [d'], vs ++ [y'], hk6.2, f7, upd_same, (Reps.ext x7 acc vs r6).append (.cons (Rep.ext x7 d' y' rp) .nil), fun c u h m => ?_⟩
        rw [upd_ne (fun z => by rw [z, hp] at h; cases h)]
        exact l6.same c u (s5 c u h m) m
  · rintro H2 ⟨acc, vs, hl, f2, e2, r2, s2⟩
    have : xs.drop xs.length = [] := by simp
    rw [this] at hl
    simp only [loopC] at hl
    have hpH : H p = none := by
      cases q : H p with
      | none => rfl
      | some u =>
        by_cases m : Γ.M p
        · exact absurd hp (f1.gh.wm H1 f1.w p m)
        · rw [l.same p u q m] at hp; cases hp
    refine hq acc p vs H2 hl (l.trans ⟨s2, f2.w⟩) hpH e2 r2 (fun b h => f2.otr b (.inl h)) nOp
end
end Tk
namespace Tk
open PySem PySem.Spec PyProof.Rows L2
section
variable {F : FT} {N : List Str} {C : Cfg} {xr : XRep} {n : Nat}
/-- from values of the parts to a value -/
theorem fin_same {K : PySem.W.Frag} {Γ : Gh} {δ : Dl} {σ : L2.St} {H H1 : Hp} {O : Addr → Prop} {rd : Bool} {k : D → Prop} {Q : VK} {r : D} (fr : Fr K Γ δ σ H O) (l : Later Γ H H1) (hk : k r)
    (q : ∀ d v H', k d → Later Γ H H' → Vr K Γ rd H' O v d → Q v H') : ∀ v' H', Same H1 H' → Rep K H' O v' r → Q v' H' :=
  fun v' H' s rp => q r v' H' hk (l.trans (Later.of_same fr.gh l.w s)) (Vr.of fr.m rp)
theorem op1T_ok {X : Cx} {sc : Scope} {e ea : Expr} {ta : TE} (S : Site X sc) {o : Op1} (h : chkOp1 sc o e = some ea) (ha : PE X ea ta) (ma : Mono ta) : PT X e (tTest (tUn (R1 X.K o) ta)) := by
  by_cases hp : plainTest e = true
  · exact pt_val (op1_ok S h ha ma) (test_eq hp)
  · unfold chkOp1 at h
    split at h
    · cases h
      refine ⟨fun pins s σ H Q I h => ?_⟩
      refine wpAny_isTrue_Compare1 (thn (ha.run pins s σ H _ I h) fun v s1 ⟨x, H1, I1, r1, Γ, O, d, r, ho, hr, hs, q⟩ => ?_) rfl
      simp only [sem1, Option.some.injEq] at hs
      subst hs
      refine Constant_none (is_none_gen ?_)
      obtain ⟨b, e1, q⟩ := q (.bl _) H1 (Same.refl _) (.bl _)
      cases e1
      have e2 : (v == Value.none) = isNoneD d := by rw [r1.none_iff, hr.isN]
      rw [e2]
      exact wpAny_truthy_bool ⟨H1, I1, q⟩
    · cases h
      refine ⟨fun pins s σ H Q I h => ?_⟩
      refine wpAny_isTrue_Compare1 (thn (ha.run pins s σ H _ I h) fun v s1 ⟨x, H1, I1, r1, Γ, O, d, r, ho, hr, hs, q⟩ => ?_) rfl
      simp only [sem1, Option.some.injEq] at hs
      subst hs
      refine Constant_none (isnot_none_gen ?_)
      obtain ⟨b, e1, q⟩ := q (.bl _) H1 (Same.refl _) (.bl _)
      cases e1
      have e2 : (!(v == Value.none)) = !isNoneD d := by rw [r1.none_iff, hr.isN]
      rw [e2]
      exact wpAny_truthy_bool ⟨H1, I1, q⟩
    all_goals first | (cases h; done) | (exact absurd rfl hp) | (split at h <;> first | (cases h; done) | (exact absurd rfl hp))
theorem op2T_ok {X : Cx} {sc : Scope} {e ea eb : Expr} {ta tb : TE} (S : Site X sc) {o : Op2} (h : chkOp2 sc o e = some (ea, eb)) (ha : PE X ea ta) (hb : PE X eb tb) (ma : Mono ta) (mb : Mono tb) : PT X e (tTest (tOp2 X.K o ta tb)) := by
  by_cases hp : plainTest e = true
  · exact pt_val (op2_ok S h ha hb ma mb) (test_eq hp)
  · have cmp : ∀ {op : CmpOp} {a b : Expr} {pos : Pos}, cmpOf o = some op → e = .Compare a [op] [b] pos → (if notSet b = true then some (a, b) else none) = some (ea, eb) → PT X e (tTest (tOp2 X.K o ta tb)) := fun {op a b pos} hc he h => by
      split at h
      · rename_i hn
        cases h
        subst he
        exact PT.imp (pt_cmpR (pos := pos) (cmp_ok S hc) ha hb (marks_ok hn)) fun σ H Q q => ma σ H _ _ (fun v H1 z => z.2) q
      · cases h
    unfold chkOp2 at h
    split at h
    all_goals first | (exact absurd rfl hp) | (exact cmp rfl rfl h) | (cases h; done)
theorem evA_cons {a r : CE} {δ : Dl} {k : List Slot → Prop} {x : KX} (ha : ∀ i, a ≠ .var i) : evA C (.cons a r) δ k x = ev C false a δ (fun d => evA C r δ (fun ss => k (.val d :: ss)) x) x := by
  cases a <;> first | (simp only [evA]; done) | exact absurd rfl (ha _)
theorem sV {X : Cx} {sc : Scope} {W : WX} (h : Here X F N sc C xr n W) (i : Nat) (e : Expr) (hc : chkE F N (.var i) sc e = true) : PE X e (tVar i) := by
  cases e with
  | Name y p =>
    simp only [chkE, Bool.and_eq_true, decide_eq_true_eq] at hc
    obtain ⟨⟨h1, h2⟩, h3⟩ := hc
    have hv : Vis X.env.scope y := by
      rw [h.site.sc]
      unfold vis at h2
      split at h2
      · exact .inl (by assumption)
      · exact .inr (.inl (by assumption))
      · exact .inr (.inr (by assumption))
      · cases h2
    exact pe_var (i := i) (pos := p) (by rw [h.hN]; exact h1) hv (plain_dbg h3).1 (plain_dbg h3).2
  | _ => simp [chkE] at hc
mutual
theorem sE {X : Cx} {sc : Scope} {W : WX} (h : Here X F N sc C xr n W) (rd : Bool) : ∀ (c : CE) (e : Expr), chkE F N c sc e = true → PE X e (tE X.K xr C W rd c)
  | .const d, e, hc => by
    cases e with
    | Constant c k p =>
      simp only [chkE] at hc
      obtain ⟨v, P, r⟩ := const_ok (X := X) (k := k) (p := p) hc
      refine PE.imp P fun σ H Q ⟨Γ, δ, O, k, x, fr, hev, q, _⟩ => ?_
      exact q d v H (by simpa [ev] using hev) (.refl fr.w) (Vr.of fr.m (r _ _ _))
    | _ => simp [chkE] at hc
  | .var i, e, hc => by
    cases e with
    | Name y p =>
      simp only [chkE, Bool.and_eq_true, decide_eq_true_eq] at hc
      obtain ⟨⟨h1, h2⟩, h3⟩ := hc
      have hv : Vis X.env.scope y := by
        rw [h.site.sc]
        unfold vis at h2
        split at h2
        · exact .inl (by assumption)
        · exact .inr (.inl (by assumption))
        · exact .inr (.inr (by assumption))
        · cases h2
      refine PE.imp (pe_var (i := i) (pos := p) (by rw [h.hN]; exact h1) hv (plain_dbg h3).1 (plain_dbg h3).2) fun σ H Q ⟨Γ, δ, O, k, x, fr, hev, q, _⟩ => ?_
      simp only [ev] at hev
      split at hev
      · rename_i d e1
        obtain ⟨v, e2, r⟩ := fr.slot i _ e1
        exact ⟨v, e2, q d v H hev (.refl fr.w) (Vr.of fr.m r)⟩
      · rename_i ds e1
        obtain ⟨rfl, hk⟩ := hev
        obtain ⟨v, e2, a, vs, rfl, e3, e4, e5, e6⟩ := fr.slot i _ e1
        exact ⟨_, e2, q _ _ H hk (.refl fr.w) ⟨a, vs, rfl, .inl ⟨.inl e3, fr.noM e5⟩, e6⟩⟩
      · exact hev.elim
    | _ => simp [chkE] at hc
  | .glob y, e, hc => by
    cases e with
    | Name z p =>
      simp only [chkE, Bool.and_eq_true, decide_eq_true_eq] at hc
      obtain ⟨⟨rfl, h2⟩, h3⟩ := hc
      refine ⟨fun pins s σ H Q I ⟨Γ, δ, O, k, x, fr, hev, q, _⟩ => ?_⟩
      simp only [ev] at hev
      obtain ⟨d, e1, hk⟩ := hev
      obtain ⟨u, v, m, r, rp⟩ := h.stat.glob z d e1
      exact (pe_glob (X := X) (pos := p) (h.site.gl h2) m r (plain_dbg h3).1).run pins s σ H Q I (q d v H hk (.refl fr.w) (Vr.of fr.m (rp _ _)))
    | _ => simp [chkE] at hc
  | .tup r, e, hc => by
    cases e with
    | Tuple es k p =>
      simp only [chkE] at hc
      refine PE.imp (pe_tup (x1 := k) (pos := p) (sA h r es hc)) fun σ H Q ⟨Γ, δ, O, k, x, fr, hev, q, hx⟩ => ?_
      simp only [ev] at hev
      refine ⟨Γ, δ, O, _, x, fr, hev, fun ss vs H1 ⟨ds, e1, e2, hk⟩ l ar => ?_, hx⟩
      have rs := ar.vals e1
      refine ⟨by rw [rs.length]; exact e2, fun p hp => ?_⟩
      exact fin_same fr l hk q _ _ (same_upd hp) (mkT hp rs)
    | _ => simp [chkE] at hc
  | .lst r, e, hc => by
    cases e with
    | List es p =>
      simp only [chkE] at hc
      refine PE.imp (pe_lst (pos := p) (sA h r es hc)) fun σ H Q ⟨Γ, δ, O, k, x, fr, hev, q, hx⟩ => ?_
      simp only [ev] at hev
      refine ⟨Γ, δ, O, _, x, fr, hev, fun ss vs H1 ⟨ds, e1, e2, hk⟩ l ar => ?_, hx⟩
      have rs := ar.vals e1
      refine ⟨by rw [rs.length]; exact e2, fun p hp => ?_⟩
      exact fin_same fr l hk q _ _ (same_upd hp) (mkL (fr.later l).otr hp rs)
    | _ => simp [chkE] at hc
  | .op1 o a, e, hc => by
    simp only [chkE] at hc
    split at hc
    · rename_i ea he
      refine PE.imp (op1_ok h.site he (sE h true a ea hc) mono_tE) fun σ H Q ⟨Γ, δ, O, k, x, fr, hev, q, hx⟩ => ?_
      simp only [ev] at hev
      refine ⟨Γ, δ, O, _, x, fr, hev, fun d v H1 ⟨r, e1, hk⟩ l rp => ?_, hx⟩
      exact ⟨Γ, O, d, r, (fr.later l).otr, rp, e1, fin_same fr l hk q⟩
    · cases hc
  | .op2 o a b, e, hc => by
    simp only [chkE] at hc
    split at hc
    · rename_i ea eb he
      simp only [Bool.and_eq_true] at hc
      refine PE.imp (op2_ok h.site he (sE h true a ea hc.1) (sE h true b eb hc.2) mono_tE mono_tE) fun σ H Q ⟨Γ, δ, O, k, x, fr, hev, q, hx⟩ => ?_
      simp only [ev] at hev
      refine ⟨Γ, δ, O, _, x, fr, hev, fun d v H1 ⟨hr, hk⟩ l rp => ⟨rcv_of hr rp, ?_⟩, hx⟩
      have f1 := fr.later l
      refine ⟨Γ, δ, O, _, x, f1, hk, fun d' v' H2 ⟨r, e1, hk⟩ l2 rp2 => ?_, hx.later l⟩
      exact ⟨Γ, O, d, d', r, (f1.later l2).otr, rp.later f1 l2, rp2, e1, fin_same fr (l.trans l2) hk q⟩
    · cases hc
  | .slc a lo hi, e, hc => by
    cases e with
    | Subscript ea es p =>
      cases es with
      | Slice l u st p2 =>
        cases st with
        | none =>
          simp only [chkE, Bool.and_eq_true] at hc
          refine PE.imp (pe_slice sl_any (sE h true a ea hc.1.1) (sP h lo l hc.1.2) (sP h hi u hc.2)) fun σ H Q ⟨Γ, δ, O, k, x, fr, hev, q, hx⟩ => ?_
          simp only [ev] at hev
          refine ⟨Γ, δ, O, _, x, fr, hev, fun d v H1 hk l rp => ?_, hx⟩
          have f1 := fr.later l
          refine ⟨Γ, δ, O, _, x, f1, hk, fun i H2 hk l2 => ?_, hx.later l⟩
          have f2 := f1.later l2
          refine ⟨Γ, δ, O, _, x, f2, hk, fun j H3 ⟨r, e1, hk⟩ l3 => ?_, (hx.later l).later l2⟩
          exact ⟨Γ, O, d, r, (f2.later l3).otr, (rp.later f1 l2).later f2 l3, e1, fin_same fr ((l.trans l2).trans l3) hk q⟩
        | some _ => simp [chkE] at hc
      | _ => simp [chkE] at hc
    | _ => simp [chkE] at hc
  | .chain o o' a b c, e, hc => by
    cases e with
    | Compare ea ops cs p =>
      match ops, cs, hc with
      | [op, op'], [eb, ec], hc =>
        simp only [chkE, Bool.and_eq_true, decide_eq_true_eq] at hc
        obtain ⟨⟨⟨⟨⟨h1, h2⟩, h3⟩, h4⟩, h5⟩, h6⟩ := hc
        refine PE.imp (pe_chain (pos := p) (cmp_ok h.site h1) (cmp_ok h.site h2) (sE h true a ea h4) (sE h true b eb h5) (sE h true c ec h6) (marks_ok (op := op') h3)) fun σ H Q ⟨Γ, δ, O, k, x, fr, hev, q, hx⟩ => ?_
        simp only [ev] at hev
        refine ⟨Γ, δ, O, _, x, fr, hev, fun d v H1 hk l rp => ?_, hx⟩
        have f1 := fr.later l
        refine ⟨Γ, δ, O, _, x, f1, hk, fun d' v' H2 ⟨z, e1, hk⟩ l2 rp2 => ?_, hx.later l⟩
        have f2 := f1.later l2
        refine ⟨Γ, O, d, d', .bool z, f2.otr, rp.later f1 l2, rp2, e1, fun v3 H3 s3 r3 => ?_⟩
        cases r3
        refine ⟨z, rfl, ?_⟩
        have l3 : Later Γ H2 H3 := Later.of_same f2.gh f2.w s3
        have f3 := f2.later l3
        cases z with
        | false => exact q _ _ _ hk ((l.trans l2).trans l3) (Vr.of fr.m (.bl _))
        | true =>
          refine ⟨Γ, δ, O, _, x, f3, hk, fun d4 v4 H4 ⟨r, e2, hk⟩ l4 rp4 => ?_, ((hx.later l).later l2).later l3⟩
          exact ⟨Γ, O, d', d4, r, (f3.later l4).otr, (rp2.later f2 l3).later f3 l4, rp4, e2, fin_same fr (((l.trans l2).trans l3).trans l4) hk q⟩
      | [], _, hc => simp [chkE] at hc
      | [_], _, hc => simp [chkE] at hc
      | _ :: _ :: _ :: _, _, hc => simp [chkE] at hc
      | [_, _], [], hc => simp [chkE] at hc
      | [_, _], [_], hc => simp [chkE] at hc
      | [_, _], _ :: _ :: _ :: _, hc => simp [chkE] at hc
    | _ => simp [chkE] at hc
  | .and_ a r, e, hc => by
    cases e with
    | BoolOp op es p =>
      cases op with
      | And =>
        match es, hc with
        | e1 :: e2 :: es, hc =>
          simp only [chkE, Bool.and_eq_true] at hc
          have R : PE X (.BoolOp .And (e2 :: es) p) (tE X.K xr C W false r) := by
            cases es with
            | nil => exact pe_one (sE h false r e2 hc.2)
            | cons e3 es => exact sE h false r _ hc.2
          refine PE.imp (pe_and (pos := p) (sE h false a e1 hc.1) R) fun σ H Q ⟨Γ, δ, O, k, x, fr, hev, q, hx⟩ => ?_
          simp only [ev] at hev
          refine ⟨Γ, δ, O, _, x, fr, hev, fun d v H1 ⟨b, e1, hk⟩ l rp => ?_, hx⟩
          subst e1
          cases rp
          refine ⟨b, rfl, ?_⟩
          cases b with
          | false => exact q _ _ _ hk l (Vr.of fr.m (.bl _))
          | true => exact ⟨Γ, δ, O, k, x, fr.later l, hk, fun d v H2 hk l2 rp => q d v H2 hk (l.trans l2) (Vr.of fr.m rp), hx.later l⟩
        | [], hc => simp [chkE] at hc
        | [_], hc => simp [chkE] at hc
      | Or => simp [chkE] at hc
    | _ => simp [chkE] at hc
  | .or_ a r, e, hc => by
    cases e with
    | BoolOp op es p =>
      cases op with
      | Or =>
        match es, hc with
        | e1 :: e2 :: es, hc =>
          simp only [chkE, Bool.and_eq_true] at hc
          have R : PE X (.BoolOp .Or (e2 :: es) p) (tE X.K xr C W false r) := by
            cases es with
            | nil => exact pe_one (sE h false r e2 hc.2)
            | cons e3 es => exact sE h false r _ hc.2
          refine PE.imp (pe_or (pos := p) (sE h false a e1 hc.1) R) fun σ H Q ⟨Γ, δ, O, k, x, fr, hev, q, hx⟩ => ?_
          simp only [ev] at hev
          refine ⟨Γ, δ, O, _, x, fr, hev, fun d v H1 ⟨b, e1, hk⟩ l rp => ?_, hx⟩
          subst e1
          cases rp
          refine ⟨b, rfl, ?_⟩
          cases b with
          | true => exact q _ _ _ hk l (Vr.of fr.m (.bl _))
          | false => exact ⟨Γ, δ, O, k, x, fr.later l, hk, fun d v H2 hk l2 rp => q d v H2 hk (l.trans l2) (Vr.of fr.m rp), hx.later l⟩
        | [], hc => simp [chkE] at hc
        | [_], hc => simp [chkE] at hc
      | And => simp [chkE] at hc
    | _ => simp [chkE] at hc
  | .not_ a, e, hc => by
    cases e with
    | UnaryOp op ea p =>
      cases op with
      | Not =>
        simp only [chkE] at hc
        refine PE.imp (pe_not (pos := p) (sE h true a ea hc)) fun σ H Q ⟨Γ, δ, O, k, x, fr, hev, q, hx⟩ => ?_
        simp only [ev] at hev
        refine ⟨Γ, δ, O, _, x, fr, hev, fun d v H1 ⟨b, e1, hk⟩ l rp => ?_, hx⟩
        subst e1
        cases rp
        exact ⟨b, rfl, q _ _ _ hk l (Vr.of fr.m (.bl _))⟩
      | _ => simp [chkE] at hc
    | _ => simp [chkE] at hc
  | .ifx c a b, e, hc => by
    cases e with
    | IfExp ec ea eb p =>
      simp only [chkE, Bool.and_eq_true] at hc
      refine PE.imp (pe_ifExp (pos := p) (sT h c ec hc.1.1) (sE h rd a ea hc.1.2) (sE h rd b eb hc.2)) fun σ H Q ⟨Γ, δ, O, k, x, fr, hev, q, hx⟩ => ?_
      simp only [ev] at hev
      refine ⟨Γ, δ, O, _, x, fr, hev, fun z H1 hk l => ?_, hx⟩
      have f1 := fr.later l
      cases z with
      | true => exact ⟨Γ, δ, O, k, x, f1, hk, fun d v H2 hk l2 rp => q d v H2 hk (l.trans l2) rp, hx.later l⟩
      | false => exact ⟨Γ, δ, O, k, x, f1, hk, fun d v H2 hk l2 rp => q d v H2 hk (l.trans l2) rp, hx.later l⟩
    | _ => simp [chkE] at hc
  | .call f r, e, hc => by
    cases e with
    | Call fe es kws p =>
      cases fe with
      | Name y py =>
        match kws, hc with
        | [], hc =>
          simp only [chkE, Bool.and_eq_true, decide_eq_true_eq] at hc
          obtain ⟨⟨⟨⟨h1, h2⟩, h3⟩, h4⟩, h5⟩ := hc
          have fin : ∀ {σ : L2.St} {H H1 : Hp} {Q : VK} {Γ : Gh} {δ : Dl} {O : Addr → Prop} {k : D → Prop} {x : KX} {ss : List Slot} {vs : List V}, Fr X.K Γ δ σ H O → Later Γ H H1 → C.call f ss (fun s => ∃ d, slotD s = some d ∧ k d) x → AReps X.K Γ H1 O ss vs →
              (∀ d v H', k d → Later Γ H H' → Vr X.K Γ rd H' O v d → Q v H') → XOk xr W Γ O σ H x → spC X.K xr C.call f es.length vs H1 Q fun cls dd H' => W cls dd σ H' := by
            intro σ H H1 Q Γ δ O k x ss vs fr l hk ar q hx
            have f1 := fr.later l
            refine ⟨by rw [← ar.length]; exact h.stat.lens f y _ h1 ss _ _ hk, Γ, O, ss, _, x, fr.gh, l.w, f1.otr, fr.m, ar, hk, fun s v H' ⟨d, e1, hk⟩ l' rr => ?_, fun e cls dd H' hx' l' xx => hx e cls dd H' hx' (l.trans l') xx⟩
            cases s with
            | val d' => cases e1; exact q _ _ _ hk (l.trans l') (Vr.of fr.m rr)
            | own ds =>
              cases e1
              obtain ⟨a, us, rfl, e2, e3, e4⟩ := rr
              refine q _ _ _ hk (l.trans l') (Vr.of fr.m (.lst (.inl ⟨.inl e2, fun z => f1.otr a z e3⟩) (Reps.ext (Ext.sub fun b z => .inl z) _ _ e4)))
            | st => cases e1
          cases es with
          | nil =>
            refine PE.imp (pe_fn0 (p := py) (pos := p) h h1 h2 h3) fun σ H Q ⟨Γ, δ, O, k, x, fr, hev, q, hx⟩ => ?_
            have er : r = .nil := by cases r <;> first | rfl | (simp [chkA] at h5)
            subst er
            simp only [ev, evA] at hev
            exact fin fr (.refl fr.w) hev .nil q hx
          | cons e1 es =>
            refine PE.imp (pe_fn (p := py) (pos := p) h h1 h2 h3 h4 (sA h r _ h5)) fun σ H Q ⟨Γ, δ, O, k, x, fr, hev, q, hx⟩ => ?_
            simp only [ev] at hev
            exact ⟨Γ, δ, O, _, x, fr, hev, fun ss vs H1 hk l ar => fin fr l hk ar q hx, hx⟩
        | _ :: _, hc => simp [chkE] at hc
      | _ => simp [chkE] at hc
    | _ => simp [chkE] at hc
  | .comp own e t it ifs, ee, hc => by
    cases ee with
    | ListComp elt gens scope p =>
      match gens, hc with
      | [⟨tg, iter, ifs', a⟩], hc =>
        simp only [chkE, Bool.and_eq_true, decide_eq_true_eq] at hc
        obtain ⟨⟨⟨⟨⟨⟨⟨rfl, h1⟩, h2⟩, h3⟩, h4⟩, h5⟩, h6⟩, h7⟩ := hc
        have hown : (own.map fun i => (N.getD i "", i)).map (·.2) = own := by simp [List.map_map, Function.comp_def]
        have ok : BlkOk X.N X.env.scope scope (own.map fun i => (N.getD i "", i)) := by
          rw [h.hN, h.site.sc]
          exact blkOk_by h1
        have hs : ∀ y, foldedSetIterable iter X.env y = pure y := fun y => by
          cases iter <;> first | rfl | (simp [notSet] at h2)
        have hI := sI h true it tg iter h3
        have hT : ∀ (s : Shared) (H : Hp) (A : Addr) (cl : List (Str × Addr)) (fp : List Addr), PTs (X.blk s H scope (compEnvC scope cl A X.env) fp) ifs' (tT X.K xr C (fun _ _ _ _ => False) ifs) := fun s H A cl fp => by
          match ifs', h6 with
          | [], h6 =>
            cases ifs <;> first | (simp at h6; done) | skip
            refine ⟨fun pins s σ H Q I ⟨Γ, δ, O, k, x, fr, hev, q, hx⟩ => pts_nil.run pins s σ H Q I ?_⟩
            exact q true H (by simpa [evT] using hev) (.refl fr.w)
          | [c], h6 => exact pts_one (sT (h.blk s H A cl fp) ifs c h6)
          | _ :: _ :: _, h6 => simp at h6
        have P := pe_lc (pos := p) h.site.calm h.nd hI ok (fun s H A cl fp => sTg (X := X.blk s H scope (compEnvC scope cl A X.env) fp) h.hN h.nd (h.blk s H A cl fp).site.sc rfl h.site.calm t tg h4)
          (elt := elt) (g := gT X.K t) (te := tE X.K xr C (fun _ _ _ _ => False) false e) (tt := tT X.K xr C (fun _ _ _ _ => False) ifs) hT (fun s H A cl fp => sE (h.blk s H A cl fp) false e elt h7) hs
        rw [hown] at P
        refine PE.imp P fun σ H Q ⟨Γ, δ, O, k, x, fr, hev, q, hx⟩ => ?_
        refine comp_core (by simpa using h5) fr (by rw [ev_comp] at hev ⊢; exact hev) hx fun acc p vs H' hk l hp e2 rs ot no => ?_
        exact q _ _ _ hk l (Vr.of fr.m (.lst (.inl ⟨.inl e2, no⟩) (Reps.ext (Ext.sub fun b z => .inl z) _ _ rs)))
      | [], hc => simp [chkE] at hc
      | _ :: _ :: _, hc => simp [chkE] at hc
    | _ => simp [chkE] at hc
  | .nil, e, hc => by simp [chkE] at hc
  | .cons _ _, e, hc => by simp [chkE] at hc
  | .nopart, e, hc => by simp [chkE] at hc
  | .iter _, e, hc => by simp [chkE] at hc
  | .range1 _, e, hc => by simp [chkE] at hc
  | .range2 _ _, e, hc => by simp [chkE] at hc
  | .zip2 _ _, e, hc => by simp [chkE] at hc
  | .enum _, e, hc => by simp [chkE] at hc
termination_by c => 8 * sizeOf c
theorem sP {X : Cx} {sc : Scope} {W : WX} (h : Here X F N sc C xr n W) : ∀ (c : CE) (e : Option Expr), chkP F N c sc e = true → PO X e (tP X.K xr C W c)
  | .nopart, none, hc => ⟨fun pins s σ H Q I ⟨Γ, δ, O, k, x, fr, hev, q, hx⟩ => po_none.run pins s σ H Q I (q none H (by simpa [evP] using hev) (.refl fr.w))⟩
  | .cons a .nil, some e, hc => by
    simp only [chkP] at hc
    refine ⟨fun pins s σ H Q I ⟨Γ, δ, O, k, x, fr, hev, q, hx⟩ => (po_some (sE h true a e hc)).run pins s σ H Q I ?_⟩
    simp only [evP] at hev
    refine ⟨Γ, δ, O, _, x, fr, hev, fun d v H1 ⟨i, e1, hk⟩ l rp => ?_, hx⟩
    subst e1
    cases rp
    exact ⟨i, rfl, q _ _ hk l⟩
  | .nopart, some _, hc => by simp [chkP] at hc
  | .cons a .nil, none, hc => by simp [chkP] at hc
  | .cons _ (.const _), _, hc => by simp [chkP] at hc
  | .cons _ (.var _), _, hc => by simp [chkP] at hc
  | .cons _ (.glob _), _, hc => by simp [chkP] at hc
  | .cons _ (.cons _ _), _, hc => by simp [chkP] at hc
  | .cons _ (.tup _), _, hc => by simp [chkP] at hc
  | .cons _ (.lst _), _, hc => by simp [chkP] at hc
  | .cons _ (.op1 _ _), _, hc => by simp [chkP] at hc
  | .cons _ (.op2 _ _ _), _, hc => by simp [chkP] at hc
  | .cons _ (.slc _ _ _), _, hc => by simp [chkP] at hc
  | .cons _ (.nopart), _, hc => by simp [chkP] at hc
  | .cons _ (.chain _ _ _ _ _), _, hc => by simp [chkP] at hc
  | .cons _ (.and_ _ _), _, hc => by simp [chkP] at hc
  | .cons _ (.or_ _ _), _, hc => by simp [chkP] at hc
  | .cons _ (.not_ _), _, hc => by simp [chkP] at hc
  | .cons _ (.ifx _ _ _), _, hc => by simp [chkP] at hc
  | .cons _ (.call _ _), _, hc => by simp [chkP] at hc
  | .cons _ (.comp _ _ _ _ _), _, hc => by simp [chkP] at hc
  | .cons _ (.iter _), _, hc => by simp [chkP] at hc
  | .cons _ (.range1 _), _, hc => by simp [chkP] at hc
  | .cons _ (.range2 _ _), _, hc => by simp [chkP] at hc
  | .cons _ (.zip2 _ _), _, hc => by simp [chkP] at hc
  | .cons _ (.enum _), _, hc => by simp [chkP] at hc
  | .const _, _, hc => by simp [chkP] at hc
  | .var _, _, hc => by simp [chkP] at hc
  | .glob _, _, hc => by simp [chkP] at hc
  | .nil, _, hc => by simp [chkP] at hc
  | .tup _, _, hc => by simp [chkP] at hc
  | .lst _, _, hc => by simp [chkP] at hc
  | .op1 _ _, _, hc => by simp [chkP] at hc
  | .op2 _ _ _, _, hc => by simp [chkP] at hc
  | .slc _ _ _, _, hc => by simp [chkP] at hc
  | .chain _ _ _ _ _, _, hc => by simp [chkP] at hc
  | .and_ _ _, _, hc => by simp [chkP] at hc
  | .or_ _ _, _, hc => by simp [chkP] at hc
  | .not_ _, _, hc => by simp [chkP] at hc
  | .ifx _ _ _, _, hc => by simp [chkP] at hc
  | .call _ _, _, hc => by simp [chkP] at hc
  | .comp _ _ _ _ _, _, hc => by simp [chkP] at hc
  | .iter _, _, hc => by simp [chkP] at hc
  | .range1 _, _, hc => by simp [chkP] at hc
  | .range2 _ _, _, hc => by simp [chkP] at hc
  | .zip2 _ _, _, hc => by simp [chkP] at hc
  | .enum _, _, hc => by simp [chkP] at hc
termination_by c => 8 * sizeOf c + 5
theorem sA {X : Cx} {sc : Scope} {W : WX} (h : Here X F N sc C xr n W) : ∀ (c : CE) (es : List Expr), chkA F N c sc es = true → PA X es (tA X.K xr C W c)
  | .nil, [], hc => PA.imp pa_nil fun σ H Q ⟨Γ, δ, O, k, x, fr, hev, q, hx⟩ => q [] [] H (by simpa [evA] using hev) (.refl fr.w) .nil
  | .cons a r, e :: es, hc => by
    simp only [chkA, Bool.and_eq_true] at hc
    obtain ⟨⟨h1, h2⟩, h3⟩ := hc
    by_cases hv : ∃ i, a = .var i
    · obtain ⟨i, rfl⟩ := hv
      refine PA.imp (pa_cons (sV h i e h2) (sA h r es h3) (star_cons h1)) fun σ H Q ⟨Γ, δ, O, k, x, fr, hev, q, hx⟩ => ?_
      simp only [evA] at hev
      split at hev
      · rename_i d e1
        obtain ⟨v, e2, rp⟩ := fr.slot i _ e1
        refine ⟨v, e2, Γ, δ, O, _, x, fr, hev, fun ss vs H2 hk l2 ar => ?_, hx⟩
        exact q _ _ _ hk l2 (.cons (ARep.later fr l2 (s := .val d) rp) ar)
      · rename_i e1
        obtain ⟨v, e2, rp⟩ := fr.slot i _ e1
        refine ⟨v, e2, Γ, δ, O, _, x, fr, hev, fun ss vs H2 hk l2 ar => ?_, hx⟩
        exact q _ _ _ hk l2 (.cons (ARep.later fr l2 (s := .st) rp) ar)
      · exact hev.elim
    · refine PA.imp (pa_cons (sE h false a e h2) (sA h r es h3) (star_cons h1)) fun σ H Q ⟨Γ, δ, O, k, x, fr, hev, q, hx⟩ => ?_
      rw [evA_cons fun i e => hv ⟨i, e⟩] at hev
      refine ⟨Γ, δ, O, _, x, fr, hev, fun d v H1 hk l rp => ?_, hx⟩
      have f1 := fr.later l
      refine ⟨Γ, δ, O, _, x, f1, hk, fun ss vs H2 hk l2 ar => ?_, hx.later l⟩
      exact q _ _ _ hk (l.trans l2) (.cons (ARep.later f1 l2 (s := .val d) rp) ar)
  | .nil, _ :: _, hc => by simp [chkA] at hc
  | .cons _ _, [], hc => by simp [chkA] at hc
  | .const _, _, hc => by simp [chkA] at hc
  | .var _, _, hc => by simp [chkA] at hc
  | .glob _, _, hc => by simp [chkA] at hc
  | .tup _, _, hc => by simp [chkA] at hc
  | .lst _, _, hc => by simp [chkA] at hc
  | .op1 _ _, _, hc => by simp [chkA] at hc
  | .op2 _ _ _, _, hc => by simp [chkA] at hc
  | .slc _ _ _, _, hc => by simp [chkA] at hc
  | .nopart, _, hc => by simp [chkA] at hc
  | .chain _ _ _ _ _, _, hc => by simp [chkA] at hc
  | .and_ _ _, _, hc => by simp [chkA] at hc
  | .or_ _ _, _, hc => by simp [chkA] at hc
  | .not_ _, _, hc => by simp [chkA] at hc
  | .ifx _ _ _, _, hc => by simp [chkA] at hc
  | .call _ _, _, hc => by simp [chkA] at hc
  | .comp _ _ _ _ _, _, hc => by simp [chkA] at hc
  | .iter _, _, hc => by simp [chkA] at hc
  | .range1 _, _, hc => by simp [chkA] at hc
  | .range2 _ _, _, hc => by simp [chkA] at hc
  | .zip2 _ _, _, hc => by simp [chkA] at hc
  | .enum _, _, hc => by simp [chkA] at hc
termination_by c => 8 * sizeOf c + 5
theorem sT {X : Cx} {sc : Scope} {W : WX} (h : Here X F N sc C xr n W) : ∀ (c : CE) (e : Expr), chkE F N c sc e = true → PT X e (tT X.K xr C W c)
  | .and_ a r, e, hc => (sW h (.and_ a r) e hc (.inl ⟨a, r, rfl⟩)).pt
  | .or_ a r, e, hc => (sW h (.or_ a r) e hc (.inr ⟨a, r, rfl⟩)).pt
  | .not_ a, e, hc => by
    cases e with
    | UnaryOp op ea p =>
      cases op with
      | Not =>
        simp only [chkE] at hc
        refine PT.imp (pt_not (pos := p) (sT h a ea hc)) fun σ H Q ⟨Γ, δ, O, k, x, fr, hev, q, hx⟩ => ?_
        simp only [evT] at hev
        exact ⟨Γ, δ, O, _, x, fr, hev, fun b H1 hk l => q _ _ hk l, hx⟩
      | _ => simp [chkE] at hc
    | _ => simp [chkE] at hc
  | .op1 o a, e, hc => by
    simp only [chkE] at hc
    split at hc
    · rename_i ea he
      refine PT.imp (op1T_ok h.site he (sE h true a ea hc) mono_tE) fun σ H Q ⟨Γ, δ, O, k, x, fr, hev, q, hx⟩ => ?_
      simp only [evT] at hev
      refine ⟨Γ, δ, O, _, x, fr, hev, fun d v H1 ⟨b, e1, hk⟩ l rp => ?_, hx⟩
      refine ⟨Γ, O, d, .bool b, (fr.later l).otr, rp, e1, fun v' H' s r' => ?_⟩
      cases r'
      exact ⟨b, rfl, q _ _ hk (l.trans (Later.of_same fr.gh l.w s))⟩
    · cases hc
  | .op2 o a b, e, hc => by
    simp only [chkE] at hc
    split at hc
    · rename_i ea eb he
      simp only [Bool.and_eq_true] at hc
      refine PT.imp (op2T_ok h.site he (sE h true a ea hc.1) (sE h true b eb hc.2) mono_tE mono_tE) fun σ H Q ⟨Γ, δ, O, k, x, fr, hev, q, hx⟩ => ?_
      simp only [evT] at hev
      refine ⟨Γ, δ, O, _, x, fr, hev, fun d v H1 ⟨hr, hk⟩ l rp => ⟨rcv_of hr rp, ?_⟩, hx⟩
      have f1 := fr.later l
      refine ⟨Γ, δ, O, _, x, f1, hk, fun d' v' H2 ⟨z, e1, hk⟩ l2 rp2 => ?_, hx.later l⟩
      refine ⟨Γ, O, d, d', .bool z, (f1.later l2).otr, rp.later f1 l2, rp2, e1, fun v' H' s r' => ?_⟩
      cases r'
      exact ⟨z, rfl, q _ _ hk ((l.trans l2).trans (Later.of_same fr.gh l2.w s))⟩
    · cases hc
  | .chain o o' a b c, e, hc => by
    cases e with
    | Compare ea ops cs p =>
      match ops, cs, hc with
      | [op, op'], [eb, ec], hc =>
        simp only [chkE, Bool.and_eq_true, decide_eq_true_eq] at hc
        obtain ⟨⟨⟨⟨⟨h1, h2⟩, h3⟩, h4⟩, h5⟩, h6⟩ := hc
        refine PT.imp (pt_chain (pos := p) (cmp_ok h.site h1) (cmp_ok h.site h2) (sE h true a ea h4) (sE h true b eb h5) (sE h true c ec h6) (marks_ok (op := op') h3)) fun σ H Q ⟨Γ, δ, O, k, x, fr, hev, q, hx⟩ => ?_
        simp only [evT] at hev
        refine ⟨Γ, δ, O, _, x, fr, hev, fun d v H1 hk l rp => ?_, hx⟩
        have f1 := fr.later l
        refine ⟨Γ, δ, O, _, x, f1, hk, fun d' v' H2 ⟨z, e1, hk⟩ l2 rp2 => ?_, hx.later l⟩
        have f2 := f1.later l2
        refine ⟨Γ, O, d, d', .bool z, f2.otr, rp.later f1 l2, rp2, e1, fun v3 H3 s3 r3 => ?_⟩
        cases r3
        refine ⟨z, rfl, ?_⟩
        have l3 : Later Γ H2 H3 := Later.of_same f2.gh f2.w s3
        have f3 := f2.later l3
        cases z with
        | false => exact ⟨_, rfl, q _ _ hk ((l.trans l2).trans l3)⟩
        | true =>
          refine ⟨Γ, δ, O, _, x, f3, hk, fun d4 v4 H4 ⟨z, e2, hk⟩ l4 rp4 => ?_, ((hx.later l).later l2).later l3⟩
          refine ⟨Γ, O, d', d4, .bool z, (f3.later l4).otr, (rp2.later f2 l3).later f3 l4, rp4, e2, fun v' H' s r' => ?_⟩
          cases r'
          exact ⟨_, rfl, q _ _ hk ((((l.trans l2).trans l3).trans l4).trans (Later.of_same fr.gh l4.w s))⟩
      | [], _, hc => simp [chkE] at hc
      | [_], _, hc => simp [chkE] at hc
      | _ :: _ :: _ :: _, _, hc => simp [chkE] at hc
      | [_, _], [], hc => simp [chkE] at hc
      | [_, _], [_], hc => simp [chkE] at hc
      | [_, _], _ :: _ :: _ :: _, hc => simp [chkE] at hc
    | _ => simp [chkE] at hc
  | .var i, e, hc => by
    have P := sE h true (.var i) e hc
    have hp : plainTest e = true := by cases e <;> first | rfl | (simp [chkE] at hc)
    refine PT.imp (pt_val P (test_eq hp)) fun σ H Q ⟨Γ, δ, O, k, x, fr, hev, q, hx⟩ => ?_
    simp only [evT] at hev
    split at hev
    · rename_i b e1
      refine ⟨Γ, δ, O, fun d => d = .bool b ∧ k b, x, fr, by simp [ev, e1, hev], fun d v H1 ⟨e2, hk⟩ l rp => ?_, hx⟩
      subst e2
      cases rp
      exact ⟨b, rfl, q _ _ hk l⟩
    · exact hev.elim
  | .call f r, e, hc => by
    have P := sE h true (.call f r) e hc
    have hp : plainTest e = true := by cases e <;> first | rfl | (simp [chkE] at hc)
    refine PT.imp (pt_val P (test_eq hp)) fun σ H Q ⟨Γ, δ, O, k, x, fr, hev, q, hx⟩ => ?_
    simp only [evT] at hev
    refine ⟨Γ, δ, O, fun d => ∃ b, d = .bool b ∧ k b, x, fr, by simpa [ev] using hev, fun d v H1 ⟨b, e2, hk⟩ l rp => ?_, hx⟩
    subst e2
    cases rp
    exact ⟨b, rfl, q _ _ hk l⟩
  | .const d, e, hc => by
    have P := sE h true (.const d) e hc
    have hp : plainTest e = true := by cases e <;> first | rfl | (simp [chkE] at hc)
    refine PT.imp (pt_val P (test_eq hp)) fun σ H Q ⟨Γ, δ, O, k, x, fr, hev, q, hx⟩ => ?_
    cases d with
    | bool b =>
      simp only [evT] at hev
      refine ⟨Γ, δ, O, fun d => d = .bool b ∧ k b, x, fr, by simp [ev, hev], fun d v H1 ⟨e2, hk⟩ l rp => ?_, hx⟩
      subst e2
      cases rp
      exact ⟨b, rfl, q _ _ hk l⟩
    | _ => simp [evT] at hev
  | .ifx _ _ _, e, hc => ⟨fun pins s σ H Q I ⟨Γ, δ, O, k, x, fr, hev, q, hx⟩ => by simp [evT] at hev⟩
  | .tup _, e, hc => ⟨fun pins s σ H Q I ⟨Γ, δ, O, k, x, fr, hev, q, hx⟩ => by simp [evT] at hev⟩
  | .lst _, e, hc => ⟨fun pins s σ H Q I ⟨Γ, δ, O, k, x, fr, hev, q, hx⟩ => by simp [evT] at hev⟩
  | .glob _, e, hc => ⟨fun pins s σ H Q I ⟨Γ, δ, O, k, x, fr, hev, q, hx⟩ => by simp [evT] at hev⟩
  | .slc _ _ _, e, hc => ⟨fun pins s σ H Q I ⟨Γ, δ, O, k, x, fr, hev, q, hx⟩ => by simp [evT] at hev⟩
  | .comp _ _ _ _ _, e, hc => ⟨fun pins s σ H Q I ⟨Γ, δ, O, k, x, fr, hev, q, hx⟩ => by simp [evT] at hev⟩
  | .nil, e, hc => by simp [chkE] at hc
  | .cons _ _, e, hc => by simp [chkE] at hc
  | .nopart, e, hc => by simp [chkE] at hc
  | .iter _, e, hc => by simp [chkE] at hc
  | .range1 _, e, hc => by simp [chkE] at hc
  | .range2 _ _, e, hc => by simp [chkE] at hc
  | .zip2 _ _, e, hc => by simp [chkE] at hc
  | .enum _, e, hc => by simp [chkE] at hc
termination_by c => 8 * sizeOf c + 2
theorem sW {X : Cx} {sc : Scope} {W : WX} (h : Here X F N sc C xr n W) : ∀ (c : CE) (e : Expr), chkE F N c sc e = true → ((∃ a r, c = .and_ a r) ∨ ∃ a r, c = .or_ a r) → PW X e (tT X.K xr C W c)
  | .and_ a r, e, hc, _ => by
    cases e with
    | BoolOp op es p =>
      cases op with
      | And =>
        match es, hc with
        | e1 :: e2 :: es, hc =>
          simp only [chkE, Bool.and_eq_true] at hc
          have R : PW X (.BoolOp .And (e2 :: es) p) (tT X.K xr C W r) := by
            cases es with
            | nil => exact pw_and1 (sT h r e2 hc.2)
            | cons e3 es =>
              have hr := hc.2
              refine sW h r _ hr ?_
              cases r <;> first | exact .inl ⟨_, _, rfl⟩ | (simp [chkE] at hr; done) | (simp only [chkE] at hr; rename_i o _; cases o <;> simp [chkOp1, chkOp2] at hr; done) | (simp only [chkE] at hr; rename_i o _ _; cases o <;> simp [chkOp1, chkOp2] at hr; done)
          refine PW.imp (pw_and (pos := p) (sT h a e1 hc.1) R) fun σ H Q ⟨Γ, δ, O, k, x, fr, hev, q, hx⟩ => ?_
          simp only [evT] at hev
          refine ⟨Γ, δ, O, _, x, fr, hev, fun b H1 hk l => ?_, hx⟩
          cases b with
          | false => exact q _ _ hk l
          | true => exact ⟨Γ, δ, O, k, x, fr.later l, hk, fun b H2 hk l2 => q b H2 hk (l.trans l2), hx.later l⟩
        | [], hc => simp [chkE] at hc
        | [_], hc => simp [chkE] at hc
      | Or => simp [chkE] at hc
    | _ => simp [chkE] at hc
  | .or_ a r, e, hc, _ => by
    cases e with
    | BoolOp op es p =>
      cases op with
      | Or =>
        match es, hc with
        | e1 :: e2 :: es, hc =>
          simp only [chkE, Bool.and_eq_true] at hc
          have R : PW X (.BoolOp .Or (e2 :: es) p) (tT X.K xr C W r) := by
            cases es with
            | nil => exact pw_or1 (sT h r e2 hc.2)
            | cons e3 es =>
              have hr := hc.2
              refine sW h r _ hr ?_
              cases r <;> first | exact .inr ⟨_, _, rfl⟩ | (simp [chkE] at hr; done) | (simp only [chkE] at hr; rename_i o _; cases o <;> simp [chkOp1, chkOp2] at hr; done) | (simp only [chkE] at hr; rename_i o _ _; cases o <;> simp [chkOp1, chkOp2] at hr; done)
          refine PW.imp (pw_or (pos := p) (sT h a e1 hc.1) R) fun σ H Q ⟨Γ, δ, O, k, x, fr, hev, q, hx⟩ => ?_
          simp only [evT] at hev
          refine ⟨Γ, δ, O, _, x, fr, hev, fun b H1 hk l => ?_, hx⟩
          cases b with
          | true => exact q _ _ hk l
          | false => exact ⟨Γ, δ, O, k, x, fr.later l, hk, fun b H2 hk l2 => q b H2 hk (l.trans l2), hx.later l⟩
        | [], hc => simp [chkE] at hc
        | [_], hc => simp [chkE] at hc
      | And => simp [chkE] at hc
    | _ => simp [chkE] at hc
  | .const _, _, _, hh => by rcases hh with ⟨_, _, z⟩ | ⟨_, _, z⟩ <;> cases z
  | .var _, _, _, hh => by rcases hh with ⟨_, _, z⟩ | ⟨_, _, z⟩ <;> cases z
  | .glob _, _, _, hh => by rcases hh with ⟨_, _, z⟩ | ⟨_, _, z⟩ <;> cases z
  | .nil, _, _, hh => by rcases hh with ⟨_, _, z⟩ | ⟨_, _, z⟩ <;> cases z
  | .cons _ _, _, _, hh => by rcases hh with ⟨_, _, z⟩ | ⟨_, _, z⟩ <;> cases z
  | .tup _, _, _, hh => by rcases hh with ⟨_, _, z⟩ | ⟨_, _, z⟩ <;> cases z
  | .lst _, _, _, hh => by rcases hh with ⟨_, _, z⟩ | ⟨_, _, z⟩ <;> cases z
  | .op1 _ _, _, _, hh => by rcases hh with ⟨_, _, z⟩ | ⟨_, _, z⟩ <;> cases z
  | .op2 _ _ _, _, _, hh => by rcases hh with ⟨_, _, z⟩ | ⟨_, _, z⟩ <;> cases z
  | .slc _ _ _, _, _, hh => by rcases hh with ⟨_, _, z⟩ | ⟨_, _, z⟩ <;> cases z
  | .nopart, _, _, hh => by rcases hh with ⟨_, _, z⟩ | ⟨_, _, z⟩ <;> cases z
  | .chain _ _ _ _ _, _, _, hh => by rcases hh with ⟨_, _, z⟩ | ⟨_, _, z⟩ <;> cases z
  | .not_ _, _, _, hh => by rcases hh with ⟨_, _, z⟩ | ⟨_, _, z⟩ <;> cases z
  | .ifx _ _ _, _, _, hh => by rcases hh with ⟨_, _, z⟩ | ⟨_, _, z⟩ <;> cases z
  | .call _ _, _, _, hh => by rcases hh with ⟨_, _, z⟩ | ⟨_, _, z⟩ <;> cases z
  | .comp _ _ _ _ _, _, _, hh => by rcases hh with ⟨_, _, z⟩ | ⟨_, _, z⟩ <;> cases z
  | .iter _, _, _, hh => by rcases hh with ⟨_, _, z⟩ | ⟨_, _, z⟩ <;> cases z
  | .range1 _, _, _, hh => by rcases hh with ⟨_, _, z⟩ | ⟨_, _, z⟩ <;> cases z
  | .range2 _ _, _, _, hh => by rcases hh with ⟨_, _, z⟩ | ⟨_, _, z⟩ <;> cases z
  | .zip2 _ _, _, _, hh => by rcases hh with ⟨_, _, z⟩ | ⟨_, _, z⟩ <;> cases z
  | .enum _, _, _, hh => by rcases hh with ⟨_, _, z⟩ | ⟨_, _, z⟩ <;> cases z
termination_by c => 8 * sizeOf c + 1
theorem sI {X : Cx} {sc : Scope} {W : WX} (h : Here X F N sc C xr n W) (rd : Bool) : ∀ (c : CE) (tg e : Expr), chkI F N c sc tg e = true → PI X tg e (tI X.K xr C W rd c)
  | .iter a, tg, e, hc => by
    simp only [chkI] at hc
    refine PI.imp (pi_any (sE h rd a e hc)) fun σ H R ⟨Γ, δ, O, k, x, fr, hev, q, hx⟩ => ?_
    simp only [evI] at hev
    refine ⟨Γ, δ, O, _, x, fr, hev, fun d v H1 ⟨xs, e1, hk⟩ l rp => ?_, hx⟩
    cases d with
    | list ds =>
      cases e1
      have rp' := Vr.r fr.m rp
      obtain ⟨a, us, rfl, _⟩ := id rp'
      obtain ⟨vs, h1, h2⟩ := Vr.lst rp
      refine .inl ⟨a, vs, rfl, ?_, q _ _ _ hk l (walk_of_list fr.m h1 h2)⟩
      rcases h1 with ⟨_, h1⟩ | ⟨_, h1⟩ <;> exact h1.sq
    | tuple ds =>
      cases e1
      have rp' := Vr.not_list rp (fun _ z => by cases z)
      cases rp' with
      | tup h1 h2 => exact .inr (.inl ⟨_, _, rfl, h1, q _ _ _ hk l (walk_of_tup h1 h2)⟩)
    | str z =>
      cases e1
      have rp' := Vr.not_list rp (fun _ z => by cases z)
      cases rp'
      exact .inr (.inr ⟨z, rfl, q _ _ _ hk l walk_of_str⟩)
    | _ => simp [itemsD] at e1
  | .range1 a, tg, e, hc => by
    cases e with
    | Call fe es kws p =>
      cases fe with
      | Name y py =>
        match es, kws, hc with
        | [ea], [], hc =>
          simp only [chkI, Bool.and_eq_true, decide_eq_true_eq] at hc
          obtain ⟨⟨⟨rfl, h1⟩, h2⟩, h3⟩ := hc
          refine PI.imp (pi_range1 (p := py) (pos := p) (h.site.gl h1) (h.site.blt _ (by decide +kernel)) (pa_cons (sE h rd a ea h3) pa_nil (star_cons h2)) (star_cons h2)) fun σ H R ⟨Γ, δ, O, k, x, fr, hev, q, hx⟩ => ?_
          simp only [evI] at hev
          refine ⟨Γ, δ, O, _, x, fr, hev, fun d v H1 ⟨m, e1, hb, hk⟩ l rp => ?_, hx⟩
          subst e1
          have rp' := Vr.not_list rp (fun _ z => by cases z)
          cases rp'
          refine ⟨m, rfl, hb.1, hb.2, q _ _ _ hk l ?_⟩
          have := walk_of_range (K := X.K) (Γ := Γ) (O := O) (H := H1) (rd := rd) (lo := 0) (hi := m)
          simpa using this
        | [], _, hc => simp [chkI] at hc
        | [_], _ :: _, hc => simp [chkI] at hc
        | _ :: _ :: _, _, hc => simp [chkI] at hc
      | _ => simp [chkI] at hc
    | _ => simp [chkI] at hc
  | .range2 a b, tg, e, hc => by
    cases e with
    | Call fe es kws p =>
      cases fe with
      | Name y py =>
        match es, kws, hc with
        | [ea, eb], [], hc =>
          simp only [chkI, Bool.and_eq_true, decide_eq_true_eq] at hc
          obtain ⟨⟨⟨⟨⟨rfl, h1⟩, h2⟩, h2'⟩, h3⟩, h4⟩ := hc
          refine PI.imp (pi_range2 (p := py) (pos := p) (h.site.gl h1) (h.site.blt _ (by decide +kernel)) (pa_cons (sE h rd a ea h3) (pa_cons (sE h rd b eb h4) pa_nil (star_cons h2')) (star_cons h2)) (by rw [star_cons h2, star_cons h2']; rfl) (star_cons h2')) fun σ H R ⟨Γ, δ, O, k, x, fr, hev, q, hx⟩ => ?_
          simp only [evI] at hev
          refine ⟨Γ, δ, O, _, x, fr, hev, fun d v H1 hk l rp => ?_, hx⟩
          refine ⟨Γ, δ, O, _, x, fr.later l, hk, fun d' v' H2 ⟨m, m', e1, e2, hb, hk2⟩ l2 rp2 => ?_, hx.later l⟩
          subst e1 e2
          have rp' := Vr.not_list rp (fun _ z => by cases z)
          have rp2' := Vr.not_list rp2 (fun _ z => by cases z)
          cases rp'; cases rp2'
          exact ⟨m, m', rfl, hb, q _ _ _ hk2 (l.trans l2) walk_of_range⟩
        | [], _, hc => simp [chkI] at hc
        | [_], _, hc => simp [chkI] at hc
        | [_, _], _ :: _, hc => simp [chkI] at hc
        | _ :: _ :: _ :: _, _, hc => simp [chkI] at hc
      | _ => simp [chkI] at hc
    | _ => simp [chkI] at hc
  | .zip2 a b, tg, e, hc => by
    cases e with
    | Call fe es kws p =>
      cases fe with
      | Name y py =>
        match es, kws, hc with
        | [ea, eb], [], hc =>
          simp only [chkI, Bool.and_eq_true, decide_eq_true_eq] at hc
          obtain ⟨⟨⟨⟨⟨⟨h0, rfl⟩, h1⟩, h2⟩, h2'⟩, h3⟩, h4⟩ := hc
          cases tg with
          | Tuple elts kk tpos =>
            refine PI.imp (RZ.pi_zipA (p := py) (pos := p) (h.site.gl h1) (h.site.blt _ (by decide +kernel)) (pa_cons (sE h rd a ea h3) (pa_cons (sE h rd b eb h4) pa_nil (star_cons h2')) (star_cons h2)) (star_cons h2) (stars_any (by simp [notStars, h2']))) fun σ H R ⟨Γ, δ, O, k, x, fr, hev, q, hx⟩ => ?_
            simp only [evI] at hev
            refine ⟨Γ, δ, O, _, x, fr, hev, fun d v H1 hk l rp => ?_, hx⟩
            have f1 := fr.later l
            refine ⟨Γ, δ, O, _, x, f1, hk, fun d' v' H2 ⟨xs, ys, ee, hk2⟩ l2 rp2 => ?_, hx.later l⟩
            have f2 := f1.later l2
            rcases ee with ⟨rfl, rfl⟩ | ⟨rfl, rfl⟩
            · have rpl : Vr X.K Γ rd H2 O v (.list xs) := by
                cases rd with
                | true => exact RRep.later f1 l2 (d := .list xs) rp
                | false => exact Rep.ext (f1.ext l2) _ _ rp
              obtain ⟨a1, us1, rfl, _⟩ := Vr.r fr.m rpl
              obtain ⟨a2, us2, rfl, _⟩ := Vr.r fr.m rp2
              obtain ⟨vs1, h1, h1'⟩ := Vr.lst rpl
              obtain ⟨vs2, h2, h2'⟩ := Vr.lst rp2
              refine ⟨a1, a2, vs1, vs2, rfl, .inl ⟨?_, ?_, q _ _ _ hk2 (l.trans l2) (walk_of_zip fr.m h1 h2 h1' h2')⟩⟩
              · rcases h1 with ⟨_, h1⟩ | ⟨_, h1⟩ <;> exact h1.sq
              · rcases h2 with ⟨_, h2⟩ | ⟨_, h2⟩ <;> exact h2.sq
            · have rp1' := Rep.ext (f1.ext l2) _ _ (Vr.not_list rp (fun _ z => by cases z))
              have rp2' := Vr.not_list rp2 (fun _ z => by cases z)
              cases rp1' with
              | tup t1 r1 =>
                cases rp2' with
                | tup t2 r2 => exact ⟨_, _, _, _, rfl, .inr ⟨t1, t2, q _ _ _ hk2 (l.trans l2) (walk_of_zipT t1 t2 r1 r2)⟩⟩
          | _ => simp [isTup] at h0
        | [], _, hc => simp [chkI] at hc
        | [_], _, hc => simp [chkI] at hc
        | [_, _], _ :: _, hc => simp [chkI] at hc
        | _ :: _ :: _ :: _, _, hc => simp [chkI] at hc
      | _ => simp [chkI] at hc
    | _ => simp [chkI] at hc
  | .enum a, tg, e, hc => by
    cases e with
    | Call fe es kws p =>
      cases fe with
      | Name y py =>
        match es, kws, hc with
        | [ea], [], hc =>
          simp only [chkI, Bool.and_eq_true, decide_eq_true_eq] at hc
          obtain ⟨⟨⟨⟨h0, rfl⟩, h1⟩, h2⟩, h3⟩ := hc
          cases tg with
          | Tuple elts kk tpos =>
            refine PI.imp (pi_enum (p := py) (pos := p) (h.site.gl h1) (h.site.blt _ (by decide +kernel)) (pa_cons (sE h rd a ea h3) pa_nil (star_cons h2)) (star_cons h2)) fun σ H R ⟨Γ, δ, O, k, x, fr, hev, q, hx⟩ => ?_
            simp only [evI] at hev
            refine ⟨Γ, δ, O, _, x, fr, hev, fun d v H1 ⟨xs, e1, hk⟩ l rp => ?_, hx⟩
            subst e1
            have rp' := Vr.r fr.m rp
            obtain ⟨a, us, rfl, _⟩ := id rp'
            obtain ⟨vs, h1, h2⟩ := Vr.lst rp
            refine ⟨a, vs, rfl, ?_, q _ _ _ hk l (walk_of_enum fr.m h1 h2)⟩
            rcases h1 with ⟨_, h1⟩ | ⟨_, h1⟩ <;> exact h1.sq
          | _ => simp [isTup] at h0
        | [], _, hc => simp [chkI] at hc
        | [_], _ :: _, hc => simp [chkI] at hc
        | _ :: _ :: _, _, hc => simp [chkI] at hc
      | _ => simp [chkI] at hc
    | _ => simp [chkI] at hc
  | .const _, _, _, hc => by simp [chkI] at hc
  | .var _, _, _, hc => by simp [chkI] at hc
  | .glob _, _, _, hc => by simp [chkI] at hc
  | .nil, _, _, hc => by simp [chkI] at hc
  | .cons _ _, _, _, hc => by simp [chkI] at hc
  | .tup _, _, _, hc => by simp [chkI] at hc
  | .lst _, _, _, hc => by simp [chkI] at hc
  | .op1 _ _, _, _, hc => by simp [chkI] at hc
  | .op2 _ _ _, _, _, hc => by simp [chkI] at hc
  | .slc _ _ _, _, _, hc => by simp [chkI] at hc
  | .nopart, _, _, hc => by simp [chkI] at hc
  | .chain _ _ _ _ _, _, _, hc => by simp [chkI] at hc
  | .and_ _ _, _, _, hc => by simp [chkI] at hc
  | .or_ _ _, _, _, hc => by simp [chkI] at hc
  | .not_ _, _, _, hc => by simp [chkI] at hc
  | .ifx _ _ _, _, _, hc => by simp [chkI] at hc
  | .call _ _, _, _, hc => by simp [chkI] at hc
  | .comp _ _ _ _ _, _, _, hc => by simp [chkI] at hc
termination_by c => 8 * sizeOf c + 5
end
end
end Tk
namespace Tk
open PySem PySem.Spec PyProof.Rows L2
/-! ### a, b = x, y: are the stores swapped? -/
def swapNames (sc : Scope) (ts : List Expr) : List Str := ts.filterMap fun
  | .Name id pos => if sc.names.lookup id == some .local && pos.line == ((ts.head?.map (·.pos.line)).getD 0) then some id else none
  | _ => none
def kindB (sc : Scope) : ScopeKind := if sc.kind.isAnnotationScope then .function else sc.kind
def swapVal (sc : Scope) (ts vs : List Expr) : Option (Option (List Str)) :=
  if (!(ts.length == 2 || ts.length == 3) || vs.length != ts.length || kindB sc != .function) = true then some none
  else if (vs.any fun | .Starred .. => true | _ => false) = true then some none
  else if ((swapNames sc ts).length != ts.length || (swapNames sc ts).eraseDups.length != (swapNames sc ts).length) = true then some none
  else if vs.all (foldedForSure 8) = true then some none
  else if vs.all (constantsAlone 8) = true then none
  else some (some (swapNames sc ts))
theorem swap_eq {env : Env} {ts vs : List Expr} {k k2 : Nat} {p p2 : Pos} {r : Option (List Str)} (h : swapVal env.scope ts vs = some r) : swappedStores [.Tuple ts k p] (.Tuple vs k2 p2) env = pure r := by
  unfold swapVal at h
  show (if (!(ts.length == 2 || ts.length == 3) || vs.length != ts.length || kindB env.scope != .function) = true then pure none else
    if (vs.any fun | .Starred .. => true | _ => false) = true then pure none else
    if ((swapNames env.scope ts).length != ts.length || (swapNames env.scope ts).eraseDups.length != (swapNames env.scope ts).length) = true then pure none else
    if vs.all (foldedForSure 8) = true then pure none else
    if vs.all (constantsAlone 8) = true then (do let _ ← (unsupported "assign.tuple-of-constant-expressions:order-of-the-stores" : Sem PUnit); pure (some (swapNames env.scope ts))) else pure (some (swapNames env.scope ts)) : Sem (Option (List Str))) = pure r
  split at h
  · rename_i c; rw [if_pos c]; cases h; rfl
  · rename_i c; rw [if_neg c]
    split at h
    · rename_i c; rw [if_pos c]; cases h; rfl
    · rename_i c; rw [if_neg c]
      split at h
      · rename_i c; rw [if_pos c]; cases h; rfl
      · rename_i c; rw [if_neg c]
        split at h
        · rename_i c; rw [if_pos c]; cases h; rfl
        · rename_i c; rw [if_neg c]
          split at h
          · cases h
          · rename_i c; rw [if_neg c]; cases h; rfl
def swapFree (sc : Scope) (tg e : Expr) : Bool := match tg, e with
  | .Tuple ts _ _, .Tuple vs _ _ => decide (swapVal sc ts vs = some none)
  | .List _ _, .Tuple _ _ _ => false
  | _, _ => true
theorem swapFree_ok {env : Env} {tg e : Expr} (h : swapFree env.scope tg e = true) : swappedStores [tg] e env = pure none := by
  cases tg with
  | Tuple ts k p =>
    cases e with
    | Tuple vs k2 p2 => exact swap_eq (of_decide_eq_true h)
    | _ => rfl
  | List ts p =>
    cases e with
    | Tuple vs k2 p2 => simp [swapFree] at h
    | _ => rfl
  | _ => rfl
def notComp : Expr → Bool
  | .ListComp .. => false
  | .SetComp .. => false
  | .DictComp .. => false
  | _ => true
theorem swapsWith_free {e : Expr} {t : Option Expr} {l : Nat} {env : Env} (h : notComp e = true) : swapsWith e t l env = pure false := by
  cases e <;> first | rfl | (simp [notComp] at h)
/-- a comprehension that isn't given to a local name -/
def compFree (sc : Scope) (tg e : Expr) : Bool := match tg, e with
  | .Name t pos, .ListComp _ _ s p => !(kindB sc == .function && sc.names.lookup t == some .local && pos.line == p.line && !(s.names.any fun (n, k) => n == t && (k == .local || k == .cell)))
  | _, .ListComp .. => true
  | _, .SetComp .. => false
  | _, .DictComp .. => false
  | _, _ => true
theorem compFree_ok {env : Env} {tg e : Expr} {l : Nat} (h : compFree env.scope tg e = true) : swapsWithSole [tg] e l env = pure false := by
  show swapsWith e (some tg) l env = pure false
  cases e with
  | ListComp elt gs s p =>
    cases tg with
    | Name t pos =>
      simp only [compFree, Bool.not_eq_true'] at h
      exact congrArg pure h
    | _ => rfl
  | SetComp _ _ _ _ => cases tg <;> simp [compFree] at h
  | DictComp _ _ _ _ _ => cases tg <;> simp [compFree] at h
  | _ => rfl
/-- a comprehension that is given to a local name on its line -/
def lcTrue (sc : Scope) : Expr → Expr → Bool
  | .Name y py, .ListComp _ _ s p => decide (sc.kind = .function) && decide (sc.names.lookup y = some .local) && (py.line == p.line) && !(s.names.any fun (n, k) => n == y && (k == .local || k == .cell))
  | _, _ => false
def parN (N : List Str) (sc : Scope) (i : Nat) (x : Str) : Bool := decide (N[i]? = some x) && decide (sc.names.lookup x = some .local)
def parNs (N : List Str) (sc : Scope) (fn : Str → Bool) : List Nat → List Expr → Bool
  | [], [] => true
  | i :: is, .Name x p :: ts => chkT N sc fn (.name i) (.Name x p) && parNs N sc fn is ts
  | _, _ => false
def parTup (N : List Str) (sc : Scope) (fn : Str → Bool) (is : List Nat) : Expr → Expr → Bool
  | .Tuple ts _ _, .Tuple vs _ _ => parNs N sc fn is ts && decide (ts.length ≤ 20) && decide (swapVal sc ts vs = some none)
  | _, _ => false
def parChk (N : List Str) (sc : Scope) : List Nat → Expr → Expr → Bool
  | [i, j], .Tuple [.Name x px, .Name y py] _ _, .Tuple [a, b] _ _ => parN N sc i x && parN N sc j y && decide (i ≠ j) && decide (swapVal sc [.Name x px, .Name y py] [a, b] = some (some [x, y]))
  | [i, j, l], .Tuple [.Name x px, .Name y py, .Name z pz] _ _, .Tuple [a, b, c] _ _ => parN N sc i x && parN N sc j y && parN N sc l z && decide (i ≠ j) && decide (i ≠ l) && decide (j ≠ l) && decide (swapVal sc [.Name x px, .Name y py, .Name z pz] [a, b, c] = some (some [x, y, z]))
  | _, _, _ => false
/-! ### the look at statements -/
mutual
def chkS (F : FT) (N : List Str) (sc : Scope) (fn : Str → Bool) : CS → Stmt → Bool
  | .nop, .Pass _ => true
  | .expr e, .Expr ee _ => notComp ee && chkE F N e sc ee
  | .ret e, .Return (some ee) _ => chkE F N e sc ee
  | .retO e, .Return (some ee) _ => chkE F N e sc ee
  | .retV i, .Return (some ee) _ => chkE F N (.var i) sc ee
  | .retN, .Return none _ => true
  | .asg t e, .Assign [tg] ee _ => notStar tg && chkT N sc fn t tg && swapFree sc tg ee && compFree sc tg ee && chkE F N e sc ee
  | .asgO i e, .Assign [tg] ee _ => chkT N sc fn (.name i) tg && chkE F N e sc ee && (compFree sc tg ee || lcTrue sc tg ee)
  | .par is es, .Assign [tg] ee _ => (parChk N sc is tg ee || parTup N sc fn is tg ee) && (match ee with | .Tuple vs _ _ => chkA F N es sc vs | _ => false)
  | .app i e, .Expr (.Call (.Attribute (.Name y py) m ap) [ea] [] p) _ => chkE F N (.var i) sc (.Name y py) && decide (m = "append") && notStar ea && (ap.endLine == p.line) && chkE F N e sc ea
  | .ite c a b, .If ec sa sb _ => chkE F N c sc ec && chkSs F N sc fn a sa && chkSs F N sc fn b sb
  | .for_ t it b, .For tg ie body orelse _ => orelse.isEmpty && notSet ie && chkI F N it sc tg ie && chkT N sc fn t tg && chkSs F N sc fn b body
  | .brk, .Break _ => true
  | .cnt, .Continue _ => true
  | .never, _ => true
  | _, _ => false
def chkSs (F : FT) (N : List Str) (sc : Scope) (fn : Str → Bool) : CS → List Stmt → Bool
  | .nop, [] => true
  | .seq (.frz _) b, sts => chkSs F N sc fn b sts
  | .seq a b, st :: sts => chkS F N sc fn a st && chkSs F N sc fn b sts
  | _, _ => false
end
theorem Ext.trans {H H1 H2 : Hp} {O O1 O2 : Addr → Prop} (a : Ext H H1 O O1) (b : Ext H1 H2 O1 O2) : Ext H H2 O O2 := by
  refine ⟨fun c u h n => b.keep c u (a.keep c u h n) fun z => ?_, fun c h => ?_, fun c xs h => b.tup c xs (a.tup c xs h), fun c o u h => b.frz c o u (a.frz c o u h)⟩
  · rcases a.new c z with z | z
    · exact n z
    · rw [z] at h; cases h
  · rcases b.new c h with z | z
    · exact a.new c z
    · cases q : H c with
      | none => exact .inr rfl
      | some u =>
        by_cases m : O c
        · exact .inl m
        · rw [a.keep c u q m] at z; cases z
/-- what is handed back -/
structure RetOk (K : PySem.W.Frag) (Γ : Gh) (H : Hp) (s : Slot) (v : V) : Prop where
  same : SameM Γ Γ.H0 H
  w : Γ.W H
  rep : ∃ O, (∀ b, Γ.O0 b → O b) ∧ SRep K Γ H O s v
/-- what is wanted behind a statement, from the heap and the avoided ones ahead of it -/
structure EnOk (K : PySem.W.Frag) (xr : XRep) (W : WX) (Γ : Gh) (H : Hp) (O : Addr → Prop) (B : Ends) (E : En) : Prop where
  nx : ∀ δ' σ' H' O', E.nx δ' → Fr K Γ δ' σ' H' O' → Ext H H' O O' → B.nx σ' H'
  rt : ∀ s v H', E.rt s → RetOk K Γ H' s v → B.rt v H'
  bk : ∀ δ' σ' H' O', E.bk δ' → Fr K Γ δ' σ' H' O' → Ext H H' O O' → B.bk σ' H'
  ct : ∀ δ' σ' H' O', E.ct δ' → Fr K Γ δ' σ' H' O' → Ext H H' O O' → B.ct σ' H'
  xc : ∀ e δ' σ' H' O' cls dd, E.xc e δ' → Fr K Γ δ' σ' H' O' → xr H' O' e cls dd → W cls dd σ' H'
def tS (K : PySem.W.Frag) (xr : XRep) (C : Cfg) (W : WX) (c : CS) : TS := fun B σ H => ∃ Γ δ O E, Fr K Γ δ σ H O ∧ ex C c δ E ∧ EnOk K xr W Γ H O B E
section
variable {K : PySem.W.Frag} {xr : XRep} {C : Cfg} {W : WX} {Γ : Gh} {δ : Dl} {σ : L2.St} {H H1 : Hp} {O O1 : Addr → Prop} {B : Ends} {E : En}
theorem EnOk.ext (h : EnOk K xr W Γ H O B E) (x : Ext H H1 O O1) : EnOk K xr W Γ H1 O1 B E :=
  ⟨fun a b c d e f g => h.nx a b c d e f (x.trans g), h.rt, fun a b c d e f g => h.bk a b c d e f (x.trans g), fun a b c d e f g => h.ct a b c d e f (x.trans g), h.xc⟩
theorem EnOk.x (h : EnOk K xr W Γ H O B E) (fr : Fr K Γ δ σ H O) : XOk xr W Γ O σ H fun e => E.xc e δ := fun e cls dd H' a b c => h.xc e δ σ H' O cls dd a (fr.later b) c
theorem Fr.ret {s : Slot} {v : V} (fr : Fr K Γ δ σ H O) (r : SRep K Γ H O s v) : RetOk K Γ H s v := ⟨fr.same, fr.w, O, fr.sub, r⟩
/-- a list of one's own is let go -/
theorem Fr.freeze {i : Nat} {ds : List D} (fr : Fr K Γ δ σ H O) (h : δ[i]? = some (some (.own ds))) : ∃ O1, Fr K Γ (δ.set i (some (.val (.list ds)))) σ H O1 ∧ Ext H H O O1 := by
  obtain ⟨v, e, a, vs, rfl, e2, e3, e4, e5⟩ := fr.slot i _ h
  have x : Ext H H O (fun b => O b ∧ b ≠ a) := Ext.sub fun b z => z.1
  have hi : i < δ.length := (List.getElem?_eq_some_iff.mp h).1
  refine ⟨fun b => O b ∧ b ≠ a, ⟨fr.gh, by simp [fr.len], fr.same, fun b z => ⟨fr.sub b z, fun q => fr.gh.ot b z (by rw [q]; exact e4)⟩, fun b z => fr.otr b z.1, fr.w, fun j s hj => ?_, fun j k b ds' es' h1 h2 h3 h4 => ?_⟩, x⟩
  · by_cases q : i = j
    · subst q
      rw [List.getElem?_set_self hi] at hj
      cases hj
      exact ⟨_, e, .lst (.inl ⟨.inl e2, fun z => z.2 rfl⟩) (Reps.ext x ds vs e5)⟩
    · rw [List.getElem?_set_ne q] at hj
      obtain ⟨u, e1, r⟩ := fr.slot j s hj
      refine ⟨u, e1, ?_⟩
      cases s with
      | val d => exact Rep.ext x d u r
      | own es =>
        obtain ⟨b, us, rfl, f2, f3, f4, f5⟩ := r
        refine ⟨b, us, rfl, f2, ⟨f3, fun z => q ?_⟩, f4, Reps.ext x es us f5⟩
        subst z
        exact fr.dist i j b ds es h hj e e1
      | st => exact r
  · by_cases q : i = j
    · subst q; rw [List.getElem?_set_self hi] at h1; cases h1
    · by_cases q' : i = k
      · subst q'; rw [List.getElem?_set_self hi] at h2; cases h2
      · rw [List.getElem?_set_ne q] at h1
        rw [List.getElem?_set_ne q'] at h2
        exact fr.dist j k b ds' es' h1 h2 h3 h4
/-- a slot takes what is its own from now on -/
theorem Fr.setO {i : Nat} {s : Slot} {v : V} (fr : Fr K Γ δ σ H O) (hi : i < δ.length) (r : SRep K Γ H O s v) (hn : ∀ ds a, s = .own ds → v = .ref a → ∀ (j : Nat) es, δ[j]? = some (some (.own es)) → σ[j]? ≠ some (some (.ref a))) :
    Fr K Γ (δ.set i (some s)) (σ.set i (some v)) H O where
  gh := fr.gh
  len := by simp [fr.len]
  same := fr.same
  sub := fr.sub
  otr := fr.otr
  w := fr.w
  slot := fun j t h => by
    by_cases e : i = j
    · subst e
      rw [List.getElem?_set_self hi] at h
      cases h
      exact ⟨v, List.getElem?_set_self (by rw [← fr.len]; exact hi), r⟩
    · rw [List.getElem?_set_ne e] at h
      obtain ⟨u, e1, r1⟩ := fr.slot j t h
      exact ⟨u, by rw [List.getElem?_set_ne e]; exact e1, r1⟩
  dist := fun j k a ds es h1 h2 h3 h4 => by
    have hl : i < σ.length := by rw [← fr.len]; exact hi
    by_cases e : i = j
    · subst e
      by_cases e' : i = k
      · exact e'
      · rw [List.getElem?_set_self hi] at h1
        rw [List.getElem?_set_self hl] at h3
        rw [List.getElem?_set_ne e'] at h2 h4
        cases h1
        cases h3
        exact absurd h4 (hn ds a rfl rfl k es h2)
    · by_cases e' : i = k
      · subst e'
        rw [List.getElem?_set_self hi] at h2
        rw [List.getElem?_set_self hl] at h4
        rw [List.getElem?_set_ne e] at h1 h3
        cases h2
        cases h4
        exact absurd h3 (hn es a rfl rfl j ds h1)
      · rw [List.getElem?_set_ne e] at h1 h3
        rw [List.getElem?_set_ne e'] at h2 h4
        exact fr.dist j k a ds es h1 h2 h3 h4
end
end Tk
namespace Tk
open PySem PySem.Spec PyProof.Rows L2
section
variable {K : PySem.W.Frag} {xr : XRep} {C : Cfg} {W : WX} {Γ : Gh} {δ : Dl} {σ : L2.St} {H H1 H' : Hp} {O O1 : Addr → Prop} {B : Ends} {E : En} {a : Addr}
theorem Fr.h0 (fr : Fr K Γ δ σ H O) (h : H a = none) : Γ.H0 a = none := by
  cases q : Γ.H0 a with
  | none => rfl
  | some u =>
    by_cases m : Γ.M a
    · exact absurd h (fr.gh.wm H fr.w a m)
    · rw [fr.same a u q m] at h; cases h
theorem Fr.nslot (fr : Fr K Γ δ σ H O) (h : H a = none) (i : Nat) (ds : List D) (e1 : δ[i]? = some (some (.own ds))) : σ[i]? ≠ some (some (.ref a)) := fun e2 => by
  obtain ⟨v, e3, b, vs, e4, e5, _⟩ := fr.slot i _ e1
  rw [e2] at e3
  cases e3
  cases e4
  rw [h] at e5; cases e5
/-- a new list is one's own -/
theorem Fr.grow (fr : Fr K Γ δ σ H O) (l : Later Γ H H') (h : H a = none) {o : HO} (h' : H' a = some o) : Fr K Γ δ σ H' (fun b => O b ∨ b = a) ∧ Ext H H' O (fun b => O b ∨ b = a) := by
  have x : Ext H H' O (fun b => O b ∨ b = a) := by
    have y := fr.ext l
    exact ⟨y.keep, fun b z => z.elim .inl fun e => .inr (by rw [e]; exact h), y.tup, y.frz⟩
  have f := fr.later l
  refine ⟨⟨f.gh, f.len, f.same, fun b z => .inl (f.sub b z), fun b z e => ?_, f.w, fun i s hs => ?_, f.dist⟩, x⟩
  · rcases z with z | rfl
    · exact f.otr b z e
    · rw [h'] at e; cases e
  · obtain ⟨v, e, r⟩ := fr.slot i s hs
    refine ⟨v, e, ?_⟩
    cases s with
    | val d => exact Rep.ext x d v r
    | own ds =>
      obtain ⟨b, vs, e1, e2, e3, e4, e5⟩ := r
      exact ⟨b, vs, e1, l.same b _ e2 (fr.noM e4), .inl e3, e4, Reps.ext x ds vs e5⟩
    | st => exact r
/-- what an expression gives, to be one's own -/
structure OwnOk (K : PySem.W.Frag) (Γ : Gh) (δ : Dl) (σ : L2.St) (H : Hp) (O : Addr → Prop) (s : Slot) (v : V) (H' : Hp) (O' : Addr → Prop) : Prop where
  fr : Fr K Γ δ σ H' O'
  ext : Ext H H' O O'
  lat : Later Γ H H'
  sub : ∀ b, O b → O' b
  rep : SRep K Γ H' O' s v
  new : ∀ ds b, s = .own ds → v = .ref b → H b = none
def tO (K : PySem.W.Frag) (xr : XRep) (C : Cfg) (W : WX) (c : CE) : TE := fun σ H Q => ∃ Γ δ O k x, Fr K Γ δ σ H O ∧ evO C c δ k x ∧
  (∀ s v H' O', k s → OwnOk K Γ δ σ H O s v H' O' → Q v H') ∧ XOk xr W Γ O σ H x
theorem OwnOk.after {s : Slot} {v : V} {O2 : Addr → Prop} {H2 : Hp} (fr : Fr K Γ δ σ H O) (l : Later Γ H H1) (o : OwnOk K Γ δ σ H1 O s v H2 O2) : OwnOk K Γ δ σ H O s v H2 O2 :=
  ⟨o.fr, (fr.ext l).trans o.ext, l.trans o.lat, o.sub, o.rep, fun ds b e1 e2 => by
    have h1 := o.new ds b e1 e2
    cases q : H b with
    | none => rfl
    | some u =>
      by_cases m : Γ.M b
      · exact absurd h1 (fr.gh.wm H1 l.w b m)
      · rw [l.same b u q m] at h1; cases h1⟩
end
section
variable {F : FT} {N : List Str} {C : Cfg} {xr : XRep} {n : Nat}
theorem sO_val {X : Cx} {sc : Scope} {W : WX} (h : Here X F N sc C xr n W) {c : CE} {e : Expr} (he : ∀ δ k x, evO C c δ k x = ev C false c δ (fun d => k (.val d)) x) (hc : chkE F N c sc e = true) : PE X e (tO X.K xr C W c) := by
  refine PE.imp (sE h false c e hc) fun σ H Q ⟨Γ, δ, O, k, x, fr, hev, q, hx⟩ => ?_
  rw [he] at hev
  exact ⟨Γ, δ, O, _, x, fr, hev, fun d v H' hk l rp => q _ _ _ O hk ⟨fr.later l, fr.ext l, l, fun _ z => z, rp, fun _ _ z => by cases z⟩, hx⟩
/-- the end of a comprehension that is one's own -/
theorem comp_own {K : PySem.W.Frag} {σ : L2.St} {H H' : Hp} {Γ : Gh} {δ : Dl} {O : Addr → Prop} {acc : List D} {p : Addr} {vs : List V} (fr : Fr K Γ δ σ H O)
    (l : Later Γ H H') (hp : H p = none) (e : H' p = some (.lst vs)) (r : Reps K H' (fun b => O b ∨ b = p) vs acc) : OwnOk K Γ δ σ H O (.own acc) (.ref p) H' (fun b => O b ∨ b = p) := by
  obtain ⟨f2, x2⟩ := fr.grow l hp e
  exact ⟨f2, x2, l, fun _ z => .inl z, ⟨p, vs, rfl, e, .inr rfl, fr.h0 hp, r⟩, fun _ b _ e2 => by cases e2; exact hp⟩
theorem comp_parts {X : Cx} {sc scope : Scope} {W : WX} {own : List Nat} {e it ifs : CE} {t : Tg} {elt tg iter : Expr} {ifs' : List Expr} {p : Pos} {a : Int} (h : Here X F N sc C xr n W)
    (hc : chkE F N (.comp own e t it ifs) sc (.ListComp elt [⟨tg, iter, ifs', a⟩] scope p) = true) :
    a = 0 ∧ PI X tg iter (tI X.K xr C W true it) ∧ BlkOk X.N X.env.scope scope (own.map fun i => (N.getD i "", i)) ∧
    (∀ (s : Shared) (H : Hp) (A : Addr) (cl : List (Str × Addr)) (fp : List Addr), PG (X.blk s H scope (compEnvC scope cl A X.env) fp) tg (gT X.K t)) ∧
    (∀ (s : Shared) (H : Hp) (A : Addr) (cl : List (Str × Addr)) (fp : List Addr), PTs (X.blk s H scope (compEnvC scope cl A X.env) fp) ifs' (tT X.K xr C (fun _ _ _ _ => False) ifs)) ∧
    (∀ (s : Shared) (H : Hp) (A : Addr) (cl : List (Str × Addr)) (fp : List Addr), PE (X.blk s H scope (compEnvC scope cl A X.env) fp) elt (tE X.K xr C (fun _ _ _ _ => False) false e)) ∧
    (∀ y, foldedSetIterable iter X.env y = pure y) ∧ (∀ i ∈ tgs t, i ∈ own) ∧ (own.map fun i => (N.getD i "", i)).map (·.2) = own := by
  simp only [chkE, Bool.and_eq_true, decide_eq_true_eq] at hc
  obtain ⟨⟨⟨⟨⟨⟨⟨rfl, h1⟩, h2⟩, h3⟩, h4⟩, h5⟩, h6⟩, h7⟩ := hc
  refine ⟨rfl, sI h true it tg iter h3, by rw [h.hN, h.site.sc]; exact blkOk_by h1, fun s H A cl fp => sTg (X := X.blk s H scope (compEnvC scope cl A X.env) fp) h.hN h.nd (h.blk s H A cl fp).site.sc rfl h.site.calm t tg h4, fun s H A cl fp => ?_, fun s H A cl fp => sE (h.blk s H A cl fp) false e elt h7, fun y => ?_, by simpa using h5, by simp [List.map_map, Function.comp_def]⟩
  · match ifs', h6 with
    | [], h6 =>
      cases ifs <;> first | (simp at h6; done) | skip
      refine ⟨fun pins s σ H Q I ⟨Γ, δ, O, k, x, fr, hev, q, hx⟩ => pts_nil.run pins s σ H Q I ?_⟩
      exact q true H (by simpa [evT] using hev) (.refl fr.w)
    | [c], h6 => exact pts_one (sT (h.blk s H A cl fp) ifs c h6)
    | _ :: _ :: _, h6 => simp at h6
  · cases iter <;> first | rfl | (simp [notSet] at h2)
theorem sO {X : Cx} {sc : Scope} {W : WX} (h : Here X F N sc C xr n W) (c : CE) (e : Expr) (hc : chkE F N c sc e = true) : PE X e (tO X.K xr C W c) := by
  cases c with
  | call f r =>
    cases e with
    | Call fe es kws p =>
      cases fe with
      | Name y py =>
        match kws, hc with
        | [], hc =>
          simp only [chkE, Bool.and_eq_true, decide_eq_true_eq] at hc
          obtain ⟨⟨⟨⟨h1, h2⟩, h3⟩, h4⟩, h5⟩ := hc
          have fin : ∀ {σ : L2.St} {H H1 : Hp} {Q : VK} {Γ : Gh} {δ : Dl} {O : Addr → Prop} {k : Slot → Prop} {x : KX} {ss : List Slot} {vs : List V}, Fr X.K Γ δ σ H O → Later Γ H H1 → C.call f ss k x → AReps X.K Γ H1 O ss vs →
              (∀ s v H' O', k s → OwnOk X.K Γ δ σ H O s v H' O' → Q v H') →
              XOk xr W Γ O σ H x → spC X.K xr C.call f es.length vs H1 Q fun cls dd H' => W cls dd σ H' := by
            intro σ H H1 Q Γ δ O k x ss vs fr l hk ar q hx
            have f1 := fr.later l
            refine ⟨by rw [← ar.length]; exact h.stat.lens f y _ h1 ss _ _ hk, Γ, O, ss, _, x, fr.gh, l.w, f1.otr, fr.m, ar, hk, fun s v H' hk l' rr => ?_, fun e cls dd H' hx' l' xx => hx e cls dd H' hx' (l.trans l') xx⟩
            cases s with
            | val d' => exact q _ _ _ O hk (OwnOk.after fr l ⟨f1.later l', f1.ext l', l', fun _ z => z, rr, fun _ _ z => by cases z⟩)
            | own ds =>
              obtain ⟨a, us, rfl, e2, e3, e4⟩ := rr
              exact q _ _ _ _ hk (OwnOk.after fr l (comp_own f1 l' e3 e2 e4))
            | st => exact q _ _ _ O hk (OwnOk.after fr l ⟨f1.later l', f1.ext l', l', fun _ z => z, rr, fun _ _ z => by cases z⟩)
          cases es with
          | nil =>
            refine PE.imp (pe_fn0 (p := py) (pos := p) h h1 h2 h3) fun σ H Q ⟨Γ, δ, O, k, x, fr, hev, q, hx⟩ => ?_
            have er : r = .nil := by cases r <;> first | rfl | (simp [chkA] at h5)
            subst er
            simp only [evO, evA] at hev
            exact fin fr (.refl fr.w) hev .nil q hx
          | cons e1 es =>
            refine PE.imp (pe_fn (p := py) (pos := p) h h1 h2 h3 h4 (sA h r _ h5)) fun σ H Q ⟨Γ, δ, O, k, x, fr, hev, q, hx⟩ => ?_
            simp only [evO] at hev
            exact ⟨Γ, δ, O, _, x, fr, hev, fun ss vs H1 hk l ar => fin fr l hk ar q hx, hx⟩
        | _ :: _, hc => simp [chkE] at hc
      | _ => simp [chkE] at hc
    | _ => simp [chkE] at hc
  | lst r =>
    cases e with
    | List es p =>
      simp only [chkE] at hc
      refine PE.imp (pe_lst (pos := p) (sA h r es hc)) fun σ H Q ⟨Γ, δ, O, k, x, fr, hev, q, hx⟩ => ?_
      simp only [evO, ev] at hev
      refine ⟨Γ, δ, O, _, x, fr, hev, fun ss vs H1 ⟨ds, e1, e2, hk⟩ l ar => ?_, hx⟩
      have rs := ar.vals e1
      refine ⟨by rw [rs.length]; exact e2, fun p hp => ?_⟩
      have f1 := fr.later l
      have l2 : Later Γ H1 (upd H1 p (.lst vs)) := Later.of_same f1.gh f1.w (same_upd hp)
      exact q _ _ _ _ hk (OwnOk.after fr l (comp_own f1 l2 hp upd_same (Reps.ext (f1.grow l2 hp upd_same).2 ds vs rs)))
    | _ => simp [chkE] at hc
  | comp own e' t it ifs =>
    cases e with
    | ListComp elt gens scope p =>
      match gens, hc with
      | [⟨tg, iter, ifs', a⟩], hc =>
        obtain ⟨rfl, hI, ok, hg, ht, he, hs, h5, hown⟩ := comp_parts h hc
        have P := pe_lc (pos := p) (elt := elt) (g := gT X.K t) h.site.calm h.nd hI ok hg ht he hs
        rw [hown] at P
        refine PE.imp P fun σ H Q ⟨Γ, δ, O, k, x, fr, hev, q, hx⟩ => ?_
        simp only [evO] at hev
        exact comp_core h5 fr hev hx fun acc p vs H' hk l hp e2 rs ot no => q _ _ _ _ hk (comp_own fr l hp e2 rs)
      | [], hc => simp [chkE] at hc
      | _ :: _ :: _, hc => simp [chkE] at hc
    | _ => simp [chkE] at hc
  | _ => exact sO_val h (fun _ _ _ => by simp only [evO]) hc
/-- several things, each one's own -/
inductive Owns (K : PySem.W.Frag) (Γ : Gh) (H : Hp) (O : Addr → Prop) : List Slot → List V → List Addr → Prop
  | nil : Owns K Γ H O [] [] []
  | val {d : D} {v : V} {ss : List Slot} {vs : List V} {as : List Addr} : Rep K H O v d → Owns K Γ H O ss vs as → Owns K Γ H O (.val d :: ss) (v :: vs) as
  | st {ss : List Slot} {vs : List V} {as : List Addr} : Γ.sv ≠ .non → Owns K Γ H O ss vs as → Owns K Γ H O (.st :: ss) (Γ.sv :: vs) as
  | own {ds : List D} {b : Addr} {ss : List Slot} {vs : List V} {as : List Addr} : SRep K Γ H O (.own ds) (.ref b) → b ∉ as → Owns K Γ H O ss vs as → Owns K Γ H O (.own ds :: ss) (.ref b :: vs) (b :: as)
section
variable {K : PySem.W.Frag} {Γ : Gh} {δ δ' : Dl} {σ : L2.St} {H : Hp} {O : Addr → Prop}
def setV (σ : L2.St) : List Nat → List V → L2.St
  | i :: is, v :: vs => setV (σ.set i (some v)) is vs
  | _, _ => σ
theorem Fr.setAll {ss : List Slot} {vs : List V} {as : List Addr} (w : Owns K Γ H O ss vs as) : ∀ {is : List Nat} {δ : Dl} {σ : L2.St}, Fr K Γ δ σ H O → Tk.setAll δ is ss = some δ' → (∀ b ∈ as, ∀ (j : Nat) es, δ[j]? = some (some (.own es)) → σ[j]? ≠ some (some (.ref b))) → Fr K Γ δ' (setV σ is vs) H O := by
  induction w with
  | nil =>
    intro is δ σ fr e _
    cases is with
    | nil => simp [Tk.setAll] at e; subst e; exact fr
    | cons _ _ => simp [Tk.setAll] at e
  | val r w ih =>
    intro is δ σ fr e hn
    cases is with
    | nil => simp [Tk.setAll] at e
    | cons i is =>
      simp only [Tk.setAll] at e
      split at e
      · rename_i hi
        refine ih (fr.set hi r) e fun b hb j es hj => ?_
        by_cases q : i = j
        · subst q; rw [List.getElem?_set_self hi] at hj; cases hj
        · rw [List.getElem?_set_ne q] at hj ⊢; exact hn b hb j es hj
      · cases e
  | st hs w ih =>
    intro is δ σ fr e hn
    cases is with
    | nil => simp [Tk.setAll] at e
    | cons i is =>
      simp only [Tk.setAll] at e
      split at e
      · rename_i hi
        refine ih (fr.setO (s := .st) hi ⟨rfl, hs⟩ (fun _ _ z => by cases z)) e fun b hb j es hj => ?_
        by_cases q : i = j
        · subst q; rw [List.getElem?_set_self hi] at hj; cases hj
        · rw [List.getElem?_set_ne q] at hj ⊢; exact hn b hb j es hj
      · cases e
  | own r hb w ih =>
    rename_i ds b ss vs as
    intro is δ σ fr e hn
    cases is with
    | nil => simp [Tk.setAll] at e
    | cons i is =>
      simp only [Tk.setAll] at e
      split at e
      · rename_i hi
        refine ih (fr.setO hi r (fun _ a _ ea j es hj => by cases ea; exact hn b List.mem_cons_self j es hj)) e fun c hc j es hj => ?_
        by_cases q : i = j
        · subst q
          rw [List.getElem?_set_self (by rw [← fr.len]; exact hi)]
          intro z
          cases z
          exact hb hc
        · rw [List.getElem?_set_ne q] at hj ⊢; exact hn c (List.mem_cons_of_mem _ hc) j es hj
      · cases e
/-- a name's own list grows -/
theorem Fr.push {i : Nat} {ds : List D} {a : Addr} {vs : List V} {y : V} {d : D} (fr : Fr K Γ δ σ H O) (hd : δ[i]? = some (some (.own ds))) (hs : σ[i]? = some (some (.ref a))) (ha : H a = some (.lst vs)) (ho : O a) (h0 : Γ.H0 a = none) (rs : Reps K H O vs ds) (ry : Rep K H O y d) :
    Fr K Γ (δ.set i (some (.own (ds ++ [d])))) σ (upd H a (.lst (vs ++ [y]))) O ∧ Ext H (upd H a (.lst (vs ++ [y]))) O O := by
  have hi : i < δ.length := (List.getElem?_eq_some_iff.mp hd).1
  have nm : ¬ Γ.M a := fr.noM h0
  have keep : ∀ b u, H b = some u → b ≠ a → upd H a (.lst (vs ++ [y])) b = some u := fun b u h n => by rw [upd_ne n]; exact h
  have hx : Ext H (upd H a (.lst (vs ++ [y]))) O O := by
    refine ⟨fun b u h n => keep b u h (fun z => n (by rw [z]; exact ho)), fun b h => .inl h, fun b zs h => keep b _ h fun z => ?_, fun b o u h => keep b _ h fun z => ?_⟩
    · rw [z, ha] at h; cases h
    · rw [z, ha] at h; cases h
  refine ⟨⟨fr.gh, by simp [fr.len], fun b u h n => keep b u (fr.same b u h n) (fun z => by rw [z, h0] at h; cases h), fr.sub, fun b h e => ?_, ?_, fun j s h => ?_, fun j k b ds' es' h1 h2 h3 h4 => ?_⟩, hx⟩
  · by_cases z : b = a
    · subst z; rw [upd_same] at e; cases e
    · rw [upd_ne z] at e; exact fr.otr b h e
  · exact fr.gh.ws H _ (fun b hb => upd_ne fun z => nm (by rw [← z]; exact hb)) fr.w
  · by_cases q : i = j
    · subst q
      rw [List.getElem?_set_self hi] at h
      cases h
      exact ⟨_, hs, a, vs ++ [y], rfl, upd_same, ho, h0, (Reps.ext hx ds vs rs).append (.cons (Rep.ext hx d y ry) .nil)⟩
    · rw [List.getElem?_set_ne q] at h
      obtain ⟨v, e, r⟩ := fr.slot j s h
      refine ⟨v, e, ?_⟩
      cases s with
      | val d => exact Rep.ext hx d v r
      | own es =>
        obtain ⟨b, us, e1, e2, e3, e4, e5⟩ := r
        subst e1
        have na : b ≠ a := fun z => by
          subst z
          exact q (fr.dist i j b ds es hd h hs e)
        exact ⟨b, us, rfl, keep b _ e2 na, e3, e4, Reps.ext hx es us e5⟩
      | st => exact r
  · have f : ∀ (m : Nat) es, (δ.set i (some (.own (ds ++ [d]))))[m]? = some (some (.own es)) → ∃ es', δ[m]? = some (some (.own es')) := fun m es hm => by
      by_cases q : i = m
      · subst q; exact ⟨ds, hd⟩
      · rw [List.getElem?_set_ne q] at hm; exact ⟨es, hm⟩
    obtain ⟨_, g1⟩ := f j _ h1
    obtain ⟨_, g2⟩ := f k _ h2
    exact fr.dist j k b _ _ g1 g2 h3 h4
end
def tOs (K : PySem.W.Frag) (xr : XRep) (C : Cfg) (W : WX) (c : CE) : TA := fun σ H Q => ∃ Γ δ O k x, Fr K Γ δ σ H O ∧ evOs C c δ k x ∧
  (∀ ss vs as H' O', k ss → Fr K Γ δ σ H' O' → Ext H H' O O' → Later Γ H H' → (∀ b, O b → O' b) → Owns K Γ H' O' ss vs as → (∀ b ∈ as, H b = none) → Q vs H') ∧ XOk xr W Γ O σ H x
theorem sOs {X : Cx} {sc : Scope} {W : WX} (h : Here X F N sc C xr n W) : ∀ (c : CE) (es : List Expr), chkA F N c sc es = true → PA X es (tOs X.K xr C W c)
  | .nil, [], hc => PA.imp pa_nil fun σ H Q ⟨Γ, δ, O, k, x, fr, hev, q, hx⟩ => q [] [] [] H O (by simpa [evOs] using hev) fr .refl (.refl fr.w) (fun _ z => z) .nil (by simp)
  | .cons a r, e :: es, hc => by
    simp only [chkA, Bool.and_eq_true] at hc
    obtain ⟨⟨h1, h2⟩, h3⟩ := hc
    refine PA.imp (pa_cons (sO h a e h2) (sOs h r es h3) (star_cons h1)) fun σ H Q ⟨Γ, δ, O, k, x, fr, hev, q, hx⟩ => ?_
    simp only [evOs] at hev
    refine ⟨Γ, δ, O, _, x, fr, hev, fun s v H1 O1 hk o => ?_, hx⟩
    refine ⟨Γ, δ, O1, _, x, o.fr, hk, fun ss vs as H2 O2 hk f2 x2 l2 sb w n2 => ?_, fun e cls dd H' a b c => hx e cls dd H' a (o.lat.trans b) (h.stat.xm _ _ _ _ _ _ o.sub c)⟩
    have nn : ∀ b ∈ as, H b = none := fun b hb => by
      have h1 := n2 b hb
      cases q : H b with
      | none => rfl
      | some u =>
        by_cases m : Γ.M b
        · exact absurd h1 (fr.gh.wm H1 o.lat.w b m)
        · rw [o.lat.same b u q m] at h1; cases h1
    have sb2 : ∀ b, O b → O2 b := fun b z => sb b (o.sub b z)
    cases s with
    | val d => exact q _ _ as H2 O2 hk f2 (o.ext.trans x2) (o.lat.trans l2) sb2 (.val (Rep.ext x2 d v o.rep) w) nn
    | st =>
      obtain ⟨e, hs⟩ := o.rep
      subst e
      exact q _ _ as H2 O2 hk f2 (o.ext.trans x2) (o.lat.trans l2) sb2 (.st hs w) nn
    | own ds =>
      obtain ⟨b, us, rfl, g1, g2, g3, g4⟩ := id o.rep
      have hb := o.new ds b rfl rfl
      refine q _ _ (b :: as) H2 O2 hk f2 (o.ext.trans x2) (o.lat.trans l2) sb2 (.own ⟨b, us, rfl, l2.same b _ g1 (fr.noM g3), sb b g2, g3, Reps.ext x2 ds us g4⟩ (fun z => by rw [n2 b z] at g1; cases g1) w) fun c hc => ?_
      rcases List.mem_cons.mp hc with rfl | hc
      · exact hb
      · exact nn c hc
  | .nil, _ :: _, hc => by simp [chkA] at hc
  | .cons _ _, [], hc => by simp [chkA] at hc
  | .const _, _, hc => by simp [chkA] at hc
  | .var _, _, hc => by simp [chkA] at hc
  | .glob _, _, hc => by simp [chkA] at hc
  | .tup _, _, hc => by simp [chkA] at hc
  | .lst _, _, hc => by simp [chkA] at hc
  | .op1 _ _, _, hc => by simp [chkA] at hc
  | .op2 _ _ _, _, hc => by simp [chkA] at hc
  | .slc _ _ _, _, hc => by simp [chkA] at hc
  | .nopart, _, hc => by simp [chkA] at hc
  | .chain _ _ _ _ _, _, hc => by simp [chkA] at hc
  | .and_ _ _, _, hc => by simp [chkA] at hc
  | .or_ _ _, _, hc => by simp [chkA] at hc
  | .not_ _, _, hc => by simp [chkA] at hc
  | .ifx _ _ _, _, hc => by simp [chkA] at hc
  | .call _ _, _, hc => by simp [chkA] at hc
  | .comp _ _ _ _ _, _, hc => by simp [chkA] at hc
  | .iter _, _, hc => by simp [chkA] at hc
  | .range1 _, _, hc => by simp [chkA] at hc
  | .range2 _ _, _, hc => by simp [chkA] at hc
  | .zip2 _ _, _, hc => by simp [chkA] at hc
  | .enum _, _, hc => by simp [chkA] at hc
/-! ### statements -/
theorem Owns.same {K : PySem.W.Frag} {Γ : Gh} {H H' : Hp} {O : Addr → Prop} {ss : List Slot} {vs : List V} {as : List Addr} (s : Same H H') (w : Owns K Γ H O ss vs as) : Owns K Γ H' O ss vs as := by
  induction w with
  | nil => exact .nil
  | val r _ ih => exact .val (Rep.ext (Ext.same s) _ _ r) ih
  | st h _ ih => exact .st h ih
  | own r n _ ih =>
    obtain ⟨a, vs, e1, e2, e3, e4, e5⟩ := r
    exact .own ⟨a, vs, e1, s _ _ e2, e3, e4, Reps.ext (Ext.same s) _ _ e5⟩ n ih
def gNames : List Nat → TGs
  | [] => gNil
  | i :: is => gCons (gName i) (gNames is)
theorem gNames_set : ∀ {is : List Nat} {vs : List V} {σ : L2.St} {H : Hp} {Q : L2.St → Hp → Prop}, vs.length = is.length → Q (setV σ is vs) H → gNames is vs σ H Q
  | [], [], _, _, _, _, q => ⟨rfl, q⟩
  | [], _ :: _, _, _, _, h, _ => by simp at h
  | _ :: _, [], _, _, _, h, _ => by simp at h
  | i :: is, v :: vs, _, _, _, h, q => ⟨v, vs, rfl, gNames_set (by simpa using h) q⟩
theorem parNs_len {N : List Str} {sc : Scope} {fn : Str → Bool} : ∀ {is : List Nat} {ts : List Expr}, parNs N sc fn is ts = true → ts.length = is.length
  | [], [], _ => rfl
  | [], _ :: _, h => by simp [parNs] at h
  | _ :: _, [], h => by simp [parNs] at h
  | i :: is, t :: ts, h => by
    cases t with
    | Name x p =>
      simp only [parNs, Bool.and_eq_true] at h
      simp [parNs_len h.2]
    | _ => simp [parNs] at h
theorem parNs_stars {N : List Str} {sc : Scope} {fn : Str → Bool} : ∀ {is : List Nat} {ts : List Expr}, parNs N sc fn is ts = true → notStars ts = true
  | [], [], _ => rfl
  | [], _ :: _, h => by simp [parNs] at h
  | _ :: _, [], h => by simp [parNs] at h
  | i :: is, t :: ts, h => by
    cases t with
    | Name x p =>
      simp only [parNs, Bool.and_eq_true] at h
      have := parNs_stars h.2
      simp only [notStars, List.all_cons, Bool.and_eq_true] at this ⊢
      exact ⟨rfl, this⟩
    | _ => simp [parNs] at h
structure HereS (X : Cx) (F : FT) (N : List Str) (sc : Scope) (fn : Str → Bool) (C : Cfg) (xr : XRep) (n : Nat) (W : WX) : Prop where
  toHere : Here X F N sc C xr n W
  fn : X.fn = fn
  po : PassesOwn (model X.prog X.w) X.A X.env X.xe
theorem tgt_one {tg : Expr} {env : Env} (h : notStar tg = true) : (assignEach [tg] env).map (·.2) = [assign tg env] := by
  rw [assign_cons h]; rfl
theorem name_ok {X : Cx} {sc : Scope} {fn : Str → Bool} {W : WX} {i : Nat} {y : Str} {p : Pos} (h : HereS X F N sc fn C xr n W) (hc : chkT N sc fn (.name i) (.Name y p) = true) :
    X.N[i]? = some y ∧ Loc X.env.scope y ∧ (X.fn y = true ∨ X.env.scope.names.lookup y = some .local) := by
  simp only [chkT, Bool.and_eq_true, Bool.or_eq_true, decide_eq_true_eq] at hc
  obtain ⟨h1, h2⟩ := hc
  rw [h.toHere.site.sc, h.fn, h.toHere.hN]
  refine ⟨h1, ?_, ?_⟩
  · rcases h2 with h2 | h2
    · exact .inl h2
    · exact .inr h2.1
  · rcases h2 with h2 | h2
    · exact .inr h2
    · exact .inl h2.2
theorem pgs_names {X : Cx} {sc : Scope} {fn : Str → Bool} {W : WX} (h : HereS X F N sc fn C xr n W) : ∀ {is : List Nat} {ts : List Expr}, parNs N sc fn is ts = true → PGs X ts (gNames is)
  | [], [], _ => pgs_nil
  | [], _ :: _, h => by simp [parNs] at h
  | _ :: _, [], h => by simp [parNs] at h
  | i :: is, t :: ts, hp => by
    cases t with
    | Name x p =>
      simp only [parNs, Bool.and_eq_true] at hp
      obtain ⟨q1, q2, q3⟩ := name_ok h hp.1
      exact pgs_cons (pg_name h.toHere.nd q1 q2 q3) (pgs_names h hp.2) rfl
    | _ => simp [parNs] at hp
mutual
theorem sS {X : Cx} {sc : Scope} {fn : Str → Bool} {W : WX} (h : HereS X F N sc fn C xr n W) : ∀ (c : CS) (st : Stmt), chkS F N sc fn c st = true → PS X st (tS X.K xr C W c)
  | .nop, st, hc => by
    cases st with
    | Pass p => exact PS.imp (ps_pass (pos := p)) fun B σ H ⟨Γ, δ, O, E, fr, hev, en⟩ => en.nx δ σ H O (by simpa [ex] using hev) fr .refl
    | _ => simp [chkS] at hc
  | .expr e, st, hc => by
    cases st with
    | Expr ee p =>
      simp only [chkS, Bool.and_eq_true] at hc
      refine PS.imp (ps_expr (pos := p) (sE h.toHere false e ee hc.2) (swapsWith_free hc.1)) fun B σ H ⟨Γ, δ, O, E, fr, hev, en⟩ => ?_
      simp only [ex] at hev
      exact ⟨Γ, δ, O, _, _, fr, hev, fun d v H' hk l rp => en.nx δ σ H' O hk (fr.later l) (fr.ext l), en.x fr⟩
    | _ => simp [chkS] at hc
  | .ret e, st, hc => by
    cases st with
    | Return v p =>
      cases v with
      | none => simp [chkS] at hc
      | some ee =>
        simp only [chkS] at hc
        refine PS.imp (ps_ret (pos := p) (sE h.toHere false e ee hc)) fun B σ H ⟨Γ, δ, O, E, fr, hev, en⟩ => ?_
        simp only [ex] at hev
        exact ⟨Γ, δ, O, _, _, fr, hev, fun d v H' hk l rp => en.rt _ v H' hk ((fr.later l).ret rp), en.x fr⟩
    | _ => simp [chkS] at hc
  | .retO e, st, hc => by
    cases st with
    | Return v p =>
      cases v with
      | none => simp [chkS] at hc
      | some ee =>
        simp only [chkS] at hc
        refine PS.imp (ps_ret (pos := p) (sO h.toHere e ee hc)) fun B σ H ⟨Γ, δ, O, E, fr, hev, en⟩ => ?_
        simp only [ex] at hev
        exact ⟨Γ, δ, O, _, _, fr, hev, fun s v H' O' hk o => en.rt _ v H' hk (o.fr.ret o.rep), en.x fr⟩
    | _ => simp [chkS] at hc
  | .retV i, st, hc => by
    cases st with
    | Return v p =>
      cases v with
      | none => simp [chkS] at hc
      | some ee =>
        simp only [chkS] at hc
        refine PS.imp (ps_ret (pos := p) (sV h.toHere i ee hc)) fun B σ H ⟨Γ, δ, O, E, fr, hev, en⟩ => ?_
        simp only [ex] at hev
        split at hev
        · rename_i s e1
          obtain ⟨v, e2, r⟩ := fr.slot i _ e1
          exact ⟨v, e2, en.rt s v H hev (fr.ret r)⟩
        · exact hev.elim
    | _ => simp [chkS] at hc
  | .retN, st, hc => by
    cases st with
    | Return v p =>
      cases v with
      | some _ => simp [chkS] at hc
      | none => exact PS.imp (ps_retN (pos := p)) fun B σ H ⟨Γ, δ, O, E, fr, hev, en⟩ => en.rt _ _ H (by simpa [ex] using hev) (fr.ret (s := .val .none) .non)
    | _ => simp [chkS] at hc
  | .asg t e, st, hc => by
    cases st with
    | Assign tgs' ee p =>
      match tgs', hc with
      | [tg], hc =>
        simp only [chkS, Bool.and_eq_true] at hc
        obtain ⟨⟨⟨⟨h1, h2⟩, h3⟩, h4⟩, h5⟩ := hc
        have hh := h.toHere
        refine PS.imp (ps_asg (pos := p) (sE hh false e ee h5) (sTg hh.hN hh.nd hh.site.sc h.fn hh.site.calm t tg h2) (compFree_ok (by rw [hh.site.sc]; exact h4)) (swapFree_ok (by rw [hh.site.sc]; exact h3)) (tgt_one h1)) fun B σ H ⟨Γ, δ, O, E, fr, hev, en⟩ => ?_
        simp only [ex] at hev
        refine ⟨Γ, δ, O, _, _, fr, hev, fun d v H' hk l rp => ?_, en.x fr⟩
        exact ⟨Γ, δ, O, d, _, fr.later l, hk, rp, fun δ' σ' hk' f' _ => en.nx δ' σ' H' O hk' f' (fr.ext l)⟩
      | [], hc => simp [chkS] at hc
      | _ :: _ :: _, hc => simp [chkS] at hc
    | _ => simp [chkS] at hc
  | .asgO i e, st, hc => by
    cases st with
    | Assign tgs' ee p =>
      match tgs', hc with
      | [tg0], hc =>
        simp only [chkS, Bool.and_eq_true, Bool.or_eq_true] at hc
        obtain ⟨⟨h1, h2⟩, h3⟩ := hc
        have hh := h.toHere
        obtain ⟨y, py, rfl⟩ : ∃ y py, tg0 = .Name y py := by cases tg0 <;> first | exact ⟨_, _, rfl⟩ | (simp [chkT] at h1)
        obtain ⟨hN, hl, hf⟩ := name_ok h h1
        have fin : ∀ {B : Ends} {σ : L2.St} {H : Hp} {Γ : Gh} {δ : Dl} {O : Addr → Prop} {E : En}, Fr X.K Γ δ σ H O → EnOk X.K xr W Γ H O B E → ∀ s v H' O', (i < δ.length ∧ E.nx (δ.set i (some s))) → OwnOk X.K Γ δ σ H O s v H' O' → B.nx (σ.set i (some v)) H' := by
          intro B σ H Γ δ O E fr en s v H' O' hk o
          refine en.nx _ _ H' O' hk.2 (o.fr.setO hk.1 o.rep fun ds b e1 e2 j es hj => ?_) o.ext
          exact fr.nslot (o.new ds b e1 e2) j es hj
        by_cases h4 : compFree sc (.Name y py) ee = true
        · refine PS.imp (ps_asg (pos := p) (sO hh e ee h2) (pg_name (i := i) (pos := py) hh.nd hN hl hf) (compFree_ok (by rw [hh.site.sc]; exact h4)) (swapFree_ok (by cases ee <;> rfl)) (tgt_one rfl)) fun B σ H ⟨Γ, δ, O, E, fr, hev, en⟩ => ?_
          simp only [ex] at hev
          exact ⟨Γ, δ, O, _, _, fr, hev, fun s v H' O' hk o => fin fr en s v H' O' hk o, en.x fr⟩
        · rcases h3 with h3 | h3
          · exact absurd h3 h4
          · cases ee with
            | ListComp elt gens s pp =>
              simp only [lcTrue, Bool.and_eq_true, decide_eq_true_eq, Bool.not_eq_true'] at h3
              obtain ⟨⟨⟨g2, g3⟩, g4⟩, g5⟩ := h3
              match gens, h2 with
              | [⟨tg, iter, ifs', aa⟩], h2 =>
                have hcomp : ∃ own e' t it ifs, e = .comp own e' t it ifs := by
                  cases e <;> first | exact ⟨_, _, _, _, _, rfl⟩ | (simp [chkE] at h2; done) | (simp only [chkE] at h2; rename_i o _; cases o <;> simp [chkOp1, chkOp2] at h2; done) | (simp only [chkE] at h2; rename_i o _ _; cases o <;> simp [chkOp1, chkOp2] at h2; done)
                obtain ⟨own, e', t, it, ifs, rfl⟩ := hcomp
                obtain ⟨rfl, hI, ok, hg, ht, he, hs, h5, hown⟩ := comp_parts hh h2
                have P := ps_setLc (i := i) (py := py) (pos := pp) (spos := p) (elt := elt) (g := gT X.K t) hh.site.calm hh.nd hN (by rw [hh.site.sc]; exact g3) (sw_true (by rw [hh.site.sc]; exact g2) (by rw [hh.site.sc]; exact g3) g4 g5) hI ok hg ht he hs
                rw [hown] at P
                refine PS.imp P fun B σ H ⟨Γ, δ, O, E, fr, hev, en⟩ => ?_
                simp only [ex, evO] at hev
                exact comp_core h5 fr hev (en.x fr) fun acc p vs H' hk l hp e2 rs ot no => fin fr en _ _ _ _ hk (comp_own fr l hp e2 rs)
              | [], h2 => exfalso; cases e <;> first | (simp [chkE] at h2; done) | (simp only [chkE] at h2; rename_i o _; cases o <;> simp [chkOp1, chkOp2] at h2; done) | (simp only [chkE] at h2; rename_i o _ _; cases o <;> simp [chkOp1, chkOp2] at h2; done)
              | _ :: _ :: _, h2 => exfalso; cases e <;> first | (simp [chkE] at h2; done) | (simp only [chkE] at h2; rename_i o _; cases o <;> simp [chkOp1, chkOp2] at h2; done) | (simp only [chkE] at h2; rename_i o _ _; cases o <;> simp [chkOp1, chkOp2] at h2; done)
            | _ => simp [lcTrue] at h3
      | [], hc => simp [chkS] at hc
      | _ :: _ :: _, hc => simp [chkS] at hc
    | _ => simp [chkS] at hc
  | .par is es, st, hc => by
    cases st with
    | Assign tgs' ee p =>
      match tgs', hc with
      | [tg0], hc =>
        simp only [chkS, Bool.and_eq_true] at hc
        obtain ⟨h1, h2⟩ := hc
        have hh := h.toHere
        have fin : ∀ {B : Ends} {σ : L2.St} {H : Hp} {Γ : Gh} {δ : Dl} {O : Addr → Prop} {E : En}, Fr X.K Γ δ σ H O → EnOk X.K xr W Γ H O B E → ∀ ss vs as H' O', (∃ δ', setAll δ is ss = some δ' ∧ E.nx δ') → Fr X.K Γ δ σ H' O' → Ext H H' O O' → Owns X.K Γ H' O' ss vs as → (∀ b ∈ as, H b = none) →
            vs.length = is.length ∧ B.nx (setV σ is vs) H' := by
          intro B σ H Γ δ O E fr en ss vs as H' O' hk f' x' w n'
          obtain ⟨δ', e1, hk⟩ := hk
          refine ⟨?_, en.nx _ _ H' O' hk (Fr.setAll w f' e1 fun b hb j es hj => fr.nslot (n' b hb) j es hj) x'⟩
          clear hk f' x'
          have l1 : ∀ {is : List Nat} {ss : List Slot} {δ δ' : Dl}, setAll δ is ss = some δ' → ss.length = is.length := by
            intro is
            induction is with
            | nil => intro ss δ δ' h; cases ss <;> simp [setAll] at h ⊢
            | cons i is ih =>
              intro ss δ δ' h
              cases ss with
              | nil => simp [setAll] at h
              | cons s ss =>
                simp only [setAll] at h
                split at h
                · simp [ih h]
                · cases h
          have l2 : ∀ {ss : List Slot} {vs : List V} {as : List Addr}, Owns X.K Γ H' O' ss vs as → vs.length = ss.length := by
            intro ss vs as w
            induction w <;> simp_all
          rw [l2 w, l1 e1]
        simp only [Bool.or_eq_true] at h1
        rcases h1 with h1 | h1
        · unfold parChk at h1
          split at h1
          · simp only [parN, Bool.and_eq_true, decide_eq_true_eq] at h1
            obtain ⟨⟨⟨⟨a1, a2⟩, b1, b2⟩, c1⟩, c2⟩ := h1
            refine PS.imp (ps_par (pos := p) hh.site.calm hh.nd (by rw [hh.hN]; exact a1) (by rw [hh.hN]; exact b1) c1 (by rw [hh.site.sc]; exact a2) (by rw [hh.site.sc]; exact b2) (sOs hh es _ h2) (swap_eq (by rw [hh.site.sc]; exact c2))) fun B σ H ⟨Γ, δ, O, E, fr, hev, en⟩ => ?_
            simp only [ex] at hev
            refine ⟨Γ, δ, O, _, _, fr, hev, fun ss vs as H' O' hk f' x' l' sb w n' => ?_, en.x fr⟩
            obtain ⟨hl, hq⟩ := fin fr en ss vs as H' O' hk f' x' w n'
            match vs, hl with
            | [v, u], _ => exact ⟨v, u, rfl, hq⟩
          · simp only [parN, Bool.and_eq_true, decide_eq_true_eq] at h1
            obtain ⟨⟨⟨⟨⟨⟨⟨a1, a2⟩, b1, b2⟩, d1, d2⟩, c1⟩, c3⟩, c4⟩, c2⟩ := h1
            refine PS.imp (ps_par3 (pos := p) hh.site.calm hh.nd (by rw [hh.hN]; exact a1) (by rw [hh.hN]; exact b1) (by rw [hh.hN]; exact d1) c1 c3 c4 (by rw [hh.site.sc]; exact a2) (by rw [hh.site.sc]; exact b2) (by rw [hh.site.sc]; exact d2) (sOs hh es _ h2) (swap_eq (by rw [hh.site.sc]; exact c2))) fun B σ H ⟨Γ, δ, O, E, fr, hev, en⟩ => ?_
            simp only [ex] at hev
            refine ⟨Γ, δ, O, _, _, fr, hev, fun ss vs as H' O' hk f' x' l' sb w n' => ?_, en.x fr⟩
            obtain ⟨hl, hq⟩ := fin fr en ss vs as H' O' hk f' x' w n'
            match vs, hl with
            | [v, u, z], _ => exact ⟨v, u, z, rfl, hq⟩
          · cases h1
        · unfold parTup at h1
          split at h1
          case h_2 => cases h1
          simp only [Bool.and_eq_true, decide_eq_true_eq] at h1
          obtain ⟨⟨a1, a2⟩, c2⟩ := h1
          refine PS.imp (ps_asg (pos := p) (pe_tup (sOs hh es _ h2)) (pg_tup hh.site.calm (pgs_names h a1) ((assign_len (parNs_stars a1)).1.trans (parNs_len a1)) (assign_len (parNs_stars a1)).2) (compFree_ok rfl) (swap_eq (by rw [hh.site.sc]; exact c2)) (tgt_one rfl)) fun B σ H ⟨Γ, δ, O, E, fr, hev, en⟩ => ?_
          simp only [ex] at hev
          refine ⟨Γ, δ, O, _, _, fr, hev, fun ss vs as H' O' hk f' x' l' sb w n' => ?_, en.x fr⟩
          have hl0 := (fin fr en ss vs as H' O' hk f' x' w n').1
          refine ⟨by rw [hl0, ← parNs_len a1, sizeLine_eq]; omega, fun T hT => ?_⟩
          have sm : Same H' (upd H' T (.tup vs)) := same_upd hT
          have lt := Later.of_same f'.gh f'.w sm
          obtain ⟨hl, hq⟩ := fin fr en ss vs as _ O' hk (f'.later lt) (x'.trans (f'.ext lt)) (w.same sm) n'
          exact ⟨T, vs, rfl, .inl (.inl upd_same), hl, gNames_set hl hq⟩
      | [], hc => simp [chkS] at hc
      | _ :: _ :: _, hc => simp [chkS] at hc
    | _ => simp [chkS] at hc
  | .app i e, st, hc => by
    cases st with
    | Expr ee p =>
      cases ee with
      | Call fe args kws pc =>
        cases fe with
        | Attribute o m ap =>
          cases o with
          | Name y py =>
            match args, kws, hc with
            | [ea], [], hc =>
              simp only [chkS, Bool.and_eq_true, decide_eq_true_eq] at hc
              obtain ⟨⟨⟨⟨h1, rfl⟩, h3⟩, h4⟩, h5⟩ := hc
              have hh := h.toHere
              refine PS.imp (ps_expr (pos := p) (pe_bm PySem.F.plainAttrs_list PySem.F.slot_list_append PySem.F.type_list_append mt_append (sV hh i _ h1) (pa_cons (sE hh false e ea h5) pa_nil (star_cons h3)) (base_ok rfl) (by rw [star_cons h3]; rfl) h4 (star_cons h3) rfl) (swapsWith_free rfl)) fun B σ H ⟨Γ, δ, O, E, fr, hev, en⟩ => ?_
              simp only [ex] at hev
              split at hev
              · rename_i ds e1
                obtain ⟨v, e2, a, vs, rfl, g1, g2, g3, g4⟩ := fr.slot i _ e1
                refine ⟨_, e2, .inl ⟨rfl, vs, .inl (.inl g1)⟩, Γ, δ, O, _, _, fr, hev, fun d y H' hk l rp => ?_, en.x fr⟩
                have f1 := fr.later l
                have ga : H' a = some (.lst vs) := l.same a _ g1 (fr.noM g3)
                have gr := Reps.ext (fr.ext l) ds vs g4
                obtain ⟨f2, x2⟩ := f1.push e1 e2 ga g2 g3 gr rp
                exact ⟨a, vs, y, rfl, rfl, ga, by rw [gr.length]; exact hk.1, en.nx _ _ _ O hk.2 f2 ((fr.ext l).trans x2)⟩
              · exact hev.elim
            | [], _, hc => simp [chkS] at hc
            | [_], _ :: _, hc => simp [chkS] at hc
            | _ :: _ :: _, _, hc => simp [chkS] at hc
          | _ => simp [chkS] at hc
        | _ => simp [chkS] at hc
      | _ => simp [chkS] at hc
    | _ => simp [chkS] at hc
  | .frz i, st, hc => by cases st <;> simp [chkS] at hc
  | .seq a b, st, hc => by cases st <;> simp [chkS] at hc
  | .ite c a b, st, hc => by
    cases st with
    | If ec sa sb p =>
      simp only [chkS, Bool.and_eq_true] at hc
      refine PS.imp (ps_if (pos := p) (sT h.toHere c ec hc.1.1) (sSs h a sa hc.1.2) (sSs h b sb hc.2)) fun B σ H ⟨Γ, δ, O, E, fr, hev, en⟩ => ?_
      simp only [ex] at hev
      refine ⟨Γ, δ, O, _, _, fr, hev, fun z H' hk l => ?_, en.x fr⟩
      cases z with
      | true => exact ⟨Γ, δ, O, E, fr.later l, hk, en.ext (fr.ext l)⟩
      | false => exact ⟨Γ, δ, O, E, fr.later l, hk, en.ext (fr.ext l)⟩
    | _ => simp [chkS] at hc
  | .for_ t it b, st, hc => by
    cases st with
    | For tg ie body orelse p =>
      simp only [chkS, Bool.and_eq_true, List.isEmpty_iff] at hc
      obtain ⟨⟨⟨⟨rfl, h2⟩, h3⟩, h4⟩, h5⟩ := hc
      have hh := h.toHere
      refine PS.imp (ps_for (pos := p) h.po hh.site.calm (sI hh false it tg ie h3) (sTg hh.hN hh.nd hh.site.sc h.fn hh.site.calm t tg h4) (sSs h b body h5) (fun y => by cases ie <;> first | rfl | (simp [notSet] at h2))) fun B σ H ⟨Γ, δ, O, E, fr, hev, en⟩ => ?_
      simp only [ex] at hev
      refine ⟨Γ, δ, O, _, _, fr, hev, fun xs J H1 hk l wk => ?_, en.x fr⟩
      obtain ⟨G, Y, w, hw⟩ := wk
      have f1 := fr.later l
      refine for_it w (fun i σ' H' => ∃ δ' O', Fr X.K Γ δ' σ' H' O' ∧ loopS (fun y δ' E' => bindT t y δ' fun δ1 => ex C b δ1 E') (xs.drop i) δ' E ∧ Ext H1 H' O O') ⟨δ, O, f1, hk, .refl⟩ ?_ ?_ ?_
      · rintro i σ' H' _ ⟨δ', O', f', _, x'⟩
        exact (hw H' O' x' (fun z => by cases z) f'.otr).1
      · rintro i y σ' H' H2 hi ⟨δ', O', f', hl, x'⟩ hy
        obtain ⟨s2, d, ed, rd⟩ := (hw H' O' x' (fun z => by cases z) f'.otr).2 i y H2 hi hy
        have hdrop : xs.drop i = d :: xs.drop (i + 1) := by
          obtain ⟨h', e'⟩ := List.getElem?_eq_some_iff.mp ed
          rw [List.drop_eq_getElem_cons h', e']
        rw [hdrop] at hl
        simp only [loopS] at hl
        have l2 : Later Γ H' H2 := Later.of_same f'.gh f'.w s2
        have f2 := f'.later l2
        have x2 : Ext H1 H2 O O' := x'.trans (f'.ext l2)
        refine ⟨Γ, δ', O', d, _, f2, hl, rd, fun δ3 σ3 hk3 f3 _ => ⟨Γ, δ3, O', _, f3, hk3, ?_⟩⟩
        refine ⟨fun δ4 σ4 H4 O4 hk4 f4 x4 => ⟨δ4, O4, f4, hk4, x2.trans x4⟩, en.rt, fun δ4 σ4 H4 O4 hk4 f4 x4 => en.nx δ4 σ4 H4 O4 hk4 f4 ((fr.ext l).trans (x2.trans x4)), fun δ4 σ4 H4 O4 hk4 f4 x4 => ⟨δ4, O4, f4, hk4, x2.trans x4⟩, en.xc⟩
      · rintro σ' H' ⟨δ', O', f', hl, x'⟩
        have : xs.drop xs.length = [] := by simp
        rw [this] at hl
        simp only [loopS] at hl
        exact en.nx δ' σ' H' O' hl f' ((fr.ext l).trans x')
    | _ => simp [chkS] at hc
  | .brk, st, hc => by
    cases st with
    | Break p => exact PS.imp (ps_break (pos := p)) fun B σ H ⟨Γ, δ, O, E, fr, hev, en⟩ => en.bk δ σ H O (by simpa [ex] using hev) fr .refl
    | _ => simp [chkS] at hc
  | .cnt, st, hc => by
    cases st with
    | Continue p => exact PS.imp (ps_continue (pos := p)) fun B σ H ⟨Γ, δ, O, E, fr, hev, en⟩ => en.ct δ σ H O (by simpa [ex] using hev) fr .refl
    | _ => simp [chkS] at hc
  | .never, st, hc => PS.imp ps_never fun B σ H ⟨Γ, δ, O, E, fr, hev, en⟩ => by simp [ex] at hev
termination_by c => 2 * sizeOf c
theorem sSs {X : Cx} {sc : Scope} {fn : Str → Bool} {W : WX} (h : HereS X F N sc fn C xr n W) : ∀ (c : CS) (sts : List Stmt), chkSs F N sc fn c sts = true → PSs X sts (tS X.K xr C W c)
  | .nop, [], hc => PSs.imp pss_nil fun B σ H ⟨Γ, δ, O, E, fr, hev, en⟩ => en.nx δ σ H O (by simpa [ex] using hev) fr .refl
  | .seq a b, sts, hc => by
    by_cases ha : ∃ i, a = .frz i
    · obtain ⟨i, rfl⟩ := ha
      simp only [chkSs] at hc
      refine PSs.imp (sSs h b sts hc) fun B σ H ⟨Γ, δ, O, E, fr, hev, en⟩ => ?_
      simp only [ex] at hev
      split at hev
      · rename_i ds e1
        obtain ⟨O1, f1, x1⟩ := fr.freeze e1
        exact ⟨Γ, _, O1, E, f1, hev, en.ext x1⟩
      · exact ⟨Γ, δ, O, E, fr, hev, en⟩
    · cases sts with
      | nil => cases a <;> first | (simp [chkSs] at hc; done) | exact absurd ⟨_, rfl⟩ ha
      | cons st sts =>
        have hc' : chkS F N sc fn a st = true ∧ chkSs F N sc fn b sts = true := by
          cases a <;> first | (simpa [chkSs] using hc) | exact absurd ⟨_, rfl⟩ ha
        refine PSs.imp (pss_cons (sS h a st hc'.1) (sSs h b sts hc'.2)) fun B σ H ⟨Γ, δ, O, E, fr, hev, en⟩ => ?_
        simp only [ex] at hev
        exact ⟨Γ, δ, O, _, fr, hev, ⟨fun δ' σ' H' O' hk f' x' => ⟨Γ, δ', O', E, f', hk, en.ext x'⟩, en.rt, en.bk, en.ct, en.xc⟩⟩
  | .nop, _ :: _, hc => by simp [chkSs] at hc
  | .expr _, _, hc => by simp [chkSs] at hc
  | .ret _, _, hc => by simp [chkSs] at hc
  | .retO _, _, hc => by simp [chkSs] at hc
  | .retV _, _, hc => by simp [chkSs] at hc
  | .retN, _, hc => by simp [chkSs] at hc
  | .asg _ _, _, hc => by simp [chkSs] at hc
  | .asgO _ _, _, hc => by simp [chkSs] at hc
  | .par _ _, _, hc => by simp [chkSs] at hc
  | .app _ _, _, hc => by simp [chkSs] at hc
  | .frz _, _, hc => by simp [chkSs] at hc
  | .ite _ _ _, _, hc => by simp [chkSs] at hc
  | .for_ _ _ _, _, hc => by simp [chkSs] at hc
  | .brk, _, hc => by simp [chkSs] at hc
  | .cnt, _, hc => by simp [chkSs] at hc
  | .never, _, hc => by simp [chkSs] at hc
termination_by c => 2 * sizeOf c + 1
end
end
end Tk
namespace Tk
open PySem PySem.Spec PyProof.Rows L2
structure Def where
  st : Stmt
  nm : Str
  ps : List Str
  N : List Str
  body : CS
inductive Ent where
  | code (d : Def)
  | prim (nm : Str) (np lvl : Nat) (sem : List Slot → (Slot → Prop) → KX → Prop)
def Ent.sig : Ent → Str × Nat
  | .code d => (d.nm, d.ps.length)
  | .prim nm np _ _ => (nm, np)
def tabF (T : List Ent) : FT := fun f => (T[f]?).map Ent.sig
def startD (n : Nat) (ss : List Slot) : Dl := ss.map some ++ List.replicate (n - ss.length) none
def enD (k : Slot → Prop) (x : KX) : En := ⟨fun _ => k (.val .none), k, fun _ => False, fun _ => False, fun e _ => x e⟩
/-- what a call of the f-th means, n calls deep at most -/
def callW (T : List Ent) (G : Str → Option D) : Nat → Nat → List Slot → (Slot → Prop) → KX → Prop
  | 0, _, _, _, _ => False
  | n + 1, f, ss, k, x => match T[f]? with
    | some (.code d) => ss.length = d.ps.length ∧ ex ⟨callW T G n, G⟩ d.body (startD d.N.length ss) (enD k x)
    | some (.prim _ np lvl sem) => lvl ≤ n ∧ ss.length = np ∧ sem ss k x
    | none => False
theorem callW_len {T : List Ent} {G : Str → Option D} {n f np : Nat} {nm : Str} {ss : List Slot} {k : Slot → Prop} {x : KX} (hF : tabF T f = some (nm, np)) (h : callW T G n f ss k x) : ss.length = np := by
  cases n with
  | zero => exact h.elim
  | succ n =>
    unfold callW at h
    unfold tabF at hF
    cases e : T[f]? with
    | none => rw [e] at hF; cases hF
    | some t =>
      rw [e] at h hF
      cases t with
      | code d => cases hF; exact h.1
      | prim nm np lvl sem => cases hF; exact h.2.1
def scopeC (N ps : List Str) (sc : Scope) : Bool := decide (sc.kind = .function) && !sc.isCoroutine && !sc.isGenerator && decide N.Nodup && decide (N.take ps.length = ps)
  && (ps.all fun x => decide (sc.names.lookup x = some .local) || decide (sc.names.lookup x = some .cell)) && (sc.names.all fun y => decide (y.2 ≠ .free))
theorem scope_by {N ps : List Str} {sc : Scope} (h : scopeC N ps sc = true) : FnScope N ps sc := by
  simp only [scopeC, Bool.and_eq_true, Bool.or_eq_true, decide_eq_true_eq, Bool.not_eq_true', List.all_eq_true] at h
  obtain ⟨⟨⟨⟨⟨⟨h1, h2⟩, h3⟩, h4⟩, h5⟩, h6⟩, h7⟩ := h
  exact ⟨h1, h2, h3, h4, h5, h6, h7⟩
/-- a def is written as its core term says -/
structure DOk (F : FT) (d : Def) : Prop where
  sc : scopeC d.N d.ps (defScope d.st) = true
  bind : ∀ (kV doc pm : Value) (an : Option Addr) (cdv ct : Value) (us : List Value), us.length = d.ps.length → bindArgs (PySem.W.fnOf d.nm d.nm (defArgs d.st) (defBody d.st) (defScope d.st) .none kV doc pm an cdv ct) ⟨us, []⟩ = pure (d.ps.zip us)
  ck : chkSs F d.N (defScope d.st) (fun _ => true) d.body (defBody d.st) = true
section
variable {P : Program} {w : World} {K : PySem.W.Frag} {mg : Str → Option Value} {base : Heap} {T : List Ent} {G : Str → Option D} {xr : XRep}
theorem FnG.mono {j k : Nat} {f : Addr} {fd : FuncData} {ps : List Str} {sp : Sp} (F : FnG P w K mg base j f fd ps sp) (h : j ≤ k) : FnG P w K mg base k f fd ps sp :=
  ⟨F.len, fun A outer s H args us vs Q E hr => F.run A outer s H args us vs Q E (hr.mono h)⟩
/-- as fn_of, where no repr is under way -/
theorem fnG_of {k : Nat} {f : Addr} {name qual : Str} {params : Arguments} {body : List Stmt} {scope : Scope} {dV kV doc pm cdv ct oc : Value} {an od : Option Addr}
    {osl : Array (Option Value)} {N ps : List Str} {sp : Sp} (lk : K.lookup f = some ⟨oc, od, .func (PySem.W.fnOf name qual params body scope dV kV doc pm an cdv ct), osl⟩) (hcd : PySem.W.codeIn K cdv qual = true) (S : FnScope N ps scope)
    (len : ∀ vs H Q E, sp vs H Q E → vs.length = ps.length)
    (hbody : ∀ (A : Around) (outer : List Env) (s : Shared) (H : Hp) (vs : List V) (Q : VK) (E : XK), Mod K mg base → Room k (A.deeper (envOfC qual scope s.heap.objs.size f cdv)) → A.guards = some [] → sp vs H Q E →
      ∃ t, PSs (cxOf (L2.CX P w) P w K mg base N qual scope f cdv A outer s H E) body t ∧ t { nx := fun _ H' => Q .non H', rt := Q } (start N vs) H) :
    FnG P w K mg base (k + 1) f (PySem.W.fnOf name qual params body scope dV kV doc pm an cdv ct) ps sp := by
  refine ⟨len, fun A outer s H args us vs Q E hr hg e0 hb r hsp => ?_⟩
  have hl := len _ _ _ _ hsp
  have KX : K.In s.heap := e0.mod.kin.keeps fun b o e => (e0.bs b o e).1
  have lim : s.heap.NoLimit := e0.mod.nolimit.keeps fun b o e => (e0.bs b o e).1
  have hkind : ∀ y ∈ ps.zip us, scope.names.lookup y.1 = some .local ∨ (scope.names.lookup y.1 = some .cell ∧ ((cellsFrom (s.heap.objs.size + 1) scope.names []).lookup y.1).isSome = true) := fun ⟨n, v⟩ hy => by
    rcases S.par n (List.of_mem_zip hy).1 with q | q
    · exact .inl q
    · exact .inr ⟨q, PySem.W.cellsFrom_some _ _ _ (.inl q)⟩
  refine codeAny_call_function hr.depth (KX _ _ lk) rfl S.co S.gen rfl (PySem.W.codeRec_of KX hcd) (hb _ _ _ _ ?_)
  refine wpAny_newFunctionEnv_cells S.kind hkind fun env he s1 x => ?_
  subst he
  refine ⟨lim.keeps x.toInCall.keep, codeAny_func ?_⟩
  obtain ⟨t, ht, hq⟩ := hbody A outer s H vs Q E e0.mod (hr.deeper _) hg hsp
  have I : L2.Inv (cxOf (L2.CX P w) P w K mg base N qual scope f cdv A outer s H E) [] (start N vs) H s1 := inv_start S hr.hd e0 hl r x
  refine wpAny_mono (ht.run [] s1 (start N vs) H _ I hq) (fun fl s' hs => ?_) fun e s' hs => hs
  have fin : ∀ {σ' : L2.St} {H' : Hp} {v : V} {u : Value}, L2.Inv (cxOf (L2.CX P w) P w K mg base N qual scope f cdv A outer s H E) [] σ' H' s' → L2.RelV v u → Q v H' → L2.CE outer P w H s Q u s' :=
    fun {σ' H' v u} J rv q => ⟨v, H', J.os, J.bare, J.base, J.hok, rv, q⟩
  cases fl with
  | ret u =>
    obtain ⟨v, σ', H', J, rv, q⟩ := hs
    exact fin J rv q
  | next =>
    obtain ⟨σ', H', J, q⟩ := hs
    exact fin (v := V.non) (u := Value.none) J rfl q
  | brk =>
    obtain ⟨_, _, _, q⟩ := hs
    exact False.elim q
  | cont =>
    obtain ⟨_, _, _, q⟩ := hs
    exact False.elim q
/-- the facts of the module that the table leans on -/
structure Tab (mg : Str → Option Value) (K : PySem.W.Frag) (P : Program) (w : World) (T : List Ent) (G : Str → Option D) (xr : XRep) : Prop where
  blt : ∀ x ∈ bltNames, mg x = none
  glob : ∀ x d, G x = some d → ∃ u v, mg x = some u ∧ L2.RelV v u ∧ ∀ H O, Rep K H O v d
  xm : ∀ H (O O1 : Addr → Prop) e cls dd, (∀ b, O b → O1 b) → xr H O1 e cls dd → xr H O e cls dd
  code : ∀ (f : Nat) d, T[f]? = some (.code d) → DOk (tabF T) d ∧ ∃ a fd, mg d.nm = some (.ref a) ∧ FunD K d.nm d.nm (defArgs d.st) (defBody d.st) (defScope d.st) [] [] a fd
  prim : ∀ (f : Nat) nm np lvl sem, T[f]? = some (.prim nm np lvl sem) → ∃ a fd ps, mg nm = some (.ref a) ∧ PySem.W.keepIn K (.ref a) = true ∧ ps.length = np ∧ Binds K fd ps [] ∧
    ∀ base, FnG P w K mg base lvl a fd ps (spC K xr (fun _ ss k x => ss.length = np ∧ sem ss k x) f np)
theorem start_slots {Γ : Gh} {H : Hp} {O : Addr → Prop} : ∀ {ss : List Slot} {vs : List V}, AReps K Γ H O ss vs → ∀ (i : Nat) s, ss[i]? = some s → ∃ v, vs[i]? = some v ∧ SRep K Γ H O s v ∧ ∀ ds, s ≠ .own ds
  | _, _, .nil, i, s, e => by simp at e
  | _, _, .cons (s := s0) h r, 0, s, e => by
    simp at e; subst e
    refine ⟨_, rfl, ?_⟩
    cases s0 with
    | val d => exact ⟨h, fun ds z => by cases z⟩
    | st => exact ⟨h, fun ds z => by cases z⟩
    | own _ => exact h.elim
  | _, _, .cons h r, i + 1, s, e => by
    obtain ⟨v, e1, e2⟩ := start_slots r i s (by simpa using e)
    exact ⟨v, by simpa using e1, e2⟩
theorem fr_start {Γ : Gh} {H : Hp} {O : Addr → Prop} {N : List Str} {ss : List Slot} {vs : List V} (hg : Γ.Ok) (hw : Γ.W H) (ho : OTr O H) (hm : ∀ b, Γ.M b → O b) (ar : AReps K Γ H O ss vs) (hl : ss.length ≤ N.length) :
    Fr K { Γ with H0 := H, O0 := O } (startD N.length ss) (start N vs) H O := by
  have hlen := ar.length
  have key : ∀ (i : Nat) s, (startD N.length ss)[i]? = some (some s) → ss[i]? = some s := fun i s e => by
    unfold startD at e
    by_cases hi : i < ss.length
    · rw [List.getElem?_append_left (by simpa using hi), List.getElem?_map] at e
      cases q : ss[i]? with
      | none => rw [q] at e; cases e
      | some z => rw [q] at e; cases e; rfl
    · rw [List.getElem?_append_right (by simpa using hi), List.getElem?_replicate] at e
      split at e <;> cases e
  refine ⟨⟨hg.so, hm, ho, hg.wm, hg.ws, hg.wt, hg.wf⟩, ?_, fun _ _ h _ => h, fun _ h => h, ho, hw, fun i s e => ?_, fun i j a ds es h1 _ _ _ => ?_⟩
  · simp [startD, L2.start, hlen]
  · have e' := key i s e
    obtain ⟨v, e1, e2, _⟩ := start_slots ar i s e'
    refine ⟨v, ?_, ?_⟩
    · unfold L2.start
      have hi : i < vs.length := (List.getElem?_eq_some_iff.mp e1).1
      rw [List.getElem?_append_left (by simpa using hi), List.getElem?_map, e1]
      rfl
    · cases s with
      | val d => exact e2
      | st => exact e2
      | own ds =>
        obtain ⟨_, _, _, h3⟩ := start_slots ar i _ e'
        exact absurd rfl (h3 ds)
  · obtain ⟨_, _, _, h3⟩ := start_slots ar i _ (key i _ h1)
    exact absurd rfl (h3 ds)
/-- EACH DEF KEEPS ITS PROMISE -/
theorem sound (tb : Tab mg K P w T G xr) (base : Heap) : ∀ n f nm np, tabF T f = some (nm, np) → ∃ a fd ps, mg nm = some (.ref a) ∧ PySem.W.keepIn K (.ref a) = true ∧ ps.length = np ∧ Binds K fd ps [] ∧ FnG P w K mg base n a fd ps (spC K xr (callW T G n) f np) := by
  intro n
  induction n with
  | zero =>
    intro f nm np hF
    unfold tabF at hF
    cases e : T[f]? with
    | none => rw [e] at hF; cases hF
    | some t =>
      rw [e] at hF
      have no : ∀ {a : Addr} {fd : FuncData} {ps : List Str}, FnG P w K mg base 0 a fd ps (spC K xr (callW T G 0) f np) := fun {a fd ps} =>
        ⟨fun vs H Q E ⟨_, _, _, _, _, _, _, _, _, _, _, h, _⟩ => h.elim, fun A outer s H args us vs Q E _ _ _ _ _ ⟨_, _, _, _, _, _, _, _, _, _, _, h, _⟩ => h.elim⟩
      cases t with
      | code d =>
        cases hF
        obtain ⟨dk, a, fd, m1, fu⟩ := tb.code f d e
        exact ⟨a, fd, d.ps, m1, fu.kp, rfl, fu.bindsN dk.bind, no⟩
      | prim nm np lvl sem =>
        cases hF
        obtain ⟨a, fd, ps, m1, m2, m3, m4, m5⟩ := tb.prim f _ _ _ _ e
        exact ⟨a, fd, ps, m1, m2, m3, m4, no⟩
  | succ n ih =>
    intro f nm np hF
    have hF0 := hF
    unfold tabF at hF
    cases e : T[f]? with
    | none => rw [e] at hF; cases hF
    | some t =>
      rw [e] at hF
      cases t with
      | prim nm np lvl sem =>
        cases hF
        obtain ⟨a, fd, ps, m1, m2, m3, m4, m5⟩ := tb.prim f _ _ _ _ e
        refine ⟨a, fd, ps, m1, m2, m3, m4, ?_⟩
        by_cases hn : lvl ≤ n
        · have m6 := (m5 base).mono (Nat.le_succ_of_le hn)
          have imp : ∀ vs H Q E, spC K xr (callW T G (n + 1)) f np vs H Q E → spC K xr (fun _ ss k x => ss.length = np ∧ sem ss k x) f np vs H Q E := fun vs H Q E ⟨h1, Γ, O, ss, k, x, g1, g2, g3, g4, g5, g6, g7⟩ => by
            refine ⟨h1, Γ, O, ss, k, x, g1, g2, g3, g4, g5, ?_, g7⟩
            unfold callW at g6
            rw [e] at g6
            exact g6.2
          exact ⟨fun vs H Q E h => m6.len vs H Q E (imp _ _ _ _ h), fun A outer s H args us vs Q E a1 a2 a3 a4 a5 a6 => m6.run A outer s H args us vs Q E a1 a2 a3 a4 a5 (imp _ _ _ _ a6)⟩
        · have no : ∀ {vs H Q E}, ¬ spC K xr (callW T G (n + 1)) f np vs H Q E := fun {vs H Q E} ⟨_, _, _, _, _, _, _, _, _, _, _, g6, _⟩ => by
            unfold callW at g6
            rw [e] at g6
            exact hn g6.1
          exact ⟨fun vs H Q E h => (no h).elim, fun A outer s H args us vs Q E _ _ _ _ _ a6 => (no a6).elim⟩
      | code d =>
        cases hF
        obtain ⟨dk, a, fd, m1, fu⟩ := tb.code f d e
        refine ⟨a, fd, d.ps, m1, fu.kp, rfl, fu.bindsN dk.bind, ?_⟩
        obtain ⟨oc, od, dV, kV, doc, pm, an, cdv, ct, osl, rfl, lk, hcd, _, _⟩ := fu.ex
        have S := scope_by dk.sc
        have hpN : d.ps.length ≤ d.N.length := by have := congrArg List.length S.pre; rw [List.length_take] at this; omega
        refine fnG_of lk hcd S (fun vs H Q E h => h.1) fun A outer s H vs Q E md hr hg hsp => ?_
        obtain ⟨hvl, Γ, O, ss, k, x, g1, g2, g3, g4, g5, g6, g7, g8⟩ := hsp
        unfold callW at g6
        rw [e] at g6
        obtain ⟨hsl, g6⟩ := g6
        have units := hr.un
        have hh : HereS (cxOf (L2.CX P w) P w K mg base d.N d.nm (defScope d.st) a cdv A outer s H E) (tabF T) d.N (defScope d.st) (fun _ => true) ⟨callW T G n, G⟩ xr n (fun cls dd _ H' => E cls dd H') := by
          refine ⟨⟨⟨rfl, rfl, ?_, hg, tb.blt⟩, ⟨tb.glob, tb.xm, fun f nm np hF ss k x h => callW_len hF h, fun f nm np hF => ih f nm np hF⟩, hr, rfl, S.nd, takes_of rfl rfl rfl rfl⟩, rfl, passes_of rfl⟩
          show (A.deeper _).units + 200 < cLine
          omega
        refine ⟨_, sSs hh d.body _ dk.ck, { Γ with H0 := H, O0 := O }, startD d.N.length ss, O, enD k x, fr_start g1 g2 g3 g4 g5 (by rw [hsl]; exact hpN), g6, ?_⟩
        have ret : ∀ s v H', k s → RetOk K { Γ with H0 := H, O0 := O } H' s v → Q v H' := fun s v H' hk r => by
          obtain ⟨r1, r2, O', r3, r4⟩ := r
          refine g7 s v H' hk ⟨r1, r2⟩ ?_
          cases s with
          | val dd => exact Rep.ext (Ext.sub r3) dd v r4
          | st => exact r4
          | own ds =>
            obtain ⟨b, us, e1, e2, e3, e4, e5⟩ := r4
            exact ⟨b, us, e1, e2, e4, Reps.ext (Ext.sub fun c z => z.elim (r3 c) fun q => by rw [q]; exact e3) ds us e5⟩
        refine ⟨fun δ' σ' H' O' hk f' x' => ret _ _ _ hk (f'.ret (s := .val .none) .non), ret, fun _ _ _ _ z => z.elim, fun _ _ _ _ z => z.elim, fun e' δ' σ' H' O' cls dd hx f' xx => ?_⟩
        exact g8 e' cls dd H' hx ⟨f'.same, f'.w⟩ (tb.xm _ _ _ _ _ _ f'.sub xx)
end
end Tk
namespace Tk
open PySem PySem.Spec PyProof.Rows L2
/-- where a list stands: in a name, in a field -/
inductive LB where
  | var (j : Nat)
  | fld (j : Nat) (key : Str)
  | itm (j i : Nat)
inductive IE where
  | c (i : Int)
  | v (i : Nat)
  | g (j : Nat) (key : Str)
  | gi (j i : Nat)
  | ln (b : LB)
  | ix (b : LB) (a : IE)
  | op (o : Op2) (a b : IE)
def arith : Op2 → Bool
  | .add => true | .sub => true | .mul => true | .fdiv => true | .mod => true | .pow => true | _ => false
def chkV (N : List Str) (sc : Scope) (i : Nat) (x : Str) : Bool := decide (N[i]? = some x) && vis sc x && plainName x
def chkLB (N : List Str) (sc : Scope) : LB → Expr → Bool
  | .var j, .Name x _ => chkV N sc j x
  | .fld j key, .Subscript (.Name x _) (.Constant (.str y) _ _) _ => chkV N sc j x && decide (y = key)
  | .itm j i, .Subscript (.Name x _) (.Constant (.int n) _ _) _ => chkV N sc j x && decide (n = (i : Nat))
  | _, _ => false
def chkIE (N : List Str) (sc : Scope) : IE → Expr → Bool
  | .c i, .Constant (.int j) _ _ => i == j
  | .v i, .Name x _ => chkV N sc i x
  | .g j key, .Subscript (.Name x _) (.Constant (.str y) _ _) _ => chkV N sc j x && decide (y = key)
  | .gi j i, .Subscript (.Name x _) (.Constant (.int n) _ _) _ => chkV N sc j x && decide (n = (i : Nat))
  | .ln b, e => match chkOp1 sc .len e with
    | some ea => chkLB N sc b ea
    | none => false
  | .ix b a, e => match chkOp2 sc .ix e with
    | some (ea, eb) => chkLB N sc b ea && chkIE N sc a eb
    | none => false
  | .op o a b, e => arith o && match chkOp2 sc o e with
    | some (ea, eb) => chkIE N sc a ea && chkIE N sc b eb
    | none => false
  | _, _ => false
def fldV (σ : L2.St) (H : Hp) (j : Nat) (key : Str) : Option V := match σ[j]? with
  | some (some (.ref a)) => match H a with
    | some (.dK kvs) => valV kvs (.inr key)
    | _ => none
  | _ => none
def itmV (σ : L2.St) (H : Hp) (j i : Nat) : Option V := match σ[j]? with
  | some (some (.ref a)) => match H a with
    | some (.lst vs) => vs[i]?
    | _ => none
  | _ => none
def lbV (σ : L2.St) (H : Hp) : LB → Option V
  | .var j => match σ[j]? with
    | some (some (.ref a)) => some (.ref a)
    | _ => none
  | .fld j key => fldV σ H j key
  | .itm j i => itmV σ H j i
def intsV : List V → Option (List Int)
  | [] => some []
  | .int i :: r => (intsV r).map (i :: ·)
  | _ => none
def lbN (σ : L2.St) (H : Hp) (b : LB) : Option (List Int) := match lbV σ H b with
  | some (.ref a) => match H a with
    | some (.lst vs) => intsV vs
    | _ => none
  | _ => none
def ieV (σ : L2.St) (H : Hp) : IE → Option Int
  | .c i => some i
  | .v i => match σ[i]? with
    | some (some (.int n)) => some n
    | _ => none
  | .g j key => match fldV σ H j key with
    | some (.int n) => some n
    | _ => none
  | .gi j i => match itmV σ H j i with
    | some (.int n) => some n
    | _ => none
  | .ln b => (lbN σ H b).map fun ns => (ns.length : Nat)
  | .ix b a => match lbN σ H b, ieV σ H a with
    | some ns, some i => atI ns i
    | _, _ => none
  | .op o a b => match ieV σ H a, ieV σ H b with
    | some i, some j => match sem2 o (.int i) (.int j) with
      | some (.int r) => some r
      | _ => none
    | _, _ => none
section
variable {X : Cx} {N : List Str} {sc : Scope} {σ : L2.St} {H H' : Hp}
theorem fldV_same (s : Same H H') {j : Nat} {key : Str} {v : V} (h : fldV σ H j key = some v) : fldV σ H' j key = some v := by
  unfold fldV at h ⊢
  split at h
  · rename_i a e
    split at h
    · rename_i kvs e2
      simp only [e, s _ _ e2]; exact h
    · cases h
  · cases h
theorem itmV_same (s : Same H H') {j i : Nat} {v : V} (h : itmV σ H j i = some v) : itmV σ H' j i = some v := by
  unfold itmV at h ⊢
  split at h
  · rename_i a e
    split at h
    · rename_i kvs e2
      simp only [e, s _ _ e2]; exact h
    · cases h
  · cases h
theorem lbV_same (s : Same H H') {b : LB} {v : V} (h : lbV σ H b = some v) : lbV σ H' b = some v := by
  cases b with
  | var j => exact h
  | fld j key => exact fldV_same s h
  | itm j i => exact itmV_same s h
theorem lbN_ex {b : LB} {ns : List Int} (h : lbN σ H b = some ns) : ∃ a vs, lbV σ H b = some (.ref a) ∧ H a = some (.lst vs) ∧ intsV vs = some ns := by
  unfold lbN at h
  split at h
  · rename_i a e
    split at h
    · rename_i vs e2
      exact ⟨a, vs, e, e2, h⟩
    · cases h
  · cases h
theorem lbN_same (s : Same H H') {b : LB} {ns : List Int} (h : lbN σ H b = some ns) : lbN σ H' b = some ns := by
  obtain ⟨a, vs, e1, e2, e3⟩ := lbN_ex h
  unfold lbN
  simp only [lbV_same s e1, s _ _ e2, e3]
theorem ieV_same (s : Same H H') : ∀ {t : IE} {i : Int}, ieV σ H t = some i → ieV σ H' t = some i
  | .c i, _, h => h
  | .v i, _, h => h
  | .g j key, _, h => by
    simp only [ieV] at h ⊢
    split at h
    · rename_i n e
      rw [fldV_same s e]; exact h
    · cases h
  | .gi j i, _, h => by
    simp only [ieV] at h ⊢
    split at h
    · rename_i n e
      rw [itmV_same s e]; exact h
    · cases h
  | .ln b, _, h => by
    simp only [ieV, Option.map_eq_some_iff] at h ⊢
    obtain ⟨ns, e, h⟩ := h
    exact ⟨ns, lbN_same s e, h⟩
  | .ix b a, _, h => by
    simp only [ieV] at h ⊢
    split at h
    · rename_i ns i e1 e2
      rw [lbN_same s e1, ieV_same s e2]; exact h
    · cases h
  | .op o a b, _, h => by
    simp only [ieV] at h ⊢
    split at h
    · rename_i i j e1 e2
      rw [ieV_same s e1, ieV_same s e2]; exact h
    · cases h
theorem intsV_reps {K : PySem.W.Frag} {O : Addr → Prop} : ∀ {vs : List V} {ns : List Int}, intsV vs = some ns → Reps K H O vs (ns.map PyData.int)
  | [], ns, h => by simp [intsV] at h; subst h; exact .nil
  | v :: vs, ns, h => by
    cases v with
    | int i =>
      simp only [intsV, Option.map_eq_some_iff] at h
      obtain ⟨r, e, rfl⟩ := h
      exact .cons (.int i) (intsV_reps e)
    | _ => simp [intsV] at h
theorem intsV_map (ns : List Int) : intsV (ns.map V.int) = some ns := by
  induction ns with
  | nil => rfl
  | cons n ns ih => simp [intsV, ih]
def noG : Gh := ⟨fun _ => none, fun _ => False, fun _ => False, fun _ => True, .non⟩
theorem vis_of (S : Site X sc) {x : Str} (h : vis sc x = true) : Vis X.env.scope x := by
  rw [S.sc]
  unfold vis at h
  split at h
  · exact .inl ‹_›
  · exact .inr (.inl ‹_›)
  · exact .inr (.inr ‹_›)
  · cases h
theorem pe_chkV (S : Site X sc) (hN : X.N = N) {i : Nat} {x : Str} {p : Pos} (h : chkV N sc i x = true) : PE X (.Name x p) (tVar i) := by
  simp only [chkV, Bool.and_eq_true, decide_eq_true_eq] at h
  obtain ⟨⟨h1, h2⟩, h3⟩ := h
  simp only [plainName, Bool.and_eq_true, Bool.not_eq_true'] at h3
  exact pe_var (by rw [hN]; exact h1) (vis_of S h2) h3.1 h3.2
theorem units1 (S : Site X sc) : X.A.units + 1 < cLine := by have := S.units; omega
theorem pe_lb (S : Site X sc) (hN : X.N = N) {b : LB} {e : Expr} (h : chkLB N sc b e = true) : PE X e (fun σ H Q => ∃ v, lbV σ H b = some v ∧ Q v H) := by
  cases b with
  | var j =>
    cases e with
    | Name x p =>
      refine PE.imp (pe_chkV S hN h) fun σ H Q ⟨v, e1, q⟩ => ?_
      simp only [lbV] at e1
      split at e1
      · rename_i a e2
        cases e1
        exact ⟨_, e2, q⟩
      · cases e1
    | _ => simp [chkLB] at h
  | fld j key =>
    cases e with
    | Subscript o i p =>
      cases o with
      | Name x px =>
        cases i with
        | Constant c k pc =>
          cases c with
          | str y =>
            simp only [chkLB, Bool.and_eq_true, decide_eq_true_eq] at h
            obtain ⟨h1, rfl⟩ := h
            refine PE.imp (pe_dget (units1 S) (pe_chkV S hN h1) pe_str (fun _ _ => rfl)) fun σ H Q ⟨v, e1, q⟩ => ?_
            simp only [lbV, fldV] at e1
            split at e1
            · rename_i a e2
              split at e1
              · rename_i kvs e3
                refine ⟨_, e2, a, v, rfl, ?_, q⟩
                have := DGet.k (k := Sum.inr y) e3
                rw [e1] at this
                exact this
              · cases e1
            · cases e1
          | _ => simp [chkLB] at h
        | _ => simp [chkLB] at h
      | _ => simp [chkLB] at h
    | _ => simp [chkLB] at h
  | itm j i =>
    cases e with
    | Subscript o ix p =>
      cases o with
      | Name x px =>
        cases ix with
        | Constant c k pc =>
          cases c with
          | int n =>
            simp only [chkLB, Bool.and_eq_true, decide_eq_true_eq] at h
            obtain ⟨h1, rfl⟩ := h
            refine PE.imp (pe_ix ix_seq (pe_chkV S hN h1) pe_int (plainIx rfl)) fun σ H Q ⟨v, e1, q⟩ => ?_
            simp only [lbV, itmV] at e1
            split at e1
            · rename_i a e2
              split at e1
              · rename_i vs e3
                exact ⟨_, e2, .inl ⟨a, vs, (i : Nat), v, rfl, rfl, .inl (.inl e3), atI_nat e1, q⟩⟩
              · cases e1
            · cases e1
          | _ => simp [chkLB] at h
        | _ => simp [chkLB] at h
      | _ => simp [chkLB] at h
    | _ => simp [chkLB] at h
/-- the reading -/
def tIE (t : IE) : TE := fun σ H Q => ∃ i, ieV σ H t = some i ∧ ∀ H', Same H H' → Q (.int i) H'
theorem mono_tIE {t : IE} : Mono (tIE t) := fun σ H Q Q' hq ⟨i, e, q⟩ => ⟨i, e, fun H' s => hq _ _ (q H' s)⟩
theorem pe_ie (S : Site X sc) (hN : X.N = N) : ∀ (t : IE) (e : Expr), chkIE N sc t e = true → PE X e (tIE t)
  | .c i, e, h => by
    cases e with
    | Constant c k p =>
      cases c with
      | int j =>
        simp only [chkIE, beq_iff_eq] at h
        subst h
        exact PE.imp pe_int fun σ H Q ⟨n, e1, q⟩ => by cases e1; exact q H (.refl _)
      | _ => simp [chkIE] at h
    | _ => simp [chkIE] at h
  | .v i, e, h => by
    cases e with
    | Name x p =>
      refine PE.imp (pe_chkV S hN h) fun σ H Q ⟨n, e1, q⟩ => ?_
      simp only [ieV] at e1
      split at e1
      · cases e1; exact ⟨_, ‹_›, q H (.refl _)⟩
      · cases e1
    | _ => simp [chkIE] at h
  | .g j key, e, h => by
    have h' : chkLB N sc (.fld j key) e = true := by
      unfold chkIE at h; split at h <;> first | exact h | (simp at h) | skip
      all_goals simp_all [chkLB]
    refine PE.imp (pe_lb S hN h') fun σ H Q ⟨n, e1, q⟩ => ?_
    simp only [ieV] at e1
    split at e1
    · cases e1; exact ⟨_, ‹_›, q H (.refl _)⟩
    · cases e1
  | .gi j i, e, h => by
    have h' : chkLB N sc (.itm j i) e = true := by
      unfold chkIE at h; split at h <;> first | exact h | (simp at h) | skip
      all_goals simp_all [chkLB]
    refine PE.imp (pe_lb S hN h') fun σ H Q ⟨n, e1, q⟩ => ?_
    simp only [ieV] at e1
    split at e1
    · cases e1; exact ⟨_, ‹_›, q H (.refl _)⟩
    · cases e1
  | .ln b, e, h => by
    simp only [chkIE] at h
    split at h
    · rename_i ea e1
      refine PE.imp (op1_ok S e1 (pe_lb S hN h) fun σ H Q Q' hq ⟨v, a, b⟩ => ⟨v, a, hq _ _ b⟩) fun σ H Q ⟨n, e2, q⟩ => ?_
      simp only [ieV, Option.map_eq_some_iff] at e2
      obtain ⟨ns, e3, rfl⟩ := e2
      obtain ⟨a, vs, f1, f2, f3⟩ := lbN_ex e3
      refine ⟨_, f1, noG, fun _ => False, .list (ns.map .int), .int (ns.length : Nat), fun _ z => z.elim, ⟨a, vs, rfl, .inl ⟨.inl f2, fun z => z⟩, intsV_reps f3⟩, by simp [sem1, lenD], fun v' H' s r => ?_⟩
      cases r
      exact q H' s
    · cases h
  | .ix b t, e, h => by
    simp only [chkIE] at h
    split at h
    · rename_i ea eb e1
      simp only [Bool.and_eq_true] at h
      refine PE.imp (op2_ok S e1 (pe_lb S hN h.1) (pe_ie S hN t eb h.2) (fun σ H Q Q' hq ⟨v, a, b⟩ => ⟨v, a, hq _ _ b⟩) mono_tIE) fun σ H Q ⟨n, e2, q⟩ => ?_
      simp only [ieV] at e2
      split at e2
      · rename_i ns i g1 g2
        obtain ⟨a, vs, f1, f2, f3⟩ := lbN_ex g1
        refine ⟨_, f1, trivial, i, g2, fun H1 s1 => ⟨noG, fun _ => False, .list (ns.map .int), .int i, .int n, fun _ z => z.elim, ⟨a, vs, rfl, .inl ⟨.inl (s1 _ _ f2), fun z => z⟩, intsV_reps f3⟩, .int i, ?_, fun v' H' s r => ?_⟩⟩
        · show atI (ns.map PyData.int) i = some (.int n)
          unfold atI at e2 ⊢
          rw [List.length_map]
          cases q : ixN ns.length i with
          | none => rw [q] at e2; cases e2
          | some j => rw [q] at e2; simp only [Option.bind_some] at e2 ⊢; rw [List.getElem?_map, e2]; rfl
        · cases r
          exact q H' (s1.trans s)
      · cases e2
    · cases h
  | .op o t u, e, h => by
    simp only [chkIE, Bool.and_eq_true] at h
    obtain ⟨h0, h⟩ := h
    split at h
    · rename_i ea eb e1
      simp only [Bool.and_eq_true] at h
      refine PE.imp (op2_ok S e1 (pe_ie S hN t ea h.1) (pe_ie S hN u eb h.2) mono_tIE mono_tIE) fun σ H Q ⟨n, e2, q⟩ => ?_
      simp only [ieV] at e2
      split at e2
      · rename_i i j g1 g2
        split at e2
        · rename_i r g3
          cases e2
          refine ⟨i, g1, fun H1 s1 => ⟨?_, j, ieV_same s1 g2, fun H2 s2 => ⟨noG, fun _ => False, .int i, .int j, .int n, fun _ z => z.elim, .int i, .int j, g3, fun v' H' s r => ?_⟩⟩⟩
          · cases o <;> first | trivial | (simp [arith] at h0)
          · cases r
            exact q H' (s1.trans (s2.trans s))
        · cases e2
      · cases e2
    · cases h
/-- a comparison of two -/
def tICmp (o : Op2) (t u : IE) : TT := fun σ H Q => ∃ i j b, ieV σ H t = some i ∧ ieV σ H u = some j ∧ sem2 o (.int i) (.int j) = some (.bool b) ∧ ∀ H', Same H H' → Q b H'
theorem pt_ie (S : Site X sc) (hN : X.N = N) {t u : IE} {o : Op2} {op : CmpOp} {ea eb : Expr} {p : Pos} (ho : cmpOf o = some op) (hn : notSet eb = true) (h1 : chkIE N sc t ea = true) (h2 : chkIE N sc u eb = true) :
    PT X (.Compare ea [op] [eb] p) (tICmp o t u) := by
  refine PT.imp (pt_cmpR (cmp_ok S ho) (pe_ie S hN t ea h1) (pe_ie S hN u eb h2) (marks_ok hn)) fun σ H Q ⟨i, j, b, e1, e2, e3, q⟩ => ?_
  refine ⟨i, e1, fun H1 s1 => ⟨j, ieV_same s1 e2, fun H2 s2 => ⟨noG, fun _ => False, .int i, .int j, .bool b, fun _ z => z.elim, .int i, .int j, e3, fun v' H' s r => ?_⟩⟩⟩
  cases r
  exact ⟨b, rfl, q H' (s1.trans (s2.trans s))⟩
end
end Tk
/-! G1: helpers for hand parts. -/
namespace Tk
open PySem PySem.Spec PyProof.Rows L2
section
variable {P : Program} {w : World} {K : PySem.W.Frag} {mg : Str → Option Value} {base : Heap} {xr : XRep} {F : FT} {C : Cfg}
theorem site_of {N : List Str} {qual : Str} {scope : Scope} {f : Addr} {cdv : Value} {A : Around} {outer : List Env} {s : Shared} {H : Hp} {E : XK} {k : Nat} (hr : Room k (A.deeper (envOfC qual scope s.heap.objs.size f cdv))) (hg : A.guards = some []) (blt : ∀ x ∈ bltNames, mg x = none) :
    Site (cxOf (L2.CX P w) P w K mg base N qual scope f cdv A outer s H E) scope := by
  have := hr.un
  refine ⟨rfl, rfl, ?_, hg, blt⟩
  show (A.deeper _).units + 200 < cLine
  omega
theorem hereS_of {n : Nat} {N ps : List Str} {qual : Str} {scope : Scope} {f : Addr} {cdv : Value} {A : Around} {outer : List Env} {s : Shared} {H : Hp} {E : XK} (S : FnScope N ps scope) (hr : Room n (A.deeper (envOfC qual scope s.heap.objs.size f cdv))) (hg : A.guards = some []) (blt : ∀ x ∈ bltNames, mg x = none)
    (st : Stat (cxOf (L2.CX P w) P w K mg base N qual scope f cdv A outer s H E) F C xr n) :
    HereS (cxOf (L2.CX P w) P w K mg base N qual scope f cdv A outer s H E) F N scope (fun _ => true) C xr n (fun cls dd _ H' => E cls dd H') :=
  ⟨⟨site_of hr hg blt, st, hr, rfl, S.nd, takes_of rfl rfl rfl rfl⟩, rfl, passes_of rfl⟩
def noF : FT := fun _ => none
def noC : Cfg := ⟨fun _ _ _ _ => False, fun _ => none⟩
def noX : XRep := fun _ _ _ _ _ => False
theorem noStat {X : Cx} : Stat X noF noC noX 0 := ⟨fun x d h => (nomatch (show (none : Option D) = some d from h)), fun _ _ _ _ _ _ _ h => h.elim, fun f nm np h => (nomatch (show (none : Option (Str × Nat)) = some (nm, np) from h)), fun f nm np h => (nomatch (show (none : Option (Str × Nat)) = some (nm, np) from h))⟩
theorem noG_ok : noG.Ok := ⟨.inl rfl, fun _ z => z.elim, fun _ z => z.elim, fun _ _ _ z => z.elim, fun _ _ _ _ => trivial, fun _ _ _ _ _ z => z.elim, fun _ _ _ z => z.elim⟩
theorem later_noG {H H' : Hp} {H0 : Hp} {O0 : Addr → Prop} (l : Later { noG with H0 := H0, O0 := O0 } H H') : Same H H' := fun b u e => l.same b u e fun z => z
theorem reps_ints {H : Hp} {O : Addr → Prop} : ∀ {ns : List Int} {vs : List V}, Reps K H O vs (ns.map PyData.int) → vs = ns.map V.int
  | [], _, h => by cases h; rfl
  | n :: ns, _, h => by
    cases h with
    | cons h1 h2 => cases h1; rw [reps_ints h2]; rfl
theorem fmod_r {i j : Int} (h : 0 < j) : 0 ≤ i.fmod j ∧ i.fmod j < j := ⟨Int.fmod_nonneg_of_pos i h, Int.fmod_lt_of_pos i h⟩
theorem at_in {ns : List Int} (h : ns ≠ []) (k : Int) : ∃ n j, atI ns (k.fmod ns.length) = some n ∧ ixN ns.length (k.fmod ns.length) = some j := by
  have hl : 0 < ns.length := List.length_pos_iff.mpr h
  have h := fmod_r (i := k) (j := (ns.length : Nat)) (by omega)
  have e : ixN ns.length (k.fmod ns.length) = some (k.fmod ns.length).toNat := by
    unfold ixN
    rw [if_pos h.1, if_pos h.2]
  have hj : (k.fmod ns.length).toNat < ns.length := by omega
  exact ⟨ns[(k.fmod ns.length).toNat], _, by unfold atI; rw [e]; simp [hj], e⟩
theorem map_set (ns : List Int) (j : Nat) (c : Int) : (ns.map V.int).set j (.int c) = (ns.set j c).map V.int := by
  rw [List.map_set]
theorem shapedI (ns : List Int) : SeqAt.shaped (.list (ns.map PyData.int)) = true := by
  have h1 : PyData.canLayAll0 (ns.map PyData.int) = true := by
    induction ns with
    | nil => rfl
    | cons n ns ih => simp [PyData.canLayAll0, PyData.canLay0, ih]
  have h2 : PyData.depthAll (ns.map PyData.int) ≤ 1 := by
    induction ns with
    | nil => simp [PyData.depthAll]
    | cons n ns ih => 
      simp only [List.map_cons, PyData.depthAll, PyData.depth]
      have := ih (by simpa [PyData.canLayAll0, PyData.canLay0] using h1)
      omega
  have h3 : PyData.depth (.list (ns.map PyData.int)) ≤ 64 := by
    simp only [PyData.depth]; omega
  simp [SeqAt.shaped, PyData.canLay0, h1, h3]
theorem eqvNil (ns : List Int) : PyData.eqv (.list (ns.map PyData.int)) (.list []) = ns.isEmpty := by
  cases ns <;> simp [PyData.eqv, PyData.eqvAll]
theorem ie_op {σ : L2.St} {H : Hp} {o : Op2} {a b : IE} {i j r : Int} (h1 : ieV σ H a = some i) (h2 : ieV σ H b = some j) (h3 : sem2 o (.int i) (.int j) = some (.int r)) : ieV σ H (.op o a b) = some r := by
  simp only [ieV, h1, h2, h3]
theorem s_add (i j : Int) : sem2 .add (.int i) (.int j) = some (.int (i + j)) := rfl
theorem s_mod {i j : Int} (h : j ≠ 0) : sem2 .mod (.int i) (.int j) = some (.int (i.fmod j)) := by simp only [sem2, if_pos h]
theorem s_fdiv {i j : Int} (h : 0 < j) (h2 : j < 1073741824) : sem2 .fdiv (.int i) (.int j) = some (.int (i.fdiv j)) := by simp only [sem2]; rw [if_pos (by omega)]
theorem s_mulL {i j : Int} (h : -(2 ^ 64) < i ∧ i < 2 ^ 64) : sem2 .mul (.int i) (.int j) = some (.int (i * j)) := by simp only [sem2]; rw [if_pos (.inl h)]
theorem s_mulR {i j : Int} (h : -(2 ^ 64) < j ∧ j < 2 ^ 64) : sem2 .mul (.int i) (.int j) = some (.int (i * j)) := by simp only [sem2]; rw [if_pos (.inr h)]
theorem shapedS {x : Str} (h : PyData.strOk x = true) : SeqAt.shaped (.str x) = true := by
  simp [SeqAt.shaped, PyData.canLay0, h, PyData.depth]
theorem allShapedS {ws : List Str} (h : ∀ x ∈ ws, PyData.strOk x = true) : allShaped (ws.map PyData.str) = true := by
  simp only [allShaped, List.all_map, List.all_eq_true]
  exact fun x hx => shapedS (h x hx)
theorem reps_strs {H : Hp} {O : Addr → Prop} : ∀ {ws : List Str}, (∀ x ∈ ws, x.length ≤ sizeLine) → Reps K H O (ws.map V.str) (ws.map PyData.str)
  | [], _ => .nil
  | x :: ws, h => .cons (.str x (h x (by simp))) (reps_strs fun y hy => h y (by simp [hy]))
end
end Tk
/-! G2: statements by hand among those of the core. -/
namespace Tk
open PySem PySem.Spec PyProof.Rows L2
/-- a statement that means S -/
def tG (K : PySem.W.Frag) (xr : XRep) (W : WX) (S : Dl → En → Prop) : TS := fun B σ H => ∃ Γ δ O E, Fr K Γ δ σ H O ∧ S δ E ∧ EnOk K xr W Γ H O B E
def seqG (S1 S2 : Dl → En → Prop) : Dl → En → Prop := fun δ E => S1 δ { E with nx := fun δ' => S2 δ' E }
def forG (C : Cfg) (t : Tg) (it : CE) (S : Dl → En → Prop) : Dl → En → Prop := fun δ E => evI C false it δ (fun xs => loopS (fun y δ' E' => bindT t y δ' fun δ1 => S δ1 E') xs δ E) fun x => E.xc x δ
section
variable {X : Cx} {F : FT} {N : List Str} {sc : Scope} {fn : Str → Bool} {C : Cfg} {xr : XRep} {n : Nat} {W : WX}
theorem gS (h : HereS X F N sc fn C xr n W) (c : CS) (st : Stmt) (hc : chkS F N sc fn c st = true) : PS X st (tG X.K xr W (ex C c)) := sS h c st hc
theorem gSs (h : HereS X F N sc fn C xr n W) (c : CS) (sts : List Stmt) (hc : chkSs F N sc fn c sts = true) : PSs X sts (tG X.K xr W (ex C c)) := sSs h c sts hc
theorem gCons {st : Stmt} {sts : List Stmt} {S1 S2 : Dl → En → Prop} (h1 : PS X st (tG X.K xr W S1)) (h2 : PSs X sts (tG X.K xr W S2)) : PSs X (st :: sts) (tG X.K xr W (seqG S1 S2)) := by
  refine PSs.imp (pss_cons h1 h2) fun B σ H ⟨Γ, δ, O, E, fr, hev, en⟩ => ?_
  exact ⟨Γ, δ, O, _, fr, hev, ⟨fun δ' σ' H' O' hk f' x' => ⟨Γ, δ', O', E, f', hk, en.ext x'⟩, en.rt, en.bk, en.ct, en.xc⟩⟩
theorem gOne {st : Stmt} {S1 : Dl → En → Prop} (h1 : PS X st (tG X.K xr W S1)) : PSs X [st] (tG X.K xr W S1) := pss_one h1
theorem gFor (h : HereS X F N sc fn C xr n W) {t : Tg} {it : CE} {tg ie : Expr} {body : List Stmt} {p : Pos} {S : Dl → En → Prop} (h2 : notSet ie = true) (h3 : chkI F N it sc tg ie = true) (h4 : chkT N sc fn t tg = true) (hb : PSs X body (tG X.K xr W S)) :
    PS X (.For tg ie body [] p) (tG X.K xr W (forG C t it S)) := by
  have hh := h.toHere
  refine PS.imp (ps_for (pos := p) h.po hh.site.calm (sI hh false it tg ie h3) (sTg hh.hN hh.nd hh.site.sc h.fn hh.site.calm t tg h4) hb (fun y => by cases ie <;> first | rfl | (simp [notSet] at h2))) fun B σ H ⟨Γ, δ, O, E, fr, hev, en⟩ => ?_
  refine ⟨Γ, δ, O, _, _, fr, hev, fun xs J H1 hk l wk => ?_, en.x fr⟩
  obtain ⟨G, Y, w, hw⟩ := wk
  have f1 := fr.later l
  refine for_it w (fun i σ' H' => ∃ δ' O', Fr X.K Γ δ' σ' H' O' ∧ loopS (fun y δ' E' => bindT t y δ' fun δ1 => S δ1 E') (xs.drop i) δ' E ∧ Ext H1 H' O O') ⟨δ, O, f1, hk, .refl⟩ ?_ ?_ ?_
  · rintro i σ' H' _ ⟨δ', O', f', _, x'⟩
    exact (hw H' O' x' (fun z => by cases z) f'.otr).1
  · rintro i y σ' H' H2 hi ⟨δ', O', f', hl, x'⟩ hy
    obtain ⟨s2, d, ed, rd⟩ := (hw H' O' x' (fun z => by cases z) f'.otr).2 i y H2 hi hy
    have hdrop : xs.drop i = d :: xs.drop (i + 1) := by
      obtain ⟨h', e'⟩ := List.getElem?_eq_some_iff.mp ed
      rw [List.drop_eq_getElem_cons h', e']
    rw [hdrop] at hl
    simp only [loopS] at hl
    have l2 : Later Γ H' H2 := Later.of_same f'.gh f'.w s2
    have f2 := f'.later l2
    have x2 : Ext H1 H2 O O' := x'.trans (f'.ext l2)
    refine ⟨Γ, δ', O', d, _, f2, hl, rd, fun δ3 σ3 hk3 f3 _ => ⟨Γ, δ3, O', _, f3, hk3, ?_⟩⟩
    refine ⟨fun δ4 σ4 H4 O4 hk4 f4 x4 => ⟨δ4, O4, f4, hk4, x2.trans x4⟩, en.rt, fun δ4 σ4 H4 O4 hk4 f4 x4 => en.nx δ4 σ4 H4 O4 hk4 f4 ((fr.ext l).trans (x2.trans x4)), fun δ4 σ4 H4 O4 hk4 f4 x4 => ⟨δ4, O4, f4, hk4, x2.trans x4⟩, en.xc⟩
  · rintro σ' H' ⟨δ', O', f', hl, x'⟩
    have : xs.drop xs.length = [] := by simp
    rw [this] at hl
    simp only [loopS] at hl
    exact en.nx δ' σ' H' O' hl f' ((fr.ext l).trans x')
/-- a call of a def whose promise is sp -/
theorem pe_callG {a : Addr} {fd : FuncData} {ps : List Str} {sp : Sp} {x : Str} {e : Expr} {es : List Expr} {t : TA} {p pos : Pos} (h : Here X F N sc C xr n W) (m1 : X.mg x = some (.ref a)) (m2 : PySem.W.keepIn X.K (.ref a) = true) (m4 : Binds X.K fd ps [])
    (m5 : FnG X.prog X.w X.K X.mg X.base n a fd ps sp) (hg : gl sc x = true) (hp : plainName x = true) (hs : notStars (e :: es) = true) (ha : PA X (e :: es) t) :
    PE X (.Call (.Name x p) (e :: es) [] pos) (fun σ H Q => t σ H fun vs H1 => sp vs H1 Q fun cls dd H' => W cls dd σ H') := by
  have hdb : (x == ("__debug__" : Str)) = false := by
    simp only [plainName, Bool.and_eq_true, Bool.not_eq_true'] at hp
    exact hp.1
  refine ⟨fun pins s σ H Q I q => ?_⟩
  refine wpAny_Call_Name_kw (ld_glob I (h.site.gl hg) m1 ?_ hdb)
  simp only [notStars, List.all_cons, Bool.and_eq_true] at hs
  refine PySem.W.callWith_K (h₀ := X.base) I.ok.mod.kin m2 (thn (ha.run pos pins s σ H _ I q) fun us s1 ⟨vs, H1, I1, r, q⟩ => ⟨I1.kIn, ?_⟩) (star_cons hs.1) (stars_any hs.2)
  exact run_fnG m5 h.room h.site.guards m4 h.tk I1 r q
end
/-- a slot of which nothing is known from now on -/
theorem Fr.forget {K : PySem.W.Frag} {Γ : Gh} {δ : Dl} {σ : L2.St} {H : Hp} {O : Addr → Prop} (f : Fr K Γ δ σ H O) (i : Nat) (v : Option V) : Fr K Γ (δ.set i none) (σ.set i v) H O where
  gh := f.gh
  len := by simp [f.len]
  same := f.same
  sub := f.sub
  otr := f.otr
  w := f.w
  slot := fun j s h => by
    by_cases e : i = j
    · subst e
      rw [List.getElem?_set] at h
      simp only [if_true] at h
      split at h <;> cases h
    · rw [List.getElem?_set_ne e] at h ⊢
      exact f.slot j s h
  dist := fun j k a ds es h1 h2 h3 h4 => by
    have g : ∀ {m : Nat} {es : List D}, (δ.set i none)[m]? = some (some (.own es)) → i ≠ m := fun {m es} h e => by
      subst e
      rw [List.getElem?_set] at h
      simp only [if_true] at h
      split at h <;> cases h
    have g1 := g h1
    have g2 := g h2
    rw [List.getElem?_set_ne g1] at h1 h3
    rw [List.getElem?_set_ne g2] at h2 h4
    exact f.dist j k a ds es h1 h2 h3 h4
structure ShowOk (d : D) : Prop where
  sh : d.showable = true
  di : d.hasDict = false
  de : d.depth ≤ 100
  le : d.shown.length ≤ sizeLine
theorem ShowOk.sem {d : D} (h : ShowOk d) : sem1 .repr d = some (.str d.shown) := by
  simp only [sem1]
  rw [if_pos ⟨h.sh, h.di, h.de, h.le⟩]
end Tk
/-! G3: the end: a law's promise (where no repr is under way) at the heap behind the top. After the library's law_call, walk_ofE. -/
namespace Tk
open PySem PySem.Spec PyProof.Rows L2
theorem law_callG {P : Program} {w : World} {K : PySem.W.Frag} {mg mb : Str → Option Value} {k : Nat} {fa a : Addr} {fd : FuncData} {x : Str} {sp : Sp} {s₁ : Shared} {vs : List Value} {ns : List Int}
    (KX : K.In s₁.heap) (hns : s₁.heap.Ns mainGlobals mg) (hb : s₁.heap.Ns builtinsNs mb) (hbb : ∀ x : Str, x ≠ "__name__" → mb x = bootBuiltins x) (hlim : s₁.heap.NoLimit) (hg : s₁.gens = #[])
    (ha : s₁.heap.get? a = some { cls := .type "list", data := .seq vs.toArray }) (hi : IntsAre vs ns) (hl : ns.length ≤ sizeLine) (hr : Room k callerA)
    (F : ∀ base : Heap, FnG P w K mg base k fa fd [x] sp) (hbind : ∀ (s : Shared) (u : Value), BindsTo s fd ⟨[u], []⟩ [(x, u)])
    (hsp : ∀ H : Hp, Only H → SqL K H a (ns.map V.int) → sp [.ref a] H (fun v _ => v = .bl true) fun _ _ _ => False)
    (hCX : ∀ H e s', L2.CX P w [] H s₁ (fun _ _ _ => False) e s' → False) :
    codeAny (model P w) callerA (.call (.ref fa) ⟨[.ref a], []⟩) (fun r s' => r = .ok (.ret (.bool true)) ∧ OldK s₁.heap s'.heap ∧ s'.os = s₁.os ∧ AllBare s'.gens) s₁ := by
  have rv := vals_ints hi
  have core : ∀ H : Hp, Only H → SqL K H a (ns.map V.int) → HOk P w H s₁.heap → (∀ b, H b ≠ none → b = a) → (H a ≠ none → K.lookup a = none) →
      codeAny (model P w) callerA (.call (.ref fa) ⟨[.ref a], []⟩) (fun r s' => r = .ok (.ret (.bool true)) ∧ OldK s₁.heap s'.heap ∧ s'.os = s₁.os ∧ AllBare s'.gens) s₁ := by
    intro H hO hS hok hA hK
    have at_a : ∀ {b : Addr} {u : HO}, H b = some u → b = a := fun {b u} q => hA b (by rw [q]; simp)
    have nsK : ∀ {b : Addr} {m : Str → Option Value}, s₁.heap.Ns b m → (hidT s₁.heap H).Ns b m := by
      rintro b m ⟨o, es, ep, e, d, r⟩
      refine ⟨o, es, ep, hidT_get e ?_, d, r⟩
      cases q : H b with
      | none => rfl
      | some u =>
        obtain rfl := at_a q
        rw [ha] at e; cases e
        have d' : Data.seq vs.toArray _ = Data.dict es ep := d
        cases d'
    have hKb : K.In (hidT s₁.heap H) := fun b o e => hidT_get (KX b o e) (by
      cases q : H b with
      | none => rfl
      | some u =>
        obtain rfl := at_a q
        rw [hK (by rw [q]; simp)] at e; cases e)
    obtain ⟨mc, c1, c2⟩ := hlim
    have e0 : Env0 P w K mg (hidT s₁.heap H) callerA [] s₁ H := ⟨rfl, ⟨hKb, nsK hns, ⟨mb, nsK hb, hbb⟩, mc, nsK c1, c2⟩, fun b o e => of_hidT e, Nat.le_of_eq (hidT_size _ _), trivial, fun b hb => absurd (show b ∈ ([] : List Addr) from hb) (by simp), hok, .of_eq hg⟩
    refine codeAny_mono ((F _).run callerA [] s₁ H ⟨[.ref a], []⟩ [.ref a] [.ref a] _ _ hr rfl e0 (hbind s₁ (.ref a)) (.cons rfl .nil) (hsp H hO hS)) fun r s' h => ?_
    cases r with
    | error e => exact (hCX H e s' h).elim
    | ok fl =>
      cases fl with
      | ret u =>
        obtain ⟨v, H', os, bare, un, hok', r', q⟩ := h
        have q' : v = .bl true := q
        subst q'
        obtain rfl : u = Value.bool true := r'
        refine ⟨rfl, OldK.of_keep fun b o e => ?_, os, bare⟩
        rcases hO b with z | ⟨ob, xs, z⟩
        · exact un.keep b o e z (fun z => absurd (show b ∈ ([] : List Addr) from z) (by simp)) (by simp)
        · obtain ⟨e1, _⟩ := hok b _ z
          obtain ⟨e2, _⟩ := hok' b _ (un.frzs b ob _ z)
          rw [e] at e1; cases e1
          exact e2
      | _ => exact False.elim h
  cases hk : K.lookup a with
  | some o =>
    have e := KX a o hk
    rw [ha] at e
    cases e
    exact core (fun _ => none) (fun _ => .inl rfl) (.inr ⟨_, vs.toArray, _, hk, rfl, rfl, rfl, by rw [List.size_toArray, hi.length]; exact hl, by simpa using rv⟩) (fun b u z => (nomatch (show (none : Option HO) = some u from z))) (fun b z => absurd rfl z) fun z => absurd rfl z
  | none =>
    refine core (upd (fun _ => none) a (.frz { cls := .type "list", data := .seq vs.toArray } (.lst (ns.map V.int)))) (fun b => ?_) (.inl (.inr ⟨_, upd_same⟩)) (fun b u z => ?_) (fun b z => ?_) fun _ => hk
    · by_cases hb : b = a
      · rw [hb]; exact .inr ⟨_, _, upd_same⟩
      · exact .inl (upd_ne hb)
    · by_cases hb : b = a
      · subst hb
        rw [upd_same] at z
        cases z
        exact ⟨ha, by rw [List.length_map]; exact hl, vs, _, rv, ha⟩
      · rw [upd_ne hb] at z; cases z
    · by_cases hb : b = a
      · exact hb
      · exact absurd (upd_ne hb) z
theorem walk_ofG {l : PySem.W.OpenLaw} {n k : Nat} {q : Program} {loose : List Str} {XP : (Str → Option Value) → Heap → Prop} {YP : World → Heap → Prop} {d : DefRec} {x : Str}
    (hn : l.most = some n) (hn2 : n ≤ sizeLine) (hdf : d.params.defaults = []) (hr : Room k callerA)
    (F : ∀ (w : World) (mg : Str → Option Value) (fa : Addr) (h : Heap), YP w h → h.Ns mainGlobals mg → mg d.name = some (.ref fa) →
      ∃ (K : PySem.W.Frag) (fd : FuncData) (sp : Sp), K.In h ∧ (∀ (s : Shared) (u : Value), BindsTo s fd ⟨[u], []⟩ [(x, u)]) ∧
        (∀ (H : Hp) (a : Addr) (ns : List Int), ns.length ≤ n → Only H → SqL K H a (ns.map V.int) → sp [.ref a] H (fun v _ => v = .bl true) fun _ _ _ => False) ∧
        ∀ base : Heap, FnG l.prog w K mg base k fa fd [x] sp) :
    PySem.W.WalkO q loose XP YP l.row.toRowW d [] (fun f vs => PySem.call f vs) := by
  refine Att.attach_call hn hdf fun w s₀ s₁ mg mb fa o pm cd doc a vs ns G Y ho hd hcd hmg hobj hints hlen hg => ?_
  obtain ⟨K, fd, sp, KX, hb, hsp, hF⟩ := F w mg fa _ Y G.T.g hmg
  exact law_callG KX G.T.g G.T.b G.T.builtins G.T.nolimit hg hobj hints (Nat.le_trans hlen hn2) hr hF hb (fun H hO hS => hsp H a ns hlen hO hS) fun H e s' ⟨_, _, _, _, _, _, _, _, _, _, _, _, z⟩ => z
end Tk
/-! P0: helpers for plain laws: loops, comprehensions, what may be shown. -/
namespace Tk
open PySem PySem.Spec PyProof.Rows L2
theorem ite2 {c : Prop} [Decidable c] {p q : Prop} (h1 : c → p) (h2 : ¬ c → q) : if c then p else q := by
  by_cases h : c
  · rw [if_pos h]; exact h1 h
  · rw [if_neg h]; exact h2 h
/-- a comprehension by a function -/
theorem loop_fm {bd : D → List D → (List D → Prop) → Prop} (g : D → Option D) : ∀ (xs acc : List D) (k : List D → Prop), acc.length + xs.length ≤ sizeLine →
    (∀ y ∈ xs, ∀ (acc : List D) (k' : List D → Prop), acc.length < sizeLine → (∀ d, g y = some d → k' (acc ++ [d])) → (g y = none → k' acc) → bd y acc k') → k (acc ++ xs.filterMap g) → loopC bd xs acc k
  | [], acc, k, _, _, hk => by simpa [loopC] using hk
  | y :: xs, acc, k, hl, h, hk => by
    simp only [List.length_cons] at hl
    simp only [loopC]
    refine h y (by simp) acc _ (by omega) (fun d e => ?_) fun e => ?_
    · refine loop_fm g xs _ k (by simp; omega) (fun z hz => h z (by simp [hz])) ?_
      rw [List.filterMap_cons, e] at hk
      simpa using hk
    · refine loop_fm g xs _ k (by omega) (fun z hz => h z (by simp [hz])) ?_
      rw [List.filterMap_cons, e] at hk
      exact hk
/-- a comprehension of drawn things -/
theorem loop_nd {bd : D → List D → (List D → Prop) → Prop} (P : D → Prop) : ∀ (xs acc : List D) (k : List D → Prop), acc.length + xs.length ≤ sizeLine →
    (∀ y ∈ xs, ∀ (acc : List D) (k' : List D → Prop), acc.length < sizeLine → (∀ d, P d → k' (acc ++ [d])) → bd y acc k') → (∀ ds, ds.length = xs.length → (∀ d ∈ ds, P d) → k (acc ++ ds)) → loopC bd xs acc k
  | [], acc, k, _, _, hk => by simpa [loopC] using hk [] rfl (by simp)
  | y :: xs, acc, k, hl, h, hk => by
    simp only [List.length_cons] at hl
    simp only [loopC]
    refine h y (by simp) acc _ (by omega) fun d e => ?_
    refine loop_nd P xs _ k (by simp; omega) (fun z hz => h z (by simp [hz])) fun ds hd hp => ?_
    have := hk (d :: ds) (by simp [hd]) (fun z hz => (List.mem_cons.mp hz).elim (fun q => q ▸ e) (hp z))
    simpa using this
/-- a loop by an invariant -/
theorem loopS_inv {bd : D → Dl → En → Prop} {E : En} (I : List D → Dl → Prop) : ∀ (xs : List D) (δ : Dl), I xs δ →
    (∀ y ys δ, I (y :: ys) δ → y ∈ xs → ∀ E' : En, (∀ δ', I ys δ' → E'.nx δ') → (∀ δ', I ys δ' → E'.ct δ') → E'.rt = E.rt → E'.bk = E.nx → E'.xc = E.xc → bd y δ E') → (∀ δ, I [] δ → E.nx δ) → loopS bd xs δ E
  | [], δ, h0, _, he => he δ h0
  | y :: xs, δ, h0, hs, he => by
    simp only [loopS]
    refine hs y xs δ h0 (by simp) _ (fun δ' h' => ?_) (fun δ' h' => ?_) rfl rfl rfl
    · exact loopS_inv I xs δ' h' (fun z zs δ hz hm => hs z zs δ hz (by simp [hm])) he
    · exact loopS_inv I xs δ' h' (fun z zs δ hz hm => hs z zs δ hz (by simp [hm])) he
theorem intsD_map (is : List Int) : intsD (is.map .int) = some is := by
  induction is with
  | nil => rfl
  | cons y ys ih => simp [intsD, ih]
theorem boolsD_map (is : List Bool) : boolsD (is.map .bool) = some is := by
  induction is with
  | nil => rfl
  | cons y ys ih => simp [boolsD, ih]
theorem strsD_map (ys : List Str) : strsD (ys.map .str) = some ys := by
  induction ys with
  | nil => rfl
  | cons y ys ih => simp [strsD, ih]
theorem show_of {d : D} (h1 : d.canLay0 = true) (h2 : d.depth ≤ 64) (h3 : d.weight ≤ 2 ^ 20) (h4 : d.intsShort 13 = true) (h5 : d.showable = true) : ShowOk d := by
  have lay : PyData.layable0 d = true := by
    unfold PyData.layable0
    rw [h1, decide_eq_true h2, decide_eq_true h3]; rfl
  refine ⟨h5, PyData.hasDict_of_canLay d h1, by omega, ?_⟩
  have := shown_le13 lay h4
  rw [sizeLine_eq]; omega
theorem small_int : ∀ i : Nat, i < 1024 → PyData.intsShort 13 (.int (i : Nat)) = true ∧ PyData.showable (.int (i : Nat)) = true ∧ PyData.weight (.int (i : Nat)) ≤ 11 := by decide +kernel
theorem show_two {a b : Nat} (ha : a < 1024) (hb : b < 1024) : ShowOk (.tuple [.int (a : Nat), .int (b : Nat)]) := by
  obtain ⟨a1, a2, a3⟩ := small_int a ha
  obtain ⟨b1, b2, b3⟩ := small_int b hb
  refine show_of (by simp [PyData.canLay0, PyData.canLayAll0]) (by simp [PyData.depth, PyData.depthAll]) ?_ ?_ ?_
  · simp only [PyData.weight, PyData.weightAll] at a3 b3 ⊢
    have : (2 : Nat) ^ 20 = 1048576 := by decide
    omega
  · simp only [PyData.intsShort, PyData.intsShortAll, Bool.and_true, Bool.and_eq_true] at a1 b1 ⊢
    exact ⟨a1, b1⟩
  · simp only [PyData.showable, PyData.showableAll, Bool.and_true, Bool.and_eq_true] at a2 b2 ⊢
    exact ⟨a2, b2⟩
theorem sort_mem {xs : List D} {x : D} : x ∈ sortD xs ↔ x ∈ xs := (List.mergeSort_perm xs _).mem_iff
theorem sort_len {xs : List D} : (sortD xs).length = xs.length := (List.mergeSort_perm xs _).length_eq
theorem range_len (n : Nat) : (rangeD 0 (n : Nat)).length = n := by simp [rangeD]
theorem at_nat {α : Type} {xs : List α} {i : Int} (h0 : 0 ≤ i) (h1 : i < xs.length) : ∃ d, atI xs i = some d ∧ d ∈ xs := by
  have e : ixN xs.length i = some i.toNat := by
    unfold ixN
    rw [if_pos h0, if_pos h1]
  have hj : i.toNat < xs.length := by omega
  exact ⟨xs[i.toNat], by unfold atI; rw [e]; simp [hj], by simp⟩
theorem ex_seq {C : Cfg} {a b : CS} {δ : Dl} {E : En} (h : ∀ E' : En, E'.rt = E.rt → E'.bk = E.bk → E'.ct = E.ct → E'.xc = E.xc → (∀ δ', ex C b δ' E → E'.nx δ') → ex C a δ E') : ex C (.seq a b) δ E :=
  h { E with nx := fun δ' => ex C b δ' E } rfl rfl rfl rfl fun _ h => h
theorem ex_ite {C : Cfg} {c : CE} {a b : CS} {δ : Dl} {E : En} (h : ∀ p : Bool → Prop, (ex C a δ E → p true) → (ex C b δ E → p false) → evT C c δ p (fun x => E.xc x δ)) : ex C (.ite c a b) δ E := by
  simp only [ex]
  exact h (fun z => if z = true then ex C a δ E else ex C b δ E) (fun h => by simpa using h) fun h => by simpa using h
theorem ex_for {C : Cfg} {t : Tg} {it : CE} {b : CS} {δ : Dl} {E : En} (h : ∀ L : List D → Prop, (∀ xs, loopS (fun y δ' E' => bindT t y δ' fun δ1 => ex C b δ1 E') xs δ E → L xs) → evI C false it δ L (fun x => E.xc x δ)) : ex C (.for_ t it b) δ E := by
  simp only [ex]
  exact h _ fun _ h => h
theorem if_ite {p : Bool → Prop} {A B : Prop} {z : Bool} (h1 : A → p true) (h2 : B → p false) (h : if z = true then A else B) : p z := by
  cases z
  · exact h2 (by simpa using h)
  · exact h1 (by simpa using h)
theorem call_code {T : List Ent} {G : Str → Option D} {n f : Nat} {d : Def} {ss : List Slot} {k : Slot → Prop} {x : KX} (e : T[f]? = some (.code d)) (hl : ss.length = d.ps.length) (h : ex ⟨callW T G n, G⟩ d.body (startD d.N.length ss) (enD k x)) : callW T G (n + 1) f ss k x := by
  unfold callW
  rw [e]
  exact ⟨hl, h⟩
/-! the operations, one by one -/
theorem q_addI {i j : Int} : sem2 .add (.int i) (.int j) = some (.int (i + j)) := rfl
theorem q_addS {i j : Str} : sem2 .add (.str i) (.str j) = if i.length + j.length ≤ sizeLine then some (.str (i ++ j)) else none := rfl
theorem q_addL {i j : List D} : sem2 .add (.list i) (.list j) = if i.length + j.length ≤ sizeLine then some (.list (i ++ j)) else none := rfl
theorem q_addT {i j : List D} : sem2 .add (.tuple i) (.tuple j) = if i.length + j.length ≤ sizeLine then some (.tuple (i ++ j)) else none := rfl
theorem q_sub {i j : Int} : sem2 .sub (.int i) (.int j) = some (.int (i - j)) := rfl
theorem q_ltI {i j : Int} : sem2 .lt (.int i) (.int j) = some (.bool (decide (i < j))) := rfl
theorem q_leI {i j : Int} : sem2 .le (.int i) (.int j) = some (.bool (decide (i ≤ j))) := rfl
theorem q_gtI {i j : Int} : sem2 .gt (.int i) (.int j) = some (.bool (decide (j < i))) := rfl
theorem q_geI {i j : Int} : sem2 .ge (.int i) (.int j) = some (.bool (decide (j ≤ i))) := rfl
theorem q_ltS {i j : Str} : sem2 .lt (.str i) (.str j) = some (.bool (ltS i j)) := rfl
theorem q_eqI {i j : Int} : sem2 .eq (.int i) (.int j) = some (.bool (decide (i = j))) := by
  have h : ∀ k : Int, SeqAt.shaped (.int k) = true := fun k => by simp [SeqAt.shaped, PyData.canLay0, PyData.depth]
  simp only [sem2, h, and_self, or_true, if_true, PyData.eqv, Option.some.injEq, PyData.bool.injEq]
  first | rfl | (simp [PyData.eqv]; done) | (exact beq_eq_decide i j)
theorem q_neI {i j : Int} : sem2 .ne (.int i) (.int j) = some (.bool (!decide (i = j))) := by
  have h : ∀ k : Int, SeqAt.shaped (.int k) = true := fun k => by simp [SeqAt.shaped, PyData.canLay0, PyData.depth]
  simp only [sem2, h, and_self, or_true, if_true, PyData.eqv, Option.some.injEq, PyData.bool.injEq]
  first | rfl | (simp [PyData.eqv]; done) | (congr 1; exact beq_eq_decide i j)
theorem q_ixL {xs : List D} {i : Int} : sem2 .ix (.list xs) (.int i) = atI xs i := rfl
theorem q_ixT {xs : List D} {i : Int} : sem2 .ix (.tuple xs) (.int i) = atI xs i := rfl
theorem q_max2 {i j : Int} : sem2 .max2 (.int i) (.int j) = some (.int (if j > i then j else i)) := rfl
theorem q_min2 {i j : Int} : sem2 .min2 (.int i) (.int j) = some (.int (if j < i then j else i)) := rfl
theorem q_lenL {xs : List D} : sem1 .len (.list xs) = some (.int (xs.length : Nat)) := rfl
theorem q_lenT {xs : List D} : sem1 .len (.tuple xs) = some (.int (xs.length : Nat)) := rfl
theorem q_lenS {x : Str} : sem1 .len (.str x) = some (.int (x.length : Nat)) := rfl
theorem q_tupL {xs : List D} : sem1 .tuple (.list xs) = some (.tuple xs) := rfl
theorem q_tupT {xs : List D} : sem1 .tuple (.tuple xs) = some (.tuple xs) := rfl
theorem q_lstT {xs : List D} : sem1 .list (.tuple xs) = some (.list xs) := rfl
theorem q_lstL {xs : List D} : sem1 .list (.list xs) = some (.list xs) := rfl
theorem q_revT {xs : List D} : sem1 .rev (.tuple xs) = some (.tuple xs.reverse) := rfl
theorem q_revL {xs : List D} : sem1 .rev (.list xs) = some (.list xs.reverse) := rfl
theorem q_notV {b : Bool} : sem1 .notV (.bool b) = some (.bool (!b)) := rfl
theorem q_intB {b : Bool} : sem1 .int (.bool b) = some (.int (if b then 1 else 0)) := rfl
theorem q_isN {d : D} : sem1 .isN d = some (.bool (isNoneD d)) := rfl
theorem q_notN {d : D} : sem1 .notN d = some (.bool (!isNoneD d)) := rfl
theorem q_slT {xs : List D} {l h : Option Int} : semSl (.tuple xs) l h = some (.tuple (cutD xs l h)) := rfl
theorem q_slL {xs : List D} {l h : Option Int} : semSl (.list xs) l h = some (.list (cutD xs l h)) := rfl
theorem at_0 {α : Type} {x : α} {xs : List α} : atI (x :: xs) 0 = some x := by
  have e : ixN (x :: xs).length 0 = some 0 := by
    unfold ixN
    rw [if_pos (by decide), if_pos (by simp <;> omega)]; rfl
  unfold atI; rw [e]; rfl
theorem at_1 {α : Type} {x y : α} {xs : List α} : atI (x :: y :: xs) 1 = some y := by
  have e : ixN (x :: y :: xs).length 1 = some 1 := by
    unfold ixN
    rw [if_pos (by decide), if_pos (by simp <;> omega)]; rfl
  unfold atI; rw [e]; rfl
theorem at_2 {α : Type} {x y z : α} {xs : List α} : atI (x :: y :: z :: xs) 2 = some z := by
  have e : ixN (x :: y :: z :: xs).length 2 = some 2 := by
    unfold ixN
    rw [if_pos (by decide), if_pos (by simp <;> omega)]; rfl
  unfold atI; rw [e]; rfl
theorem at_3 {α : Type} {x y z u : α} {xs : List α} : atI (x :: y :: z :: u :: xs) 3 = some u := by
  have e : ixN (x :: y :: z :: u :: xs).length 3 = some 3 := by
    unfold ixN
    rw [if_pos (by decide), if_pos (by simp <;> omega)]; rfl
  unfold atI; rw [e]; rfl
theorem ex_ret {p : D → Prop} {d : D} {o : Option D} (e : o = some d) (h : p d) : ∃ r, o = some r ∧ p r := ⟨d, e, h⟩
end Tk
/-! K1: the table of k15. -/
namespace Tk
open PySem PySem.Spec PyProof.Rows L2
def top (i : Nat) : Stmt := PySem.Challenge.pw_tiekeep_k15_how_deep_and_how_heavy.main.body.getD i (.Pass ⟨0, 0, 0, 0⟩)
def i_ (i : Int) : CE := .const (.int i)
def s_ (x : Str) : CE := .const (.str x)
def args : List CE → CE
  | [] => .nil
  | a :: r => .cons a (args r)
def sq : List CS → CS
  | [] => .nop
  | a :: r => .seq a (sq r)
def semDraw (ss : List Slot) (k : Slot → Prop) (_ : KX) : Prop := ∃ many : Int, ss = [.st, .val (.int many)] ∧ 0 < many ∧ many < 1073741824 ∧ ∀ r, 0 ≤ r → r < many → k (.val (.int r))
def pool : List Str := ["a", "b", "ab", "some", "no", "one", "all", "tie", "row", "put", "keep", "world", "sort", "zzzzzzzz"]
def semNames (ss : List Slot) (k : Slot → Prop) (_ : KX) : Prop := ∃ many : Int, ss = [.st, .val (.int many)] ∧ 0 ≤ many ∧ many ≤ 14 ∧ ∀ xs : List Str, xs.length = many.toNat → (∀ x ∈ xs, x ∈ pool) → k (.own (xs.map .str))
def f_depth : Nat := 0
def f_weight : Nat := 1
def f__law_mixed : Nat := 2
def f__law_draw : Nat := 3
def f__law_next : Nat := 4
def f__law_names : Nat := 5
def f__law_scheme : Nat := 6
def f__law_plain : Nat := 7
def f__law_term : Nat := 8
def f__law_a_kind : Nat := 9
def f__law_counted : Nat := 10
def f__law_said : Nat := 11
def f_law : Nat := 12
def b_depth : CS := sq [.ret (.op2 .add (i_ 1) (.op1 .max0 (.comp [1] (.call f_depth (args [(.var 1)])) (.name 1) (.iter (.var 0)) (.op1 (.isi ["tuple"]) (.var 1)))))]
def d_depth : Def := ⟨top 1, "depth", ["term"], ["term", "part"], b_depth⟩
def b_weight : CS := sq [.ret (.op2 .add (i_ 1) (.op1 .sum (.comp [1] (.call f_weight (args [(.var 1)])) (.name 1) (.iter (.var 0)) (.op1 (.isi ["tuple"]) (.var 1)))))]
def d_weight : Def := ⟨top 2, "weight", ["term"], ["term", "part"], b_weight⟩
def b__law_scheme : CS := sq [.par [2, 3] (args [(.op1 .sorted (.call f__law_names (args [(.var 0), (.op2 .add (i_ 1) (.call f__law_next (args [(.var 0), (i_ 3)])))]))), (.lst (args []))]),
  .for_ (.name 1) (.iter (.op1 .sorted (.call f__law_names (args [(.var 0), (.call f__law_next (args [(.var 0), (i_ 5)]))])))) (sq [.asg (.name 4) (.op2 .ix (.lst (args [(i_ 2), (i_ 2), (i_ 1), (i_ 3)])) (.call f__law_next (args [(.var 0), (i_ 4)]))),
    .app 3 (.tup (args [(.var 1), (.op1 .tuple (.comp [5] (.op2 .ix (.var 2) (.call f__law_next (args [(.var 0), (.op1 .len (.var 2))]))) (.name 5) (.range1 (.var 4)) .nil))]))]),
  .ret (.tup (args [(.op1 .tuple (.var 2)), (.op1 .tuple (.var 3))]))]
def d__law_scheme : Def := ⟨top 8, "_law_scheme", ["_law_draw_here"], ["_law_draw_here", "_law_name", "_law_sorts", "_law_ties", "_law_many", "_law_k"], b__law_scheme⟩
def b__law_plain : CS := sq [.asgO 3 (.comp [6, 7] (.tup (args [(s_ "tie"), (.var 6)])) (.tup (.cons (.name 6) (.cons (.name 7) .nil))) (.iter (.op2 .ix (.var 1) (i_ 1))) (.op2 .eq (.var 7) (.var 2))),
  .frz 3,
  .ite (.and_ (.op2 .ne (.var 3) (.lst (args []))) (.op2 .gt (.call f__law_next (args [(.var 0), (i_ 4)])) (i_ 0))) (sq [.ret (.op2 .ix (.var 3) (.call f__law_next (args [(.var 0), (.op1 .len (.var 3))])))])
    (.nop),
  .ite (.and_ (.op2 .eq (.op1 .len (.var 2)) (i_ 2)) (.and_ (.op2 .eq (.op2 .ix (.var 2) (i_ 0)) (.op2 .ix (.var 2) (i_ 1))) (.op2 .eq (.call f__law_next (args [(.var 0), (i_ 2)])) (i_ 0)))) (sq [.ret (.tup (args [(s_ "same"), (.op2 .ix (.var 2) (i_ 0))]))])
    (.nop),
  .asg (.name 4) (.tup (args [(s_ "sort"), (.op2 .ix (.var 2) (i_ 0))])),
  .for_ (.name 5) (.iter (.slc (.var 2) (.cons (i_ 1) .nil) .nopart)) (sq [.asg (.name 4) (.tup (args [(s_ "cross"), (.var 4), (.tup (args [(s_ "sort"), (.var 5)]))]))]),
  .ret (.var 4)]
def d__law_plain : Def := ⟨top 9, "_law_plain", ["_law_draw_here", "_law_scheme_here", "_law_kind_so"], ["_law_draw_here", "_law_scheme_here", "_law_kind_so", "_law_some", "_law_found", "_law_sort", "_law_name", "_law_own"], b__law_plain⟩
def b__law_term : CS := sq [.par [4, 5] (args [(.call f__law_next (args [(.var 0), (i_ 8)])), (.op1 .len (.var 2))]),
  .ite (.or_ (.op2 .eq (.var 3) (i_ 0)) (.op2 .eq (.var 4) (i_ 0))) (sq [.ret (.call f__law_plain (args [(.var 0), (.var 1), (.var 2)]))])
    (.nop),
  .ite (.op2 .lt (.var 4) (i_ 4)) (sq [.asg (.name 6) (.call f__law_term (args [(.var 0), (.var 1), (.var 2), (.op2 .sub (.var 3) (i_ 1))])),
    .ret (.tup (args [(.op2 .ix (.lst (args [(s_ "either"), (s_ "both"), (s_ "without")])) (.op2 .sub (.var 4) (i_ 1))), (.var 6), (.call f__law_term (args [(.var 0), (.var 1), (.var 2), (.op2 .sub (.var 3) (i_ 1))]))]))])
    (.nop),
  .ite (.and_ (.op2 .eq (.var 4) (i_ 4)) (.op2 .eq (.var 5) (i_ 2))) (sq [.ret (.tup (args [(s_ "back"), (.call f__law_term (args [(.var 0), (.var 1), (.op1 .rev (.var 2)), (.op2 .sub (.var 3) (i_ 1))]))]))])
    (.nop),
  .ite (.and_ (.op2 .eq (.var 4) (i_ 5)) (.and_ (.op2 .eq (.var 5) (i_ 2)) (.op2 .eq (.op2 .ix (.var 2) (i_ 0)) (.op2 .ix (.var 2) (i_ 1))))) (sq [.ret (.tup (args [(s_ "reach"), (.call f__law_term (args [(.var 0), (.var 1), (.var 2), (.op2 .sub (.var 3) (i_ 1))]))]))])
    (.nop),
  .ite (.and_ (.op2 .eq (.var 4) (i_ 6)) (.op2 .gt (.var 5) (i_ 1))) (sq [.asg (.name 7) (.op2 .add (i_ 1) (.call f__law_next (args [(.var 0), (.op2 .sub (.var 5) (i_ 1))]))),
    .asg (.name 6) (.call f__law_term (args [(.var 0), (.var 1), (.slc (.var 2) .nopart (.cons (.var 7) .nil)), (.op2 .sub (.var 3) (i_ 1))])),
    .ret (.tup (args [(s_ "cross"), (.var 6), (.call f__law_term (args [(.var 0), (.var 1), (.slc (.var 2) (.cons (.var 7) .nil) .nopart), (.op2 .sub (.var 3) (i_ 1))]))]))])
    (.nop),
  .par [8, 7] (args [(.op2 .ix (.op2 .ix (.var 1) (i_ 0)) (.call f__law_next (args [(.var 0), (.op1 .len (.op2 .ix (.var 1) (i_ 0)))]))), (.call f__law_next (args [(.var 0), (.op2 .add (.var 5) (i_ 1))]))]),
  .par [9, 10] (args [(.op2 .add (.slc (.var 2) .nopart (.cons (.var 7) .nil)) (.tup (args [(.var 8)]))), (.op2 .add (.tup (args [(.var 8)])) (.slc (.var 2) (.cons (.var 7) .nil) .nopart))]),
  .ite (.op2 .gt (.op2 .max2 (.op1 .len (.var 9)) (.op1 .len (.var 10))) (i_ 3)) (sq [.ret (.call f__law_plain (args [(.var 0), (.var 1), (.var 2)]))])
    (.nop),
  .ret (.tup (args [(s_ "join"), (.call f__law_term (args [(.var 0), (.var 1), (.var 9), (.op2 .sub (.var 3) (i_ 1))])), (.call f__law_term (args [(.var 0), (.var 1), (.var 10), (.op2 .sub (.var 3) (i_ 1))]))]))]
def d__law_term : Def := ⟨top 10, "_law_term", ["_law_draw_here", "_law_scheme_here", "_law_kind_so", "_law_deep"], ["_law_draw_here", "_law_scheme_here", "_law_kind_so", "_law_deep", "_law_way", "_law_many", "_law_one", "_law_cut", "_law_middle", "_law_first", "_law_last"], b__law_term⟩
def b__law_a_kind : CS := sq [.asg (.name 2) (.op2 .ix (.lst (args [(i_ 2), (i_ 2), (i_ 1), (i_ 3)])) (.call f__law_next (args [(.var 0), (i_ 4)]))),
  .ret (.op1 .tuple (.comp [3] (.op2 .ix (.op2 .ix (.var 1) (i_ 0)) (.call f__law_next (args [(.var 0), (.op1 .len (.op2 .ix (.var 1) (i_ 0)))]))) (.name 3) (.range1 (.var 2)) .nil))]
def d__law_a_kind : Def := ⟨top 11, "_law_a_kind", ["_law_draw_here", "_law_scheme_here"], ["_law_draw_here", "_law_scheme_here", "_law_many", "_law_k"], b__law_a_kind⟩
def b__law_counted : CS := sq [.par [2, 3] (args [(i_ 0), (i_ 1)]),
  .for_ (.name 1) (.iter (.var 0)) (sq [.ite (.op1 (.isi ["tuple"]) (.var 1)) (sq [.asg (.tup (.cons (.name 4) (.cons (.name 5) .nil))) (.call f__law_counted (args [(.var 1)])),
      .par [2, 3] (args [(.op2 .max2 (.var 2) (.var 4)), (.op2 .add (.var 3) (.var 5))])])
      (.nop)]),
  .ret (.tup (args [(.op2 .add (.var 2) (i_ 1)), (.var 3)]))]
def d__law_counted : Def := ⟨top 12, "_law_counted", ["_law_thing"], ["_law_thing", "_law_piece", "_law_deep", "_law_heavy", "_law_far", "_law_more"], b__law_counted⟩
def b__law_said : CS := sq [.par [5, 6] (args [(.tup (args [(.op2 .ix (.lst (args [(s_ "some"), (s_ "no"), (s_ "one"), (s_ "lone")])) (.call f__law_next (args [(.var 0), (i_ 4)]))), (.var 2)])), (i_ 0)]),
  .ite (.op2 .eq (.call f__law_next (args [(.var 0), (i_ 3)])) (i_ 0)) (sq [.asg (.name 5) (.tup (args [(s_ "in"), (.var 2), (.var 2)]))])
    (.nop),
  .for_ (.name 4) (.range1 (.var 3)) (sq [.par [7, 8] (args [(.call f__law_next (args [(.var 0), (i_ 6)])), (.tup (args [(s_ "sort"), (.op2 .ix (.op2 .ix (.var 1) (i_ 0)) (.call f__law_next (args [(.var 0), (.op1 .len (.op2 .ix (.var 1) (i_ 0)))])))]))]),
    .asg (.name 6) (.op2 .add (.var 6) (.op1 .int (.op2 .gt (.var 7) (i_ 3)))),
    .asg (.name 7) (.ifx (.op2 .gt (.var 6) (i_ 4)) (i_ 0) (.var 7)),
    .ite (.op2 .eq (.var 7) (i_ 0)) (sq [.asg (.name 5) (.tup (args [(s_ "not"), (.var 5)]))])
      (sq [.ite (.op2 .lt (.var 7) (i_ 4)) (sq [.par [9, 10] (args [(.op2 .ix (.lst (args [(s_ "and"), (s_ "or"), (s_ "if")])) (.op2 .sub (.var 7) (i_ 1))), (.tup (args [(s_ "some"), (.var 8)]))]),
        .asg (.name 5) (.ifx (.op2 .eq (.call f__law_next (args [(.var 0), (i_ 2)])) (i_ 0)) (.tup (args [(.var 9), (.var 5), (.var 10)])) (.tup (args [(.var 9), (.var 10), (.var 5)])))])
        (sq [.asg (.name 5) (.tup (args [(.op2 .ix (.lst (args [(s_ "all"), (s_ "exists")])) (.op2 .sub (.var 7) (i_ 4))), (.op2 .ix (.lst (args [(s_ "and"), (s_ "x"), (s_ "sort"), (s_ "tie")])) (.call f__law_next (args [(.var 0), (i_ 4)]))), (.var 8), (.var 5)]))])])]),
  .ret (.var 5)]
def d__law_said : Def := ⟨top 13, "_law_said", ["_law_draw_here", "_law_scheme_here", "_law_term_here", "_law_many"], ["_law_draw_here", "_law_scheme_here", "_law_term_here", "_law_many", "_law_turn", "_law_found", "_law_bound", "_law_way", "_law_sort", "_law_word", "_law_other"], b__law_said⟩
def tab : List Ent := [.code d_depth, .code d_weight, .prim "_law_mixed" 2 0 (fun _ _ _ => False), .prim "_law_draw" 2 0 (fun _ _ _ => False), .prim "_law_next" 2 2 semDraw, .prim "_law_names" 2 3 semNames, .code d__law_scheme, .code d__law_plain, .code d__law_term, .code d__law_a_kind, .code d__law_counted, .code d__law_said, .prim "law" 1 0 (fun _ _ _ => False)]
theorem ok_depth : DOk (tabF tab) d_depth := ⟨by decide +kernel, fun _ _ _ _ _ _ us hl => match us, hl with | [_], _ => rfl, by decide +kernel⟩
theorem ok_weight : DOk (tabF tab) d_weight := ⟨by decide +kernel, fun _ _ _ _ _ _ us hl => match us, hl with | [_], _ => rfl, by decide +kernel⟩
theorem ok__law_scheme : DOk (tabF tab) d__law_scheme := ⟨by decide +kernel, fun _ _ _ _ _ _ us hl => match us, hl with | [_], _ => rfl, by decide +kernel⟩
theorem ok__law_plain : DOk (tabF tab) d__law_plain := ⟨by decide +kernel, fun _ _ _ _ _ _ us hl => match us, hl with | [_, _, _], _ => rfl, by decide +kernel⟩
theorem ok__law_term : DOk (tabF tab) d__law_term := ⟨by decide +kernel, fun _ _ _ _ _ _ us hl => match us, hl with | [_, _, _, _], _ => rfl, by decide +kernel⟩
theorem ok__law_a_kind : DOk (tabF tab) d__law_a_kind := ⟨by decide +kernel, fun _ _ _ _ _ _ us hl => match us, hl with | [_, _], _ => rfl, by decide +kernel⟩
theorem ok__law_counted : DOk (tabF tab) d__law_counted := ⟨by decide +kernel, fun _ _ _ _ _ _ us hl => match us, hl with | [_], _ => rfl, by decide +kernel⟩
theorem ok__law_said : DOk (tabF tab) d__law_said := ⟨by decide +kernel, fun _ _ _ _ _ _ us hl => match us, hl with | [_, _, _, _], _ => rfl, by decide +kernel⟩
end Tk
/-! K2: the draws of k15, by hand. -/
namespace Tk
open PySem PySem.Spec PyProof.Rows L2
abbrev sMixed : Stmt := top 4
abbrev sNext : Stmt := top 6
def mixN : List Str := ["_law_cell", "_law_k", "_law_prime"]
def mixPs : List Str := ["_law_cell", "_law_k"]
def nextN : List Str := ["_law_draw_here", "_law_many", "_law_found", "_law_cell"]
def nextPs : List Str := ["_law_draw_here", "_law_many"]
theorem scMix : FnScope mixN mixPs (defScope sMixed) := scope_by (by decide +kernel)
theorem scNext : FnScope nextN nextPs (defScope sNext) := scope_by (by decide +kernel)
def spMix : Sp := fun vs H Q _ => ∃ c k : Int, vs = [.int c, .int k] ∧ ∀ r H', 0 ≤ r → r < 2147483648 → Same H H' → Q (.int r) H'
def prs : List Int := [2147483629, 2147483587, 2147483579, 2147483563, 2147483549]
theorem pr_at (k : Int) : ∃ p, atI prs (k.fmod 5) = some p ∧ 2147483549 ≤ p ∧ p ≤ 2147483629 := by
  have h := fmod_r (i := k) (j := 5) (by decide)
  have : k.fmod 5 = 0 ∨ k.fmod 5 = 1 ∨ k.fmod 5 = 2 ∨ k.fmod 5 = 3 ∨ k.fmod 5 = 4 := by omega
  rcases this with e | e | e | e | e <;> rw [e] <;> exact ⟨_, rfl, by decide, by decide⟩
theorem s_pow {i : Int} {n : Nat} (h : 0 ≤ i) (h2 : i < 2147483648) (hn : n ≤ 100) : sem2 .pow (.int i) (.int (n : Nat)) = some (.int (i ^ n)) := by
  simp only [sem2]
  rw [if_pos ⟨by omega, by omega, by omega⟩]
  simp
theorem atI_int {ns : List Int} {i n : Int} (h : atI ns i = some n) : atI (ns.map V.int) i = some (.int n) := by
  unfold atI at h ⊢
  rw [List.length_map]
  cases q : ixN ns.length i with
  | none => rw [q] at h; cases h
  | some j => rw [q] at h; simp only [Option.bind_some] at h ⊢; rw [List.getElem?_map, h]; rfl
section
variable {P : Program} {w : World} {K : PySem.W.Frag} {mg : Str → Option Value} {base : Heap} {xr : XRep}
def mixE : IE := .op .mod (.op .mul (.op .mod (.op .pow (.op .mod (.op .add (.op .add (.v 0) (.op .mul (.c 7919) (.v 1))) (.c 104729)) (.v 2)) (.c 5)) (.v 2)) (.op .add (.c 48271) (.op .mul (.c 2) (.v 1)))) (.v 2)
theorem mix_ok {a : Addr} {fd : FuncData} (Fu : FunD K "_law_mixed" "_law_mixed" (defArgs sMixed) (defBody sMixed) (defScope sMixed) [] [] a fd) (blt : ∀ x ∈ bltNames, mg x = none) :
    FnG P w K mg base 1 a fd mixPs spMix := by
  obtain ⟨oc, od, dV, kV, doc, pm, an, cdv, ct, osl, rfl, lk, hcd, _, _⟩ := Fu.ex
  refine fnG_of (N := mixN) lk hcd scMix (fun vs H Q E h => ?_) fun A outer s H vs Q E md hr hg hsp => ?_
  · obtain ⟨c, k, rfl, _⟩ := h
    rfl
  have S : Site (cxOf (L2.CX P w) P w K mg base mixN "_law_mixed" (defScope sMixed) a cdv A outer s H E) (defScope sMixed) := site_of hr hg blt
  have nd : mixN.Nodup := scMix.nd
  refine ⟨_, pss_cons (ps_set (i := 2) nd rfl (.inl rfl) (pe_ix ix_seq (pe_lst (pa_cons pe_int (pa_cons pe_int (pa_cons pe_int (pa_cons pe_int (pa_cons pe_int pa_nil)))))) (pe_ie (N := mixN) S rfl (.op .mod (.v 1) (.c 5)) _ (by decide +kernel)) (plainIx rfl)))
    (pss_one (ps_ret (pe_ie (N := mixN) S rfl mixE _ (by decide +kernel)))), ?_⟩
  obtain ⟨c, k, rfl, q⟩ := hsp
  obtain ⟨p0, ep, l1, l2⟩ := pr_at k
  refine ⟨by decide, fun p hp => ⟨k.fmod 5, ie_op (i := k) (j := 5) rfl rfl (s_mod (by decide)), fun H1 s1 => ?_⟩⟩
  have sp : Same H (upd H p (.lst (prs.map V.int))) := same_upd hp
  refine .inl ⟨p, prs.map V.int, _, _, rfl, rfl, .inl (.inl (s1 _ _ upd_same)), atI_int ep, ?_⟩
  have hp0 : p0 ≠ 0 := by omega
  have b1 := fmod_r (i := c + 7919 * k + 104729) (j := p0) (by omega)
  have b2 := fmod_r (i := ((c + 7919 * k + 104729).fmod p0) ^ 5) (j := p0) (by omega)
  have b3 := fmod_r (i := (((c + 7919 * k + 104729).fmod p0) ^ 5).fmod p0 * (48271 + 2 * k)) (j := p0) (by omega)
  refine ⟨((((c + 7919 * k + 104729).fmod p0) ^ 5).fmod p0 * (48271 + 2 * k)).fmod p0, ?_, fun H2 s2 => q _ _ b3.1 (by omega) (sp.trans (s1.trans s2))⟩
  exact ie_op (ie_op (ie_op (ie_op (ie_op (ie_op (ie_op (i := c) rfl (ie_op (i := 7919) (j := k) rfl rfl (s_mulL (by decide))) (s_add _ _)) (j := 104729) rfl (s_add _ _)) (j := p0) rfl (s_mod hp0)) (j := 5) rfl (s_pow (n := 5) b1.1 (by omega) (by decide))) (j := p0) rfl (s_mod hp0)) (ie_op (i := 48271) rfl (ie_op (i := 2) (j := k) rfl rfl (s_mulL (by decide))) (s_add _ _)) (s_mulL ⟨by omega, by omega⟩)) (j := p0) rfl (s_mod hp0)
end
end Tk
/-! K3: one draw. -/
namespace Tk
open PySem PySem.Spec PyProof.Rows L2
theorem r2_int {K : PySem.W.Frag} {o : Op2} {i j r : Int} {H : Hp} {Q : VK} (h : sem2 o (.int i) (.int j) = some (.int r)) (q : ∀ H', Same H H' → Q (.int r) H') : R2 K o (.int i) (.int j) H Q :=
  ⟨noG, fun _ => False, .int i, .int j, .int r, fun _ z => z.elim, .int i, .int j, h, fun v' H' s rp => by cases rp; exact q H' s⟩
theorem stw_same {am cl gl : Addr} {H H' : Hp} (s : Same H H') (h : StW am cl gl H) : StW am cl gl H' := by
  obtain ⟨cs, gs, a, b, h0, h1, h2, h3⟩ := h
  exact ⟨cs, gs, a, b, h0, s _ _ h1, s _ _ h2, s _ _ h3⟩
section
variable {P : Program} {w : World} {K : PySem.W.Frag} {mg : Str → Option Value} {base : Heap} {xr : XRep}
theorem noStatM {X : Cx} {n : Nat} : Stat X noF noC noX n := ⟨fun x d h => (nomatch (show (none : Option D) = some d from h)), fun _ _ _ _ _ _ _ h => h.elim, fun f nm np h => (nomatch (show (none : Option (Str × Nat)) = some (nm, np) from h)), fun f nm np h => (nomatch (show (none : Option (Str × Nat)) = some (nm, np) from h))⟩
theorem next_ok {f : Nat} {a aM : Addr} {fd fdM : FuncData} (Fu : FunD K "_law_next" "_law_next" (defArgs sNext) (defBody sNext) (defScope sNext) [] [] a fd) (blt : ∀ x ∈ bltNames, mg x = none)
    (FM : FunD K "_law_mixed" "_law_mixed" (defArgs sMixed) (defBody sMixed) (defScope sMixed) [] [] aM fdM) (gM : mg "_law_mixed" = some (.ref aM)) :
    FnG P w K mg base 2 a fd nextPs (spC K xr (fun _ ss k x => ss.length = 2 ∧ semDraw ss k x) f 2) := by
  have GM : FnG P w K mg base 1 aM fdM mixPs spMix := mix_ok FM blt
  have bM : Binds K fdM mixPs [] := FM.bindsN fun _ _ _ _ _ _ us hl => match us, hl with | [_, _], _ => rfl
  have kM := FM.kp
  obtain ⟨oc, od, dV, kV, doc, pm, an, cdv, ct, osl, rfl, lk, hcd, _, _⟩ := Fu.ex
  refine fnG_of (N := nextN) lk hcd scNext (fun vs H Q E h => h.1) fun A outer s H vs Q E md hr hg hsp => ?_
  have hh : HereS (cxOf (L2.CX P w) P w K mg base nextN "_law_next" (defScope sNext) a cdv A outer s H E) noF nextN (defScope sNext) (fun _ => true) noC noX 1 _ := hereS_of scNext hr hg blt noStatM
  have S := hh.toHere.site
  have nd : nextN.Nodup := scNext.nd
  have pvv : ∀ {i : Nat} {x : Str} {p : Pos}, chkV nextN (defScope sNext) i x = true → PE (cxOf (L2.CX P w) P w K mg base nextN "_law_next" (defScope sNext) a cdv A outer s H E) (.Name x p) (tVar i) := fun h => pe_chkV (N := nextN) S rfl h
  have pie : ∀ (t : IE) (e : Expr), chkIE nextN (defScope sNext) t e = true → PE (cxOf (L2.CX P w) P w K mg base nextN "_law_next" (defScope sNext) a cdv A outer s H E) e (tIE t) := fun t e h => pe_ie (N := nextN) S rfl t e h
  have call : ∀ {p pos : Pos} {e1 e2 : Expr} {t1 t2 : TE}, notStar e1 = true → notStar e2 = true → PE (cxOf (L2.CX P w) P w K mg base nextN "_law_next" (defScope sNext) a cdv A outer s H E) e1 t1 → PE (cxOf (L2.CX P w) P w K mg base nextN "_law_next" (defScope sNext) a cdv A outer s H E) e2 t2 →
      PE (cxOf (L2.CX P w) P w K mg base nextN "_law_next" (defScope sNext) a cdv A outer s H E) (.Call (.Name "_law_mixed" p) [e1, e2] [] pos) (fun σ H' Q' => tCons t1 (tCons t2 tNil) σ H' fun vs H1 => spMix vs H1 Q' fun cls dd H'' => E cls dd H'') :=
    fun n1 n2 h1 h2 => pe_callG hh.toHere gM kM bM GM (by decide +kernel) (by decide +kernel) (by simp [notStars, n1, n2]) (pa_cons h1 (pa_cons h2 pa_nil (star_cons n2)) (star_cons n1))
  refine ⟨_, pss_cons (ps_if (PW.pt (pw_and (pt_ie (N := nextN) (o := .eq) (t := .gi 0 2) (u := .c 0) S rfl rfl (by decide +kernel) (by decide +kernel) (by decide +kernel))
        (pw_and1 (pt_cmpR (cmp_ok S (o := .ne) rfl) (pe_lb (N := nextN) (b := .itm 0 3) S rfl (by decide +kernel)) (pe_lst pa_nil) (marks_ok (by decide +kernel))))))
      (pss_one (ps_asg (pe_bm PySem.F.plainAttrs_list PySem.F.slot_list_pop PySem.F.type_list_pop mt_popAt (pe_lb (N := nextN) (b := .itm 0 3) S rfl (by decide +kernel)) (pa_cons pe_int pa_nil)) (pg_sub (pvv (i := 0) (by decide +kernel)) pe_int set_list))) pss_nil)
    (pss_cons (ps_if (pt_ie (N := nextN) (o := .gt) (t := .gi 0 2) (u := .c 0) S rfl rfl (by decide +kernel) (by decide +kernel) (by decide +kernel))
      (pss_cons (ps_set (i := 2) nd rfl (.inl rfl) (pie (.op .mod (.gi 0 2) (.v 1)) _ (by decide +kernel)))
      (pss_cons (ps_asg (pie (.op .fdiv (.gi 0 2) (.v 1)) _ (by decide +kernel)) (pg_sub (pvv (i := 0) (by decide +kernel)) pe_int set_list))
      (pss_one (ps_ret (pvv (i := 2) (by decide +kernel)))))) pss_nil)
    (pss_cons (ps_asg (pie (.op .add (.gi 0 1) (.c 1)) _ (by decide +kernel)) (pg_sub (pvv (i := 0) (by decide +kernel)) pe_int set_list))
    (pss_cons (ps_set (i := 3) nd rfl (.inl rfl) (pie (.ix (.itm 0 0) (.op .mod (.gi 0 1) (.ln (.itm 0 0)))) _ (by decide +kernel)))
    (pss_one (ps_ret (pe_op o_mod (pe_op o_fdiv (pe_op o_add (pe_op o_mul (call (by decide +kernel) (by decide +kernel) (pvv (i := 3) (by decide +kernel)) (pie (.gi 0 1) _ (by decide +kernel))) pe_int)
      (call (by decide +kernel) (by decide +kernel) (pvv (i := 3) (by decide +kernel)) (pie (.op .add (.gi 0 1) (.c 9001)) _ (by decide +kernel)))) pe_int) (pvv (i := 1) (by decide +kernel)))))))), ?_⟩
  obtain ⟨hvl, Γ, O, ss, k, x, g1, g2, g3, g4, g5, ⟨g6, many, rfl, m1, m2, hk⟩, g7, g8⟩ := hsp
  cases g5 with | cons r1 g5 => cases g5 with | cons r2 g5 => cases g5 with | nil =>
  obtain ⟨rfl, hnn⟩ := r1
  cases r2
  rcases g1.so with z | ⟨am, cl, gl, n1, n2, n3, esv, eM, eW⟩
  · exact absurd z hnn
  rw [esv]
  rw [eW] at g2
  have fin : ∀ r H', 0 ≤ r → r < many → SameM Γ H H' → StW am cl gl H' → Q (.int r) H' := fun r H' a1 a2 a3 a4 =>
    g7 (.val (.int r)) (.int r) H' (hk r a1 a2) ⟨a3, by rw [eW]; exact a4⟩ (.int r)
  have sM : ∀ {H1 : Hp} {b : Addr} {o : HO}, (b = am ∨ b = cl ∨ b = gl) → SameM Γ H H1 → SameM Γ H (upd H1 b o) := fun {H1 b o} hb s c u e n => by
    have : c ≠ b := fun z => n (by rw [eM, z]; exact hb)
    rw [upd_ne this]; exact s c u e n
  have sS : ∀ {H1 H2 : Hp}, SameM Γ H H1 → Same H1 H2 → SameM Γ H H2 := fun a b c u e n => b c u (a c u e n)
  have sg : ∀ {G : Hp} {cs gs : List Int} {a b : Int} {x2 x3 : Option V}, G am = some (.lst [.ref cl, .int a, .int b, .ref gl]) → ieV [some (.ref am), some (.int many), x2, x3] G (.gi 0 2) = some b ∧ ieV [some (.ref am), some (.int many), x2, x3] G (.gi 0 1) = some a ∧ lbV [some (.ref am), some (.int many), x2, x3] G (.itm 0 3) = some (.ref gl) ∧ lbV [some (.ref am), some (.int many), x2, x3] G (.itm 0 0) = some (.ref cl) := fun {G cs gs a b x2 x3} h => by
    simp only [ieV, lbV, itmV, List.getElem?_cons_zero, h]
    simp
  -- the second half: no great cell
  have lb0 : ∀ {G : Hp} {cs gs : List Int} {a b : Int} {x2 x3 : Option V}, G am = some (.lst [.ref cl, .int a, .int b, .ref gl]) → G cl = some (.lst (cs.map V.int)) → lbN [some (.ref am), some (.int many), x2, x3] G (.itm 0 0) = some cs := fun {G cs gs a b x2 x3} h h2 => by
    unfold lbN
    rw [(sg (cs := cs) (gs := gs) h).2.2.2]
    simp only [h2, intsV_map]
  obtain ⟨cs, gs, ca, cb, hcs, h1, h2, h3⟩ := g2
  -- from the second statement on
  have from2 : ∀ (H1 : Hp) (gs : List Int) (b : Int), H1 am = some (.lst [.ref cl, .int ca, .int b, .ref gl]) → H1 cl = some (.lst (cs.map V.int)) → H1 gl = some (.lst (gs.map V.int)) → SameM Γ H H1 →
      tSeq (tIfS (tICmp .gt (.gi 0 2) (.c 0)) (tSeq (tAsg (tIE (.op .mod (.gi 0 2) (.v 1))) (gName 2)) (tSeq (tAsg (tIE (.op .fdiv (.gi 0 2) (.v 1))) (gSub (tVar 0) (tC (.int 2)) rSetL)) (tRet (tVar 2)))) tNext)
        (tSeq (tAsg (tIE (.op .add (.gi 0 1) (.c 1))) (gSub (tVar 0) (tC (.int 1)) rSetL))
        (tSeq (tAsg (tIE (.ix (.itm 0 0) (.op .mod (.gi 0 1) (.ln (.itm 0 0))))) (gName 3))
        (tRet (tOp (R2 K .mod) (tOp (R2 K .fdiv) (tOp (R2 K .add) (tOp (R2 K .mul) (fun σ H' Q' => tCons (tVar 3) (tCons (tIE (.gi 0 1)) tNil) σ H' fun vs H1 => spMix vs H1 Q' fun cls dd H'' => E cls dd H'') (tC (.int 2147483647)))
          (fun σ H' Q' => tCons (tVar 3) (tCons (tIE (.op .add (.gi 0 1) (.c 9001))) tNil) σ H' fun vs H1 => spMix vs H1 Q' fun cls dd H'' => E cls dd H'')) (tC (.int 23))) (tVar 1)))))
        { nx := fun _ H' => Q .non H', rt := Q } [some (.ref am), some (.int many), none, none] H1 := by
    intro H1 gs b e1 e2 e3 q1
    refine ⟨b, 0, decide (0 < b), (sg (cs := cs) (gs := gs) e1).1, rfl, rfl, fun H2 s2 => ?_⟩
    have e1' := s2 _ _ e1
    have e2' := s2 _ _ e2
    have e3' := s2 _ _ e3
    have q2 := sS q1 s2
    refine ite2 (fun hb => ?_) fun hb => ?_
    · have bm := fmod_r (i := b) (j := many) m1
      refine ⟨b.fmod many, ie_op (sg (cs := cs) (gs := gs) e1').1 (j := many) rfl (s_mod (by omega)), fun H3 s3 => ?_⟩
      refine ⟨b.fdiv many, ie_op (sg (cs := cs) (gs := gs) (s3 _ _ e1')).1 (j := many) rfl (s_fdiv m1 m2), fun H4 s4 => ?_⟩
      refine ⟨_, rfl, am, _, 2, 2, rfl, rfl, s4 _ _ (s3 _ _ e1'), rfl, _, rfl, ?_⟩
      refine fin _ _ bm.1 bm.2 (sM (.inl rfl) (sS q2 (s3.trans s4))) ⟨cs, gs, ca, b.fdiv many, hcs, upd_same, ?_, ?_⟩
      · rw [upd_ne (Ne.symm n1)]; exact s4 _ _ (s3 _ _ e2')
      · rw [upd_ne (Ne.symm n2)]; exact s4 _ _ (s3 _ _ e3')
    · refine ⟨ca + 1, ie_op (sg (cs := cs) (gs := gs) e1').2.1 (j := 1) rfl (s_add _ _), fun H3 s3 => ?_⟩
      refine ⟨_, rfl, am, _, 1, 1, rfl, rfl, s3 _ _ e1', rfl, ?_⟩
      have u1 : (upd H3 am (.lst ([.ref cl, .int ca, .int b, .ref gl].set 1 (.int (ca + 1))))) am = some (.lst [.ref cl, .int (ca + 1), .int b, .ref gl]) := upd_same
      have u2 : (upd H3 am (.lst ([.ref cl, .int ca, .int b, .ref gl].set 1 (.int (ca + 1))))) cl = some (.lst (cs.map V.int)) := by rw [upd_ne (Ne.symm n1)]; exact s3 _ _ e2'
      have u3 : (upd H3 am (.lst ([.ref cl, .int ca, .int b, .ref gl].set 1 (.int (ca + 1))))) gl = some (.lst (gs.map V.int)) := by rw [upd_ne (Ne.symm n2)]; exact s3 _ _ e3'
      have q4 : SameM Γ H (upd H3 am (.lst ([.ref cl, .int ca, .int b, .ref gl].set 1 (.int (ca + 1))))) := sM (.inl rfl) (sS q2 s3)
      generalize upd H3 am (.lst ([.ref cl, .int ca, .int b, .ref gl].set 1 (.int (ca + 1)))) = H4 at u1 u2 u3 q4
      obtain ⟨n, j, en, _⟩ := at_in hcs (ca + 1)
      have hl : 0 < cs.length := List.length_pos_iff.mpr hcs
      refine ⟨n, ?_, fun H5 s5 => ?_⟩
      · have z : ieV [some (.ref am), some (.int many), none, none] H4 (.op .mod (.gi 0 1) (.ln (.itm 0 0))) = some ((ca + 1).fmod cs.length) := by
          refine ie_op (sg (cs := cs) (gs := gs) u1).2.1 (j := (cs.length : Nat)) ?_ (s_mod (by omega))
          simp only [ieV]
          rw [lb0 (gs := gs) u1 u2]; rfl
        have z2 := lb0 (gs := gs) (x2 := none) (x3 := none) u1 u2
        show (match lbN [some (.ref am), some (.int many), none, none] H4 (.itm 0 0), ieV [some (.ref am), some (.int many), none, none] H4 (.op .mod (.gi 0 1) (.ln (.itm 0 0))) with | some ns, some i => atI ns i | _, _ => none) = some n
        rw [z2, z]
        exact en
      refine ⟨_, rfl, ca + 1, (sg (cs := cs) (gs := gs) (s5 _ _ u1)).2.1, fun H6 s6 => ⟨n, ca + 1, rfl, fun ra H7 a0 a1 s7 => ?_⟩⟩
      refine r2_int (s_mulL ⟨by omega, by omega⟩) fun H8 s8 => ?_
      have s58 := s6.trans (s7.trans s8)
      refine ⟨_, rfl, ca + 1 + 9001, ie_op (sg (cs := cs) (gs := gs) (s58 _ _ (s5 _ _ u1))).2.1 (j := 9001) rfl (s_add _ _), fun H9 s9 => ⟨n, ca + 1 + 9001, rfl, fun rb H10 c0 c1 s10 => ?_⟩⟩
      refine r2_int (s_add _ _) fun H11 s11 => ?_
      refine r2_int (s_fdiv (by decide) (by decide)) fun H12 s12 => ?_
      refine ⟨_, rfl, r2_int (s_mod (by omega)) fun H13 s13 => ?_⟩
      have bm := fmod_r (i := (ra * 2147483647 + rb).fdiv 23) (j := many) m1
      have sall := s5.trans (s58.trans (s9.trans (s10.trans (s11.trans (s12.trans s13)))))
      exact fin _ _ bm.1 bm.2 (sS q4 sall) (stw_same sall ⟨cs, gs, ca + 1, b, hcs, u1, u2, u3⟩)
  have eqi : sem2 .eq (.int cb) (.int 0) = some (.bool (cb == 0)) := by
    simp only [sem2, PyData.eqv]
    rw [if_pos (.inr ⟨by simp [SeqAt.shaped, PyData.canLay0, PyData.depth], by simp [SeqAt.shaped, PyData.canLay0, PyData.depth]⟩)]
  have sm0 : SameM Γ H H := fun _ _ h _ => h
  refine ⟨cb, 0, cb == 0, (sg (cs := cs) (gs := gs) h1).1, rfl, eqi, fun H1 s1 => ?_⟩
  have e1 := s1 _ _ h1
  have e2 := s1 _ _ h2
  have e3 := s1 _ _ h3
  refine ite2 (fun hb => ?_) fun hb => iteF (from2 H1 gs cb e1 e2 e3 (sS sm0 s1))
  refine ⟨_, (sg (cs := cs) (gs := gs) e1).2.2.1, Nat.zero_le _, fun p hp => ?_⟩
  have sp : Same H1 (upd H1 p (.lst [])) := same_upd hp
  have pp : (upd H1 p (.lst [])) p = some (.lst []) := upd_same
  generalize upd H1 p (.lst []) = H2 at sp pp ⊢
  refine ⟨noG, fun _ => False, .list (gs.map .int), .list [], .bool (!gs.isEmpty), fun _ z => z.elim, ⟨gl, _, rfl, .inl ⟨.inl (sp _ _ e3), fun z => z⟩, intsV_reps (intsV_map gs)⟩, ⟨p, [], rfl, .inl ⟨.inl pp, fun z => z⟩, .nil⟩, ?_, fun v' H3 s3 r3 => ?_⟩
  · simp only [sem2]
    rw [if_pos (.inr ⟨shapedI gs, by decide⟩), eqvNil]
  cases r3
  have f1 := s3 _ _ (sp _ _ e1)
  have f2 := s3 _ _ (sp _ _ e2)
  have f3 := s3 _ _ (sp _ _ e3)
  have q3 := sS sm0 (s1.trans (sp.trans s3))
  refine ⟨_, rfl, ?_⟩
  cases gs with
  | nil => exact iteF (from2 H3 [] cb f1 f2 f3 q3)
  | cons g gs =>
    refine iteT ?_
    refine ⟨_, (sg (cs := cs) (gs := g :: gs) f1).2.2.1, .inl ⟨rfl, _, .inl (.inl f3)⟩, gl, _, 0, 0, _, rfl, rfl, f3, by decide, by decide, seqIndex_of (by decide) (by simp), rfl, ?_⟩
    refine ⟨_, rfl, am, _, 2, 2, rfl, rfl, by rw [upd_ne n2]; exact f1, rfl, ?_⟩
    refine from2 _ gs g upd_same ?_ ?_ (sM (.inl rfl) (sM (.inr (.inr rfl)) q3))
    · rw [upd_ne (Ne.symm n1), upd_ne n3]; exact f2
    · rw [upd_ne (Ne.symm n2), upd_same]; rfl
end
end Tk
/-! K4: names drawn from a pool. -/
namespace Tk
open PySem PySem.Spec PyProof.Rows L2
abbrev sNames : Stmt := top 7
def namN : List Str := ["_law_draw_here", "_law_many", "_law_pool", "_law_k"]
def namPs : List Str := ["_law_draw_here", "_law_many"]
theorem scNam : FnScope namN namPs (defScope sNames) := scope_by (by decide +kernel)
theorem erase_map {α β : Type} (f : α → β) : ∀ (l : List α) (i : Nat), (l.map f).eraseIdx i = (l.eraseIdx i).map f
  | [], _ => rfl
  | _ :: _, 0 => rfl
  | a :: l, i + 1 => by simp [List.eraseIdx_cons_succ, erase_map f l i]
def lcE : Stmt → Expr
  | .Return (some (.ListComp e _ _ _)) _ => e
  | _ => .Constant .none 0 ⟨0, 0, 0, 0⟩
def lcS (d : Scope) : Stmt → Scope
  | .Return (some (.ListComp _ _ sc _)) _ => sc
  | _ => d
def namR : Stmt := (defBody sNames).getD 1 (.Pass ⟨0, 0, 0, 0⟩)
def namElt : Expr := lcE namR
def namSc : Scope := lcS (defScope sNames) namR
section
variable {P : Program} {w : World} {K : PySem.W.Frag} {mg : Str → Option Value} {base : Heap} {xr : XRep}
theorem names_ok {f : Nat} {a aN : Addr} {fd fdN : FuncData} (Fu : FunD K "_law_names" "_law_names" (defArgs sNames) (defBody sNames) (defScope sNames) [] [] a fd) (blt : ∀ x ∈ bltNames, mg x = none)
    (GN : ∀ base, FnG P w K mg base 2 aN fdN nextPs (spC K noX (fun _ ss k x => ss.length = 2 ∧ semDraw ss k x) 0 2)) (bN : Binds K fdN nextPs []) (kN : PySem.W.keepIn K (.ref aN) = true) (gN : mg "_law_next" = some (.ref aN)) :
    FnG P w K mg base 3 a fd namPs (spC K xr (fun _ ss k x => ss.length = 2 ∧ semNames ss k x) f 2) := by
  obtain ⟨oc, od, dV, kV, doc, pm, an, cdv, ct, osl, rfl, lk, hcd, _, _⟩ := Fu.ex
  refine fnG_of (N := namN) lk hcd scNam (fun vs H Q E h => h.1) fun A outer s H vs Q E md hr hg hsp => ?_
  have hh : HereS (cxOf (L2.CX P w) P w K mg base namN "_law_names" (defScope sNames) a cdv A outer s H E) noF namN (defScope sNames) (fun _ => true) noC noX 2 _ := hereS_of scNam hr hg blt noStatM
  have S := hh.toHere.site
  have nd : namN.Nodup := scNam.nd
  have helt : ∀ (s' : Shared) (H' : Hp) (A' : Addr) (cl : List (Str × Addr)) (fp : List Addr), PE ((cxOf (L2.CX P w) P w K mg base namN "_law_names" (defScope sNames) a cdv A outer s H E).blk s' H' namSc (compEnvC namSc cl A' (cxOf (L2.CX P w) P w K mg base namN "_law_names" (defScope sNames) a cdv A outer s H E).env) fp) namElt
      (tBM K "list" rPopAt (tVar 2) (tCons (fun σ H Q => tCons (tVar 0) (tCons (tUn (R1 K .len) (tVar 2)) tNil) σ H fun vs H1 => spC K noX (fun _ ss k x => ss.length = 2 ∧ semDraw ss k x) 0 2 vs H1 Q fun cls dd H' => False) tNil)) := fun s' H' A' cl fp => by
    have hb := hh.toHere.blk (scope := namSc) s' H' A' cl fp
    exact pe_bm PySem.F.plainAttrs_list PySem.F.slot_list_pop PySem.F.type_list_pop mt_popAt (pe_chkV (N := namN) (i := 2) hb.site rfl (by decide +kernel))
      (pa_cons (pe_callG hb gN kN bN (GN _) (by decide +kernel) (by decide +kernel) (by decide +kernel)
        (pa_cons (pe_chkV (N := namN) (i := 0) hb.site rfl (by decide +kernel)) (pa_cons (op1_ok (o := .len) hb.site (by rfl) (pe_chkV (N := namN) (i := 2) hb.site rfl (by decide +kernel)) (fun σ H Q Q' hq ⟨v, a, b⟩ => ⟨v, a, hq _ _ b⟩)) pa_nil))) pa_nil)
  refine ⟨_, pss_cons (ps_set (i := 2) nd rfl (.inr rfl) (pe_lst (pa_cons pe_str (pa_cons pe_str (pa_cons pe_str (pa_cons pe_str (pa_cons pe_str (pa_cons pe_str (pa_cons pe_str (pa_cons pe_str (pa_cons pe_str (pa_cons pe_str (pa_cons pe_str (pa_cons pe_str (pa_cons pe_str (pa_cons pe_str pa_nil))))))))))))))))
    (pss_one (ps_ret (pe_lc S.calm nd (sI hh.toHere false (.range1 (.var 1)) _ _ (by decide +kernel)) (own := [("_law_k", 3)]) (blkOk_by (by show blkC namN (defScope sNames) namSc _ = true; decide +kernel))
      (fun s H A cl fp => pg_name (i := 3) nd rfl (.inl rfl)) (fun s H A cl fp => pts_nil) helt))), ?_⟩
  obtain ⟨hvl, Γ, O, ss, k, x, g1, g2, g3, g4, g5, ⟨g6, many, rfl, m1, m2, hk⟩, g7, g8⟩ := hsp
  cases g5 with | cons r1 g5 => cases g5 with | cons r2 g5 => cases g5 with | nil =>
  obtain ⟨rfl, hnn⟩ := r1
  cases r2
  refine ⟨by decide, fun q hq => ?_⟩
  have s1 : Same H (upd H q (.lst (pool.map V.str))) := same_upd hq
  have eq1 : (upd H q (.lst (pool.map V.str))) q = some (.lst (pool.map V.str)) := upd_same
  have nOq : ¬ O q := fun z => g3 q z hq
  have nMq : ¬ Γ.M q := fun z => nOq (g4 q z)
  simp only [gName, tRet]
  show tLc _ _ _ _ _ [some Γ.sv, some (.int many), some (.ref q), none] (upd H q (.lst (pool.map V.str))) Q
  generalize upd H q (.lst (pool.map V.str)) = H1 at s1 eq1 ⊢
  have l1 := Later.of_same g1 g2 s1
  have ot1 : ∀ b, (O b ∨ b = q) → H1 b ≠ none := fun b z e => by
    rcases z with z | rfl
    · cases y : H b with
      | none => exact g3 b z y
      | some u => rw [s1 _ _ y] at e; cases e
    · rw [eq1] at e; cases e
  have fr1 : Fr K { Γ with H0 := H1, O0 := fun b => O b ∨ b = q } [some .st, some (.val (.int many)), none, none] [some Γ.sv, some (.int many), some (.ref q), none] H1 (fun b => O b ∨ b = q) := by
    refine ⟨⟨g1.so, fun b z => .inl (g4 b z), ot1, g1.wm, g1.ws, g1.wt, g1.wf⟩, rfl, fun _ _ h _ => h, fun _ h => h, ot1, l1.w, fun i s e => ?_, fun i j b ds es e _ _ _ => ?_⟩
    · match i, e with
      | 0, e => cases e; exact ⟨_, rfl, rfl, hnn⟩
      | 1, e => cases e; exact ⟨_, rfl, .int _⟩
      | 2, e => cases e
      | 3, e => cases e
      | i + 4, e => simp at e
    · match i, e with
      | 0, e => cases e
      | 1, e => cases e
      | 2, e => cases e
      | 3, e => cases e
      | i + 4, e => simp at e
  refine ⟨_, _, _, fun xs => xs = rangeD 0 many, fun _ => False, fr1, ?_, fun xs J H2 ex l2 wk => ?_, fun _ _ _ _ z => z.elim⟩
  · simp only [evI, ev, List.getElem?_cons_succ, List.getElem?_cons_zero]
    exact ⟨_, rfl, ⟨by omega, by omega⟩, rfl⟩
  subst ex
  obtain ⟨G, Y, wa, hw⟩ := wk
  intro p hp
  have eq2 := l2.same q _ eq1 nMq
  have hpq : p ≠ q := fun z => by rw [z, eq2] at hp; cases hp
  have nMp : ¬ Γ.M p := fun z => g1.wm H2 l2.w p z hp
  have hlen : (rangeD 0 many).length = many.toNat := by simp [rangeD]
  have okH : ∀ H5, (∀ b u, H2 b = some u → ¬ Γ.M b → b ≠ q → H5 b = some u) → Γ.W H5 → H5 q ≠ none → Ext H2 H5 (fun b => O b ∨ b = q) (fun b => O b ∨ b = q) ∧ OTr (fun b => O b ∨ b = q) H5 := fun H5 k5 w5 hq5 => by
    refine ⟨⟨fun b u e n => k5 b u e (fun z => n (.inl (g4 b z))) fun z => n (.inr z), fun b z => .inl z, fun b xs e => k5 b _ e (fun z => g1.wt H2 H5 l2.w w5 b z xs e) fun z => ?_, fun b o u e => k5 b _ e (fun z => g1.wf H2 b l2.w z o u e) fun z => ?_⟩, fun b z e => ?_⟩
    · rw [z, eq2] at e; cases e
    · rw [z, eq2] at e; cases e
    · by_cases m : Γ.M b
      · exact g1.wm H5 w5 b m e
      · by_cases y : b = q
        · subst y; exact hq5 e
        · cases t : H2 b with
          | none => exact (fr1.later l2).otr b z t
          | some u => rw [k5 b u t m y] at e; cases e
  refine lc_it (Qd := fun H2 => Q (.ref p) H2) wa (fun i H' => ∃ (acc rest : List Str), acc.length = i ∧ rest.length + i = 14 ∧ (∀ x ∈ acc, x ∈ pool) ∧ (∀ x ∈ rest, x ∈ pool) ∧ H' p = some (.lst (acc.map V.str)) ∧ H' q = some (.lst (rest.map V.str)) ∧ Γ.W H' ∧ ∀ b u, H2 b = some u → ¬ Γ.M b → b ≠ q → H' b = some u) ?_ ?_ ?_ ?_
  · refine ⟨[], pool, rfl, rfl, by simp, fun x h => h, upd_same, by rw [upd_ne (Ne.symm hpq)]; exact eq2, g1.ws H2 _ (fun b mb => upd_ne fun z => nMp (by rw [← z]; exact mb)) l2.w, fun b u e m n => ?_⟩
    rw [upd_ne (fun z => by rw [z, hp] at e; cases e)]; exact e
  · rintro i H' _ ⟨acc, rest, _, _, _, _, _, hq', w', k'⟩
    exact (hw H' _ (okH H' k' w' (by rw [hq']; simp)).1 (fun z => by cases z) (okH H' k' w' (by rw [hq']; simp)).2).1
  · rintro i y H' H3 hi ⟨acc, rest, a1, a2, a3, a4, hp', hq', w', k'⟩ hy
    rw [hlen] at hi
    obtain ⟨s3, _⟩ := (hw H' _ (okH H' k' w' (by rw [hq']; simp)).1 (fun z => by cases z) (okH H' k' w' (by rw [hq']; simp)).2).2 i y H3 (by rw [hlen]; exact hi) hy
    refine ⟨rfl, ?_⟩
    have w3 : Γ.W H3 := (Later.of_same g1 w' s3).w
    have hne : rest ≠ [] := fun z => by rw [z] at a2; simp at a2; omega
    have hsz : ∀ x ∈ pool, x.length ≤ sizeLine := by decide +kernel
    have hlr : 0 < rest.length := List.length_pos_iff.mpr hne
    refine ⟨_, rfl, .inl ⟨rfl, _, .inl (.inl (s3 _ _ hq'))⟩, ?_⟩
    refine ⟨_, rfl, _, rfl, noG, fun _ => False, .list (rest.map .str), .int (rest.length : Nat), fun _ z => z.elim, ⟨q, _, rfl, .inl ⟨.inl (s3 _ _ hq'), fun z => z⟩, reps_strs fun x hx => hsz x (a4 x hx)⟩, by simp [sem1, lenD], fun v' H4 s4 r4 => ?_⟩
    cases r4
    have w4 : Γ.W H4 := (Later.of_same g1 w3 s4).w
    have k4 : ∀ b u, H2 b = some u → ¬ Γ.M b → b ≠ q → H4 b = some u := fun b u e m n => s4 _ _ (s3 _ _ (k' b u e m n))
    have hq4 := s4 _ _ (s3 _ _ hq')
    have hp4 := s4 _ _ (s3 _ _ hp')
    refine ⟨rfl, Γ, O, [.st, .val (.int (rest.length : Nat))], fun sl => ∃ r, 0 ≤ r ∧ r < (rest.length : Int) ∧ sl = .val (.int r), fun _ => False, g1, w4, fun b z => (okH H4 k4 w4 (by rw [hq4]; simp)).2 b (.inl z), g4, .cons ⟨rfl, hnn⟩ (.cons (.int _) .nil), ⟨rfl, _, rfl, by omega, by omega, fun r h0 h1 => ⟨r, h0, h1, rfl⟩⟩, ?_, fun _ _ _ _ z => z.elim⟩
    rintro sl v H5 ⟨r, h0, h1, rfl⟩ l5 rr
    cases rr
    have hq5 := l5.same q _ hq4 nMq
    have hp5 := l5.same p _ hp4 nMp
    have hr : r.toNat < rest.length := by omega
    refine ⟨q, _, r, r.toNat, .str rest[r.toNat], rfl, rfl, hq5, by omega, by omega, seqIndex_of h0 (by simpa using h1), by rw [List.getElem?_map, List.getElem?_eq_getElem hr]; rfl, ?_⟩
    refine ⟨_, by rw [upd_ne hpq]; exact hp5, by rw [List.length_map, sizeLine_eq]; omega, acc ++ [rest[r.toNat]], rest.eraseIdx r.toNat, by simp [a1], by rw [List.length_eraseIdx_of_lt hr]; omega, fun x hx => ?_, fun x hx => a4 x (List.mem_of_mem_eraseIdx hx), by rw [upd_same]; simp, ?_, ?_, fun b u e m n => ?_⟩
    · rcases List.mem_append.mp hx with hx | hx
      · exact a3 x hx
      · simp at hx; subst hx; exact a4 _ (by simp)
    · rw [upd_ne (Ne.symm hpq), upd_same, erase_map]
    · refine g1.ws H5 _ (fun b mb => ?_) l5.w
      rw [upd_ne (fun z => nMp (by rw [← z]; exact mb)), upd_ne (fun z => nMq (by rw [← z]; exact mb))]
    · rw [upd_ne (fun z => by rw [z, hp] at e; cases e), upd_ne n]
      exact l5.same b u (k4 b u e m n) m
  · rintro H' ⟨acc, rest, a1, a2, a3, a4, hp', hq', w', k'⟩
    rw [hlen] at a1
    have hpH : H p = none := by
      cases e : H p with
      | none => rfl
      | some u => rw [l2.same p u (s1 _ _ e) nMp] at hp; cases hp
    have hsz : ∀ x ∈ pool, x.length ≤ sizeLine := by decide +kernel
    refine g7 (.own (acc.map .str)) (.ref p) H' (hk acc a1 a3) ⟨fun b u e m => k' b u (l2.same b u (s1 _ _ e) m) m (fun z => by rw [z, hq] at e; cases e), w'⟩ ⟨p, _, rfl, hp', hpH, reps_strs fun x hx => hsz x (a3 x hx)⟩
end
end Tk
/-! K5: the drawing's begin. -/
namespace Tk
open PySem PySem.Spec PyProof.Rows L2
abbrev sBeg : Stmt := top 5
def begN : List Str := ["_law_script", "_law_k", "_law_cells", "_law_cell"]
def begPs : List Str := ["_law_script", "_law_k"]
theorem scBeg : FnScope begN begPs (defScope sBeg) := scope_by (by decide +kernel)
def spBeg (K : PySem.W.Frag) : Sp := fun vs H Q _ => ∃ (v : V) (ns : List Int) (k : Nat), vs = [v, .int (k : Nat)] ∧ ns.length ≤ 1000 ∧ (ns = [] ∨ k < ns.length) ∧ Rep K H (fun _ => False) v (.list (ns.map .int)) ∧
  ∀ am cl gl H', am ≠ cl → am ≠ gl → cl ≠ gl → H am = none → H cl = none → H gl = none → Same H H' → StW am cl gl H' → Q (.ref am) H'
def p18 : CE := .op2 .pow (.const (.int 10)) (.const (.int 18))
def greatC : CE := .comp [3] (.var 3) (.name 3) (.iter (.var 2)) (.op2 .ge (.var 3) p18)
theorem great_loop {δ : Dl} (hl : δ.length = 4) : ∀ (ns acc : List Int) (k : List D → Prop), ns.length + acc.length ≤ 1000 → (∀ ms : List Int, k (ms.map .int)) → loopC (compB noC [3] (.var 3) (.name 3) (.op2 .ge (.var 3) p18) δ) (ns.map .int) (acc.map .int) k
  | [], acc, k, _, hk => hk acc
  | n :: ns, acc, k, hle, hk => by
    have h2 : 3 < δ.length := by omega
    simp only [List.map_cons, loopC, compB, bindT, wipeD, List.length_set]
    refine ⟨h2, ?_⟩
    simp only [List.set_set, evT, ev, p18, List.getElem?_set_self h2, recv, true_and]
    refine ⟨.int (10 ^ 18), by simp [sem2], decide (10 ^ 18 ≤ n), rfl, ?_⟩
    simp only [List.length_cons] at hle
    refine ite2 (fun _ => ?_) fun _ => ?_
    · refine ⟨by rw [List.length_map, sizeLine_eq]; omega, ?_⟩
      have := great_loop hl ns (acc ++ [n]) k (by simp; omega) hk
      simp only [List.map_append, List.map_cons, List.map_nil] at this
      exact this
    · exact great_loop hl ns acc k (by omega) hk
section
variable {P : Program} {w : World} {K : PySem.W.Frag} {mg : Str → Option Value} {base : Heap} {xr : XRep}
theorem beg_ok {a : Addr} {fd : FuncData} (Fu : FunD K "_law_draw" "_law_draw" (defArgs sBeg) (defBody sBeg) (defScope sBeg) [] [] a fd) (blt : ∀ x ∈ bltNames, mg x = none) :
    FnG P w K mg base 1 a fd begPs (spBeg K) := by
  obtain ⟨oc, od, dV, kV, doc, pm, an, cdv, ct, osl, rfl, lk, hcd, _, _⟩ := Fu.ex
  refine fnG_of (N := begN) lk hcd scBeg (fun vs H Q E h => ?_) fun A outer s H vs Q E md hr hg hsp => ?_
  · obtain ⟨v, ns, k, rfl, _⟩ := h
    rfl
  have hh : HereS (cxOf (L2.CX P w) P w K mg base begN "_law_draw" (defScope sBeg) a cdv A outer s H E) noF begN (defScope sBeg) (fun _ => true) noC noX 0 _ := hereS_of scBeg hr hg blt noStatM
  have S := hh.toHere.site
  have nd : begN.Nodup := scBeg.nd
  have pvv : ∀ {i : Nat} {x : Str} {p : Pos}, chkV begN (defScope sBeg) i x = true → PE (cxOf (L2.CX P w) P w K mg base begN "_law_draw" (defScope sBeg) a cdv A outer s H E) (.Name x p) (tVar i) := fun h => pe_chkV (N := begN) S rfl h
  have pie : ∀ (t : IE) (e : Expr), chkIE begN (defScope sBeg) t e = true → PE (cxOf (L2.CX P w) P w K mg base begN "_law_draw" (defScope sBeg) a cdv A outer s H E) e (tIE t) := fun t e h => pe_ie (N := begN) S rfl t e h
  refine ⟨_, pss_cons (ps_set (i := 2) nd rfl (.inl rfl) (pe_ifExp (pt_cmpR (cmp_ok S (o := .ne) rfl) (pvv (i := 0) (by decide +kernel)) (pe_lst pa_nil) (marks_ok (by decide +kernel)))
      (pe_slice sl_list (pvv (i := 0) (by decide +kernel)) (po_some (pie (.v 1) _ (by decide +kernel))) (po_some (pie (.op .add (.v 1) (.c 9)) _ (by decide +kernel)))) (pe_lst (pa_cons pe_int pa_nil))))
    (pss_one (ps_ret (pe_lst (pa_cons (pvv (i := 2) (by decide +kernel)) (pa_cons (pie (.op .mul (.c 64) (.v 1)) _ (by decide +kernel)) (pa_cons pe_int (pa_cons (sO hh.toHere greatC _ (by decide +kernel)) pa_nil))))))), ?_⟩
  obtain ⟨v, ns, k, rfl, hn, hkn, rv, q⟩ := hsp
  -- from the cells on
  have fromC : ∀ (H1 : Hp) (c : Addr) (cs : List Int), Same H H1 → H c = none → H1 c = some (.lst (cs.map V.int)) → cs ≠ [] → cs.length ≤ 1000 →
      tRet (tLst (tCons (tVar 2) (tCons (tIE (.op .mul (.c 64) (.v 1))) (tCons (tC (.int 0)) (tCons (tO K noX noC (fun cls dd _ H' => E cls dd H') greatC) tNil))))) { nx := fun _ H' => Q .non H', rt := Q } [some v, some (.int (k : Nat)), some (.ref c), none] H1 := by
    intro H1 c cs s1 hc ec hne hlen
    refine ⟨_, rfl, 64 * (k : Int), ie_op (i := 64) (j := (k : Nat)) rfl rfl (s_mulL (by decide)), fun H2 s2 => ?_⟩
    have ec2 := s2 _ _ ec
    have rc : Rep K H2 (fun _ => False) (.ref c) (.list (cs.map .int)) := .lst (.inl ⟨.inl ec2, fun z => z⟩) (intsV_reps (intsV_map cs))
    have fr2 : Fr K { noG with H0 := H2, O0 := fun _ => False } [none, none, some (.val (.list (cs.map .int))), none] [some v, some (.int (k : Nat)), some (.ref c), none] H2 (fun _ => False) := by
      refine ⟨⟨.inl rfl, fun _ z => z.elim, fun _ z => z.elim, fun _ _ _ z => z.elim, fun _ _ _ _ => trivial, fun _ _ _ _ _ z => z.elim, fun _ _ _ z => z.elim⟩, rfl, fun _ _ h _ => h, fun _ h => h, fun _ z => z.elim, trivial, fun i s e => ?_, fun i j a ds es h1 _ _ _ => ?_⟩
      · match i, e with
        | 0, e => cases e
        | 1, e => cases e
        | 2, e => cases e; exact ⟨_, rfl, rc⟩
        | 3, e => cases e
        | i + 4, e => simp at e
      · match i, h1 with
        | 0, e => cases e
        | 1, e => cases e
        | 2, e => cases e
        | 3, e => cases e
        | i + 4, e => simp at e
    refine ⟨_, _, _, fun sl => ∃ ms : List Int, sl = .own (ms.map .int), fun _ => False, fr2, ?_, ?_, fun _ _ _ _ z => z.elim⟩
    · unfold greatC
      simp only [evO]
      rw [ev_comp]
      simp only [evI, ev, List.getElem?_cons_succ, List.getElem?_cons_zero]
      exact ⟨_, rfl, great_loop (acc := []) rfl cs _ (by simpa using hlen) fun ms => ⟨ms, rfl⟩⟩
    rintro sl u H3 O3 ⟨ms, rfl⟩ ow
    obtain ⟨gl, us, rfl, f1, f2, f3, f4⟩ := ow.rep
    obtain rfl := reps_ints f4
    have s3 := later_noG ow.lat
    have hgl : H2 gl = none := f3
    have hcg : c ≠ gl := fun z => by rw [z, hgl] at ec2; cases ec2
    refine ⟨by show 4 ≤ sizeLine; decide, fun am ham => ?_⟩
    have s4 : Same H3 (upd H3 am (.lst [.ref c, .int (64 * (k : Int)), .int 0, .ref gl])) := same_upd ham
    have ne1 : am ≠ c := fun z => by rw [z, s3 _ _ ec2] at ham; cases ham
    have ne2 : am ≠ gl := fun z => by rw [z, f1] at ham; cases ham
    have old : ∀ b, H3 b = none → H b = none := fun b e => by
      cases y : H b with
      | none => rfl
      | some u => rw [s3 _ _ (s2 _ _ (s1 _ _ y))] at e; cases e
    have oldg : H gl = none := by
      cases y : H gl with
      | none => rfl
      | some u => rw [s2 _ _ (s1 _ _ y)] at hgl; cases hgl
    exact q am c gl _ ne1 ne2 hcg (old am ham) hc oldg (s1.trans (s2.trans (s3.trans s4))) ⟨cs, ms, _, 0, hne, upd_same, s4 _ _ (s3 _ _ ec2), s4 _ _ f1⟩
  refine ⟨v, rfl, Nat.zero_le _, fun p hp => ?_⟩
  have s1 : Same H (upd H p (.lst [])) := same_upd hp
  have pp : (upd H p (.lst [])) p = some (.lst []) := upd_same
  generalize upd H p (.lst []) = H1 at s1 pp ⊢
  have rv1 := Rep.ext (Ext.same s1) _ _ rv
  refine ⟨noG, fun _ => False, .list (ns.map .int), .list [], .bool (!ns.isEmpty), fun _ z => z.elim, Rep.r (Γ := noG) (fun _ z => z) rv1, ⟨p, [], rfl, .inl ⟨.inl pp, fun z => z⟩, .nil⟩, ?_, fun v' H2 s2 r2 => ?_⟩
  · simp only [sem2]
    rw [if_pos (.inr ⟨shapedI ns, by decide⟩), eqvNil]
  cases r2
  refine ⟨_, rfl, ?_⟩
  have rv2 := Rep.ext (Ext.same s2) _ _ rv1
  have old : ∀ b, H2 b = none → H b = none := fun b e => by
    cases y : H b with
    | none => rfl
    | some u => rw [s2 _ _ (s1 _ _ y)] at e; cases e
  cases rv2 with
  | @lst a0 xs _ t1 rs =>
  obtain rfl := reps_ints rs
  by_cases hns : ns = []
  · subst hns
    refine iteF ⟨by show 1 ≤ sizeLine; decide, fun c hc => ?_⟩
    have s3 : Same H2 (upd H2 c (.lst [.int 0])) := same_upd hc
    exact fromC _ c [0] (s1.trans (s2.trans s3)) (old c hc) upd_same (by simp) (by simp)
  · have : (!ns.isEmpty) = true := by simp [hns]
    have hk : k < ns.length := by rcases hkn with z | z; exact absurd z hns; exact z
    refine ite2 (fun _ => ?_) fun z => absurd this z
    refine ⟨_, rfl, (k : Int), rfl, fun H3 s3 => ⟨(k : Int), rfl, ?_⟩⟩
    refine ⟨(k : Int) + 9, ie_op (i := (k : Int)) (j := 9) rfl rfl (s_add _ _), fun H4 s4 => ⟨(k : Int) + 9, rfl, a0, _, rfl, (s3.trans s4).seq t1.sq, fun c hc => ?_⟩⟩
    have s5 : Same H4 (upd H4 c (.lst (cutV (ns.map V.int) (some (k : Int)) (some ((k : Int) + 9))))) := same_upd hc
    have ecut : cutV (ns.map V.int) (some (k : Int)) (some ((k : Int) + 9)) = (cutD ns (some (k : Int)) (some ((k : Int) + 9))).map V.int := by
      unfold cutV cutD
      rw [List.length_map, List.map_take, List.map_drop]
    have old4 : H c = none := old c (by
      cases y : H2 c with
      | none => rfl
      | some u => rw [s4 _ _ (s3 _ _ y)] at hc; cases hc)
    have hle : (cutD ns (some (k : Int)) (some ((k : Int) + 9))).length ≤ 1000 := by
      unfold cutD
      rw [List.length_take, List.length_drop]; omega
    have hne : cutD ns (some (k : Int)) (some ((k : Int) + 9)) ≠ [] := by
      have e9 : ((k : Int) + 9) = ((k + 9 : Nat) : Int) := by omega
      intro z
      have z2 := congrArg List.length z
      unfold cutD at z2
      rw [e9, HT.sIx_nat, HT.sIx_nat, List.length_take, List.length_drop] at z2
      simp only [List.length_nil] at z2
      omega
    refine fromC _ c _ (s1.trans (s2.trans (s3.trans (s4.trans s5)))) old4 ?_ hne hle
    rw [← ecut]
    exact upd_same
end
end Tk
/-! K6: the law of k15 keeps its promise, from what the core says. -/
namespace Tk
open PySem PySem.Spec PyProof.Rows L2
abbrev sLaw : Stmt := top 14
def lawN : List Str := ["_law_script", "_law_k", "_law_draw_here", "_law_scheme_here", "_law_term_here", "_law_saying", "_law_thing"]
def lawPs : List Str := ["_law_script"]
theorem scLaw : FnScope lawN lawPs (defScope sLaw) := scope_by (by decide +kernel)
def forBody : Stmt → List Stmt
  | .For _ _ b _ _ => b
  | _ => []
def turnB : List Stmt := (forBody ((defBody sLaw).getD 0 (.Pass ⟨0, 0, 0, 0⟩))).drop 1
/-- a turn, behind its first statement -/
def turnC : CS := sq [.asg (.name 3) (.call f__law_scheme (args [.var 2])),
  .asg (.name 4) (.call f__law_term (args [.var 2, .var 3, .call f__law_a_kind (args [.var 2, .var 3]), i_ 3])),
  .asg (.name 5) (.call f__law_said (args [.var 2, .var 3, .var 4, .call f__law_next (args [.var 2, i_ 12])])),
  .for_ (.name 6) (.iter (.tup (args [.var 4, .var 5, .tup (args [s_ "sort", .op2 .ix (.op2 .ix (.var 3) (i_ 0)) (i_ 0)])])))
    (sq [.ite (.op2 .ne (.op1 .repr (.tup (args [.call f_depth (args [.var 6]), .call f_weight (args [.var 6])]))) (.op1 .repr (.call f__law_counted (args [.var 6])))) (sq [.ret (.const (.bool false))]) .nop])]
theorem turn_chk : chkSs (tabF tab) lawN (defScope sLaw) (fun _ => true) turnC turnB = true := by decide +kernel
def lv : Nat := 40
def noGl : Str → Option D := fun _ => none
def cfg : Cfg := ⟨callW tab noGl lv, noGl⟩
def δT (d : D) : Dl := [some (.val d), none, some .st, none, none, none, none]
def upC : CE := .op2 .max2 (i_ 1) (.op2 .min2 (i_ 63) (.op1 .len (.var 0)))
def spLaw (K : PySem.W.Frag) : Sp := fun vs H Q _ => ∃ (a : Addr) (ns : List Int), vs = [.ref a] ∧ ns.length ≤ 63 ∧ Only H ∧ SqL K H a (ns.map V.int) ∧ ∀ H', Q (.bl true) H'
theorem stw_ok {am cl gl : Addr} {H : Hp} (n1 : am ≠ cl) (n2 : am ≠ gl) (n3 : cl ≠ gl) (w : StW am cl gl H) : Gh.Ok ⟨H, fun b => b = am ∨ b = cl ∨ b = gl, fun b => b = am ∨ b = cl ∨ b = gl, StW am cl gl, .ref am⟩ := by
  have tr : ∀ H b, StW am cl gl H → (b = am ∨ b = cl ∨ b = gl) → ∃ xs, H b = some (.lst xs) := by
    rintro H b ⟨cs, gs, a, b', h0, h1, h2, h3⟩ (rfl | rfl | rfl)
    · exact ⟨_, h1⟩
    · exact ⟨_, h2⟩
    · exact ⟨_, h3⟩
  refine ⟨.inr ⟨am, cl, gl, n1, n2, n3, rfl, rfl, rfl⟩, fun b h => h, fun b h e => ?_, fun H w b h e => ?_, fun H H' h w => ?_, fun H H' w _ b h xs e => ?_, fun H b w h o u e => ?_⟩
  · have e' : H b = none := e
    obtain ⟨_, z⟩ := tr H b w h
    rw [e'] at z; cases z
  · obtain ⟨_, z⟩ := tr H b w h
    rw [e] at z; cases z
  · obtain ⟨cs, gs, a, b', h0, h1, h2, h3⟩ := w
    exact ⟨cs, gs, a, b', h0, by rw [h am (.inl rfl)]; exact h1, by rw [h cl (.inr (.inl rfl))]; exact h2, by rw [h gl (.inr (.inr rfl))]; exact h3⟩
  · obtain ⟨_, z⟩ := tr H b w h
    rw [e] at z; cases z
  · obtain ⟨_, z⟩ := tr H b w h
    rw [e] at z; cases z
section
variable {P : Program} {w : World} {K : PySem.W.Frag} {mg : Str → Option Value} {base : Heap}
theorem law_ok {a aB : Addr} {fd fdB : FuncData} (pure : ∀ (d : D) (E : En), (∀ δ' : Dl, δ'.length = 7 → δ'[0]? = some (some (.val d)) → E.nx δ') → ex cfg turnC (δT d) E)
    (tb : Tab mg K P w tab noGl noX) (Fu : FunD K "law" "law" (defArgs sLaw) (defBody sLaw) (defScope sLaw) [] [] a fd)
    (FB : FunD K "_law_draw" "_law_draw" (defArgs sBeg) (defBody sBeg) (defScope sBeg) [] [] aB fdB) (gB : mg "_law_draw" = some (.ref aB)) :
    FnG P w K mg base (lv + 1) a fd lawPs (spLaw K) := by
  have blt := tb.blt
  have GB : FnG P w K mg base lv aB fdB begPs (spBeg K) := (beg_ok FB blt).mono (by decide)
  have bB : Binds K fdB begPs [] := FB.bindsN fun _ _ _ _ _ _ us hl => match us, hl with | [_, _], _ => rfl
  have kB := FB.kp
  obtain ⟨oc, od, dV, kV, doc, pm, an, cdv, ct, osl, rfl, lk, hcd, _, _⟩ := Fu.ex
  refine fnG_of (N := lawN) lk hcd scLaw (fun vs H Q E h => ?_) fun A outer s H vs Q E md hr hg hsp => ?_
  · obtain ⟨v, ns, rfl, _⟩ := h
    rfl
  have hh : HereS (cxOf (L2.CX P w) P w K mg base lawN "law" (defScope sLaw) a cdv A outer s H E) (tabF tab) lawN (defScope sLaw) (fun _ => true) cfg noX lv _ :=
    hereS_of scLaw hr hg blt ⟨tb.glob, tb.xm, fun f nm np hF ss k x h => callW_len hF h, fun f nm np hF => sound tb base lv f nm np hF⟩
  have S := hh.toHere.site
  have nd : lawN.Nodup := scLaw.nd
  refine ⟨_, pss_cons (ps_for hh.po S.calm (pi_range3 (S.gl (by decide +kernel)) (blt _ (by decide +kernel)) (pa_cons pe_int (pa_cons (sE hh.toHere false upC _ (by decide +kernel)) (pa_cons pe_int pa_nil)))) (pg_name (i := 1) nd rfl (.inl rfl))
      (pss_cons (ps_set (i := 2) nd rfl (.inl rfl) (pe_callG hh.toHere gB kB bB GB (by decide +kernel) (by decide +kernel) (by decide +kernel) (pa_cons (pe_chkV (N := lawN) (i := 0) S rfl (by decide +kernel)) (pa_cons (pe_chkV (N := lawN) (i := 1) S rfl (by decide +kernel)) pa_nil))))
      (sSs hh turnC turnB turn_chk)) (fun y => rfl))
    (pss_one (ps_ret pe_bl)), ?_⟩
  obtain ⟨as, ns, rfl, hn, ho, hs, q⟩ := hsp
  have rv : Rep K H (fun _ => False) (.ref as) (.list (ns.map .int)) := by
    refine .lst ?_ (intsV_reps (intsV_map ns))
    rcases hs with hs | hs
    · exact .inl ⟨hs, fun z => z⟩
    · exact .inr hs
  have fr0 := fr_start (K := K) (Γ := noG) (N := lawN) (ss := [.val (.list (ns.map .int))]) (vs := [.ref as]) noG_ok trivial (fun _ z => z.elim) (fun _ z => z.elim) (.cons rv .nil) (by show 1 ≤ 7; decide)
  obtain ⟨up, hup⟩ : ∃ up : Nat, up = max 1 ns.length := ⟨_, rfl⟩
  refine ⟨_, _, _, fun d => d = .int (up : Nat), fun _ => False, fr0, ?_, fun d v H1 hd l1 rp => ?_, fun _ _ _ _ z => z.elim⟩
  · have e0 : (startD lawN.length [Slot.val (.list (ns.map PyData.int))])[0]? = some (some (.val (.list (ns.map PyData.int)))) := rfl
    simp only [upC, i_, ev, recv, true_and, e0, sem1, lenD, Option.map_some, sem2, Option.some.injEq, exists_eq_left', List.length_map]
    rw [hup]
    congr 1
    split <;> split <;> omega
  subst hd
  cases rp
  have s1 := later_noG l1
  have hb : up ≤ 63 := by omega
  have small : ∀ u : Nat, u < 64 → Builtin.Range.small 0 (u : Int) 9 = true ∧ Builtin.Range.rangeSize 0 (u : Int) 9 = (((u + 8) / 9 : Nat) : Int) := by decide +kernel
  refine ⟨0, (up : Nat), 9, (up + 8) / 9, rfl, ⟨by decide, by decide, (small up (by omega)).1, (small up (by omega)).2⟩, ?_⟩
  refine for_it walk_rangeC (fun i σ' H' => σ'.length = 7 ∧ (∃ v, σ'[0]? = some (some v) ∧ Rep K H' (fun _ => False) v (.list (ns.map .int)))) ⟨rfl, _, rfl, Rep.ext (Ext.same s1) _ _ rv⟩ (fun _ _ _ _ _ => trivial) ?_ ?_
  · rintro i y σ' H2 H3 hi ⟨hl, v, hv, rv2⟩ ⟨rfl, rfl⟩
    have e9 : (0 + (i : Int) * 9) = ((i * 9 : Nat) : Int) := by omega
    show tSeq _ _ _ (σ'.set 1 (some (.int (0 + (i : Int) * 9)))) H3
    rw [e9]
    refine ⟨v, by rw [List.getElem?_set_ne (by decide)]; exact hv, .int ((i * 9 : Nat) : Int), by rw [List.getElem?_set_self (by omega)], ?_⟩
    refine ⟨v, ns, i * 9, rfl, by omega, ?_, rv2, fun am cl gl H4 n1 n2 n3 f1 f2 f3 s4 w4 => ?_⟩
    · cases ns with
      | nil => exact .inl rfl
      | cons n ns => right; simp only [List.length_cons] at hup ⊢; omega
    have gok := stw_ok n1 n2 n3 w4
    have xx : Ext H3 H4 (fun _ => False) (fun b => b = am ∨ b = cl ∨ b = gl) := ⟨fun b u h _ => s4 b u h, fun b h => .inr (by rcases h with rfl | rfl | rfl <;> assumption), fun b xs h => s4 b _ h, fun b o u h => s4 b _ h⟩
    have fr4 : Fr K ⟨H4, fun b => b = am ∨ b = cl ∨ b = gl, fun b => b = am ∨ b = cl ∨ b = gl, StW am cl gl, .ref am⟩ (δT (.list (ns.map .int))) ((σ'.set 1 (some (.int ((i * 9 : Nat) : Int)))).set 2 (some (.ref am))) H4 (fun b => b = am ∨ b = cl ∨ b = gl) := by
      refine ⟨gok, by simp [δT, hl], fun _ _ h _ => h, fun _ h => h, gok.ot, w4, fun j s e => ?_, fun j k b ds es e _ _ _ => ?_⟩
      · match j, e with
        | 0, e =>
          cases e
          exact ⟨v, by rw [List.getElem?_set_ne (by decide), List.getElem?_set_ne (by decide)]; exact hv, Rep.ext xx _ _ rv2⟩
        | 2, e =>
          cases e
          exact ⟨.ref am, by rw [List.getElem?_set_self (by simp; omega)], rfl, by simp⟩
        | 1, e => cases e
        | 3, e => cases e
        | 4, e => cases e
        | 5, e => cases e
        | 6, e => cases e
        | _ + 7, e => cases e
      · match j, e with
        | 0, e => cases e
        | 2, e => cases e
        | 1, e => cases e
        | 3, e => cases e
        | 4, e => cases e
        | 5, e => cases e
        | 6, e => cases e
        | _ + 7, e => cases e
    refine ⟨_, _, _, ⟨fun δ' => δ'.length = 7 ∧ δ'[0]? = some (some (.val (.list (ns.map .int)))), fun _ => False, fun _ => False, fun _ => False, fun _ _ => False⟩, fr4, pure _ _ fun δ' h1 h2 => ⟨h1, h2⟩, ?_⟩
    refine ⟨fun δ' σ5 H5 O5 hk f5 x5 => ?_, fun _ _ _ z => z.elim, fun _ _ _ _ z => z.elim, fun _ _ _ _ z => z.elim, fun _ _ _ _ _ _ _ z => z.elim⟩
    obtain ⟨v5, e5, r5⟩ := f5.slot 0 _ hk.2
    exact ⟨by rw [← f5.len]; exact hk.1, v5, e5, Rep.ext (Ext.sub fun b z => z.elim) _ _ r5⟩
  · rintro σ' H2 _
    exact q H2
end
end Tk
/-! the head of k15. -/
namespace Tk
open PySem PySem.Spec PyProof.Rows L2
def dd (x : Str) (i : Nat) : He.DefD := ⟨(x, none), x, x, defArgs (top i), defBody (top i), defScope (top i), [], []⟩
theorem no_prim {P : Program} {w : World} {K : PySem.W.Frag} {mg : Str → Option Value} {base : Heap} {lvl f np : Nat} {a : Addr} {fd : FuncData} {ps : List Str} {xr : XRep} : FnG P w K mg base lvl a fd ps (spC K xr (fun _ ss k x => ss.length = np ∧ False) f np) :=
  ⟨fun vs H Q E ⟨_, _, _, _, _, _, _, _, _, _, _, h, _⟩ => h.2.elim, fun A outer s H args us vs Q E _ _ _ _ _ ⟨_, _, _, _, _, _, _, _, _, _, _, h, _⟩ => h.2.elim⟩
def fnD : List He.DefD := [dd "depth" 1, dd "weight" 2, dd "_law_mixed" 4, dd "_law_draw" 5, dd "_law_next" 6, dd "_law_names" 7, dd "_law_scheme" 8, dd "_law_plain" 9, dd "_law_term" 10, dd "_law_a_kind" 11, dd "_law_counted" 12, dd "_law_said" 13, dd "law" 14]
def faD : List He.Fa := [.glo "depth", .glo "weight", .glo "_law_mixed", .glo "_law_draw", .glo "_law_next", .glo "_law_names", .glo "_law_scheme", .glo "_law_plain", .glo "_law_term", .glo "_law_a_kind", .glo "_law_counted", .glo "_law_said", .glo "law"] ++ bltNames.map He.Fa.free
abbrev RW : PySem.W.OpenRow := PySem.W.OpenLaw.row PySem.Challenge.rw_tiekeep_k15_how_deep_and_how_heavy
abbrev hk : PySem.W.Hook := He.hookD 4 faD fnD
def ob (s : PySem.W.SharedT) : He.AlD := He.obsDG 4 faD fnD (HandSHeadRun.getT s)
theorem ob_eq (s : PySem.W.SharedT) : ob s = hk.obs s.abs := He.obsDG_eq (HandSHeadRun.getT_eq s)
def looseD : List Str := ["depth", "weight", "_law_mixed", "_law_draw", "_law_next", "_law_names", "_law_scheme", "_law_plain", "_law_term", "_law_a_kind", "_law_counted", "_law_said"]
theorem run (w : World) : HandSHeadRun.RunEq RW (PySem.W.view RW.prog [14]) hk ob 2000 looseD w := by
  intro os
  kernel_rfl
theorem facts {P : Program} {w : World} {K : PySem.W.Frag} {h : Heap} {mg : Str → Option Value} {f : Addr} (X : K.In h) (G : h.Ns mainGlobals mg) (hfa : mg ("law" : Str) = some (.ref f)) (c : He.SaysD faD fnD K) (pure : ∀ (d : D) (E : En), (∀ δ' : Dl, δ'.length = 7 → δ'[0]? = some (some (.val d)) → E.nx δ') → ex cfg turnC (δT d) E) :
    ∃ fd : FuncData, (∀ (s : Shared) (v : Value), BindsTo s fd ⟨[v], []⟩ [("_law_script", v)]) ∧ ∀ base : Heap, FnG P w K mg base (lv + 1) f fd lawPs (spLaw K) := by
  obtain ⟨fd_depth, F_depth⟩ := c.def_ 0 (d := dd "depth" 1) rfl
  have g_depth := He.glo_ok X G (c.fact 0 (f := .glo "depth") rfl)
  obtain ⟨fd_weight, F_weight⟩ := c.def_ 1 (d := dd "weight" 2) rfl
  have g_weight := He.glo_ok X G (c.fact 1 (f := .glo "weight") rfl)
  obtain ⟨fd__law_mixed, F__law_mixed⟩ := c.def_ 2 (d := dd "_law_mixed" 4) rfl
  have g__law_mixed := He.glo_ok X G (c.fact 2 (f := .glo "_law_mixed") rfl)
  obtain ⟨fd__law_draw, F__law_draw⟩ := c.def_ 3 (d := dd "_law_draw" 5) rfl
  have g__law_draw := He.glo_ok X G (c.fact 3 (f := .glo "_law_draw") rfl)
  obtain ⟨fd__law_next, F__law_next⟩ := c.def_ 4 (d := dd "_law_next" 6) rfl
  have g__law_next := He.glo_ok X G (c.fact 4 (f := .glo "_law_next") rfl)
  obtain ⟨fd__law_names, F__law_names⟩ := c.def_ 5 (d := dd "_law_names" 7) rfl
  have g__law_names := He.glo_ok X G (c.fact 5 (f := .glo "_law_names") rfl)
  obtain ⟨fd__law_scheme, F__law_scheme⟩ := c.def_ 6 (d := dd "_law_scheme" 8) rfl
  have g__law_scheme := He.glo_ok X G (c.fact 6 (f := .glo "_law_scheme") rfl)
  obtain ⟨fd__law_plain, F__law_plain⟩ := c.def_ 7 (d := dd "_law_plain" 9) rfl
  have g__law_plain := He.glo_ok X G (c.fact 7 (f := .glo "_law_plain") rfl)
  obtain ⟨fd__law_term, F__law_term⟩ := c.def_ 8 (d := dd "_law_term" 10) rfl
  have g__law_term := He.glo_ok X G (c.fact 8 (f := .glo "_law_term") rfl)
  obtain ⟨fd__law_a_kind, F__law_a_kind⟩ := c.def_ 9 (d := dd "_law_a_kind" 11) rfl
  have g__law_a_kind := He.glo_ok X G (c.fact 9 (f := .glo "_law_a_kind") rfl)
  obtain ⟨fd__law_counted, F__law_counted⟩ := c.def_ 10 (d := dd "_law_counted" 12) rfl
  have g__law_counted := He.glo_ok X G (c.fact 10 (f := .glo "_law_counted") rfl)
  obtain ⟨fd__law_said, F__law_said⟩ := c.def_ 11 (d := dd "_law_said" 13) rfl
  have g__law_said := He.glo_ok X G (c.fact 11 (f := .glo "_law_said") rfl)
  obtain ⟨fd_law, F_law⟩ := c.def_ 12 (d := dd "law" 14) rfl
  have e := hfa.symm.trans (He.glo_ok X G (c.fact 12 (f := .glo "law") rfl))
  cases e
  have blt : ∀ x ∈ bltNames, mg x = none := fun x hx => He.free_ok X G (c.facts (f := .free x) (List.mem_append_right _ (List.mem_map_of_mem hx)))
  have tb : Tab mg K P w tab noGl noX := by
    refine ⟨blt, fun x d h => (nomatch (show (none : Option D) = some d from h)), fun _ _ _ _ _ _ _ h => h.elim, fun i d e => ?_, fun i nm np lvl sem e => ?_⟩
    · match i, e with
      | 0, e => cases e; exact ⟨ok_depth, _, _, g_depth, F_depth⟩
      | 1, e => cases e; exact ⟨ok_weight, _, _, g_weight, F_weight⟩
      | 2, e => cases e
      | 3, e => cases e
      | 4, e => cases e
      | 5, e => cases e
      | 6, e => cases e; exact ⟨ok__law_scheme, _, _, g__law_scheme, F__law_scheme⟩
      | 7, e => cases e; exact ⟨ok__law_plain, _, _, g__law_plain, F__law_plain⟩
      | 8, e => cases e; exact ⟨ok__law_term, _, _, g__law_term, F__law_term⟩
      | 9, e => cases e; exact ⟨ok__law_a_kind, _, _, g__law_a_kind, F__law_a_kind⟩
      | 10, e => cases e; exact ⟨ok__law_counted, _, _, g__law_counted, F__law_counted⟩
      | 11, e => cases e; exact ⟨ok__law_said, _, _, g__law_said, F__law_said⟩
      | 12, e => cases e
      | i + 13, e => simp [tab] at e
    · match i, e with
      | 0, e => cases e
      | 1, e => cases e
      | 2, e => cases e; exact ⟨_, _, _, g__law_mixed, F__law_mixed.kp, rfl, F__law_mixed.bindsN (ps := ["_law_cell", "_law_k"]) fun _ _ _ _ _ _ us hl => match us, hl with | [_, _], _ => rfl, fun base => no_prim⟩
      | 3, e => cases e; exact ⟨_, _, _, g__law_draw, F__law_draw.kp, rfl, F__law_draw.bindsN (ps := ["_law_script", "_law_k"]) fun _ _ _ _ _ _ us hl => match us, hl with | [_, _], _ => rfl, fun base => no_prim⟩
      | 4, e => cases e; exact ⟨_, _, _, g__law_next, F__law_next.kp, rfl, F__law_next.bindsN (ps := ["_law_draw_here", "_law_many"]) fun _ _ _ _ _ _ us hl => match us, hl with | [_, _], _ => rfl, fun base => next_ok F__law_next blt F__law_mixed g__law_mixed⟩
      | 5, e => cases e; exact ⟨_, _, _, g__law_names, F__law_names.kp, rfl, F__law_names.bindsN (ps := ["_law_draw_here", "_law_many"]) fun _ _ _ _ _ _ us hl => match us, hl with | [_, _], _ => rfl, fun base => names_ok F__law_names blt (fun base => next_ok F__law_next blt F__law_mixed g__law_mixed) (F__law_next.bindsN fun _ _ _ _ _ _ us hl => match us, hl with | [_, _], _ => rfl) F__law_next.kp g__law_next⟩
      | 6, e => cases e
      | 7, e => cases e
      | 8, e => cases e
      | 9, e => cases e
      | 10, e => cases e
      | 11, e => cases e
      | 12, e => cases e; exact ⟨_, _, _, hfa, F_law.kp, rfl, F_law.bindsN (ps := ["_law_script"]) fun _ _ _ _ _ _ us hl => match us, hl with | [_], _ => rfl, fun base => no_prim⟩
      | i + 13, e => simp [tab] at e
  have b := FunD.bindsA (ps := ["_law_script"]) F_law fun _ _ _ _ _ _ us hl => match us, hl with | [_], _ => rfl
  exact ⟨fd_law, fun s v => b s [v] rfl, fun base => law_ok pure tb F_law F__law_draw g__law_draw⟩
end Tk
open PySem PySem.W PySem.Calls PyProof.Rows
theorem law_of (pure : ∀ (d : Tk.D) (E : Tk.En), (∀ δ' : Tk.Dl, δ'.length = 7 → δ'[0]? = some (some (.val d)) → E.nx δ') → Tk.ex Tk.cfg Tk.turnC (Tk.δT d) E) : PySem.Challenge.rw_tiekeep_k15_how_deep_and_how_heavy.Holds := by
  w_on; o_law
  refine HandSHeadRun.head_any (r := OpenLaw.row PySem.Challenge.rw_tiekeep_k15_how_deep_and_how_heavy) (q := view (OpenLaw.row PySem.Challenge.rw_tiekeep_k15_how_deep_and_how_heavy).prog [14]) (H := Tk.hk) (ob := Tk.ob) (M := 2000) (loose := Tk.looseD) (d := HandSHeadRun.topDef (OpenLaw.row PySem.Challenge.rw_tiekeep_k15_how_deep_and_how_heavy).prog 14) (kwd := []) Tk.ob_eq
    (by kernel_rfl) (fun s => by kernel_rfl) Tk.run (by kernel_rfl) (by kernel_rfl) (by kernel_rfl) (by rfl) (by first | assumption | decide +kernel) (by decide +kernel) ⟨rfl, rfl, rfl, rfl, rfl, by decide +kernel⟩ ?hw ?hc
  case hw => w_witness2
  case hc =>
    refine Tk.walk_ofG (l := PySem.Challenge.rw_tiekeep_k15_how_deep_and_how_heavy) (n := 63) (k := Tk.lv + 1) (x := "_law_script") rfl (by decide) (by kernel_rfl) ⟨rfl, by decide, by decide⟩ ?F
    intro w mg fa h Y G hmg0
    obtain ⟨K, KX, c⟩ := Y
    have hmg : mg ("law" : PySem.Str) = some (.ref fa) := by
      have e : (HandSHeadRun.topDef (OpenLaw.row PySem.Challenge.rw_tiekeep_k15_how_deep_and_how_heavy).prog 14).name = ("law" : PySem.Str) := by kernel_rfl
      rw [← e]
      exact hmg0
    obtain ⟨fd, hb, hF⟩ := Tk.facts (P := (PySem.Challenge.rw_tiekeep_k15_how_deep_and_how_heavy).prog) (w := w) KX G hmg c pure
    exact ⟨K, fd, Tk.spLaw K, KX, hb, fun H a ns hl hO hS => ⟨a, ns, rfl, hl, hO, hS, fun _ => rfl⟩, hF⟩
/-! K8: the plain law of k15, first part: how deep, how heavy. -/
namespace Tk
open PySem PySem.Spec PyProof.Rows L2
mutual
def dp : D → Nat
  | .tuple ds => 1 + dpL ds
  | _ => 0
def dpL : List D → Nat
  | [] => 0
  | d :: ds => max (dp d) (dpL ds)
end
mutual
def wt : D → Nat
  | .tuple ds => 1 + wtL ds
  | _ => 0
def wtL : List D → Nat
  | [] => 0
  | d :: ds => wt d + wtL ds
end
mutual
def okD : D → Bool
  | .tuple ds => decide (ds.length ≤ 4) && okL ds
  | _ => true
def okL : List D → Bool
  | [] => true
  | d :: ds => okD d && okL ds
end
def isTp : D → Bool
  | .tuple _ => true
  | _ => false
theorem isi_tuple (d : D) : sem1 (.isi ["tuple"]) d = some (.bool (isTp d)) := by
  cases d <;> simp only [sem1, List.any_cons, List.any_nil, Bool.or_false, isiD, isTp] <;> first | rfl | (congr 1)
theorem dp_no {d : D} (h : isTp d = false) : dp d = 0 := by cases d <;> first | rfl | (simp [isTp] at h)
theorem wt_no {d : D} (h : isTp d = false) : wt d = 0 := by cases d <;> first | rfl | (simp [isTp] at h)
theorem okL_mem : ∀ {ds : List D}, okL ds = true → ∀ d ∈ ds, okD d = true
  | [], _, d, h => by simp at h
  | e :: ds, h, d, hd => by
    simp only [okL, Bool.and_eq_true] at h
    rcases List.mem_cons.mp hd with rfl | hd
    · exact h.1
    · exact okL_mem h.2 d hd
theorem dpL_mem : ∀ {ds : List D}, ∀ d ∈ ds, dp d ≤ dpL ds
  | [], d, h => by simp at h
  | e :: ds, d, hd => by
    simp only [dpL]
    rcases List.mem_cons.mp hd with rfl | hd
    · exact Nat.le_max_left _ _
    · exact Nat.le_trans (dpL_mem d hd) (Nat.le_max_right _ _)
/-- what a comprehension over the tuples in a thing tells -/
def part (f : D → Nat) (d : D) : Option D := if isTp d = true then some (.int (f d : Nat)) else none
theorem part_ints (f : D → Nat) : ∀ ds : List D, ds.filterMap (part f) = ((ds.filter isTp).map fun d => ((f d : Nat) : Int)).map .int
  | [] => rfl
  | d :: ds => by
    rw [List.filterMap_cons, List.filter_cons, part_ints f ds]
    unfold part
    cases h : isTp d <;> simp
theorem max_fold : ∀ (is : List Int) (a : Int), 0 ≤ a → (∀ i ∈ is, 0 ≤ i) → is.foldl (fun a y => if a < y then y else a) a = max a (is.foldl (fun a y => max a y) 0)
  | [], a, h, _ => by simp; omega
  | i :: is, a, h, hi => by
    have h1 := hi i (by simp)
    have h2 : ∀ j ∈ is, 0 ≤ j := fun j hj => hi j (by simp [hj])
    have e : ∀ (b : Int), 0 ≤ b → is.foldl (fun a y => max a y) b = max b (is.foldl (fun a y => max a y) 0) := by
      have : ∀ (js : List Int) (b : Int), 0 ≤ b → (∀ j ∈ js, 0 ≤ j) → js.foldl (fun a y => max a y) b = max b (js.foldl (fun a y => max a y) 0) := by
        intro js
        induction js with
        | nil => intro b hb _; simp; omega
        | cons j js ih =>
          intro b hb hj
          have hj1 := hj j (by simp)
          have hj2 : ∀ z ∈ js, 0 ≤ z := fun z hz => hj z (by simp [hz])
          simp only [List.foldl_cons]
          rw [ih (max b j) (by omega) hj2, ih (max 0 j) (by omega) hj2]
          omega
      intro b hb
      exact this is b hb h2
    simp only [List.foldl_cons]
    rw [max_fold is _ (by split <;> omega) h2, e (max 0 i) (by omega)]
    split <;> omega
theorem max_parts : ∀ ds : List D, (((ds.filter isTp).map fun d => ((dp d : Nat) : Int)).foldl (fun a y => max a y) 0 : Int) = (dpL ds : Nat) := by
  have key : ∀ (ds : List D) (a : Nat), (((ds.filter isTp).map fun d => ((dp d : Nat) : Int)).foldl (fun a y => max a y) (a : Int) : Int) = ((max a (dpL ds) : Nat) : Int) := by
    intro ds
    induction ds with
    | nil => intro a; simp [dpL]
    | cons d ds ih =>
      intro a
      rw [List.filter_cons]
      cases h : isTp d with
      | false => simp only [dpL, dp_no h]; rw [if_neg (by simp), ih]; simp
      | true =>
        rw [if_pos rfl, List.map_cons, List.foldl_cons]
        have : max (a : Int) ((dp d : Nat) : Int) = ((max a (dp d) : Nat) : Int) := by omega
        rw [this, ih]
        simp only [dpL]
        congr 1; omega
  intro ds
  have := key ds 0
  simpa using this
theorem maxI_parts (ds : List D) : maxI ((ds.filter isTp).map fun d => ((dp d : Nat) : Int)) = (dpL ds : Nat) := by
  rw [← max_parts]
  generalize e : ((ds.filter isTp).map fun d => ((dp d : Nat) : Int)) = is
  have hi : ∀ i ∈ is, 0 ≤ i := by
    subst e
    intro i h
    obtain ⟨d, _, rfl⟩ := List.mem_map.mp h
    omega
  cases is with
  | nil => rfl
  | cons i is =>
    have h1 := hi i (by simp)
    show is.foldl _ i = _
    rw [max_fold is i h1 fun j hj => hi j (by simp [hj]), List.foldl_cons]
    have := max_fold is (max 0 i) (by omega) fun j hj => hi j (by simp [hj])
    have e2 : ∀ (js : List Int) (b : Int), 0 ≤ b → (∀ j ∈ js, 0 ≤ j) → js.foldl (fun a y => max a y) b = max b (js.foldl (fun a y => max a y) 0) := by
      intro js
      induction js with
      | nil => intro b hb _; simp; omega
      | cons j js ih =>
        intro b hb hj
        have hj1 := hj j (by simp)
        have hj2 : ∀ z ∈ js, 0 ≤ z := fun z hz => hj z (by simp [hz])
        simp only [List.foldl_cons]
        rw [ih (max b j) (by omega) hj2, ih (max 0 j) (by omega) hj2]
        omega
    rw [e2 is (max 0 i) (by omega) fun j hj => hi j (by simp [hj])]
    omega
theorem sum_parts : ∀ ds : List D, ((ds.filter isTp).map fun d => ((wt d : Nat) : Int)).sum = (wtL ds : Nat)
  | [] => rfl
  | d :: ds => by
    rw [List.filter_cons]
    cases h : isTp d with
    | false => simp only [wtL, wt_no h]; rw [if_neg (by simp), sum_parts ds]; simp
    | true => rw [if_pos rfl, List.map_cons, List.sum_cons, sum_parts ds]; simp only [wtL]; omega
theorem tp_of {d : D} (h : isTp d = true) : ∃ ds, d = .tuple ds := by cases d <;> first | exact ⟨_, rfl⟩ | (simp [isTp] at h)
theorem depth_call : ∀ (n : Nat) (ds : List D) (k : Slot → Prop) (x : KX), okD (.tuple ds) = true → dp (.tuple ds) ≤ n → k (.val (.int (dp (.tuple ds) : Nat))) → callW tab noGl n f_depth [.val (.tuple ds)] k x
  | 0, ds, k, x, _, h, _ => by simp [dp] at h
  | n + 1, ds, k, x, ho, h, hk => by
    simp only [okD, Bool.and_eq_true, decide_eq_true_eq] at ho
    simp only [dp] at h hk
    refine call_code (d := d_depth) rfl rfl ?_
    show ex _ b_depth [some (.val (.tuple ds)), none] _
    simp only [b_depth, sq, ex, ev, i_, recv, true_and, args]
    rw [show evI _ true (.iter (.var 0)) [some (.val (.tuple ds)), none] _ _ = _ from rfl]
    simp only [evI, ev, List.getElem?_cons_zero, itemsD, Option.some.injEq, exists_eq_left']
    refine loop_fm (part dp) ds [] _ (by rw [sizeLine_eq]; simp; omega) (fun y hy acc k' ha h1 h2 => ?_) ?_
    · simp only [bindT, wipeD, List.length_set, List.length_cons, List.length_nil, List.set_set]
      refine ⟨by decide, ?_⟩
      simp only [evT, ev, isi_tuple, List.set_cons_succ, List.set_cons_zero, List.getElem?_cons_succ, List.getElem?_cons_zero, Option.some.injEq, PyData.bool.injEq, exists_eq_left']
      cases ht : isTp y with
      | false =>
        simp only [Bool.false_eq_true, if_false]
        exact h2 (by unfold part; rw [ht]; rfl)
      | true =>
        simp only [if_true]
        obtain ⟨es, rfl⟩ := tp_of ht
        simp only [evA, List.getElem?_cons_succ, List.getElem?_cons_zero]
        refine depth_call n es _ _ (okL_mem ho.2 _ hy) (by have := dpL_mem _ hy; omega) ⟨_, rfl, ha, h1 _ (by unfold part; rw [ht]; rfl)⟩
    · simp only [List.nil_append, sem1, part_ints, intsD_map, Option.map_some, Option.some.injEq, exists_eq_left', sem2, maxI_parts]
      show k _
      have : (1 + (dpL ds : Nat) : Int) = ((1 + dpL ds : Nat) : Int) := by omega
      rw [this]
      exact hk
theorem weight_call : ∀ (n : Nat) (ds : List D) (k : Slot → Prop) (x : KX), okD (.tuple ds) = true → dp (.tuple ds) ≤ n → k (.val (.int (wt (.tuple ds) : Nat))) → callW tab noGl n f_weight [.val (.tuple ds)] k x
  | 0, ds, k, x, _, h, _ => by simp [dp] at h
  | n + 1, ds, k, x, ho, h, hk => by
    simp only [okD, Bool.and_eq_true, decide_eq_true_eq] at ho
    simp only [dp] at h
    simp only [wt] at hk
    refine call_code (d := d_weight) rfl rfl ?_
    show ex _ b_weight [some (.val (.tuple ds)), none] _
    simp only [b_weight, sq, ex, ev, i_, recv, true_and, args]
    simp only [evI, ev, List.getElem?_cons_zero, itemsD, Option.some.injEq, exists_eq_left']
    refine loop_fm (part wt) ds [] _ (by rw [sizeLine_eq]; simp; omega) (fun y hy acc k' ha h1 h2 => ?_) ?_
    · simp only [bindT, wipeD, List.length_set, List.length_cons, List.length_nil, List.set_set]
      refine ⟨by decide, ?_⟩
      simp only [evT, ev, isi_tuple, List.set_cons_succ, List.set_cons_zero, List.getElem?_cons_succ, List.getElem?_cons_zero, Option.some.injEq, PyData.bool.injEq, exists_eq_left']
      cases ht : isTp y with
      | false =>
        simp only [Bool.false_eq_true, if_false]
        exact h2 (by unfold part; rw [ht]; rfl)
      | true =>
        simp only [if_true]
        obtain ⟨es, rfl⟩ := tp_of ht
        simp only [evA, List.getElem?_cons_succ, List.getElem?_cons_zero]
        refine weight_call n es _ _ (okL_mem ho.2 _ hy) (by have := dpL_mem _ hy; omega) ⟨_, rfl, ha, h1 _ (by unfold part; rw [ht]; rfl)⟩
    · simp only [List.nil_append, sem1, part_ints, intsD_map, Option.map_some, Option.some.injEq, exists_eq_left', sem2, sum_parts]
      show k _
      have : (1 + (wtL ds : Nat) : Int) = ((1 + wtL ds : Nat) : Int) := by omega
      rw [this]
      exact hk
theorem counted_call : ∀ (n : Nat) (ds : List D) (k : Slot → Prop) (x : KX), okD (.tuple ds) = true → dp (.tuple ds) ≤ n → k (.val (.tuple [.int (dp (.tuple ds) : Nat), .int (wt (.tuple ds) : Nat)])) → callW tab noGl n f__law_counted [.val (.tuple ds)] k x
  | 0, ds, k, x, _, h, _ => by simp [dp] at h
  | n + 1, ds, k, x, ho, h, hk => by
    simp only [okD, Bool.and_eq_true, decide_eq_true_eq] at ho
    simp only [dp] at h hk
    simp only [wt] at hk
    refine call_code (d := d__law_counted) rfl rfl ?_
    show ex _ b__law_counted [some (.val (.tuple ds)), none, none, none, none, none] _
    simp only [b__law_counted, sq]
    refine ex_seq fun E1 r1 _ _ _ n1 => ?_
    simp only [ex, args, evOs, evO, i_, ev, setAll, List.length_cons, List.length_nil, List.length_set, List.set_cons_succ, List.set_cons_zero, Nat.zero_add, Nat.reduceAdd, Nat.reduceLT, ↓reduceIte, Option.some.injEq, exists_eq_left']
    refine n1 _ (ex_seq fun E2 r2 _ _ _ n2 => ex_for fun L hL => ?_)
    simp only [evI, ev, List.getElem?_cons_zero, itemsD, Option.some.injEq, exists_eq_left']
    refine hL _ ?_
    refine loopS_inv (fun ys δ => ∃ (a b : Nat) (s1 s4 s5 : Option Slot), δ = [some (.val (.tuple ds)), s1, some (.val (.int (a : Nat))), some (.val (.int (b : Nat))), s4, s5] ∧ max a (dpL ys) = dpL ds ∧ b + wtL ys = 1 + wtL ds) ds _ ⟨0, 1, none, none, none, rfl, by simp, rfl⟩ ?_ ?_
    · rintro y ys δ ⟨a, b, s1, s4, s5, rfl, h1, h2⟩ hy E' hn hc hrt hbk hxc
      simp only [bindT, List.length_cons, List.length_nil, List.set_cons_succ, List.set_cons_zero]
      refine ⟨by decide, ex_seq fun E3 r3 _ _ _ n3 => ex_ite fun p p1 p2 => ?_⟩
      simp only [evT, ev, isi_tuple, List.getElem?_cons_succ, List.getElem?_cons_zero, Option.some.injEq, PyData.bool.injEq, exists_eq_left']
      simp only [dpL] at h1
      simp only [wtL] at h2
      refine if_ite p1 p2 ?_
      cases ht : isTp y with
      | false =>
        simp only [Bool.false_eq_true, if_false]
        have := dp_no ht
        have := wt_no ht
        exact n3 _ (hn _ ⟨a, b, some (.val y), s4, s5, rfl, by omega, by omega⟩)
      | true =>
        simp only [if_true]
        obtain ⟨es, rfl⟩ := tp_of ht
        refine ex_seq fun E4 r4 _ _ _ n4 => ?_
        simp only [ex, ev, args, evA, List.getElem?_cons_succ, List.getElem?_cons_zero]
        refine counted_call n es _ _ (okL_mem ho.2 _ hy) (by have := dpL_mem _ hy; omega) ⟨_, rfl, ?_⟩
        simp only [bindT, bindTs, List.length_cons, List.length_nil, List.length_set, List.set_cons_succ, List.set_cons_zero]
        refine ⟨by decide, by decide, n4 _ (ex_seq fun E5 r5 _ _ _ n5 => ?_)⟩
        simp only [ex, args, evOs, evO, ev, recv, true_and, List.getElem?_cons_succ, List.getElem?_cons_zero, sem2, Option.some.injEq, exists_eq_left', setAll, List.length_cons, List.length_nil, List.length_set, List.set_cons_succ, List.set_cons_zero, Nat.zero_add, Nat.reduceAdd, Nat.reduceLT, ↓reduceIte]
        refine n5 _ (n3 _ (hn _ ⟨max a (dp (.tuple es)), b + wt (.tuple es), some (.val (.tuple es)), some (.val (.int (dp (.tuple es) : Nat))), some (.val (.int (wt (.tuple es) : Nat))), ?_, by omega, by omega⟩))
        have e1 : (if ((dp (.tuple es) : Nat) : Int) > ((a : Nat) : Int) then ((dp (.tuple es) : Nat) : Int) else ((a : Nat) : Int)) = ((max a (dp (.tuple es)) : Nat) : Int) := by split <;> omega
        have e2 : ((b : Nat) : Int) + ((wt (.tuple es) : Nat) : Int) = ((b + wt (.tuple es) : Nat) : Int) := by omega
        rw [e1, e2]
    · rintro δ ⟨a, b, s1, s4, s5, rfl, h1, h2⟩
      simp only [dpL] at h1
      simp only [wtL] at h2
      refine n2 _ (ex_seq fun E6 r6 _ _ _ n6 => ?_)
      simp only [ex, ev, args, evA, recv, true_and, List.getElem?_cons_succ, List.getElem?_cons_zero, sem2, Option.some.injEq, exists_eq_left', i_, valsD, Option.map_some]
      refine ⟨by rw [sizeLine_eq]; simp, ?_⟩
      rw [r6]
      show k _
      have e1 : ((a : Nat) : Int) + 1 = ((1 + dpL ds : Nat) : Int) := by omega
      have e2 : ((b : Nat) : Int) = ((1 + wtL ds : Nat) : Int) := by omega
      rw [e1, e2]
      exact hk
end Tk
/-! K9: the plain law of k15, second part: schemes, kinds, plain terms. -/
namespace Tk
open PySem PySem.Spec PyProof.Rows L2
theorem pool_ok : ∀ x ∈ pool, PyData.strOk x = true := by decide +kernel
/-- comprehension with a test, drawn -/
theorem loop_sub {bd : D → List D → (List D → Prop) → Prop} (P : D → Prop) : ∀ (xs acc : List D) (k : List D → Prop), acc.length + xs.length ≤ sizeLine →
    (∀ y ∈ xs, ∀ (acc : List D) (k' : List D → Prop), acc.length < sizeLine → (∀ d, P d → k' (acc ++ [d])) → k' acc → bd y acc k') → (∀ ds, ds.length ≤ xs.length → (∀ d ∈ ds, P d) → k (acc ++ ds)) → loopC bd xs acc k
  | [], acc, k, _, _, hk => by simpa [loopC] using hk [] (by simp) (by simp)
  | y :: xs, acc, k, hl, h, hk => by
    simp only [List.length_cons] at hl
    simp only [loopC]
    refine h y (by simp) acc _ (by omega) (fun d e => ?_) ?_
    · refine loop_sub P xs _ k (by simp; omega) (fun z hz => h z (by simp [hz])) fun ds hd hp => ?_
      have := hk (d :: ds) (by simp [hd]) (fun z hz => (List.mem_cons.mp hz).elim (fun q => q ▸ e) (hp z))
      simpa using this
    · exact loop_sub P xs _ k (by omega) (fun z hz => h z (by simp [hz])) fun ds hd hp => hk ds (by simp; omega) hp
theorem next_call {m : Nat} {b : Int} {k : Slot → Prop} {x : KX} (h1 : 0 < b) (h2 : b < 1073741824) (h : ∀ r, 0 ≤ r → r < b → k (.val (.int r))) : callW tab noGl (m + 3) f__law_next [.st, .val (.int b)] k x :=
  ⟨by omega, rfl, b, rfl, h1, h2, h⟩
theorem names_call {m : Nat} {b : Int} {k : Slot → Prop} {x : KX} (h1 : 0 ≤ b) (h2 : b ≤ 14) (h : ∀ xs : List Str, xs.length = b.toNat → (∀ x ∈ xs, x ∈ pool) → k (.own (xs.map .str))) : callW tab noGl (m + 4) f__law_names [.st, .val (.int b)] k x :=
  ⟨by omega, rfl, b, rfl, h1, h2, h⟩
/-! what may be compared -/
theorem lay_strs : ∀ {xs : List Str}, (∀ x ∈ xs, x ∈ pool) → PyData.canLayAll0 (xs.map .str) = true
  | [], _ => rfl
  | x :: xs, h => by
    have := lay_strs (xs := xs) fun y hy => h y (by simp [hy])
    simp [PyData.canLayAll0, PyData.canLay0, pool_ok x (h x (by simp)), this]
theorem dep_strs : ∀ (xs : List Str), PyData.depthAll (xs.map .str) = 0
  | [] => rfl
  | x :: xs => by simp [PyData.depthAll, PyData.depth, dep_strs xs]
theorem shp_strs {xs : List Str} (h : ∀ x ∈ xs, x ∈ pool) : SeqAt.shaped (.tuple (xs.map .str)) = true := by
  simp [SeqAt.shaped, PyData.canLay0, lay_strs h, PyData.depth, dep_strs]
theorem shp_str {x : Str} (h : x ∈ pool) : SeqAt.shaped (.str x) = true := shapedS (pool_ok x h)
theorem sort_strs {xs : List Str} (h : ∀ x ∈ xs, x ∈ pool) : ∃ ys : List Str, sem1 .sorted (.list (xs.map .str)) = some (.list (ys.map .str)) ∧ ys.length = xs.length ∧ ∀ y ∈ ys, y ∈ pool := by
  have ok : sortOk (xs.map .str) = true := by
    simp only [sortOk, Bool.and_eq_true, Bool.or_eq_true, allShaped, List.all_map, List.all_eq_true]
    refine ⟨⟨fun x hx => shp_str (h x hx), fun x hx => by simp only [Function.comp, List.all_eq_true]; exact fun y hy => rfl⟩, .inr fun x hx => rfl⟩
  have hm : ∀ d ∈ sortD (xs.map PyData.str), ∃ y, d = .str y ∧ y ∈ pool := fun d hd => by
    obtain ⟨y, hy, rfl⟩ := List.mem_map.mp (sort_mem.mp hd)
    exact ⟨y, rfl, h y hy⟩
  have : ∀ ds : List D, (∀ d ∈ ds, ∃ y, d = .str y ∧ y ∈ pool) → ∃ ys : List Str, ds = ys.map .str ∧ ∀ y ∈ ys, y ∈ pool := by
    intro ds
    induction ds with
    | nil => intro _; exact ⟨[], rfl, by simp⟩
    | cons d ds ih =>
      intro hd
      obtain ⟨y, rfl, hy⟩ := hd d (by simp)
      obtain ⟨ys, rfl, hys⟩ := ih fun e he => hd e (by simp [he])
      exact ⟨y :: ys, rfl, by simpa using ⟨hy, hys⟩⟩
  obtain ⟨ys, e, hy⟩ := this _ hm
  refine ⟨ys, by simp only [sem1]; rw [if_pos ok, e], ?_, hy⟩
  have := congrArg List.length e
  rw [sort_len] at this
  simpa using this.symm
def IsKind (d : D) : Prop := ∃ xs : List Str, d = .tuple (xs.map .str) ∧ 1 ≤ xs.length ∧ xs.length ≤ 3 ∧ ∀ x ∈ xs, x ∈ pool
def IsTie (d : D) : Prop := ∃ (nm : Str) (c : D), d = .tuple [.str nm, c] ∧ nm ∈ pool ∧ IsKind c
structure Sch (d : D) (sorts : List Str) (ties : List D) : Prop where
  eq : d = .tuple [.tuple (sorts.map .str), .tuple ties]
  s1 : 1 ≤ sorts.length
  s3 : sorts.length ≤ 3
  sp : ∀ x ∈ sorts, x ∈ pool
  tl : ties.length ≤ 4
  tp : ∀ t ∈ ties, IsTie t
theorem many_ix {r : Int} (h0 : 0 ≤ r) (h1 : r < 4) : ∃ m : Nat, atI [PyData.int 2, .int 2, .int 1, .int 3] r = some (.int (m : Nat)) ∧ 1 ≤ m ∧ m ≤ 3 := by
  have : r = 0 ∨ r = 1 ∨ r = 2 ∨ r = 3 := by omega
  rcases this with rfl | rfl | rfl | rfl
  · exact ⟨2, rfl, by omega, by omega⟩
  · exact ⟨2, rfl, by omega, by omega⟩
  · exact ⟨1, rfl, by omega, by omega⟩
  · exact ⟨3, rfl, by omega, by omega⟩
/-- so many drawn sorts -/
theorem kind_ds : ∀ {ds : List D}, (∀ d ∈ ds, ∃ y, d = .str y ∧ y ∈ pool) → ∃ ys : List Str, ds = ys.map .str ∧ ∀ y ∈ ys, y ∈ pool
  | [], _ => ⟨[], rfl, by simp⟩
  | d :: ds, hd => by
    obtain ⟨y, rfl, hy⟩ := hd d (by simp)
    obtain ⟨ys, rfl, hys⟩ := kind_ds (ds := ds) fun e he => hd e (by simp [he])
    exact ⟨y :: ys, rfl, by simpa using ⟨hy, hys⟩⟩
theorem at_strs {xs : List Str} {r : Int} (h0 : 0 ≤ r) (h1 : r < xs.length) : ∃ y, atI (xs.map PyData.str) r = some (.str y) ∧ y ∈ xs := by
  obtain ⟨d, e, hd⟩ := at_nat (xs := xs.map PyData.str) h0 (by simpa using h1)
  obtain ⟨y, hy, rfl⟩ := List.mem_map.mp hd
  exact ⟨y, e, hy⟩
theorem a_kind_call {m : Nat} {d : D} {sorts : List Str} {ties : List D} {k : Slot → Prop} {x : KX} (hs : Sch d sorts ties) (h : ∀ c, IsKind c → k (.val c)) : callW tab noGl (m + 4) f__law_a_kind [.st, .val d] k x := by
  refine call_code (d := d__law_a_kind) rfl rfl ?_
  show ex _ b__law_a_kind [some .st, some (.val d), none, none] _
  have hd := hs.eq
  subst hd
  simp only [b__law_a_kind, sq]
  refine ex_seq fun E1 r1 _ _ _ n1 => ?_
  simp only [ex, ev, args, evA, evO, evOs, evT, evP, i_, s_, recv, true_and, List.getElem?_cons_succ, List.getElem?_cons_zero, Option.some.injEq, exists_eq_left', List.length_cons, List.length_nil, List.length_set, List.set_cons_succ, List.set_cons_zero, Nat.zero_add, Nat.reduceAdd, Nat.reduceLT, ↓reduceIte, q_addI, q_addS, q_addL, q_addT, q_sub, q_ltI, q_leI, q_gtI, q_geI, q_ltS, q_eqI, q_neI, q_ixL, q_ixT, q_max2, q_min2, q_lenL, q_lenT, q_lenS, q_tupL, q_tupT, q_lstT, q_lstL, q_revT, q_revL, q_notV, q_intB, q_isN, q_notN, q_slT, q_slL, at_0, at_1, at_2, at_3, List.length_map, valsD, Option.map_some, PyData.bool.injEq, PyData.int.injEq]
  refine ⟨by rw [sizeLine_eq]; decide, next_call (by decide) (by decide) fun r r0 r4 => ⟨_, rfl, ?_⟩⟩
  obtain ⟨mm, e, m1, m3⟩ := many_ix r0 r4
  simp only [q_addI, q_addS, q_addL, q_addT, q_sub, q_ltI, q_leI, q_gtI, q_geI, q_ltS, q_eqI, q_neI, q_ixL, q_ixT, q_max2, q_min2, q_lenL, q_lenT, q_lenS, q_tupL, q_tupT, q_lstT, q_lstL, q_revT, q_revL, q_notV, q_intB, q_isN, q_notN, q_slT, q_slL, at_0, at_1, at_2, at_3, List.length_map, valsD, Option.map_some, PyData.bool.injEq, PyData.int.injEq, e, Option.some.injEq, exists_eq_left', bindT, bindTs, List.length_cons, List.length_nil, List.length_set, List.set_cons_succ, List.set_cons_zero, Nat.zero_add, Nat.reduceAdd, Nat.reduceLT, true_and]
  refine n1 _ (ex_seq fun E2 r2 _ _ _ n2 => ?_)
  simp only [ex, ev, args, evA, evO, evOs, evT, evP, i_, s_, recv, true_and, List.getElem?_cons_succ, List.getElem?_cons_zero, Option.some.injEq, exists_eq_left', List.length_cons, List.length_nil, List.length_set, List.set_cons_succ, List.set_cons_zero, Nat.zero_add, Nat.reduceAdd, Nat.reduceLT, ↓reduceIte, evI]
  refine ⟨mm, rfl, ⟨by omega, by omega⟩, ?_⟩
  refine loop_nd (fun d => ∃ y, d = .str y ∧ y ∈ pool) _ _ _ (by rw [sizeLine_eq, range_len]; simp; omega) (fun y hy acc k' ha hk' => ?_) fun ds hl hp => ?_
  · simp only [bindT, bindTs, List.length_cons, List.length_nil, List.length_set, List.set_cons_succ, List.set_cons_zero, Nat.zero_add, Nat.reduceAdd, Nat.reduceLT, true_and, wipeD, List.set_set, evT, ↓reduceIte]
    simp only [ex, ev, args, evA, evO, evOs, evT, evP, i_, s_, recv, true_and, List.getElem?_cons_succ, List.getElem?_cons_zero, Option.some.injEq, exists_eq_left', List.length_cons, List.length_nil, List.length_set, List.set_cons_succ, List.set_cons_zero, Nat.zero_add, Nat.reduceAdd, Nat.reduceLT, ↓reduceIte, q_addI, q_addS, q_addL, q_addT, q_sub, q_ltI, q_leI, q_gtI, q_geI, q_ltS, q_eqI, q_neI, q_ixL, q_ixT, q_max2, q_min2, q_lenL, q_lenT, q_lenS, q_tupL, q_tupT, q_lstT, q_lstL, q_revT, q_revL, q_notV, q_intB, q_isN, q_notN, q_slT, q_slL, at_0, at_1, at_2, at_3, List.length_map, valsD, Option.map_some, PyData.bool.injEq, PyData.int.injEq]
    have s1 := hs.s1
    have s3 := hs.s3
    refine next_call (by omega) (by omega) fun r r0 r4 => ⟨_, rfl, ?_⟩
    obtain ⟨z, e, hz⟩ := at_strs r0 r4
    exact ⟨_, e, ha, hk' _ ⟨z, rfl, hs.sp z hz⟩⟩
  · rw [range_len] at hl
    obtain ⟨ys, rfl, hy⟩ := kind_ds hp
    simp only [List.nil_append, q_addI, q_addS, q_addL, q_addT, q_sub, q_ltI, q_leI, q_gtI, q_geI, q_ltS, q_eqI, q_neI, q_ixL, q_ixT, q_max2, q_min2, q_lenL, q_lenT, q_lenS, q_tupL, q_tupT, q_lstT, q_lstL, q_revT, q_revL, q_notV, q_intB, q_isN, q_notN, q_slT, q_slL, at_0, at_1, at_2, at_3, List.length_map, valsD, Option.map_some, PyData.bool.injEq, PyData.int.injEq, Option.some.injEq, exists_eq_left']
    rw [r2]
    refine h _ ⟨ys, rfl, ?_, ?_, hy⟩ <;> simp at hl <;> omega
theorem scheme_call {m : Nat} {k : Slot → Prop} {x : KX} (h : ∀ d sorts ties, Sch d sorts ties → k (.val d)) : callW tab noGl (m + 5) f__law_scheme [.st] k x := by
  refine call_code (d := d__law_scheme) rfl rfl ?_
  show ex _ b__law_scheme [some .st, none, none, none, none, none] _
  simp only [b__law_scheme, sq]
  refine ex_seq fun E1 r1 _ _ _ n1 => ?_
  simp only [ex, ev, args, evA, evO, evOs, evT, evP, i_, s_, recv, true_and, List.getElem?_cons_succ, List.getElem?_cons_zero, Option.some.injEq, exists_eq_left', List.length_cons, List.length_nil, List.length_set, List.set_cons_succ, List.set_cons_zero, Nat.zero_add, Nat.reduceAdd, Nat.reduceLT, ↓reduceIte, q_addI, q_addS, q_addL, q_addT, q_sub, q_ltI, q_leI, q_gtI, q_geI, q_ltS, q_eqI, q_neI, q_ixL, q_ixT, q_max2, q_min2, q_lenL, q_lenT, q_lenS, q_tupL, q_tupT, q_lstT, q_lstL, q_revT, q_revL, q_notV, q_intB, q_isN, q_notN, q_slT, q_slL, at_0, at_1, at_2, at_3, List.length_map, valsD, Option.map_some, PyData.bool.injEq, PyData.int.injEq, setAll]
  refine next_call (by decide) (by decide) fun r r0 r3 => ⟨_, rfl, _, rfl, names_call (by omega) (by omega) fun xs hl hp => ⟨_, rfl, ?_⟩⟩
  obtain ⟨ys, e, yl, yp⟩ := sort_strs hp
  refine ⟨_, e, by simp, ?_⟩
  simp only [toOwn]
  refine n1 _ (ex_seq fun E2 r2 _ _ _ n2 => ex_for fun L hL => ?_)
  simp only [ex, ev, args, evA, evO, evOs, evT, evP, i_, s_, recv, true_and, List.getElem?_cons_succ, List.getElem?_cons_zero, Option.some.injEq, exists_eq_left', List.length_cons, List.length_nil, List.length_set, List.set_cons_succ, List.set_cons_zero, Nat.zero_add, Nat.reduceAdd, Nat.reduceLT, ↓reduceIte, evI]
  refine next_call (by decide) (by decide) fun q q0 q5 => ⟨_, rfl, names_call (by omega) (by omega) fun zs zl zp => ⟨_, rfl, ?_⟩⟩
  obtain ⟨us, e2, ul, up⟩ := sort_strs zp
  refine ⟨_, e2, ?_⟩
  simp only [itemsD, Option.some.injEq, exists_eq_left']
  refine hL _ ?_
  have y1 : 1 ≤ ys.length := by omega
  have y3 : ys.length ≤ 3 := by omega
  refine loopS_inv (fun ws δ => ∃ (ts : List D) (s1 s4 s5 : Option Slot), δ = [some .st, s1, some (.val (.list (ys.map .str))), some (.own ts), s4, s5] ∧ (∀ t ∈ ts, IsTie t) ∧ ts.length + ws.length ≤ 4) (us.map .str) _ ⟨[], none, none, none, rfl, by simp, by simp; omega⟩ ?_ ?_
  · rintro y ws δ ⟨ts, s1, s4, s5, rfl, h1, h2⟩ hy E' hn hc hrt hbk hxc
    obtain ⟨nm, hnm, rfl⟩ := List.mem_map.mp hy
    simp only [bindT, bindTs, List.length_cons, List.length_nil, List.length_set, List.set_cons_succ, List.set_cons_zero, Nat.zero_add, Nat.reduceAdd, Nat.reduceLT, true_and]
    refine ex_seq fun E3 r3 _ _ _ n3 => ?_
    simp only [ex, ev, args, evA, evO, evOs, evT, evP, i_, s_, recv, true_and, List.getElem?_cons_succ, List.getElem?_cons_zero, Option.some.injEq, exists_eq_left', List.length_cons, List.length_nil, List.length_set, List.set_cons_succ, List.set_cons_zero, Nat.zero_add, Nat.reduceAdd, Nat.reduceLT, ↓reduceIte, q_addI, q_addS, q_addL, q_addT, q_sub, q_ltI, q_leI, q_gtI, q_geI, q_ltS, q_eqI, q_neI, q_ixL, q_ixT, q_max2, q_min2, q_lenL, q_lenT, q_lenS, q_tupL, q_tupT, q_lstT, q_lstL, q_revT, q_revL, q_notV, q_intB, q_isN, q_notN, q_slT, q_slL, at_0, at_1, at_2, at_3, List.length_map, valsD, Option.map_some, PyData.bool.injEq, PyData.int.injEq]
    refine ⟨by rw [sizeLine_eq]; decide, next_call (by decide) (by decide) fun r r0 r4 => ⟨_, rfl, ?_⟩⟩
    obtain ⟨mm, e, m1, m3⟩ := many_ix r0 r4
    simp only [q_addI, q_addS, q_addL, q_addT, q_sub, q_ltI, q_leI, q_gtI, q_geI, q_ltS, q_eqI, q_neI, q_ixL, q_ixT, q_max2, q_min2, q_lenL, q_lenT, q_lenS, q_tupL, q_tupT, q_lstT, q_lstL, q_revT, q_revL, q_notV, q_intB, q_isN, q_notN, q_slT, q_slL, at_0, at_1, at_2, at_3, List.length_map, valsD, Option.map_some, PyData.bool.injEq, PyData.int.injEq, e, Option.some.injEq, exists_eq_left', bindT, bindTs, List.length_cons, List.length_nil, List.length_set, List.set_cons_succ, List.set_cons_zero, Nat.zero_add, Nat.reduceAdd, Nat.reduceLT, true_and]
    refine n3 _ (ex_seq fun E4 r4 _ _ _ n4 => ?_)
    simp only [ex, ev, args, evA, evO, evOs, evT, evP, i_, s_, recv, true_and, List.getElem?_cons_succ, List.getElem?_cons_zero, Option.some.injEq, exists_eq_left', List.length_cons, List.length_nil, List.length_set, List.set_cons_succ, List.set_cons_zero, Nat.zero_add, Nat.reduceAdd, Nat.reduceLT, ↓reduceIte, evI]
    refine ⟨mm, rfl, ⟨by omega, by omega⟩, ?_⟩
    refine loop_nd (fun d => ∃ y, d = .str y ∧ y ∈ pool) _ _ _ (by rw [sizeLine_eq, range_len]; simp; omega) (fun y hy acc k' ha hk' => ?_) fun ds hl hp => ?_
    · simp only [bindT, bindTs, List.length_cons, List.length_nil, List.length_set, List.set_cons_succ, List.set_cons_zero, Nat.zero_add, Nat.reduceAdd, Nat.reduceLT, true_and, wipeD, List.set_set, evT, ↓reduceIte]
      simp only [ex, ev, args, evA, evO, evOs, evT, evP, i_, s_, recv, true_and, List.getElem?_cons_succ, List.getElem?_cons_zero, Option.some.injEq, exists_eq_left', List.length_cons, List.length_nil, List.length_set, List.set_cons_succ, List.set_cons_zero, Nat.zero_add, Nat.reduceAdd, Nat.reduceLT, ↓reduceIte, q_addI, q_addS, q_addL, q_addT, q_sub, q_ltI, q_leI, q_gtI, q_geI, q_ltS, q_eqI, q_neI, q_ixL, q_ixT, q_max2, q_min2, q_lenL, q_lenT, q_lenS, q_tupL, q_tupT, q_lstT, q_lstL, q_revT, q_revL, q_notV, q_intB, q_isN, q_notN, q_slT, q_slL, at_0, at_1, at_2, at_3, List.length_map, valsD, Option.map_some, PyData.bool.injEq, PyData.int.injEq]
      refine next_call (by omega) (by omega) fun r r0 r4 => ⟨_, rfl, ?_⟩
      obtain ⟨z, e, hz⟩ := at_strs r0 r4
      exact ⟨_, e, ha, hk' _ ⟨z, rfl, yp z hz⟩⟩
    · rw [range_len] at hl
      obtain ⟨vs, rfl, hv⟩ := kind_ds hp
      simp only [List.nil_append, q_addI, q_addS, q_addL, q_addT, q_sub, q_ltI, q_leI, q_gtI, q_geI, q_ltS, q_eqI, q_neI, q_ixL, q_ixT, q_max2, q_min2, q_lenL, q_lenT, q_lenS, q_tupL, q_tupT, q_lstT, q_lstL, q_revT, q_revL, q_notV, q_intB, q_isN, q_notN, q_slT, q_slL, at_0, at_1, at_2, at_3, List.length_map, valsD, Option.map_some, PyData.bool.injEq, PyData.int.injEq, Option.some.injEq, exists_eq_left', bindT, bindTs, List.length_cons, List.length_nil, List.length_set, List.set_cons_succ, List.set_cons_zero, Nat.zero_add, Nat.reduceAdd, Nat.reduceLT, true_and]
      refine ⟨by rw [sizeLine_eq]; simp, ?_, n4 _ (hn _ ⟨_, _, _, _, rfl, fun t ht => ?_, ?_⟩)⟩
      · simp only [List.length_cons] at h2
        rw [sizeLine_eq]; omega
      · rcases List.mem_append.mp ht with ht | ht
        · exact h1 t ht
        · simp at ht
          subst ht
          exact ⟨nm, _, rfl, up nm hnm, vs, rfl, by simp at hl; omega, by simp at hl; omega, hv⟩
      · simp only [List.length_append, List.length_cons, List.length_nil] at h2 ⊢
        omega
  · rintro δ ⟨ts, s1, s4, s5, rfl, h1, h2⟩
    refine n2 _ (ex_seq fun E6 r6 _ _ _ n6 => ?_)
    simp only [ex, ev, args, evA, evO, evOs, evT, evP, i_, s_, recv, true_and, List.getElem?_cons_succ, List.getElem?_cons_zero, Option.some.injEq, exists_eq_left', List.length_cons, List.length_nil, List.length_set, List.set_cons_succ, List.set_cons_zero, Nat.zero_add, Nat.reduceAdd, Nat.reduceLT, ↓reduceIte, q_addI, q_addS, q_addL, q_addT, q_sub, q_ltI, q_leI, q_gtI, q_geI, q_ltS, q_eqI, q_neI, q_ixL, q_ixT, q_max2, q_min2, q_lenL, q_lenT, q_lenS, q_tupL, q_tupT, q_lstT, q_lstL, q_revT, q_revL, q_notV, q_intB, q_isN, q_notN, q_slT, q_slL, at_0, at_1, at_2, at_3, List.length_map, valsD, Option.map_some, PyData.bool.injEq, PyData.int.injEq]
    refine ⟨by rw [sizeLine_eq]; simp, ?_⟩
    rw [r6]
    exact h _ ys ts ⟨rfl, y1, y3, yp, by simpa using h2, h1⟩
end Tk
/-! K10: the plain law of k15, third part: terms. -/
namespace Tk
open PySem PySem.Spec PyProof.Rows L2
structure Tm (b w : Nat) (d : D) : Prop where
  tp : isTp d = true
  ok : okD d = true
  dp : dp d ≤ b
  wt : wt d ≤ w
theorem Tm.mono {b w b' w' : Nat} {d : D} (h : Tm b w d) (h1 : b ≤ b') (h2 : w ≤ w') : Tm b' w' d := ⟨h.tp, h.ok, Nat.le_trans h.dp h1, Nat.le_trans h.wt h2⟩
theorem q_eqD {x y : D} (hx : SeqAt.shaped x = true) (hy : SeqAt.shaped y = true) : sem2 .eq x y = some (.bool (PyData.eqv x y)) := by
  cases x <;> cases y <;> simp only [sem2, hx, hy, and_self, or_true, if_true]
theorem q_neD {x y : D} (hx : SeqAt.shaped x = true) (hy : SeqAt.shaped y = true) : sem2 .ne x y = some (.bool (!PyData.eqv x y)) := by
  cases x <;> cases y <;> simp only [sem2, hx, hy, and_self, or_true, if_true]
theorem tm_leaf {w s : Str} : Tm 1 1 (.tuple [.str w, .str s]) := ⟨rfl, rfl, by simp [dp, dpL], by simp [wt, wtL]⟩
theorem tm_two {w : Str} {a b : D} {n m n' m' : Nat} (ha : Tm n m a) (hb : Tm n' m' b) : Tm (1 + max n n') (1 + (m + m')) (.tuple [.str w, a, b]) := by
  refine ⟨rfl, ?_, ?_, ?_⟩
  · simp [okD, okL, ha.ok, hb.ok]
  · have := ha.dp; have := hb.dp
    simp only [dp, dpL]; omega
  · have := ha.wt; have := hb.wt
    simp only [wt, wtL]; omega
theorem tm_one {w : Str} {a : D} {n m : Nat} (ha : Tm n m a) : Tm (1 + n) (1 + m) (.tuple [.str w, a]) := by
  refine ⟨rfl, ?_, ?_, ?_⟩
  · simp [okD, okL, ha.ok]
  · have := ha.dp
    simp only [dp, dpL]; omega
  · have := ha.wt
    simp only [wt, wtL]; omega
theorem tie_shaped : ∀ {ds : List D}, (∀ d ∈ ds, ∃ nm : Str, d = .tuple [.str "tie", .str nm] ∧ nm ∈ pool) → SeqAt.shaped (.list ds) = true := by
  intro ds h
  have h1 : PyData.canLayAll0 ds = true := by
    induction ds with
    | nil => rfl
    | cons d ds ih =>
      obtain ⟨nm, rfl, hn⟩ := h d (by simp)
      have := ih fun e he => h e (by simp [he])
      have t : PyData.strOk "tie" = true := by decide +kernel
      simp [PyData.canLayAll0, PyData.canLay0, pool_ok nm hn, this, t]
  have h2 : PyData.depthAll ds ≤ 1 := by
    induction ds with
    | nil => simp [PyData.depthAll]
    | cons d ds ih =>
      obtain ⟨nm, rfl, hn⟩ := h d (by simp)
      have := ih (fun e he => h e (by simp [he])) (by simp only [PyData.canLayAll0, Bool.and_eq_true] at h1; exact h1.2)
      simp [PyData.depthAll, PyData.depth]
      omega
  simp [SeqAt.shaped, PyData.canLay0, h1, PyData.depth]
  omega
theorem cut_to {α : Type} (l : List α) (n : Nat) : cutD l none (some (n : Int)) = l.take n := by
  unfold cutD
  rw [HT.sIx_none, HT.sIx_nat]
  simp
theorem cut_from {α : Type} (l : List α) (n : Nat) : cutD l (some (n : Int)) none = l.drop n := by
  unfold cutD
  rw [HT.sIx_none, HT.sIx_nat]
  by_cases h : n ≤ l.length
  · rw [Nat.min_eq_left h]
    exact List.take_of_length_le (by simp)
  · rw [Nat.min_eq_right (by omega), List.drop_of_length_le (by omega), List.drop_of_length_le (by omega)]; simp
theorem plain_call {m : Nat} {d c : D} {sorts : List Str} {ties : List D} {k : Slot → Prop} {x : KX} (hs : Sch d sorts ties) (hc : IsKind c) (h : ∀ t, Tm 3 5 t → k (.val t)) : callW tab noGl (m + 4) f__law_plain [.st, .val d, .val c] k x := by
  refine call_code (d := d__law_plain) rfl rfl ?_
  show ex _ b__law_plain [some .st, some (.val d), some (.val c), none, none, none, none, none] _
  have hd := hs.eq
  subst hd
  obtain ⟨xs, rfl, x1, x3, xp⟩ := hc
  simp only [b__law_plain, sq]
  refine ex_seq fun E1 r1 _ _ x1' n1 => ?_
  simp only [ex, ev, args, evA, evO, evOs, evT, evP, i_, s_, recv, true_and, List.getElem?_cons_succ, List.getElem?_cons_zero, Option.some.injEq, exists_eq_left', List.length_cons, List.length_nil, List.length_set, List.set_cons_succ, List.set_cons_zero, Nat.zero_add, Nat.reduceAdd, Nat.reduceLT, ↓reduceIte, q_addI, q_addS, q_addL, q_addT, q_sub, q_ltI, q_leI, q_gtI, q_geI, q_ltS, q_eqI, q_neI, q_ixL, q_ixT, q_max2, q_min2, q_lenL, q_lenT, q_lenS, q_tupL, q_tupT, q_lstT, q_lstL, q_revT, q_revL, q_notV, q_intB, q_isN, q_notN, q_slT, q_slL, at_0, at_1, at_2, at_3, List.length_map, valsD, Option.map_some, PyData.bool.injEq, PyData.int.injEq, evI, itemsD]
  refine loop_sub (fun d => ∃ nm : Str, d = .tuple [.str "tie", .str nm] ∧ nm ∈ pool) _ _ _ (by have := hs.tl; rw [sizeLine_eq]; simp; omega) (fun y hy acc k' ha hk' hk0 => ?_) fun ds hl hp => ?_
  · obtain ⟨nm, cc, rfl, hnm, zs, rfl, z1, z3, zp⟩ := hs.tp y hy
    simp only [bindT, bindTs, List.length_cons, List.length_nil, List.length_set, List.set_cons_succ, List.set_cons_zero, Nat.zero_add, Nat.reduceAdd, Nat.reduceLT, true_and, wipeD, evT, ev, recv, true_and, List.getElem?_cons_succ, List.getElem?_cons_zero, q_eqD (shp_strs zp) (shp_strs xp), Option.some.injEq, PyData.bool.injEq, exists_eq_left']
    refine ite2 (fun _ => ?_) fun _ => hk0
    exact ⟨by rw [sizeLine_eq]; simp, ha, hk' _ ⟨nm, rfl, hnm⟩⟩
  · simp only [List.nil_append, toOwn, bindT, bindTs, List.length_cons, List.length_nil, List.length_set, List.set_cons_succ, List.set_cons_zero, Nat.zero_add, Nat.reduceAdd, Nat.reduceLT, true_and]
    refine n1 _ (ex_seq fun E2 r2 _ _ x2' n2 => ?_)
    simp only [ex, ev, args, evA, evO, evOs, evT, evP, i_, s_, recv, true_and, List.getElem?_cons_succ, List.getElem?_cons_zero, Option.some.injEq, exists_eq_left', List.length_cons, List.length_nil, List.length_set, List.set_cons_succ, List.set_cons_zero, Nat.zero_add, Nat.reduceAdd, Nat.reduceLT, ↓reduceIte]
    refine n2 _ (ex_seq fun E3 r3 _ _ x3' n3 => ex_ite fun p p1 p2 => ?_)
    have e0 : SeqAt.shaped (.list []) = true := by decide
    simp only [ex, ev, args, evA, evO, evOs, evT, evP, i_, s_, recv, true_and, List.getElem?_cons_succ, List.getElem?_cons_zero, Option.some.injEq, exists_eq_left', List.length_cons, List.length_nil, List.length_set, List.set_cons_succ, List.set_cons_zero, Nat.zero_add, Nat.reduceAdd, Nat.reduceLT, ↓reduceIte, q_addI, q_addS, q_addL, q_addT, q_sub, q_ltI, q_leI, q_gtI, q_geI, q_ltS, q_eqI, q_neI, q_ixL, q_ixT, q_max2, q_min2, q_lenL, q_lenT, q_lenS, q_tupL, q_tupT, q_lstT, q_lstL, q_revT, q_revL, q_notV, q_intB, q_isN, q_notN, q_slT, q_slL, at_0, at_1, at_2, at_3, List.length_map, valsD, Option.map_some, PyData.bool.injEq, PyData.int.injEq, q_neD (tie_shaped hp) e0, exists_eq_left']
    have fin : ∀ (s4 s5 s6 s7 : Option Slot), ex ⟨callW tab noGl (m + 3), noGl⟩ (sq [.asg (.name 4) (.tup (args [(s_ "sort"), (.op2 .ix (.var 2) (i_ 0))])),
  .for_ (.name 5) (.iter (.slc (.var 2) (.cons (i_ 1) .nil) .nopart)) (sq [.asg (.name 4) (.tup (args [(s_ "cross"), (.var 4), (.tup (args [(s_ "sort"), (.var 5)]))]))]),
  .ret (.var 4)]) [some .st, some (.val (.tuple [.tuple (sorts.map .str), .tuple ties])), some (.val (.tuple (xs.map .str))), some (.val (.list ds)), s4, s5, s6, s7] (enD k x) := by
      intro s4 s5 s6 s7
      obtain ⟨x0, xr, rfl⟩ : ∃ a r, xs = a :: r := by cases xs with | nil => simp at x1 | cons a r => exact ⟨a, r, rfl⟩
      simp only [sq]
      refine ex_seq fun E5 r5 _ _ _ n5 => ?_
      simp only [ex, ev, args, evA, evO, evOs, evT, evP, i_, s_, recv, true_and, List.getElem?_cons_succ, List.getElem?_cons_zero, Option.some.injEq, exists_eq_left', List.length_cons, List.length_nil, List.length_set, List.set_cons_succ, List.set_cons_zero, Nat.zero_add, Nat.reduceAdd, Nat.reduceLT, ↓reduceIte, q_addI, q_addS, q_addL, q_addT, q_sub, q_ltI, q_leI, q_gtI, q_geI, q_ltS, q_eqI, q_neI, q_ixL, q_ixT, q_max2, q_min2, q_lenL, q_lenT, q_lenS, q_tupL, q_tupT, q_lstT, q_lstL, q_revT, q_revL, q_notV, q_intB, q_isN, q_notN, q_slT, q_slL, at_0, at_1, at_2, at_3, List.length_map, valsD, Option.map_some, PyData.bool.injEq, PyData.int.injEq, List.map_cons, bindT, bindTs, List.length_cons, List.length_nil, List.length_set, List.set_cons_succ, List.set_cons_zero, Nat.zero_add, Nat.reduceAdd, Nat.reduceLT, true_and]
      refine ⟨by rw [sizeLine_eq]; simp, n5 _ (ex_seq fun E6 r6 _ _ _ n6 => ex_for fun L hL => ?_)⟩
      simp only [ex, ev, args, evA, evO, evOs, evT, evP, i_, s_, recv, true_and, List.getElem?_cons_succ, List.getElem?_cons_zero, Option.some.injEq, exists_eq_left', List.length_cons, List.length_nil, List.length_set, List.set_cons_succ, List.set_cons_zero, Nat.zero_add, Nat.reduceAdd, Nat.reduceLT, ↓reduceIte, evI, q_addI, q_addS, q_addL, q_addT, q_sub, q_ltI, q_leI, q_gtI, q_geI, q_ltS, q_eqI, q_neI, q_ixL, q_ixT, q_max2, q_min2, q_lenL, q_lenT, q_lenS, q_tupL, q_tupT, q_lstT, q_lstL, q_revT, q_revL, q_notV, q_intB, q_isN, q_notN, q_slT, q_slL, at_0, at_1, at_2, at_3, List.length_map, valsD, Option.map_some, PyData.bool.injEq, PyData.int.injEq, itemsD]
      refine hL _ ?_
      have ec : cutD (PyData.str x0 :: xr.map PyData.str) (some 1) none = xr.map PyData.str := cut_from _ 1
      rw [ec]
      refine loopS_inv (fun ws δ => ∃ (t : D) (n : Nat) (s5 : Option Slot), δ = [some .st, some (.val (.tuple [.tuple (sorts.map .str), .tuple ties])), some (.val (.tuple (.str x0 :: xr.map .str))), some (.val (.list ds)), some (.val t), s5, s6, s7] ∧ Tm (n + 1) (2 * n + 1) t ∧ n + ws.length ≤ 2) (xr.map .str) _ ⟨_, 0, _, rfl, tm_leaf, by simpa using x3⟩ ?_ ?_
      · rintro y ws δ ⟨t, n, s5, rfl, h1, h2⟩ hy E' hn hc hrt hbk hxc
        obtain ⟨sn, hsn, rfl⟩ := List.mem_map.mp hy
        simp only [bindT, bindTs, List.length_cons, List.length_nil, List.length_set, List.set_cons_succ, List.set_cons_zero, Nat.zero_add, Nat.reduceAdd, Nat.reduceLT, true_and]
        refine ex_seq fun E7 r7 _ _ _ n7 => ?_
        simp only [ex, ev, args, evA, evO, evOs, evT, evP, i_, s_, recv, true_and, List.getElem?_cons_succ, List.getElem?_cons_zero, Option.some.injEq, exists_eq_left', List.length_cons, List.length_nil, List.length_set, List.set_cons_succ, List.set_cons_zero, Nat.zero_add, Nat.reduceAdd, Nat.reduceLT, ↓reduceIte, q_addI, q_addS, q_addL, q_addT, q_sub, q_ltI, q_leI, q_gtI, q_geI, q_ltS, q_eqI, q_neI, q_ixL, q_ixT, q_max2, q_min2, q_lenL, q_lenT, q_lenS, q_tupL, q_tupT, q_lstT, q_lstL, q_revT, q_revL, q_notV, q_intB, q_isN, q_notN, q_slT, q_slL, at_0, at_1, at_2, at_3, List.length_map, valsD, Option.map_some, PyData.bool.injEq, PyData.int.injEq, bindT, bindTs, List.length_cons, List.length_nil, List.length_set, List.set_cons_succ, List.set_cons_zero, Nat.zero_add, Nat.reduceAdd, Nat.reduceLT, true_and]
        refine ⟨by rw [sizeLine_eq]; simp, by rw [sizeLine_eq]; simp, n7 _ (hn _ ⟨_, n + 1, _, rfl, (tm_two h1 tm_leaf).mono (by omega) (by omega), ?_⟩)⟩
        simp only [List.length_cons] at h2
        omega
      · rintro δ ⟨t, n, s5, rfl, h1, h2⟩
        refine n6 _ (ex_seq fun E7 r7 _ _ _ n7 => ?_)
        simp only [ex, ev, args, evA, evO, evOs, evT, evP, i_, s_, recv, true_and, List.getElem?_cons_succ, List.getElem?_cons_zero, Option.some.injEq, exists_eq_left', List.length_cons, List.length_nil, List.length_set, List.set_cons_succ, List.set_cons_zero, Nat.zero_add, Nat.reduceAdd, Nat.reduceLT, ↓reduceIte]
        rw [r7]
        simp only [List.length_nil] at h2
        exact h _ (h1.mono (by omega) (by omega))
    have mid : ex ⟨callW tab noGl (m + 3), noGl⟩ (sq [.ite (.and_ (.op2 .eq (.op1 .len (.var 2)) (i_ 2)) (.and_ (.op2 .eq (.op2 .ix (.var 2) (i_ 0)) (.op2 .ix (.var 2) (i_ 1))) (.op2 .eq (.call f__law_next (args [(.var 0), (i_ 2)])) (i_ 0)))) (sq [.ret (.tup (args [(s_ "same"), (.op2 .ix (.var 2) (i_ 0))]))])
    (.nop),
  .asg (.name 4) (.tup (args [(s_ "sort"), (.op2 .ix (.var 2) (i_ 0))])),
  .for_ (.name 5) (.iter (.slc (.var 2) (.cons (i_ 1) .nil) .nopart)) (sq [.asg (.name 4) (.tup (args [(s_ "cross"), (.var 4), (.tup (args [(s_ "sort"), (.var 5)]))]))]),
  .ret (.var 4)]) [some .st, some (.val (.tuple [.tuple (sorts.map .str), .tuple ties])), some (.val (.tuple (xs.map .str))), some (.val (.list ds)), none, none, none, none] (enD k x) := by
      simp only [sq]
      refine ex_seq fun E5 r5 _ _ _ n5 => ex_ite fun p p1 p2 => ?_
      have f5 := n5 _ (fin none none none none)
      simp only [ex, ev, args, evA, evO, evOs, evT, evP, i_, s_, recv, true_and, List.getElem?_cons_succ, List.getElem?_cons_zero, Option.some.injEq, exists_eq_left', List.length_cons, List.length_nil, List.length_set, List.set_cons_succ, List.set_cons_zero, Nat.zero_add, Nat.reduceAdd, Nat.reduceLT, ↓reduceIte, q_addI, q_addS, q_addL, q_addT, q_sub, q_ltI, q_leI, q_gtI, q_geI, q_ltS, q_eqI, q_neI, q_ixL, q_ixT, q_max2, q_min2, q_lenL, q_lenT, q_lenS, q_tupL, q_tupT, q_lstT, q_lstL, q_revT, q_revL, q_notV, q_intB, q_isN, q_notN, q_slT, q_slL, at_0, at_1, at_2, at_3, List.length_map, valsD, Option.map_some, PyData.bool.injEq, PyData.int.injEq]
      by_cases hl : xs.length = 2
      · obtain ⟨x0, xr, rfl⟩ : ∃ a r, xs = [a, r] := by
          match xs, hl with
          | [a, b], _ => exact ⟨a, b, rfl⟩
        have e0 := shp_str (xp x0 (by simp))
        have e1 := shp_str (xp xr (by simp))
        simp only [q_addI, q_addS, q_addL, q_addT, q_sub, q_ltI, q_leI, q_gtI, q_geI, q_ltS, q_eqI, q_neI, q_ixL, q_ixT, q_max2, q_min2, q_lenL, q_lenT, q_lenS, q_tupL, q_tupT, q_lstT, q_lstL, q_revT, q_revL, q_notV, q_intB, q_isN, q_notN, q_slT, q_slL, at_0, at_1, at_2, at_3, List.length_map, valsD, Option.map_some, PyData.bool.injEq, PyData.int.injEq, List.map_cons, List.map_nil, List.length_cons, List.length_nil, Nat.zero_add, Nat.reduceAdd, Option.some.injEq, exists_eq_left', q_eqD e0 e1]
        refine ite2 (fun _ => ite2 (fun _ => ?_) fun _ => p2 f5) fun z => absurd rfl z
        refine next_call (by decide) (by decide) fun r r0 r2 => ⟨_, rfl, ?_⟩
        simp only [q_addI, q_addS, q_addL, q_addT, q_sub, q_ltI, q_leI, q_gtI, q_geI, q_ltS, q_eqI, q_neI, q_ixL, q_ixT, q_max2, q_min2, q_lenL, q_lenT, q_lenS, q_tupL, q_tupT, q_lstT, q_lstL, q_revT, q_revL, q_notV, q_intB, q_isN, q_notN, q_slT, q_slL, at_0, at_1, at_2, at_3, List.length_map, valsD, Option.map_some, PyData.bool.injEq, PyData.int.injEq, Option.some.injEq, exists_eq_left']
        refine if_ite p1 p2 (ite2 (fun _ => ?_) fun _ => f5)
        refine ex_seq fun E6 r6 _ _ _ n6 => ?_
        simp only [ex, ev, args, evA, evO, evOs, evT, evP, i_, s_, recv, true_and, List.getElem?_cons_succ, List.getElem?_cons_zero, Option.some.injEq, exists_eq_left', List.length_cons, List.length_nil, List.length_set, List.set_cons_succ, List.set_cons_zero, Nat.zero_add, Nat.reduceAdd, Nat.reduceLT, ↓reduceIte, q_addI, q_addS, q_addL, q_addT, q_sub, q_ltI, q_leI, q_gtI, q_geI, q_ltS, q_eqI, q_neI, q_ixL, q_ixT, q_max2, q_min2, q_lenL, q_lenT, q_lenS, q_tupL, q_tupT, q_lstT, q_lstL, q_revT, q_revL, q_notV, q_intB, q_isN, q_notN, q_slT, q_slL, at_0, at_1, at_2, at_3, List.length_map, valsD, Option.map_some, PyData.bool.injEq, PyData.int.injEq]
        refine ⟨_, at_0, by rw [sizeLine_eq]; simp, ?_⟩
        rw [r6, r5]
        exact h _ (tm_leaf.mono (by omega) (by omega))
      · have : ((xs.length : Nat) : Int) ≠ 2 := by omega
        simp only [this, decide_false, Bool.false_eq_true, if_false]
        exact p2 f5
    refine ⟨Nat.zero_le _, ite2 (fun hz => ?_) fun _ => p2 (n3 _ mid)⟩
    refine next_call (by decide) (by decide) fun r r0 r4 => ⟨_, rfl, ?_⟩
    simp only [q_addI, q_addS, q_addL, q_addT, q_sub, q_ltI, q_leI, q_gtI, q_geI, q_ltS, q_eqI, q_neI, q_ixL, q_ixT, q_max2, q_min2, q_lenL, q_lenT, q_lenS, q_tupL, q_tupT, q_lstT, q_lstL, q_revT, q_revL, q_notV, q_intB, q_isN, q_notN, q_slT, q_slL, at_0, at_1, at_2, at_3, List.length_map, valsD, Option.map_some, PyData.bool.injEq, PyData.int.injEq, Option.some.injEq, exists_eq_left']
    refine if_ite p1 p2 (ite2 (fun _ => ?_) fun _ => n3 _ mid)
    refine ex_seq fun E6 r6 _ _ _ n6 => ?_
    simp only [ex, ev, args, evA, evO, evOs, evT, evP, i_, s_, recv, true_and, List.getElem?_cons_succ, List.getElem?_cons_zero, Option.some.injEq, exists_eq_left', List.length_cons, List.length_nil, List.length_set, List.set_cons_succ, List.set_cons_zero, Nat.zero_add, Nat.reduceAdd, Nat.reduceLT, ↓reduceIte, q_addI, q_addS, q_addL, q_addT, q_sub, q_ltI, q_leI, q_gtI, q_geI, q_ltS, q_eqI, q_neI, q_ixL, q_ixT, q_max2, q_min2, q_lenL, q_lenT, q_lenS, q_tupL, q_tupT, q_lstT, q_lstL, q_revT, q_revL, q_notV, q_intB, q_isN, q_notN, q_slT, q_slL, at_0, at_1, at_2, at_3, List.length_map, valsD, Option.map_some, PyData.bool.injEq, PyData.int.injEq]
    have : 0 < ds.length := by
      cases ds with
      | nil => simp [PyData.eqv, PyData.eqvAll] at hz
      | cons a l => simp
    refine next_call (by omega) (by have := hs.tl; omega) fun r r0 r4 => ⟨_, rfl, ?_⟩
    obtain ⟨t, e, ht⟩ := at_nat (xs := ds) r0 r4
    refine ⟨t, e, ?_⟩
    rw [r6, r3]
    obtain ⟨nm, rfl, _⟩ := hp t ht
    exact h _ (tm_leaf.mono (by omega) (by omega))
/-! kinds -/
theorem kind_len {c : D} (h : IsKind c) : ∃ xs : List Str, c = .tuple (xs.map .str) ∧ 1 ≤ xs.length ∧ xs.length ≤ 3 ∧ ∀ x ∈ xs, x ∈ pool := h
theorem pow2_pos (n : Nat) : 1 ≤ 2 ^ n := Nat.one_le_two_pow
def Wn (n : Nat) : Nat := 6 * 2 ^ n - 1
theorem Wn_succ (n : Nat) : Wn (n + 1) = 1 + (Wn n + Wn n) := by
  have := pow2_pos n
  unfold Wn; rw [Nat.pow_succ]; omega
theorem Wn_five (n : Nat) : 5 ≤ Wn n := by
  have := pow2_pos n
  unfold Wn; omega
theorem twice {A B C : Prop} (f : A → B) (h : B → C) (a : A) : C := h (f a)
theorem next_c {n : Nat} {b : Int} {k : Slot → Prop} {x : KX} (hn : 3 ≤ n) (h1 : 0 < b) (h2 : b < 1073741824) (h : ∀ r, 0 ≤ r → r < b → k (.val (.int r))) : callW tab noGl n f__law_next [.st, .val (.int b)] k x := by
  obtain ⟨m, rfl⟩ : ∃ m, n = m + 3 := ⟨n - 3, by omega⟩
  exact next_call h1 h2 h
theorem plain_c {n : Nat} {d c : D} {sorts : List Str} {ties : List D} {k : Slot → Prop} {x : KX} (hn : 4 ≤ n) (hs : Sch d sorts ties) (hc : IsKind c) (h : ∀ t, Tm 3 5 t → k (.val t)) : callW tab noGl n f__law_plain [.st, .val d, .val c] k x := by
  obtain ⟨m, rfl⟩ : ∃ m, n = m + 4 := ⟨n - 4, by omega⟩
  exact plain_call hs hc h
theorem term_call : ∀ (dn : Nat) {n : Nat} {d c : D} {sorts : List Str} {ties : List D} {k : Slot → Prop} {x : KX}, dn + 5 ≤ n → Sch d sorts ties → IsKind c → (∀ t, Tm (dn + 3) (Wn dn) t → k (.val t)) → callW tab noGl n f__law_term [.st, .val d, .val c, .val (.int (dn : Nat))] k x := by
  intro dn
  induction dn with
  | zero =>
    intro n d c sorts ties k x hn hs hc h
    obtain ⟨m, rfl⟩ : ∃ m, n = m + 1 := ⟨n - 1, by omega⟩
    refine call_code (d := d__law_term) rfl rfl ?_
    show ex _ b__law_term [some .st, some (.val d), some (.val c), some (.val (.int 0)), none, none, none, none, none, none, none] _
    obtain ⟨xs, rfl, x1, x3, xp⟩ := hc
    simp only [b__law_term, sq]
    refine ex_seq fun E1 r1 _ _ _ n1 => ?_
    simp only [ex, ev, args, evA, evO, evOs, evT, evP, i_, s_, recv, true_and, List.getElem?_cons_succ, List.getElem?_cons_zero, Option.some.injEq, exists_eq_left', List.length_cons, List.length_nil, List.length_set, List.set_cons_succ, List.set_cons_zero, Nat.zero_add, Nat.reduceAdd, Nat.reduceLT, ↓reduceIte, q_addI, q_addS, q_addL, q_addT, q_sub, q_ltI, q_leI, q_gtI, q_geI, q_ltS, q_eqI, q_neI, q_ixL, q_ixT, q_max2, q_min2, q_lenL, q_lenT, q_lenS, q_tupL, q_tupT, q_lstT, q_lstL, q_revT, q_revL, q_notV, q_intB, q_isN, q_notN, q_slT, q_slL, at_0, at_1, at_2, at_3, List.length_map, valsD, Option.map_some, PyData.bool.injEq, PyData.int.injEq, setAll]
    refine next_c (by omega) (by decide) (by decide) fun w w0 w8 => ?_
    refine n1 _ (ex_seq fun E2 r2 _ _ _ n2 => ex_ite fun p p1 p2 => ?_)
    simp only [ex, ev, args, evA, evO, evOs, evT, evP, i_, s_, recv, true_and, List.getElem?_cons_succ, List.getElem?_cons_zero, Option.some.injEq, exists_eq_left', List.length_cons, List.length_nil, List.length_set, List.set_cons_succ, List.set_cons_zero, Nat.zero_add, Nat.reduceAdd, Nat.reduceLT, ↓reduceIte, q_addI, q_addS, q_addL, q_addT, q_sub, q_ltI, q_leI, q_gtI, q_geI, q_ltS, q_eqI, q_neI, q_ixL, q_ixT, q_max2, q_min2, q_lenL, q_lenT, q_lenS, q_tupL, q_tupT, q_lstT, q_lstL, q_revT, q_revL, q_notV, q_intB, q_isN, q_notN, q_slT, q_slL, at_0, at_1, at_2, at_3, List.length_map, valsD, Option.map_some, PyData.bool.injEq, PyData.int.injEq, decide_true]
    refine p1 (ex_seq fun E3 r3 _ _ _ n3 => ?_)
    simp only [ex, ev, args, evA, evO, evOs, evT, evP, i_, s_, recv, true_and, List.getElem?_cons_succ, List.getElem?_cons_zero, Option.some.injEq, exists_eq_left', List.length_cons, List.length_nil, List.length_set, List.set_cons_succ, List.set_cons_zero, Nat.zero_add, Nat.reduceAdd, Nat.reduceLT, ↓reduceIte]
    exact plain_c (by omega) hs ⟨xs, rfl, x1, x3, xp⟩ fun t ht => ⟨_, rfl, by rw [r3, r2]; exact h _ (ht.mono (by omega) (Wn_five _))⟩
  | succ dn ih =>
    intro n d c sorts ties k x hn hs hc h
    obtain ⟨m, rfl⟩ : ∃ m, n = m + 1 := ⟨n - 1, by omega⟩
    refine call_code (d := d__law_term) rfl rfl ?_
    show ex _ b__law_term [some .st, some (.val d), some (.val c), some (.val (.int ((dn + 1 : Nat) : Int))), none, none, none, none, none, none, none] _
    have hd := hs.eq
    subst hd
    have s1 := hs.s1
    have s3 := hs.s3
    obtain ⟨xs, rfl, x1, x3, xp⟩ := hc
    have ed : ((dn + 1 : Nat) : Int) - 1 = (dn : Nat) := by omega
    have e0 : ¬ ((dn + 1 : Nat) : Int) = 0 := by omega
    have W5 := Wn_five dn
    have Ws := Wn_succ dn
    have two : ∀ {w : Str} {a b : D}, Tm (dn + 3) (Wn dn) a → Tm (dn + 3) (Wn dn) b → Tm (dn + 1 + 3) (Wn (dn + 1)) (.tuple [.str w, a, b]) := fun ha hb => (tm_two ha hb).mono (by omega) (by omega)
    have one : ∀ {w : Str} {a : D}, Tm (dn + 3) (Wn dn) a → Tm (dn + 1 + 3) (Wn (dn + 1)) (.tuple [.str w, a]) := fun ha => (tm_one ha).mono (by omega) (by omega)
    simp only [b__law_term, sq]
    refine ex_seq fun E1 r1 _ _ _ n1 => ?_
    simp only [ex, ev, args, evA, evO, evOs, evT, evP, i_, s_, recv, true_and, List.getElem?_cons_succ, List.getElem?_cons_zero, Option.some.injEq, exists_eq_left', List.length_cons, List.length_nil, List.length_set, List.set_cons_succ, List.set_cons_zero, Nat.zero_add, Nat.reduceAdd, Nat.reduceLT, ↓reduceIte, q_addI, q_addS, q_addL, q_addT, q_sub, q_ltI, q_leI, q_gtI, q_geI, q_ltS, q_eqI, q_neI, q_ixL, q_ixT, q_max2, q_min2, q_lenL, q_lenT, q_lenS, q_tupL, q_tupT, q_lstT, q_lstL, q_revT, q_revL, q_notV, q_intB, q_isN, q_notN, q_slT, q_slL, at_0, at_1, at_2, at_3, List.length_map, valsD, Option.map_some, PyData.bool.injEq, PyData.int.injEq, setAll]
    refine next_c (by omega) (by decide) (by decide) fun w w0 w8 => ?_
    refine n1 _ (ex_seq fun E2 r2 _ _ _ n2 => ex_ite fun p p1 p2 => ?_)
    simp only [ex, ev, args, evA, evO, evOs, evT, evP, i_, s_, recv, true_and, List.getElem?_cons_succ, List.getElem?_cons_zero, Option.some.injEq, exists_eq_left', List.length_cons, List.length_nil, List.length_set, List.set_cons_succ, List.set_cons_zero, Nat.zero_add, Nat.reduceAdd, Nat.reduceLT, ↓reduceIte, q_addI, q_addS, q_addL, q_addT, q_sub, q_ltI, q_leI, q_gtI, q_geI, q_ltS, q_eqI, q_neI, q_ixL, q_ixT, q_max2, q_min2, q_lenL, q_lenT, q_lenS, q_tupL, q_tupT, q_lstT, q_lstL, q_revT, q_revL, q_notV, q_intB, q_isN, q_notN, q_slT, q_slL, at_0, at_1, at_2, at_3, List.length_map, valsD, Option.map_some, PyData.bool.injEq, PyData.int.injEq, e0, decide_false, Bool.false_eq_true]
    refine if_ite p1 p2 (ite2 (fun _ => ?_) fun hw => n2 _ ?_)
    · refine ex_seq fun E3 r3 _ _ _ n3 => ?_
      simp only [ex, ev, args, evA, evO, evOs, evT, evP, i_, s_, recv, true_and, List.getElem?_cons_succ, List.getElem?_cons_zero, Option.some.injEq, exists_eq_left', List.length_cons, List.length_nil, List.length_set, List.set_cons_succ, List.set_cons_zero, Nat.zero_add, Nat.reduceAdd, Nat.reduceLT, ↓reduceIte]
      exact plain_c (by omega) hs ⟨xs, rfl, x1, x3, xp⟩ fun t ht => ⟨_, rfl, by rw [r3, r2]; exact h _ (ht.mono (by omega) (by omega))⟩
    clear p1 p2 p
    refine ex_seq fun E3 r3 _ _ _ n3 => ex_ite fun p p1 p2 => ?_
    simp only [ex, ev, args, evA, evO, evOs, evT, evP, i_, s_, recv, true_and, List.getElem?_cons_succ, List.getElem?_cons_zero, Option.some.injEq, exists_eq_left', List.length_cons, List.length_nil, List.length_set, List.set_cons_succ, List.set_cons_zero, Nat.zero_add, Nat.reduceAdd, Nat.reduceLT, ↓reduceIte, q_addI, q_addS, q_addL, q_addT, q_sub, q_ltI, q_leI, q_gtI, q_geI, q_ltS, q_eqI, q_neI, q_ixL, q_ixT, q_max2, q_min2, q_lenL, q_lenT, q_lenS, q_tupL, q_tupT, q_lstT, q_lstL, q_revT, q_revL, q_notV, q_intB, q_isN, q_notN, q_slT, q_slL, at_0, at_1, at_2, at_3, List.length_map, valsD, Option.map_some, PyData.bool.injEq, PyData.int.injEq]
    refine if_ite p1 p2 (ite2 (fun h4 => ?_) fun h4 => n3 _ ?_)
    · clear p1 p2 p
      refine ex_seq fun E4 r4 _ _ _ n4 => ?_
      simp only [ex, ev, args, evA, evO, evOs, evT, evP, i_, s_, recv, true_and, List.getElem?_cons_succ, List.getElem?_cons_zero, Option.some.injEq, exists_eq_left', List.length_cons, List.length_nil, List.length_set, List.set_cons_succ, List.set_cons_zero, Nat.zero_add, Nat.reduceAdd, Nat.reduceLT, ↓reduceIte, q_addI, q_addS, q_addL, q_addT, q_sub, q_ltI, q_leI, q_gtI, q_geI, q_ltS, q_eqI, q_neI, q_ixL, q_ixT, q_max2, q_min2, q_lenL, q_lenT, q_lenS, q_tupL, q_tupT, q_lstT, q_lstL, q_revT, q_revL, q_notV, q_intB, q_isN, q_notN, q_slT, q_slL, at_0, at_1, at_2, at_3, List.length_map, valsD, Option.map_some, PyData.bool.injEq, PyData.int.injEq, ed]
      refine ih (by omega) hs ⟨xs, rfl, x1, x3, xp⟩ fun t ht => ⟨_, rfl, ?_⟩
      simp only [bindT, bindTs, List.length_cons, List.length_nil, List.length_set, List.set_cons_succ, List.set_cons_zero, Nat.zero_add, Nat.reduceAdd, Nat.reduceLT, true_and]
      refine n4 _ (ex_seq fun E5 r5 _ _ _ n5 => ?_)
      simp only [ex, ev, args, evA, evO, evOs, evT, evP, i_, s_, recv, true_and, List.getElem?_cons_succ, List.getElem?_cons_zero, Option.some.injEq, exists_eq_left', List.length_cons, List.length_nil, List.length_set, List.set_cons_succ, List.set_cons_zero, Nat.zero_add, Nat.reduceAdd, Nat.reduceLT, ↓reduceIte, q_addI, q_addS, q_addL, q_addT, q_sub, q_ltI, q_leI, q_gtI, q_geI, q_ltS, q_eqI, q_neI, q_ixL, q_ixT, q_max2, q_min2, q_lenL, q_lenT, q_lenS, q_tupL, q_tupT, q_lstT, q_lstL, q_revT, q_revL, q_notV, q_intB, q_isN, q_notN, q_slT, q_slL, at_0, at_1, at_2, at_3, List.length_map, valsD, Option.map_some, PyData.bool.injEq, PyData.int.injEq, ed]
      refine ⟨by rw [sizeLine_eq]; simp, ?_⟩
      simp only [decide_eq_true_eq] at hw h4
      have : w - 1 = 0 ∨ w - 1 = 1 ∨ w - 1 = 2 := by omega
      obtain ⟨wd, ew⟩ : ∃ wd : Str, atI [PyData.str "either", .str "both", .str "without"] (w - 1) = some (.str wd) := by
        rcases this with e | e | e <;> rw [e]
        · exact ⟨_, at_0⟩
        · exact ⟨_, at_1⟩
        · exact ⟨_, at_2⟩
      refine ⟨_, ew, ih (by omega) hs ⟨xs, rfl, x1, x3, xp⟩ fun t2 ht2 => ⟨_, rfl, ?_⟩⟩
      refine ⟨by rw [sizeLine_eq]; simp, ?_⟩
      rw [r5, r3]
      exact h _ (two ht ht2)
    clear p1 p2 p
    -- back
    refine ex_seq fun E4 r4 _ _ _ n4 => ex_ite fun p p1 p2 => ?_
    simp only [ex, ev, args, evA, evO, evOs, evT, evP, i_, s_, recv, true_and, List.getElem?_cons_succ, List.getElem?_cons_zero, Option.some.injEq, exists_eq_left', List.length_cons, List.length_nil, List.length_set, List.set_cons_succ, List.set_cons_zero, Nat.zero_add, Nat.reduceAdd, Nat.reduceLT, ↓reduceIte, q_addI, q_addS, q_addL, q_addT, q_sub, q_ltI, q_leI, q_gtI, q_geI, q_ltS, q_eqI, q_neI, q_ixL, q_ixT, q_max2, q_min2, q_lenL, q_lenT, q_lenS, q_tupL, q_tupT, q_lstT, q_lstL, q_revT, q_revL, q_notV, q_intB, q_isN, q_notN, q_slT, q_slL, at_0, at_1, at_2, at_3, List.length_map, valsD, Option.map_some, PyData.bool.injEq, PyData.int.injEq]
    have kRev : IsKind (.tuple (xs.map PyData.str).reverse) := ⟨xs.reverse, by simp, by simpa using x1, by simpa using x3, fun x hx => xp x (by simpa using hx)⟩
    refine twice (fun z => p2 (n4 _ z)) (fun pf => ?_) ?_
    · refine ite2 (fun _ => if_ite p1 (fun _ => pf) (ite2 (fun h2 => ?_) fun _ => trivial)) fun _ => pf
      refine ex_seq fun E5 r5 _ _ _ n5 => ?_
      simp only [ex, ev, args, evA, evO, evOs, evT, evP, i_, s_, recv, true_and, List.getElem?_cons_succ, List.getElem?_cons_zero, Option.some.injEq, exists_eq_left', List.length_cons, List.length_nil, List.length_set, List.set_cons_succ, List.set_cons_zero, Nat.zero_add, Nat.reduceAdd, Nat.reduceLT, ↓reduceIte, q_addI, q_addS, q_addL, q_addT, q_sub, q_ltI, q_leI, q_gtI, q_geI, q_ltS, q_eqI, q_neI, q_ixL, q_ixT, q_max2, q_min2, q_lenL, q_lenT, q_lenS, q_tupL, q_tupT, q_lstT, q_lstL, q_revT, q_revL, q_notV, q_intB, q_isN, q_notN, q_slT, q_slL, at_0, at_1, at_2, at_3, List.length_map, valsD, Option.map_some, PyData.bool.injEq, PyData.int.injEq, ed]
      refine ih (by omega) hs kRev fun t ht => ⟨_, rfl, ?_⟩
      refine ⟨by rw [sizeLine_eq]; simp, ?_⟩
      rw [r5, r4]
      exact h _ (one ht)
    clear p1 p2 p
    -- reach
    refine ex_seq fun E5 r5 _ _ _ n5 => ex_ite fun p p1 p2 => ?_
    simp only [ex, ev, args, evA, evO, evOs, evT, evP, i_, s_, recv, true_and, List.getElem?_cons_succ, List.getElem?_cons_zero, Option.some.injEq, exists_eq_left', List.length_cons, List.length_nil, List.length_set, List.set_cons_succ, List.set_cons_zero, Nat.zero_add, Nat.reduceAdd, Nat.reduceLT, ↓reduceIte, q_addI, q_addS, q_addL, q_addT, q_sub, q_ltI, q_leI, q_gtI, q_geI, q_ltS, q_eqI, q_neI, q_ixL, q_ixT, q_max2, q_min2, q_lenL, q_lenT, q_lenS, q_tupL, q_tupT, q_lstT, q_lstL, q_revT, q_revL, q_notV, q_intB, q_isN, q_notN, q_slT, q_slL, at_0, at_1, at_2, at_3, List.length_map, valsD, Option.map_some, PyData.bool.injEq, PyData.int.injEq]
    refine twice (fun z => p2 (n5 _ z)) (fun pf => ?_) ?_
    · refine ite2 (fun _ => ite2 (fun h2 => ?_) fun _ => pf) fun _ => pf
      simp only [decide_eq_true_eq] at h2
      obtain ⟨x0, xr, rfl⟩ : ∃ a r, xs = [a, r] := by
        match xs, h2 with
        | [a, b], _ => exact ⟨a, b, rfl⟩
      refine ⟨_, at_0, _, at_1, _, q_eqD (shp_str (xp x0 (by simp))) (shp_str (xp xr (by simp))), if_ite p1 (fun _ => pf) (ite2 (fun _ => ?_) fun _ => trivial)⟩
      refine ex_seq fun E6 r6 _ _ _ n6 => ?_
      simp only [ex, ev, args, evA, evO, evOs, evT, evP, i_, s_, recv, true_and, List.getElem?_cons_succ, List.getElem?_cons_zero, Option.some.injEq, exists_eq_left', List.length_cons, List.length_nil, List.length_set, List.set_cons_succ, List.set_cons_zero, Nat.zero_add, Nat.reduceAdd, Nat.reduceLT, ↓reduceIte, q_addI, q_addS, q_addL, q_addT, q_sub, q_ltI, q_leI, q_gtI, q_geI, q_ltS, q_eqI, q_neI, q_ixL, q_ixT, q_max2, q_min2, q_lenL, q_lenT, q_lenS, q_tupL, q_tupT, q_lstT, q_lstL, q_revT, q_revL, q_notV, q_intB, q_isN, q_notN, q_slT, q_slL, at_0, at_1, at_2, at_3, List.length_map, valsD, Option.map_some, PyData.bool.injEq, PyData.int.injEq, ed]
      refine ih (by omega) hs ⟨_, rfl, x1, x3, xp⟩ fun t ht => ⟨_, rfl, ?_⟩
      refine ⟨by rw [sizeLine_eq]; simp, ?_⟩
      rw [r6, r5]
      exact h _ (one ht)
    clear p1 p2 p
    -- cross
    refine ex_seq fun E6 r6 _ _ _ n6 => ex_ite fun p p1 p2 => ?_
    simp only [ex, ev, args, evA, evO, evOs, evT, evP, i_, s_, recv, true_and, List.getElem?_cons_succ, List.getElem?_cons_zero, Option.some.injEq, exists_eq_left', List.length_cons, List.length_nil, List.length_set, List.set_cons_succ, List.set_cons_zero, Nat.zero_add, Nat.reduceAdd, Nat.reduceLT, ↓reduceIte, q_addI, q_addS, q_addL, q_addT, q_sub, q_ltI, q_leI, q_gtI, q_geI, q_ltS, q_eqI, q_neI, q_ixL, q_ixT, q_max2, q_min2, q_lenL, q_lenT, q_lenS, q_tupL, q_tupT, q_lstT, q_lstL, q_revT, q_revL, q_notV, q_intB, q_isN, q_notN, q_slT, q_slL, at_0, at_1, at_2, at_3, List.length_map, valsD, Option.map_some, PyData.bool.injEq, PyData.int.injEq]
    have kTo : ∀ n : Nat, 1 ≤ n → IsKind (.tuple ((xs.map PyData.str).take n)) := fun n hn => ⟨xs.take n, by simp [List.map_take], by simp; omega, by simp; omega, fun x hx => xp x (List.mem_of_mem_take hx)⟩
    have kFrom : ∀ n : Nat, n < xs.length → IsKind (.tuple ((xs.map PyData.str).drop n)) := fun n hn => ⟨xs.drop n, by simp [List.map_drop], by simp; omega, by simp; omega, fun x hx => xp x (List.mem_of_mem_drop hx)⟩
    refine twice (fun z => p2 (n6 _ z)) (fun pf => ?_) ?_
    · refine ite2 (fun _ => if_ite p1 (fun _ => pf) (ite2 (fun h2 => ?_) fun _ => trivial)) fun _ => pf
      simp only [decide_eq_true_eq] at h2
      refine ex_seq fun E7 r7 _ _ _ n7 => ?_
      simp only [ex, ev, args, evA, evO, evOs, evT, evP, i_, s_, recv, true_and, List.getElem?_cons_succ, List.getElem?_cons_zero, Option.some.injEq, exists_eq_left', List.length_cons, List.length_nil, List.length_set, List.set_cons_succ, List.set_cons_zero, Nat.zero_add, Nat.reduceAdd, Nat.reduceLT, ↓reduceIte, q_addI, q_addS, q_addL, q_addT, q_sub, q_ltI, q_leI, q_gtI, q_geI, q_ltS, q_eqI, q_neI, q_ixL, q_ixT, q_max2, q_min2, q_lenL, q_lenT, q_lenS, q_tupL, q_tupT, q_lstT, q_lstL, q_revT, q_revL, q_notV, q_intB, q_isN, q_notN, q_slT, q_slL, at_0, at_1, at_2, at_3, List.length_map, valsD, Option.map_some, PyData.bool.injEq, PyData.int.injEq]
      refine next_c (by omega) (by omega) (by omega) fun r q0 q1 => ⟨_, rfl, _, rfl, ?_⟩
      obtain ⟨rn, rfl⟩ : ∃ rn : Nat, r = (rn : Nat) := ⟨r.toNat, by omega⟩
      have er : (1 : Int) + (rn : Nat) = ((1 + rn : Nat) : Int) := by omega
      rw [er]
      simp only [bindT, bindTs, List.length_cons, List.length_nil, List.length_set, List.set_cons_succ, List.set_cons_zero, Nat.zero_add, Nat.reduceAdd, Nat.reduceLT, true_and]
      refine n7 _ (ex_seq fun E8 r8 _ _ _ n8 => ?_)
      simp only [ex, ev, args, evA, evO, evOs, evT, evP, i_, s_, recv, true_and, List.getElem?_cons_succ, List.getElem?_cons_zero, Option.some.injEq, exists_eq_left', List.length_cons, List.length_nil, List.length_set, List.set_cons_succ, List.set_cons_zero, Nat.zero_add, Nat.reduceAdd, Nat.reduceLT, ↓reduceIte, q_addI, q_addS, q_addL, q_addT, q_sub, q_ltI, q_leI, q_gtI, q_geI, q_ltS, q_eqI, q_neI, q_ixL, q_ixT, q_max2, q_min2, q_lenL, q_lenT, q_lenS, q_tupL, q_tupT, q_lstT, q_lstL, q_revT, q_revL, q_notV, q_intB, q_isN, q_notN, q_slT, q_slL, at_0, at_1, at_2, at_3, List.length_map, valsD, Option.map_some, PyData.bool.injEq, PyData.int.injEq, cut_to, ed]
      refine ih (by omega) hs (kTo _ (by omega)) fun t ht => ⟨_, rfl, ?_⟩
      simp only [bindT, bindTs, List.length_cons, List.length_nil, List.length_set, List.set_cons_succ, List.set_cons_zero, Nat.zero_add, Nat.reduceAdd, Nat.reduceLT, true_and]
      refine n8 _ (ex_seq fun E9 r9 _ _ _ n9 => ?_)
      simp only [ex, ev, args, evA, evO, evOs, evT, evP, i_, s_, recv, true_and, List.getElem?_cons_succ, List.getElem?_cons_zero, Option.some.injEq, exists_eq_left', List.length_cons, List.length_nil, List.length_set, List.set_cons_succ, List.set_cons_zero, Nat.zero_add, Nat.reduceAdd, Nat.reduceLT, ↓reduceIte, q_addI, q_addS, q_addL, q_addT, q_sub, q_ltI, q_leI, q_gtI, q_geI, q_ltS, q_eqI, q_neI, q_ixL, q_ixT, q_max2, q_min2, q_lenL, q_lenT, q_lenS, q_tupL, q_tupT, q_lstT, q_lstL, q_revT, q_revL, q_notV, q_intB, q_isN, q_notN, q_slT, q_slL, at_0, at_1, at_2, at_3, List.length_map, valsD, Option.map_some, PyData.bool.injEq, PyData.int.injEq, cut_from, ed]
      refine ih (by omega) hs (kFrom _ (by omega)) fun t2 ht2 => ⟨_, rfl, ?_⟩
      refine ⟨by rw [sizeLine_eq]; simp, ?_⟩
      rw [r9, r6]
      exact h _ (two ht ht2)
    clear p1 p2 p
    -- join
    refine ex_seq fun E8 r8 _ _ _ n8 => ?_
    simp only [ex, ev, args, evA, evO, evOs, evT, evP, i_, s_, recv, true_and, List.getElem?_cons_succ, List.getElem?_cons_zero, Option.some.injEq, exists_eq_left', List.length_cons, List.length_nil, List.length_set, List.set_cons_succ, List.set_cons_zero, Nat.zero_add, Nat.reduceAdd, Nat.reduceLT, ↓reduceIte, q_addI, q_addS, q_addL, q_addT, q_sub, q_ltI, q_leI, q_gtI, q_geI, q_ltS, q_eqI, q_neI, q_ixL, q_ixT, q_max2, q_min2, q_lenL, q_lenT, q_lenS, q_tupL, q_tupT, q_lstT, q_lstL, q_revT, q_revL, q_notV, q_intB, q_isN, q_notN, q_slT, q_slL, at_0, at_1, at_2, at_3, List.length_map, valsD, Option.map_some, PyData.bool.injEq, PyData.int.injEq, setAll]
    refine next_c (by omega) (by omega) (by omega) fun r q0 q1 => ⟨_, rfl, ?_⟩
    obtain ⟨y, ey, hy⟩ := at_strs q0 q1
    refine ⟨_, ey, next_c (by omega) (by omega) (by omega) fun cut c0 c1 => n8 _ (ex_seq fun E9 r9 _ _ _ n9 => ?_)⟩
    obtain ⟨ct, rfl⟩ : ∃ ct : Nat, cut = (ct : Nat) := ⟨cut.toNat, by omega⟩
    simp only [ex, ev, args, evA, evO, evOs, evT, evP, i_, s_, recv, true_and, List.getElem?_cons_succ, List.getElem?_cons_zero, Option.some.injEq, exists_eq_left', List.length_cons, List.length_nil, List.length_set, List.set_cons_succ, List.set_cons_zero, Nat.zero_add, Nat.reduceAdd, Nat.reduceLT, ↓reduceIte, q_addI, q_addS, q_addL, q_addT, q_sub, q_ltI, q_leI, q_gtI, q_geI, q_ltS, q_eqI, q_neI, q_ixL, q_ixT, q_max2, q_min2, q_lenL, q_lenT, q_lenS, q_tupL, q_tupT, q_lstT, q_lstL, q_revT, q_revL, q_notV, q_intB, q_isN, q_notN, q_slT, q_slL, at_0, at_1, at_2, at_3, List.length_map, valsD, Option.map_some, PyData.bool.injEq, PyData.int.injEq, cut_to, cut_from, setAll]
    have z1 : ((xs.map PyData.str).take ct).length + 1 ≤ sizeLine := by rw [sizeLine_eq, List.length_take, List.length_map]; omega
    have z2 : 1 + ((xs.map PyData.str).drop ct).length ≤ sizeLine := by rw [sizeLine_eq, List.length_drop, List.length_map]; omega
    refine ⟨by rw [sizeLine_eq]; simp, _, if_pos z1, by rw [sizeLine_eq]; simp, _, if_pos z2, n9 _ (ex_seq fun E10 r10 _ _ _ n10 => ex_ite fun p p1 p2 => ?_)⟩
    simp only [ex, ev, args, evA, evO, evOs, evT, evP, i_, s_, recv, true_and, List.getElem?_cons_succ, List.getElem?_cons_zero, Option.some.injEq, exists_eq_left', List.length_cons, List.length_nil, List.length_set, List.set_cons_succ, List.set_cons_zero, Nat.zero_add, Nat.reduceAdd, Nat.reduceLT, ↓reduceIte, q_addI, q_addS, q_addL, q_addT, q_sub, q_ltI, q_leI, q_gtI, q_geI, q_ltS, q_eqI, q_neI, q_ixL, q_ixT, q_max2, q_min2, q_lenL, q_lenT, q_lenS, q_tupL, q_tupT, q_lstT, q_lstL, q_revT, q_revL, q_notV, q_intB, q_isN, q_notN, q_slT, q_slL, at_0, at_1, at_2, at_3, List.length_map, valsD, Option.map_some, PyData.bool.injEq, PyData.int.injEq]
    refine if_ite p1 p2 (ite2 (fun _ => ?_) fun hw => n10 _ ?_)
    · refine ex_seq fun E11 r11 _ _ _ n11 => ?_
      simp only [ex, ev, args, evA, evO, evOs, evT, evP, i_, s_, recv, true_and, List.getElem?_cons_succ, List.getElem?_cons_zero, Option.some.injEq, exists_eq_left', List.length_cons, List.length_nil, List.length_set, List.set_cons_succ, List.set_cons_zero, Nat.zero_add, Nat.reduceAdd, Nat.reduceLT, ↓reduceIte]
      exact plain_c (by omega) hs ⟨xs, rfl, x1, x3, xp⟩ fun t ht => ⟨_, rfl, by rw [r11, r10]; exact h _ (ht.mono (by omega) (by omega))⟩
    clear p1 p2 p
    simp only [decide_eq_true_eq, List.length_append, List.length_take, List.length_drop, List.length_map, List.length_cons, List.length_nil] at hw
    have kA : IsKind (.tuple ((xs.map PyData.str).take ct ++ [.str y])) := by
      refine ⟨xs.take ct ++ [y], by simp [List.map_take], by simp, ?_, fun x hx => ?_⟩
      · simp only [List.length_append, List.length_take, List.length_cons, List.length_nil]; split at hw <;> omega
      · rcases List.mem_append.mp hx with hx | hx
        · exact xp x (List.mem_of_mem_take hx)
        · simp at hx; subst hx; exact hs.sp _ hy
    have kB : IsKind (.tuple (.str y :: (xs.map PyData.str).drop ct)) := by
      refine ⟨y :: xs.drop ct, by simp [List.map_drop], by simp, ?_, fun x hx => ?_⟩
      · simp only [List.length_cons, List.length_drop]; split at hw <;> omega
      · rcases List.mem_cons.mp hx with hx | hx
        · subst hx; exact hs.sp _ hy
        · exact xp x (List.mem_of_mem_drop hx)
    refine ex_seq fun E11 r11 _ _ _ n11 => ?_
    simp only [ex, ev, args, evA, evO, evOs, evT, evP, i_, s_, recv, true_and, List.getElem?_cons_succ, List.getElem?_cons_zero, Option.some.injEq, exists_eq_left', List.length_cons, List.length_nil, List.length_set, List.set_cons_succ, List.set_cons_zero, Nat.zero_add, Nat.reduceAdd, Nat.reduceLT, ↓reduceIte, q_addI, q_addS, q_addL, q_addT, q_sub, q_ltI, q_leI, q_gtI, q_geI, q_ltS, q_eqI, q_neI, q_ixL, q_ixT, q_max2, q_min2, q_lenL, q_lenT, q_lenS, q_tupL, q_tupT, q_lstT, q_lstL, q_revT, q_revL, q_notV, q_intB, q_isN, q_notN, q_slT, q_slL, at_0, at_1, at_2, at_3, List.length_map, valsD, Option.map_some, PyData.bool.injEq, PyData.int.injEq, ed]
    refine ih (by omega) hs kA fun t ht => ⟨_, rfl, ih (by omega) hs kB fun t2 ht2 => ⟨_, rfl, ?_⟩⟩
    refine ⟨by rw [sizeLine_eq]; simp, ?_⟩
    rw [r11]
    exact h _ (two ht ht2)
end Tk
/-! K11: the plain law of k15, last part: sayings, the turn. -/
namespace Tk
open PySem PySem.Spec PyProof.Rows L2
theorem tm_q {w v : Str} {a b : D} {n m n' m' : Nat} (ha : Tm n m a) (hb : Tm n' m' b) : Tm (1 + max n n') (1 + (m + m')) (.tuple [.str w, .str v, a, b]) := by
  refine ⟨rfl, ?_, ?_, ?_⟩
  · simp [okD, okL, ha.ok, hb.ok]
  · have := ha.dp; have := hb.dp
    simp only [dp, dpL]; omega
  · have := ha.wt; have := hb.wt
    simp only [wt, wtL]; omega
theorem word_at {ws : List Str} {i : Int} (h0 : 0 ≤ i) (h1 : i < ws.length) : ∃ w, atI (ws.map PyData.str) i = some (.str w) := by
  obtain ⟨y, e, _⟩ := at_strs (xs := ws) h0 h1
  exact ⟨y, e⟩
theorem said_call {n many : Nat} {d t : D} {sorts : List Str} {ties : List D} {k : Slot → Prop} {x : KX} (hn : 5 ≤ n) (hm : many ≤ 11) (hs : Sch d sorts ties) (ht : Tm 6 47 t) (h : ∀ t, Tm 18 128 t → k (.val t)) : callW tab noGl n f__law_said [.st, .val d, .val t, .val (.int (many : Nat))] k x := by
  obtain ⟨m, rfl⟩ : ∃ m, n = m + 1 := ⟨n - 1, by omega⟩
  refine call_code (d := d__law_said) rfl rfl ?_
  show ex _ b__law_said [some .st, some (.val d), some (.val t), some (.val (.int (many : Nat))), none, none, none, none, none, none, none] _
  have hd := hs.eq
  subst hd
  have s1 := hs.s1
  have s3 := hs.s3
  simp only [b__law_said, sq]
  refine ex_seq fun E1 r1 _ _ _ n1 => ?_
  simp only [ex, ev, args, evA, evO, evOs, evT, evP, i_, s_, recv, true_and, List.getElem?_cons_succ, List.getElem?_cons_zero, Option.some.injEq, exists_eq_left', List.length_cons, List.length_nil, List.length_set, List.set_cons_succ, List.set_cons_zero, Nat.zero_add, Nat.reduceAdd, Nat.reduceLT, ↓reduceIte, q_addI, q_addS, q_addL, q_addT, q_sub, q_ltI, q_leI, q_gtI, q_geI, q_ltS, q_eqI, q_neI, q_ixL, q_ixT, q_max2, q_min2, q_lenL, q_lenT, q_lenS, q_tupL, q_tupT, q_lstT, q_lstL, q_revT, q_revL, q_notV, q_intB, q_isN, q_notN, q_slT, q_slL, at_0, at_1, at_2, at_3, List.length_map, valsD, Option.map_some, PyData.bool.injEq, PyData.int.injEq, setAll]
  refine ⟨by rw [sizeLine_eq]; simp, next_c (by omega) (by decide) (by decide) fun r q0 q1 => ⟨_, rfl, ?_⟩⟩
  obtain ⟨w0, e0⟩ := word_at (ws := ["some", "no", "one", "lone"]) q0 q1
  refine ⟨_, e0, by rw [sizeLine_eq]; simp, n1 _ ?_⟩
  -- from the second statement on, by what is found
  have go : ∀ (f : D), Tm 7 95 f → ex ⟨callW tab noGl m, noGl⟩ (sq [.for_ (.name 4) (.range1 (.var 3)) (sq [.par [7, 8] (args [(.call f__law_next (args [(.var 0), (i_ 6)])), (.tup (args [(s_ "sort"), (.op2 .ix (.op2 .ix (.var 1) (i_ 0)) (.call f__law_next (args [(.var 0), (.op1 .len (.op2 .ix (.var 1) (i_ 0)))])))]))]),
    .asg (.name 6) (.op2 .add (.var 6) (.op1 .int (.op2 .gt (.var 7) (i_ 3)))),
    .asg (.name 7) (.ifx (.op2 .gt (.var 6) (i_ 4)) (i_ 0) (.var 7)),
    .ite (.op2 .eq (.var 7) (i_ 0)) (sq [.asg (.name 5) (.tup (args [(s_ "not"), (.var 5)]))])
      (sq [.ite (.op2 .lt (.var 7) (i_ 4)) (sq [.par [9, 10] (args [(.op2 .ix (.lst (args [(s_ "and"), (s_ "or"), (s_ "if")])) (.op2 .sub (.var 7) (i_ 1))), (.tup (args [(s_ "some"), (.var 8)]))]),
        .asg (.name 5) (.ifx (.op2 .eq (.call f__law_next (args [(.var 0), (i_ 2)])) (i_ 0)) (.tup (args [(.var 9), (.var 5), (.var 10)])) (.tup (args [(.var 9), (.var 10), (.var 5)])))])
        (sq [.asg (.name 5) (.tup (args [(.op2 .ix (.lst (args [(s_ "all"), (s_ "exists")])) (.op2 .sub (.var 7) (i_ 4))), (.op2 .ix (.lst (args [(s_ "and"), (s_ "x"), (s_ "sort"), (s_ "tie")])) (.call f__law_next (args [(.var 0), (i_ 4)]))), (.var 8), (.var 5)]))])])]),
  .ret (.var 5)]) [some .st, some (.val (.tuple [.tuple (sorts.map .str), .tuple ties])), some (.val t), some (.val (.int (many : Nat))), none, some (.val f), some (.val (.int 0)), none, none, none, none] (enD k x) := by
    intro f hf
    simp only [sq]
    refine ex_seq fun E2 r2 _ _ _ n2 => ex_for fun L hL => ?_
    simp only [ex, ev, args, evA, evO, evOs, evT, evP, i_, s_, recv, true_and, List.getElem?_cons_succ, List.getElem?_cons_zero, Option.some.injEq, exists_eq_left', List.length_cons, List.length_nil, List.length_set, List.set_cons_succ, List.set_cons_zero, Nat.zero_add, Nat.reduceAdd, Nat.reduceLT, ↓reduceIte, evI]
    refine ⟨many, rfl, ⟨by omega, by omega⟩, hL _ ?_⟩
    refine loopS_inv (fun ws δ => ∃ (f : D) (j : Nat) (b : Int) (s4 s7 s8 s9 s10 : Option Slot), δ = [some .st, some (.val (.tuple [.tuple (sorts.map .str), .tuple ties])), some (.val t), some (.val (.int (many : Nat))), s4, some (.val f), some (.val (.int b)), s7, s8, s9, s10] ∧ Tm (7 + j) (95 + 3 * j) f ∧ j + ws.length ≤ 11) _ _ ⟨f, 0, 0, _, _, _, _, _, rfl, hf, by rw [range_len]; omega⟩ ?_ ?_
    · rintro y ws δ ⟨f, j, b, s4, s7, s8, s9, s10, rfl, h1, h2⟩ hy E' hn hc hrt hbk hxc
      simp only [List.length_cons] at h2
      have fin : ∀ {f' : D} {b' : Int} {s4 s7 s8 s9 s10 : Option Slot}, Tm (7 + (j + 1)) (95 + 3 * (j + 1)) f' → E'.nx [some .st, some (.val (.tuple [.tuple (sorts.map .str), .tuple ties])), some (.val t), some (.val (.int (many : Nat))), s4, some (.val f'), some (.val (.int b')), s7, s8, s9, s10] := fun hf' => hn _ ⟨_, j + 1, _, _, _, _, _, _, rfl, hf', by omega⟩
      simp only [bindT, bindTs, List.length_cons, List.length_nil, List.length_set, List.set_cons_succ, List.set_cons_zero, Nat.zero_add, Nat.reduceAdd, Nat.reduceLT, true_and]
      refine ex_seq fun E3 r3 _ _ _ n3 => ?_
      simp only [ex, ev, args, evA, evO, evOs, evT, evP, i_, s_, recv, true_and, List.getElem?_cons_succ, List.getElem?_cons_zero, Option.some.injEq, exists_eq_left', List.length_cons, List.length_nil, List.length_set, List.set_cons_succ, List.set_cons_zero, Nat.zero_add, Nat.reduceAdd, Nat.reduceLT, ↓reduceIte, q_addI, q_addS, q_addL, q_addT, q_sub, q_ltI, q_leI, q_gtI, q_geI, q_ltS, q_eqI, q_neI, q_ixL, q_ixT, q_max2, q_min2, q_lenL, q_lenT, q_lenS, q_tupL, q_tupT, q_lstT, q_lstL, q_revT, q_revL, q_notV, q_intB, q_isN, q_notN, q_slT, q_slL, at_0, at_1, at_2, at_3, List.length_map, valsD, Option.map_some, PyData.bool.injEq, PyData.int.injEq, setAll]
      refine next_c (by omega) (by decide) (by decide) fun w w0 w6 => next_c (by omega) (by omega) (by omega) fun r q0 q1 => ⟨_, rfl, ?_⟩
      obtain ⟨sn, es, hsn⟩ := at_strs q0 q1
      have tS : Tm 1 1 (.tuple [.str "sort", .str sn]) := tm_leaf
      refine ⟨_, es, by rw [sizeLine_eq]; simp, n3 _ (ex_seq fun E4 r4 _ _ _ n4 => ?_)⟩
      simp only [ex, ev, args, evA, evO, evOs, evT, evP, i_, s_, recv, true_and, List.getElem?_cons_succ, List.getElem?_cons_zero, Option.some.injEq, exists_eq_left', List.length_cons, List.length_nil, List.length_set, List.set_cons_succ, List.set_cons_zero, Nat.zero_add, Nat.reduceAdd, Nat.reduceLT, ↓reduceIte, q_addI, q_addS, q_addL, q_addT, q_sub, q_ltI, q_leI, q_gtI, q_geI, q_ltS, q_eqI, q_neI, q_ixL, q_ixT, q_max2, q_min2, q_lenL, q_lenT, q_lenS, q_tupL, q_tupT, q_lstT, q_lstL, q_revT, q_revL, q_notV, q_intB, q_isN, q_notN, q_slT, q_slL, at_0, at_1, at_2, at_3, List.length_map, valsD, Option.map_some, PyData.bool.injEq, PyData.int.injEq, bindT, bindTs, List.length_cons, List.length_nil, List.length_set, List.set_cons_succ, List.set_cons_zero, Nat.zero_add, Nat.reduceAdd, Nat.reduceLT, true_and]
      refine n4 _ (ex_seq fun E5 r5 _ _ _ n5 => ?_)
      simp only [ex, ev, args, evA, evO, evOs, evT, evP, i_, s_, recv, true_and, List.getElem?_cons_succ, List.getElem?_cons_zero, Option.some.injEq, exists_eq_left', List.length_cons, List.length_nil, List.length_set, List.set_cons_succ, List.set_cons_zero, Nat.zero_add, Nat.reduceAdd, Nat.reduceLT, ↓reduceIte, q_addI, q_addS, q_addL, q_addT, q_sub, q_ltI, q_leI, q_gtI, q_geI, q_ltS, q_eqI, q_neI, q_ixL, q_ixT, q_max2, q_min2, q_lenL, q_lenT, q_lenS, q_tupL, q_tupT, q_lstT, q_lstL, q_revT, q_revL, q_notV, q_intB, q_isN, q_notN, q_slT, q_slL, at_0, at_1, at_2, at_3, List.length_map, valsD, Option.map_some, PyData.bool.injEq, PyData.int.injEq, bindT, bindTs, List.length_cons, List.length_nil, List.length_set, List.set_cons_succ, List.set_cons_zero, Nat.zero_add, Nat.reduceAdd, Nat.reduceLT, true_and]
      -- the way is 0 or as drawn
      have body : ∀ (w' b' : Int), (w' = 0 ∨ w' = w) → ex ⟨callW tab noGl m, noGl⟩ (sq [.ite (.op2 .eq (.var 7) (i_ 0)) (sq [.asg (.name 5) (.tup (args [(s_ "not"), (.var 5)]))])
      (sq [.ite (.op2 .lt (.var 7) (i_ 4)) (sq [.par [9, 10] (args [(.op2 .ix (.lst (args [(s_ "and"), (s_ "or"), (s_ "if")])) (.op2 .sub (.var 7) (i_ 1))), (.tup (args [(s_ "some"), (.var 8)]))]),
        .asg (.name 5) (.ifx (.op2 .eq (.call f__law_next (args [(.var 0), (i_ 2)])) (i_ 0)) (.tup (args [(.var 9), (.var 5), (.var 10)])) (.tup (args [(.var 9), (.var 10), (.var 5)])))])
        (sq [.asg (.name 5) (.tup (args [(.op2 .ix (.lst (args [(s_ "all"), (s_ "exists")])) (.op2 .sub (.var 7) (i_ 4))), (.op2 .ix (.lst (args [(s_ "and"), (s_ "x"), (s_ "sort"), (s_ "tie")])) (.call f__law_next (args [(.var 0), (i_ 4)]))), (.var 8), (.var 5)]))])])]) [some .st, some (.val (.tuple [.tuple (sorts.map .str), .tuple ties])), some (.val t), some (.val (.int (many : Nat))), some (.val y), some (.val f), some (.val (.int b')), some (.val (.int w')), some (.val (.tuple [.str "sort", .str sn])), s9, s10] E' := by
        intro w' b' hw'
        simp only [sq]
        refine ex_seq fun E6 r6 _ _ _ n6 => ex_ite fun p p1 p2 => ?_
        simp only [ex, ev, args, evA, evO, evOs, evT, evP, i_, s_, recv, true_and, List.getElem?_cons_succ, List.getElem?_cons_zero, Option.some.injEq, exists_eq_left', List.length_cons, List.length_nil, List.length_set, List.set_cons_succ, List.set_cons_zero, Nat.zero_add, Nat.reduceAdd, Nat.reduceLT, ↓reduceIte, q_addI, q_addS, q_addL, q_addT, q_sub, q_ltI, q_leI, q_gtI, q_geI, q_ltS, q_eqI, q_neI, q_ixL, q_ixT, q_max2, q_min2, q_lenL, q_lenT, q_lenS, q_tupL, q_tupT, q_lstT, q_lstL, q_revT, q_revL, q_notV, q_intB, q_isN, q_notN, q_slT, q_slL, at_0, at_1, at_2, at_3, List.length_map, valsD, Option.map_some, PyData.bool.injEq, PyData.int.injEq]
        refine if_ite p1 p2 (ite2 (fun _ => ?_) fun h0 => ?_)
        · refine ex_seq fun E7 r7 _ _ _ n7 => ?_
          simp only [ex, ev, args, evA, evO, evOs, evT, evP, i_, s_, recv, true_and, List.getElem?_cons_succ, List.getElem?_cons_zero, Option.some.injEq, exists_eq_left', List.length_cons, List.length_nil, List.length_set, List.set_cons_succ, List.set_cons_zero, Nat.zero_add, Nat.reduceAdd, Nat.reduceLT, ↓reduceIte, q_addI, q_addS, q_addL, q_addT, q_sub, q_ltI, q_leI, q_gtI, q_geI, q_ltS, q_eqI, q_neI, q_ixL, q_ixT, q_max2, q_min2, q_lenL, q_lenT, q_lenS, q_tupL, q_tupT, q_lstT, q_lstL, q_revT, q_revL, q_notV, q_intB, q_isN, q_notN, q_slT, q_slL, at_0, at_1, at_2, at_3, List.length_map, valsD, Option.map_some, PyData.bool.injEq, PyData.int.injEq, bindT, bindTs, List.length_cons, List.length_nil, List.length_set, List.set_cons_succ, List.set_cons_zero, Nat.zero_add, Nat.reduceAdd, Nat.reduceLT, true_and]
          exact ⟨by rw [sizeLine_eq]; simp, n7 _ (n6 _ (fin ((tm_one h1).mono (by omega) (by omega))))⟩
        clear p1 p2 p
        refine ex_seq fun E7 r7 _ _ _ n7 => ex_ite fun p p1 p2 => ?_
        simp only [ex, ev, args, evA, evO, evOs, evT, evP, i_, s_, recv, true_and, List.getElem?_cons_succ, List.getElem?_cons_zero, Option.some.injEq, exists_eq_left', List.length_cons, List.length_nil, List.length_set, List.set_cons_succ, List.set_cons_zero, Nat.zero_add, Nat.reduceAdd, Nat.reduceLT, ↓reduceIte, q_addI, q_addS, q_addL, q_addT, q_sub, q_ltI, q_leI, q_gtI, q_geI, q_ltS, q_eqI, q_neI, q_ixL, q_ixT, q_max2, q_min2, q_lenL, q_lenT, q_lenS, q_tupL, q_tupT, q_lstT, q_lstL, q_revT, q_revL, q_notV, q_intB, q_isN, q_notN, q_slT, q_slL, at_0, at_1, at_2, at_3, List.length_map, valsD, Option.map_some, PyData.bool.injEq, PyData.int.injEq]
        simp only [decide_eq_true_eq] at h0
        refine if_ite p1 p2 (ite2 (fun h4 => ?_) fun h4 => ?_)
        · simp only [decide_eq_true_eq] at h4
          clear p1 p2 p
          refine ex_seq fun E8 r8 _ _ _ n8 => ?_
          simp only [ex, ev, args, evA, evO, evOs, evT, evP, i_, s_, recv, true_and, List.getElem?_cons_succ, List.getElem?_cons_zero, Option.some.injEq, exists_eq_left', List.length_cons, List.length_nil, List.length_set, List.set_cons_succ, List.set_cons_zero, Nat.zero_add, Nat.reduceAdd, Nat.reduceLT, ↓reduceIte, q_addI, q_addS, q_addL, q_addT, q_sub, q_ltI, q_leI, q_gtI, q_geI, q_ltS, q_eqI, q_neI, q_ixL, q_ixT, q_max2, q_min2, q_lenL, q_lenT, q_lenS, q_tupL, q_tupT, q_lstT, q_lstL, q_revT, q_revL, q_notV, q_intB, q_isN, q_notN, q_slT, q_slL, at_0, at_1, at_2, at_3, List.length_map, valsD, Option.map_some, PyData.bool.injEq, PyData.int.injEq, setAll]
          obtain ⟨wd, ew⟩ := word_at (ws := ["and", "or", "if"]) (i := w' - 1) (by omega) (by show w' - 1 < 3; omega)
          refine ⟨by rw [sizeLine_eq]; simp, _, ew, by rw [sizeLine_eq]; simp, n8 _ (ex_seq fun E9 r9 _ _ _ n9 => ?_)⟩
          simp only [ex, ev, args, evA, evO, evOs, evT, evP, i_, s_, recv, true_and, List.getElem?_cons_succ, List.getElem?_cons_zero, Option.some.injEq, exists_eq_left', List.length_cons, List.length_nil, List.length_set, List.set_cons_succ, List.set_cons_zero, Nat.zero_add, Nat.reduceAdd, Nat.reduceLT, ↓reduceIte, q_addI, q_addS, q_addL, q_addT, q_sub, q_ltI, q_leI, q_gtI, q_geI, q_ltS, q_eqI, q_neI, q_ixL, q_ixT, q_max2, q_min2, q_lenL, q_lenT, q_lenS, q_tupL, q_tupT, q_lstT, q_lstL, q_revT, q_revL, q_notV, q_intB, q_isN, q_notN, q_slT, q_slL, at_0, at_1, at_2, at_3, List.length_map, valsD, Option.map_some, PyData.bool.injEq, PyData.int.injEq]
          refine next_c (by omega) (by decide) (by decide) fun r q0 q1 => ⟨_, rfl, _, q_eqI, ite2 (fun _ => ?_) fun _ => ?_⟩
          · simp only [bindT, bindTs, List.length_cons, List.length_nil, List.length_set, List.set_cons_succ, List.set_cons_zero, Nat.zero_add, Nat.reduceAdd, Nat.reduceLT, true_and]
            exact ⟨by rw [sizeLine_eq]; simp, n9 _ (n7 _ (n6 _ (fin ((tm_two h1 (tm_one tS)).mono (by omega) (by omega)))))⟩
          · simp only [bindT, bindTs, List.length_cons, List.length_nil, List.length_set, List.set_cons_succ, List.set_cons_zero, Nat.zero_add, Nat.reduceAdd, Nat.reduceLT, true_and]
            exact ⟨by rw [sizeLine_eq]; simp, n9 _ (n7 _ (n6 _ (fin ((tm_two (tm_one tS) h1).mono (by omega) (by omega)))))⟩
        · simp only [decide_eq_true_eq] at h4
          clear p1 p2 p
          refine ex_seq fun E8 r8 _ _ _ n8 => ?_
          simp only [ex, ev, args, evA, evO, evOs, evT, evP, i_, s_, recv, true_and, List.getElem?_cons_succ, List.getElem?_cons_zero, Option.some.injEq, exists_eq_left', List.length_cons, List.length_nil, List.length_set, List.set_cons_succ, List.set_cons_zero, Nat.zero_add, Nat.reduceAdd, Nat.reduceLT, ↓reduceIte, q_addI, q_addS, q_addL, q_addT, q_sub, q_ltI, q_leI, q_gtI, q_geI, q_ltS, q_eqI, q_neI, q_ixL, q_ixT, q_max2, q_min2, q_lenL, q_lenT, q_lenS, q_tupL, q_tupT, q_lstT, q_lstL, q_revT, q_revL, q_notV, q_intB, q_isN, q_notN, q_slT, q_slL, at_0, at_1, at_2, at_3, List.length_map, valsD, Option.map_some, PyData.bool.injEq, PyData.int.injEq]
          obtain ⟨wd, ew⟩ := word_at (ws := ["all", "exists"]) (i := w' - 4) (by omega) (by show w' - 4 < 2; omega)
          refine ⟨by rw [sizeLine_eq]; simp, _, ew, by rw [sizeLine_eq]; simp, next_c (by omega) (by decide) (by decide) fun r q0 q1 => ⟨_, rfl, ?_⟩⟩
          obtain ⟨vn, ev⟩ := word_at (ws := ["and", "x", "sort", "tie"]) (i := r) q0 q1
          refine ⟨_, ev, by rw [sizeLine_eq]; simp, ?_⟩
          simp only [bindT, bindTs, List.length_cons, List.length_nil, List.length_set, List.set_cons_succ, List.set_cons_zero, Nat.zero_add, Nat.reduceAdd, Nat.reduceLT, true_and]
          exact n8 _ (n7 _ (n6 _ (fin ((tm_q tS h1).mono (by omega) (by omega)))))
      refine ite2 (fun _ => n5 _ (body 0 _ (.inl rfl))) fun _ => n5 _ (body w _ (.inr rfl))
    · rintro δ ⟨f, j, b, s4, s7, s8, s9, s10, rfl, h1, h2⟩
      refine n2 _ (ex_seq fun E3 r3 _ _ _ n3 => ?_)
      simp only [ex, ev, args, evA, evO, evOs, evT, evP, i_, s_, recv, true_and, List.getElem?_cons_succ, List.getElem?_cons_zero, Option.some.injEq, exists_eq_left', List.length_cons, List.length_nil, List.length_set, List.set_cons_succ, List.set_cons_zero, Nat.zero_add, Nat.reduceAdd, Nat.reduceLT, ↓reduceIte]
      rw [r3]
      simp only [List.length_nil] at h2
      exact h _ (h1.mono (by omega) (by omega))
  refine ex_seq fun E2 r2 _ _ _ n2 => ex_ite fun p p1 p2 => ?_
  simp only [ex, ev, args, evA, evO, evOs, evT, evP, i_, s_, recv, true_and, List.getElem?_cons_succ, List.getElem?_cons_zero, Option.some.injEq, exists_eq_left', List.length_cons, List.length_nil, List.length_set, List.set_cons_succ, List.set_cons_zero, Nat.zero_add, Nat.reduceAdd, Nat.reduceLT, ↓reduceIte, q_addI, q_addS, q_addL, q_addT, q_sub, q_ltI, q_leI, q_gtI, q_geI, q_ltS, q_eqI, q_neI, q_ixL, q_ixT, q_max2, q_min2, q_lenL, q_lenT, q_lenS, q_tupL, q_tupT, q_lstT, q_lstL, q_revT, q_revL, q_notV, q_intB, q_isN, q_notN, q_slT, q_slL, at_0, at_1, at_2, at_3, List.length_map, valsD, Option.map_some, PyData.bool.injEq, PyData.int.injEq]
  refine next_c (by omega) (by decide) (by decide) fun r q0 q1 => ⟨_, rfl, _, q_eqI, if_ite p1 p2 (ite2 (fun _ => ?_) fun _ => ?_)⟩
  · refine ex_seq fun E3 r3 _ _ _ n3 => ?_
    simp only [ex, ev, args, evA, evO, evOs, evT, evP, i_, s_, recv, true_and, List.getElem?_cons_succ, List.getElem?_cons_zero, Option.some.injEq, exists_eq_left', List.length_cons, List.length_nil, List.length_set, List.set_cons_succ, List.set_cons_zero, Nat.zero_add, Nat.reduceAdd, Nat.reduceLT, ↓reduceIte, q_addI, q_addS, q_addL, q_addT, q_sub, q_ltI, q_leI, q_gtI, q_geI, q_ltS, q_eqI, q_neI, q_ixL, q_ixT, q_max2, q_min2, q_lenL, q_lenT, q_lenS, q_tupL, q_tupT, q_lstT, q_lstL, q_revT, q_revL, q_notV, q_intB, q_isN, q_notN, q_slT, q_slL, at_0, at_1, at_2, at_3, List.length_map, valsD, Option.map_some, PyData.bool.injEq, PyData.int.injEq, bindT, bindTs, List.length_cons, List.length_nil, List.length_set, List.set_cons_succ, List.set_cons_zero, Nat.zero_add, Nat.reduceAdd, Nat.reduceLT, true_and]
    exact ⟨by rw [sizeLine_eq]; simp, n3 _ (n2 _ (go _ ((tm_two ht ht).mono (by omega) (by omega))))⟩
  · exact n2 _ (go _ ((tm_one ht).mono (by omega) (by omega)))
theorem q_reprT {a b : Nat} (ha : a < 1024) (hb : b < 1024) : ∃ s, sem1 .repr (.tuple [.int (a : Nat), .int (b : Nat)]) = some (.str s) := by
  obtain ⟨h1, h2, h3, h4⟩ := show_two ha hb
  exact ⟨_, by simp only [sem1]; rw [if_pos ⟨h1, h2, h3, h4⟩]⟩
theorem q_neS {x : Str} : sem2 .ne (.str x) (.str x) = some (.bool false) := by
  simp [sem2, bothS, PyData.eqv]
theorem turn_ok (d : D) (E : En) (h : ∀ δ' : Dl, δ'.length = 7 → δ'[0]? = some (some (.val d)) → E.nx δ') : ex cfg turnC (δT d) E := by
  unfold turnC δT cfg lv
  simp only [sq]
  refine ex_seq fun E1 r1 _ _ _ n1 => ?_
  simp only [ex, ev, args, evA, evO, evOs, evT, evP, i_, s_, recv, true_and, List.getElem?_cons_succ, List.getElem?_cons_zero, Option.some.injEq, exists_eq_left', List.length_cons, List.length_nil, List.length_set, List.set_cons_succ, List.set_cons_zero, Nat.zero_add, Nat.reduceAdd, Nat.reduceLT, ↓reduceIte]
  refine scheme_call (m := 35) fun sc sorts ties hs => ⟨_, rfl, ?_⟩
  simp only [bindT, bindTs, List.length_cons, List.length_nil, List.length_set, List.set_cons_succ, List.set_cons_zero, Nat.zero_add, Nat.reduceAdd, Nat.reduceLT, true_and]
  refine n1 _ (ex_seq fun E2 r2 _ _ _ n2 => ?_)
  simp only [ex, ev, args, evA, evO, evOs, evT, evP, i_, s_, recv, true_and, List.getElem?_cons_succ, List.getElem?_cons_zero, Option.some.injEq, exists_eq_left', List.length_cons, List.length_nil, List.length_set, List.set_cons_succ, List.set_cons_zero, Nat.zero_add, Nat.reduceAdd, Nat.reduceLT, ↓reduceIte]
  refine a_kind_call (m := 36) hs fun c hc => ⟨_, rfl, term_call 3 (by decide) hs hc fun t ht => ⟨_, rfl, ?_⟩⟩
  simp only [bindT, bindTs, List.length_cons, List.length_nil, List.length_set, List.set_cons_succ, List.set_cons_zero, Nat.zero_add, Nat.reduceAdd, Nat.reduceLT, true_and]
  refine n2 _ (ex_seq fun E3 r3 _ _ _ n3 => ?_)
  simp only [ex, ev, args, evA, evO, evOs, evT, evP, i_, s_, recv, true_and, List.getElem?_cons_succ, List.getElem?_cons_zero, Option.some.injEq, exists_eq_left', List.length_cons, List.length_nil, List.length_set, List.set_cons_succ, List.set_cons_zero, Nat.zero_add, Nat.reduceAdd, Nat.reduceLT, ↓reduceIte]
  refine next_c (by decide) (by decide) (by decide) fun r q0 q1 => ⟨_, rfl, ?_⟩
  obtain ⟨rn, rfl⟩ : ∃ rn : Nat, r = (rn : Nat) := ⟨r.toNat, by omega⟩
  have ht' : Tm 6 47 t := ht
  refine said_call (by decide) (by omega) hs ht' fun u hu => ⟨_, rfl, ?_⟩
  simp only [bindT, bindTs, List.length_cons, List.length_nil, List.length_set, List.set_cons_succ, List.set_cons_zero, Nat.zero_add, Nat.reduceAdd, Nat.reduceLT, true_and]
  refine n3 _ (ex_seq fun E4 r4 _ _ _ n4 => ex_for fun L hL => ?_)
  have hd := hs.eq
  subst hd
  have s1 := hs.s1
  obtain ⟨s0, sr, es⟩ : ∃ a r, sorts = a :: r := by cases sorts with | nil => simp at s1 | cons a r => exact ⟨a, r, rfl⟩
  have e0 : atI (sorts.map PyData.str) 0 = some (.str s0) := by rw [es]; exact at_0
  simp only [ex, ev, args, evA, evO, evOs, evT, evP, i_, s_, recv, true_and, List.getElem?_cons_succ, List.getElem?_cons_zero, Option.some.injEq, exists_eq_left', List.length_cons, List.length_nil, List.length_set, List.set_cons_succ, List.set_cons_zero, Nat.zero_add, Nat.reduceAdd, Nat.reduceLT, ↓reduceIte, evI, q_addI, q_addS, q_addL, q_addT, q_sub, q_ltI, q_leI, q_gtI, q_geI, q_ltS, q_eqI, q_neI, q_ixL, q_ixT, q_max2, q_min2, q_lenL, q_lenT, q_lenS, q_tupL, q_tupT, q_lstT, q_lstL, q_revT, q_revL, q_notV, q_intB, q_isN, q_notN, q_slT, q_slL, at_0, at_1, at_2, at_3, List.length_map, valsD, Option.map_some, PyData.bool.injEq, PyData.int.injEq, e0, itemsD]
  refine ⟨by rw [sizeLine_eq]; simp, by rw [sizeLine_eq]; simp, hL _ ?_⟩
  have tS : Tm 1 1 (.tuple [.str "sort", .str s0]) := tm_leaf
  refine loopS_inv (fun ws δ => ∃ (s6 : Option Slot), δ = [some (.val d), none, some .st, some (.val (.tuple [.tuple (sorts.map .str), .tuple ties])), some (.val t), some (.val u), s6] ∧ ∀ y ∈ ws, Tm 18 128 y) _ _ ⟨_, rfl, ?_⟩ ?_ ?_
  · intro y hy
    simp at hy
    rcases hy with rfl | rfl | rfl
    · exact ht'.mono (by omega) (by omega)
    · exact hu
    · exact tS.mono (by omega) (by omega)
  · rintro y ws δ ⟨s6, rfl, h1⟩ hy E' hn hc hrt hbk hxc
    have hy' := h1 y (by simp)
    obtain ⟨ds, rfl⟩ := tp_of hy'.tp
    have l1 := hy'.dp
    have l2 := hy'.wt
    simp only [bindT, bindTs, List.length_cons, List.length_nil, List.length_set, List.set_cons_succ, List.set_cons_zero, Nat.zero_add, Nat.reduceAdd, Nat.reduceLT, true_and]
    refine ex_seq fun E5 r5 _ _ _ n5 => ex_ite fun p p1 p2 => ?_
    simp only [ex, ev, args, evA, evO, evOs, evT, evP, i_, s_, recv, true_and, List.getElem?_cons_succ, List.getElem?_cons_zero, Option.some.injEq, exists_eq_left', List.length_cons, List.length_nil, List.length_set, List.set_cons_succ, List.set_cons_zero, Nat.zero_add, Nat.reduceAdd, Nat.reduceLT, ↓reduceIte]
    refine depth_call 40 ds _ _ hy'.ok (by omega) ⟨_, rfl, weight_call 40 ds _ _ hy'.ok (by omega) ⟨_, rfl, ?_⟩⟩
    simp only [q_addI, q_addS, q_addL, q_addT, q_sub, q_ltI, q_leI, q_gtI, q_geI, q_ltS, q_eqI, q_neI, q_ixL, q_ixT, q_max2, q_min2, q_lenL, q_lenT, q_lenS, q_tupL, q_tupT, q_lstT, q_lstL, q_revT, q_revL, q_notV, q_intB, q_isN, q_notN, q_slT, q_slL, at_0, at_1, at_2, at_3, List.length_map, valsD, Option.map_some, PyData.bool.injEq, PyData.int.injEq, Option.some.injEq, exists_eq_left']
    obtain ⟨s, es⟩ := q_reprT (a := dp (.tuple ds)) (b := wt (.tuple ds)) (by omega) (by omega)
    refine ⟨by rw [sizeLine_eq]; simp, _, es, counted_call 40 ds _ _ hy'.ok (by omega) ⟨_, rfl, _, es, _, q_neS, ?_⟩⟩
    exact p2 (n5 _ (hn _ ⟨_, rfl, fun z hz => h1 z (by simp [hz])⟩))
  · rintro δ ⟨s6, rfl, h1⟩
    exact n4 _ (h _ rfl rfl)
end Tk
set_option maxRecDepth 100000 in
theorem PySem.Challenge.cw_tiekeep_k15_how_deep_and_how_heavy_holds : PySem.Challenge.rw_tiekeep_k15_how_deep_and_how_heavy.Holds :=
  law_of Tk.turn_ok
