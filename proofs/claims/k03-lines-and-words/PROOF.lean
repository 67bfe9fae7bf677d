import PyProof.Rows.All
import Wide.All
import OpenK.AllK
import Wide.FinOn
import HandS.ForMost
import HandS.ForExc
import HandS.Walk
import HandS.IsInst
import HandS.TupAny
import HandS.Deep
import PyProof.ReprRoads
import PyProof.P3In
import HandS.Zip
import HandS.Style
import HandS.Defaults
import HandS.Small
import HandS.Ends
import HandS.HeadEnd
import HandS.HeadHook1
import HandS.HeadHook2
import HandS.HeadHook4
import HandS.Head0
import HandS.Head1
import HandS.Head2
import HandS.Base
import HandS.Call
import HandS.More
import HandS.Words
import KE.KStateDown
import HandS.Codes
import PyProof.Rows.StrSplitJoin
import PyProof.Rows.StrSplitAre
import PyProof.Rows.StrItems
import PyProof.Rows.RegFStrParts
import PySem.Challenge.RW_tiekeep_k03_lines_and_words
set_option Elab.async false
set_option linter.all false
set_option maxRecDepth 100000
set_option maxHeartbeats 4000000
namespace Tk
open PySem L2
def kGreat : Str := "great"
def kSmall : Str := "small"
def kAt : Str := "at"
def stKvs (gl : Addr) (sm at_ : Int) : List (Key × V) := [(Sum.inr kGreat, .ref gl), (Sum.inr kSmall, .int sm), (Sum.inr kAt, .int at_)]
/-- the state stands at am, its great cells at gl -/
def StW (am gl : Addr) (H : Hp) : Prop := ∃ (ns : List Int) (sm at_ : Int), H am = some (.dK (stKvs gl sm at_)) ∧ H gl = some (.lst (ns.map V.int))
def StOk (M : Addr → Prop) (W : Hp → Prop) (sv : V) : Prop := sv = .non ∨ ∃ am gl, am ≠ gl ∧ sv = .ref am ∧ (M = fun b => b = am ∨ b = gl) ∧ W = StW am gl
end Tk
namespace Tk
open PySem L2
abbrev D := PyData
/-- what a name of the frame holds: data, a list of its own, the drawing's state -/
inductive Slot where
  | val (d : D)
  | own (ds : List D)
  | st
abbrev Dl := List (Option Slot)
/-- an exception: its class by name, what it was made of -/
structure Exc where
  cls : Str
  args : List D
/-- operations on one, on two things of data -/
inductive Op1 where
  | len | all | any | sum | sorted | tuple | list | repr | isN | notN | notV | neg
  | isi (ts : List Str)
  | cut (lo hi : Bool)
deriving DecidableEq
inductive Op2 where
  | add | sub | mul | fdiv | mod | pow
  | eq | ne | lt | le | gt | ge | inn | nin
  | ix | split | join | index
deriving DecidableEq
/-- targets -/
inductive Tg where
  | name (i : Nat)
  | nil
  | cons (t u : Tg)
  | tup (t : Tg)
/-- expressions (nil, cons: lists of them; pair: of two) -/
inductive CE where
  | const (d : D)
  | var (i : Nat)
  | glob (x : Str)
  | nil
  | cons (a r : CE)
  | tup (r : CE)
  | lst (r : CE)
  | op1 (o : Op1) (a : CE)
  | op2 (o : Op2) (a b : CE)
  | slc (a : CE) (lo hi : CE)
  | nopart
  | chain (o o' : Op2) (a b c : CE)
  | and_ (a r : CE)
  | or_ (a r : CE)
  | not_ (a : CE)
  | ifx (c a b : CE)
  | call (f : Nat) (r : CE)
  | comp (own : List Nat) (e : CE) (t : Tg) (it : CE) (ifs : CE)
  | iter (a : CE)
  | range1 (a : CE)
  | range2 (a b : CE)
  | zip2 (a b : CE)
  | enum (a : CE)
inductive CS where
  | nop
  | seq (a b : CS)
  | expr (e : CE)
  | ret (e : CE)
  | retO (e : CE)
  | retV (i : Nat)
  | retN
  | asg (t : Tg) (e : CE)
  | asgO (i : Nat) (e : CE)
  | par (is : List Nat) (es : CE)
  | app (i : Nat) (e : CE)
  | frz (i : Nat)
  | ite (c : CE) (a b : CS)
  | for_ (t : Tg) (it : CE) (b : CS)
  | brk
  | cnt
/-! ### what the operations do -/
def wordLe (a b : Str) : Bool := decide (a.cps.toList ≤ b.cps.toList)
def ltS (a b : Str) : Bool := decide (a.cps.toList < b.cps.toList)
def atD (xs : List D) (i : Int) : Option D := atI xs i
def lenD : D → Option Nat
  | .str x => some x.length
  | .list xs => some xs.length
  | .tuple xs => some xs.length
  | _ => none
def boolsD : List D → Option (List Bool)
  | [] => some []
  | .bool b :: r => (boolsD r).map (b :: ·)
  | _ => none
def intsD : List D → Option (List Int)
  | [] => some []
  | .int i :: r => (intsD r).map (i :: ·)
  | _ => none
def strsD : List D → Option (List Str)
  | [] => some []
  | .str x :: r => (strsD r).map (x :: ·)
  | _ => none
def isiD (t : Str) : D → Bool
  | .none => decide (t = "NoneType")
  | .bool _ => decide (t = "bool") || decide (t = "int")
  | .int _ => decide (t = "int")
  | .str _ => decide (t = "str")
  | .list _ => decide (t = "list")
  | .tuple _ => decide (t = "tuple")
  | .dict _ => decide (t = "dict")
def kD : Key → D
  | .inl i => .int i
  | .inr x => .str x
def inD (d : D) (xs : List D) : Bool := xs.any fun y => PyData.eqv y d
def allShaped (xs : List D) : Bool := xs.all SeqAt.shaped
def chars (x : Str) : List D := x.cps.toList.map fun c => .str ⟨#[c]⟩
def itemsD : D → Option (List D)
  | .list xs => some xs
  | .tuple xs => some xs
  | .str x => some (chars x)
  | _ => none
def cutD {α : Type} (xs : List α) (lo hi : Option Int) : List α := (xs.drop (HT.sIx xs.length 0 lo)).take (HT.sIx xs.length xs.length hi - HT.sIx xs.length 0 lo)
def firstAt (d : D) : List D → Option Nat
  | [] => none
  | x :: r => if PyData.eqv x d then some 0 else (firstAt d r).map (· + 1)
def isNoneD : D → Bool
  | .none => true
  | _ => false
def sem1 : Op1 → D → Option D
  | .len, d => (lenD d).map fun n => .int (n : Nat)
  | .all, .list xs => (boolsD xs).map fun bs => .bool (bs.all id)
  | .any, .list xs => (boolsD xs).map fun bs => .bool (bs.any id)
  | .sum, .list xs => (intsD xs).map fun is => .int is.sum
  | .tuple, .list xs => some (.tuple xs)
  | .tuple, .tuple xs => some (.tuple xs)
  | .list, .list xs => some (.list xs)
  | .list, .tuple xs => some (.list xs)
  | .repr, d => if d.showable = true ∧ d.hasDict = false ∧ d.depth ≤ 100 ∧ d.shown.length ≤ sizeLine then some (.str d.shown) else none
  | .isN, d => some (.bool (isNoneD d))
  | .notN, d => some (.bool (!isNoneD d))
  | .notV, .bool b => some (.bool (!b))
  | .neg, .int i => some (.int (-i))
  | .isi ts, d => some (.bool (ts.any fun t => isiD t d))
  | _, _ => none
def bothS : D → D → Bool
  | .str _, .str _ => true
  | _, _ => false
def sem2 : Op2 → D → D → Option D
  | .add, .int i, .int j => some (.int (i + j))
  | .add, .str x, .str y => if x.length + y.length ≤ sizeLine then some (.str (x ++ y)) else none
  | .add, .list x, .list y => if x.length + y.length ≤ sizeLine then some (.list (x ++ y)) else none
  | .add, .tuple x, .tuple y => if x.length + y.length ≤ sizeLine then some (.tuple (x ++ y)) else none
  | .sub, .int i, .int j => some (.int (i - j))
  | .mul, .int i, .int j => if (-(2 ^ 64) < i ∧ i < 2 ^ 64) ∨ (-(2 ^ 64) < j ∧ j < 2 ^ 64) then some (.int (i * j)) else none
  | .fdiv, .int i, .int j => if j ≠ 0 ∧ j.natAbs < 1073741824 then some (.int (i.fdiv j)) else none
  | .mod, .int i, .int j => if j ≠ 0 then some (.int (i.fmod j)) else none
  | .pow, .int i, .int j => if 0 ≤ j ∧ j ≤ 1000000 ∧ i.natAbs < 2 ^ 64 then some (.int (i ^ j.toNat)) else none
  | .eq, x, y => if bothS x y = true ∨ (SeqAt.shaped x = true ∧ SeqAt.shaped y = true) then some (.bool (PyData.eqv x y)) else none
  | .ne, x, y => if bothS x y = true ∨ (SeqAt.shaped x = true ∧ SeqAt.shaped y = true) then some (.bool (!PyData.eqv x y)) else none
  | .lt, .int i, .int j => some (.bool (decide (i < j)))
  | .le, .int i, .int j => some (.bool (decide (i ≤ j)))
  | .gt, .int i, .int j => some (.bool (decide (j < i)))
  | .ge, .int i, .int j => some (.bool (decide (j ≤ i)))
  | .lt, .str x, .str y => some (.bool (ltS x y))
  | .inn, .str c, .str z => match c.cps.toList with
    | [n] => some (.bool (decide (n ∈ z.cps.toList)))
    | _ => none
  | .nin, .str c, .str z => match c.cps.toList with
    | [n] => some (.bool (!decide (n ∈ z.cps.toList)))
    | _ => none
  | .inn, x, .list ys => if SeqAt.shaped x = true ∧ allShaped ys = true then some (.bool (inD x ys)) else none
  | .inn, x, .tuple ys => if SeqAt.shaped x = true ∧ allShaped ys = true then some (.bool (inD x ys)) else none
  | .nin, x, .list ys => if SeqAt.shaped x = true ∧ allShaped ys = true then some (.bool (!inD x ys)) else none
  | .nin, x, .tuple ys => if SeqAt.shaped x = true ∧ allShaped ys = true then some (.bool (!inD x ys)) else none
  | .ix, .list xs, .int i => atI xs i
  | .ix, .tuple xs, .int i => atI xs i
  | .ix, .str x, .int i => (atI x.cps.toList i).map fun c => .str ⟨#[c]⟩
  | .split, .str a, .str b => if b.length ≠ 0 ∧ a.length + 2 ≤ sizeLine ∧ ((Txt.split a b).all fun y => decide (y.length ≤ sizeLine)) = true then some (.list ((Txt.split a b).map .str)) else none
  | .join, .str a, .list xs => (strsD xs).bind fun ys => if (ys.map (·.length)).sum + ys.length * a.length ≤ 16777216 ∧ (Txt.join a ys).length ≤ sizeLine then some (.str (Txt.join a ys)) else none
  | .join, .str a, .tuple xs => (strsD xs).bind fun ys => if (ys.map (·.length)).sum + ys.length * a.length ≤ 16777216 ∧ (Txt.join a ys).length ≤ sizeLine then some (.str (Txt.join a ys)) else none
  | .index, .list xs, x => if SeqAt.shaped x = true ∧ SeqAt.shaped (.list xs) = true then (firstAt x xs).map fun n => .int (n : Nat) else none
  | _, _, _ => none
/-- what a method is asked of -/
def recv : Op2 → D → Bool
  | .split, .str _ => true
  | .join, .str _ => true
  | .index, .list _ => true
  | .split, _ => false
  | .join, _ => false
  | .index, _ => false
  | _, _ => true
def semSl : D → Option Int → Option Int → Option D
  | .list xs, lo, hi => some (.list (cutD xs lo hi))
  | .tuple xs, lo, hi => some (.tuple (cutD xs lo hi))
  | .str x, lo, hi => some (.str (cutS x lo hi))
  | _, _, _ => none
def truthD : D → Option Bool
  | .none => some false
  | .bool b => some b
  | .int i => some (i != 0)
  | .str x => some ((x.length : Int) != 0)
  | .list xs => some (!xs.isEmpty)
  | .tuple xs => some (!xs.isEmpty)
  | .dict _ => none
/-! ### what the code does -/
abbrev KX := Exc → Prop
structure Cfg where
  call : Nat → List Slot → (Slot → Prop) → KX → Prop
  glob : Str → Option D
abbrev NX : KX := fun _ => False
def slotD : Slot → Option D
  | .val d => some d
  | .own ds => some (.list ds)
  | .st => none
def valsD : List Slot → Option (List D)
  | [] => some []
  | .val d :: r => (valsD r).map (d :: ·)
  | _ => none
def wipeD (δ : Dl) : List Nat → Dl
  | [] => δ
  | v :: vs => (wipeD δ vs).set v none
/-! a target takes a thing; a list of targets takes a list of things -/
mutual
def bindT : Tg → D → Dl → (Dl → Prop) → Prop
  | .name i, d, δ, k => i < δ.length ∧ k (δ.set i (some (.val d)))
  | .tup t, .tuple ds, δ, k => bindTs t ds δ k
  | _, _, _, _ => False
def bindTs : Tg → List D → Dl → (Dl → Prop) → Prop
  | .nil, [], δ, k => k δ
  | .cons t u, d :: ds, δ, k => bindT t d δ fun δ' => bindTs u ds δ' k
  | _, _, _, _ => False
end
def loopC (bd : D → List D → (List D → Prop) → Prop) : List D → List D → (List D → Prop) → Prop
  | [], acc, k => k acc
  | x :: xs, acc, k => bd x acc fun acc' => loopC bd xs acc' k
def rangeD (lo hi : Int) : List D := (List.range (hi - lo).toNat).map fun i => .int (lo + (i : Nat))
def zipD (xs ys : List D) : List D := (xs.zip ys).map fun p => .tuple [p.1, p.2]
def enumD (xs : List D) : List D := xs.zipIdx.map fun p => .tuple [.int (p.2 : Nat), p.1]
mutual
/-- the value (rd: it is only read, so a list of a name's own may be meant) -/
def ev (C : Cfg) (rd : Bool) : CE → Dl → (D → Prop) → KX → Prop
  | .const d, _, k, _ => k d
  | .var i, δ, k, _ => match δ[i]? with
    | some (some (.val d)) => k d
    | some (some (.own ds)) => rd = true ∧ k (.list ds)
    | _ => False
  | .glob x, _, k, _ => ∃ d, C.glob x = some d ∧ k d
  | .tup r, δ, k, x => evA C r δ (fun ss => ∃ ds, valsD ss = some ds ∧ ds.length ≤ sizeLine ∧ k (.tuple ds)) x
  | .lst r, δ, k, x => evA C r δ (fun ss => ∃ ds, valsD ss = some ds ∧ ds.length ≤ sizeLine ∧ k (.list ds)) x
  | .op1 o a, δ, k, x => ev C true a δ (fun d => ∃ r, sem1 o d = some r ∧ k r) x
  | .op2 o a b, δ, k, x => ev C true a δ (fun d => recv o d = true ∧ ev C true b δ (fun e => ∃ r, sem2 o d e = some r ∧ k r) x) x
  | .slc a lo hi, δ, k, x => ev C true a δ (fun d => evP C lo δ (fun l => evP C hi δ (fun h => ∃ r, semSl d l h = some r ∧ k r) x) x) x
  | .chain o o' a b c, δ, k, x => ev C true a δ (fun d => ev C true b δ (fun e => ∃ z, sem2 o d e = some (.bool z) ∧
      if z = true then ev C true c δ (fun f => ∃ r, sem2 o' e f = some r ∧ k r) x else k (.bool false)) x) x
  | .and_ a r, δ, k, x => ev C false a δ (fun d => ∃ b, d = .bool b ∧ if b = true then ev C false r δ k x else k (.bool false)) x
  | .or_ a r, δ, k, x => ev C false a δ (fun d => ∃ b, d = .bool b ∧ if b = true then k (.bool true) else ev C false r δ k x) x
  | .not_ a, δ, k, x => ev C true a δ (fun d => ∃ b, d = .bool b ∧ k (.bool (!b))) x
  | .ifx c a b, δ, k, x => evT C c δ (fun z => if z = true then ev C rd a δ k x else ev C rd b δ k x) x
  | .call f r, δ, k, x => evA C r δ (fun ss => C.call f ss (fun s => ∃ d, slotD s = some d ∧ k d) x) x
  | .comp own e t it ifs, δ, k, x => evI C true it δ (fun xs => loopC (fun y acc k' => bindT t y (wipeD δ own) fun δ1 => evT C ifs δ1 (fun b =>
      if b = true then ev C false e δ1 (fun d => acc.length < sizeLine ∧ k' (acc ++ [d])) NX else k' acc) NX) xs [] fun acc => k (.list acc)) x
  | _, _, _, _ => False
/-- a part of a slice -/
def evP (C : Cfg) : CE → Dl → (Option Int → Prop) → KX → Prop
  | .nopart, _, k, _ => k none
  | .cons a .nil, δ, k, x => ev C true a δ (fun d => ∃ i, d = .int i ∧ k (some i)) x
  | _, _, _, _ => False
/-- the arguments -/
def evA (C : Cfg) : CE → Dl → (List Slot → Prop) → KX → Prop
  | .nil, _, k, _ => k []
  | .cons (.var i) r, δ, k, x => match δ[i]? with
    | some (some (.val d)) => evA C r δ (fun ss => k (.val d :: ss)) x
    | some (some .st) => evA C r δ (fun ss => k (.st :: ss)) x
    | _ => False
  | .cons a r, δ, k, x => ev C false a δ (fun d => evA C r δ (fun ss => k (.val d :: ss)) x) x
  | _, _, _, _ => False
/-- a test -/
def evT (C : Cfg) : CE → Dl → (Bool → Prop) → KX → Prop
  | .nil, _, k, _ => k true
  | .and_ a r, δ, k, x => evT C a δ (fun b => if b = true then evT C r δ k x else k false) x
  | .or_ a r, δ, k, x => evT C a δ (fun b => if b = true then k true else evT C r δ k x) x
  | .not_ a, δ, k, x => evT C a δ (fun b => k (!b)) x
  | .op1 o a, δ, k, x => ev C true a δ (fun d => ∃ b, sem1 o d = some (.bool b) ∧ k b) x
  | .op2 o a b, δ, k, x => ev C true a δ (fun d => recv o d = true ∧ ev C true b δ (fun e => ∃ z, sem2 o d e = some (.bool z) ∧ k z) x) x
  | .chain o o' a b c, δ, k, x => ev C true a δ (fun d => ev C true b δ (fun e => ∃ z, sem2 o d e = some (.bool z) ∧
      if z = true then ev C true c δ (fun f => ∃ z, sem2 o' e f = some (.bool z) ∧ k z) x else k false) x) x
  | .var i, δ, k, _ => match δ[i]? with
    | some (some (.val (.bool b))) => k b
    | _ => False
  | .call f r, δ, k, x => evA C r δ (fun ss => C.call f ss (fun s => ∃ d, slotD s = some d ∧ ∃ b, d = .bool b ∧ k b) x) x
  | .const (.bool b), _, k, _ => k b
  | _, _, _, _ => False
/-- what is walked -/
def evI (C : Cfg) (rd : Bool) : CE → Dl → (List D → Prop) → KX → Prop
  | .iter a, δ, k, x => ev C rd a δ (fun d => ∃ xs, itemsD d = some xs ∧ k xs) x
  | .range1 a, δ, k, x => ev C rd a δ (fun d => ∃ n, d = .int n ∧ (-(2 ^ 62) ≤ n ∧ n < 2 ^ 62) ∧ k (rangeD 0 n)) x
  | .range2 a b, δ, k, x => ev C rd a δ (fun d => ev C rd b δ (fun e => ∃ m n, d = .int m ∧ e = .int n ∧ (-(2 ^ 62) ≤ m ∧ m < 2 ^ 62 ∧ -(2 ^ 62) ≤ n ∧ n < 2 ^ 62) ∧ k (rangeD m n)) x) x
  | .zip2 a b, δ, k, x => ev C rd a δ (fun d => ev C rd b δ (fun e => ∃ xs ys, (d = .list xs ∧ e = .list ys ∨ d = .tuple xs ∧ e = .tuple ys) ∧ k (zipD xs ys)) x) x
  | .enum a, δ, k, x => ev C rd a δ (fun d => ∃ xs, d = .list xs ∧ k (enumD xs)) x
  | _, _, _, _ => False
end
/-- one turn of a comprehension -/
def compB (C : Cfg) (own : List Nat) (e : CE) (t : Tg) (ifs : CE) (δ : Dl) : D → List D → (List D → Prop) → Prop := fun y acc k' => bindT t y (wipeD δ own) fun δ1 => evT C ifs δ1 (fun b =>
  if b = true then ev C false e δ1 (fun d => acc.length < sizeLine ∧ k' (acc ++ [d])) NX else k' acc) NX
theorem ev_comp {C : Cfg} {rd : Bool} {own : List Nat} {e it ifs : CE} {t : Tg} {δ : Dl} {k : D → Prop} {x : KX} :
    ev C rd (.comp own e t it ifs) δ k x = evI C true it δ (fun xs => loopC (compB C own e t ifs δ) xs [] fun acc => k (.list acc)) x := by
  simp only [ev]; rfl
/-- a list of one's own, where it is made anew -/
def toOwn : D → Slot
  | .list ds => .own ds
  | d => .val d
def evO (C : Cfg) : CE → Dl → (Slot → Prop) → KX → Prop
  | .call f r, δ, k, x => evA C r δ (fun ss => C.call f ss k x) x
  | .lst r, δ, k, x => ev C false (.lst r) δ (fun d => k (toOwn d)) x
  | .comp own e t it ifs, δ, k, x => ev C false (.comp own e t it ifs) δ (fun d => k (toOwn d)) x
  | c, δ, k, x => ev C false c δ (fun d => k (.val d)) x
structure En where
  nx : Dl → Prop
  rt : Slot → Prop
  bk : Dl → Prop
  ct : Dl → Prop
  xc : Exc → Dl → Prop
def loopS (bd : D → Dl → En → Prop) : List D → Dl → En → Prop
  | [], δ, E => E.nx δ
  | x :: xs, δ, E => bd x δ { E with nx := fun δ' => loopS bd xs δ' E, ct := fun δ' => loopS bd xs δ' E, bk := E.nx }
def setAll (δ : Dl) : List Nat → List Slot → Option Dl
  | [], [] => some δ
  | i :: is, s :: ss => if i < δ.length then setAll (δ.set i (some s)) is ss else none
  | _, _ => none
/-- several things, each its own -/
def evOs (C : Cfg) : CE → Dl → (List Slot → Prop) → KX → Prop
  | .nil, _, k, _ => k []
  | .cons a r, δ, k, x => evO C a δ (fun s => evOs C r δ (fun ss => k (s :: ss)) x) x
  | _, _, _, _ => False
def ex (C : Cfg) : CS → Dl → En → Prop
  | .nop, δ, E => E.nx δ
  | .seq a b, δ, E => ex C a δ { E with nx := fun δ' => ex C b δ' E }
  | .expr e, δ, E => ev C false e δ (fun _ => E.nx δ) fun x => E.xc x δ
  | .ret e, δ, E => ev C false e δ (fun d => E.rt (.val d)) fun x => E.xc x δ
  | .retO e, δ, E => evO C e δ E.rt fun x => E.xc x δ
  | .retV i, δ, E => match δ[i]? with
    | some (some s) => E.rt s
    | _ => False
  | .retN, _, E => E.rt (.val .none)
  | .asg t e, δ, E => ev C false e δ (fun d => bindT t d δ E.nx) fun x => E.xc x δ
  | .asgO i e, δ, E => evO C e δ (fun s => i < δ.length ∧ E.nx (δ.set i (some s))) fun x => E.xc x δ
  | .par is es, δ, E => evOs C es δ (fun ss => ∃ δ', setAll δ is ss = some δ' ∧ E.nx δ') fun x => E.xc x δ
  | .app i e, δ, E => match δ[i]? with
    | some (some (.own ds)) => ev C false e δ (fun d => ds.length < sizeLine ∧ E.nx (δ.set i (some (.own (ds ++ [d]))))) fun x => E.xc x δ
    | _ => False
  | .frz i, δ, E => match δ[i]? with
    | some (some (.own ds)) => E.nx (δ.set i (some (.val (.list ds))))
    | _ => E.nx δ
  | .ite c a b, δ, E => evT C c δ (fun z => if z = true then ex C a δ E else ex C b δ E) fun x => E.xc x δ
  | .for_ t it b, δ, E => evI C false it δ (fun xs => loopS (fun y δ' E' => bindT t y δ' fun δ1 => ex C b δ1 E') xs δ E) fun x => E.xc x δ
  | .brk, δ, E => E.bk δ
  | .cnt, δ, E => E.ct δ
end Tk
namespace Tk
open PySem L2
/-- a list that is read: tracked and not in O, or the module's own -/
def SqO (K : PySem.W.Frag) (H : Hp) (O : Addr → Prop) (a : Addr) (xs : List V) : Prop :=
  (Rd H a (.lst xs) ∧ ¬ O a) ∨
    ∃ (o : Obj) (its : Array Value) (n : Nat), K.lookup a = some o ∧ o.cls = .type "list" ∧ o.dict = none ∧ o.data = .seq its n ∧ its.size ≤ sizeLine ∧ Vals xs its.toList
theorem SqO.sq {K H O a xs} (h : SqO K H O a xs) : SqL K H a xs := by
  rcases h with h | h
  · exact .inl h.1
  · exact .inr h
mutual
inductive Rep (K : PySem.W.Frag) (H : Hp) (O : Addr → Prop) : V → D → Prop
  | non : Rep K H O .non .none
  | bl (b : Bool) : Rep K H O (.bl b) (.bool b)
  | int (i : Int) : Rep K H O (.int i) (.int i)
  | str (x : Str) : x.length ≤ sizeLine → Rep K H O (.str x) (.str x)
  | lst {a : Addr} {xs : List V} {ds : List D} : SqO K H O a xs → Reps K H O xs ds → Rep K H O (.ref a) (.list ds)
  | tup {a : Addr} {xs : List V} {ds : List D} : SqT K H a xs → Reps K H O xs ds → Rep K H O (.ref a) (.tuple ds)
  | dct {a : Addr} {kvs : List (Key × V)} {ds : List (D × D)} : H a = some (.dK kvs) → ¬ O a → RepsK K H O kvs ds → Rep K H O (.ref a) (.dict ds)
inductive Reps (K : PySem.W.Frag) (H : Hp) (O : Addr → Prop) : List V → List D → Prop
  | nil : Reps K H O [] []
  | cons {v : V} {vs : List V} {d : D} {ds : List D} : Rep K H O v d → Reps K H O vs ds → Reps K H O (v :: vs) (d :: ds)
inductive RepsK (K : PySem.W.Frag) (H : Hp) (O : Addr → Prop) : List (Key × V) → List (D × D) → Prop
  | nil : RepsK K H O [] []
  | cons {k : Key} {v : V} {vs : List (Key × V)} {d : D} {ds : List (D × D)} : Rep K H O v d → RepsK K H O vs ds → RepsK K H O ((k, v) :: vs) ((kD k, d) :: ds)
end
section
variable {K : PySem.W.Frag} {H H' : Hp} {O O' : Addr → Prop}
/-- from one heap to a later one: what isn't in O stays; what is new in O' was free -/
structure Ext (H H' : Hp) (O O' : Addr → Prop) : Prop where
  keep : ∀ b u, H b = some u → ¬ O b → H' b = some u
  new : ∀ b, O' b → O b ∨ H b = none
  tup : ∀ b xs, H b = some (.tup xs) → H' b = some (.tup xs)
  frz : ∀ b o u, H b = some (.frz o u) → H' b = some (.frz o u)
theorem SqO.ext {a xs} (x : Ext H H' O O') (h : SqO K H O a xs) : SqO K H' O' a xs := by
  rcases h with ⟨h, n⟩ | h
  · refine .inl ⟨?_, fun z => ?_⟩
    · rcases h with h | ⟨o, h⟩
      · exact .inl (x.keep _ _ h n)
      · exact .inr ⟨o, x.keep _ _ h n⟩
    · rcases x.new _ z with z | z
      · exact n z
      · rcases h with h | ⟨o, h⟩ <;> (rw [z] at h; cases h)
  · exact .inr h
theorem SqT.ext {a xs} (x : Ext H H' O O') (h : SqT K H a xs) : SqT K H' a xs := by
  rcases h with (h | ⟨o, h⟩) | h
  · exact .inl (.inl (x.tup _ _ h))
  · exact .inl (.inr ⟨o, x.frz _ _ _ h⟩)
  · exact .inr h
mutual
theorem Rep.ext (x : Ext H H' O O') : ∀ (d : D) (v : V), Rep K H O v d → Rep K H' O' v d
  | .none, _, h => by cases h; exact .non
  | .bool b, _, h => by cases h; exact .bl b
  | .int i, _, h => by cases h; exact .int i
  | .str s, _, h => by cases h with | str _ hl => exact .str _ hl
  | .list ds, _, h => by cases h with | lst h1 h2 => exact .lst (h1.ext x) (Reps.ext x ds _ h2)
  | .tuple ds, _, h => by cases h with | tup h1 h2 => exact .tup (SqT.ext x h1) (Reps.ext x ds _ h2)
  | .dict ds, _, h => by
    cases h with
    | dct h1 h2 h3 =>
      refine .dct (x.keep _ _ h1 h2) (fun z => ?_) (RepsK.ext x ds _ h3)
      rcases x.new _ z with z | z
      · exact h2 z
      · rw [z] at h1; cases h1
theorem Reps.ext (x : Ext H H' O O') : ∀ (ds : List D) (vs : List V), Reps K H O vs ds → Reps K H' O' vs ds
  | [], _, h => by cases h; exact .nil
  | d :: ds, _, h => by cases h with | cons h1 h2 => exact .cons (Rep.ext x d _ h1) (Reps.ext x ds _ h2)
theorem RepsK.ext (x : Ext H H' O O') : ∀ (ds : List (D × D)) (vs : List (Key × V)), RepsK K H O vs ds → RepsK K H' O' vs ds
  | [], _, h => by cases h; exact .nil
  | (k, d) :: ds, _, h => by cases h with | cons h1 h2 => exact .cons (Rep.ext x d _ h1) (RepsK.ext x ds _ h2)
end
theorem Ext.refl : Ext H H O O := ⟨fun _ _ h _ => h, fun _ h => .inl h, fun _ _ h => h, fun _ _ _ h => h⟩
theorem Ext.sub (h : ∀ b, O' b → O b) : Ext H H O O' := ⟨fun _ _ h _ => h, fun b z => .inl (h b z), fun _ _ h => h, fun _ _ _ h => h⟩
theorem Ext.same (s : Same H H') : Ext H H' O O := ⟨fun b u h _ => s b u h, fun _ h => .inl h, fun b xs h => s b _ h, fun b o u h => s b _ h⟩
theorem Reps.length : ∀ {vs : List V} {ds : List D}, Reps K H O vs ds → vs.length = ds.length
  | [], [], _ => rfl
  | [], _ :: _, h => by cases h
  | _ :: _, [], h => by cases h
  | _ :: _, _ :: _, h => by cases h with | cons _ h2 => simp [h2.length]
theorem Reps.get : ∀ {vs : List V} {ds : List D} {i : Nat} {v : V}, Reps K H O vs ds → vs[i]? = some v → ∃ d, ds[i]? = some d ∧ Rep K H O v d
  | [], _, _, _, _, e => by simp at e
  | _ :: _, [], _, _, h, _ => by cases h
  | _ :: _, _ :: _, 0, _, h, e => by
    cases h with | cons h1 h2 => simp at e; subst e; exact ⟨_, rfl, h1⟩
  | _ :: _, _ :: _, i + 1, v, h, e => by
    cases h with | cons h1 h2 =>
      obtain ⟨d, e1, e2⟩ := Reps.get (i := i) (v := v) h2 (by simpa using e)
      exact ⟨d, by simpa using e1, e2⟩
theorem Reps.get' : ∀ {vs : List V} {ds : List D} {i : Nat} {d : D}, Reps K H O vs ds → ds[i]? = some d → ∃ v, vs[i]? = some v ∧ Rep K H O v d
  | _, [], _, _, _, e => by simp at e
  | [], _ :: _, _, _, h, _ => by cases h
  | _ :: _, _ :: _, 0, _, h, e => by
    cases h with | cons h1 h2 => simp at e; subst e; exact ⟨_, rfl, h1⟩
  | _ :: _, _ :: _, i + 1, v, h, e => by
    cases h with | cons h1 h2 =>
      obtain ⟨d, e1, e2⟩ := Reps.get' (i := i) (d := v) h2 (by simpa using e)
      exact ⟨d, by simpa using e1, e2⟩
theorem Reps.append : ∀ {vs us : List V} {ds es : List D}, Reps K H O vs ds → Reps K H O us es → Reps K H O (vs ++ us) (ds ++ es)
  | [], _, [], _, _, h => h
  | [], _, _ :: _, _, h, _ => by cases h
  | _ :: _, _, [], _, h, _ => by cases h
  | _ :: _, _, _ :: _, _, h, h' => by cases h with | cons h1 h2 => exact .cons h1 (Reps.append h2 h')
theorem Reps.drop : ∀ (n : Nat) {vs : List V} {ds : List D}, Reps K H O vs ds → Reps K H O (vs.drop n) (ds.drop n)
  | 0, _, _, h => h
  | _ + 1, [], [], h => by simpa using h
  | _ + 1, [], _ :: _, h => by cases h
  | _ + 1, _ :: _, [], h => by cases h
  | n + 1, _ :: _, _ :: _, h => by cases h with | cons h1 h2 => exact Reps.drop n h2
theorem Reps.take : ∀ (n : Nat) {vs : List V} {ds : List D}, Reps K H O vs ds → Reps K H O (vs.take n) (ds.take n)
  | 0, _, _, h => by simpa using Reps.nil
  | _ + 1, [], [], h => by simpa using h
  | _ + 1, [], _ :: _, h => by cases h
  | _ + 1, _ :: _, [], h => by cases h
  | n + 1, _ :: _, _ :: _, h => by cases h with | cons h1 h2 => exact .cons h1 (Reps.take n h2)
end
/-- what is fixed while a def runs: the heap and the avoided addresses at its entry; the drawing's addresses, what holds of them, the value that stands for them -/
structure Gh where
  H0 : Hp
  O0 : Addr → Prop
  M : Addr → Prop
  W : Hp → Prop
  sv : V
structure Gh.Ok (Γ : Gh) : Prop where
  so : StOk Γ.M Γ.W Γ.sv
  mo : ∀ b, Γ.M b → Γ.O0 b
  ot : ∀ b, Γ.O0 b → Γ.H0 b ≠ none
  wm : ∀ H, Γ.W H → ∀ b, Γ.M b → H b ≠ none
  ws : ∀ H H', (∀ b, Γ.M b → H' b = H b) → Γ.W H → Γ.W H'
  wt : ∀ H H', Γ.W H → Γ.W H' → ∀ b, Γ.M b → ∀ xs, H b = some (.tup xs) → False
  wf : ∀ H b, Γ.W H → Γ.M b → ∀ o u, H b = some (.frz o u) → False
/-- all that was tracked is as it was, but for the drawing's own -/
def SameM (Γ : Gh) (H H' : Hp) : Prop := ∀ b u, H b = some u → ¬ Γ.M b → H' b = some u
/-- what an evaluation leaves -/
structure Later (Γ : Gh) (H H' : Hp) : Prop where
  same : SameM Γ H H'
  w : Γ.W H'
section
variable {K : PySem.W.Frag} {Γ : Gh} {H H' H1 H2 : Hp} {O O' : Addr → Prop}
theorem Later.of_same (g : Γ.Ok) (w : Γ.W H) (s : Same H H') : Later Γ H H' := by
  refine ⟨fun b u h _ => s b u h, g.ws H H' (fun b hb => ?_) w⟩
  cases e : H b with
  | none => exact absurd e (g.wm H w b hb)
  | some u => exact s b u e
theorem Later.trans (a : Later Γ H H1) (b : Later Γ H1 H2) : Later Γ H H2 := ⟨fun c u h n => b.same c u (a.same c u h n) n, b.w⟩
theorem Later.ext (g : Γ.Ok) (w : Γ.W H) (hm : ∀ b, Γ.M b → O b) (l : Later Γ H H') : Ext H H' O O :=
  ⟨fun b u h n => l.same b u h fun z => n (hm b z), fun _ z => .inl z,
    fun b xs h => l.same b _ h fun z => g.wt H H' w l.w b z xs h, fun b o u h => l.same b _ h fun z => g.wf H b w z o u h⟩
end
/-- a thing that is only read: a list of a name's own, too -/
def RRep (K : PySem.W.Frag) (Γ : Gh) (H : Hp) (O : Addr → Prop) (v : V) : D → Prop
  | .list ds => ∃ a xs, v = .ref a ∧ SqO K H Γ.M a xs ∧ Reps K H O xs ds
  | d => Rep K H O v d
def SRep (K : PySem.W.Frag) (Γ : Gh) (H : Hp) (O : Addr → Prop) : Slot → V → Prop
  | .val d, v => Rep K H O v d
  | .own ds, v => ∃ a vs, v = .ref a ∧ H a = some (.lst vs) ∧ O a ∧ Γ.H0 a = none ∧ Reps K H O vs ds
  | .st, v => v = Γ.sv ∧ v ≠ .non
structure Fr (K : PySem.W.Frag) (Γ : Gh) (δ : Dl) (σ : St) (H : Hp) (O : Addr → Prop) : Prop where
  gh : Γ.Ok
  len : δ.length = σ.length
  same : SameM Γ Γ.H0 H
  sub : ∀ b, Γ.O0 b → O b
  otr : ∀ b, O b → H b ≠ none
  w : Γ.W H
  slot : ∀ (i : Nat) s, δ[i]? = some (some s) → ∃ v, σ[i]? = some (some v) ∧ SRep K Γ H O s v
  dist : ∀ (i j : Nat) a ds es, δ[i]? = some (some (.own ds)) → δ[j]? = some (some (.own es)) → σ[i]? = some (some (.ref a)) → σ[j]? = some (some (.ref a)) → i = j
section
variable {K : PySem.W.Frag} {Γ : Gh} {H H' H1 H2 : Hp} {O O' : Addr → Prop} {δ : Dl} {σ : St}
theorem Fr.m (f : Fr K Γ δ σ H O) : ∀ b, Γ.M b → O b := fun b z => f.sub b (f.gh.mo b z)
theorem Fr.noM (f : Fr K Γ δ σ H O) {a : Addr} (h : Γ.H0 a = none) : ¬ Γ.M a := fun z => f.gh.ot a (f.gh.mo a z) h
theorem Fr.ext (f : Fr K Γ δ σ H O) (l : Later Γ H H') : Ext H H' O O := l.ext f.gh f.w f.m
theorem SRep.later (f : Fr K Γ δ σ H O) (l : Later Γ H H') : ∀ {s : Slot} {v : V}, SRep K Γ H O s v → SRep K Γ H' O s v
  | .val d, v, h => Rep.ext (f.ext l) d v h
  | .own ds, v, ⟨a, vs, e, h1, h2, h3, h4⟩ => ⟨a, vs, e, l.same a _ h1 (f.noM h3), h2, h3, Reps.ext (f.ext l) ds vs h4⟩
  | .st, v, h => h
theorem Fr.later (f : Fr K Γ δ σ H O) (l : Later Γ H H') : Fr K Γ δ σ H' O where
  gh := f.gh
  len := f.len
  same := fun b u h n => l.same b u (f.same b u h n) n
  sub := f.sub
  otr := fun b h e => by
    cases q : H b with
    | none => exact f.otr b h q
    | some u =>
      by_cases m : Γ.M b
      · exact f.gh.wm H' l.w b m e
      · rw [l.same b u q m] at e; cases e
  w := l.w
  slot := fun i s h => by
    obtain ⟨v, e, r⟩ := f.slot i s h
    exact ⟨v, e, r.later f l⟩
  dist := f.dist
theorem Rep.r (f : ∀ b, Γ.M b → O b) : ∀ {d : D} {v : V}, Rep K H O v d → RRep K Γ H O v d
  | .list ds, v, h => by
    cases h with
    | lst h1 h2 =>
      refine ⟨_, _, rfl, ?_, h2⟩
      rcases h1 with ⟨h1, n⟩ | h1
      · exact .inl ⟨h1, fun z => n (f _ z)⟩
      · exact .inr h1
  | .none, _, h => h
  | .bool _, _, h => h
  | .int _, _, h => h
  | .str _, _, h => h
  | .tuple _, _, h => h
  | .dict _, _, h => h
theorem RRep.later (f : Fr K Γ δ σ H O) (l : Later Γ H H') : ∀ {d : D} {v : V}, RRep K Γ H O v d → RRep K Γ H' O v d
  | .list ds, v, h => by
    obtain ⟨a, xs, e, h1, h2⟩ := h
    exact ⟨a, xs, e, h1.ext (l.ext f.gh f.w fun _ z => z), Reps.ext (f.ext l) ds xs h2⟩
  | .none, _, h => Rep.ext (f.ext l) _ _ h
  | .bool _, _, h => Rep.ext (f.ext l) _ _ h
  | .int _, _, h => Rep.ext (f.ext l) _ _ h
  | .str _, _, h => Rep.ext (f.ext l) _ _ h
  | .tuple _, _, h => Rep.ext (f.ext l) _ _ h
  | .dict _, _, h => Rep.ext (f.ext l) _ _ h
mutual
theorem Rep.dp : ∀ (d : D) (v : V), d.hasDict = false → Rep K H O v d → Dp K H v d
  | .none, _, _, h => by cases h; exact .non
  | .bool b, _, _, h => by cases h; exact .bl b
  | .int i, _, _, h => by cases h; exact .int i
  | .str s, _, _, h => by cases h with | str _ hl => exact .str _
  | .list ds, _, n, h => by cases h with | lst h1 h2 => exact .lst h1.sq (Reps.dp ds _ (by simpa [PyData.hasDict] using n) h2)
  | .tuple ds, _, n, h => by cases h with | tup h1 h2 => exact .tup h1 (Reps.dp ds _ (by simpa [PyData.hasDict] using n) h2)
  | .dict ds, _, n, h => by simp [PyData.hasDict] at n
theorem Reps.dp : ∀ (ds : List D) (vs : List V), PyData.hasDictAll ds = false → Reps K H O vs ds → DpAll K H vs ds
  | [], _, _, h => by cases h; exact .nil
  | d :: ds, _, n, h => by
    cases h with | cons h1 h2 =>
      simp [PyData.hasDictAll] at n
      exact .cons (Rep.dp d _ n.1 h1) (Reps.dp ds _ n.2 h2)
end
theorem RRep.dp : ∀ {d : D} {v : V}, d.hasDict = false → RRep K Γ H O v d → Dp K H v d
  | .list ds, v, n, h => by
    obtain ⟨a, xs, rfl, h1, h2⟩ := h
    exact .lst h1.sq (Reps.dp ds xs (by simpa [PyData.hasDict] using n) h2)
  | .none, _, n, h => Rep.dp _ _ n h
  | .bool _, _, n, h => Rep.dp _ _ n h
  | .int _, _, n, h => Rep.dp _ _ n h
  | .str _, _, n, h => Rep.dp _ _ n h
  | .tuple _, _, n, h => Rep.dp _ _ n h
  | .dict _, _, n, h => Rep.dp _ _ n h
theorem shaped_dict {d : D} (h : SeqAt.shaped d = true) : d.hasDict = false := by
  unfold SeqAt.shaped at h
  rw [Bool.and_eq_true] at h
  exact PyData.hasDict_of_canLay d h.1
end
end Tk
namespace Tk
open PySem PySem.Spec PyProof.Rows L2
abbrev OTr (O : Addr → Prop) (H : Hp) : Prop := ∀ b, O b → H b ≠ none
def R1 (K : PySem.W.Frag) (o : Op1) : V → Hp → VK → Prop := fun v H Q => ∃ Γ O d r, OTr O H ∧ RRep K Γ H O v d ∧ sem1 o d = some r ∧ ∀ v' H', Same H H' → Rep K H' O v' r → Q v' H'
def R2 (K : PySem.W.Frag) (o : Op2) : L2.R2 := fun v u H Q => ∃ Γ O d e r, OTr O H ∧ RRep K Γ H O v d ∧ RRep K Γ H O u e ∧ sem2 o d e = some r ∧ ∀ v' H', Same H H' → Rep K H' O v' r → Q v' H'
section
variable {K : PySem.W.Frag} {Γ : Gh} {H H' : Hp} {O : Addr → Prop} {p : Addr} {vs : List V} {ds : List D}
theorem same_upd {o : HO} (h : H p = none) : Same H (upd H p o) := fun b u e => by rw [upd_ne (ne_of_none e h)]; exact e
theorem Reps.same (s : Same H H') (r : Reps K H O vs ds) : Reps K H' O vs ds := Reps.ext (Ext.same s) ds vs r
theorem mkL (ho : OTr O H) (hp : H p = none) (r : Reps K H O vs ds) : Rep K (upd H p (.lst vs)) O (.ref p) (.list ds) :=
  .lst (.inl ⟨.inl upd_same, fun z => ho p z hp⟩) (r.same (same_upd hp))
theorem mkT (hp : H p = none) (r : Reps K H O vs ds) : Rep K (upd H p (.tup vs)) O (.ref p) (.tuple ds) :=
  .tup (.inl (.inl upd_same)) (r.same (same_upd hp))
theorem Reps.bools : ∀ {ds : List D} {vs : List V} {bs : List Bool}, Reps K H O vs ds → boolsD ds = some bs → vs = bs.map V.bl
  | [], vs, bs, h, e => by cases h; simp [boolsD] at e; subst e; rfl
  | d :: ds, vs, bs, h, e => by
    cases h with | cons h1 h2 =>
      cases d with
      | bool b =>
        simp only [boolsD, Option.map_eq_some_iff] at e
        obtain ⟨cs, e1, rfl⟩ := e
        cases h1
        rw [Reps.bools h2 e1]; rfl
      | _ => simp [boolsD] at e
theorem Reps.ints : ∀ {ds : List D} {vs : List V} {bs : List Int}, Reps K H O vs ds → intsD ds = some bs → vs = bs.map V.int
  | [], vs, bs, h, e => by cases h; simp [intsD] at e; subst e; rfl
  | d :: ds, vs, bs, h, e => by
    cases h with | cons h1 h2 =>
      cases d with
      | int b =>
        simp only [intsD, Option.map_eq_some_iff] at e
        obtain ⟨cs, e1, rfl⟩ := e
        cases h1
        rw [Reps.ints h2 e1]; rfl
      | _ => simp [intsD] at e
theorem Reps.strs : ∀ {ds : List D} {vs : List V} {bs : List Str}, Reps K H O vs ds → strsD ds = some bs → vs = bs.map V.str
  | [], vs, bs, h, e => by cases h; simp [strsD] at e; subst e; rfl
  | d :: ds, vs, bs, h, e => by
    cases h with | cons h1 h2 =>
      cases d with
      | str b =>
        simp only [strsD, Option.map_eq_some_iff] at e
        obtain ⟨cs, e1, rfl⟩ := e
        cases h1
        rw [Reps.strs h2 e1]; rfl
      | _ => simp [strsD] at e
theorem Reps.ofStrs : ∀ {ys : List Str}, (∀ y ∈ ys, y.length ≤ sizeLine) → Reps K H O (ys.map V.str) (ys.map PyData.str)
  | [], _ => .nil
  | y :: ys, h => .cons (.str y (h y List.mem_cons_self)) (Reps.ofStrs fun z hz => h z (List.mem_cons_of_mem _ hz))
end
section
variable {X : Cx} {Γ : Gh} {e : Expr} {te : TE}
def l1 (r : V → Hp → VK → Prop) : List V → Hp → VK → Prop
  | [v], H, Q => r v H Q
  | _, _, _ => False
def l2 (r : L2.R2) : List V → Hp → VK → Prop
  | [v, u], H, Q => r v u H Q
  | _, _, _ => False
theorem CallR.l1_of {f : Value} {r : V → Hp → VK → Prop} (h : ∀ (pins : List (Addr × Obj)) (s : Shared) (σ : L2.St) (H : Hp) (x : V) (u : Value) (Q : VK), Inv X pins σ H s → RelV x u → r x H Q → wpAny (model X.prog X.w) X.A (call f [u]) (EP X pins σ Q) X.xe s) : CallR X f (l1 r) := by
  intro pins s σ H xs us Q I rv hq
  match xs, rv, hq with
  | [x], rv, hq =>
    obtain ⟨u, rfl, rx⟩ := vals1 rv
    exact h pins s σ H x u Q I rx hq
/-- from a rule over lists of arguments -/
theorem CallR.to1 {f : Value} {r : List V → Hp → VK → Prop} {r1 : V → Hp → VK → Prop} (h : CallR X f r) (hi : ∀ v H Q, r1 v H Q → r [v] H Q) : CallR X f (l1 r1) :=
  CallR.l1_of fun pins s σ H x u Q I rx hq => h pins s σ H [x] [u] Q I (.cons rx .nil) (hi _ _ _ hq)
theorem c_len : CallR X (.builtin "len") (l1 (R1 X.K .len)) := by
  refine CallR.to1 call_len fun v H Q h => ?_
  obtain ⟨Γ, O, d, r, ho, hr, hs, q⟩ := h
  cases d with
  | str x =>
    cases hr with
    | str _ hl =>
      simp [sem1, lenD] at hs; subst hs
      exact ⟨_, x.length, rfl, ⟨hl, rfl⟩, q _ _ (Same.refl _) (.int _)⟩
  | list ds =>
    obtain ⟨a, xs, rfl, h1, h2⟩ := hr
    simp [sem1, lenD] at hs; subst hs
    refine ⟨_, xs.length, rfl, .inl ⟨xs, h1.sq, rfl⟩, ?_⟩
    rw [h2.length]
    exact q _ _ (Same.refl _) (.int _)
  | tuple ds =>
    cases hr with
    | tup h1 h2 =>
      simp [sem1, lenD] at hs; subst hs
      refine ⟨_, _, rfl, .inr ⟨_, h1, rfl⟩, ?_⟩
      rw [h2.length]
      exact q _ _ (Same.refl _) (.int _)
  | _ => simp [sem1, lenD] at hs
theorem c_all (hc : X.calm = true) : CallR X (.builtin "all") (l1 (R1 X.K .all)) := by
  refine CallR.to1 (cr_all hc) fun v H Q h => ?_
  obtain ⟨Γ, O, d, r, ho, hr, hs, q⟩ := h
  cases d with
  | list ds =>
    obtain ⟨a, xs, rfl, h1, h2⟩ := hr
    simp only [sem1, Option.map_eq_some_iff] at hs
    obtain ⟨bs, e, rfl⟩ := hs
    have e2 := h2.bools e
    subst e2
    exact ⟨a, bs, rfl, h1.sq, q _ _ (Same.refl _) (.bl _)⟩
  | _ => simp [sem1] at hs
theorem c_any (hc : X.calm = true) : CallR X (.builtin "any") (l1 (R1 X.K .any)) := by
  refine CallR.to1 (cr_any hc) fun v H Q h => ?_
  obtain ⟨Γ, O, d, r, ho, hr, hs, q⟩ := h
  cases d with
  | list ds =>
    obtain ⟨a, xs, rfl, h1, h2⟩ := hr
    simp only [sem1, Option.map_eq_some_iff] at hs
    obtain ⟨bs, e, rfl⟩ := hs
    have e2 := h2.bools e
    subst e2
    exact ⟨a, bs, rfl, h1.sq, q _ _ (Same.refl _) (.bl _)⟩
  | _ => simp [sem1] at hs
theorem c_sum (hc : X.calm = true) : CallR X (.builtin "sum") (l1 (R1 X.K .sum)) := by
  refine CallR.to1 (cr_sum hc) fun v H Q h => ?_
  obtain ⟨Γ, O, d, r, ho, hr, hs, q⟩ := h
  cases d with
  | list ds =>
    obtain ⟨a, xs, rfl, h1, h2⟩ := hr
    simp only [sem1, Option.map_eq_some_iff] at hs
    obtain ⟨bs, e, rfl⟩ := hs
    have e2 := h2.ints e
    subst e2
    exact ⟨a, bs, rfl, h1.sq, q _ _ (Same.refl _) (.int _)⟩
  | _ => simp [sem1] at hs
theorem c_tuple : CallR X (.type "tuple") (l1 (R1 X.K .tuple)) := by
  refine CallR.to1 call_tuple_of fun v H Q h => ?_
  obtain ⟨Γ, O, d, r, ho, hr, hs, q⟩ := h
  cases d with
  | list ds =>
    obtain ⟨a, xs, rfl, h1, h2⟩ := hr
    simp [sem1] at hs; subst hs
    exact ⟨a, xs, rfl, .inl ⟨h1.sq, fun l hl => q _ _ (same_upd hl) (mkT hl h2)⟩⟩
  | tuple ds =>
    cases hr with
    | tup h1 h2 =>
      simp [sem1] at hs; subst hs
      exact ⟨_, _, rfl, .inr ⟨h1, q _ _ (Same.refl _) (.tup h1 h2)⟩⟩
  | _ => simp [sem1] at hs
theorem c_list : CallR X (.type "list") (l1 (R1 X.K .list)) := by
  refine CallR.to1 call_list_of fun v H Q h => ?_
  obtain ⟨Γ, O, d, r, ho, hr, hs, q⟩ := h
  cases d with
  | list ds =>
    obtain ⟨a, xs, rfl, h1, h2⟩ := hr
    simp [sem1] at hs; subst hs
    exact ⟨a, xs, rfl, .inl h1.sq, fun l hl => q _ _ (same_upd hl) (mkL ho hl h2)⟩
  | tuple ds =>
    cases hr with
    | tup h1 h2 =>
      simp [sem1] at hs; subst hs
      exact ⟨_, _, rfl, .inr h1, fun l hl => q _ _ (same_upd hl) (mkL ho hl h2)⟩
  | _ => simp [sem1] at hs
theorem RRep.isN : ∀ {d : D} {v : V} {H : Hp} {O : Addr → Prop}, RRep X.K Γ H O v d → decide (v = V.non) = isNoneD d
  | .none, _, _, _, h => by cases h; rfl
  | .bool _, _, _, _, h => by cases h; rfl
  | .int _, _, _, _, h => by cases h; rfl
  | .str _, _, _, _, h => by cases h; rfl
  | .tuple _, _, _, _, h => by cases h; rfl
  | .dict _, _, _, _, h => by cases h; rfl
  | .list _, _, _, _, h => by obtain ⟨a, xs, rfl, _⟩ := h; rfl
end
section
variable {X : Cx} {Γ : Gh}
theorem o_add : OpR X (binaryOp .Add) (R2 X.K .add) := by
  intro pins s σ H x y v u Q I rx ry h
  obtain ⟨Γ, O, d, e, r, ho, h1, h2, hs, q⟩ := h
  cases d with
  | int i =>
    cases e with
    | int j =>
      cases h1; cases h2
      simp [sem2] at hs; subst hs
      exact op_add pins s σ H _ _ v u Q I rx ry ⟨i, j, rfl, rfl, q _ _ (Same.refl _) (.int _)⟩
    | _ => simp [sem2] at hs
  | str a =>
    cases e with
    | str b =>
      cases h1; cases h2
      simp only [sem2] at hs
      split at hs
      · rename_i hl
        cases hs
        exact op_add_str pins s σ H _ _ v u Q I rx ry ⟨a, b, rfl, rfl, hl, q _ _ (Same.refl _) (.str _ (by rw [TL.len_tl, TL.tl_append, List.length_append, ← TL.len_tl, ← TL.len_tl]; exact hl))⟩
      · cases hs
    | _ => simp [sem2] at hs
  | tuple a =>
    cases e with
    | tuple b =>
      cases h1 with
      | tup t1 r1 =>
        cases h2 with
        | tup t2 r2 =>
          simp only [sem2] at hs
          split at hs
          · rename_i hl
            cases hs
            refine op_catA pins s σ H _ _ v u Q I rx ry ⟨_, _, _, _, rfl, rfl, t1, t2, by rw [r1.length, r2.length]; exact hl, fun e0 => ?_, fun _ e1 => ?_, fun _ _ p hp => ?_⟩
            · subst e0
              have : a = [] := by cases a with | nil => rfl | cons _ _ => cases r1
              subst this
              exact q _ _ (Same.refl _) (.tup t2 r2)
            · subst e1
              have : b = [] := by cases b with | nil => rfl | cons _ _ => cases r2
              subst this
              rw [List.append_nil] at q
              exact q _ _ (Same.refl _) (.tup t1 r1)
            · exact q _ _ (same_upd hp) (mkT hp (r1.append r2))
          · cases hs
    | _ => simp [sem2] at hs
  | list a =>
    cases e with
    | list b =>
      obtain ⟨p1, xs, rfl, t1, r1⟩ := h1
      obtain ⟨p2, ys, rfl, t2, r2⟩ := h2
      simp only [sem2] at hs
      split at hs
      · rename_i hl
        cases hs
        cases rx; cases ry
        obtain ⟨its1, v1, l1, z1⟩ := I.list t1.sq
        obtain ⟨its2, v2, l2, z2⟩ := I.list t2.sq
        obtain ⟨⟨cls, dd, data, sl⟩, n, ho1, hc, hd', hd⟩ := l1
        obtain ⟨⟨cls2, dd2, data2, sl2⟩, n2, ho2, hc2, hd2', hd2⟩ := l2
        simp only at hc hd hc2 hd2
        subst hc hd hc2 hd2
        have hl' : xs.length + ys.length ≤ sizeLine := by rw [r1.length, r2.length]; exact hl
        have ea : its1.toArray ++ its2.toArray = (its1 ++ its2).toArray := by simp
        refine concat_meets ⟨_, ho1, rfl⟩ ⟨_, ho2, rfl⟩ noFill_list_add seq_list_add PySem.F.slot_list_add PySem.F.entry_list_add (PySem.F.args_list_add_2 _ _) (list_addW p1 p2 its1.toArray its2.toArray n n2 dd dd2 sl sl2 (by simpa [← v1.length, ← v2.length] using hl')) ⟨ho1, ho2, ?_⟩
        rw [ea]
        exact ⟨.ref _, _, I.lnew (t' := s.toks) (v1.append v2) (by rw [List.length_append]; exact hl'), rfl, q _ _ (same_upd I.fresh) (mkL ho I.fresh (r1.append r2))⟩
      · cases hs
    | _ => simp [sem2] at hs
  | _ => cases e <;> simp [sem2] at hs
theorem o_sub : OpR X (binaryOp .Sub) (R2 X.K .sub) := by
  intro pins s σ H x y v u Q I rx ry h
  obtain ⟨Γ, O, d, e, r, ho, h1, h2, hs, q⟩ := h
  cases d with
  | int i =>
    cases e with
    | int j =>
      cases h1; cases h2
      simp [sem2] at hs; subst hs
      exact op_sub pins s σ H _ _ v u Q I rx ry ⟨i, j, rfl, rfl, q _ _ (Same.refl _) (.int _)⟩
    | _ => simp [sem2] at hs
  | _ => cases e <;> simp [sem2] at hs
theorem o_mul : OpR X (binaryOp .Mult) (R2 X.K .mul) := by
  intro pins s σ H x y v u Q I rx ry h
  obtain ⟨Γ, O, d, e, r, ho, h1, h2, hs, q⟩ := h
  cases d with
  | int i =>
    cases e with
    | int j =>
      cases h1; cases h2
      simp only [sem2] at hs
      split at hs
      · rename_i hc
        cases hs
        exact op_mul pins s σ H _ _ v u Q I rx ry ⟨i, j, rfl, rfl, hc, q _ _ (Same.refl _) (.int _)⟩
      · cases hs
    | _ => simp [sem2] at hs
  | _ => cases e <;> simp [sem2] at hs
theorem o_fdiv : OpR X (binaryOp .FloorDiv) (R2 X.K .fdiv) := by
  intro pins s σ H x y v u Q I rx ry h
  obtain ⟨Γ, O, d, e, r, ho, h1, h2, hs, q⟩ := h
  cases d with
  | int i =>
    cases e with
    | int j =>
      cases h1; cases h2
      simp only [sem2] at hs
      split at hs
      · rename_i hc
        cases hs
        exact op_fdivN pins s σ H _ _ v u Q I rx ry ⟨i, j, rfl, rfl, hc, q _ _ (Same.refl _) (.int _)⟩
      · cases hs
    | _ => simp [sem2] at hs
  | _ => cases e <;> simp [sem2] at hs
theorem o_mod : OpR X (binaryOp .Mod) (R2 X.K .mod) := by
  intro pins s σ H x y v u Q I rx ry h
  obtain ⟨Γ, O, d, e, r, ho, h1, h2, hs, q⟩ := h
  cases d with
  | int i =>
    cases e with
    | int j =>
      cases h1; cases h2
      simp only [sem2] at hs
      split at hs
      · rename_i hc
        cases hs
        exact op_modN pins s σ H _ _ v u Q I rx ry ⟨i, j, rfl, rfl, hc, q _ _ (Same.refl _) (.int _)⟩
      · cases hs
    | _ => simp [sem2] at hs
  | _ => cases e <;> simp [sem2] at hs
theorem o_pow : OpR X (binaryOp .Pow) (R2 X.K .pow) := by
  intro pins s σ H x y v u Q I rx ry h
  obtain ⟨Γ, O, d, e, r, ho, h1, h2, hs, q⟩ := h
  cases d with
  | int i =>
    cases e with
    | int j =>
      cases h1; cases h2
      simp only [sem2] at hs
      split at hs
      · rename_i hc
        cases hs
        exact op_pow pins s σ H _ _ v u Q I rx ry ⟨i, j, rfl, rfl, hc, q _ _ (Same.refl _) (.int _)⟩
      · cases hs
    | _ => simp [sem2] at hs
  | _ => cases e <;> simp [sem2] at hs
theorem dec_str' {a b : Str} : decide (V.str a = V.str b) = PyData.eqv (.str a) (.str b) := by
  simp only [PyData.eqv, V.str.injEq]
  rw [Bool.eq_iff_iff]; simp
theorem o_eq (hu : X.A.units + 64 < cLine) : OpR X (compareOp .Eq) (R2 X.K .eq) := by
  intro pins s σ H x y v u Q I rx ry h
  obtain ⟨Γ, O, d, e, r, ho, h1, h2, hs, q⟩ := h
  simp only [sem2] at hs
  split at hs
  · rename_i hc
    cases hs
    rcases hc with hc | hc
    · cases d <;> cases e <;> simp [bothS] at hc
      cases h1; cases h2
      refine op_eq pins s σ H _ _ v u Q I rx ry ⟨rfl, ?_⟩
      rw [dec_str']
      exact q _ _ (Same.refl _) (.bl _)
    · exact op_eqD hu pins s σ H _ _ v u Q I rx ry ⟨d, e, h1.dp (shaped_dict hc.1), h2.dp (shaped_dict hc.2), hc.1, hc.2, q _ _ (Same.refl _) (.bl _)⟩
  · cases hs
theorem o_ne (hu : X.A.units + 64 < cLine) : OpR X (compareOp .NotEq) (R2 X.K .ne) := by
  intro pins s σ H x y v u Q I rx ry h
  obtain ⟨Γ, O, d, e, r, ho, h1, h2, hs, q⟩ := h
  simp only [sem2] at hs
  split at hs
  · rename_i hc
    cases hs
    rcases hc with hc | hc
    · cases d <;> cases e <;> simp [bothS] at hc
      cases h1; cases h2
      refine op_ne pins s σ H _ _ v u Q I rx ry ⟨rfl, ?_⟩
      rw [dec_str']
      exact q _ _ (Same.refl _) (.bl _)
    · exact op_neD hu pins s σ H _ _ v u Q I rx ry ⟨d, e, h1.dp (shaped_dict hc.1), h2.dp (shaped_dict hc.2), hc.1, hc.2, q _ _ (Same.refl _) (.bl _)⟩
  · cases hs
theorem o_lt : OpR X (compareOp .Lt) (R2 X.K .lt) := by
  intro pins s σ H x y v u Q I rx ry h
  obtain ⟨Γ, O, d, e, r, ho, h1, h2, hs, q⟩ := h
  cases d with
  | int i =>
    cases e with
    | int j =>
      cases h1; cases h2
      simp [sem2] at hs; subst hs
      exact op_lt pins s σ H _ _ v u Q I rx ry ⟨i, j, rfl, rfl, q _ _ (Same.refl _) (.bl _)⟩
    | _ => simp [sem2] at hs
  | str i =>
    cases e with
    | str j =>
      cases h1; cases h2
      simp [sem2] at hs; subst hs
      exact op_lt_str pins s σ H _ _ v u Q I rx ry ⟨i, j, rfl, rfl, q _ _ (Same.refl _) (.bl _)⟩
    | _ => simp [sem2] at hs
  | _ => cases e <;> simp [sem2] at hs
theorem o_le : OpR X (compareOp .LtE) (R2 X.K .le) := by
  intro pins s σ H x y v u Q I rx ry h
  obtain ⟨Γ, O, d, e, r, ho, h1, h2, hs, q⟩ := h
  cases d with
  | int i =>
    cases e with
    | int j =>
      cases h1; cases h2
      simp [sem2] at hs; subst hs
      exact op_le pins s σ H _ _ v u Q I rx ry ⟨i, j, rfl, rfl, q _ _ (Same.refl _) (.bl _)⟩
    | _ => simp [sem2] at hs
  | _ => cases e <;> simp [sem2] at hs
theorem o_gt : OpR X (compareOp .Gt) (R2 X.K .gt) := by
  intro pins s σ H x y v u Q I rx ry h
  obtain ⟨Γ, O, d, e, r, ho, h1, h2, hs, q⟩ := h
  cases d with
  | int i =>
    cases e with
    | int j =>
      cases h1; cases h2
      simp [sem2] at hs; subst hs
      exact op_gt pins s σ H _ _ v u Q I rx ry ⟨i, j, rfl, rfl, q _ _ (Same.refl _) (.bl _)⟩
    | _ => simp [sem2] at hs
  | _ => cases e <;> simp [sem2] at hs
theorem o_ge : OpR X (compareOp .GtE) (R2 X.K .ge) := by
  intro pins s σ H x y v u Q I rx ry h
  obtain ⟨Γ, O, d, e, r, ho, h1, h2, hs, q⟩ := h
  cases d with
  | int i =>
    cases e with
    | int j =>
      cases h1; cases h2
      simp [sem2] at hs; subst hs
      exact op_ge pins s σ H _ _ v u Q I rx ry ⟨i, j, rfl, rfl, q _ _ (Same.refl _) (.bl _)⟩
    | _ => simp [sem2] at hs
  | _ => cases e <;> simp [sem2] at hs
theorem canLayAll_of : ∀ {xs : List D}, allShaped xs = true → PyData.canLayAll0 xs = true
  | [], _ => rfl
  | x :: xs, h => by
    simp only [allShaped, List.all_cons, Bool.and_eq_true] at h
    simp only [PyData.canLayAll0, Bool.and_eq_true]
    exact ⟨SeqAt.canLay_of_shaped h.1, canLayAll_of h.2⟩
theorem depth_of_shaped {d : D} (h : SeqAt.shaped d = true) : d.depth ≤ 64 := by
  unfold SeqAt.shaped at h
  simp only [Bool.and_eq_true, decide_eq_true_eq] at h
  exact h.2
theorem hasDictAll_of {xs : List D} (h : allShaped xs = true) : PyData.hasDictAll xs = false := PyData.hasDictAll_of_canLayAll xs (canLayAll_of h)
theorem sign1 {c : Str} {n : Nat} (e : c.cps.toList = [n]) : c = ⟨#[n]⟩ := TL.ext_tl e
theorem o_in (hu : X.A.units + 65 < cLine) : OpR X (compareOp .In) (R2 X.K .inn) := by
  intro pins s σ H x y v u Q I rx ry h
  obtain ⟨Γ, O, d, e, r, ho, h1, h2, hs, q⟩ := h
  have key : SeqAt.shaped d = true → ∀ ys, (e = .list ys ∨ e = .tuple ys) → allShaped ys = true → r = .bool (inD d ys) → wpAny (model X.prog X.w) X.A (compareOp .In v u) (EP X pins σ Q) X.xe s := fun hd ys he hys hr => by
    subst hr
    obtain ⟨as, r1⟩ := Dp.reads I d x v (h1.dp (shaped_dict hd)) rx
    have hroom : X.A.units + 1 + min (PyData.depthAll ys) d.depth < cLine := by have := depth_of_shaped hd; omega
    rcases he with rfl | rfl
    · obtain ⟨bs, r2⟩ := Dp.reads I _ y u (h2.dp (by simpa [PyData.hasDict] using hasDictAll_of hys)) ry
      exact SeqAt.in_list_reads r2 r1 (canLayAll_of hys) (SeqAt.canLay_of_shaped hd) hroom ⟨.bl _, H, I, rfl, q _ _ (Same.refl _) (.bl _)⟩
    · obtain ⟨bs, r2⟩ := Dp.reads I _ y u (h2.dp (by simpa [PyData.hasDict] using hasDictAll_of hys)) ry
      exact SeqAt.in_tuple_reads r2 r1 (canLayAll_of hys) (SeqAt.canLay_of_shaped hd) hroom ⟨.bl _, H, I, rfl, q _ _ (Same.refl _) (.bl _)⟩
  cases e with
  | list ys =>
    have hs' : (if SeqAt.shaped d = true ∧ allShaped ys = true then some (PyData.bool (inD d ys)) else none) = some r := by cases d <;> simpa [sem2] using hs
    split at hs'
    · rename_i hc
      exact key hc.1 ys (.inl rfl) hc.2 (Option.some.inj hs').symm
    · cases hs'
  | tuple ys =>
    have hs' : (if SeqAt.shaped d = true ∧ allShaped ys = true then some (PyData.bool (inD d ys)) else none) = some r := by cases d <;> simpa [sem2] using hs
    split at hs'
    · rename_i hc
      exact key hc.1 ys (.inr rfl) hc.2 (Option.some.inj hs').symm
    · cases hs'
  | str z =>
    cases d with
    | str c =>
      simp only [sem2] at hs
      split at hs
      · rename_i n hn
        cases hs
        cases h1; cases h2
        have ec := sign1 hn
        subst ec
        exact op_in_sign pins s σ H _ _ v u Q I rx ry ⟨n, z, rfl, rfl, q _ _ (Same.refl _) (.bl _)⟩
      · cases hs
    | _ => simp [sem2] at hs
  | _ => cases d <;> simp [sem2] at hs
theorem o_nin (hu : X.A.units + 65 < cLine) : OpR X (compareOp .NotIn) (R2 X.K .nin) := by
  intro pins s σ H x y v u Q I rx ry h
  obtain ⟨Γ, O, d, e, r, ho, h1, h2, hs, q⟩ := h
  have key : SeqAt.shaped d = true → ∀ ys, (e = .list ys ∨ e = .tuple ys) → allShaped ys = true → r = .bool (!inD d ys) → wpAny (model X.prog X.w) X.A (compareOp .NotIn v u) (EP X pins σ Q) X.xe s := fun hd ys he hys hr => by
    subst hr
    obtain ⟨as, r1⟩ := Dp.reads I d x v (h1.dp (shaped_dict hd)) rx
    have hroom : X.A.units + 1 + min (PyData.depthAll ys) d.depth < cLine := by have := depth_of_shaped hd; omega
    rcases he with rfl | rfl
    · obtain ⟨bs, r2⟩ := Dp.reads I _ y u (h2.dp (by simpa [PyData.hasDict] using hasDictAll_of hys)) ry
      exact SeqAt.notIn_list_reads r2 r1 (canLayAll_of hys) (SeqAt.canLay_of_shaped hd) hroom ⟨.bl _, H, I, rfl, q _ _ (Same.refl _) (.bl _)⟩
    · obtain ⟨bs, r2⟩ := Dp.reads I _ y u (h2.dp (by simpa [PyData.hasDict] using hasDictAll_of hys)) ry
      exact SeqAt.notIn_tuple_reads r2 r1 (canLayAll_of hys) (SeqAt.canLay_of_shaped hd) hroom ⟨.bl _, H, I, rfl, q _ _ (Same.refl _) (.bl _)⟩
  cases e with
  | list ys =>
    have hs' : (if SeqAt.shaped d = true ∧ allShaped ys = true then some (PyData.bool (!inD d ys)) else none) = some r := by cases d <;> simpa [sem2] using hs
    split at hs'
    · rename_i hc
      exact key hc.1 ys (.inl rfl) hc.2 (Option.some.inj hs').symm
    · cases hs'
  | tuple ys =>
    have hs' : (if SeqAt.shaped d = true ∧ allShaped ys = true then some (PyData.bool (!inD d ys)) else none) = some r := by cases d <;> simpa [sem2] using hs
    split at hs'
    · rename_i hc
      exact key hc.1 ys (.inr rfl) hc.2 (Option.some.inj hs').symm
    · cases hs'
  | str z =>
    cases d with
    | str c =>
      simp only [sem2] at hs
      split at hs
      · rename_i n hn
        cases hs
        cases h1; cases h2
        have ec := sign1 hn
        subst ec
        exact op_notIn_sign pins s σ H _ _ v u Q I rx ry ⟨n, z, rfl, rfl, q _ _ (Same.refl _) (.bl _)⟩
      · cases hs
    | _ => simp [sem2] at hs
  | _ => cases d <;> simp [sem2] at hs
theorem atI_reps {K : PySem.W.Frag} {H : Hp} {O : Addr → Prop} {vs : List V} {ds : List D} {i : Int} {d : D} (h : Reps K H O vs ds) (e : atI ds i = some d) : ∃ v, atI vs i = some v ∧ Rep K H O v d := by
  unfold atI at e ⊢
  rw [h.length]
  rw [Option.bind_eq_some_iff] at e
  obtain ⟨j, e1, e2⟩ := e
  obtain ⟨v, e3, r⟩ := h.get' e2
  exact ⟨v, by rw [e1]; exact e3, r⟩
theorem o_ix : IxR X (R2 X.K .ix) := by
  intro value slice pins s σ H x y v u Q I rx ry h hh
  obtain ⟨Γ, O, d, e, r, ho, h1, h2, hs, q⟩ := h
  cases e with
  | int i =>
    cases h2
    cases d with
    | list ds =>
      obtain ⟨a, xs, rfl, t1, r1⟩ := h1
      obtain ⟨w, ew, rw'⟩ := atI_reps r1 (by simpa [sem2] using hs)
      exact ix_seq value slice pins s σ H _ _ v u Q I rx ry (.inl ⟨a, xs, i, w, rfl, rfl, t1.sq, ew, q _ _ (Same.refl _) rw'⟩) hh
    | tuple ds =>
      cases h1 with
      | tup t1 r1 =>
        obtain ⟨w, ew, rw'⟩ := atI_reps r1 (by simpa [sem2] using hs)
        exact ix_seq value slice pins s σ H _ _ v u Q I rx ry (.inr (.inl ⟨_, _, i, w, rfl, rfl, t1, ew, q _ _ (Same.refl _) rw'⟩)) hh
    | str z =>
      cases h1 with
      | str _ hl =>
        simp only [sem2, Option.map_eq_some_iff] at hs
        obtain ⟨c, ec, rfl⟩ := hs
        exact ix_seq value slice pins s σ H _ _ v u Q I rx ry (.inr (.inr ⟨z, i, c, rfl, rfl, hl, ec, q _ _ (Same.refl _) (.str _ (by show 1 ≤ sizeLine; rw [sizeLine_eq]; decide))⟩)) hh
    | _ => simp [sem2] at hs
  | _ => cases d <;> simp [sem2] at hs
/-- slices -/
def RSl (K : PySem.W.Frag) : V → Option Int → Option Int → Hp → VK → Prop := fun v lo hi H Q => ∃ Γ O d r, OTr O H ∧ RRep K Γ H O v d ∧ semSl d lo hi = some r ∧ ∀ v' H', Same H H' → Rep K H' O v' r → Q v' H'
theorem cut_reps {K : PySem.W.Frag} {H : Hp} {O : Addr → Prop} {vs : List V} {ds : List D} {lo hi : Option Int} (h : Reps K H O vs ds) : Reps K H O (cutV vs lo hi) (cutD ds lo hi) := by
  unfold cutV cutD
  rw [h.length]
  exact (h.drop _).take _
theorem sl_any : SlR X (RSl X.K) := by
  intro pins s σ H x v vl vu lo hi sl Q I rx hs pl pu h
  obtain ⟨Γ, O, d, r, ho, h1, hsl, q⟩ := h
  cases d with
  | list ds =>
    obtain ⟨a, xs, rfl, t1, r1⟩ := h1
    simp [semSl] at hsl; subst hsl
    exact sl_list pins s σ H _ v vl vu lo hi sl Q I rx hs pl pu ⟨a, xs, rfl, t1.sq, fun p hp => q _ _ (same_upd hp) (mkL ho hp (cut_reps r1))⟩
  | tuple ds =>
    cases h1 with
    | tup t1 r1 =>
      simp [semSl] at hsl; subst hsl
      refine sl_tupA pins s σ H _ v vl vu lo hi sl Q I rx hs pl pu ⟨_, _, rfl, t1, fun hw => ?_, fun _ p hp => q _ _ (same_upd hp) (mkT hp (cut_reps r1))⟩
      have e : cutD ds lo hi = ds := by
        unfold cutD
        rw [← r1.length, hw.1, hw.2, r1.length]
        simp
      rw [e] at q
      exact q _ _ (Same.refl _) (.tup t1 r1)
  | str z =>
    cases h1 with
    | str _ hl =>
      simp [semSl] at hsl; subst hsl
      refine sl_str pins s σ H _ v vl vu lo hi sl Q I rx hs pl pu ⟨z, rfl, hl, q _ _ (Same.refl _) (.str _ ?_)⟩
      have : (cutS z lo hi).length ≤ z.length := by
        rw [TL.len_tl, TL.len_tl]
        show ((TL.tl z |>.drop _).take _).length ≤ _
        rw [List.length_take, List.length_drop]
        omega
      omega
  | _ => simp [semSl] at hsl
end
end Tk
namespace Tk
open PySem PySem.Spec PyProof.Rows L2
theorem PE.imp {X : Cx} {e : Expr} {t t' : TE} (h : PE X e t) (i : ∀ σ H Q, t' σ H Q → t σ H Q) : PE X e t' := ⟨fun pins s σ H Q I q => h.run pins s σ H Q I (i _ _ _ q)⟩
theorem PT.imp {X : Cx} {e : Expr} {t t' : TT} (h : PT X e t) (i : ∀ σ H Q, t' σ H Q → t σ H Q) : PT X e t' := ⟨fun pins s σ H Q I q => h.run pins s σ H Q I (i _ _ _ q)⟩
theorem PW.imp {X : Cx} {e : Expr} {t t' : TT} (h : PW X e t) (i : ∀ σ H Q, t' σ H Q → t σ H Q) : PW X e t' := ⟨fun wh pins s σ H Q I q => h.run wh pins s σ H Q I (i _ _ _ q)⟩
theorem PA.imp {X : Cx} {e : List Expr} {t t' : TA} (h : PA X e t) (i : ∀ σ H Q, t' σ H Q → t σ H Q) : PA X e t' := ⟨fun pos pins s σ H Q I q => h.run pos pins s σ H Q I (i _ _ _ q)⟩
theorem PS.imp {X : Cx} {e : Stmt} {t t' : TS} (h : PS X e t) (i : ∀ D σ H, t' D σ H → t D σ H) : PS X e t' := ⟨fun pins s σ H D I q => h.run pins s σ H D I (i _ _ _ q)⟩
theorem PSs.imp {X : Cx} {e : List Stmt} {t t' : TS} (h : PSs X e t) (i : ∀ D σ H, t' D σ H → t D σ H) : PSs X e t' := ⟨fun pins s σ H D I q => h.run pins s σ H D I (i _ _ _ q)⟩
theorem PI.imp {X : Cx} {tg e : Expr} {t t' : TI} (h : PI X tg e t) (i : ∀ σ H R, t' σ H R → t σ H R) : PI X tg e t' := ⟨fun pins s σ H R I q => h.run pins s σ H R I (i _ _ _ q)⟩
def Mono (t : TE) : Prop := ∀ σ H Q Q', (∀ v H', Q v H' → Q' v H') → t σ H Q → t σ H Q'
/-! ### looks at the text -/
def gl (sc : Scope) (x : Str) : Bool := decide (sc.names.lookup x = some .globalImplicit)
def notStar : Expr → Bool
  | .Starred _ _ => false
  | _ => true
def notSlice : Expr → Bool
  | .Slice _ _ _ _ => false
  | _ => true
def notSet : Expr → Bool
  | .Set _ _ _ => false
  | _ => true
def notSuper : Expr → Bool
  | .Call (.Name _ _) [] [] _ => false
  | _ => true
theorem star_cons {e : Expr} {es : List Expr} {env : Env} (h : notStar e = true) : starEach (e :: es) env = (false, eval e env) :: starEach es env := by
  cases e <;> first | rfl | simp [notStar] at h
def notStars (es : List Expr) : Bool := es.all notStar
theorem stars_any {env : Env} {pos : Pos} : ∀ {es : List Expr}, notStars es = true → (backTo pos (starEach es env)).any (·.1) = false
  | [], _ => rfl
  | e :: es, h => by
    simp only [notStars, List.all_cons, Bool.and_eq_true] at h
    rw [star_cons h.1]
    have := stars_any (env := env) (pos := pos) (es := es) h.2
    simpa [backTo] using this
theorem base_ok {o : Expr} {a : Str} {env : Env} {w : Sem Value} (h : notSuper o = true) : attributeBase o a env w = w := by
  unfold attributeBase
  split
  · simp [notSuper] at h
  · rfl
theorem marks_ok {op : CmpOp} {b : Expr} (h : notSet b = true) : behindInMarks op b = false := by
  cases b <;> first | rfl | simp [notSet] at h
theorem plainIx {b : Expr} (h : notSlice b = true) : PlainIx b := fun _ _ => by
  cases b <;> first | rfl | simp [notSlice] at h
def fnName : Op1 → Option Str
  | .len => some "len"
  | .all => some "all"
  | .any => some "any"
  | .sum => some "sum"
  | .tuple => some "tuple"
  | .list => some "list"
  | .repr => some "repr"
  | _ => none
/-- the built-ins that are used -/
def bltNames : List Str := ["len", "all", "any", "sum", "tuple", "list", "repr", "isinstance", "int", "str", "bool", "dict", "range", "zip", "enumerate", "sorted", "set", "max", "min", "reversed"]
def tyS : List String := ["int", "str", "bool", "list", "tuple", "dict"]
def tyNames : List Str := tyS.map Str.ofString
def isType (sc : Scope) (t : Str) : Expr → Bool
  | .Name x _ => decide (x = t) && gl sc x && decide (x ∈ tyNames)
  | _ => false
def isTypes (sc : Scope) : List Str → List Expr → Bool
  | [], [] => true
  | t :: ts, e :: es => isType sc t e && isTypes sc ts es
  | _, _ => false
def chkOp1 (sc : Scope) (o : Op1) (e : Expr) : Option Expr :=
  match o, e with
  | .isN, .Compare a [.Is] [.Constant .none _ _] _ => some a
  | .notN, .Compare a [.IsNot] [.Constant .none _ _] _ => some a
  | .neg, .UnaryOp .USub a _ => some a
  | .isi [t], .Call (.Name x _) [a, c] [] _ => if x = "isinstance" ∧ gl sc x = true ∧ notStar a = true ∧ isType sc t c = true then some a else none
  | .isi ts, .Call (.Name x _) [a, .Tuple cs _ _] [] _ => if x = "isinstance" ∧ gl sc x = true ∧ notStar a = true ∧ isTypes sc ts cs = true ∧ ts.length ≤ 20 then some a else none
  | o, .Call (.Name x _) [a] [] _ => if fnName o = some x ∧ gl sc x = true ∧ notStar a = true then some a else none
  | _, _ => none
def chkOp2 (sc : Scope) (o : Op2) (e : Expr) : Option (Expr × Expr) :=
  match o, e with
  | .add, .BinOp a .Add b _ => some (a, b)
  | .sub, .BinOp a .Sub b _ => some (a, b)
  | .mul, .BinOp a .Mult b _ => some (a, b)
  | .fdiv, .BinOp a .FloorDiv b _ => some (a, b)
  | .mod, .BinOp a .Mod b _ => some (a, b)
  | .pow, .BinOp a .Pow b _ => some (a, b)
  | .eq, .Compare a [.Eq] [b] _ => if notSet b = true then some (a, b) else none
  | .ne, .Compare a [.NotEq] [b] _ => if notSet b = true then some (a, b) else none
  | .lt, .Compare a [.Lt] [b] _ => if notSet b = true then some (a, b) else none
  | .le, .Compare a [.LtE] [b] _ => if notSet b = true then some (a, b) else none
  | .gt, .Compare a [.Gt] [b] _ => if notSet b = true then some (a, b) else none
  | .ge, .Compare a [.GtE] [b] _ => if notSet b = true then some (a, b) else none
  | .inn, .Compare a [.In] [b] _ => if notSet b = true then some (a, b) else none
  | .nin, .Compare a [.NotIn] [b] _ => if notSet b = true then some (a, b) else none
  | .ix, .Subscript a b _ => if notSlice b = true then some (a, b) else none
  | .split, .Call (.Attribute a n ap) [b] [] p => if n = "split" ∧ notSuper a = true ∧ notStar b = true ∧ (ap.endLine == p.line) = true then some (a, b) else none
  | .join, .Call (.Attribute a n ap) [b] [] p => if n = "join" ∧ notSuper a = true ∧ notStar b = true ∧ (ap.endLine == p.line) = true then some (a, b) else none
  | .index, .Call (.Attribute a n ap) [b] [] p => if n = "index" ∧ notSuper a = true ∧ notStar b = true ∧ (ap.endLine == p.line) = true then some (a, b) else none
  | _, _ => none
def cmpOf : Op2 → Option CmpOp
  | .eq => some .Eq
  | .ne => some .NotEq
  | .lt => some .Lt
  | .le => some .LtE
  | .gt => some .Gt
  | .ge => some .GtE
  | .inn => some .In
  | .nin => some .NotIn
  | _ => none
/-- what is known where code stands -/
structure Site (X : Cx) (sc : Scope) : Prop where
  sc : X.env.scope = sc
  calm : X.calm = true
  units : X.A.units + 200 < cLine
  guards : X.A.guards = some []
  blt : ∀ x ∈ bltNames, X.mg x = none
section
variable {X : Cx} {Γ : Gh} {sc : Scope} {e ea eb : Expr} {ta tb : TE}
theorem Site.gl (s : Site X sc) {x : Str} (h : gl sc x = true) : Gl X x := by
  unfold Gl
  show X.env.scope.names.lookup x = _
  rw [s.sc]
  exact of_decide_eq_true h
theorem pe_b1 {f : Value} {x : Str} {r : V → Hp → VK → Prop} {p pos : Pos} (S : Site X sc) (hc : CallR X f (l1 r)) (hg : Tk.gl sc x = true) (hm : x ∈ bltNames) (hv : bootBuiltins x = some f) (hf : (∃ id, f = .builtin id) ∨ ∃ T, f = .type T) (hs : notStar e = true)
    (ha : PE X e ta) : PE X (.Call (.Name x p) [e] [] pos) (tUn r ta) := by
  have hn : x ≠ "__name__" := by rintro rfl; exact absurd hm (by decide +kernel)
  have hdb : (x == ("__debug__" : Str)) = false := by
    cases q : x == ("__debug__" : Str) with
    | false => rfl
    | true => rw [eq_of_beq q] at hm; exact absurd hm (by decide +kernel)
  have A := pa_cons ha (pa_nil (X := X)) (star_cons hs)
  have B : starEach [e] X.env = (false, eval e X.env) :: starEach [] X.env := star_cons hs
  rcases hf with ⟨id, rfl⟩ | ⟨T, rfl⟩
  · exact PE.imp (pe_callB hc (S.gl hg) (S.blt x hm) hv A hn hdb B rfl) fun _ _ _ q => q
  · exact PE.imp (pe_callTy hc (S.gl hg) (S.blt x hm) hv A hn hdb B rfl) fun _ _ _ q => q
theorem RRep.ty : ∀ {d : D} {v : V} {H : Hp} {O : Addr → Prop}, RRep X.K Γ H O v d → ∃ t : String, TyX X.K H v (.type t) ∧ ∀ m ∈ tyS, kitB t m = some (isiD (Str.ofString m) d)
  | .none, _, _, _, h => by cases h; exact ⟨"NoneType", .base .non, by decide +kernel⟩
  | .bool b, _, _, _, h => by cases h; exact ⟨"bool", .base (.bl _), show ∀ m ∈ tyS, kitB "bool" m = some (decide (Str.ofString m = "bool") || decide (Str.ofString m = "int")) by decide +kernel⟩
  | .int i, _, _, _, h => by cases h; exact ⟨"int", .base (.int _), show ∀ m ∈ tyS, kitB "int" m = some (decide (Str.ofString m = "int")) by decide +kernel⟩
  | .str x, _, _, _, h => by cases h; exact ⟨"str", .base (.str _), show ∀ m ∈ tyS, kitB "str" m = some (decide (Str.ofString m = "str")) by decide +kernel⟩
  | .tuple ds, _, _, _, h => by
    cases h with
    | tup h1 h2 =>
      refine ⟨"tuple", ?_, show ∀ m ∈ tyS, kitB "tuple" m = some (decide (Str.ofString m = "tuple")) by decide +kernel⟩
      rcases h1 with (h1 | ⟨o, h1⟩) | ⟨o, its, n, h1, h2, _⟩
      · exact .base (.tup h1)
      · exact .fTuple h1
      · exact .kTuple h1 h2
  | .dict ds, _, _, _, h => by
    cases h with
    | dct h1 h2 h3 => exact ⟨"dict", .base (.dK h1), show ∀ m ∈ tyS, kitB "dict" m = some (decide (Str.ofString m = "dict")) by decide +kernel⟩
  | .list ds, _, _, _, h => by
    obtain ⟨a, xs, rfl, h1, h2⟩ := h
    refine ⟨"list", ?_, show ∀ m ∈ tyS, kitB "list" m = some (decide (Str.ofString m = "list")) by decide +kernel⟩
    rcases h1 with ⟨h1 | ⟨o, h1⟩, _⟩ | ⟨o, its, n, h1, h2, _⟩
    · exact .base (.lst h1)
    · exact .base (.frz h1)
    · exact .kList h1 h2
theorem RRep.same {K : PySem.W.Frag} {H H' : Hp} {O : Addr → Prop} (s : Same H H') : ∀ {d : D} {v : V}, RRep K Γ H O v d → RRep K Γ H' O v d
  | .list ds, v, h => by
    obtain ⟨a, xs, e, h1, h2⟩ := h
    exact ⟨a, xs, e, h1.ext (Ext.same s), h2.same s⟩
  | .none, _, h => Rep.ext (Ext.same s) _ _ h
  | .bool _, _, h => Rep.ext (Ext.same s) _ _ h
  | .int _, _, h => Rep.ext (Ext.same s) _ _ h
  | .str _, _, h => Rep.ext (Ext.same s) _ _ h
  | .tuple _, _, h => Rep.ext (Ext.same s) _ _ h
  | .dict _, _, h => Rep.ext (Ext.same s) _ _ h
theorem boot_ty : ∀ m ∈ tyS, bootBuiltins (Str.ofString m) = some (.type m) := by decide +kernel
theorem ty_blt : ∀ m ∈ tyS, Str.ofString m ∈ bltNames := by decide +kernel
theorem blt_ok {x : Str} (hm : x ∈ bltNames) : x ≠ "__name__" ∧ (x == ("__debug__" : Str)) = false := by
  refine ⟨by rintro rfl; exact absurd hm (by decide +kernel), ?_⟩
  cases q : x == ("__debug__" : Str) with
  | false => rfl
  | true => rw [eq_of_beq q] at hm; exact absurd hm (by decide +kernel)
/-- a type's name as a value -/
theorem pe_ty {t : Str} {c : Expr} (S : Site X sc) (h : isType sc t c = true) : ∃ m ∈ tyS, t = Str.ofString m ∧ PE X c (tC (.ty m)) := by
  cases c with
  | Name x p =>
    simp only [isType, Bool.and_eq_true, decide_eq_true_eq] at h
    obtain ⟨⟨rfl, hg⟩, hm⟩ := h
    obtain ⟨m, hm', rfl⟩ := List.mem_map.mp hm
    refine ⟨m, hm', rfl, ?_⟩
    have hb := ty_blt m hm'
    exact pe_bltn (S.gl hg) (S.blt _ hb) (boot_ty m hm') rfl (blt_ok hb).1 (blt_ok hb).2
  | _ => simp [isType] at h
theorem pa_tys : ∀ {ts : List Str} {cs : List Expr}, Site X sc → isTypes sc ts cs = true → ∃ ms : List String, (∀ m ∈ ms, m ∈ tyS) ∧ ts = ms.map Str.ofString ∧ PA X cs (fun _ H Q => Q (ms.map V.ty) H)
  | [], [], _, _ => ⟨[], by simp, rfl, pa_nil⟩
  | [], _ :: _, _, h => by simp [isTypes] at h
  | _ :: _, [], _, h => by simp [isTypes] at h
  | t :: ts, c :: cs, S, h => by
    simp only [isTypes, Bool.and_eq_true] at h
    obtain ⟨m, hm, rfl, P⟩ := pe_ty S h.1
    obtain ⟨ms, hms, rfl, A⟩ := pa_tys S h.2
    have hs : notStar c = true := by
      have h1 := h.1
      cases c <;> first | rfl | simp [isType] at h1
    exact ⟨m :: ms, by simpa using ⟨hm, hms⟩, rfl, PA.imp (pa_cons P A (star_cons hs)) fun _ _ _ q => q⟩
theorem kitAny_of {K : PySem.W.Frag} {t : String} {d : D} (h : ∀ m ∈ tyS, kitB t m = some (isiD (Str.ofString m) d)) : ∀ {ms : List String}, (∀ m ∈ ms, m ∈ tyS) → PySem.W.kitAny K (.type t) (ms.map Value.type) = some ((ms.map Str.ofString).any fun n => isiD n d)
  | [], _ => rfl
  | m :: ms, hm => by
    have h1 := h m (hm m List.mem_cons_self)
    have ih := kitAny_of (K := K) h (ms := ms) fun z hz => hm z (List.mem_cons_of_mem _ hz)
    exact kitAny_cons (kit_ty h1) (fun e => by rw [ih]; simp [e]) (fun e => by simp [e])
theorem cls_tys : ∀ ms : List String, Paired ClsV (ms.map V.ty) (ms.map Value.type)
  | [] => .nil
  | m :: ms => .cons (.ty m) (cls_tys ms)
theorem c_repr (S : Site X sc) : CallR X (.builtin "repr") (l1 (R1 X.K .repr)) := by
  refine CallR.l1_of fun pins s σ H x u Q I rx h => ?_
  obtain ⟨Γ, O, d, r, ho, hr, hs, q⟩ := h
  simp only [sem1] at hs
  split at hs
  · rename_i hc
    cases hs
    obtain ⟨c1, c2, c3, c4⟩ := hc
    have fin : Q (.str d.shown) H := q _ _ (Same.refl _) (.str _ c4)
    have hd := RRep.dp c2 hr
    obtain ⟨as, rd⟩ := Dp.reads I d x u hd rx
    have hu := S.units
    cases d with
    | none => cases hr; cases rx; exact PySem.P.repr_of_none ⟨.str _, H, I.tok _, ⟨_, rfl⟩, fin⟩
    | bool b => cases hr; cases rx; exact PySem.P.repr_of_bool ⟨.str _, H, I.tok _, ⟨_, rfl⟩, fin⟩
    | int i => cases hr; obtain ⟨t, rfl⟩ := rx; exact PySem.P.repr_of_int (by simpa [PyData.showable] using c1) ⟨.str _, H, I.tok _, ⟨_, rfl⟩, fin⟩
    | str y => cases hr; obtain ⟨t, rfl⟩ := rx; exact PySem.P.repr_of_str ⟨.str _, H, I.tok _, ⟨_, rfl⟩, fin⟩ c4
    | list ds =>
      obtain ⟨a, xs, rfl, _⟩ := hr
      cases rx
      exact repr_of_reads' rd c1 (fun z => by rw [c2] at z; cases z) S.guards (by omega) (fun _ _ z => z) (fun h' t tk hk => ⟨.str _, H, I.kept hk, ⟨_, rfl⟩, fin⟩) c4
    | tuple ds =>
      cases hr with
      | tup h1 h2 =>
        cases rx
        exact repr_of_reads' rd c1 (fun z => by rw [c2] at z; cases z) S.guards (by omega) (fun _ _ z => z) (fun h' t tk hk => ⟨.str _, H, I.kept hk, ⟨_, rfl⟩, fin⟩) c4
    | dict ds => simp [PyData.hasDict] at c2
  · cases hs
theorem op1_ok (S : Site X sc) {o : Op1} (h : chkOp1 sc o e = some ea) (ha : PE X ea ta) (ma : Mono ta) : PE X e (tUn (R1 X.K o) ta) := by
  have plain : ∀ {x : Str} {p pos : Pos} {a : Expr}, fnName o = some x → Tk.gl sc x = true → notStar a = true → PE X a ta → PE X (.Call (.Name x p) [a] [] pos) (tUn (R1 X.K o) ta) := fun {x p pos a} hf hg hs ha => by
    cases o with
    | len => cases hf; exact pe_b1 S c_len hg (by decide +kernel) boot_len (.inl ⟨_, rfl⟩) hs ha
    | all => cases hf; exact pe_b1 S (c_all S.calm) hg (by decide +kernel) (by decide +kernel) (.inl ⟨_, rfl⟩) hs ha
    | any => cases hf; exact pe_b1 S (c_any S.calm) hg (by decide +kernel) (by decide +kernel) (.inl ⟨_, rfl⟩) hs ha
    | sum => cases hf; exact pe_b1 S (c_sum S.calm) hg (by decide +kernel) (by decide +kernel) (.inl ⟨_, rfl⟩) hs ha
    | tuple => cases hf; exact pe_b1 S c_tuple hg (by decide +kernel) (by decide +kernel) (.inr ⟨_, rfl⟩) hs ha
    | list => cases hf; exact pe_b1 S c_list hg (by decide +kernel) (by decide +kernel) (.inr ⟨_, rfl⟩) hs ha
    | repr => cases hf; exact pe_b1 S (c_repr S) hg (by decide +kernel) (by decide +kernel) (.inl ⟨_, rfl⟩) hs ha
    | _ => cases hf
  unfold chkOp1 at h
  split at h
  · cases h
    refine ⟨fun pins s σ H Q I h => ?_⟩
    refine wpAny_Compare1 (thn (ha.run pins s σ H _ I h) fun v s1 ⟨x, H1, I1, r1, Γ, O, d, r, ho, hr, hs, q⟩ => ?_) rfl
    simp only [sem1, Option.some.injEq] at hs
    subst hs
    exact Constant_none (is_none_gen ⟨.bl _, H1, I1, by rw [r1.none_iff, hr.isN]; rfl, q _ _ (Same.refl _) (.bl _)⟩)
  · cases h
    refine ⟨fun pins s σ H Q I h => ?_⟩
    refine wpAny_Compare1 (thn (ha.run pins s σ H _ I h) fun v s1 ⟨x, H1, I1, r1, Γ, O, d, r, ho, hr, hs, q⟩ => ?_) rfl
    simp only [sem1, Option.some.injEq] at hs
    subst hs
    exact Constant_none (isnot_none_gen ⟨.bl _, H1, I1, by rw [r1.none_iff, hr.isN]; rfl, q _ _ (Same.refl _) (.bl _)⟩)
  · cases h
    refine PE.imp (pe_un (r := R1 X.K .neg) ?_ ha) fun _ _ _ q => q
    intro pins s σ H x v Q I rx h
    obtain ⟨Γ, O, d, r, ho, hr, hs, q⟩ := h
    cases d with
    | int i =>
      cases hr
      simp [sem1] at hs; subst hs
      exact un_neg pins s σ H _ v Q I rx ⟨i, rfl, q _ _ (Same.refl _) (.int _)⟩
    | _ => simp [sem1] at hs
  · rename_i t x p a c pos
    split at h
    · rename_i hc
      cases h
      obtain ⟨rfl, hg, hs, ht⟩ := hc
      obtain ⟨m, hm, rfl, P⟩ := pe_ty S ht
      have hsc : notStar c = true := by
        cases c <;> first | rfl | simp [isType] at ht
      have hb : ("isinstance" : Str) ∈ bltNames := by decide +kernel
      refine PE.imp (pe_callB call_isi (S.gl hg) (S.blt _ hb) (by decide +kernel) (pa_cons ha (pa_cons P pa_nil (star_cons hsc)) (star_cons hs)) (blt_ok hb).1 (blt_ok hb).2 (star_cons hs) (stars_any (by simp [notStars, hsc]))) fun σ H Q q => ?_
      refine ma σ H _ _ (fun v H1 z => ?_) q
      obtain ⟨Γ, O, d, r, ho, hr, hs, q⟩ := z
      obtain ⟨t, ty, k⟩ := hr.ty
      simp only [sem1, Option.some.injEq] at hs
      subst hs
      exact ⟨v, .ty m, .type t, .type m, isiD (Str.ofString m) d, rfl, .ty m, ty, kit_ty (k m hm), q _ _ (Same.refl _) (by simpa using Rep.bl _)⟩
    · cases h
  · rename_i ts x p a cs k tp pos _
    split at h
    · rename_i hc
      cases h
      obtain ⟨rfl, hg, hs, ht, hlen⟩ := hc
      obtain ⟨ms, hms, rfl, A⟩ := pa_tys S ht
      have hb : ("isinstance" : Str) ∈ bltNames := by decide +kernel
      refine PE.imp (pe_callB call_isiT (S.gl hg) (S.blt _ hb) (by decide +kernel) (pa_cons ha (pa_cons (pe_tup A) pa_nil (star_cons rfl)) (star_cons hs)) (blt_ok hb).1 (blt_ok hb).2 (star_cons hs) (stars_any (by simp [notStars, notStar]))) fun σ H Q q => ?_
      refine ma σ H _ _ (fun v H1 z => ?_) q
      obtain ⟨Γ, O, d, r, ho, hr, hs, q⟩ := z
      simp only [sem1, Option.some.injEq] at hs
      subst hs
      refine ⟨by rw [sizeLine_eq]; simp only [List.length_map] at hlen ⊢; omega, fun p hp => ?_⟩
      have hr' := RRep.same (same_upd (o := .tup (ms.map V.ty)) hp) hr
      obtain ⟨t, ty, k⟩ := hr'.ty
      exact ⟨v, p, ms.map V.ty, .type t, ms.map Value.type, _, rfl, upd_same, cls_tys ms, ty, kitAny_of k hms, q _ _ (same_upd hp) (.bl _)⟩
    · cases h
  · split at h
    · rename_i hc
      cases h
      exact plain hc.1 hc.2.1 hc.2.2 ha
    · cases h
  · cases h
/-- what a method's receiver must be, ahead of the arguments -/
def rcv (K : PySem.W.Frag) (o : Op2) (x : V) (H : Hp) : Prop := match o with
  | .split => ∃ a, x = .str a
  | .join => ∃ a, x = .str a
  | .index => ∃ p xs, x = .ref p ∧ SqL K H p xs
  | _ => True
def tOp2 (K : PySem.W.Frag) (o : Op2) (ta tb : TE) : TE := fun σ H Q => ta σ H fun x H1 => rcv K o x H1 ∧ tb σ H1 fun y H2 => R2 K o x y H2 Q
theorem rcv_of : ∀ {o : Op2} {d : D} {v : V} {H : Hp} {O : Addr → Prop}, recv o d = true → RRep X.K Γ H O v d → rcv X.K o v H := by
  intro o d v H O h r
  cases o <;> first | trivial | skip
  · cases d <;> first | (simp [recv] at h; done) | skip
    cases r; exact ⟨_, rfl⟩
  · cases d <;> first | (simp [recv] at h; done) | skip
    cases r; exact ⟨_, rfl⟩
  · cases d <;> first | (simp [recv] at h; done) | skip
    obtain ⟨a, xs, rfl, h1, _⟩ := r
    exact ⟨a, xs, rfl, h1.sq⟩
theorem m_split : MtR X "str.split" (fun x xs H Q => ∃ y, xs = [y] ∧ R2 X.K .split x y H Q) := by
  intro pins s σ H x xs v us Q I rx rs h
  obtain ⟨y, rfl, Γ, O, d, e, r, ho, h1, h2, hs, q⟩ := h
  cases d with
  | str a =>
    cases e with
    | str b =>
      cases h1; cases h2
      simp only [sem2] at hs
      split at hs
      · rename_i hc
        cases hs
        refine mt_split pins s σ H _ _ v us Q I rx rs ⟨a, b, rfl, rfl, by simpa using hc.1, hc.2.1, fun p hp => q _ _ (same_upd hp) (mkL ho hp (Reps.ofStrs fun y hy => ?_))⟩
        exact of_decide_eq_true (List.all_eq_true.mp hc.2.2 y hy)
      · cases hs
    | _ => simp [sem2] at hs
  | _ => cases e <;> simp [sem2] at hs
theorem m_join : MtR X "str.join" (fun x xs H Q => ∃ y, xs = [y] ∧ R2 X.K .join x y H Q) := by
  intro pins s σ H x xs v us Q I rx rs h
  obtain ⟨y, rfl, Γ, O, d, e, r, ho, h1, h2, hs, q⟩ := h
  cases d with
  | str a =>
    cases e with
    | list ds =>
      cases h1
      obtain ⟨p, ys, rfl, t1, r1⟩ := h2
      simp only [sem2, Option.bind_eq_some_iff] at hs
      obtain ⟨zs, e1, hs⟩ := hs
      split at hs
      · rename_i hc
        cases hs
        have e2 := r1.strs e1
        subst e2
        exact mt_join pins s σ H _ _ v us Q I rx rs ⟨a, p, zs, rfl, rfl, .inl t1.sq, hc.1, q _ _ (Same.refl _) (.str _ hc.2)⟩
      · cases hs
    | tuple ds =>
      cases h1
      cases h2 with
      | tup t1 r1 =>
        simp only [sem2, Option.bind_eq_some_iff] at hs
        obtain ⟨zs, e1, hs⟩ := hs
        split at hs
        · rename_i hc
          cases hs
          have e2 := r1.strs e1
          subst e2
          exact mt_join pins s σ H _ _ v us Q I rx rs ⟨a, _, zs, rfl, rfl, .inr t1, hc.1, q _ _ (Same.refl _) (.str _ hc.2)⟩
        · cases hs
    | _ => simp [sem2] at hs
  | _ => cases e <;> simp [sem2] at hs
theorem firstAt_at {d : D} : ∀ {xs : List D} {j : Nat}, firstAt d xs = some j → ∃ z, xs[j]? = some z ∧ PyData.eqv z d = true ∧ ∀ (m : Nat) z', m < j → xs[m]? = some z' → PyData.eqv z' d = false
  | [], _, h => by simp [firstAt] at h
  | x :: xs, j, h => by
    unfold firstAt at h
    split at h
    · rename_i hx
      cases h
      exact ⟨x, rfl, hx, fun m _ hm => absurd hm (Nat.not_lt_zero m)⟩
    · rename_i hx
      rw [Option.map_eq_some_iff] at h
      obtain ⟨i, e, rfl⟩ := h
      obtain ⟨z, e1, e2, e3⟩ := firstAt_at e
      refine ⟨z, by simpa using e1, e2, fun m z' hm hz => ?_⟩
      cases m with
      | zero => simp at hz; subst hz; simpa using hx
      | succ m => exact e3 m z' (by omega) (by simpa using hz)
theorem depthAll_le : ∀ {xs : List D}, allShaped xs = true → PyData.depthAll xs ≤ 64
  | [], _ => by simp [PyData.depthAll]
  | x :: xs, h => by
    simp only [allShaped, List.all_cons, Bool.and_eq_true] at h
    have h1 := depth_of_shaped h.1
    have h2 := depthAll_le (xs := xs) h.2
    simp only [PyData.depthAll]
    omega
theorem m_index (S : Site X sc) : MtR X "list.index" (fun x xs H Q => ∃ y, xs = [y] ∧ R2 X.K .index x y H Q) := by
  intro pins s σ H x xs v us Q I rx rs h
  obtain ⟨y, rfl, Γ, O, d, e, r, ho, h1, h2, hs, q⟩ := h
  have hu := S.units
  cases d with
  | list ds =>
    obtain ⟨p, ys, rfl, t1, r1⟩ := id h1
    simp only [sem2] at hs
    split at hs
    · rename_i hc
      rw [Option.map_eq_some_iff] at hs
      obtain ⟨j, e1, rfl⟩ := hs
      obtain ⟨z, e2, e3, e4⟩ := firstAt_at e1
      exact mt_indexD (by omega) pins s σ H _ _ v us Q I rx rs ⟨p, y, e, ds, j, z, rfl, rfl, h1.dp (shaped_dict hc.2), h2.dp (shaped_dict hc.1), hc.2, hc.1, e2, e3, e4, q _ _ (Same.refl _) (.int _)⟩
    · cases hs
  | _ => cases e <;> simp [sem2] at hs
/-- the operator behind a comparison -/
theorem cmp_ok (S : Site X sc) {o : Op2} {op : CmpOp} (h : cmpOf o = some op) : OpR X (compareOp op) (R2 X.K o) := by
  have hu := S.units
  cases o <;> simp only [cmpOf, reduceCtorEq, Option.some.injEq] at h <;> subst h
  · exact o_eq (by omega)
  · exact o_ne (by omega)
  · exact o_lt
  · exact o_le
  · exact o_gt
  · exact o_ge
  · exact o_in (by omega)
  · exact o_nin (by omega)
theorem op2_ok (S : Site X sc) {o : Op2} (h : chkOp2 sc o e = some (ea, eb)) (ha : PE X ea ta) (hb : PE X eb tb) (ma : Mono ta) (mb : Mono tb) : PE X e (tOp2 X.K o ta tb) := by
  have drop : ∀ {o : Op2} {t : TE}, (∀ x H, rcv X.K o x H) → t = tOp (R2 X.K o) ta tb → PE X e t → PE X e (tOp2 X.K o ta tb) := fun {o t} _ et p => by
    subst et
    exact PE.imp p fun σ H Q q => ma σ H _ _ (fun v H1 z => z.2) q
  have cmp : ∀ {op : CmpOp} {a b : Expr} {pos : Pos}, (∀ x H, rcv X.K o x H) → cmpOf o = some op → e = .Compare a [op] [b] pos → (if notSet b = true then some (a, b) else none) = some (ea, eb) → PE X e (tOp2 X.K o ta tb) := fun {op a b pos} hr hc he h => by
    split at h
    · rename_i hn
      cases h
      subst he
      exact drop hr rfl (pe_cmpR (cmp_ok S hc) ha hb (marks_ok hn))
    · cases h
  unfold chkOp2 at h
  split at h
  · cases h; exact drop (fun _ _ => trivial) rfl (pe_op o_add ha hb)
  · cases h; exact drop (fun _ _ => trivial) rfl (pe_op o_sub ha hb)
  · cases h; exact drop (fun _ _ => trivial) rfl (pe_op o_mul ha hb)
  · cases h; exact drop (fun _ _ => trivial) rfl (pe_op o_fdiv ha hb)
  · cases h; exact drop (fun _ _ => trivial) rfl (pe_op o_mod ha hb)
  · cases h; exact drop (fun _ _ => trivial) rfl (pe_op o_pow ha hb)
  · exact cmp (fun _ _ => trivial) rfl rfl h
  · exact cmp (fun _ _ => trivial) rfl rfl h
  · exact cmp (fun _ _ => trivial) rfl rfl h
  · exact cmp (fun _ _ => trivial) rfl rfl h
  · exact cmp (fun _ _ => trivial) rfl rfl h
  · exact cmp (fun _ _ => trivial) rfl rfl h
  · exact cmp (fun _ _ => trivial) rfl rfl h
  · exact cmp (fun _ _ => trivial) rfl rfl h
  · split at h
    · rename_i hn
      cases h
      exact drop (fun _ _ => trivial) rfl (pe_ix o_ix ha hb (plainIx hn))
    · cases h
  · split at h
    · rename_i hc
      cases h
      obtain ⟨rfl, h1, h2, h3⟩ := hc
      refine PE.imp (pe_m1 F.slot_str_split F.type_str_split (m_split) ha hb (star_cons h2) (base_ok h1) h3) fun σ H Q q => ?_
      exact ma σ H _ _ (fun v H1 z => ⟨z.1, mb σ H1 _ _ (fun u H2 z2 => ⟨u, rfl, z2⟩) z.2⟩) q
    · cases h
  · split at h
    · rename_i hc
      cases h
      obtain ⟨rfl, h1, h2, h3⟩ := hc
      refine PE.imp (pe_m1 F.slot_str_join F.type_str_join (m_join) ha hb (star_cons h2) (base_ok h1) h3) fun σ H Q q => ?_
      exact ma σ H _ _ (fun v H1 z => ⟨z.1, mb σ H1 _ _ (fun u H2 z2 => ⟨u, rfl, z2⟩) z.2⟩) q
    · cases h
  · split at h
    · rename_i hc
      cases h
      obtain ⟨rfl, h1, h2, h3⟩ := hc
      refine PE.imp (pe_bm PySem.F.plainAttrs_list PySem.F.slot_list_index PySem.F.type_list_index (m_index S) ha (pa_cons hb pa_nil (star_cons h2)) (base_ok h1) ?_ h3 (star_cons h2) rfl) fun σ H Q q => ?_
      · rw [star_cons h2]; rfl
      · refine ma σ H _ _ (fun v H1 z => ⟨?_, mb σ H1 _ _ (fun u H2 z2 => ⟨u, rfl, z2⟩) z.2⟩) q
        obtain ⟨p, xs, rfl, hq⟩ := z.1
        exact .inl ⟨rfl, xs, hq⟩
    · cases h
  · cases h
end
end Tk
namespace Tk
open PySem PySem.Spec PyProof.Rows L2
abbrev FT := Nat → Option (Str × Nat)
def vis (sc : Scope) (x : Str) : Bool := match sc.names.lookup x with
  | some .local => true
  | some .cell => true
  | some .free => true
  | _ => false
def plainName (x : Str) : Bool := !(x == ("__debug__" : Str)) && !(x == ("__classdict__" : Str))
def constIs : D → Const → Bool
  | .none, .none => true
  | .bool b, .bool c => b == c
  | .int i, .int j => i == j
  | .str x, .str y => decide (x = y) && decide (x.length ≤ sizeLine)
  | _, _ => false
mutual
def chkT (N : List Str) (sc : Scope) (fn : Str → Bool) : Tg → Expr → Bool
  | .name i, .Name x _ => decide (N[i]? = some x) && (decide (sc.names.lookup x = some .local) || (decide (sc.names.lookup x = some .cell) && fn x))
  | .tup t, .Tuple es _ _ => chkTs N sc fn t es
  | _, _ => false
def chkTs (N : List Str) (sc : Scope) (fn : Str → Bool) : Tg → List Expr → Bool
  | .nil, [] => true
  | .cons t u, e :: es => notStar e && chkT N sc fn t e && chkTs N sc fn u es
  | _, _ => false
end
def tgs : Tg → List Nat
  | .name i => [i]
  | .nil => []
  | .cons t u => tgs t ++ tgs u
  | .tup t => tgs t
def isTup : Expr → Bool
  | .Tuple _ _ _ => true
  | _ => false
mutual
def chkE (F : FT) (N : List Str) : CE → Scope → Expr → Bool
  | .const d, _, .Constant c _ _ => constIs d c
  | .var i, sc, .Name x _ => decide (N[i]? = some x) && vis sc x && plainName x
  | .glob y, sc, .Name x _ => decide (x = y) && gl sc x && plainName x
  | .tup r, sc, .Tuple es _ _ => chkA F N r sc es
  | .lst r, sc, .List es _ => chkA F N r sc es
  | .op1 o a, sc, e => match chkOp1 sc o e with
    | some ea => chkE F N a sc ea
    | none => false
  | .op2 o a b, sc, e => match chkOp2 sc o e with
    | some (ea, eb) => chkE F N a sc ea && chkE F N b sc eb
    | none => false
  | .slc a lo hi, sc, .Subscript ea (.Slice l h none _) _ => chkE F N a sc ea && chkP F N lo sc l && chkP F N hi sc h
  | .chain o o' a b c, sc, .Compare ea [op, op'] [eb, ec] _ => decide (cmpOf o = some op) && decide (cmpOf o' = some op') && notSet ec && chkE F N a sc ea && chkE F N b sc eb && chkE F N c sc ec
  | .and_ a r, sc, .BoolOp .And (e1 :: e2 :: es) pos => chkE F N a sc e1 && (match es with
    | [] => chkE F N r sc e2
    | e3 :: es' => chkE F N r sc (.BoolOp .And (e2 :: e3 :: es') pos))
  | .or_ a r, sc, .BoolOp .Or (e1 :: e2 :: es) pos => chkE F N a sc e1 && (match es with
    | [] => chkE F N r sc e2
    | e3 :: es' => chkE F N r sc (.BoolOp .Or (e2 :: e3 :: es') pos))
  | .not_ a, sc, .UnaryOp .Not ea _ => chkE F N a sc ea
  | .ifx c a b, sc, .IfExp ec ea eb _ => chkE F N c sc ec && chkE F N a sc ea && chkE F N b sc eb
  | .call f r, sc, .Call (.Name x _) es [] _ => decide (F f = some (x, es.length)) && gl sc x && plainName x && notStars es && chkA F N r sc es
  | .comp own e t it ifs, sc, .ListComp elt [⟨tg, iter, ifs', a⟩] scope _ =>
      decide (a = 0) && blkC N sc scope (own.map fun i => (N.getD i "", i)) && notSet iter && chkI F N it sc tg iter
        && chkT N (relS scope sc) (fun x => scope.names.lookup x == some .cell) t tg && (tgs t).all (fun i => decide (i ∈ own))
        && (match ifs' with
          | [] => (match ifs with | .nil => true | _ => false)
          | [c] => chkE F N ifs (relS scope sc) c
          | _ => false)
        && chkE F N e (relS scope sc) elt
  | _, _, _ => false
def chkP (F : FT) (N : List Str) : CE → Scope → Option Expr → Bool
  | .nopart, _, none => true
  | .cons a .nil, sc, some e => chkE F N a sc e
  | _, _, _ => false
def chkA (F : FT) (N : List Str) : CE → Scope → List Expr → Bool
  | .nil, _, [] => true
  | .cons a r, sc, e :: es => notStar e && chkE F N a sc e && chkA F N r sc es
  | _, _, _ => false
def chkI (F : FT) (N : List Str) : CE → Scope → Expr → Expr → Bool
  | .iter a, sc, _, e => chkE F N a sc e
  | .range1 a, sc, _, .Call (.Name x _) [ea] [] _ => decide (x = "range") && gl sc x && notStar ea && chkE F N a sc ea
  | .range2 a b, sc, _, .Call (.Name x _) [ea, eb] [] _ => decide (x = "range") && gl sc x && notStar ea && notStar eb && chkE F N a sc ea && chkE F N b sc eb
  | .zip2 a b, sc, tg, .Call (.Name x _) [ea, eb] [] _ => isTup tg && decide (x = "zip") && gl sc x && notStar ea && notStar eb && chkE F N a sc ea && chkE F N b sc eb
  | .enum a, sc, tg, .Call (.Name x _) [ea] [] _ => isTup tg && decide (x = "enumerate") && gl sc x && notStar ea && chkE F N a sc ea
  | _, _, _, _ => false
end
end Tk
namespace Tk
open PySem PySem.Spec PyProof.Rows L2
abbrev XRep := Hp → (Addr → Prop) → Exc → Value → Option Addr → Prop
/-- an argument -/
def ARep (K : PySem.W.Frag) (Γ : Gh) (H : Hp) (O : Addr → Prop) : Slot → V → Prop
  | .val d, v => Rep K H O v d
  | .st, v => v = Γ.sv ∧ v ≠ .non
  | .own _, _ => False
inductive AReps (K : PySem.W.Frag) (Γ : Gh) (H : Hp) (O : Addr → Prop) : List Slot → List V → Prop
  | nil : AReps K Γ H O [] []
  | cons {s : Slot} {v : V} {ss : List Slot} {vs : List V} : ARep K Γ H O s v → AReps K Γ H O ss vs → AReps K Γ H O (s :: ss) (v :: vs)
/-- what a def hands back -/
def RRes (K : PySem.W.Frag) (Γ : Gh) (H H' : Hp) (O : Addr → Prop) : Slot → V → Prop
  | .val d, v => Rep K H' O v d
  | .own ds, v => ∃ a vs, v = .ref a ∧ H' a = some (.lst vs) ∧ H a = none ∧ Reps K H' (fun b => O b ∨ b = a) vs ds
  | .st, v => v = Γ.sv ∧ v ≠ .non
/-- a def's promise -/
def spC (K : PySem.W.Frag) (xr : XRep) (C : Nat → List Slot → (Slot → Prop) → KX → Prop) (f : Nat) (np : Nat) : Sp := fun vs H Q E => vs.length = np ∧ ∃ Γ O ss k x, Γ.Ok ∧ Γ.W H ∧ OTr O H ∧ (∀ b, Γ.M b → O b) ∧ AReps K Γ H O ss vs ∧ C f ss k x ∧
  (∀ s v H', k s → Later Γ H H' → RRes K Γ H H' O s v → Q v H') ∧ (∀ e cls dd H', x e → Later Γ H H' → xr H' O e cls dd → E cls dd H')
/-- as FnOk, where no repr is under way -/
structure FnG (P : Program) (w : World) (K : PySem.W.Frag) (mg : Str → Option Value) (base : Heap) (k : Nat) (f : Addr) (fd : FuncData) (ps : List Str) (sp : Sp) : Prop where
  len : ∀ vs H Q E, sp vs H Q E → vs.length = ps.length
  run : ∀ (A : Around) (outer : List Env) (s : Shared) (H : Hp) (args : Args) (us : List Value) (vs : List V) (Q : VK) (E : XK), Room k A → A.guards = some [] → Env0 P w K mg base A outer s H → BindsTo s fd args (ps.zip us) → Vals vs us → sp vs H Q E →
    codeAny (model P w) A (.call (.ref f) args) (CR (L2.CX P w) outer P w H s Q E) s
structure Stat (X : Cx) (F : FT) (C : Cfg) (xr : XRep) (n : Nat) : Prop where
  glob : ∀ x d, C.glob x = some d → ∃ u v, X.mg x = some u ∧ RelV v u ∧ ∀ H O, Rep X.K H O v d
  xm : ∀ H (O O1 : Addr → Prop) e cls dd, (∀ b, O b → O1 b) → xr H O1 e cls dd → xr H O e cls dd
  lens : ∀ f nm np, F f = some (nm, np) → ∀ ss k x, C.call f ss k x → ss.length = np
  fns : ∀ f nm np, F f = some (nm, np) → ∃ a fd ps, X.mg nm = some (.ref a) ∧ PySem.W.keepIn X.K (.ref a) = true ∧ ps.length = np ∧ Binds X.K fd ps [] ∧ FnG X.prog X.w X.K X.mg X.base n a fd ps (spC X.K xr C.call f np)
structure Here (X : Cx) (F : FT) (N : List Str) (sc : Scope) (C : Cfg) (xr : XRep) (n : Nat) (W : WX) : Prop where
  site : Site X sc
  stat : Stat X F C xr n
  room : Room n X.A
  hN : X.N = N
  nd : X.N.Nodup
  tk : Takes X W
section
variable {X : Cx} {F : FT} {N : List Str} {sc : Scope} {C : Cfg} {xr : XRep} {n : Nat} {W : WX}
theorem run_fnG {pins : List (Addr × Obj)} {σ : L2.St} {H : Hp} {s : Shared} {Q : VK} {us : List Value} {vs : List V} {f : Addr} {fd : FuncData} {ps : List Str} {sp : Sp} (G : FnG X.prog X.w X.K X.mg X.base n f fd ps sp) (hr : Room n X.A) (hg : X.A.guards = some []) (hb : Binds X.K fd ps []) (tk : Takes X W)
    (I : Inv X pins σ H s) (r : Vals vs us) (h : sp vs H Q fun cls dd H' => W cls dd σ H') : wpAny (model X.prog X.w) X.A (PySem.call (.ref f) us) (EP X pins σ Q) X.xe s := by
  have hl : us.length = ps.length := by rw [← r.length]; exact G.len _ _ _ _ h
  have hb' := hb s us I.kIn (by simpa using hl)
  simp only [List.append_nil] at hb'
  refine wpAny_call (codeAny_mono (G.run X.A X.stack s H ⟨us, []⟩ us vs Q _ hr hg I.env0 hb' r h) fun r s' hq => ?_)
  cases r with
  | error e => exact tk e s' (XE.of_call I (fun cls d H' h => h) hq)
  | ok fl =>
    cases fl with
    | ret u => exact I.after hq
    | _ => exact hq.elim
/-- f(..) of the program's own -/
theorem pe_fn {f : Nat} {x : Str} {e : Expr} {es : List Expr} {t : TA} {p pos : Pos} (h : Here X F N sc C xr n W) (hF : F f = some (x, (e :: es).length)) (hg : gl sc x = true) (hp : plainName x = true) (hs : notStars (e :: es) = true) (ha : PA X (e :: es) t) :
    PE X (.Call (.Name x p) (e :: es) [] pos) (fun σ H Q => t σ H fun vs H1 => spC X.K xr C.call f (e :: es).length vs H1 Q fun cls dd H' => W cls dd σ H') := by
  obtain ⟨a, fd, ps, m1, m2, m3, m4, m5⟩ := h.stat.fns f x _ hF
  have hdb : (x == ("__debug__" : Str)) = false := by
    simp only [plainName, Bool.and_eq_true, Bool.not_eq_true'] at hp
    exact hp.1
  refine ⟨fun pins s σ H Q I q => ?_⟩
  refine wpAny_Call_Name_kw (ld_glob I (h.site.gl hg) m1 ?_ hdb)
  simp only [notStars, List.all_cons, Bool.and_eq_true] at hs
  refine PySem.W.callWith_K (h₀ := X.base) I.ok.mod.kin m2 (thn (ha.run pos pins s σ H _ I q) fun us s1 ⟨vs, H1, I1, r, q⟩ => ⟨I1.kIn, ?_⟩) (star_cons hs.1) (stars_any hs.2)
  exact run_fnG m5 h.room h.site.guards m4 h.tk I1 r q
theorem pe_fn0 {f : Nat} {x : Str} {p pos : Pos} (h : Here X F N sc C xr n W) (hF : F f = some (x, 0)) (hg : gl sc x = true) (hp : plainName x = true) :
    PE X (.Call (.Name x p) [] [] pos) (fun σ H Q => spC X.K xr C.call f 0 [] H Q fun cls dd H' => W cls dd σ H') := by
  obtain ⟨a, fd, ps, m1, m2, m3, m4, m5⟩ := h.stat.fns f x _ hF
  have hdb : (x == ("__debug__" : Str)) = false := by
    simp only [plainName, Bool.and_eq_true, Bool.not_eq_true'] at hp
    exact hp.1
  refine ⟨fun pins s σ H Q I q => ?_⟩
  refine wpAny_Call_Name_kw (ld_glob I (h.site.gl hg) m1 ?_ hdb)
  exact PySem.W.callWith_K0 I.kIn m2 (run_fnG (us := []) m5 h.room h.site.guards m4 h.tk I .nil q)
/-! ### what the terms ask of the slots and the heap -/
def Vr (K : PySem.W.Frag) (Γ : Gh) (rd : Bool) (H : Hp) (O : Addr → Prop) (v : V) (d : D) : Prop := match rd with
  | true => RRep K Γ H O v d
  | false => Rep K H O v d
/-- what is wanted of an exception -/
def XOk (xr : XRep) (W : WX) (Γ : Gh) (O : Addr → Prop) (σ : L2.St) (H : Hp) (x : KX) : Prop := ∀ e cls dd H', x e → Later Γ H H' → xr H' O e cls dd → W cls dd σ H'
def tE (K : PySem.W.Frag) (xr : XRep) (C : Cfg) (W : WX) (rd : Bool) (c : CE) : TE := fun σ H Q => ∃ Γ δ O k x, Fr K Γ δ σ H O ∧ ev C rd c δ k x ∧
  (∀ d v H', k d → Later Γ H H' → Vr K Γ rd H' O v d → Q v H') ∧ XOk xr W Γ O σ H x
def tA (K : PySem.W.Frag) (xr : XRep) (C : Cfg) (W : WX) (c : CE) : TA := fun σ H Q => ∃ Γ δ O k x, Fr K Γ δ σ H O ∧ evA C c δ k x ∧
  (∀ ss vs H', k ss → Later Γ H H' → AReps K Γ H' O ss vs → Q vs H') ∧ XOk xr W Γ O σ H x
def tT (K : PySem.W.Frag) (xr : XRep) (C : Cfg) (W : WX) (c : CE) : TT := fun σ H Q => ∃ Γ δ O k x, Fr K Γ δ σ H O ∧ evT C c δ k x ∧
  (∀ b H', k b → Later Γ H H' → Q b H') ∧ XOk xr W Γ O σ H x
def tP (K : PySem.W.Frag) (xr : XRep) (C : Cfg) (W : WX) (c : CE) : TO := fun σ H Q => ∃ Γ δ O k x, Fr K Γ δ σ H O ∧ evP C c δ k x ∧
  (∀ i H', k i → Later Γ H H' → Q i H') ∧ XOk xr W Γ O σ H x
/-- a walk over things: it stands as long as nothing of it is changed -/
def WalkOf (K : PySem.W.Frag) (Γ : Gh) (O : Addr → Prop) (H : Hp) (rd : Bool) (J : It) (xs : List D) : Prop := ∃ G Y, Walk J xs.length G Y ∧
  ∀ H1 O1, Ext H H1 O O1 → (rd = true → SameM Γ H H1) → OTr O1 H1 → G H1 ∧ ∀ i v H2, i < xs.length → Y i H1 v H2 → Same H1 H2 ∧ ∃ d, xs[i]? = some d ∧ Rep K H2 O1 v d
def tI (K : PySem.W.Frag) (xr : XRep) (C : Cfg) (W : WX) (rd : Bool) (c : CE) : TI := fun σ H R => ∃ Γ δ O k x, Fr K Γ δ σ H O ∧ evI C rd c δ k x ∧
  (∀ xs J H', k xs → Later Γ H H' → WalkOf K Γ O H' rd J xs → R J H') ∧ XOk xr W Γ O σ H x
end
section
variable {K : PySem.W.Frag} {xr : XRep} {C : Cfg} {W : WX} {Γ : Gh} {δ : Dl} {σ : L2.St} {H H' H1 : Hp} {O : Addr → Prop} {x : KX}
theorem Later.refl (w : Γ.W H) : Later Γ H H := ⟨fun _ _ h _ => h, w⟩
theorem XOk.later (h : XOk xr W Γ O σ H x) (l : Later Γ H H1) : XOk xr W Γ O σ H1 x := fun e cls dd H' a b c => h e cls dd H' a (l.trans b) c
theorem mono_tE {rd : Bool} {c : CE} : Mono (tE K xr C W rd c) := fun σ H Q Q' hq ⟨Γ, δ, O, k, x, h1, h2, h3, h4⟩ => ⟨Γ, δ, O, k, x, h1, h2, fun d v H' a b c => hq _ _ (h3 d v H' a b c), h4⟩
theorem Vr.of (f : ∀ b, Γ.M b → O b) {rd : Bool} {v : V} {d : D} (h : Rep K H O v d) : Vr K Γ rd H O v d := by
  cases rd with
  | true => exact h.r f
  | false => exact h
theorem Vr.r (f : ∀ b, Γ.M b → O b) {rd : Bool} {v : V} {d : D} (h : Vr K Γ rd H O v d) : RRep K Γ H O v d := by
  cases rd with
  | true => exact h
  | false => exact Rep.r f h
theorem AReps.length : ∀ {ss : List Slot} {vs : List V}, AReps K Γ H O ss vs → ss.length = vs.length
  | _, _, .nil => rfl
  | _, _, .cons _ r => by simp [r.length]
theorem AReps.vals : ∀ {ss : List Slot} {vs : List V} {ds : List D}, AReps K Γ H O ss vs → valsD ss = some ds → Reps K H O vs ds
  | _, _, ds, .nil, e => by simp [valsD] at e; subst e; exact .nil
  | s :: ss, _, ds, .cons h r, e => by
    cases s with
    | val d =>
      simp only [valsD, Option.map_eq_some_iff] at e
      obtain ⟨es, e1, rfl⟩ := e
      exact .cons h (r.vals e1)
    | _ => simp [valsD] at e
theorem ARep.later (f : Fr K Γ δ σ H O) (l : Later Γ H H') : ∀ {s : Slot} {v : V}, ARep K Γ H O s v → ARep K Γ H' O s v
  | .val d, v, h => Rep.ext (f.ext l) d v h
  | .st, _, h => h
  | .own _, _, h => h
/-- a test's own form -/
def plainTest : Expr → Bool
  | .UnaryOp .Not _ _ => false
  | .BoolOp _ _ _ => false
  | .IfExp _ _ _ _ => false
  | .Compare _ _ _ _ => false
  | _ => true
theorem test_eq {e : Expr} {env : Env} (h : plainTest e = true) (whole : Sem Value) : isTrue e env whole = (do let v ← whole; standAt e.pos; holding [v] (truthy v)) := by
  cases e <;> first | rfl | (simp [plainTest] at h; done) | skip
  rename_i op a p
  cases op <;> first | rfl | (simp [plainTest] at h)
end
end Tk
namespace Tk
open PySem PySem.Spec PyProof.Rows L2
section
variable {K : PySem.W.Frag} {xr : XRep} {C : Cfg} {W : WX} {Γ : Gh} {δ δ' : Dl} {σ σ' : L2.St} {H H' H1 H2 : Hp} {O : Addr → Prop} {x : KX} {p : Addr}
theorem SameM.ext (f : Fr K Γ δ σ H O) {O' : Addr → Prop} (s : SameM Γ H H') (hn : ∀ b, O' b → O b ∨ H b = none) : Ext H H' O O' :=
  ⟨fun b u h n => s b u h fun z => n (f.m b z), hn, fun b xs h => s b _ h fun z => f.gh.wt H H f.w f.w b z xs h, fun b o u h => s b _ h fun z => f.gh.wf H b f.w z o u h⟩
theorem Fr.set {i : Nat} {v : V} {d : D} (f : Fr K Γ δ σ H O) (hi : i < δ.length) (r : Rep K H O v d) : Fr K Γ (δ.set i (some (.val d))) (σ.set i (some v)) H O where
  gh := f.gh
  len := by simp [f.len]
  same := f.same
  sub := f.sub
  otr := f.otr
  w := f.w
  slot := fun j s h => by
    by_cases e : i = j
    · subst e
      rw [List.getElem?_set_self hi] at h
      cases h
      exact ⟨v, List.getElem?_set_self (by rw [← f.len]; exact hi), r⟩
    · rw [List.getElem?_set_ne e] at h
      obtain ⟨u, e1, r1⟩ := f.slot j s h
      exact ⟨u, by rw [List.getElem?_set_ne e]; exact e1, r1⟩
  dist := fun j k a ds es h1 h2 h3 h4 => by
    by_cases e : i = j
    · subst e
      rw [List.getElem?_set_self hi] at h1
      cases h1
    · by_cases e' : i = k
      · subst e'
        rw [List.getElem?_set_self hi] at h2
        cases h2
      · rw [List.getElem?_set_ne e] at h1 h3
        rw [List.getElem?_set_ne e'] at h2 h4
        exact f.dist j k a ds es h1 h2 h3 h4
theorem wipeD_some {i : Nat} {s : Slot} : ∀ {vs : List Nat}, (wipeD δ vs)[i]? = some (some s) → δ[i]? = some (some s) ∧ i ∉ vs
  | [], h => ⟨h, by simp⟩
  | v :: vs, h => by
    unfold wipeD at h
    by_cases hi : v = i
    · subst hi
      by_cases hv : v < (wipeD δ vs).length
      · rw [List.getElem?_set_self hv] at h; cases h
      · rw [List.getElem?_eq_none (by simpa using hv)] at h; cases h
    · rw [List.getElem?_set_ne hi] at h
      obtain ⟨h1, h2⟩ := wipeD_some h
      exact ⟨h1, by simp only [List.mem_cons, not_or]; exact ⟨fun e => hi e.symm, h2⟩⟩
theorem wipe_get {i : Nat} : ∀ {vs : List Nat}, i ∉ vs → (wipe σ vs)[i]? = σ[i]?
  | [], _ => rfl
  | v :: vs, h => by
    simp only [List.mem_cons, not_or] at h
    unfold wipe
    rw [List.getElem?_set_ne (fun e => h.1 e.symm)]
    exact wipe_get h.2
theorem wipeD_length : ∀ vs : List Nat, (wipeD δ vs).length = δ.length
  | [] => rfl
  | v :: vs => by unfold wipeD; rw [List.length_set, wipeD_length vs]
theorem wipe_set_comm (τ : L2.St) (i : Nat) (v : Option V) : ∀ vs : List Nat, i ∈ vs → wipe (τ.set i v) vs = wipe τ vs
  | [], h => by cases h
  | w :: vs, h => by
    unfold wipe
    by_cases hi : i ∈ vs
    · rw [wipe_set_comm τ i v vs hi]
    · rcases List.mem_cons.mp h with rfl | h'
      · have key : ∀ ws : List Nat, i ∉ ws → wipe (τ.set i v) ws = (wipe τ ws).set i v := by
          intro ws
          induction ws with
          | nil => intro _; rfl
          | cons u ws ih =>
            intro hn
            simp only [List.mem_cons, not_or] at hn
            unfold wipe
            rw [ih hn.2, List.set_comm _ _ hn.1]
        rw [key vs hi, List.set_set]
      · exact absurd h' hi
theorem wipe_wipe (τ : L2.St) : ∀ (us vs : List Nat), (∀ i ∈ us, i ∈ vs) → wipe (wipe τ us) vs = wipe τ vs
  | [], _, _ => rfl
  | u :: us, vs, h => by
    show wipe ((wipe τ us).set u none) vs = _
    rw [wipe_set_comm _ u none vs (h u List.mem_cons_self)]
    exact wipe_wipe τ us vs fun i hi => h i (List.mem_cons_of_mem _ hi)
theorem Fr.wipe (f : Fr K Γ δ σ H O) (vs : List Nat) : Fr K Γ (wipeD δ vs) (L2.wipe σ vs) H O where
  gh := f.gh
  len := by rw [wipeD_length, wipe_length]; exact f.len
  same := f.same
  sub := f.sub
  otr := f.otr
  w := f.w
  slot := fun i s h => by
    obtain ⟨h1, h2⟩ := wipeD_some h
    obtain ⟨v, e, r⟩ := f.slot i s h1
    exact ⟨v, by rw [wipe_get h2]; exact e, r⟩
  dist := fun i j a ds es h1 h2 h3 h4 => by
    obtain ⟨h1', n1⟩ := wipeD_some h1
    obtain ⟨h2', n2⟩ := wipeD_some h2
    rw [wipe_get n1] at h3
    rw [wipe_get n2] at h4
    exact f.dist i j a ds es h1' h2' h3 h4
/-- a list of one's own is laid -/
theorem Fr.alloc {o : HO} (f : Fr K Γ δ σ H O) (hp : H p = none) : Fr K Γ δ σ (upd H p o) (fun b => O b ∨ b = p) := by
  have hs : Same H (upd H p o) := same_upd hp
  have l : Later Γ H (upd H p o) := Later.of_same f.gh f.w hs
  have hx : Ext H (upd H p o) O (fun b => O b ∨ b = p) := ⟨fun b u h _ => hs b u h, fun b h => h.elim .inl fun e => .inr (by rw [e]; exact hp), fun b xs h => hs b _ h, fun b _ _ h => hs b _ h⟩
  refine ⟨f.gh, f.len, fun b u h n => hs b u (f.same b u h n), fun b h => .inl (f.sub b h), fun b h e => ?_, l.w, fun i s h => ?_, f.dist⟩
  · rcases h with h | rfl
    · cases q : H b with
      | none => exact f.otr b h q
      | some u => rw [hs b u q] at e; cases e
    · rw [upd_same] at e; cases e
  · obtain ⟨v, e, r⟩ := f.slot i s h
    refine ⟨v, e, ?_⟩
    cases s with
    | val d => exact Rep.ext hx d v r
    | own ds =>
      obtain ⟨a, vs, e1, e2, e3, e4, e5⟩ := r
      exact ⟨a, vs, e1, hs a _ e2, .inl e3, e4, Reps.ext hx ds vs e5⟩
    | st => exact r
/-- a list of one's own that is no slot's is changed -/
theorem Fr.write {xs ys : List V} (f : Fr K Γ δ σ H O) (hp : H p = some (.lst xs)) (ho : O p) (h0 : Γ.H0 p = none) (hn : ∀ (i : Nat) ds, δ[i]? = some (some (.own ds)) → σ[i]? ≠ some (some (.ref p))) : Fr K Γ δ σ (upd H p (.lst ys)) O ∧ Ext H (upd H p (.lst ys)) O O := by
  have nm : ¬ Γ.M p := f.noM h0
  have keep : ∀ b u, H b = some u → b ≠ p → upd H p (.lst ys) b = some u := fun b u h n => by rw [upd_ne n]; exact h
  have hx : Ext H (upd H p (.lst ys)) O O := by
    refine ⟨fun b u h n => keep b u h (fun z => n (by rw [z]; exact ho)), fun b h => .inl h, fun b zs h => keep b _ h fun z => ?_, fun b o u h => keep b _ h fun z => ?_⟩
    · rw [z, hp] at h; cases h
    · rw [z, hp] at h; cases h
  refine ⟨⟨f.gh, f.len, fun b u h n => keep b u (f.same b u h n) (fun z => by rw [z, h0] at h; cases h), f.sub, fun b h e => ?_, ?_, fun i s h => ?_, f.dist⟩, hx⟩
  · by_cases z : b = p
    · subst z; rw [upd_same] at e; cases e
    · rw [upd_ne z] at e; exact f.otr b h e
  · exact f.gh.ws H _ (fun b hb => upd_ne fun z => nm (by rw [← z]; exact hb)) f.w
  · obtain ⟨v, e, r⟩ := f.slot i s h
    refine ⟨v, e, ?_⟩
    cases s with
    | val d => exact Rep.ext hx d v r
    | own ds =>
      obtain ⟨a, vs, e1, e2, e3, e4, e5⟩ := r
      subst e1
      have na : a ≠ p := fun z => hn i ds h (by rw [e, z])
      exact ⟨a, vs, rfl, keep a _ e2 na, e3, e4, Reps.ext hx ds vs e5⟩
    | st => exact r
end
/-! ### targets -/
def gT (K : PySem.W.Frag) (t : Tg) : TG := fun v σ H Q => ∃ Γ δ O d k, Fr K Γ δ σ H O ∧ bindT t d δ k ∧ Rep K H O v d ∧
  ∀ δ' σ', k δ' → Fr K Γ δ' σ' H O → (∀ vs : List Nat, (∀ i ∈ tgs t, i ∈ vs) → wipe σ' vs = wipe σ vs) → Q σ' H
def gTs (K : PySem.W.Frag) (t : Tg) : TGs := fun vs σ H Q => ∃ Γ δ O ds k, Fr K Γ δ σ H O ∧ bindTs t ds δ k ∧ Reps K H O vs ds ∧
  ∀ δ' σ', k δ' → Fr K Γ δ' σ' H O → (∀ vs : List Nat, (∀ i ∈ tgs t, i ∈ vs) → wipe σ' vs = wipe σ vs) → Q σ' H
theorem assign_cons {e : Expr} {es : List Expr} {env : Env} (h : notStar e = true) : assignEach (e :: es) env = (false, assign e env) :: assignEach es env := by
  cases e <;> first | rfl | simp [notStar] at h
section
variable {X : Cx} {N : List Str} {sc : Scope} {fn : Str → Bool}
theorem chkTs_stars : ∀ {t : Tg} {es : List Expr}, chkTs N sc fn t es = true → notStars es = true
  | .nil, [], _ => rfl
  | .cons t u, e :: es, h => by
    simp only [chkTs, Bool.and_eq_true] at h
    simp only [notStars, List.all_cons, Bool.and_eq_true]
    exact ⟨h.1.1, chkTs_stars h.2⟩
  | .nil, _ :: _, h => by simp [chkTs] at h
  | .cons _ _, [], h => by simp [chkTs] at h
  | .name _, _, h => by simp [chkTs] at h
  | .tup _, _, h => by simp [chkTs] at h
theorem assign_len {env : Env} : ∀ {es : List Expr}, notStars es = true → (assignEach es env).length = es.length ∧ (assignEach es env).findIdx? (·.1) = none
  | [], _ => ⟨rfl, rfl⟩
  | e :: es, h => by
    simp only [notStars, List.all_cons, Bool.and_eq_true] at h
    obtain ⟨h1, h2⟩ := assign_len (env := env) (es := es) h.2
    rw [assign_cons h.1]
    refine ⟨by simp [h1], ?_⟩
    rw [List.findIdx?_cons]
    simp [h2]
mutual
theorem bindT_ex : ∀ (t : Tg) (d : D) (δ : Dl) (k : Dl → Prop), bindT t d δ k → ∃ δ', k δ'
  | .name i, d, δ, k, h => ⟨_, h.2⟩
  | .tup t, .tuple ds, δ, k, h => bindTs_ex t ds δ k (by simpa [bindT] using h)
  | .tup t, .none, δ, k, h => by simp [bindT] at h
  | .tup t, .bool _, δ, k, h => by simp [bindT] at h
  | .tup t, .int _, δ, k, h => by simp [bindT] at h
  | .tup t, .str _, δ, k, h => by simp [bindT] at h
  | .tup t, .list _, δ, k, h => by simp [bindT] at h
  | .tup t, .dict _, δ, k, h => by simp [bindT] at h
  | .nil, _, _, _, h => by simp [bindT] at h
  | .cons _ _, _, _, _, h => by simp [bindT] at h
theorem bindTs_ex : ∀ (t : Tg) (ds : List D) (δ : Dl) (k : Dl → Prop), bindTs t ds δ k → ∃ δ', k δ'
  | .nil, [], δ, k, h => ⟨δ, by simpa [bindTs] using h⟩
  | .nil, _ :: _, _, _, h => by simp [bindTs] at h
  | .cons t u, d :: ds, δ, k, h => by
    simp only [bindTs] at h
    obtain ⟨δ', h'⟩ := bindT_ex t d δ _ h
    exact bindTs_ex u ds δ' k h'
  | .cons _ _, [], _, _, h => by simp [bindTs] at h
  | .name _, _, _, _, h => by simp [bindTs] at h
  | .tup _, _, _, _, h => by simp [bindTs] at h
end
theorem bindTs_length : ∀ {t : Tg} {es : List Expr} {ds : List D} {δ : Dl} {k : Dl → Prop}, chkTs N sc fn t es = true → bindTs t ds δ k → ds.length = es.length
  | .nil, [], [], _, _, _, _ => rfl
  | .nil, [], _ :: _, _, _, _, h => by simp [bindTs] at h
  | .nil, _ :: _, _, _, _, h, _ => by simp [chkTs] at h
  | .cons t u, e :: es, d :: ds, δ, k, hc, h => by
    simp only [bindTs] at h
    obtain ⟨δ', h'⟩ := bindT_ex t d δ _ h
    simp only [chkTs, Bool.and_eq_true] at hc
    simp [bindTs_length hc.2 h']
  | .cons _ _, _ :: _, [], _, _, _, h => by simp [bindTs] at h
  | .cons _ _, [], _, _, _, h, _ => by simp [chkTs] at h
  | .name _, _, _, _, _, h, _ => by simp [chkTs] at h
  | .tup _, _, _, _, _, h, _ => by simp [chkTs] at h
mutual
theorem sTg (hN : X.N = N) (nd : X.N.Nodup) (hsc : X.env.scope = sc) (hfn : X.fn = fn) (hc : X.calm = true) : ∀ (t : Tg) (e : Expr), chkT N sc fn t e = true → PG X e (gT X.K t)
  | .name i, e, h => by
    cases e with
    | Name y p =>
      simp only [chkT, Bool.and_eq_true, Bool.or_eq_true, decide_eq_true_eq] at h
      obtain ⟨h1, h2⟩ := h
      have hl : Loc X.env.scope y := by
        rw [hsc]
        rcases h2 with h2 | h2
        · exact .inl h2
        · exact .inr h2.1
      have hf : X.fn y = true ∨ X.env.scope.names.lookup y = some .local := by
        rw [hsc, hfn]
        rcases h2 with h2 | h2
        · exact .inr h2
        · exact .inl h2.2
      have P := pg_name (X := X) (i := i) (pos := p) nd (by rw [hN]; exact h1) hl hf
      refine ⟨fun pins s σ H v u Q I r q => P.run pins s σ H v u Q I r ?_⟩
      obtain ⟨Γ, δ, O, d, k, fr, ⟨hi, hk⟩, rp, q⟩ := q
      exact q _ _ hk (fr.set hi rp) fun vs hv => wipe_set_comm σ i (some v) vs (hv i (by simp [tgs]))
    | _ => simp [chkT] at h
  | .tup t, e, h => by
    cases e with
    | Tuple es k p =>
      simp only [chkT] at h
      have P := sTgs hN nd hsc hfn hc t es h
      obtain ⟨l1, l2⟩ := assign_len (env := X.env) (chkTs_stars h)
      have P2 := pg_tup (X := X) (k := k) (pos := p) hc P l1 l2
      refine ⟨fun pins s σ H v u Q I r q => P2.run pins s σ H v u Q I r ?_⟩
      obtain ⟨Γ, δ, O, d, k, fr, hb, rp, q⟩ := q
      cases d with
      | tuple ds =>
        cases rp with
        | tup h1 h2 =>
          simp only [bindT] at hb
          refine ⟨_, _, rfl, h1, ?_, Γ, δ, O, ds, k, fr, hb, h2, q⟩
          rw [h2.length]
          exact bindTs_length h hb
      | _ => simp [bindT] at hb
    | _ => simp [chkT] at h
  | .nil, e, h => by cases e <;> simp [chkT] at h
  | .cons _ _, e, h => by cases e <;> simp [chkT] at h
theorem sTgs (hN : X.N = N) (nd : X.N.Nodup) (hsc : X.env.scope = sc) (hfn : X.fn = fn) (hc : X.calm = true) : ∀ (t : Tg) (es : List Expr), chkTs N sc fn t es = true → PGs X es (gTs X.K t)
  | .nil, [], h => by
    refine ⟨fun pins s σ H vs us Q I r q => pgs_nil.run pins s σ H vs us Q I r ?_⟩
    obtain ⟨Γ, δ, O, ds, k, fr, hb, rp, q⟩ := q
    cases ds with
    | nil =>
      simp only [bindTs] at hb
      cases rp
      exact ⟨rfl, q δ σ hb fr fun _ _ => rfl⟩
    | cons _ _ => simp [bindTs] at hb
  | .cons t u, e :: es, h => by
    simp only [chkTs, Bool.and_eq_true] at h
    have P1 := sTg hN nd hsc hfn hc t e h.1.2
    have P2 := sTgs hN nd hsc hfn hc u es h.2
    refine ⟨fun pins s σ H vs us Q I r q => (pgs_cons P1 P2 (by rw [assign_cons h.1.1]; rfl)).run pins s σ H vs us Q I r ?_⟩
    obtain ⟨Γ, δ, O, ds, k, fr, hb, rp, q⟩ := q
    cases ds with
    | nil => simp [bindTs] at hb
    | cons d ds =>
      simp only [bindTs] at hb
      cases rp with
      | cons r1 r2 =>
        refine ⟨_, _, rfl, Γ, δ, O, d, _, fr, hb, r1, fun δ' σ' hk fr' wp => ⟨Γ, δ', O, ds, k, fr', hk, r2, fun δ2 σ2 hk2 fr2 wp2 => q δ2 σ2 hk2 fr2 fun vs hv => ?_⟩⟩
        rw [wp2 vs fun i hi => hv i (by simp [tgs, hi]), wp vs fun i hi => hv i (by simp [tgs, hi])]
  | .nil, _ :: _, h => by simp [chkTs] at h
  | .cons _ _, [], h => by simp [chkTs] at h
  | .name _, _, h => by simp [chkTs] at h
  | .tup _, _, h => by simp [chkTs] at h
end
end
end Tk
namespace Tk
open PySem PySem.Spec PyProof.Rows L2
section
variable {X : Cx} {tg e : Expr} {te : TE}
def iAny (K : PySem.W.Frag) (te : TE) : TI := fun σ H R => te σ H fun v H1 => (∃ a xs, v = .ref a ∧ SqL K H1 a xs ∧ R (Itl K a) H1) ∨ (∃ a xs, v = .ref a ∧ SqT K H1 a xs ∧ R (Itt K a) H1) ∨ ∃ z, v = .str z ∧ R (Its z) H1
theorem pi_any (hl : PE X e te) : PI X tg e (iAny X.K te) := by
  refine ⟨fun pins s σ H R I h => ?_⟩
  refine thn (hl.run pins s σ H _ I h) fun v s1 ⟨x, H1, I1, r1, q1⟩ => ?_
  rcases q1 with ⟨a, xs, rfl, hq, q⟩ | ⟨a, xs, rfl, hq, q⟩ | ⟨z, rfl, q⟩
  · cases r1
    obtain ⟨its, rv, p, hz⟩ := I1.list hq
    refine wpAny_pyIter_list p.isList ?_
    refine ⟨s1.heap.objs.size, [s1.heap.objs.size], _, _, H1, rfl, I1.kept (t' := s1.toks) fun b o e => Heap.get?_push_of_some _ e, turn_list a _, ⟨_, Heap.get?_push_size _ rfl, rfl, rfl⟩, fun b hb => ?_, q⟩
    have e : b = s1.heap.objs.size := by simpa using hb
    subst e
    exact I1.fpOk (Nat.le_refl _) (I1.hok.fresh (Nat.le_refl _))
  · cases r1
    obtain ⟨its, rv, p, hz⟩ := I1.tuple hq
    refine wpAny_pyIter_tuple (show s1.heap.IsTuple a its.toArray from p) ?_
    refine ⟨s1.heap.objs.size, [s1.heap.objs.size], _, _, H1, rfl, I1.kept (t' := s1.toks) fun b o e => Heap.get?_push_of_some _ e, turn_tuple a _, ⟨_, Heap.get?_push_size _ rfl, rfl, rfl⟩, fun b hb => ?_, q⟩
    have e : b = s1.heap.objs.size := by simpa using hb
    subst e
    exact I1.fpOk (Nat.le_refl _) (I1.hok.fresh (Nat.le_refl _))
  · obtain ⟨t, rfl⟩ := r1
    cases ha : z.cps.all (· < 128)
    · exact wpAny_pyIter_wide ha (pi_one (tk := s1.toks) I1 _ (turn_str _ z t "str_iterator" (.inr rfl)) ⟨_, Heap.get?_push_size _ rfl, rfl, rfl⟩ q)
    · exact wpAny_pyIter_ascii ha (pi_one (tk := s1.toks) I1 _ (turn_str _ z t "str_ascii_iterator" (.inl rfl)) ⟨_, Heap.get?_push_size _ rfl, rfl, rfl⟩ q)
end
section
variable {K : PySem.W.Frag} {Γ : Gh} {H : Hp} {O : Addr → Prop} {rd : Bool} {a b : Addr} {vs us : List V} {ds es : List D}
theorem SqO.extM {H1 : Hp} {O1 : Addr → Prop} (x : Ext H H1 O O1) (s : rd = true → SameM Γ H H1) {v : V} (hm : ∀ b, Γ.M b → O b) (h : rd = true ∧ SqO K H Γ.M a vs ∨ rd = false ∧ SqO K H O a vs) : SqL K H1 a vs := by
  rcases h with ⟨e, h⟩ | ⟨_, h⟩
  · rcases h with ⟨h, n⟩ | h
    · rcases h with h | ⟨o, h⟩
      · exact .inl (.inl (s e _ _ h n))
      · exact .inl (.inr ⟨o, s e _ _ h n⟩)
    · exact .inr h
  · exact (h.ext x).sq
theorem Vr.lst (h : Vr K Γ rd H O (.ref a) (.list ds)) : ∃ vs, (rd = true ∧ SqO K H Γ.M a vs ∨ rd = false ∧ SqO K H O a vs) ∧ Reps K H O vs ds := by
  cases rd with
  | true =>
    obtain ⟨b, xs, e, h1, h2⟩ := h
    cases e
    exact ⟨xs, .inl ⟨rfl, h1⟩, h2⟩
  | false =>
    cases h with
    | lst h1 h2 => exact ⟨_, .inr ⟨rfl, h1⟩, h2⟩
theorem Vr.not_list {v : V} {d : D} (h : Vr K Γ rd H O v d) (hd : ∀ ds, d ≠ .list ds) : Rep K H O v d := by
  cases rd with
  | false => exact h
  | true => cases d <;> first | exact h | exact absurd rfl (hd _)
theorem walk_of_list (hm : ∀ b, Γ.M b → O b) (h : rd = true ∧ SqO K H Γ.M a vs ∨ rd = false ∧ SqO K H O a vs) (r : Reps K H O vs ds) : WalkOf K Γ O H rd (Itl K a) ds := by
  have hl := r.length
  refine ⟨fun H => SqL K H a vs, YAt vs, by rw [← hl]; exact walk_list, fun H1 O1 x s ho => ⟨SqO.extM (v := .non) x s hm h, fun i v H2 hi y => ?_⟩⟩
  obtain ⟨rfl, y⟩ := y
  obtain ⟨d, e, rp⟩ := r.get y
  exact ⟨Same.refl _, d, e, Rep.ext x d v rp⟩
theorem walk_of_tup (h : SqT K H a vs) (r : Reps K H O vs ds) : WalkOf K Γ O H rd (Itt K a) ds := by
  have hl := r.length
  refine ⟨fun H => SqT K H a vs, YAt vs, by rw [← hl]; exact walk_tup, fun H1 O1 x s ho => ⟨SqT.ext x h, fun i v H2 hi y => ?_⟩⟩
  obtain ⟨rfl, y⟩ := y
  obtain ⟨d, e, rp⟩ := r.get y
  exact ⟨Same.refl _, d, e, Rep.ext x d v rp⟩
theorem walk_of_str {z : Str} : WalkOf K Γ O H rd (Its z) (chars z) := by
  have hl : (chars z).length = z.cps.size := by simp [chars]
  refine ⟨fun _ => True, _, by rw [hl]; exact walk_str, fun H1 O1 x s ho => ⟨trivial, fun i v H2 hi y => ?_⟩⟩
  obtain ⟨rfl, c, ec, rfl⟩ := y
  refine ⟨Same.refl _, .str ⟨#[c]⟩, ?_, .str _ (by show 1 ≤ sizeLine; rw [sizeLine_eq]; decide)⟩
  unfold chars
  rw [List.getElem?_map, Array.getElem?_toList, ec]
  rfl
theorem walk_of_range {lo hi : Int} : WalkOf K Γ O H rd (Itr lo (hi - lo).toNat) (rangeD lo hi) := by
  have hl : (rangeD lo hi).length = (hi - lo).toNat := by simp [rangeD]
  refine ⟨fun _ => True, _, by rw [hl]; exact walk_range, fun H1 O1 x s ho => ⟨trivial, fun i v H2 hi' y => ?_⟩⟩
  obtain ⟨rfl, rfl⟩ := y
  refine ⟨Same.refl _, .int (lo + (i : Nat)), ?_, .int _⟩
  rw [hl] at hi'
  unfold rangeD
  rw [List.getElem?_map, List.getElem?_range hi']
  rfl
theorem pair_new {H1 H2 : Hp} {O1 : Addr → Prop} {T : Addr} {v u : V} {d f : D} (hT : H1 T = none) (e : H2 = upd H1 T (.tup [v, u])) (r1 : Rep K H1 O1 v d) (r2 : Rep K H1 O1 u f) : Same H1 H2 ∧ Rep K H2 O1 (.ref T) (.tuple [d, f]) := by
  subst e
  exact ⟨same_upd hT, mkT hT (.cons r1 (.cons r2 .nil))⟩
theorem zip_at {xs ys : List D} {i : Nat} {d f : D} (h1 : xs[i]? = some d) (h2 : ys[i]? = some f) : (zipD xs ys)[i]? = some (.tuple [d, f]) := by
  unfold zipD
  rw [List.getElem?_map]
  have : (xs.zip ys)[i]? = some (d, f) := by rw [List.getElem?_zip_eq_some]; exact ⟨h1, h2⟩
  rw [this]; rfl
theorem walk_of_zip (hm : ∀ b, Γ.M b → O b) (h : rd = true ∧ SqO K H Γ.M a vs ∨ rd = false ∧ SqO K H O a vs) (h' : rd = true ∧ SqO K H Γ.M b us ∨ rd = false ∧ SqO K H O b us) (r : Reps K H O vs ds) (r' : Reps K H O us es) : WalkOf K Γ O H rd (Itz K a b) (zipD ds es) := by
  have hl : (zipD ds es).length = min vs.length us.length := by simp [zipD, r.length, r'.length]
  refine ⟨fun H => SqL K H a vs ∧ SqL K H b us, YPair (fun i => vs[i]?) (fun i => us[i]?), walk_zip hl, fun H1 O1 x s ho => ⟨⟨SqO.extM (v := .non) x s hm h, SqO.extM (v := .non) x s hm h'⟩, fun i v H2 hi y => ?_⟩⟩
  obtain ⟨T, w, z, rfl, hT, eH, e1, e2⟩ := y
  obtain ⟨d, ed, rd'⟩ := r.get e1
  obtain ⟨f, ef, rf⟩ := r'.get e2
  obtain ⟨s1, s2⟩ := pair_new hT eH (Rep.ext x d w rd') (Rep.ext x f z rf)
  exact ⟨s1, _, zip_at ed ef, s2⟩
theorem walk_zipT' {xs ys : List V} {n : Nat} (hn : n = min xs.length ys.length) : Walk (RZ.ItzT K a b) n (fun H => SqT K H a xs ∧ SqT K H b ys) (YPair (fun i => xs[i]?) (fun i => ys[i]?)) := by
  subst hn
  refine ⟨fun i _ hi q => ?_, fun _ q => ⟨xs, ys, q.1, q.2, by omega⟩, fun i H v H' _ q y => ?_⟩
  · have h1 : i < xs.length := by omega
    have h2 : i < ys.length := by omega
    exact ⟨xs, ys, xs[i], ys[i], q.1, q.2, by simp [h1], by simp [h2]⟩
  · obtain ⟨T, x, z, h1, h2, h3, h4, h5⟩ := y
    exact ⟨T, x, z, h1, h2, h3, h4 xs q.1, h5 ys q.2⟩
theorem walk_of_zipT (h : SqT K H a vs) (h' : SqT K H b us) (r : Reps K H O vs ds) (r' : Reps K H O us es) : WalkOf K Γ O H rd (RZ.ItzT K a b) (zipD ds es) := by
  have hl : (zipD ds es).length = min vs.length us.length := by simp [zipD, r.length, r'.length]
  refine ⟨fun H => SqT K H a vs ∧ SqT K H b us, YPair (fun i => vs[i]?) (fun i => us[i]?), walk_zipT' hl, fun H1 O1 x s ho => ⟨⟨SqT.ext x h, SqT.ext x h'⟩, fun i v H2 hi y => ?_⟩⟩
  obtain ⟨T, w, z, rfl, hT, eH, e1, e2⟩ := y
  obtain ⟨d, ed, rd'⟩ := r.get e1
  obtain ⟨f, ef, rf⟩ := r'.get e2
  obtain ⟨s1, s2⟩ := pair_new hT eH (Rep.ext x d w rd') (Rep.ext x f z rf)
  exact ⟨s1, _, zip_at ed ef, s2⟩
theorem walk_of_enum (hm : ∀ b, Γ.M b → O b) (h : rd = true ∧ SqO K H Γ.M a vs ∨ rd = false ∧ SqO K H O a vs) (r : Reps K H O vs ds) : WalkOf K Γ O H rd (Ite K a) (enumD ds) := by
  have hl : (enumD ds).length = vs.length := by simp [enumD, r.length]
  refine ⟨fun H => SqL K H a vs, YPair (fun i => some (.int (i : Nat))) (fun i => vs[i]?), by rw [hl]; exact walk_enum, fun H1 O1 x s ho => ⟨SqO.extM (v := .non) x s hm h, fun i v H2 hi y => ?_⟩⟩
  obtain ⟨T, w, z, rfl, hT, eH, e1, e2⟩ := y
  cases e1
  obtain ⟨f, ef, rf⟩ := r.get e2
  obtain ⟨s1, s2⟩ := pair_new hT eH (Rep.int (i : Nat)) (Rep.ext x f z rf)
  refine ⟨s1, _, ?_, s2⟩
  unfold enumD
  rw [List.getElem?_map]
  have : ds.zipIdx[i]? = some (f, i) := by rw [List.getElem?_zipIdx]; simp [ef]
  rw [this]; rfl
end
end Tk
namespace Tk
open PySem PySem.Spec PyProof.Rows L2
section
variable {F : FT} {N : List Str} {C : Cfg} {xr : XRep} {n : Nat}
theorem const_ok {X : Cx} {d : D} {c : Const} {k : Nat} {p : Pos} (h : constIs d c = true) : ∃ v, PE X (.Constant c k p) (tC v) ∧ ∀ K H O, Rep K H O v d := by
  cases d <;> cases c <;> simp [constIs] at h
  · exact ⟨.non, pe_non, fun _ _ _ => .non⟩
  · subst h; exact ⟨.bl _, pe_bl, fun _ _ _ => .bl _⟩
  · subst h; exact ⟨.int _, pe_int, fun _ _ _ => .int _⟩
  · obtain ⟨rfl, h⟩ := h; exact ⟨.str _, pe_str, fun _ _ _ => .str _ h⟩
theorem Here.blk {X : Cx} {sc scope : Scope} {W : WX} (h : Here X F N sc C xr n W) (s : Shared) (H : Hp) (A : Addr) (cl : List (Str × Addr)) (fp : List Addr) :
    Here (X.blk s H scope (compEnvC scope cl A X.env) fp) F N (relS scope sc) C xr n (fun _ _ _ _ => False) where
  site := ⟨by show relS scope X.env.scope = _; rw [h.site.sc], h.site.calm, h.site.units, h.site.guards, h.site.blt⟩
  stat := ⟨h.stat.glob, h.stat.xm, h.stat.lens, h.stat.fns⟩
  room := h.room
  hN := h.hN
  nd := h.nd
  tk := takes0
theorem plain_dbg {x : Str} (h : plainName x = true) : (x == ("__debug__" : Str)) = false ∧ (x == ("__classdict__" : Str)) = false := by
  simpa [plainName, Bool.and_eq_true, Bool.not_eq_true'] using h
/-- the new list of a comprehension -/
theorem comp_core {K : PySem.W.Frag} {W : WX} {own : List Nat} {t : Tg} {it e ifs : CE} {σ : L2.St} {H : Hp} {Q : VK} {Γ : Gh} {δ : Dl} {O : Addr → Prop} {k : D → Prop} {x : KX} (ht : ∀ i ∈ tgs t, i ∈ own) (fr : Fr K Γ δ σ H O)
    (hev : ev C false (.comp own e t it ifs) δ k x) (hx : XOk xr W Γ O σ H x)
    (hq : ∀ acc p vs H', k (.list acc) → Later Γ H H' → H p = none → H' p = some (.lst vs) → Reps K H' (fun b => O b ∨ b = p) vs acc → OTr O H' → ¬ O p → Q (.ref p) H') :
    tLc (tI K xr C W true it) (gT K t) (tT K xr C (fun _ _ _ _ => False) ifs) (tE K xr C (fun _ _ _ _ => False) false e) own σ H Q := by
  rw [ev_comp] at hev
  refine ⟨Γ, δ, O, _, x, fr, hev, fun xs J H1 hk l wk => fun p hp => ?_, hx⟩
  obtain ⟨G, Y, w, hw⟩ := wk
  have f1 : Fr K Γ δ σ H1 O := fr.later l
  have nOp : ¬ O p := fun z => f1.otr p z hp
  have h0p : Γ.H0 p = none := by
    cases q : Γ.H0 p with
    | none => rfl
    | some u =>
      by_cases m : Γ.M p
      · exact absurd hp (f1.gh.wm H1 f1.w p m)
      · rw [f1.same p u q m] at hp; cases hp
  have nslot : ∀ (i : Nat) ds, δ[i]? = some (some (.own ds)) → σ[i]? ≠ some (some (.ref p)) := fun i ds e1 e2 => by
    obtain ⟨v, e3, a, vs, e4, e5, _⟩ := f1.slot i _ e1
    rw [e2] at e3
    cases e3
    cases e4
    rw [hp] at e5; cases e5
  have nslotW : ∀ (δ' : Dl) (σ' : L2.St), True := fun _ _ => trivial
  refine lc_it (Qd := fun H2 => Q (.ref p) H2) w (fun i H2 => ∃ acc vs, loopC (compB C own e t ifs δ) (xs.drop i) acc (fun acc => k (.list acc)) ∧ Fr K Γ δ σ H2 (fun b => O b ∨ b = p) ∧ H2 p = some (.lst vs) ∧ Reps K H2 (fun b => O b ∨ b = p) vs acc ∧ SameM Γ H1 H2) ?_ ?_ ?_ ?_
  · exact ⟨[], [], hk, f1.alloc hp, upd_same, .nil, fun b u h _ => same_upd hp b u h⟩
  · rintro i H2 _ ⟨acc, vs, _, f2, _, _, s2⟩
    exact (hw H2 _ (SameM.ext f1 s2 fun b h => h.elim .inl fun e => .inr (by rw [e]; exact hp)) (fun _ => s2) f2.otr).1
  · rintro i y H2 H3 hi ⟨acc, vs, hl, f2, e2, r2, s2⟩ hy
    obtain ⟨s3, d, ed, rd⟩ := (hw H2 _ (SameM.ext f1 s2 fun b h => h.elim .inl fun e => .inr (by rw [e]; exact hp)) (fun _ => s2) f2.otr).2 i y H3 hi hy
    have hdrop : xs.drop i = d :: xs.drop (i + 1) := by
      obtain ⟨h', e'⟩ := List.getElem?_eq_some_iff.mp ed
      rw [List.drop_eq_getElem_cons h', e']
    rw [hdrop] at hl
    simp only [loopC, compB] at hl
    have l3 : Later Γ H2 H3 := Later.of_same f2.gh f2.w s3
    have f3 : Fr K Γ δ σ H3 (fun b => O b ∨ b = p) := f2.later l3
    refine ⟨Γ, wipeD δ own, _, d, _, f3.wipe own, hl, rd, fun δ' σ' hk' f4 wp => ⟨?_, ?_⟩⟩
    · rw [wp own ht, wipe_wipe σ own own fun _ h => h]
    · refine ⟨Γ, δ', _, _, NX, f4, hk', fun b H5 hb l5 => ?_, fun _ _ _ _ z => z.elim⟩
      have f5 : Fr K Γ δ σ H5 (fun b => O b ∨ b = p) := f3.later l5
      have nm : ¬ Γ.M p := f1.noM h0p
      have e5 : H5 p = some (.lst vs) := l5.same p _ (s3 p _ e2) nm
      have r5 : Reps K H5 (fun b => O b ∨ b = p) vs acc := Reps.ext (f2.ext (l3.trans l5)) acc vs r2
      have s5 : SameM Γ H1 H5 := fun c u h m => l5.same c u (s3 c u (s2 c u h m)) m
      cases b with
      | false => exact ⟨acc, vs, hb, f5, e5, r5, s5⟩
      | true =>
        refine ⟨Γ, δ', _, _, NX, f4.later l5, hb, fun d' y' H6 hk6 l6 rp => ?_, fun _ _ _ _ z => z.elim⟩
        have f6 : Fr K Γ δ σ H6 (fun b => O b ∨ b = p) := f5.later l6
        have e6 : H6 p = some (.lst vs) := l6.same p _ e5 nm
        have r6 : Reps K H6 (fun b => O b ∨ b = p) vs acc := Reps.ext (f5.ext l6) acc vs r5
        obtain ⟨f7, x7⟩ := f6.write (ys := vs ++ [y']) e6 (.inr rfl) h0p nslot
        refine ⟨vs, e6, by rw [r6.length]; exact hk6.1, acc ++ [d'], vs ++ [y'], hk6.2, f7, upd_same, (Reps.ext x7 acc vs r6).append (.cons (Rep.ext x7 d' y' rp) .nil), fun c u h m => ?_⟩
        rw [upd_ne (fun z => by rw [z, hp] at h; cases h)]
        exact l6.same c u (s5 c u h m) m
  · rintro H2 ⟨acc, vs, hl, f2, e2, r2, s2⟩
    have : xs.drop xs.length = [] := by simp
    rw [this] at hl
    simp only [loopC] at hl
    have hpH : H p = none := by
      cases q : H p with
      | none => rfl
      | some u =>
        by_cases m : Γ.M p
        · exact absurd hp (f1.gh.wm H1 f1.w p m)
        · rw [l.same p u q m] at hp; cases hp
    refine hq acc p vs H2 hl (l.trans ⟨s2, f2.w⟩) hpH e2 r2 (fun b h => f2.otr b (.inl h)) nOp
end
end Tk
namespace Tk
open PySem PySem.Spec PyProof.Rows L2
section
variable {F : FT} {N : List Str} {C : Cfg} {xr : XRep} {n : Nat}
/-- from values of the parts to a value -/
theorem fin_same {K : PySem.W.Frag} {Γ : Gh} {δ : Dl} {σ : L2.St} {H H1 : Hp} {O : Addr → Prop} {rd : Bool} {k : D → Prop} {Q : VK} {r : D} (fr : Fr K Γ δ σ H O) (l : Later Γ H H1) (hk : k r)
    (q : ∀ d v H', k d → Later Γ H H' → Vr K Γ rd H' O v d → Q v H') : ∀ v' H', Same H1 H' → Rep K H' O v' r → Q v' H' :=
  fun v' H' s rp => q r v' H' hk (l.trans (Later.of_same fr.gh l.w s)) (Vr.of fr.m rp)
theorem op1T_ok {X : Cx} {sc : Scope} {e ea : Expr} {ta : TE} (S : Site X sc) {o : Op1} (h : chkOp1 sc o e = some ea) (ha : PE X ea ta) (ma : Mono ta) : PT X e (tTest (tUn (R1 X.K o) ta)) := by
  by_cases hp : plainTest e = true
  · exact pt_val (op1_ok S h ha ma) (test_eq hp)
  · unfold chkOp1 at h
    split at h
    · cases h
      refine ⟨fun pins s σ H Q I h => ?_⟩
      refine wpAny_isTrue_Compare1 (thn (ha.run pins s σ H _ I h) fun v s1 ⟨x, H1, I1, r1, Γ, O, d, r, ho, hr, hs, q⟩ => ?_) rfl
      simp only [sem1, Option.some.injEq] at hs
      subst hs
      refine Constant_none (is_none_gen ?_)
      obtain ⟨b, e1, q⟩ := q (.bl _) H1 (Same.refl _) (.bl _)
      cases e1
      have e2 : (v == Value.none) = isNoneD d := by rw [r1.none_iff, hr.isN]
      rw [e2]
      exact wpAny_truthy_bool ⟨H1, I1, q⟩
    · cases h
      refine ⟨fun pins s σ H Q I h => ?_⟩
      refine wpAny_isTrue_Compare1 (thn (ha.run pins s σ H _ I h) fun v s1 ⟨x, H1, I1, r1, Γ, O, d, r, ho, hr, hs, q⟩ => ?_) rfl
      simp only [sem1, Option.some.injEq] at hs
      subst hs
      refine Constant_none (isnot_none_gen ?_)
      obtain ⟨b, e1, q⟩ := q (.bl _) H1 (Same.refl _) (.bl _)
      cases e1
      have e2 : (!(v == Value.none)) = !isNoneD d := by rw [r1.none_iff, hr.isN]
      rw [e2]
      exact wpAny_truthy_bool ⟨H1, I1, q⟩
    all_goals first | (cases h; done) | (exact absurd rfl hp) | (split at h <;> first | (cases h; done) | (exact absurd rfl hp))
theorem op2T_ok {X : Cx} {sc : Scope} {e ea eb : Expr} {ta tb : TE} (S : Site X sc) {o : Op2} (h : chkOp2 sc o e = some (ea, eb)) (ha : PE X ea ta) (hb : PE X eb tb) (ma : Mono ta) (mb : Mono tb) : PT X e (tTest (tOp2 X.K o ta tb)) := by
  by_cases hp : plainTest e = true
  · exact pt_val (op2_ok S h ha hb ma mb) (test_eq hp)
  · have cmp : ∀ {op : CmpOp} {a b : Expr} {pos : Pos}, cmpOf o = some op → e = .Compare a [op] [b] pos → (if notSet b = true then some (a, b) else none) = some (ea, eb) → PT X e (tTest (tOp2 X.K o ta tb)) := fun {op a b pos} hc he h => by
      split at h
      · rename_i hn
        cases h
        subst he
        exact PT.imp (pt_cmpR (pos := pos) (cmp_ok S hc) ha hb (marks_ok hn)) fun σ H Q q => ma σ H _ _ (fun v H1 z => z.2) q
      · cases h
    unfold chkOp2 at h
    split at h
    all_goals first | (exact absurd rfl hp) | (exact cmp rfl rfl h) | (cases h; done)
theorem evA_cons {a r : CE} {δ : Dl} {k : List Slot → Prop} {x : KX} (ha : ∀ i, a ≠ .var i) : evA C (.cons a r) δ k x = ev C false a δ (fun d => evA C r δ (fun ss => k (.val d :: ss)) x) x := by
  cases a <;> first | (simp only [evA]; done) | exact absurd rfl (ha _)
theorem sV {X : Cx} {sc : Scope} {W : WX} (h : Here X F N sc C xr n W) (i : Nat) (e : Expr) (hc : chkE F N (.var i) sc e = true) : PE X e (tVar i) := by
  cases e with
  | Name y p =>
    simp only [chkE, Bool.and_eq_true, decide_eq_true_eq] at hc
    obtain ⟨⟨h1, h2⟩, h3⟩ := hc
    have hv : Vis X.env.scope y := by
      rw [h.site.sc]
      unfold vis at h2
      split at h2
      · exact .inl (by assumption)
      · exact .inr (.inl (by assumption))
      · exact .inr (.inr (by assumption))
      · cases h2
    exact pe_var (i := i) (pos := p) (by rw [h.hN]; exact h1) hv (plain_dbg h3).1 (plain_dbg h3).2
  | _ => simp [chkE] at hc
mutual
theorem sE {X : Cx} {sc : Scope} {W : WX} (h : Here X F N sc C xr n W) (rd : Bool) : ∀ (c : CE) (e : Expr), chkE F N c sc e = true → PE X e (tE X.K xr C W rd c)
  | .const d, e, hc => by
    cases e with
    | Constant c k p =>
      simp only [chkE] at hc
      obtain ⟨v, P, r⟩ := const_ok (X := X) (k := k) (p := p) hc
      refine PE.imp P fun σ H Q ⟨Γ, δ, O, k, x, fr, hev, q, _⟩ => ?_
      exact q d v H (by simpa [ev] using hev) (.refl fr.w) (Vr.of fr.m (r _ _ _))
    | _ => simp [chkE] at hc
  | .var i, e, hc => by
    cases e with
    | Name y p =>
      simp only [chkE, Bool.and_eq_true, decide_eq_true_eq] at hc
      obtain ⟨⟨h1, h2⟩, h3⟩ := hc
      have hv : Vis X.env.scope y := by
        rw [h.site.sc]
        unfold vis at h2
        split at h2
        · exact .inl (by assumption)
        · exact .inr (.inl (by assumption))
        · exact .inr (.inr (by assumption))
        · cases h2
      refine PE.imp (pe_var (i := i) (pos := p) (by rw [h.hN]; exact h1) hv (plain_dbg h3).1 (plain_dbg h3).2) fun σ H Q ⟨Γ, δ, O, k, x, fr, hev, q, _⟩ => ?_
      simp only [ev] at hev
      split at hev
      · rename_i d e1
        obtain ⟨v, e2, r⟩ := fr.slot i _ e1
        exact ⟨v, e2, q d v H hev (.refl fr.w) (Vr.of fr.m r)⟩
      · rename_i ds e1
        obtain ⟨rfl, hk⟩ := hev
        obtain ⟨v, e2, a, vs, rfl, e3, e4, e5, e6⟩ := fr.slot i _ e1
        exact ⟨_, e2, q _ _ H hk (.refl fr.w) ⟨a, vs, rfl, .inl ⟨.inl e3, fr.noM e5⟩, e6⟩⟩
      · exact hev.elim
    | _ => simp [chkE] at hc
  | .glob y, e, hc => by
    cases e with
    | Name z p =>
      simp only [chkE, Bool.and_eq_true, decide_eq_true_eq] at hc
      obtain ⟨⟨rfl, h2⟩, h3⟩ := hc
      refine ⟨fun pins s σ H Q I ⟨Γ, δ, O, k, x, fr, hev, q, _⟩ => ?_⟩
      simp only [ev] at hev
      obtain ⟨d, e1, hk⟩ := hev
      obtain ⟨u, v, m, r, rp⟩ := h.stat.glob z d e1
      exact (pe_glob (X := X) (pos := p) (h.site.gl h2) m r (plain_dbg h3).1).run pins s σ H Q I (q d v H hk (.refl fr.w) (Vr.of fr.m (rp _ _)))
    | _ => simp [chkE] at hc
  | .tup r, e, hc => by
    cases e with
    | Tuple es k p =>
      simp only [chkE] at hc
      refine PE.imp (pe_tup (x1 := k) (pos := p) (sA h r es hc)) fun σ H Q ⟨Γ, δ, O, k, x, fr, hev, q, hx⟩ => ?_
      simp only [ev] at hev
      refine ⟨Γ, δ, O, _, x, fr, hev, fun ss vs H1 ⟨ds, e1, e2, hk⟩ l ar => ?_, hx⟩
      have rs := ar.vals e1
      refine ⟨by rw [rs.length]; exact e2, fun p hp => ?_⟩
      exact fin_same fr l hk q _ _ (same_upd hp) (mkT hp rs)
    | _ => simp [chkE] at hc
  | .lst r, e, hc => by
    cases e with
    | List es p =>
      simp only [chkE] at hc
      refine PE.imp (pe_lst (pos := p) (sA h r es hc)) fun σ H Q ⟨Γ, δ, O, k, x, fr, hev, q, hx⟩ => ?_
      simp only [ev] at hev
      refine ⟨Γ, δ, O, _, x, fr, hev, fun ss vs H1 ⟨ds, e1, e2, hk⟩ l ar => ?_, hx⟩
      have rs := ar.vals e1
      refine ⟨by rw [rs.length]; exact e2, fun p hp => ?_⟩
      exact fin_same fr l hk q _ _ (same_upd hp) (mkL (fr.later l).otr hp rs)
    | _ => simp [chkE] at hc
  | .op1 o a, e, hc => by
    simp only [chkE] at hc
    split at hc
    · rename_i ea he
      refine PE.imp (op1_ok h.site he (sE h true a ea hc) mono_tE) fun σ H Q ⟨Γ, δ, O, k, x, fr, hev, q, hx⟩ => ?_
      simp only [ev] at hev
      refine ⟨Γ, δ, O, _, x, fr, hev, fun d v H1 ⟨r, e1, hk⟩ l rp => ?_, hx⟩
      exact ⟨Γ, O, d, r, (fr.later l).otr, rp, e1, fin_same fr l hk q⟩
    · cases hc
  | .op2 o a b, e, hc => by
    simp only [chkE] at hc
    split at hc
    · rename_i ea eb he
      simp only [Bool.and_eq_true] at hc
      refine PE.imp (op2_ok h.site he (sE h true a ea hc.1) (sE h true b eb hc.2) mono_tE mono_tE) fun σ H Q ⟨Γ, δ, O, k, x, fr, hev, q, hx⟩ => ?_
      simp only [ev] at hev
      refine ⟨Γ, δ, O, _, x, fr, hev, fun d v H1 ⟨hr, hk⟩ l rp => ⟨rcv_of hr rp, ?_⟩, hx⟩
      have f1 := fr.later l
      refine ⟨Γ, δ, O, _, x, f1, hk, fun d' v' H2 ⟨r, e1, hk⟩ l2 rp2 => ?_, hx.later l⟩
      exact ⟨Γ, O, d, d', r, (f1.later l2).otr, rp.later f1 l2, rp2, e1, fin_same fr (l.trans l2) hk q⟩
    · cases hc
  | .slc a lo hi, e, hc => by
    cases e with
    | Subscript ea es p =>
      cases es with
      | Slice l u st p2 =>
        cases st with
        | none =>
          simp only [chkE, Bool.and_eq_true] at hc
          refine PE.imp (pe_slice sl_any (sE h true a ea hc.1.1) (sP h lo l hc.1.2) (sP h hi u hc.2)) fun σ H Q ⟨Γ, δ, O, k, x, fr, hev, q, hx⟩ => ?_
          simp only [ev] at hev
          refine ⟨Γ, δ, O, _, x, fr, hev, fun d v H1 hk l rp => ?_, hx⟩
          have f1 := fr.later l
          refine ⟨Γ, δ, O, _, x, f1, hk, fun i H2 hk l2 => ?_, hx.later l⟩
          have f2 := f1.later l2
          refine ⟨Γ, δ, O, _, x, f2, hk, fun j H3 ⟨r, e1, hk⟩ l3 => ?_, (hx.later l).later l2⟩
          exact ⟨Γ, O, d, r, (f2.later l3).otr, (rp.later f1 l2).later f2 l3, e1, fin_same fr ((l.trans l2).trans l3) hk q⟩
        | some _ => simp [chkE] at hc
      | _ => simp [chkE] at hc
    | _ => simp [chkE] at hc
  | .chain o o' a b c, e, hc => by
    cases e with
    | Compare ea ops cs p =>
      match ops, cs, hc with
      | [op, op'], [eb, ec], hc =>
        simp only [chkE, Bool.and_eq_true, decide_eq_true_eq] at hc
        obtain ⟨⟨⟨⟨⟨h1, h2⟩, h3⟩, h4⟩, h5⟩, h6⟩ := hc
        refine PE.imp (pe_chain (pos := p) (cmp_ok h.site h1) (cmp_ok h.site h2) (sE h true a ea h4) (sE h true b eb h5) (sE h true c ec h6) (marks_ok (op := op') h3)) fun σ H Q ⟨Γ, δ, O, k, x, fr, hev, q, hx⟩ => ?_
        simp only [ev] at hev
        refine ⟨Γ, δ, O, _, x, fr, hev, fun d v H1 hk l rp => ?_, hx⟩
        have f1 := fr.later l
        refine ⟨Γ, δ, O, _, x, f1, hk, fun d' v' H2 ⟨z, e1, hk⟩ l2 rp2 => ?_, hx.later l⟩
        have f2 := f1.later l2
        refine ⟨Γ, O, d, d', .bool z, f2.otr, rp.later f1 l2, rp2, e1, fun v3 H3 s3 r3 => ?_⟩
        cases r3
        refine ⟨z, rfl, ?_⟩
        have l3 : Later Γ H2 H3 := Later.of_same f2.gh f2.w s3
        have f3 := f2.later l3
        cases z with
        | false => exact q _ _ _ hk ((l.trans l2).trans l3) (Vr.of fr.m (.bl _))
        | true =>
          refine ⟨Γ, δ, O, _, x, f3, hk, fun d4 v4 H4 ⟨r, e2, hk⟩ l4 rp4 => ?_, ((hx.later l).later l2).later l3⟩
          exact ⟨Γ, O, d', d4, r, (f3.later l4).otr, (rp2.later f2 l3).later f3 l4, rp4, e2, fin_same fr (((l.trans l2).trans l3).trans l4) hk q⟩
      | [], _, hc => simp [chkE] at hc
      | [_], _, hc => simp [chkE] at hc
      | _ :: _ :: _ :: _, _, hc => simp [chkE] at hc
      | [_, _], [], hc => simp [chkE] at hc
      | [_, _], [_], hc => simp [chkE] at hc
      | [_, _], _ :: _ :: _ :: _, hc => simp [chkE] at hc
    | _ => simp [chkE] at hc
  | .and_ a r, e, hc => by
    cases e with
    | BoolOp op es p =>
      cases op with
      | And =>
        match es, hc with
        | e1 :: e2 :: es, hc =>
          simp only [chkE, Bool.and_eq_true] at hc
          have R : PE X (.BoolOp .And (e2 :: es) p) (tE X.K xr C W false r) := by
            cases es with
            | nil => exact pe_one (sE h false r e2 hc.2)
            | cons e3 es => exact sE h false r _ hc.2
          refine PE.imp (pe_and (pos := p) (sE h false a e1 hc.1) R) fun σ H Q ⟨Γ, δ, O, k, x, fr, hev, q, hx⟩ => ?_
          simp only [ev] at hev
          refine ⟨Γ, δ, O, _, x, fr, hev, fun d v H1 ⟨b, e1, hk⟩ l rp => ?_, hx⟩
          subst e1
          cases rp
          refine ⟨b, rfl, ?_⟩
          cases b with
          | false => exact q _ _ _ hk l (Vr.of fr.m (.bl _))
          | true => exact ⟨Γ, δ, O, k, x, fr.later l, hk, fun d v H2 hk l2 rp => q d v H2 hk (l.trans l2) (Vr.of fr.m rp), hx.later l⟩
        | [], hc => simp [chkE] at hc
        | [_], hc => simp [chkE] at hc
      | Or => simp [chkE] at hc
    | _ => simp [chkE] at hc
  | .or_ a r, e, hc => by
    cases e with
    | BoolOp op es p =>
      cases op with
      | Or =>
        match es, hc with
        | e1 :: e2 :: es, hc =>
          simp only [chkE, Bool.and_eq_true] at hc
          have R : PE X (.BoolOp .Or (e2 :: es) p) (tE X.K xr C W false r) := by
            cases es with
            | nil => exact pe_one (sE h false r e2 hc.2)
            | cons e3 es => exact sE h false r _ hc.2
          refine PE.imp (pe_or (pos := p) (sE h false a e1 hc.1) R) fun σ H Q ⟨Γ, δ, O, k, x, fr, hev, q, hx⟩ => ?_
          simp only [ev] at hev
          refine ⟨Γ, δ, O, _, x, fr, hev, fun d v H1 ⟨b, e1, hk⟩ l rp => ?_, hx⟩
          subst e1
          cases rp
          refine ⟨b, rfl, ?_⟩
          cases b with
          | true => exact q _ _ _ hk l (Vr.of fr.m (.bl _))
          | false => exact ⟨Γ, δ, O, k, x, fr.later l, hk, fun d v H2 hk l2 rp => q d v H2 hk (l.trans l2) (Vr.of fr.m rp), hx.later l⟩
        | [], hc => simp [chkE] at hc
        | [_], hc => simp [chkE] at hc
      | And => simp [chkE] at hc
    | _ => simp [chkE] at hc
  | .not_ a, e, hc => by
    cases e with
    | UnaryOp op ea p =>
      cases op with
      | Not =>
        simp only [chkE] at hc
        refine PE.imp (pe_not (pos := p) (sE h true a ea hc)) fun σ H Q ⟨Γ, δ, O, k, x, fr, hev, q, hx⟩ => ?_
        simp only [ev] at hev
        refine ⟨Γ, δ, O, _, x, fr, hev, fun d v H1 ⟨b, e1, hk⟩ l rp => ?_, hx⟩
        subst e1
        cases rp
        exact ⟨b, rfl, q _ _ _ hk l (Vr.of fr.m (.bl _))⟩
      | _ => simp [chkE] at hc
    | _ => simp [chkE] at hc
  | .ifx c a b, e, hc => by
    cases e with
    | IfExp ec ea eb p =>
      simp only [chkE, Bool.and_eq_true] at hc
      refine PE.imp (pe_ifExp (pos := p) (sT h c ec hc.1.1) (sE h rd a ea hc.1.2) (sE h rd b eb hc.2)) fun σ H Q ⟨Γ, δ, O, k, x, fr, hev, q, hx⟩ => ?_
      simp only [ev] at hev
      refine ⟨Γ, δ, O, _, x, fr, hev, fun z H1 hk l => ?_, hx⟩
      have f1 := fr.later l
      cases z with
      | true => exact ⟨Γ, δ, O, k, x, f1, hk, fun d v H2 hk l2 rp => q d v H2 hk (l.trans l2) rp, hx.later l⟩
      | false => exact ⟨Γ, δ, O, k, x, f1, hk, fun d v H2 hk l2 rp => q d v H2 hk (l.trans l2) rp, hx.later l⟩
    | _ => simp [chkE] at hc
  | .call f r, e, hc => by
    cases e with
    | Call fe es kws p =>
      cases fe with
      | Name y py =>
        match kws, hc with
        | [], hc =>
          simp only [chkE, Bool.and_eq_true, decide_eq_true_eq] at hc
          obtain ⟨⟨⟨⟨h1, h2⟩, h3⟩, h4⟩, h5⟩ := hc
          have fin : ∀ {σ : L2.St} {H H1 : Hp} {Q : VK} {Γ : Gh} {δ : Dl} {O : Addr → Prop} {k : D → Prop} {x : KX} {ss : List Slot} {vs : List V}, Fr X.K Γ δ σ H O → Later Γ H H1 → C.call f ss (fun s => ∃ d, slotD s = some d ∧ k d) x → AReps X.K Γ H1 O ss vs →
              (∀ d v H', k d → Later Γ H H' → Vr X.K Γ rd H' O v d → Q v H') → XOk xr W Γ O σ H x → spC X.K xr C.call f es.length vs H1 Q fun cls dd H' => W cls dd σ H' := by
            intro σ H H1 Q Γ δ O k x ss vs fr l hk ar q hx
            have f1 := fr.later l
            refine ⟨by rw [← ar.length]; exact h.stat.lens f y _ h1 ss _ _ hk, Γ, O, ss, _, x, fr.gh, l.w, f1.otr, fr.m, ar, hk, fun s v H' ⟨d, e1, hk⟩ l' rr => ?_, fun e cls dd H' hx' l' xx => hx e cls dd H' hx' (l.trans l') xx⟩
            cases s with
            | val d' => cases e1; exact q _ _ _ hk (l.trans l') (Vr.of fr.m rr)
            | own ds =>
              cases e1
              obtain ⟨a, us, rfl, e2, e3, e4⟩ := rr
              refine q _ _ _ hk (l.trans l') (Vr.of fr.m (.lst (.inl ⟨.inl e2, fun z => f1.otr a z e3⟩) (Reps.ext (Ext.sub fun b z => .inl z) _ _ e4)))
            | st => cases e1
          cases es with
          | nil =>
            refine PE.imp (pe_fn0 (p := py) (pos := p) h h1 h2 h3) fun σ H Q ⟨Γ, δ, O, k, x, fr, hev, q, hx⟩ => ?_
            have er : r = .nil := by cases r <;> first | rfl | (simp [chkA] at h5)
            subst er
            simp only [ev, evA] at hev
            exact fin fr (.refl fr.w) hev .nil q hx
          | cons e1 es =>
            refine PE.imp (pe_fn (p := py) (pos := p) h h1 h2 h3 h4 (sA h r _ h5)) fun σ H Q ⟨Γ, δ, O, k, x, fr, hev, q, hx⟩ => ?_
            simp only [ev] at hev
            exact ⟨Γ, δ, O, _, x, fr, hev, fun ss vs H1 hk l ar => fin fr l hk ar q hx, hx⟩
        | _ :: _, hc => simp [chkE] at hc
      | _ => simp [chkE] at hc
    | _ => simp [chkE] at hc
  | .comp own e t it ifs, ee, hc => by
    cases ee with
    | ListComp elt gens scope p =>
      match gens, hc with
      | [⟨tg, iter, ifs', a⟩], hc =>
        simp only [chkE, Bool.and_eq_true, decide_eq_true_eq] at hc
        obtain ⟨⟨⟨⟨⟨⟨⟨rfl, h1⟩, h2⟩, h3⟩, h4⟩, h5⟩, h6⟩, h7⟩ := hc
        have hown : (own.map fun i => (N.getD i "", i)).map (·.2) = own := by simp [List.map_map, Function.comp_def]
        have ok : BlkOk X.N X.env.scope scope (own.map fun i => (N.getD i "", i)) := by
          rw [h.hN, h.site.sc]
          exact blkOk_by h1
        have hs : ∀ y, foldedSetIterable iter X.env y = pure y := fun y => by
          cases iter <;> first | rfl | (simp [notSet] at h2)
        have hI := sI h true it tg iter h3
        have hT : ∀ (s : Shared) (H : Hp) (A : Addr) (cl : List (Str × Addr)) (fp : List Addr), PTs (X.blk s H scope (compEnvC scope cl A X.env) fp) ifs' (tT X.K xr C (fun _ _ _ _ => False) ifs) := fun s H A cl fp => by
          match ifs', h6 with
          | [], h6 =>
            cases ifs <;> first | (simp at h6; done) | skip
            refine ⟨fun pins s σ H Q I ⟨Γ, δ, O, k, x, fr, hev, q, hx⟩ => pts_nil.run pins s σ H Q I ?_⟩
            exact q true H (by simpa [evT] using hev) (.refl fr.w)
          | [c], h6 => exact pts_one (sT (h.blk s H A cl fp) ifs c h6)
          | _ :: _ :: _, h6 => simp at h6
        have P := pe_lc (pos := p) h.site.calm h.nd hI ok (fun s H A cl fp => sTg (X := X.blk s H scope (compEnvC scope cl A X.env) fp) h.hN h.nd (h.blk s H A cl fp).site.sc rfl h.site.calm t tg h4)
          (elt := elt) (g := gT X.K t) (te := tE X.K xr C (fun _ _ _ _ => False) false e) (tt := tT X.K xr C (fun _ _ _ _ => False) ifs) hT (fun s H A cl fp => sE (h.blk s H A cl fp) false e elt h7) hs
        rw [hown] at P
        refine PE.imp P fun σ H Q ⟨Γ, δ, O, k, x, fr, hev, q, hx⟩ => ?_
        refine comp_core (by simpa using h5) fr (by rw [ev_comp] at hev ⊢; exact hev) hx fun acc p vs H' hk l hp e2 rs ot no => ?_
        exact q _ _ _ hk l (Vr.of fr.m (.lst (.inl ⟨.inl e2, no⟩) (Reps.ext (Ext.sub fun b z => .inl z) _ _ rs)))
      | [], hc => simp [chkE] at hc
      | _ :: _ :: _, hc => simp [chkE] at hc
    | _ => simp [chkE] at hc
  | .nil, e, hc => by simp [chkE] at hc
  | .cons _ _, e, hc => by simp [chkE] at hc
  | .nopart, e, hc => by simp [chkE] at hc
  | .iter _, e, hc => by simp [chkE] at hc
  | .range1 _, e, hc => by simp [chkE] at hc
  | .range2 _ _, e, hc => by simp [chkE] at hc
  | .zip2 _ _, e, hc => by simp [chkE] at hc
  | .enum _, e, hc => by simp [chkE] at hc
termination_by c => 8 * sizeOf c
theorem sP {X : Cx} {sc : Scope} {W : WX} (h : Here X F N sc C xr n W) : ∀ (c : CE) (e : Option Expr), chkP F N c sc e = true → PO X e (tP X.K xr C W c)
  | .nopart, none, hc => ⟨fun pins s σ H Q I ⟨Γ, δ, O, k, x, fr, hev, q, hx⟩ => po_none.run pins s σ H Q I (q none H (by simpa [evP] using hev) (.refl fr.w))⟩
  | .cons a .nil, some e, hc => by
    simp only [chkP] at hc
    refine ⟨fun pins s σ H Q I ⟨Γ, δ, O, k, x, fr, hev, q, hx⟩ => (po_some (sE h true a e hc)).run pins s σ H Q I ?_⟩
    simp only [evP] at hev
    refine ⟨Γ, δ, O, _, x, fr, hev, fun d v H1 ⟨i, e1, hk⟩ l rp => ?_, hx⟩
    subst e1
    cases rp
    exact ⟨i, rfl, q _ _ hk l⟩
  | .nopart, some _, hc => by simp [chkP] at hc
  | .cons a .nil, none, hc => by simp [chkP] at hc
  | .cons _ (.const _), _, hc => by simp [chkP] at hc
  | .cons _ (.var _), _, hc => by simp [chkP] at hc
  | .cons _ (.glob _), _, hc => by simp [chkP] at hc
  | .cons _ (.cons _ _), _, hc => by simp [chkP] at hc
  | .cons _ (.tup _), _, hc => by simp [chkP] at hc
  | .cons _ (.lst _), _, hc => by simp [chkP] at hc
  | .cons _ (.op1 _ _), _, hc => by simp [chkP] at hc
  | .cons _ (.op2 _ _ _), _, hc => by simp [chkP] at hc
  | .cons _ (.slc _ _ _), _, hc => by simp [chkP] at hc
  | .cons _ (.nopart), _, hc => by simp [chkP] at hc
  | .cons _ (.chain _ _ _ _ _), _, hc => by simp [chkP] at hc
  | .cons _ (.and_ _ _), _, hc => by simp [chkP] at hc
  | .cons _ (.or_ _ _), _, hc => by simp [chkP] at hc
  | .cons _ (.not_ _), _, hc => by simp [chkP] at hc
  | .cons _ (.ifx _ _ _), _, hc => by simp [chkP] at hc
  | .cons _ (.call _ _), _, hc => by simp [chkP] at hc
  | .cons _ (.comp _ _ _ _ _), _, hc => by simp [chkP] at hc
  | .cons _ (.iter _), _, hc => by simp [chkP] at hc
  | .cons _ (.range1 _), _, hc => by simp [chkP] at hc
  | .cons _ (.range2 _ _), _, hc => by simp [chkP] at hc
  | .cons _ (.zip2 _ _), _, hc => by simp [chkP] at hc
  | .cons _ (.enum _), _, hc => by simp [chkP] at hc
  | .const _, _, hc => by simp [chkP] at hc
  | .var _, _, hc => by simp [chkP] at hc
  | .glob _, _, hc => by simp [chkP] at hc
  | .nil, _, hc => by simp [chkP] at hc
  | .tup _, _, hc => by simp [chkP] at hc
  | .lst _, _, hc => by simp [chkP] at hc
  | .op1 _ _, _, hc => by simp [chkP] at hc
  | .op2 _ _ _, _, hc => by simp [chkP] at hc
  | .slc _ _ _, _, hc => by simp [chkP] at hc
  | .chain _ _ _ _ _, _, hc => by simp [chkP] at hc
  | .and_ _ _, _, hc => by simp [chkP] at hc
  | .or_ _ _, _, hc => by simp [chkP] at hc
  | .not_ _, _, hc => by simp [chkP] at hc
  | .ifx _ _ _, _, hc => by simp [chkP] at hc
  | .call _ _, _, hc => by simp [chkP] at hc
  | .comp _ _ _ _ _, _, hc => by simp [chkP] at hc
  | .iter _, _, hc => by simp [chkP] at hc
  | .range1 _, _, hc => by simp [chkP] at hc
  | .range2 _ _, _, hc => by simp [chkP] at hc
  | .zip2 _ _, _, hc => by simp [chkP] at hc
  | .enum _, _, hc => by simp [chkP] at hc
termination_by c => 8 * sizeOf c + 5
theorem sA {X : Cx} {sc : Scope} {W : WX} (h : Here X F N sc C xr n W) : ∀ (c : CE) (es : List Expr), chkA F N c sc es = true → PA X es (tA X.K xr C W c)
  | .nil, [], hc => PA.imp pa_nil fun σ H Q ⟨Γ, δ, O, k, x, fr, hev, q, hx⟩ => q [] [] H (by simpa [evA] using hev) (.refl fr.w) .nil
  | .cons a r, e :: es, hc => by
    simp only [chkA, Bool.and_eq_true] at hc
    obtain ⟨⟨h1, h2⟩, h3⟩ := hc
    by_cases hv : ∃ i, a = .var i
    · obtain ⟨i, rfl⟩ := hv
      refine PA.imp (pa_cons (sV h i e h2) (sA h r es h3) (star_cons h1)) fun σ H Q ⟨Γ, δ, O, k, x, fr, hev, q, hx⟩ => ?_
      simp only [evA] at hev
      split at hev
      · rename_i d e1
        obtain ⟨v, e2, rp⟩ := fr.slot i _ e1
        refine ⟨v, e2, Γ, δ, O, _, x, fr, hev, fun ss vs H2 hk l2 ar => ?_, hx⟩
        exact q _ _ _ hk l2 (.cons (ARep.later fr l2 (s := .val d) rp) ar)
      · rename_i e1
        obtain ⟨v, e2, rp⟩ := fr.slot i _ e1
        refine ⟨v, e2, Γ, δ, O, _, x, fr, hev, fun ss vs H2 hk l2 ar => ?_, hx⟩
        exact q _ _ _ hk l2 (.cons (ARep.later fr l2 (s := .st) rp) ar)
      · exact hev.elim
    · refine PA.imp (pa_cons (sE h false a e h2) (sA h r es h3) (star_cons h1)) fun σ H Q ⟨Γ, δ, O, k, x, fr, hev, q, hx⟩ => ?_
      rw [evA_cons fun i e => hv ⟨i, e⟩] at hev
      refine ⟨Γ, δ, O, _, x, fr, hev, fun d v H1 hk l rp => ?_, hx⟩
      have f1 := fr.later l
      refine ⟨Γ, δ, O, _, x, f1, hk, fun ss vs H2 hk l2 ar => ?_, hx.later l⟩
      exact q _ _ _ hk (l.trans l2) (.cons (ARep.later f1 l2 (s := .val d) rp) ar)
  | .nil, _ :: _, hc => by simp [chkA] at hc
  | .cons _ _, [], hc => by simp [chkA] at hc
  | .const _, _, hc => by simp [chkA] at hc
  | .var _, _, hc => by simp [chkA] at hc
  | .glob _, _, hc => by simp [chkA] at hc
  | .tup _, _, hc => by simp [chkA] at hc
  | .lst _, _, hc => by simp [chkA] at hc
  | .op1 _ _, _, hc => by simp [chkA] at hc
  | .op2 _ _ _, _, hc => by simp [chkA] at hc
  | .slc _ _ _, _, hc => by simp [chkA] at hc
  | .nopart, _, hc => by simp [chkA] at hc
  | .chain _ _ _ _ _, _, hc => by simp [chkA] at hc
  | .and_ _ _, _, hc => by simp [chkA] at hc
  | .or_ _ _, _, hc => by simp [chkA] at hc
  | .not_ _, _, hc => by simp [chkA] at hc
  | .ifx _ _ _, _, hc => by simp [chkA] at hc
  | .call _ _, _, hc => by simp [chkA] at hc
  | .comp _ _ _ _ _, _, hc => by simp [chkA] at hc
  | .iter _, _, hc => by simp [chkA] at hc
  | .range1 _, _, hc => by simp [chkA] at hc
  | .range2 _ _, _, hc => by simp [chkA] at hc
  | .zip2 _ _, _, hc => by simp [chkA] at hc
  | .enum _, _, hc => by simp [chkA] at hc
termination_by c => 8 * sizeOf c + 5
theorem sT {X : Cx} {sc : Scope} {W : WX} (h : Here X F N sc C xr n W) : ∀ (c : CE) (e : Expr), chkE F N c sc e = true → PT X e (tT X.K xr C W c)
  | .and_ a r, e, hc => (sW h (.and_ a r) e hc (.inl ⟨a, r, rfl⟩)).pt
  | .or_ a r, e, hc => (sW h (.or_ a r) e hc (.inr ⟨a, r, rfl⟩)).pt
  | .not_ a, e, hc => by
    cases e with
    | UnaryOp op ea p =>
      cases op with
      | Not =>
        simp only [chkE] at hc
        refine PT.imp (pt_not (pos := p) (sT h a ea hc)) fun σ H Q ⟨Γ, δ, O, k, x, fr, hev, q, hx⟩ => ?_
        simp only [evT] at hev
        exact ⟨Γ, δ, O, _, x, fr, hev, fun b H1 hk l => q _ _ hk l, hx⟩
      | _ => simp [chkE] at hc
    | _ => simp [chkE] at hc
  | .op1 o a, e, hc => by
    simp only [chkE] at hc
    split at hc
    · rename_i ea he
      refine PT.imp (op1T_ok h.site he (sE h true a ea hc) mono_tE) fun σ H Q ⟨Γ, δ, O, k, x, fr, hev, q, hx⟩ => ?_
      simp only [evT] at hev
      refine ⟨Γ, δ, O, _, x, fr, hev, fun d v H1 ⟨b, e1, hk⟩ l rp => ?_, hx⟩
      refine ⟨Γ, O, d, .bool b, (fr.later l).otr, rp, e1, fun v' H' s r' => ?_⟩
      cases r'
      exact ⟨b, rfl, q _ _ hk (l.trans (Later.of_same fr.gh l.w s))⟩
    · cases hc
  | .op2 o a b, e, hc => by
    simp only [chkE] at hc
    split at hc
    · rename_i ea eb he
      simp only [Bool.and_eq_true] at hc
      refine PT.imp (op2T_ok h.site he (sE h true a ea hc.1) (sE h true b eb hc.2) mono_tE mono_tE) fun σ H Q ⟨Γ, δ, O, k, x, fr, hev, q, hx⟩ => ?_
      simp only [evT] at hev
      refine ⟨Γ, δ, O, _, x, fr, hev, fun d v H1 ⟨hr, hk⟩ l rp => ⟨rcv_of hr rp, ?_⟩, hx⟩
      have f1 := fr.later l
      refine ⟨Γ, δ, O, _, x, f1, hk, fun d' v' H2 ⟨z, e1, hk⟩ l2 rp2 => ?_, hx.later l⟩
      refine ⟨Γ, O, d, d', .bool z, (f1.later l2).otr, rp.later f1 l2, rp2, e1, fun v' H' s r' => ?_⟩
      cases r'
      exact ⟨z, rfl, q _ _ hk ((l.trans l2).trans (Later.of_same fr.gh l2.w s))⟩
    · cases hc
  | .chain o o' a b c, e, hc => by
    cases e with
    | Compare ea ops cs p =>
      match ops, cs, hc with
      | [op, op'], [eb, ec], hc =>
        simp only [chkE, Bool.and_eq_true, decide_eq_true_eq] at hc
        obtain ⟨⟨⟨⟨⟨h1, h2⟩, h3⟩, h4⟩, h5⟩, h6⟩ := hc
        refine PT.imp (pt_chain (pos := p) (cmp_ok h.site h1) (cmp_ok h.site h2) (sE h true a ea h4) (sE h true b eb h5) (sE h true c ec h6) (marks_ok (op := op') h3)) fun σ H Q ⟨Γ, δ, O, k, x, fr, hev, q, hx⟩ => ?_
        simp only [evT] at hev
        refine ⟨Γ, δ, O, _, x, fr, hev, fun d v H1 hk l rp => ?_, hx⟩
        have f1 := fr.later l
        refine ⟨Γ, δ, O, _, x, f1, hk, fun d' v' H2 ⟨z, e1, hk⟩ l2 rp2 => ?_, hx.later l⟩
        have f2 := f1.later l2
        refine ⟨Γ, O, d, d', .bool z, f2.otr, rp.later f1 l2, rp2, e1, fun v3 H3 s3 r3 => ?_⟩
        cases r3
        refine ⟨z, rfl, ?_⟩
        have l3 : Later Γ H2 H3 := Later.of_same f2.gh f2.w s3
        have f3 := f2.later l3
        cases z with
        | false => exact ⟨_, rfl, q _ _ hk ((l.trans l2).trans l3)⟩
        | true =>
          refine ⟨Γ, δ, O, _, x, f3, hk, fun d4 v4 H4 ⟨z, e2, hk⟩ l4 rp4 => ?_, ((hx.later l).later l2).later l3⟩
          refine ⟨Γ, O, d', d4, .bool z, (f3.later l4).otr, (rp2.later f2 l3).later f3 l4, rp4, e2, fun v' H' s r' => ?_⟩
          cases r'
          exact ⟨_, rfl, q _ _ hk ((((l.trans l2).trans l3).trans l4).trans (Later.of_same fr.gh l4.w s))⟩
      | [], _, hc => simp [chkE] at hc
      | [_], _, hc => simp [chkE] at hc
      | _ :: _ :: _ :: _, _, hc => simp [chkE] at hc
      | [_, _], [], hc => simp [chkE] at hc
      | [_, _], [_], hc => simp [chkE] at hc
      | [_, _], _ :: _ :: _ :: _, hc => simp [chkE] at hc
    | _ => simp [chkE] at hc
  | .var i, e, hc => by
    have P := sE h true (.var i) e hc
    have hp : plainTest e = true := by cases e <;> first | rfl | (simp [chkE] at hc)
    refine PT.imp (pt_val P (test_eq hp)) fun σ H Q ⟨Γ, δ, O, k, x, fr, hev, q, hx⟩ => ?_
    simp only [evT] at hev
    split at hev
    · rename_i b e1
      refine ⟨Γ, δ, O, fun d => d = .bool b ∧ k b, x, fr, by simp [ev, e1, hev], fun d v H1 ⟨e2, hk⟩ l rp => ?_, hx⟩
      subst e2
      cases rp
      exact ⟨b, rfl, q _ _ hk l⟩
    · exact hev.elim
  | .call f r, e, hc => by
    have P := sE h true (.call f r) e hc
    have hp : plainTest e = true := by cases e <;> first | rfl | (simp [chkE] at hc)
    refine PT.imp (pt_val P (test_eq hp)) fun σ H Q ⟨Γ, δ, O, k, x, fr, hev, q, hx⟩ => ?_
    simp only [evT] at hev
    refine ⟨Γ, δ, O, fun d => ∃ b, d = .bool b ∧ k b, x, fr, by simpa [ev] using hev, fun d v H1 ⟨b, e2, hk⟩ l rp => ?_, hx⟩
    subst e2
    cases rp
    exact ⟨b, rfl, q _ _ hk l⟩
  | .const d, e, hc => by
    have P := sE h true (.const d) e hc
    have hp : plainTest e = true := by cases e <;> first | rfl | (simp [chkE] at hc)
    refine PT.imp (pt_val P (test_eq hp)) fun σ H Q ⟨Γ, δ, O, k, x, fr, hev, q, hx⟩ => ?_
    cases d with
    | bool b =>
      simp only [evT] at hev
      refine ⟨Γ, δ, O, fun d => d = .bool b ∧ k b, x, fr, by simp [ev, hev], fun d v H1 ⟨e2, hk⟩ l rp => ?_, hx⟩
      subst e2
      cases rp
      exact ⟨b, rfl, q _ _ hk l⟩
    | _ => simp [evT] at hev
  | .ifx _ _ _, e, hc => ⟨fun pins s σ H Q I ⟨Γ, δ, O, k, x, fr, hev, q, hx⟩ => by simp [evT] at hev⟩
  | .tup _, e, hc => ⟨fun pins s σ H Q I ⟨Γ, δ, O, k, x, fr, hev, q, hx⟩ => by simp [evT] at hev⟩
  | .lst _, e, hc => ⟨fun pins s σ H Q I ⟨Γ, δ, O, k, x, fr, hev, q, hx⟩ => by simp [evT] at hev⟩
  | .glob _, e, hc => ⟨fun pins s σ H Q I ⟨Γ, δ, O, k, x, fr, hev, q, hx⟩ => by simp [evT] at hev⟩
  | .slc _ _ _, e, hc => ⟨fun pins s σ H Q I ⟨Γ, δ, O, k, x, fr, hev, q, hx⟩ => by simp [evT] at hev⟩
  | .comp _ _ _ _ _, e, hc => ⟨fun pins s σ H Q I ⟨Γ, δ, O, k, x, fr, hev, q, hx⟩ => by simp [evT] at hev⟩
  | .nil, e, hc => by simp [chkE] at hc
  | .cons _ _, e, hc => by simp [chkE] at hc
  | .nopart, e, hc => by simp [chkE] at hc
  | .iter _, e, hc => by simp [chkE] at hc
  | .range1 _, e, hc => by simp [chkE] at hc
  | .range2 _ _, e, hc => by simp [chkE] at hc
  | .zip2 _ _, e, hc => by simp [chkE] at hc
  | .enum _, e, hc => by simp [chkE] at hc
termination_by c => 8 * sizeOf c + 2
theorem sW {X : Cx} {sc : Scope} {W : WX} (h : Here X F N sc C xr n W) : ∀ (c : CE) (e : Expr), chkE F N c sc e = true → ((∃ a r, c = .and_ a r) ∨ ∃ a r, c = .or_ a r) → PW X e (tT X.K xr C W c)
  | .and_ a r, e, hc, _ => by
    cases e with
    | BoolOp op es p =>
      cases op with
      | And =>
        match es, hc with
        | e1 :: e2 :: es, hc =>
          simp only [chkE, Bool.and_eq_true] at hc
          have R : PW X (.BoolOp .And (e2 :: es) p) (tT X.K xr C W r) := by
            cases es with
            | nil => exact pw_and1 (sT h r e2 hc.2)
            | cons e3 es =>
              have hr := hc.2
              refine sW h r _ hr ?_
              cases r <;> first | exact .inl ⟨_, _, rfl⟩ | (simp [chkE] at hr; done) | (simp only [chkE] at hr; rename_i o _; cases o <;> simp [chkOp1, chkOp2] at hr; done) | (simp only [chkE] at hr; rename_i o _ _; cases o <;> simp [chkOp1, chkOp2] at hr; done)
          refine PW.imp (pw_and (pos := p) (sT h a e1 hc.1) R) fun σ H Q ⟨Γ, δ, O, k, x, fr, hev, q, hx⟩ => ?_
          simp only [evT] at hev
          refine ⟨Γ, δ, O, _, x, fr, hev, fun b H1 hk l => ?_, hx⟩
          cases b with
          | false => exact q _ _ hk l
          | true => exact ⟨Γ, δ, O, k, x, fr.later l, hk, fun b H2 hk l2 => q b H2 hk (l.trans l2), hx.later l⟩
        | [], hc => simp [chkE] at hc
        | [_], hc => simp [chkE] at hc
      | Or => simp [chkE] at hc
    | _ => simp [chkE] at hc
  | .or_ a r, e, hc, _ => by
    cases e with
    | BoolOp op es p =>
      cases op with
      | Or =>
        match es, hc with
        | e1 :: e2 :: es, hc =>
          simp only [chkE, Bool.and_eq_true] at hc
          have R : PW X (.BoolOp .Or (e2 :: es) p) (tT X.K xr C W r) := by
            cases es with
            | nil => exact pw_or1 (sT h r e2 hc.2)
            | cons e3 es =>
              have hr := hc.2
              refine sW h r _ hr ?_
              cases r <;> first | exact .inr ⟨_, _, rfl⟩ | (simp [chkE] at hr; done) | (simp only [chkE] at hr; rename_i o _; cases o <;> simp [chkOp1, chkOp2] at hr; done) | (simp only [chkE] at hr; rename_i o _ _; cases o <;> simp [chkOp1, chkOp2] at hr; done)
          refine PW.imp (pw_or (pos := p) (sT h a e1 hc.1) R) fun σ H Q ⟨Γ, δ, O, k, x, fr, hev, q, hx⟩ => ?_
          simp only [evT] at hev
          refine ⟨Γ, δ, O, _, x, fr, hev, fun b H1 hk l => ?_, hx⟩
          cases b with
          | true => exact q _ _ hk l
          | false => exact ⟨Γ, δ, O, k, x, fr.later l, hk, fun b H2 hk l2 => q b H2 hk (l.trans l2), hx.later l⟩
        | [], hc => simp [chkE] at hc
        | [_], hc => simp [chkE] at hc
      | And => simp [chkE] at hc
    | _ => simp [chkE] at hc
  | .const _, _, _, hh => by rcases hh with ⟨_, _, z⟩ | ⟨_, _, z⟩ <;> cases z
  | .var _, _, _, hh => by rcases hh with ⟨_, _, z⟩ | ⟨_, _, z⟩ <;> cases z
  | .glob _, _, _, hh => by rcases hh with ⟨_, _, z⟩ | ⟨_, _, z⟩ <;> cases z
  | .nil, _, _, hh => by rcases hh with ⟨_, _, z⟩ | ⟨_, _, z⟩ <;> cases z
  | .cons _ _, _, _, hh => by rcases hh with ⟨_, _, z⟩ | ⟨_, _, z⟩ <;> cases z
  | .tup _, _, _, hh => by rcases hh with ⟨_, _, z⟩ | ⟨_, _, z⟩ <;> cases z
  | .lst _, _, _, hh => by rcases hh with ⟨_, _, z⟩ | ⟨_, _, z⟩ <;> cases z
  | .op1 _ _, _, _, hh => by rcases hh with ⟨_, _, z⟩ | ⟨_, _, z⟩ <;> cases z
  | .op2 _ _ _, _, _, hh => by rcases hh with ⟨_, _, z⟩ | ⟨_, _, z⟩ <;> cases z
  | .slc _ _ _, _, _, hh => by rcases hh with ⟨_, _, z⟩ | ⟨_, _, z⟩ <;> cases z
  | .nopart, _, _, hh => by rcases hh with ⟨_, _, z⟩ | ⟨_, _, z⟩ <;> cases z
  | .chain _ _ _ _ _, _, _, hh => by rcases hh with ⟨_, _, z⟩ | ⟨_, _, z⟩ <;> cases z
  | .not_ _, _, _, hh => by rcases hh with ⟨_, _, z⟩ | ⟨_, _, z⟩ <;> cases z
  | .ifx _ _ _, _, _, hh => by rcases hh with ⟨_, _, z⟩ | ⟨_, _, z⟩ <;> cases z
  | .call _ _, _, _, hh => by rcases hh with ⟨_, _, z⟩ | ⟨_, _, z⟩ <;> cases z
  | .comp _ _ _ _ _, _, _, hh => by rcases hh with ⟨_, _, z⟩ | ⟨_, _, z⟩ <;> cases z
  | .iter _, _, _, hh => by rcases hh with ⟨_, _, z⟩ | ⟨_, _, z⟩ <;> cases z
  | .range1 _, _, _, hh => by rcases hh with ⟨_, _, z⟩ | ⟨_, _, z⟩ <;> cases z
  | .range2 _ _, _, _, hh => by rcases hh with ⟨_, _, z⟩ | ⟨_, _, z⟩ <;> cases z
  | .zip2 _ _, _, _, hh => by rcases hh with ⟨_, _, z⟩ | ⟨_, _, z⟩ <;> cases z
  | .enum _, _, _, hh => by rcases hh with ⟨_, _, z⟩ | ⟨_, _, z⟩ <;> cases z
termination_by c => 8 * sizeOf c + 1
theorem sI {X : Cx} {sc : Scope} {W : WX} (h : Here X F N sc C xr n W) (rd : Bool) : ∀ (c : CE) (tg e : Expr), chkI F N c sc tg e = true → PI X tg e (tI X.K xr C W rd c)
  | .iter a, tg, e, hc => by
    simp only [chkI] at hc
    refine PI.imp (pi_any (sE h rd a e hc)) fun σ H R ⟨Γ, δ, O, k, x, fr, hev, q, hx⟩ => ?_
    simp only [evI] at hev
    refine ⟨Γ, δ, O, _, x, fr, hev, fun d v H1 ⟨xs, e1, hk⟩ l rp => ?_, hx⟩
    cases d with
    | list ds =>
      cases e1
      have rp' := Vr.r fr.m rp
      obtain ⟨a, us, rfl, _⟩ := id rp'
      obtain ⟨vs, h1, h2⟩ := Vr.lst rp
      refine .inl ⟨a, vs, rfl, ?_, q _ _ _ hk l (walk_of_list fr.m h1 h2)⟩
      rcases h1 with ⟨_, h1⟩ | ⟨_, h1⟩ <;> exact h1.sq
    | tuple ds =>
      cases e1
      have rp' := Vr.not_list rp (fun _ z => by cases z)
      cases rp' with
      | tup h1 h2 => exact .inr (.inl ⟨_, _, rfl, h1, q _ _ _ hk l (walk_of_tup h1 h2)⟩)
    | str z =>
      cases e1
      have rp' := Vr.not_list rp (fun _ z => by cases z)
      cases rp'
      exact .inr (.inr ⟨z, rfl, q _ _ _ hk l walk_of_str⟩)
    | _ => simp [itemsD] at e1
  | .range1 a, tg, e, hc => by
    cases e with
    | Call fe es kws p =>
      cases fe with
      | Name y py =>
        match es, kws, hc with
        | [ea], [], hc =>
          simp only [chkI, Bool.and_eq_true, decide_eq_true_eq] at hc
          obtain ⟨⟨⟨rfl, h1⟩, h2⟩, h3⟩ := hc
          refine PI.imp (pi_range1 (p := py) (pos := p) (h.site.gl h1) (h.site.blt _ (by decide +kernel)) (pa_cons (sE h rd a ea h3) pa_nil (star_cons h2)) (star_cons h2)) fun σ H R ⟨Γ, δ, O, k, x, fr, hev, q, hx⟩ => ?_
          simp only [evI] at hev
          refine ⟨Γ, δ, O, _, x, fr, hev, fun d v H1 ⟨m, e1, hb, hk⟩ l rp => ?_, hx⟩
          subst e1
          have rp' := Vr.not_list rp (fun _ z => by cases z)
          cases rp'
          refine ⟨m, rfl, hb.1, hb.2, q _ _ _ hk l ?_⟩
          have := walk_of_range (K := X.K) (Γ := Γ) (O := O) (H := H1) (rd := rd) (lo := 0) (hi := m)
          simpa using this
        | [], _, hc => simp [chkI] at hc
        | [_], _ :: _, hc => simp [chkI] at hc
        | _ :: _ :: _, _, hc => simp [chkI] at hc
      | _ => simp [chkI] at hc
    | _ => simp [chkI] at hc
  | .range2 a b, tg, e, hc => by
    cases e with
    | Call fe es kws p =>
      cases fe with
      | Name y py =>
        match es, kws, hc with
        | [ea, eb], [], hc =>
          simp only [chkI, Bool.and_eq_true, decide_eq_true_eq] at hc
          obtain ⟨⟨⟨⟨⟨rfl, h1⟩, h2⟩, h2'⟩, h3⟩, h4⟩ := hc
          refine PI.imp (pi_range2 (p := py) (pos := p) (h.site.gl h1) (h.site.blt _ (by decide +kernel)) (pa_cons (sE h rd a ea h3) (pa_cons (sE h rd b eb h4) pa_nil (star_cons h2')) (star_cons h2)) (by rw [star_cons h2, star_cons h2']; rfl) (star_cons h2')) fun σ H R ⟨Γ, δ, O, k, x, fr, hev, q, hx⟩ => ?_
          simp only [evI] at hev
          refine ⟨Γ, δ, O, _, x, fr, hev, fun d v H1 hk l rp => ?_, hx⟩
          refine ⟨Γ, δ, O, _, x, fr.later l, hk, fun d' v' H2 ⟨m, m', e1, e2, hb, hk2⟩ l2 rp2 => ?_, hx.later l⟩
          subst e1 e2
          have rp' := Vr.not_list rp (fun _ z => by cases z)
          have rp2' := Vr.not_list rp2 (fun _ z => by cases z)
          cases rp'; cases rp2'
          exact ⟨m, m', rfl, hb, q _ _ _ hk2 (l.trans l2) walk_of_range⟩
        | [], _, hc => simp [chkI] at hc
        | [_], _, hc => simp [chkI] at hc
        | [_, _], _ :: _, hc => simp [chkI] at hc
        | _ :: _ :: _ :: _, _, hc => simp [chkI] at hc
      | _ => simp [chkI] at hc
    | _ => simp [chkI] at hc
  | .zip2 a b, tg, e, hc => by
    cases e with
    | Call fe es kws p =>
      cases fe with
      | Name y py =>
        match es, kws, hc with
        | [ea, eb], [], hc =>
          simp only [chkI, Bool.and_eq_true, decide_eq_true_eq] at hc
          obtain ⟨⟨⟨⟨⟨⟨h0, rfl⟩, h1⟩, h2⟩, h2'⟩, h3⟩, h4⟩ := hc
          cases tg with
          | Tuple elts kk tpos =>
            refine PI.imp (RZ.pi_zipA (p := py) (pos := p) (h.site.gl h1) (h.site.blt _ (by decide +kernel)) (pa_cons (sE h rd a ea h3) (pa_cons (sE h rd b eb h4) pa_nil (star_cons h2')) (star_cons h2)) (star_cons h2) (stars_any (by simp [notStars, h2']))) fun σ H R ⟨Γ, δ, O, k, x, fr, hev, q, hx⟩ => ?_
            simp only [evI] at hev
            refine ⟨Γ, δ, O, _, x, fr, hev, fun d v H1 hk l rp => ?_, hx⟩
            have f1 := fr.later l
            refine ⟨Γ, δ, O, _, x, f1, hk, fun d' v' H2 ⟨xs, ys, ee, hk2⟩ l2 rp2 => ?_, hx.later l⟩
            have f2 := f1.later l2
            rcases ee with ⟨rfl, rfl⟩ | ⟨rfl, rfl⟩
            · have rpl : Vr X.K Γ rd H2 O v (.list xs) := by
                cases rd with
                | true => exact RRep.later f1 l2 (d := .list xs) rp
                | false => exact Rep.ext (f1.ext l2) _ _ rp
              obtain ⟨a1, us1, rfl, _⟩ := Vr.r fr.m rpl
              obtain ⟨a2, us2, rfl, _⟩ := Vr.r fr.m rp2
              obtain ⟨vs1, h1, h1'⟩ := Vr.lst rpl
              obtain ⟨vs2, h2, h2'⟩ := Vr.lst rp2
              refine ⟨a1, a2, vs1, vs2, rfl, .inl ⟨?_, ?_, q _ _ _ hk2 (l.trans l2) (walk_of_zip fr.m h1 h2 h1' h2')⟩⟩
              · rcases h1 with ⟨_, h1⟩ | ⟨_, h1⟩ <;> exact h1.sq
              · rcases h2 with ⟨_, h2⟩ | ⟨_, h2⟩ <;> exact h2.sq
            · have rp1' := Rep.ext (f1.ext l2) _ _ (Vr.not_list rp (fun _ z => by cases z))
              have rp2' := Vr.not_list rp2 (fun _ z => by cases z)
              cases rp1' with
              | tup t1 r1 =>
                cases rp2' with
                | tup t2 r2 => exact ⟨_, _, _, _, rfl, .inr ⟨t1, t2, q _ _ _ hk2 (l.trans l2) (walk_of_zipT t1 t2 r1 r2)⟩⟩
          | _ => simp [isTup] at h0
        | [], _, hc => simp [chkI] at hc
        | [_], _, hc => simp [chkI] at hc
        | [_, _], _ :: _, hc => simp [chkI] at hc
        | _ :: _ :: _ :: _, _, hc => simp [chkI] at hc
      | _ => simp [chkI] at hc
    | _ => simp [chkI] at hc
  | .enum a, tg, e, hc => by
    cases e with
    | Call fe es kws p =>
      cases fe with
      | Name y py =>
        match es, kws, hc with
        | [ea], [], hc =>
          simp only [chkI, Bool.and_eq_true, decide_eq_true_eq] at hc
          obtain ⟨⟨⟨⟨h0, rfl⟩, h1⟩, h2⟩, h3⟩ := hc
          cases tg with
          | Tuple elts kk tpos =>
            refine PI.imp (pi_enum (p := py) (pos := p) (h.site.gl h1) (h.site.blt _ (by decide +kernel)) (pa_cons (sE h rd a ea h3) pa_nil (star_cons h2)) (star_cons h2)) fun σ H R ⟨Γ, δ, O, k, x, fr, hev, q, hx⟩ => ?_
            simp only [evI] at hev
            refine ⟨Γ, δ, O, _, x, fr, hev, fun d v H1 ⟨xs, e1, hk⟩ l rp => ?_, hx⟩
            subst e1
            have rp' := Vr.r fr.m rp
            obtain ⟨a, us, rfl, _⟩ := id rp'
            obtain ⟨vs, h1, h2⟩ := Vr.lst rp
            refine ⟨a, vs, rfl, ?_, q _ _ _ hk l (walk_of_enum fr.m h1 h2)⟩
            rcases h1 with ⟨_, h1⟩ | ⟨_, h1⟩ <;> exact h1.sq
          | _ => simp [isTup] at h0
        | [], _, hc => simp [chkI] at hc
        | [_], _ :: _, hc => simp [chkI] at hc
        | _ :: _ :: _, _, hc => simp [chkI] at hc
      | _ => simp [chkI] at hc
    | _ => simp [chkI] at hc
  | .const _, _, _, hc => by simp [chkI] at hc
  | .var _, _, _, hc => by simp [chkI] at hc
  | .glob _, _, _, hc => by simp [chkI] at hc
  | .nil, _, _, hc => by simp [chkI] at hc
  | .cons _ _, _, _, hc => by simp [chkI] at hc
  | .tup _, _, _, hc => by simp [chkI] at hc
  | .lst _, _, _, hc => by simp [chkI] at hc
  | .op1 _ _, _, _, hc => by simp [chkI] at hc
  | .op2 _ _ _, _, _, hc => by simp [chkI] at hc
  | .slc _ _ _, _, _, hc => by simp [chkI] at hc
  | .nopart, _, _, hc => by simp [chkI] at hc
  | .chain _ _ _ _ _, _, _, hc => by simp [chkI] at hc
  | .and_ _ _, _, _, hc => by simp [chkI] at hc
  | .or_ _ _, _, _, hc => by simp [chkI] at hc
  | .not_ _, _, _, hc => by simp [chkI] at hc
  | .ifx _ _ _, _, _, hc => by simp [chkI] at hc
  | .call _ _, _, _, hc => by simp [chkI] at hc
  | .comp _ _ _ _ _, _, _, hc => by simp [chkI] at hc
termination_by c => 8 * sizeOf c + 5
end
end
end Tk
namespace Tk
open PySem PySem.Spec PyProof.Rows L2
/-! ### a, b = x, y: are the stores swapped? -/
def swapNames (sc : Scope) (ts : List Expr) : List Str := ts.filterMap fun
  | .Name id pos => if sc.names.lookup id == some .local && pos.line == ((ts.head?.map (·.pos.line)).getD 0) then some id else none
  | _ => none
def kindB (sc : Scope) : ScopeKind := if sc.kind.isAnnotationScope then .function else sc.kind
def swapVal (sc : Scope) (ts vs : List Expr) : Option (Option (List Str)) :=
  if (!(ts.length == 2 || ts.length == 3) || vs.length != ts.length || kindB sc != .function) = true then some none
  else if (vs.any fun | .Starred .. => true | _ => false) = true then some none
  else if ((swapNames sc ts).length != ts.length || (swapNames sc ts).eraseDups.length != (swapNames sc ts).length) = true then some none
  else if vs.all (foldedForSure 8) = true then some none
  else if vs.all (constantsAlone 8) = true then none
  else some (some (swapNames sc ts))
theorem swap_eq {env : Env} {ts vs : List Expr} {k k2 : Nat} {p p2 : Pos} {r : Option (List Str)} (h : swapVal env.scope ts vs = some r) : swappedStores [.Tuple ts k p] (.Tuple vs k2 p2) env = pure r := by
  unfold swapVal at h
  show (if (!(ts.length == 2 || ts.length == 3) || vs.length != ts.length || kindB env.scope != .function) = true then pure none else
    if (vs.any fun | .Starred .. => true | _ => false) = true then pure none else
    if ((swapNames env.scope ts).length != ts.length || (swapNames env.scope ts).eraseDups.length != (swapNames env.scope ts).length) = true then pure none else
    if vs.all (foldedForSure 8) = true then pure none else
    if vs.all (constantsAlone 8) = true then (do let _ ← (unsupported "assign.tuple-of-constant-expressions:order-of-the-stores" : Sem PUnit); pure (some (swapNames env.scope ts))) else pure (some (swapNames env.scope ts)) : Sem (Option (List Str))) = pure r
  split at h
  · rename_i c; rw [if_pos c]; cases h; rfl
  · rename_i c; rw [if_neg c]
    split at h
    · rename_i c; rw [if_pos c]; cases h; rfl
    · rename_i c; rw [if_neg c]
      split at h
      · rename_i c; rw [if_pos c]; cases h; rfl
      · rename_i c; rw [if_neg c]
        split at h
        · rename_i c; rw [if_pos c]; cases h; rfl
        · rename_i c; rw [if_neg c]
          split at h
          · cases h
          · rename_i c; rw [if_neg c]; cases h; rfl
def swapFree (sc : Scope) (tg e : Expr) : Bool := match tg, e with
  | .Tuple ts _ _, .Tuple vs _ _ => decide (swapVal sc ts vs = some none)
  | .List _ _, .Tuple _ _ _ => false
  | _, _ => true
theorem swapFree_ok {env : Env} {tg e : Expr} (h : swapFree env.scope tg e = true) : swappedStores [tg] e env = pure none := by
  cases tg with
  | Tuple ts k p =>
    cases e with
    | Tuple vs k2 p2 => exact swap_eq (of_decide_eq_true h)
    | _ => rfl
  | List ts p =>
    cases e with
    | Tuple vs k2 p2 => simp [swapFree] at h
    | _ => rfl
  | _ => rfl
def notComp : Expr → Bool
  | .ListComp .. => false
  | .SetComp .. => false
  | .DictComp .. => false
  | _ => true
theorem swapsWith_free {e : Expr} {t : Option Expr} {l : Nat} {env : Env} (h : notComp e = true) : swapsWith e t l env = pure false := by
  cases e <;> first | rfl | (simp [notComp] at h)
/-- a comprehension that isn't given to a local name -/
def compFree (sc : Scope) (tg e : Expr) : Bool := match tg, e with
  | .Name t pos, .ListComp _ _ s p => !(kindB sc == .function && sc.names.lookup t == some .local && pos.line == p.line && !(s.names.any fun (n, k) => n == t && (k == .local || k == .cell)))
  | _, .ListComp .. => true
  | _, .SetComp .. => false
  | _, .DictComp .. => false
  | _, _ => true
theorem compFree_ok {env : Env} {tg e : Expr} {l : Nat} (h : compFree env.scope tg e = true) : swapsWithSole [tg] e l env = pure false := by
  show swapsWith e (some tg) l env = pure false
  cases e with
  | ListComp elt gs s p =>
    cases tg with
    | Name t pos =>
      simp only [compFree, Bool.not_eq_true'] at h
      exact congrArg pure h
    | _ => rfl
  | SetComp _ _ _ _ => cases tg <;> simp [compFree] at h
  | DictComp _ _ _ _ _ => cases tg <;> simp [compFree] at h
  | _ => rfl
/-- a comprehension that is given to a local name on its line -/
def lcTrue (sc : Scope) : Expr → Expr → Bool
  | .Name y py, .ListComp _ _ s p => decide (sc.kind = .function) && decide (sc.names.lookup y = some .local) && (py.line == p.line) && !(s.names.any fun (n, k) => n == y && (k == .local || k == .cell))
  | _, _ => false
def parN (N : List Str) (sc : Scope) (i : Nat) (x : Str) : Bool := decide (N[i]? = some x) && decide (sc.names.lookup x = some .local)
def parNs (N : List Str) (sc : Scope) : List Nat → List Expr → Bool
  | [], [] => true
  | i :: is, .Name x _ :: ts => parN N sc i x && parNs N sc is ts
  | _, _ => false
def parChk (N : List Str) (sc : Scope) : List Nat → Expr → Expr → Bool
  | [i, j], .Tuple [.Name x px, .Name y py] _ _, .Tuple [a, b] _ _ => parN N sc i x && parN N sc j y && decide (i ≠ j) && decide (swapVal sc [.Name x px, .Name y py] [a, b] = some (some [x, y]))
  | [i, j, l], .Tuple [.Name x px, .Name y py, .Name z pz] _ _, .Tuple [a, b, c] _ _ => parN N sc i x && parN N sc j y && parN N sc l z && decide (i ≠ j) && decide (i ≠ l) && decide (j ≠ l) && decide (swapVal sc [.Name x px, .Name y py, .Name z pz] [a, b, c] = some (some [x, y, z]))
  | i :: j :: l :: m :: is, .Tuple ts _ _, .Tuple vs _ _ => parNs N sc (i :: j :: l :: m :: is) ts && decide (ts.length ≤ 20) && decide (swapVal sc ts vs = some none)
  | _, _, _ => false
/-! ### the look at statements -/
mutual
def chkS (F : FT) (N : List Str) (sc : Scope) (fn : Str → Bool) : CS → Stmt → Bool
  | .nop, .Pass _ => true
  | .expr e, .Expr ee _ => notComp ee && chkE F N e sc ee
  | .ret e, .Return (some ee) _ => chkE F N e sc ee
  | .retO e, .Return (some ee) _ => chkE F N e sc ee
  | .retV i, .Return (some ee) _ => chkE F N (.var i) sc ee
  | .retN, .Return none _ => true
  | .asg t e, .Assign [tg] ee _ => notStar tg && chkT N sc fn t tg && swapFree sc tg ee && compFree sc tg ee && chkE F N e sc ee
  | .asgO i e, .Assign [tg] ee _ => chkT N sc fn (.name i) tg && chkE F N e sc ee && (compFree sc tg ee || lcTrue sc tg ee)
  | .par is es, .Assign [tg] ee _ => parChk N sc is tg ee && (match ee with | .Tuple vs _ _ => chkA F N es sc vs | _ => false)
  | .app i e, .Expr (.Call (.Attribute (.Name y py) m ap) [ea] [] p) _ => chkE F N (.var i) sc (.Name y py) && decide (m = "append") && notStar ea && (ap.endLine == p.line) && chkE F N e sc ea
  | .ite c a b, .If ec sa sb _ => chkE F N c sc ec && chkSs F N sc fn a sa && chkSs F N sc fn b sb
  | .for_ t it b, .For tg ie body orelse _ => orelse.isEmpty && notSet ie && chkI F N it sc tg ie && chkT N sc fn t tg && chkSs F N sc fn b body
  | .brk, .Break _ => true
  | .cnt, .Continue _ => true
  | _, _ => false
def chkSs (F : FT) (N : List Str) (sc : Scope) (fn : Str → Bool) : CS → List Stmt → Bool
  | .nop, [] => true
  | .seq (.frz _) b, sts => chkSs F N sc fn b sts
  | .seq a b, st :: sts => chkS F N sc fn a st && chkSs F N sc fn b sts
  | _, _ => false
end
theorem Ext.trans {H H1 H2 : Hp} {O O1 O2 : Addr → Prop} (a : Ext H H1 O O1) (b : Ext H1 H2 O1 O2) : Ext H H2 O O2 := by
  refine ⟨fun c u h n => b.keep c u (a.keep c u h n) fun z => ?_, fun c h => ?_, fun c xs h => b.tup c xs (a.tup c xs h), fun c o u h => b.frz c o u (a.frz c o u h)⟩
  · rcases a.new c z with z | z
    · exact n z
    · rw [z] at h; cases h
  · rcases b.new c h with z | z
    · exact a.new c z
    · cases q : H c with
      | none => exact .inr rfl
      | some u =>
        by_cases m : O c
        · exact .inl m
        · rw [a.keep c u q m] at z; cases z
/-- what is handed back -/
structure RetOk (K : PySem.W.Frag) (Γ : Gh) (H : Hp) (s : Slot) (v : V) : Prop where
  same : SameM Γ Γ.H0 H
  w : Γ.W H
  rep : ∃ O, (∀ b, Γ.O0 b → O b) ∧ SRep K Γ H O s v
/-- what is wanted behind a statement, from the heap and the avoided ones ahead of it -/
structure EnOk (K : PySem.W.Frag) (xr : XRep) (W : WX) (Γ : Gh) (H : Hp) (O : Addr → Prop) (B : Ends) (E : En) : Prop where
  nx : ∀ δ' σ' H' O', E.nx δ' → Fr K Γ δ' σ' H' O' → Ext H H' O O' → B.nx σ' H'
  rt : ∀ s v H', E.rt s → RetOk K Γ H' s v → B.rt v H'
  bk : ∀ δ' σ' H' O', E.bk δ' → Fr K Γ δ' σ' H' O' → Ext H H' O O' → B.bk σ' H'
  ct : ∀ δ' σ' H' O', E.ct δ' → Fr K Γ δ' σ' H' O' → Ext H H' O O' → B.ct σ' H'
  xc : ∀ e δ' σ' H' O' cls dd, E.xc e δ' → Fr K Γ δ' σ' H' O' → xr H' O' e cls dd → W cls dd σ' H'
def tS (K : PySem.W.Frag) (xr : XRep) (C : Cfg) (W : WX) (c : CS) : TS := fun B σ H => ∃ Γ δ O E, Fr K Γ δ σ H O ∧ ex C c δ E ∧ EnOk K xr W Γ H O B E
section
variable {K : PySem.W.Frag} {xr : XRep} {C : Cfg} {W : WX} {Γ : Gh} {δ : Dl} {σ : L2.St} {H H1 : Hp} {O O1 : Addr → Prop} {B : Ends} {E : En}
theorem EnOk.ext (h : EnOk K xr W Γ H O B E) (x : Ext H H1 O O1) : EnOk K xr W Γ H1 O1 B E :=
  ⟨fun a b c d e f g => h.nx a b c d e f (x.trans g), h.rt, fun a b c d e f g => h.bk a b c d e f (x.trans g), fun a b c d e f g => h.ct a b c d e f (x.trans g), h.xc⟩
theorem EnOk.x (h : EnOk K xr W Γ H O B E) (fr : Fr K Γ δ σ H O) : XOk xr W Γ O σ H fun e => E.xc e δ := fun e cls dd H' a b c => h.xc e δ σ H' O cls dd a (fr.later b) c
theorem Fr.ret {s : Slot} {v : V} (fr : Fr K Γ δ σ H O) (r : SRep K Γ H O s v) : RetOk K Γ H s v := ⟨fr.same, fr.w, O, fr.sub, r⟩
/-- a list of one's own is let go -/
theorem Fr.freeze {i : Nat} {ds : List D} (fr : Fr K Γ δ σ H O) (h : δ[i]? = some (some (.own ds))) : ∃ O1, Fr K Γ (δ.set i (some (.val (.list ds)))) σ H O1 ∧ Ext H H O O1 := by
  obtain ⟨v, e, a, vs, rfl, e2, e3, e4, e5⟩ := fr.slot i _ h
  have x : Ext H H O (fun b => O b ∧ b ≠ a) := Ext.sub fun b z => z.1
  have hi : i < δ.length := (List.getElem?_eq_some_iff.mp h).1
  refine ⟨fun b => O b ∧ b ≠ a, ⟨fr.gh, by simp [fr.len], fr.same, fun b z => ⟨fr.sub b z, fun q => fr.gh.ot b z (by rw [q]; exact e4)⟩, fun b z => fr.otr b z.1, fr.w, fun j s hj => ?_, fun j k b ds' es' h1 h2 h3 h4 => ?_⟩, x⟩
  · by_cases q : i = j
    · subst q
      rw [List.getElem?_set_self hi] at hj
      cases hj
      exact ⟨_, e, .lst (.inl ⟨.inl e2, fun z => z.2 rfl⟩) (Reps.ext x ds vs e5)⟩
    · rw [List.getElem?_set_ne q] at hj
      obtain ⟨u, e1, r⟩ := fr.slot j s hj
      refine ⟨u, e1, ?_⟩
      cases s with
      | val d => exact Rep.ext x d u r
      | own es =>
        obtain ⟨b, us, rfl, f2, f3, f4, f5⟩ := r
        refine ⟨b, us, rfl, f2, ⟨f3, fun z => q ?_⟩, f4, Reps.ext x es us f5⟩
        subst z
        exact fr.dist i j b ds es h hj e e1
      | st => exact r
  · by_cases q : i = j
    · subst q; rw [List.getElem?_set_self hi] at h1; cases h1
    · by_cases q' : i = k
      · subst q'; rw [List.getElem?_set_self hi] at h2; cases h2
      · rw [List.getElem?_set_ne q] at h1
        rw [List.getElem?_set_ne q'] at h2
        exact fr.dist j k b ds' es' h1 h2 h3 h4
/-- a slot takes what is its own from now on -/
theorem Fr.setO {i : Nat} {s : Slot} {v : V} (fr : Fr K Γ δ σ H O) (hi : i < δ.length) (r : SRep K Γ H O s v) (hn : ∀ ds a, s = .own ds → v = .ref a → ∀ (j : Nat) es, δ[j]? = some (some (.own es)) → σ[j]? ≠ some (some (.ref a))) :
    Fr K Γ (δ.set i (some s)) (σ.set i (some v)) H O where
  gh := fr.gh
  len := by simp [fr.len]
  same := fr.same
  sub := fr.sub
  otr := fr.otr
  w := fr.w
  slot := fun j t h => by
    by_cases e : i = j
    · subst e
      rw [List.getElem?_set_self hi] at h
      cases h
      exact ⟨v, List.getElem?_set_self (by rw [← fr.len]; exact hi), r⟩
    · rw [List.getElem?_set_ne e] at h
      obtain ⟨u, e1, r1⟩ := fr.slot j t h
      exact ⟨u, by rw [List.getElem?_set_ne e]; exact e1, r1⟩
  dist := fun j k a ds es h1 h2 h3 h4 => by
    have hl : i < σ.length := by rw [← fr.len]; exact hi
    by_cases e : i = j
    · subst e
      by_cases e' : i = k
      · exact e'
      · rw [List.getElem?_set_self hi] at h1
        rw [List.getElem?_set_self hl] at h3
        rw [List.getElem?_set_ne e'] at h2 h4
        cases h1
        cases h3
        exact absurd h4 (hn ds a rfl rfl k es h2)
    · by_cases e' : i = k
      · subst e'
        rw [List.getElem?_set_self hi] at h2
        rw [List.getElem?_set_self hl] at h4
        rw [List.getElem?_set_ne e] at h1 h3
        cases h2
        cases h4
        exact absurd h3 (hn es a rfl rfl j ds h1)
      · rw [List.getElem?_set_ne e] at h1 h3
        rw [List.getElem?_set_ne e'] at h2 h4
        exact fr.dist j k a ds es h1 h2 h3 h4
end
end Tk
namespace Tk
open PySem PySem.Spec PyProof.Rows L2
section
variable {K : PySem.W.Frag} {xr : XRep} {C : Cfg} {W : WX} {Γ : Gh} {δ : Dl} {σ : L2.St} {H H1 H' : Hp} {O O1 : Addr → Prop} {B : Ends} {E : En} {a : Addr}
theorem Fr.h0 (fr : Fr K Γ δ σ H O) (h : H a = none) : Γ.H0 a = none := by
  cases q : Γ.H0 a with
  | none => rfl
  | some u =>
    by_cases m : Γ.M a
    · exact absurd h (fr.gh.wm H fr.w a m)
    · rw [fr.same a u q m] at h; cases h
theorem Fr.nslot (fr : Fr K Γ δ σ H O) (h : H a = none) (i : Nat) (ds : List D) (e1 : δ[i]? = some (some (.own ds))) : σ[i]? ≠ some (some (.ref a)) := fun e2 => by
  obtain ⟨v, e3, b, vs, e4, e5, _⟩ := fr.slot i _ e1
  rw [e2] at e3
  cases e3
  cases e4
  rw [h] at e5; cases e5
/-- a new list is one's own -/
theorem Fr.grow (fr : Fr K Γ δ σ H O) (l : Later Γ H H') (h : H a = none) {o : HO} (h' : H' a = some o) : Fr K Γ δ σ H' (fun b => O b ∨ b = a) ∧ Ext H H' O (fun b => O b ∨ b = a) := by
  have x : Ext H H' O (fun b => O b ∨ b = a) := by
    have y := fr.ext l
    exact ⟨y.keep, fun b z => z.elim .inl fun e => .inr (by rw [e]; exact h), y.tup, y.frz⟩
  have f := fr.later l
  refine ⟨⟨f.gh, f.len, f.same, fun b z => .inl (f.sub b z), fun b z e => ?_, f.w, fun i s hs => ?_, f.dist⟩, x⟩
  · rcases z with z | rfl
    · exact f.otr b z e
    · rw [h'] at e; cases e
  · obtain ⟨v, e, r⟩ := fr.slot i s hs
    refine ⟨v, e, ?_⟩
    cases s with
    | val d => exact Rep.ext x d v r
    | own ds =>
      obtain ⟨b, vs, e1, e2, e3, e4, e5⟩ := r
      exact ⟨b, vs, e1, l.same b _ e2 (fr.noM e4), .inl e3, e4, Reps.ext x ds vs e5⟩
    | st => exact r
/-- what an expression gives, to be one's own -/
structure OwnOk (K : PySem.W.Frag) (Γ : Gh) (δ : Dl) (σ : L2.St) (H : Hp) (O : Addr → Prop) (s : Slot) (v : V) (H' : Hp) (O' : Addr → Prop) : Prop where
  fr : Fr K Γ δ σ H' O'
  ext : Ext H H' O O'
  lat : Later Γ H H'
  sub : ∀ b, O b → O' b
  rep : SRep K Γ H' O' s v
  new : ∀ ds b, s = .own ds → v = .ref b → H b = none
def tO (K : PySem.W.Frag) (xr : XRep) (C : Cfg) (W : WX) (c : CE) : TE := fun σ H Q => ∃ Γ δ O k x, Fr K Γ δ σ H O ∧ evO C c δ k x ∧
  (∀ s v H' O', k s → OwnOk K Γ δ σ H O s v H' O' → Q v H') ∧ XOk xr W Γ O σ H x
theorem OwnOk.after {s : Slot} {v : V} {O2 : Addr → Prop} {H2 : Hp} (fr : Fr K Γ δ σ H O) (l : Later Γ H H1) (o : OwnOk K Γ δ σ H1 O s v H2 O2) : OwnOk K Γ δ σ H O s v H2 O2 :=
  ⟨o.fr, (fr.ext l).trans o.ext, l.trans o.lat, o.sub, o.rep, fun ds b e1 e2 => by
    have h1 := o.new ds b e1 e2
    cases q : H b with
    | none => rfl
    | some u =>
      by_cases m : Γ.M b
      · exact absurd h1 (fr.gh.wm H1 l.w b m)
      · rw [l.same b u q m] at h1; cases h1⟩
end
section
variable {F : FT} {N : List Str} {C : Cfg} {xr : XRep} {n : Nat}
theorem sO_val {X : Cx} {sc : Scope} {W : WX} (h : Here X F N sc C xr n W) {c : CE} {e : Expr} (he : ∀ δ k x, evO C c δ k x = ev C false c δ (fun d => k (.val d)) x) (hc : chkE F N c sc e = true) : PE X e (tO X.K xr C W c) := by
  refine PE.imp (sE h false c e hc) fun σ H Q ⟨Γ, δ, O, k, x, fr, hev, q, hx⟩ => ?_
  rw [he] at hev
  exact ⟨Γ, δ, O, _, x, fr, hev, fun d v H' hk l rp => q _ _ _ O hk ⟨fr.later l, fr.ext l, l, fun _ z => z, rp, fun _ _ z => by cases z⟩, hx⟩
/-- the end of a comprehension that is one's own -/
theorem comp_own {K : PySem.W.Frag} {σ : L2.St} {H H' : Hp} {Γ : Gh} {δ : Dl} {O : Addr → Prop} {acc : List D} {p : Addr} {vs : List V} (fr : Fr K Γ δ σ H O)
    (l : Later Γ H H') (hp : H p = none) (e : H' p = some (.lst vs)) (r : Reps K H' (fun b => O b ∨ b = p) vs acc) : OwnOk K Γ δ σ H O (.own acc) (.ref p) H' (fun b => O b ∨ b = p) := by
  obtain ⟨f2, x2⟩ := fr.grow l hp e
  exact ⟨f2, x2, l, fun _ z => .inl z, ⟨p, vs, rfl, e, .inr rfl, fr.h0 hp, r⟩, fun _ b _ e2 => by cases e2; exact hp⟩
theorem comp_parts {X : Cx} {sc scope : Scope} {W : WX} {own : List Nat} {e it ifs : CE} {t : Tg} {elt tg iter : Expr} {ifs' : List Expr} {p : Pos} {a : Int} (h : Here X F N sc C xr n W)
    (hc : chkE F N (.comp own e t it ifs) sc (.ListComp elt [⟨tg, iter, ifs', a⟩] scope p) = true) :
    a = 0 ∧ PI X tg iter (tI X.K xr C W true it) ∧ BlkOk X.N X.env.scope scope (own.map fun i => (N.getD i "", i)) ∧
    (∀ (s : Shared) (H : Hp) (A : Addr) (cl : List (Str × Addr)) (fp : List Addr), PG (X.blk s H scope (compEnvC scope cl A X.env) fp) tg (gT X.K t)) ∧
    (∀ (s : Shared) (H : Hp) (A : Addr) (cl : List (Str × Addr)) (fp : List Addr), PTs (X.blk s H scope (compEnvC scope cl A X.env) fp) ifs' (tT X.K xr C (fun _ _ _ _ => False) ifs)) ∧
    (∀ (s : Shared) (H : Hp) (A : Addr) (cl : List (Str × Addr)) (fp : List Addr), PE (X.blk s H scope (compEnvC scope cl A X.env) fp) elt (tE X.K xr C (fun _ _ _ _ => False) false e)) ∧
    (∀ y, foldedSetIterable iter X.env y = pure y) ∧ (∀ i ∈ tgs t, i ∈ own) ∧ (own.map fun i => (N.getD i "", i)).map (·.2) = own := by
  simp only [chkE, Bool.and_eq_true, decide_eq_true_eq] at hc
  obtain ⟨⟨⟨⟨⟨⟨⟨rfl, h1⟩, h2⟩, h3⟩, h4⟩, h5⟩, h6⟩, h7⟩ := hc
  refine ⟨rfl, sI h true it tg iter h3, by rw [h.hN, h.site.sc]; exact blkOk_by h1, fun s H A cl fp => sTg (X := X.blk s H scope (compEnvC scope cl A X.env) fp) h.hN h.nd (h.blk s H A cl fp).site.sc rfl h.site.calm t tg h4, fun s H A cl fp => ?_, fun s H A cl fp => sE (h.blk s H A cl fp) false e elt h7, fun y => ?_, by simpa using h5, by simp [List.map_map, Function.comp_def]⟩
  · match ifs', h6 with
    | [], h6 =>
      cases ifs <;> first | (simp at h6; done) | skip
      refine ⟨fun pins s σ H Q I ⟨Γ, δ, O, k, x, fr, hev, q, hx⟩ => pts_nil.run pins s σ H Q I ?_⟩
      exact q true H (by simpa [evT] using hev) (.refl fr.w)
    | [c], h6 => exact pts_one (sT (h.blk s H A cl fp) ifs c h6)
    | _ :: _ :: _, h6 => simp at h6
  · cases iter <;> first | rfl | (simp [notSet] at h2)
theorem sO {X : Cx} {sc : Scope} {W : WX} (h : Here X F N sc C xr n W) (c : CE) (e : Expr) (hc : chkE F N c sc e = true) : PE X e (tO X.K xr C W c) := by
  cases c with
  | call f r =>
    cases e with
    | Call fe es kws p =>
      cases fe with
      | Name y py =>
        match kws, hc with
        | [], hc =>
          simp only [chkE, Bool.and_eq_true, decide_eq_true_eq] at hc
          obtain ⟨⟨⟨⟨h1, h2⟩, h3⟩, h4⟩, h5⟩ := hc
          have fin : ∀ {σ : L2.St} {H H1 : Hp} {Q : VK} {Γ : Gh} {δ : Dl} {O : Addr → Prop} {k : Slot → Prop} {x : KX} {ss : List Slot} {vs : List V}, Fr X.K Γ δ σ H O → Later Γ H H1 → C.call f ss k x → AReps X.K Γ H1 O ss vs →
              (∀ s v H' O', k s → OwnOk X.K Γ δ σ H O s v H' O' → Q v H') →
              XOk xr W Γ O σ H x → spC X.K xr C.call f es.length vs H1 Q fun cls dd H' => W cls dd σ H' := by
            intro σ H H1 Q Γ δ O k x ss vs fr l hk ar q hx
            have f1 := fr.later l
            refine ⟨by rw [← ar.length]; exact h.stat.lens f y _ h1 ss _ _ hk, Γ, O, ss, _, x, fr.gh, l.w, f1.otr, fr.m, ar, hk, fun s v H' hk l' rr => ?_, fun e cls dd H' hx' l' xx => hx e cls dd H' hx' (l.trans l') xx⟩
            cases s with
            | val d' => exact q _ _ _ O hk (OwnOk.after fr l ⟨f1.later l', f1.ext l', l', fun _ z => z, rr, fun _ _ z => by cases z⟩)
            | own ds =>
              obtain ⟨a, us, rfl, e2, e3, e4⟩ := rr
              exact q _ _ _ _ hk (OwnOk.after fr l (comp_own f1 l' e3 e2 e4))
            | st => exact q _ _ _ O hk (OwnOk.after fr l ⟨f1.later l', f1.ext l', l', fun _ z => z, rr, fun _ _ z => by cases z⟩)
          cases es with
          | nil =>
            refine PE.imp (pe_fn0 (p := py) (pos := p) h h1 h2 h3) fun σ H Q ⟨Γ, δ, O, k, x, fr, hev, q, hx⟩ => ?_
            have er : r = .nil := by cases r <;> first | rfl | (simp [chkA] at h5)
            subst er
            simp only [evO, evA] at hev
            exact fin fr (.refl fr.w) hev .nil q hx
          | cons e1 es =>
            refine PE.imp (pe_fn (p := py) (pos := p) h h1 h2 h3 h4 (sA h r _ h5)) fun σ H Q ⟨Γ, δ, O, k, x, fr, hev, q, hx⟩ => ?_
            simp only [evO] at hev
            exact ⟨Γ, δ, O, _, x, fr, hev, fun ss vs H1 hk l ar => fin fr l hk ar q hx, hx⟩
        | _ :: _, hc => simp [chkE] at hc
      | _ => simp [chkE] at hc
    | _ => simp [chkE] at hc
  | lst r =>
    cases e with
    | List es p =>
      simp only [chkE] at hc
      refine PE.imp (pe_lst (pos := p) (sA h r es hc)) fun σ H Q ⟨Γ, δ, O, k, x, fr, hev, q, hx⟩ => ?_
      simp only [evO, ev] at hev
      refine ⟨Γ, δ, O, _, x, fr, hev, fun ss vs H1 ⟨ds, e1, e2, hk⟩ l ar => ?_, hx⟩
      have rs := ar.vals e1
      refine ⟨by rw [rs.length]; exact e2, fun p hp => ?_⟩
      have f1 := fr.later l
      have l2 : Later Γ H1 (upd H1 p (.lst vs)) := Later.of_same f1.gh f1.w (same_upd hp)
      exact q _ _ _ _ hk (OwnOk.after fr l (comp_own f1 l2 hp upd_same (Reps.ext (f1.grow l2 hp upd_same).2 ds vs rs)))
    | _ => simp [chkE] at hc
  | comp own e' t it ifs =>
    cases e with
    | ListComp elt gens scope p =>
      match gens, hc with
      | [⟨tg, iter, ifs', a⟩], hc =>
        obtain ⟨rfl, hI, ok, hg, ht, he, hs, h5, hown⟩ := comp_parts h hc
        have P := pe_lc (pos := p) (elt := elt) (g := gT X.K t) h.site.calm h.nd hI ok hg ht he hs
        rw [hown] at P
        refine PE.imp P fun σ H Q ⟨Γ, δ, O, k, x, fr, hev, q, hx⟩ => ?_
        simp only [evO] at hev
        exact comp_core h5 fr hev hx fun acc p vs H' hk l hp e2 rs ot no => q _ _ _ _ hk (comp_own fr l hp e2 rs)
      | [], hc => simp [chkE] at hc
      | _ :: _ :: _, hc => simp [chkE] at hc
    | _ => simp [chkE] at hc
  | _ => exact sO_val h (fun _ _ _ => by simp only [evO]) hc
/-- several things, each one's own -/
inductive Owns (K : PySem.W.Frag) (Γ : Gh) (H : Hp) (O : Addr → Prop) : List Slot → List V → List Addr → Prop
  | nil : Owns K Γ H O [] [] []
  | val {d : D} {v : V} {ss : List Slot} {vs : List V} {as : List Addr} : Rep K H O v d → Owns K Γ H O ss vs as → Owns K Γ H O (.val d :: ss) (v :: vs) as
  | st {ss : List Slot} {vs : List V} {as : List Addr} : Γ.sv ≠ .non → Owns K Γ H O ss vs as → Owns K Γ H O (.st :: ss) (Γ.sv :: vs) as
  | own {ds : List D} {b : Addr} {ss : List Slot} {vs : List V} {as : List Addr} : SRep K Γ H O (.own ds) (.ref b) → b ∉ as → Owns K Γ H O ss vs as → Owns K Γ H O (.own ds :: ss) (.ref b :: vs) (b :: as)
section
variable {K : PySem.W.Frag} {Γ : Gh} {δ δ' : Dl} {σ : L2.St} {H : Hp} {O : Addr → Prop}
def setV (σ : L2.St) : List Nat → List V → L2.St
  | i :: is, v :: vs => setV (σ.set i (some v)) is vs
  | _, _ => σ
theorem Fr.setAll {ss : List Slot} {vs : List V} {as : List Addr} (w : Owns K Γ H O ss vs as) : ∀ {is : List Nat} {δ : Dl} {σ : L2.St}, Fr K Γ δ σ H O → Tk.setAll δ is ss = some δ' → (∀ b ∈ as, ∀ (j : Nat) es, δ[j]? = some (some (.own es)) → σ[j]? ≠ some (some (.ref b))) → Fr K Γ δ' (setV σ is vs) H O := by
  induction w with
  | nil =>
    intro is δ σ fr e _
    cases is with
    | nil => simp [Tk.setAll] at e; subst e; exact fr
    | cons _ _ => simp [Tk.setAll] at e
  | val r w ih =>
    intro is δ σ fr e hn
    cases is with
    | nil => simp [Tk.setAll] at e
    | cons i is =>
      simp only [Tk.setAll] at e
      split at e
      · rename_i hi
        refine ih (fr.set hi r) e fun b hb j es hj => ?_
        by_cases q : i = j
        · subst q; rw [List.getElem?_set_self hi] at hj; cases hj
        · rw [List.getElem?_set_ne q] at hj ⊢; exact hn b hb j es hj
      · cases e
  | st hs w ih =>
    intro is δ σ fr e hn
    cases is with
    | nil => simp [Tk.setAll] at e
    | cons i is =>
      simp only [Tk.setAll] at e
      split at e
      · rename_i hi
        refine ih (fr.setO (s := .st) hi ⟨rfl, hs⟩ (fun _ _ z => by cases z)) e fun b hb j es hj => ?_
        by_cases q : i = j
        · subst q; rw [List.getElem?_set_self hi] at hj; cases hj
        · rw [List.getElem?_set_ne q] at hj ⊢; exact hn b hb j es hj
      · cases e
  | own r hb w ih =>
    rename_i ds b ss vs as
    intro is δ σ fr e hn
    cases is with
    | nil => simp [Tk.setAll] at e
    | cons i is =>
      simp only [Tk.setAll] at e
      split at e
      · rename_i hi
        refine ih (fr.setO hi r (fun _ a _ ea j es hj => by cases ea; exact hn b List.mem_cons_self j es hj)) e fun c hc j es hj => ?_
        by_cases q : i = j
        · subst q
          rw [List.getElem?_set_self (by rw [← fr.len]; exact hi)]
          intro z
          cases z
          exact hb hc
        · rw [List.getElem?_set_ne q] at hj ⊢; exact hn c (List.mem_cons_of_mem _ hc) j es hj
      · cases e
/-- a name's own list grows -/
theorem Fr.push {i : Nat} {ds : List D} {a : Addr} {vs : List V} {y : V} {d : D} (fr : Fr K Γ δ σ H O) (hd : δ[i]? = some (some (.own ds))) (hs : σ[i]? = some (some (.ref a))) (ha : H a = some (.lst vs)) (ho : O a) (h0 : Γ.H0 a = none) (rs : Reps K H O vs ds) (ry : Rep K H O y d) :
    Fr K Γ (δ.set i (some (.own (ds ++ [d])))) σ (upd H a (.lst (vs ++ [y]))) O ∧ Ext H (upd H a (.lst (vs ++ [y]))) O O := by
  have hi : i < δ.length := (List.getElem?_eq_some_iff.mp hd).1
  have nm : ¬ Γ.M a := fr.noM h0
  have keep : ∀ b u, H b = some u → b ≠ a → upd H a (.lst (vs ++ [y])) b = some u := fun b u h n => by rw [upd_ne n]; exact h
  have hx : Ext H (upd H a (.lst (vs ++ [y]))) O O := by
    refine ⟨fun b u h n => keep b u h (fun z => n (by rw [z]; exact ho)), fun b h => .inl h, fun b zs h => keep b _ h fun z => ?_, fun b o u h => keep b _ h fun z => ?_⟩
    · rw [z, ha] at h; cases h
    · rw [z, ha] at h; cases h
  refine ⟨⟨fr.gh, by simp [fr.len], fun b u h n => keep b u (fr.same b u h n) (fun z => by rw [z, h0] at h; cases h), fr.sub, fun b h e => ?_, ?_, fun j s h => ?_, fun j k b ds' es' h1 h2 h3 h4 => ?_⟩, hx⟩
  · by_cases z : b = a
    · subst z; rw [upd_same] at e; cases e
    · rw [upd_ne z] at e; exact fr.otr b h e
  · exact fr.gh.ws H _ (fun b hb => upd_ne fun z => nm (by rw [← z]; exact hb)) fr.w
  · by_cases q : i = j
    · subst q
      rw [List.getElem?_set_self hi] at h
      cases h
      exact ⟨_, hs, a, vs ++ [y], rfl, upd_same, ho, h0, (Reps.ext hx ds vs rs).append (.cons (Rep.ext hx d y ry) .nil)⟩
    · rw [List.getElem?_set_ne q] at h
      obtain ⟨v, e, r⟩ := fr.slot j s h
      refine ⟨v, e, ?_⟩
      cases s with
      | val d => exact Rep.ext hx d v r
      | own es =>
        obtain ⟨b, us, e1, e2, e3, e4, e5⟩ := r
        subst e1
        have na : b ≠ a := fun z => by
          subst z
          exact q (fr.dist i j b ds es hd h hs e)
        exact ⟨b, us, rfl, keep b _ e2 na, e3, e4, Reps.ext hx es us e5⟩
      | st => exact r
  · have f : ∀ (m : Nat) es, (δ.set i (some (.own (ds ++ [d]))))[m]? = some (some (.own es)) → ∃ es', δ[m]? = some (some (.own es')) := fun m es hm => by
      by_cases q : i = m
      · subst q; exact ⟨ds, hd⟩
      · rw [List.getElem?_set_ne q] at hm; exact ⟨es, hm⟩
    obtain ⟨_, g1⟩ := f j _ h1
    obtain ⟨_, g2⟩ := f k _ h2
    exact fr.dist j k b _ _ g1 g2 h3 h4
end
def tOs (K : PySem.W.Frag) (xr : XRep) (C : Cfg) (W : WX) (c : CE) : TA := fun σ H Q => ∃ Γ δ O k x, Fr K Γ δ σ H O ∧ evOs C c δ k x ∧
  (∀ ss vs as H' O', k ss → Fr K Γ δ σ H' O' → Ext H H' O O' → Later Γ H H' → (∀ b, O b → O' b) → Owns K Γ H' O' ss vs as → (∀ b ∈ as, H b = none) → Q vs H') ∧ XOk xr W Γ O σ H x
theorem sOs {X : Cx} {sc : Scope} {W : WX} (h : Here X F N sc C xr n W) : ∀ (c : CE) (es : List Expr), chkA F N c sc es = true → PA X es (tOs X.K xr C W c)
  | .nil, [], hc => PA.imp pa_nil fun σ H Q ⟨Γ, δ, O, k, x, fr, hev, q, hx⟩ => q [] [] [] H O (by simpa [evOs] using hev) fr .refl (.refl fr.w) (fun _ z => z) .nil (by simp)
  | .cons a r, e :: es, hc => by
    simp only [chkA, Bool.and_eq_true] at hc
    obtain ⟨⟨h1, h2⟩, h3⟩ := hc
    refine PA.imp (pa_cons (sO h a e h2) (sOs h r es h3) (star_cons h1)) fun σ H Q ⟨Γ, δ, O, k, x, fr, hev, q, hx⟩ => ?_
    simp only [evOs] at hev
    refine ⟨Γ, δ, O, _, x, fr, hev, fun s v H1 O1 hk o => ?_, hx⟩
    refine ⟨Γ, δ, O1, _, x, o.fr, hk, fun ss vs as H2 O2 hk f2 x2 l2 sb w n2 => ?_, fun e cls dd H' a b c => hx e cls dd H' a (o.lat.trans b) (h.stat.xm _ _ _ _ _ _ o.sub c)⟩
    have nn : ∀ b ∈ as, H b = none := fun b hb => by
      have h1 := n2 b hb
      cases q : H b with
      | none => rfl
      | some u =>
        by_cases m : Γ.M b
        · exact absurd h1 (fr.gh.wm H1 o.lat.w b m)
        · rw [o.lat.same b u q m] at h1; cases h1
    have sb2 : ∀ b, O b → O2 b := fun b z => sb b (o.sub b z)
    cases s with
    | val d => exact q _ _ as H2 O2 hk f2 (o.ext.trans x2) (o.lat.trans l2) sb2 (.val (Rep.ext x2 d v o.rep) w) nn
    | st =>
      obtain ⟨e, hs⟩ := o.rep
      subst e
      exact q _ _ as H2 O2 hk f2 (o.ext.trans x2) (o.lat.trans l2) sb2 (.st hs w) nn
    | own ds =>
      obtain ⟨b, us, rfl, g1, g2, g3, g4⟩ := id o.rep
      have hb := o.new ds b rfl rfl
      refine q _ _ (b :: as) H2 O2 hk f2 (o.ext.trans x2) (o.lat.trans l2) sb2 (.own ⟨b, us, rfl, l2.same b _ g1 (fr.noM g3), sb b g2, g3, Reps.ext x2 ds us g4⟩ (fun z => by rw [n2 b z] at g1; cases g1) w) fun c hc => ?_
      rcases List.mem_cons.mp hc with rfl | hc
      · exact hb
      · exact nn c hc
  | .nil, _ :: _, hc => by simp [chkA] at hc
  | .cons _ _, [], hc => by simp [chkA] at hc
  | .const _, _, hc => by simp [chkA] at hc
  | .var _, _, hc => by simp [chkA] at hc
  | .glob _, _, hc => by simp [chkA] at hc
  | .tup _, _, hc => by simp [chkA] at hc
  | .lst _, _, hc => by simp [chkA] at hc
  | .op1 _ _, _, hc => by simp [chkA] at hc
  | .op2 _ _ _, _, hc => by simp [chkA] at hc
  | .slc _ _ _, _, hc => by simp [chkA] at hc
  | .nopart, _, hc => by simp [chkA] at hc
  | .chain _ _ _ _ _, _, hc => by simp [chkA] at hc
  | .and_ _ _, _, hc => by simp [chkA] at hc
  | .or_ _ _, _, hc => by simp [chkA] at hc
  | .not_ _, _, hc => by simp [chkA] at hc
  | .ifx _ _ _, _, hc => by simp [chkA] at hc
  | .call _ _, _, hc => by simp [chkA] at hc
  | .comp _ _ _ _ _, _, hc => by simp [chkA] at hc
  | .iter _, _, hc => by simp [chkA] at hc
  | .range1 _, _, hc => by simp [chkA] at hc
  | .range2 _ _, _, hc => by simp [chkA] at hc
  | .zip2 _ _, _, hc => by simp [chkA] at hc
  | .enum _, _, hc => by simp [chkA] at hc
/-! ### statements -/
theorem Owns.same {K : PySem.W.Frag} {Γ : Gh} {H H' : Hp} {O : Addr → Prop} {ss : List Slot} {vs : List V} {as : List Addr} (s : Same H H') (w : Owns K Γ H O ss vs as) : Owns K Γ H' O ss vs as := by
  induction w with
  | nil => exact .nil
  | val r _ ih => exact .val (Rep.ext (Ext.same s) _ _ r) ih
  | st h _ ih => exact .st h ih
  | own r n _ ih =>
    obtain ⟨a, vs, e1, e2, e3, e4, e5⟩ := r
    exact .own ⟨a, vs, e1, s _ _ e2, e3, e4, Reps.ext (Ext.same s) _ _ e5⟩ n ih
def gNames : List Nat → TGs
  | [] => gNil
  | i :: is => gCons (gName i) (gNames is)
theorem gNames_set : ∀ {is : List Nat} {vs : List V} {σ : L2.St} {H : Hp} {Q : L2.St → Hp → Prop}, vs.length = is.length → Q (setV σ is vs) H → gNames is vs σ H Q
  | [], [], _, _, _, _, q => ⟨rfl, q⟩
  | [], _ :: _, _, _, _, h, _ => by simp at h
  | _ :: _, [], _, _, _, h, _ => by simp at h
  | i :: is, v :: vs, _, _, _, h, q => ⟨v, vs, rfl, gNames_set (by simpa using h) q⟩
theorem parNs_len {N : List Str} {sc : Scope} : ∀ {is : List Nat} {ts : List Expr}, parNs N sc is ts = true → ts.length = is.length
  | [], [], _ => rfl
  | [], _ :: _, h => by simp [parNs] at h
  | _ :: _, [], h => by simp [parNs] at h
  | i :: is, t :: ts, h => by
    cases t with
    | Name x p =>
      simp only [parNs, Bool.and_eq_true] at h
      simp [parNs_len h.2]
    | _ => simp [parNs] at h
theorem parNs_stars {N : List Str} {sc : Scope} : ∀ {is : List Nat} {ts : List Expr}, parNs N sc is ts = true → notStars ts = true
  | [], [], _ => rfl
  | [], _ :: _, h => by simp [parNs] at h
  | _ :: _, [], h => by simp [parNs] at h
  | i :: is, t :: ts, h => by
    cases t with
    | Name x p =>
      simp only [parNs, Bool.and_eq_true] at h
      have := parNs_stars h.2
      simp only [notStars, List.all_cons, Bool.and_eq_true] at this ⊢
      exact ⟨rfl, this⟩
    | _ => simp [parNs] at h
theorem pgs_names {X : Cx} {N : List Str} {sc : Scope} (hN : X.N = N) (nd : X.N.Nodup) (hsc : X.env.scope = sc) : ∀ {is : List Nat} {ts : List Expr}, parNs N sc is ts = true → PGs X ts (gNames is)
  | [], [], _ => pgs_nil
  | [], _ :: _, h => by simp [parNs] at h
  | _ :: _, [], h => by simp [parNs] at h
  | i :: is, t :: ts, h => by
    cases t with
    | Name x p =>
      simp only [parNs, parN, Bool.and_eq_true, decide_eq_true_eq] at h
      have hl : X.env.scope.names.lookup x = some .local := by rw [hsc]; exact h.1.2
      exact pgs_cons (pg_name nd (by rw [hN]; exact h.1.1) (.inl hl) (.inr hl)) (pgs_names hN nd hsc h.2) rfl
    | _ => simp [parNs] at h
structure HereS (X : Cx) (F : FT) (N : List Str) (sc : Scope) (fn : Str → Bool) (C : Cfg) (xr : XRep) (n : Nat) (W : WX) : Prop where
  toHere : Here X F N sc C xr n W
  fn : X.fn = fn
  po : PassesOwn (model X.prog X.w) X.A X.env X.xe
theorem tgt_one {tg : Expr} {env : Env} (h : notStar tg = true) : (assignEach [tg] env).map (·.2) = [assign tg env] := by
  rw [assign_cons h]; rfl
theorem name_ok {X : Cx} {sc : Scope} {fn : Str → Bool} {W : WX} {i : Nat} {y : Str} {p : Pos} (h : HereS X F N sc fn C xr n W) (hc : chkT N sc fn (.name i) (.Name y p) = true) :
    X.N[i]? = some y ∧ Loc X.env.scope y ∧ (X.fn y = true ∨ X.env.scope.names.lookup y = some .local) := by
  simp only [chkT, Bool.and_eq_true, Bool.or_eq_true, decide_eq_true_eq] at hc
  obtain ⟨h1, h2⟩ := hc
  rw [h.toHere.site.sc, h.fn, h.toHere.hN]
  refine ⟨h1, ?_, ?_⟩
  · rcases h2 with h2 | h2
    · exact .inl h2
    · exact .inr h2.1
  · rcases h2 with h2 | h2
    · exact .inr h2
    · exact .inl h2.2
mutual
theorem sS {X : Cx} {sc : Scope} {fn : Str → Bool} {W : WX} (h : HereS X F N sc fn C xr n W) : ∀ (c : CS) (st : Stmt), chkS F N sc fn c st = true → PS X st (tS X.K xr C W c)
  | .nop, st, hc => by
    cases st with
    | Pass p => exact PS.imp (ps_pass (pos := p)) fun B σ H ⟨Γ, δ, O, E, fr, hev, en⟩ => en.nx δ σ H O (by simpa [ex] using hev) fr .refl
    | _ => simp [chkS] at hc
  | .expr e, st, hc => by
    cases st with
    | Expr ee p =>
      simp only [chkS, Bool.and_eq_true] at hc
      refine PS.imp (ps_expr (pos := p) (sE h.toHere false e ee hc.2) (swapsWith_free hc.1)) fun B σ H ⟨Γ, δ, O, E, fr, hev, en⟩ => ?_
      simp only [ex] at hev
      exact ⟨Γ, δ, O, _, _, fr, hev, fun d v H' hk l rp => en.nx δ σ H' O hk (fr.later l) (fr.ext l), en.x fr⟩
    | _ => simp [chkS] at hc
  | .ret e, st, hc => by
    cases st with
    | Return v p =>
      cases v with
      | none => simp [chkS] at hc
      | some ee =>
        simp only [chkS] at hc
        refine PS.imp (ps_ret (pos := p) (sE h.toHere false e ee hc)) fun B σ H ⟨Γ, δ, O, E, fr, hev, en⟩ => ?_
        simp only [ex] at hev
        exact ⟨Γ, δ, O, _, _, fr, hev, fun d v H' hk l rp => en.rt _ v H' hk ((fr.later l).ret rp), en.x fr⟩
    | _ => simp [chkS] at hc
  | .retO e, st, hc => by
    cases st with
    | Return v p =>
      cases v with
      | none => simp [chkS] at hc
      | some ee =>
        simp only [chkS] at hc
        refine PS.imp (ps_ret (pos := p) (sO h.toHere e ee hc)) fun B σ H ⟨Γ, δ, O, E, fr, hev, en⟩ => ?_
        simp only [ex] at hev
        exact ⟨Γ, δ, O, _, _, fr, hev, fun s v H' O' hk o => en.rt _ v H' hk (o.fr.ret o.rep), en.x fr⟩
    | _ => simp [chkS] at hc
  | .retV i, st, hc => by
    cases st with
    | Return v p =>
      cases v with
      | none => simp [chkS] at hc
      | some ee =>
        simp only [chkS] at hc
        refine PS.imp (ps_ret (pos := p) (sV h.toHere i ee hc)) fun B σ H ⟨Γ, δ, O, E, fr, hev, en⟩ => ?_
        simp only [ex] at hev
        split at hev
        · rename_i s e1
          obtain ⟨v, e2, r⟩ := fr.slot i _ e1
          exact ⟨v, e2, en.rt s v H hev (fr.ret r)⟩
        · exact hev.elim
    | _ => simp [chkS] at hc
  | .retN, st, hc => by
    cases st with
    | Return v p =>
      cases v with
      | some _ => simp [chkS] at hc
      | none => exact PS.imp (ps_retN (pos := p)) fun B σ H ⟨Γ, δ, O, E, fr, hev, en⟩ => en.rt _ _ H (by simpa [ex] using hev) (fr.ret (s := .val .none) .non)
    | _ => simp [chkS] at hc
  | .asg t e, st, hc => by
    cases st with
    | Assign tgs' ee p =>
      match tgs', hc with
      | [tg], hc =>
        simp only [chkS, Bool.and_eq_true] at hc
        obtain ⟨⟨⟨⟨h1, h2⟩, h3⟩, h4⟩, h5⟩ := hc
        have hh := h.toHere
        refine PS.imp (ps_asg (pos := p) (sE hh false e ee h5) (sTg hh.hN hh.nd hh.site.sc h.fn hh.site.calm t tg h2) (compFree_ok (by rw [hh.site.sc]; exact h4)) (swapFree_ok (by rw [hh.site.sc]; exact h3)) (tgt_one h1)) fun B σ H ⟨Γ, δ, O, E, fr, hev, en⟩ => ?_
        simp only [ex] at hev
        refine ⟨Γ, δ, O, _, _, fr, hev, fun d v H' hk l rp => ?_, en.x fr⟩
        exact ⟨Γ, δ, O, d, _, fr.later l, hk, rp, fun δ' σ' hk' f' _ => en.nx δ' σ' H' O hk' f' (fr.ext l)⟩
      | [], hc => simp [chkS] at hc
      | _ :: _ :: _, hc => simp [chkS] at hc
    | _ => simp [chkS] at hc
  | .asgO i e, st, hc => by
    cases st with
    | Assign tgs' ee p =>
      match tgs', hc with
      | [tg0], hc =>
        simp only [chkS, Bool.and_eq_true, Bool.or_eq_true] at hc
        obtain ⟨⟨h1, h2⟩, h3⟩ := hc
        have hh := h.toHere
        obtain ⟨y, py, rfl⟩ : ∃ y py, tg0 = .Name y py := by cases tg0 <;> first | exact ⟨_, _, rfl⟩ | (simp [chkT] at h1)
        obtain ⟨hN, hl, hf⟩ := name_ok h h1
        have fin : ∀ {B : Ends} {σ : L2.St} {H : Hp} {Γ : Gh} {δ : Dl} {O : Addr → Prop} {E : En}, Fr X.K Γ δ σ H O → EnOk X.K xr W Γ H O B E → ∀ s v H' O', (i < δ.length ∧ E.nx (δ.set i (some s))) → OwnOk X.K Γ δ σ H O s v H' O' → B.nx (σ.set i (some v)) H' := by
          intro B σ H Γ δ O E fr en s v H' O' hk o
          refine en.nx _ _ H' O' hk.2 (o.fr.setO hk.1 o.rep fun ds b e1 e2 j es hj => ?_) o.ext
          exact fr.nslot (o.new ds b e1 e2) j es hj
        by_cases h4 : compFree sc (.Name y py) ee = true
        · refine PS.imp (ps_asg (pos := p) (sO hh e ee h2) (pg_name (i := i) (pos := py) hh.nd hN hl hf) (compFree_ok (by rw [hh.site.sc]; exact h4)) (swapFree_ok (by cases ee <;> rfl)) (tgt_one rfl)) fun B σ H ⟨Γ, δ, O, E, fr, hev, en⟩ => ?_
          simp only [ex] at hev
          exact ⟨Γ, δ, O, _, _, fr, hev, fun s v H' O' hk o => fin fr en s v H' O' hk o, en.x fr⟩
        · rcases h3 with h3 | h3
          · exact absurd h3 h4
          · cases ee with
            | ListComp elt gens s pp =>
              simp only [lcTrue, Bool.and_eq_true, decide_eq_true_eq, Bool.not_eq_true'] at h3
              obtain ⟨⟨⟨g2, g3⟩, g4⟩, g5⟩ := h3
              match gens, h2 with
              | [⟨tg, iter, ifs', aa⟩], h2 =>
                have hcomp : ∃ own e' t it ifs, e = .comp own e' t it ifs := by
                  cases e <;> first | exact ⟨_, _, _, _, _, rfl⟩ | (simp [chkE] at h2; done) | (simp only [chkE] at h2; rename_i o _; cases o <;> simp [chkOp1, chkOp2] at h2; done) | (simp only [chkE] at h2; rename_i o _ _; cases o <;> simp [chkOp1, chkOp2] at h2; done)
                obtain ⟨own, e', t, it, ifs, rfl⟩ := hcomp
                obtain ⟨rfl, hI, ok, hg, ht, he, hs, h5, hown⟩ := comp_parts hh h2
                have P := ps_setLc (i := i) (py := py) (pos := pp) (spos := p) (elt := elt) (g := gT X.K t) hh.site.calm hh.nd hN (by rw [hh.site.sc]; exact g3) (sw_true (by rw [hh.site.sc]; exact g2) (by rw [hh.site.sc]; exact g3) g4 g5) hI ok hg ht he hs
                rw [hown] at P
                refine PS.imp P fun B σ H ⟨Γ, δ, O, E, fr, hev, en⟩ => ?_
                simp only [ex, evO] at hev
                exact comp_core h5 fr hev (en.x fr) fun acc p vs H' hk l hp e2 rs ot no => fin fr en _ _ _ _ hk (comp_own fr l hp e2 rs)
              | [], h2 => exfalso; cases e <;> first | (simp [chkE] at h2; done) | (simp only [chkE] at h2; rename_i o _; cases o <;> simp [chkOp1, chkOp2] at h2; done) | (simp only [chkE] at h2; rename_i o _ _; cases o <;> simp [chkOp1, chkOp2] at h2; done)
              | _ :: _ :: _, h2 => exfalso; cases e <;> first | (simp [chkE] at h2; done) | (simp only [chkE] at h2; rename_i o _; cases o <;> simp [chkOp1, chkOp2] at h2; done) | (simp only [chkE] at h2; rename_i o _ _; cases o <;> simp [chkOp1, chkOp2] at h2; done)
            | _ => simp [lcTrue] at h3
      | [], hc => simp [chkS] at hc
      | _ :: _ :: _, hc => simp [chkS] at hc
    | _ => simp [chkS] at hc
  | .par is es, st, hc => by
    cases st with
    | Assign tgs' ee p =>
      match tgs', hc with
      | [tg0], hc =>
        simp only [chkS, Bool.and_eq_true] at hc
        obtain ⟨h1, h2⟩ := hc
        have hh := h.toHere
        have fin : ∀ {B : Ends} {σ : L2.St} {H : Hp} {Γ : Gh} {δ : Dl} {O : Addr → Prop} {E : En}, Fr X.K Γ δ σ H O → EnOk X.K xr W Γ H O B E → ∀ ss vs as H' O', (∃ δ', setAll δ is ss = some δ' ∧ E.nx δ') → Fr X.K Γ δ σ H' O' → Ext H H' O O' → Owns X.K Γ H' O' ss vs as → (∀ b ∈ as, H b = none) →
            vs.length = is.length ∧ B.nx (setV σ is vs) H' := by
          intro B σ H Γ δ O E fr en ss vs as H' O' hk f' x' w n'
          obtain ⟨δ', e1, hk⟩ := hk
          refine ⟨?_, en.nx _ _ H' O' hk (Fr.setAll w f' e1 fun b hb j es hj => fr.nslot (n' b hb) j es hj) x'⟩
          clear hk f' x'
          have l1 : ∀ {is : List Nat} {ss : List Slot} {δ δ' : Dl}, setAll δ is ss = some δ' → ss.length = is.length := by
            intro is
            induction is with
            | nil => intro ss δ δ' h; cases ss <;> simp [setAll] at h ⊢
            | cons i is ih =>
              intro ss δ δ' h
              cases ss with
              | nil => simp [setAll] at h
              | cons s ss =>
                simp only [setAll] at h
                split at h
                · simp [ih h]
                · cases h
          have l2 : ∀ {ss : List Slot} {vs : List V} {as : List Addr}, Owns X.K Γ H' O' ss vs as → vs.length = ss.length := by
            intro ss vs as w
            induction w <;> simp_all
          rw [l2 w, l1 e1]
        unfold parChk at h1
        split at h1
        · simp only [parN, Bool.and_eq_true, decide_eq_true_eq] at h1
          obtain ⟨⟨⟨⟨a1, a2⟩, b1, b2⟩, c1⟩, c2⟩ := h1
          refine PS.imp (ps_par (pos := p) hh.site.calm hh.nd (by rw [hh.hN]; exact a1) (by rw [hh.hN]; exact b1) c1 (by rw [hh.site.sc]; exact a2) (by rw [hh.site.sc]; exact b2) (sOs hh es _ h2) (swap_eq (by rw [hh.site.sc]; exact c2))) fun B σ H ⟨Γ, δ, O, E, fr, hev, en⟩ => ?_
          simp only [ex] at hev
          refine ⟨Γ, δ, O, _, _, fr, hev, fun ss vs as H' O' hk f' x' l' sb w n' => ?_, en.x fr⟩
          obtain ⟨hl, hq⟩ := fin fr en ss vs as H' O' hk f' x' w n'
          match vs, hl with
          | [v, u], _ => exact ⟨v, u, rfl, hq⟩
        · simp only [parN, Bool.and_eq_true, decide_eq_true_eq] at h1
          obtain ⟨⟨⟨⟨⟨⟨⟨a1, a2⟩, b1, b2⟩, d1, d2⟩, c1⟩, c3⟩, c4⟩, c2⟩ := h1
          refine PS.imp (ps_par3 (pos := p) hh.site.calm hh.nd (by rw [hh.hN]; exact a1) (by rw [hh.hN]; exact b1) (by rw [hh.hN]; exact d1) c1 c3 c4 (by rw [hh.site.sc]; exact a2) (by rw [hh.site.sc]; exact b2) (by rw [hh.site.sc]; exact d2) (sOs hh es _ h2) (swap_eq (by rw [hh.site.sc]; exact c2))) fun B σ H ⟨Γ, δ, O, E, fr, hev, en⟩ => ?_
          simp only [ex] at hev
          refine ⟨Γ, δ, O, _, _, fr, hev, fun ss vs as H' O' hk f' x' l' sb w n' => ?_, en.x fr⟩
          obtain ⟨hl, hq⟩ := fin fr en ss vs as H' O' hk f' x' w n'
          match vs, hl with
          | [v, u, z], _ => exact ⟨v, u, z, rfl, hq⟩
        · simp only [Bool.and_eq_true, decide_eq_true_eq] at h1
          obtain ⟨⟨a1, a2⟩, c2⟩ := h1
          refine PS.imp (ps_asg (pos := p) (pe_tup (sOs hh es _ h2)) (pg_tup hh.site.calm (pgs_names hh.hN hh.nd hh.site.sc a1) ((assign_len (parNs_stars a1)).1.trans (parNs_len a1)) (assign_len (parNs_stars a1)).2) (compFree_ok rfl) (swap_eq (by rw [hh.site.sc]; exact c2)) (tgt_one rfl)) fun B σ H ⟨Γ, δ, O, E, fr, hev, en⟩ => ?_
          simp only [ex] at hev
          refine ⟨Γ, δ, O, _, _, fr, hev, fun ss vs as H' O' hk f' x' l' sb w n' => ?_, en.x fr⟩
          have hl0 := (fin fr en ss vs as H' O' hk f' x' w n').1
          refine ⟨by rw [hl0, ← parNs_len a1, sizeLine_eq]; omega, fun T hT => ?_⟩
          have sm : Same H' (upd H' T (.tup vs)) := same_upd hT
          have lt := Later.of_same f'.gh f'.w sm
          obtain ⟨hl, hq⟩ := fin fr en ss vs as _ O' hk (f'.later lt) (x'.trans (f'.ext lt)) (w.same sm) n'
          exact ⟨T, vs, rfl, .inl (.inl upd_same), hl, gNames_set hl hq⟩
        · cases h1
      | [], hc => simp [chkS] at hc
      | _ :: _ :: _, hc => simp [chkS] at hc
    | _ => simp [chkS] at hc
  | .app i e, st, hc => by
    cases st with
    | Expr ee p =>
      cases ee with
      | Call fe args kws pc =>
        cases fe with
        | Attribute o m ap =>
          cases o with
          | Name y py =>
            match args, kws, hc with
            | [ea], [], hc =>
              simp only [chkS, Bool.and_eq_true, decide_eq_true_eq] at hc
              obtain ⟨⟨⟨⟨h1, rfl⟩, h3⟩, h4⟩, h5⟩ := hc
              have hh := h.toHere
              refine PS.imp (ps_expr (pos := p) (pe_bm PySem.F.plainAttrs_list PySem.F.slot_list_append PySem.F.type_list_append mt_append (sV hh i _ h1) (pa_cons (sE hh false e ea h5) pa_nil (star_cons h3)) (base_ok rfl) (by rw [star_cons h3]; rfl) h4 (star_cons h3) rfl) (swapsWith_free rfl)) fun B σ H ⟨Γ, δ, O, E, fr, hev, en⟩ => ?_
              simp only [ex] at hev
              split at hev
              · rename_i ds e1
                obtain ⟨v, e2, a, vs, rfl, g1, g2, g3, g4⟩ := fr.slot i _ e1
                refine ⟨_, e2, .inl ⟨rfl, vs, .inl (.inl g1)⟩, Γ, δ, O, _, _, fr, hev, fun d y H' hk l rp => ?_, en.x fr⟩
                have f1 := fr.later l
                have ga : H' a = some (.lst vs) := l.same a _ g1 (fr.noM g3)
                have gr := Reps.ext (fr.ext l) ds vs g4
                obtain ⟨f2, x2⟩ := f1.push e1 e2 ga g2 g3 gr rp
                exact ⟨a, vs, y, rfl, rfl, ga, by rw [gr.length]; exact hk.1, en.nx _ _ _ O hk.2 f2 ((fr.ext l).trans x2)⟩
              · exact hev.elim
            | [], _, hc => simp [chkS] at hc
            | [_], _ :: _, hc => simp [chkS] at hc
            | _ :: _ :: _, _, hc => simp [chkS] at hc
          | _ => simp [chkS] at hc
        | _ => simp [chkS] at hc
      | _ => simp [chkS] at hc
    | _ => simp [chkS] at hc
  | .frz i, st, hc => by cases st <;> simp [chkS] at hc
  | .seq a b, st, hc => by cases st <;> simp [chkS] at hc
  | .ite c a b, st, hc => by
    cases st with
    | If ec sa sb p =>
      simp only [chkS, Bool.and_eq_true] at hc
      refine PS.imp (ps_if (pos := p) (sT h.toHere c ec hc.1.1) (sSs h a sa hc.1.2) (sSs h b sb hc.2)) fun B σ H ⟨Γ, δ, O, E, fr, hev, en⟩ => ?_
      simp only [ex] at hev
      refine ⟨Γ, δ, O, _, _, fr, hev, fun z H' hk l => ?_, en.x fr⟩
      cases z with
      | true => exact ⟨Γ, δ, O, E, fr.later l, hk, en.ext (fr.ext l)⟩
      | false => exact ⟨Γ, δ, O, E, fr.later l, hk, en.ext (fr.ext l)⟩
    | _ => simp [chkS] at hc
  | .for_ t it b, st, hc => by
    cases st with
    | For tg ie body orelse p =>
      simp only [chkS, Bool.and_eq_true, List.isEmpty_iff] at hc
      obtain ⟨⟨⟨⟨rfl, h2⟩, h3⟩, h4⟩, h5⟩ := hc
      have hh := h.toHere
      refine PS.imp (ps_for (pos := p) h.po hh.site.calm (sI hh false it tg ie h3) (sTg hh.hN hh.nd hh.site.sc h.fn hh.site.calm t tg h4) (sSs h b body h5) (fun y => by cases ie <;> first | rfl | (simp [notSet] at h2))) fun B σ H ⟨Γ, δ, O, E, fr, hev, en⟩ => ?_
      simp only [ex] at hev
      refine ⟨Γ, δ, O, _, _, fr, hev, fun xs J H1 hk l wk => ?_, en.x fr⟩
      obtain ⟨G, Y, w, hw⟩ := wk
      have f1 := fr.later l
      refine for_it w (fun i σ' H' => ∃ δ' O', Fr X.K Γ δ' σ' H' O' ∧ loopS (fun y δ' E' => bindT t y δ' fun δ1 => ex C b δ1 E') (xs.drop i) δ' E ∧ Ext H1 H' O O') ⟨δ, O, f1, hk, .refl⟩ ?_ ?_ ?_
      · rintro i σ' H' _ ⟨δ', O', f', _, x'⟩
        exact (hw H' O' x' (fun z => by cases z) f'.otr).1
      · rintro i y σ' H' H2 hi ⟨δ', O', f', hl, x'⟩ hy
        obtain ⟨s2, d, ed, rd⟩ := (hw H' O' x' (fun z => by cases z) f'.otr).2 i y H2 hi hy
        have hdrop : xs.drop i = d :: xs.drop (i + 1) := by
          obtain ⟨h', e'⟩ := List.getElem?_eq_some_iff.mp ed
          rw [List.drop_eq_getElem_cons h', e']
        rw [hdrop] at hl
        simp only [loopS] at hl
        have l2 : Later Γ H' H2 := Later.of_same f'.gh f'.w s2
        have f2 := f'.later l2
        have x2 : Ext H1 H2 O O' := x'.trans (f'.ext l2)
        refine ⟨Γ, δ', O', d, _, f2, hl, rd, fun δ3 σ3 hk3 f3 _ => ⟨Γ, δ3, O', _, f3, hk3, ?_⟩⟩
        refine ⟨fun δ4 σ4 H4 O4 hk4 f4 x4 => ⟨δ4, O4, f4, hk4, x2.trans x4⟩, en.rt, fun δ4 σ4 H4 O4 hk4 f4 x4 => en.nx δ4 σ4 H4 O4 hk4 f4 ((fr.ext l).trans (x2.trans x4)), fun δ4 σ4 H4 O4 hk4 f4 x4 => ⟨δ4, O4, f4, hk4, x2.trans x4⟩, en.xc⟩
      · rintro σ' H' ⟨δ', O', f', hl, x'⟩
        have : xs.drop xs.length = [] := by simp
        rw [this] at hl
        simp only [loopS] at hl
        exact en.nx δ' σ' H' O' hl f' ((fr.ext l).trans x')
    | _ => simp [chkS] at hc
  | .brk, st, hc => by
    cases st with
    | Break p => exact PS.imp (ps_break (pos := p)) fun B σ H ⟨Γ, δ, O, E, fr, hev, en⟩ => en.bk δ σ H O (by simpa [ex] using hev) fr .refl
    | _ => simp [chkS] at hc
  | .cnt, st, hc => by
    cases st with
    | Continue p => exact PS.imp (ps_continue (pos := p)) fun B σ H ⟨Γ, δ, O, E, fr, hev, en⟩ => en.ct δ σ H O (by simpa [ex] using hev) fr .refl
    | _ => simp [chkS] at hc
termination_by c => 2 * sizeOf c
theorem sSs {X : Cx} {sc : Scope} {fn : Str → Bool} {W : WX} (h : HereS X F N sc fn C xr n W) : ∀ (c : CS) (sts : List Stmt), chkSs F N sc fn c sts = true → PSs X sts (tS X.K xr C W c)
  | .nop, [], hc => PSs.imp pss_nil fun B σ H ⟨Γ, δ, O, E, fr, hev, en⟩ => en.nx δ σ H O (by simpa [ex] using hev) fr .refl
  | .seq a b, sts, hc => by
    by_cases ha : ∃ i, a = .frz i
    · obtain ⟨i, rfl⟩ := ha
      simp only [chkSs] at hc
      refine PSs.imp (sSs h b sts hc) fun B σ H ⟨Γ, δ, O, E, fr, hev, en⟩ => ?_
      simp only [ex] at hev
      split at hev
      · rename_i ds e1
        obtain ⟨O1, f1, x1⟩ := fr.freeze e1
        exact ⟨Γ, _, O1, E, f1, hev, en.ext x1⟩
      · exact ⟨Γ, δ, O, E, fr, hev, en⟩
    · cases sts with
      | nil => cases a <;> first | (simp [chkSs] at hc; done) | exact absurd ⟨_, rfl⟩ ha
      | cons st sts =>
        have hc' : chkS F N sc fn a st = true ∧ chkSs F N sc fn b sts = true := by
          cases a <;> first | (simpa [chkSs] using hc) | exact absurd ⟨_, rfl⟩ ha
        refine PSs.imp (pss_cons (sS h a st hc'.1) (sSs h b sts hc'.2)) fun B σ H ⟨Γ, δ, O, E, fr, hev, en⟩ => ?_
        simp only [ex] at hev
        exact ⟨Γ, δ, O, _, fr, hev, ⟨fun δ' σ' H' O' hk f' x' => ⟨Γ, δ', O', E, f', hk, en.ext x'⟩, en.rt, en.bk, en.ct, en.xc⟩⟩
  | .nop, _ :: _, hc => by simp [chkSs] at hc
  | .expr _, _, hc => by simp [chkSs] at hc
  | .ret _, _, hc => by simp [chkSs] at hc
  | .retO _, _, hc => by simp [chkSs] at hc
  | .retV _, _, hc => by simp [chkSs] at hc
  | .retN, _, hc => by simp [chkSs] at hc
  | .asg _ _, _, hc => by simp [chkSs] at hc
  | .asgO _ _, _, hc => by simp [chkSs] at hc
  | .par _ _, _, hc => by simp [chkSs] at hc
  | .app _ _, _, hc => by simp [chkSs] at hc
  | .frz _, _, hc => by simp [chkSs] at hc
  | .ite _ _ _, _, hc => by simp [chkSs] at hc
  | .for_ _ _ _, _, hc => by simp [chkSs] at hc
  | .brk, _, hc => by simp [chkSs] at hc
  | .cnt, _, hc => by simp [chkSs] at hc
termination_by c => 2 * sizeOf c + 1
end
end
end Tk
namespace Tk
open PySem PySem.Spec PyProof.Rows L2
structure Def where
  st : Stmt
  nm : Str
  ps : List Str
  N : List Str
  body : CS
inductive Ent where
  | code (d : Def)
  | prim (nm : Str) (np lvl : Nat) (sem : List Slot → (Slot → Prop) → KX → Prop)
def Ent.sig : Ent → Str × Nat
  | .code d => (d.nm, d.ps.length)
  | .prim nm np _ _ => (nm, np)
def tabF (T : List Ent) : FT := fun f => (T[f]?).map Ent.sig
def startD (n : Nat) (ss : List Slot) : Dl := ss.map some ++ List.replicate (n - ss.length) none
def enD (k : Slot → Prop) (x : KX) : En := ⟨fun _ => k (.val .none), k, fun _ => False, fun _ => False, fun e _ => x e⟩
/-- what a call of the f-th means, n calls deep at most -/
def callW (T : List Ent) (G : Str → Option D) : Nat → Nat → List Slot → (Slot → Prop) → KX → Prop
  | 0, _, _, _, _ => False
  | n + 1, f, ss, k, x => match T[f]? with
    | some (.code d) => ss.length = d.ps.length ∧ ex ⟨callW T G n, G⟩ d.body (startD d.N.length ss) (enD k x)
    | some (.prim _ np lvl sem) => lvl ≤ n ∧ ss.length = np ∧ sem ss k x
    | none => False
theorem callW_len {T : List Ent} {G : Str → Option D} {n f np : Nat} {nm : Str} {ss : List Slot} {k : Slot → Prop} {x : KX} (hF : tabF T f = some (nm, np)) (h : callW T G n f ss k x) : ss.length = np := by
  cases n with
  | zero => exact h.elim
  | succ n =>
    unfold callW at h
    unfold tabF at hF
    cases e : T[f]? with
    | none => rw [e] at hF; cases hF
    | some t =>
      rw [e] at h hF
      cases t with
      | code d => cases hF; exact h.1
      | prim nm np lvl sem => cases hF; exact h.2.1
def scopeC (N ps : List Str) (sc : Scope) : Bool := decide (sc.kind = .function) && !sc.isCoroutine && !sc.isGenerator && decide N.Nodup && decide (N.take ps.length = ps)
  && (ps.all fun x => decide (sc.names.lookup x = some .local) || decide (sc.names.lookup x = some .cell)) && (sc.names.all fun y => decide (y.2 ≠ .free))
theorem scope_by {N ps : List Str} {sc : Scope} (h : scopeC N ps sc = true) : FnScope N ps sc := by
  simp only [scopeC, Bool.and_eq_true, Bool.or_eq_true, decide_eq_true_eq, Bool.not_eq_true', List.all_eq_true] at h
  obtain ⟨⟨⟨⟨⟨⟨h1, h2⟩, h3⟩, h4⟩, h5⟩, h6⟩, h7⟩ := h
  exact ⟨h1, h2, h3, h4, h5, h6, h7⟩
/-- a def is written as its core term says -/
structure DOk (F : FT) (d : Def) : Prop where
  sc : scopeC d.N d.ps (defScope d.st) = true
  bind : ∀ (kV doc pm : Value) (an : Option Addr) (cdv ct : Value) (us : List Value), us.length = d.ps.length → bindArgs (PySem.W.fnOf d.nm d.nm (defArgs d.st) (defBody d.st) (defScope d.st) .none kV doc pm an cdv ct) ⟨us, []⟩ = pure (d.ps.zip us)
  ck : chkSs F d.N (defScope d.st) (fun _ => true) d.body (defBody d.st) = true
section
variable {P : Program} {w : World} {K : PySem.W.Frag} {mg : Str → Option Value} {base : Heap} {T : List Ent} {G : Str → Option D} {xr : XRep}
theorem FnG.mono {j k : Nat} {f : Addr} {fd : FuncData} {ps : List Str} {sp : Sp} (F : FnG P w K mg base j f fd ps sp) (h : j ≤ k) : FnG P w K mg base k f fd ps sp :=
  ⟨F.len, fun A outer s H args us vs Q E hr => F.run A outer s H args us vs Q E (hr.mono h)⟩
/-- as fn_of, where no repr is under way -/
theorem fnG_of {k : Nat} {f : Addr} {name qual : Str} {params : Arguments} {body : List Stmt} {scope : Scope} {dV kV doc pm cdv ct oc : Value} {an od : Option Addr}
    {osl : Array (Option Value)} {N ps : List Str} {sp : Sp} (lk : K.lookup f = some ⟨oc, od, .func (PySem.W.fnOf name qual params body scope dV kV doc pm an cdv ct), osl⟩) (hcd : PySem.W.codeIn K cdv qual = true) (S : FnScope N ps scope)
    (len : ∀ vs H Q E, sp vs H Q E → vs.length = ps.length)
    (hbody : ∀ (A : Around) (outer : List Env) (s : Shared) (H : Hp) (vs : List V) (Q : VK) (E : XK), Mod K mg base → Room k (A.deeper (envOfC qual scope s.heap.objs.size f cdv)) → A.guards = some [] → sp vs H Q E →
      ∃ t, PSs (cxOf (L2.CX P w) P w K mg base N qual scope f cdv A outer s H E) body t ∧ t { nx := fun _ H' => Q .non H', rt := Q } (start N vs) H) :
    FnG P w K mg base (k + 1) f (PySem.W.fnOf name qual params body scope dV kV doc pm an cdv ct) ps sp := by
  refine ⟨len, fun A outer s H args us vs Q E hr hg e0 hb r hsp => ?_⟩
  have hl := len _ _ _ _ hsp
  have KX : K.In s.heap := e0.mod.kin.keeps fun b o e => (e0.bs b o e).1
  have lim : s.heap.NoLimit := e0.mod.nolimit.keeps fun b o e => (e0.bs b o e).1
  have hkind : ∀ y ∈ ps.zip us, scope.names.lookup y.1 = some .local ∨ (scope.names.lookup y.1 = some .cell ∧ ((cellsFrom (s.heap.objs.size + 1) scope.names []).lookup y.1).isSome = true) := fun ⟨n, v⟩ hy => by
    rcases S.par n (List.of_mem_zip hy).1 with q | q
    · exact .inl q
    · exact .inr ⟨q, PySem.W.cellsFrom_some _ _ _ (.inl q)⟩
  refine codeAny_call_function hr.depth (KX _ _ lk) rfl S.co S.gen rfl (PySem.W.codeRec_of KX hcd) (hb _ _ _ _ ?_)
  refine wpAny_newFunctionEnv_cells S.kind hkind fun env he s1 x => ?_
  subst he
  refine ⟨lim.keeps x.toInCall.keep, codeAny_func ?_⟩
  obtain ⟨t, ht, hq⟩ := hbody A outer s H vs Q E e0.mod (hr.deeper _) hg hsp
  have I : L2.Inv (cxOf (L2.CX P w) P w K mg base N qual scope f cdv A outer s H E) [] (start N vs) H s1 := inv_start S hr.hd e0 hl r x
  refine wpAny_mono (ht.run [] s1 (start N vs) H _ I hq) (fun fl s' hs => ?_) fun e s' hs => hs
  have fin : ∀ {σ' : L2.St} {H' : Hp} {v : V} {u : Value}, L2.Inv (cxOf (L2.CX P w) P w K mg base N qual scope f cdv A outer s H E) [] σ' H' s' → L2.RelV v u → Q v H' → L2.CE outer P w H s Q u s' :=
    fun {σ' H' v u} J rv q => ⟨v, H', J.os, J.bare, J.base, J.hok, rv, q⟩
  cases fl with
  | ret u =>
    obtain ⟨v, σ', H', J, rv, q⟩ := hs
    exact fin J rv q
  | next =>
    obtain ⟨σ', H', J, q⟩ := hs
    exact fin (v := V.non) (u := Value.none) J rfl q
  | brk =>
    obtain ⟨_, _, _, q⟩ := hs
    exact False.elim q
  | cont =>
    obtain ⟨_, _, _, q⟩ := hs
    exact False.elim q
/-- the facts of the module that the table leans on -/
structure Tab (mg : Str → Option Value) (K : PySem.W.Frag) (P : Program) (w : World) (T : List Ent) (G : Str → Option D) (xr : XRep) : Prop where
  blt : ∀ x ∈ bltNames, mg x = none
  glob : ∀ x d, G x = some d → ∃ u v, mg x = some u ∧ L2.RelV v u ∧ ∀ H O, Rep K H O v d
  xm : ∀ H (O O1 : Addr → Prop) e cls dd, (∀ b, O b → O1 b) → xr H O1 e cls dd → xr H O e cls dd
  code : ∀ (f : Nat) d, T[f]? = some (.code d) → DOk (tabF T) d ∧ ∃ a fd, mg d.nm = some (.ref a) ∧ FunD K d.nm d.nm (defArgs d.st) (defBody d.st) (defScope d.st) [] [] a fd
  prim : ∀ (f : Nat) nm np lvl sem, T[f]? = some (.prim nm np lvl sem) → ∃ a fd ps, mg nm = some (.ref a) ∧ PySem.W.keepIn K (.ref a) = true ∧ ps.length = np ∧ Binds K fd ps [] ∧
    ∀ base, FnG P w K mg base lvl a fd ps (spC K xr (fun _ ss k x => ss.length = np ∧ sem ss k x) f np)
theorem start_slots {Γ : Gh} {H : Hp} {O : Addr → Prop} : ∀ {ss : List Slot} {vs : List V}, AReps K Γ H O ss vs → ∀ (i : Nat) s, ss[i]? = some s → ∃ v, vs[i]? = some v ∧ SRep K Γ H O s v ∧ ∀ ds, s ≠ .own ds
  | _, _, .nil, i, s, e => by simp at e
  | _, _, .cons (s := s0) h r, 0, s, e => by
    simp at e; subst e
    refine ⟨_, rfl, ?_⟩
    cases s0 with
    | val d => exact ⟨h, fun ds z => by cases z⟩
    | st => exact ⟨h, fun ds z => by cases z⟩
    | own _ => exact h.elim
  | _, _, .cons h r, i + 1, s, e => by
    obtain ⟨v, e1, e2⟩ := start_slots r i s (by simpa using e)
    exact ⟨v, by simpa using e1, e2⟩
theorem fr_start {Γ : Gh} {H : Hp} {O : Addr → Prop} {N : List Str} {ss : List Slot} {vs : List V} (hg : Γ.Ok) (hw : Γ.W H) (ho : OTr O H) (hm : ∀ b, Γ.M b → O b) (ar : AReps K Γ H O ss vs) (hl : ss.length ≤ N.length) :
    Fr K { Γ with H0 := H, O0 := O } (startD N.length ss) (start N vs) H O := by
  have hlen := ar.length
  have key : ∀ (i : Nat) s, (startD N.length ss)[i]? = some (some s) → ss[i]? = some s := fun i s e => by
    unfold startD at e
    by_cases hi : i < ss.length
    · rw [List.getElem?_append_left (by simpa using hi), List.getElem?_map] at e
      cases q : ss[i]? with
      | none => rw [q] at e; cases e
      | some z => rw [q] at e; cases e; rfl
    · rw [List.getElem?_append_right (by simpa using hi), List.getElem?_replicate] at e
      split at e <;> cases e
  refine ⟨⟨hg.so, hm, ho, hg.wm, hg.ws, hg.wt, hg.wf⟩, ?_, fun _ _ h _ => h, fun _ h => h, ho, hw, fun i s e => ?_, fun i j a ds es h1 _ _ _ => ?_⟩
  · simp [startD, L2.start, hlen]
  · have e' := key i s e
    obtain ⟨v, e1, e2, _⟩ := start_slots ar i s e'
    refine ⟨v, ?_, ?_⟩
    · unfold L2.start
      have hi : i < vs.length := (List.getElem?_eq_some_iff.mp e1).1
      rw [List.getElem?_append_left (by simpa using hi), List.getElem?_map, e1]
      rfl
    · cases s with
      | val d => exact e2
      | st => exact e2
      | own ds =>
        obtain ⟨_, _, _, h3⟩ := start_slots ar i _ e'
        exact absurd rfl (h3 ds)
  · obtain ⟨_, _, _, h3⟩ := start_slots ar i _ (key i _ h1)
    exact absurd rfl (h3 ds)
/-- EACH DEF KEEPS ITS PROMISE -/
theorem sound (tb : Tab mg K P w T G xr) (base : Heap) : ∀ n f nm np, tabF T f = some (nm, np) → ∃ a fd ps, mg nm = some (.ref a) ∧ PySem.W.keepIn K (.ref a) = true ∧ ps.length = np ∧ Binds K fd ps [] ∧ FnG P w K mg base n a fd ps (spC K xr (callW T G n) f np) := by
  intro n
  induction n with
  | zero =>
    intro f nm np hF
    unfold tabF at hF
    cases e : T[f]? with
    | none => rw [e] at hF; cases hF
    | some t =>
      rw [e] at hF
      have no : ∀ {a : Addr} {fd : FuncData} {ps : List Str}, FnG P w K mg base 0 a fd ps (spC K xr (callW T G 0) f np) := fun {a fd ps} =>
        ⟨fun vs H Q E ⟨_, _, _, _, _, _, _, _, _, _, _, h, _⟩ => h.elim, fun A outer s H args us vs Q E _ _ _ _ _ ⟨_, _, _, _, _, _, _, _, _, _, _, h, _⟩ => h.elim⟩
      cases t with
      | code d =>
        cases hF
        obtain ⟨dk, a, fd, m1, fu⟩ := tb.code f d e
        exact ⟨a, fd, d.ps, m1, fu.kp, rfl, fu.bindsN dk.bind, no⟩
      | prim nm np lvl sem =>
        cases hF
        obtain ⟨a, fd, ps, m1, m2, m3, m4, m5⟩ := tb.prim f _ _ _ _ e
        exact ⟨a, fd, ps, m1, m2, m3, m4, no⟩
  | succ n ih =>
    intro f nm np hF
    have hF0 := hF
    unfold tabF at hF
    cases e : T[f]? with
    | none => rw [e] at hF; cases hF
    | some t =>
      rw [e] at hF
      cases t with
      | prim nm np lvl sem =>
        cases hF
        obtain ⟨a, fd, ps, m1, m2, m3, m4, m5⟩ := tb.prim f _ _ _ _ e
        refine ⟨a, fd, ps, m1, m2, m3, m4, ?_⟩
        by_cases hn : lvl ≤ n
        · have m6 := (m5 base).mono (Nat.le_succ_of_le hn)
          have imp : ∀ vs H Q E, spC K xr (callW T G (n + 1)) f np vs H Q E → spC K xr (fun _ ss k x => ss.length = np ∧ sem ss k x) f np vs H Q E := fun vs H Q E ⟨h1, Γ, O, ss, k, x, g1, g2, g3, g4, g5, g6, g7⟩ => by
            refine ⟨h1, Γ, O, ss, k, x, g1, g2, g3, g4, g5, ?_, g7⟩
            unfold callW at g6
            rw [e] at g6
            exact g6.2
          exact ⟨fun vs H Q E h => m6.len vs H Q E (imp _ _ _ _ h), fun A outer s H args us vs Q E a1 a2 a3 a4 a5 a6 => m6.run A outer s H args us vs Q E a1 a2 a3 a4 a5 (imp _ _ _ _ a6)⟩
        · have no : ∀ {vs H Q E}, ¬ spC K xr (callW T G (n + 1)) f np vs H Q E := fun {vs H Q E} ⟨_, _, _, _, _, _, _, _, _, _, _, g6, _⟩ => by
            unfold callW at g6
            rw [e] at g6
            exact hn g6.1
          exact ⟨fun vs H Q E h => (no h).elim, fun A outer s H args us vs Q E _ _ _ _ _ a6 => (no a6).elim⟩
      | code d =>
        cases hF
        obtain ⟨dk, a, fd, m1, fu⟩ := tb.code f d e
        refine ⟨a, fd, d.ps, m1, fu.kp, rfl, fu.bindsN dk.bind, ?_⟩
        obtain ⟨oc, od, dV, kV, doc, pm, an, cdv, ct, osl, rfl, lk, hcd, _, _⟩ := fu.ex
        have S := scope_by dk.sc
        have hpN : d.ps.length ≤ d.N.length := by have := congrArg List.length S.pre; rw [List.length_take] at this; omega
        refine fnG_of lk hcd S (fun vs H Q E h => h.1) fun A outer s H vs Q E md hr hg hsp => ?_
        obtain ⟨hvl, Γ, O, ss, k, x, g1, g2, g3, g4, g5, g6, g7, g8⟩ := hsp
        unfold callW at g6
        rw [e] at g6
        obtain ⟨hsl, g6⟩ := g6
        have units := hr.un
        have hh : HereS (cxOf (L2.CX P w) P w K mg base d.N d.nm (defScope d.st) a cdv A outer s H E) (tabF T) d.N (defScope d.st) (fun _ => true) ⟨callW T G n, G⟩ xr n (fun cls dd _ H' => E cls dd H') := by
          refine ⟨⟨⟨rfl, rfl, ?_, hg, tb.blt⟩, ⟨tb.glob, tb.xm, fun f nm np hF ss k x h => callW_len hF h, fun f nm np hF => ih f nm np hF⟩, hr, rfl, S.nd, takes_of rfl rfl rfl rfl⟩, rfl, passes_of rfl⟩
          show (A.deeper _).units + 200 < cLine
          omega
        refine ⟨_, sSs hh d.body _ dk.ck, { Γ with H0 := H, O0 := O }, startD d.N.length ss, O, enD k x, fr_start g1 g2 g3 g4 g5 (by rw [hsl]; exact hpN), g6, ?_⟩
        have ret : ∀ s v H', k s → RetOk K { Γ with H0 := H, O0 := O } H' s v → Q v H' := fun s v H' hk r => by
          obtain ⟨r1, r2, O', r3, r4⟩ := r
          refine g7 s v H' hk ⟨r1, r2⟩ ?_
          cases s with
          | val dd => exact Rep.ext (Ext.sub r3) dd v r4
          | st => exact r4
          | own ds =>
            obtain ⟨b, us, e1, e2, e3, e4, e5⟩ := r4
            exact ⟨b, us, e1, e2, e4, Reps.ext (Ext.sub fun c z => z.elim (r3 c) fun q => by rw [q]; exact e3) ds us e5⟩
        refine ⟨fun δ' σ' H' O' hk f' x' => ret _ _ _ hk (f'.ret (s := .val .none) .non), ret, fun _ _ _ _ z => z.elim, fun _ _ _ _ z => z.elim, fun e' δ' σ' H' O' cls dd hx f' xx => ?_⟩
        exact g8 e' cls dd H' hx ⟨f'.same, f'.w⟩ (tb.xm _ _ _ _ _ _ f'.sub xx)
end
end Tk
namespace Tk
open PySem PySem.Spec PyProof.Rows L2
/-- where a list stands: in a name, in a field -/
inductive LB where
  | var (j : Nat)
  | fld (j : Nat) (key : Str)
inductive IE where
  | c (i : Int)
  | v (i : Nat)
  | g (j : Nat) (key : Str)
  | ln (b : LB)
  | ix (b : LB) (a : IE)
  | op (o : Op2) (a b : IE)
def arith : Op2 → Bool
  | .add => true | .sub => true | .mul => true | .fdiv => true | .mod => true | .pow => true | _ => false
def chkV (N : List Str) (sc : Scope) (i : Nat) (x : Str) : Bool := decide (N[i]? = some x) && vis sc x && plainName x
def chkLB (N : List Str) (sc : Scope) : LB → Expr → Bool
  | .var j, .Name x _ => chkV N sc j x
  | .fld j key, .Subscript (.Name x _) (.Constant (.str y) _ _) _ => chkV N sc j x && decide (y = key)
  | _, _ => false
def chkIE (N : List Str) (sc : Scope) : IE → Expr → Bool
  | .c i, .Constant (.int j) _ _ => i == j
  | .v i, .Name x _ => chkV N sc i x
  | .g j key, .Subscript (.Name x _) (.Constant (.str y) _ _) _ => chkV N sc j x && decide (y = key)
  | .ln b, e => match chkOp1 sc .len e with
    | some ea => chkLB N sc b ea
    | none => false
  | .ix b a, e => match chkOp2 sc .ix e with
    | some (ea, eb) => chkLB N sc b ea && chkIE N sc a eb
    | none => false
  | .op o a b, e => arith o && match chkOp2 sc o e with
    | some (ea, eb) => chkIE N sc a ea && chkIE N sc b eb
    | none => false
  | _, _ => false
def fldV (σ : L2.St) (H : Hp) (j : Nat) (key : Str) : Option V := match σ[j]? with
  | some (some (.ref a)) => match H a with
    | some (.dK kvs) => valV kvs (.inr key)
    | _ => none
  | _ => none
def lbV (σ : L2.St) (H : Hp) : LB → Option V
  | .var j => match σ[j]? with
    | some (some (.ref a)) => some (.ref a)
    | _ => none
  | .fld j key => fldV σ H j key
def intsV : List V → Option (List Int)
  | [] => some []
  | .int i :: r => (intsV r).map (i :: ·)
  | _ => none
def lbN (σ : L2.St) (H : Hp) (b : LB) : Option (List Int) := match lbV σ H b with
  | some (.ref a) => match H a with
    | some (.lst vs) => intsV vs
    | _ => none
  | _ => none
def ieV (σ : L2.St) (H : Hp) : IE → Option Int
  | .c i => some i
  | .v i => match σ[i]? with
    | some (some (.int n)) => some n
    | _ => none
  | .g j key => match fldV σ H j key with
    | some (.int n) => some n
    | _ => none
  | .ln b => (lbN σ H b).map fun ns => (ns.length : Nat)
  | .ix b a => match lbN σ H b, ieV σ H a with
    | some ns, some i => atI ns i
    | _, _ => none
  | .op o a b => match ieV σ H a, ieV σ H b with
    | some i, some j => match sem2 o (.int i) (.int j) with
      | some (.int r) => some r
      | _ => none
    | _, _ => none
section
variable {X : Cx} {N : List Str} {sc : Scope} {σ : L2.St} {H H' : Hp}
theorem fldV_same (s : Same H H') {j : Nat} {key : Str} {v : V} (h : fldV σ H j key = some v) : fldV σ H' j key = some v := by
  unfold fldV at h ⊢
  split at h
  · rename_i a e
    split at h
    · rename_i kvs e2
      simp only [e, s _ _ e2]; exact h
    · cases h
  · cases h
theorem lbV_same (s : Same H H') {b : LB} {v : V} (h : lbV σ H b = some v) : lbV σ H' b = some v := by
  cases b with
  | var j => exact h
  | fld j key => exact fldV_same s h
theorem lbN_ex {b : LB} {ns : List Int} (h : lbN σ H b = some ns) : ∃ a vs, lbV σ H b = some (.ref a) ∧ H a = some (.lst vs) ∧ intsV vs = some ns := by
  unfold lbN at h
  split at h
  · rename_i a e
    split at h
    · rename_i vs e2
      exact ⟨a, vs, e, e2, h⟩
    · cases h
  · cases h
theorem lbN_same (s : Same H H') {b : LB} {ns : List Int} (h : lbN σ H b = some ns) : lbN σ H' b = some ns := by
  obtain ⟨a, vs, e1, e2, e3⟩ := lbN_ex h
  unfold lbN
  simp only [lbV_same s e1, s _ _ e2, e3]
theorem ieV_same (s : Same H H') : ∀ {t : IE} {i : Int}, ieV σ H t = some i → ieV σ H' t = some i
  | .c i, _, h => h
  | .v i, _, h => h
  | .g j key, _, h => by
    simp only [ieV] at h ⊢
    split at h
    · rename_i n e
      rw [fldV_same s e]; exact h
    · cases h
  | .ln b, _, h => by
    simp only [ieV, Option.map_eq_some_iff] at h ⊢
    obtain ⟨ns, e, h⟩ := h
    exact ⟨ns, lbN_same s e, h⟩
  | .ix b a, _, h => by
    simp only [ieV] at h ⊢
    split at h
    · rename_i ns i e1 e2
      rw [lbN_same s e1, ieV_same s e2]; exact h
    · cases h
  | .op o a b, _, h => by
    simp only [ieV] at h ⊢
    split at h
    · rename_i i j e1 e2
      rw [ieV_same s e1, ieV_same s e2]; exact h
    · cases h
theorem intsV_reps {K : PySem.W.Frag} {O : Addr → Prop} : ∀ {vs : List V} {ns : List Int}, intsV vs = some ns → Reps K H O vs (ns.map PyData.int)
  | [], ns, h => by simp [intsV] at h; subst h; exact .nil
  | v :: vs, ns, h => by
    cases v with
    | int i =>
      simp only [intsV, Option.map_eq_some_iff] at h
      obtain ⟨r, e, rfl⟩ := h
      exact .cons (.int i) (intsV_reps e)
    | _ => simp [intsV] at h
theorem intsV_map (ns : List Int) : intsV (ns.map V.int) = some ns := by
  induction ns with
  | nil => rfl
  | cons n ns ih => simp [intsV, ih]
def noG : Gh := ⟨fun _ => none, fun _ => False, fun _ => False, fun _ => True, .non⟩
theorem vis_of (S : Site X sc) {x : Str} (h : vis sc x = true) : Vis X.env.scope x := by
  rw [S.sc]
  unfold vis at h
  split at h
  · exact .inl ‹_›
  · exact .inr (.inl ‹_›)
  · exact .inr (.inr ‹_›)
  · cases h
theorem pe_chkV (S : Site X sc) (hN : X.N = N) {i : Nat} {x : Str} {p : Pos} (h : chkV N sc i x = true) : PE X (.Name x p) (tVar i) := by
  simp only [chkV, Bool.and_eq_true, decide_eq_true_eq] at h
  obtain ⟨⟨h1, h2⟩, h3⟩ := h
  simp only [plainName, Bool.and_eq_true, Bool.not_eq_true'] at h3
  exact pe_var (by rw [hN]; exact h1) (vis_of S h2) h3.1 h3.2
theorem units1 (S : Site X sc) : X.A.units + 1 < cLine := by have := S.units; omega
theorem pe_lb (S : Site X sc) (hN : X.N = N) {b : LB} {e : Expr} (h : chkLB N sc b e = true) : PE X e (fun σ H Q => ∃ v, lbV σ H b = some v ∧ Q v H) := by
  cases b with
  | var j =>
    cases e with
    | Name x p =>
      refine PE.imp (pe_chkV S hN h) fun σ H Q ⟨v, e1, q⟩ => ?_
      simp only [lbV] at e1
      split at e1
      · rename_i a e2
        cases e1
        exact ⟨_, e2, q⟩
      · cases e1
    | _ => simp [chkLB] at h
  | fld j key =>
    cases e with
    | Subscript o i p =>
      cases o with
      | Name x px =>
        cases i with
        | Constant c k pc =>
          cases c with
          | str y =>
            simp only [chkLB, Bool.and_eq_true, decide_eq_true_eq] at h
            obtain ⟨h1, rfl⟩ := h
            refine PE.imp (pe_dget (units1 S) (pe_chkV S hN h1) pe_str (fun _ _ => rfl)) fun σ H Q ⟨v, e1, q⟩ => ?_
            simp only [lbV, fldV] at e1
            split at e1
            · rename_i a e2
              split at e1
              · rename_i kvs e3
                refine ⟨_, e2, a, v, rfl, ?_, q⟩
                have := DGet.k (k := Sum.inr y) e3
                rw [e1] at this
                exact this
              · cases e1
            · cases e1
          | _ => simp [chkLB] at h
        | _ => simp [chkLB] at h
      | _ => simp [chkLB] at h
    | _ => simp [chkLB] at h
/-- the reading -/
def tIE (t : IE) : TE := fun σ H Q => ∃ i, ieV σ H t = some i ∧ ∀ H', Same H H' → Q (.int i) H'
theorem mono_tIE {t : IE} : Mono (tIE t) := fun σ H Q Q' hq ⟨i, e, q⟩ => ⟨i, e, fun H' s => hq _ _ (q H' s)⟩
theorem pe_ie (S : Site X sc) (hN : X.N = N) : ∀ (t : IE) (e : Expr), chkIE N sc t e = true → PE X e (tIE t)
  | .c i, e, h => by
    cases e with
    | Constant c k p =>
      cases c with
      | int j =>
        simp only [chkIE, beq_iff_eq] at h
        subst h
        exact PE.imp pe_int fun σ H Q ⟨n, e1, q⟩ => by cases e1; exact q H (.refl _)
      | _ => simp [chkIE] at h
    | _ => simp [chkIE] at h
  | .v i, e, h => by
    cases e with
    | Name x p =>
      refine PE.imp (pe_chkV S hN h) fun σ H Q ⟨n, e1, q⟩ => ?_
      simp only [ieV] at e1
      split at e1
      · cases e1; exact ⟨_, ‹_›, q H (.refl _)⟩
      · cases e1
    | _ => simp [chkIE] at h
  | .g j key, e, h => by
    have h' : chkLB N sc (.fld j key) e = true := by
      unfold chkIE at h; split at h <;> first | exact h | (simp at h) | skip
      all_goals simp_all [chkLB]
    refine PE.imp (pe_lb S hN h') fun σ H Q ⟨n, e1, q⟩ => ?_
    simp only [ieV] at e1
    split at e1
    · cases e1; exact ⟨_, ‹_›, q H (.refl _)⟩
    · cases e1
  | .ln b, e, h => by
    simp only [chkIE] at h
    split at h
    · rename_i ea e1
      refine PE.imp (op1_ok S e1 (pe_lb S hN h) fun σ H Q Q' hq ⟨v, a, b⟩ => ⟨v, a, hq _ _ b⟩) fun σ H Q ⟨n, e2, q⟩ => ?_
      simp only [ieV, Option.map_eq_some_iff] at e2
      obtain ⟨ns, e3, rfl⟩ := e2
      obtain ⟨a, vs, f1, f2, f3⟩ := lbN_ex e3
      refine ⟨_, f1, noG, fun _ => False, .list (ns.map .int), .int (ns.length : Nat), fun _ z => z.elim, ⟨a, vs, rfl, .inl ⟨.inl f2, fun z => z⟩, intsV_reps f3⟩, by simp [sem1, lenD], fun v' H' s r => ?_⟩
      cases r
      exact q H' s
    · cases h
  | .ix b t, e, h => by
    simp only [chkIE] at h
    split at h
    · rename_i ea eb e1
      simp only [Bool.and_eq_true] at h
      refine PE.imp (op2_ok S e1 (pe_lb S hN h.1) (pe_ie S hN t eb h.2) (fun σ H Q Q' hq ⟨v, a, b⟩ => ⟨v, a, hq _ _ b⟩) mono_tIE) fun σ H Q ⟨n, e2, q⟩ => ?_
      simp only [ieV] at e2
      split at e2
      · rename_i ns i g1 g2
        obtain ⟨a, vs, f1, f2, f3⟩ := lbN_ex g1
        refine ⟨_, f1, trivial, i, g2, fun H1 s1 => ⟨noG, fun _ => False, .list (ns.map .int), .int i, .int n, fun _ z => z.elim, ⟨a, vs, rfl, .inl ⟨.inl (s1 _ _ f2), fun z => z⟩, intsV_reps f3⟩, .int i, ?_, fun v' H' s r => ?_⟩⟩
        · show atI (ns.map PyData.int) i = some (.int n)
          unfold atI at e2 ⊢
          rw [List.length_map]
          cases q : ixN ns.length i with
          | none => rw [q] at e2; cases e2
          | some j => rw [q] at e2; simp only [Option.bind_some] at e2 ⊢; rw [List.getElem?_map, e2]; rfl
        · cases r
          exact q H' (s1.trans s)
      · cases e2
    · cases h
  | .op o t u, e, h => by
    simp only [chkIE, Bool.and_eq_true] at h
    obtain ⟨h0, h⟩ := h
    split at h
    · rename_i ea eb e1
      simp only [Bool.and_eq_true] at h
      refine PE.imp (op2_ok S e1 (pe_ie S hN t ea h.1) (pe_ie S hN u eb h.2) mono_tIE mono_tIE) fun σ H Q ⟨n, e2, q⟩ => ?_
      simp only [ieV] at e2
      split at e2
      · rename_i i j g1 g2
        split at e2
        · rename_i r g3
          cases e2
          refine ⟨i, g1, fun H1 s1 => ⟨?_, j, ieV_same s1 g2, fun H2 s2 => ⟨noG, fun _ => False, .int i, .int j, .int n, fun _ z => z.elim, .int i, .int j, g3, fun v' H' s r => ?_⟩⟩⟩
          · cases o <;> first | trivial | (simp [arith] at h0)
          · cases r
            exact q H' (s1.trans (s2.trans s))
        · cases e2
      · cases e2
    · cases h
/-- a comparison of two -/
def tICmp (o : Op2) (t u : IE) : TT := fun σ H Q => ∃ i j b, ieV σ H t = some i ∧ ieV σ H u = some j ∧ sem2 o (.int i) (.int j) = some (.bool b) ∧ ∀ H', Same H H' → Q b H'
theorem pt_ie (S : Site X sc) (hN : X.N = N) {t u : IE} {o : Op2} {op : CmpOp} {ea eb : Expr} {p : Pos} (ho : cmpOf o = some op) (hn : notSet eb = true) (h1 : chkIE N sc t ea = true) (h2 : chkIE N sc u eb = true) :
    PT X (.Compare ea [op] [eb] p) (tICmp o t u) := by
  refine PT.imp (pt_cmpR (cmp_ok S ho) (pe_ie S hN t ea h1) (pe_ie S hN u eb h2) (marks_ok hn)) fun σ H Q ⟨i, j, b, e1, e2, e3, q⟩ => ?_
  refine ⟨i, e1, fun H1 s1 => ⟨j, ieV_same s1 e2, fun H2 s2 => ⟨noG, fun _ => False, .int i, .int j, .bool b, fun _ z => z.elim, .int i, .int j, e3, fun v' H' s r => ?_⟩⟩⟩
  cases r
  exact ⟨b, rfl, q H' (s1.trans (s2.trans s))⟩
end
end Tk
namespace Tk
open PySem PySem.Spec PyProof.Rows L2
def top (i : Nat) : Stmt := PySem.Challenge.pw_tiekeep_k03_lines_and_words.main.body.getD i (.Pass ⟨0, 0, 0, 0⟩)
abbrev sBegun : Stmt := top 3
abbrev sDraw : Stmt := top 4
def semDraw (ss : List Slot) (k : Slot → Prop) (_ : KX) : Prop := ∃ many : Int, ss = [.st, .val (.int many)] ∧ 0 < many ∧ many < 1073741824 ∧ ∀ r, 0 ≤ r → r < many → k (.val (.int r))
def drawN : List Str := ["_law_m", "_law_many", "_law_k", "_law_at", "_law_cell", "_law_primes", "_law_number"]
def drawPs : List Str := ["_law_m", "_law_many"]
section
variable {P : Program} {w : World} {K : PySem.W.Frag} {mg : Str → Option Value} {base : Heap} {xr : XRep}
theorem scDraw : FnScope drawN drawPs (defScope sDraw) := scope_by (by decide +kernel)
theorem site_of {N : List Str} {qual : Str} {scope : Scope} {f : Addr} {cdv : Value} {A : Around} {outer : List Env} {s : Shared} {H : Hp} {E : XK} {k : Nat} (hr : Room k (A.deeper (envOfC qual scope s.heap.objs.size f cdv))) (hg : A.guards = some []) (blt : ∀ x ∈ bltNames, mg x = none) :
    Site (cxOf (L2.CX P w) P w K mg base N qual scope f cdv A outer s H E) scope := by
  have := hr.un
  refine ⟨rfl, rfl, ?_, hg, blt⟩
  show (A.deeper _).units + 200 < cLine
  omega
theorem stw_same {am gl : Addr} {H H' : Hp} (s : Same H H') (h : StW am gl H) : StW am gl H' := by
  obtain ⟨ns, sm, at_, h1, h2⟩ := h
  exact ⟨ns, sm, at_, s _ _ h1, s _ _ h2⟩
theorem put_at (gl : Addr) (sm a b : Int) : putK (stKvs gl sm a) (Sum.inr kAt) (.int b) = stKvs gl sm b := rfl
theorem fmod_r {i j : Int} (h : 0 < j) : 0 ≤ i.fmod j ∧ i.fmod j < j := ⟨Int.fmod_nonneg_of_pos i h, Int.fmod_lt_of_pos i h⟩
def prs : List Int := [2147483647, 2147483629, 2147483587, 2147483579, 2147483563, 2147483549, 2147483543, 2147483497]
theorem pr_at (k : Int) : ∃ p, atI prs (k.fmod 8) = some p ∧ 2147483497 ≤ p ∧ p ≤ 2147483647 := by
  have h := fmod_r (i := k) (j := 8) (by decide)
  have : k.fmod 8 = 0 ∨ k.fmod 8 = 1 ∨ k.fmod 8 = 2 ∨ k.fmod 8 = 3 ∨ k.fmod 8 = 4 ∨ k.fmod 8 = 5 ∨ k.fmod 8 = 6 ∨ k.fmod 8 = 7 := by omega
  rcases this with e | e | e | e | e | e | e | e <;> rw [e] <;> exact ⟨_, rfl, by decide, by decide⟩
theorem at_in {ns : List Int} (h : ns ≠ []) (k : Int) : ∃ n j, atI ns (k.fmod ns.length) = some n ∧ ixN ns.length (k.fmod ns.length) = some j := by
  have hl : 0 < ns.length := List.length_pos_iff.mpr h
  have h := fmod_r (i := k) (j := (ns.length : Nat)) (by omega)
  have e : ixN ns.length (k.fmod ns.length) = some (k.fmod ns.length).toNat := by
    unfold ixN
    rw [if_pos h.1, if_pos h.2]
  have hj : (k.fmod ns.length).toNat < ns.length := by omega
  exact ⟨ns[(k.fmod ns.length).toNat], _, by unfold atI; rw [e]; simp [hj], e⟩
theorem map_set (ns : List Int) (j : Nat) (c : Int) : (ns.map V.int).set j (.int c) = (ns.set j c).map V.int := by
  rw [List.map_set]
theorem shapedI (ns : List Int) : SeqAt.shaped (.list (ns.map PyData.int)) = true := by
  have h1 : PyData.canLayAll0 (ns.map PyData.int) = true := by
    induction ns with
    | nil => rfl
    | cons n ns ih => simp [PyData.canLayAll0, PyData.canLay0, ih]
  have h2 : PyData.depthAll (ns.map PyData.int) ≤ 1 := by
    induction ns with
    | nil => simp [PyData.depthAll]
    | cons n ns ih => 
      simp only [List.map_cons, PyData.depthAll, PyData.depth]
      have := ih (by simpa [PyData.canLayAll0, PyData.canLay0] using h1)
      omega
  have h3 : PyData.depth (.list (ns.map PyData.int)) ≤ 64 := by
    simp only [PyData.depth]; omega
  simp [SeqAt.shaped, PyData.canLay0, h1, h3]
theorem eqvNil (ns : List Int) : PyData.eqv (.list (ns.map PyData.int)) (.list []) = ns.isEmpty := by
  cases ns <;> simp [PyData.eqv, PyData.eqvAll]
theorem ie_op {σ : L2.St} {H : Hp} {o : Op2} {a b : IE} {i j r : Int} (h1 : ieV σ H a = some i) (h2 : ieV σ H b = some j) (h3 : sem2 o (.int i) (.int j) = some (.int r)) : ieV σ H (.op o a b) = some r := by
  simp only [ieV, h1, h2, h3]
theorem s_add (i j : Int) : sem2 .add (.int i) (.int j) = some (.int (i + j)) := rfl
theorem s_mod {i j : Int} (h : j ≠ 0) : sem2 .mod (.int i) (.int j) = some (.int (i.fmod j)) := by simp only [sem2, if_pos h]
theorem s_fdiv {i j : Int} (h : 0 < j) (h2 : j < 1073741824) : sem2 .fdiv (.int i) (.int j) = some (.int (i.fdiv j)) := by simp only [sem2]; rw [if_pos (by omega)]
theorem s_mulL {i j : Int} (h : -(2 ^ 64) < i ∧ i < 2 ^ 64) : sem2 .mul (.int i) (.int j) = some (.int (i * j)) := by simp only [sem2]; rw [if_pos (.inl h)]
theorem s_mulR {i j : Int} (h : -(2 ^ 64) < j ∧ j < 2 ^ 64) : sem2 .mul (.int i) (.int j) = some (.int (i * j)) := by simp only [sem2]; rw [if_pos (.inr h)]
set_option maxHeartbeats 4000000 in
theorem draw_ok {f : Nat} {a : Addr} {fd : FuncData} (F : FunD K "_law_draw" "_law_draw" (defArgs sDraw) (defBody sDraw) (defScope sDraw) [] [] a fd) (blt : ∀ x ∈ bltNames, mg x = none) :
    FnG P w K mg base 1 a fd drawPs (spC K xr (fun _ ss k x => ss.length = 2 ∧ semDraw ss k x) f 2) := by
  obtain ⟨oc, od, dV, kV, doc, pm, an, cdv, ct, osl, rfl, lk, hcd, _, _⟩ := F.ex
  refine fnG_of (N := drawN) lk hcd scDraw (fun vs H Q E h => h.1) fun A outer s H vs Q E md hr hg hsp => ?_
  have S : Site (cxOf (L2.CX P w) P w K mg base drawN "_law_draw" (defScope sDraw) a cdv A outer s H E) (defScope sDraw) := site_of hr hg blt
  have nd : drawN.Nodup := scDraw.nd
  refine ⟨_, pss_cons (ps_set (i := 2) nd rfl (.inl rfl) (pe_ie (N := drawN) S rfl (.g 0 kAt) _ (by decide +kernel)))
    (pss_cons (ps_dput (units1 S) (pe_chkV (N := drawN) (i := 0) S rfl (by decide +kernel)) pe_str (pe_ie (N := drawN) S rfl (.op .add (.v 2) (.c 1)) _ (by decide +kernel)) rfl)
    (pss_cons (ps_if (pt_cmpR (cmp_ok S (o := .ne) rfl) (pe_lb (N := drawN) (b := .fld 0 kGreat) S rfl (by decide +kernel)) (pe_lst pa_nil) (marks_ok (by decide +kernel)))
      (pss_cons (ps_set (i := 3) nd rfl (.inl rfl) (pe_ie (N := drawN) S rfl (.op .mod (.v 2) (.ln (.fld 0 kGreat))) _ (by decide +kernel)))
      (pss_cons (ps_set (i := 4) nd rfl (.inl rfl) (pe_ie (N := drawN) S rfl (.ix (.fld 0 kGreat) (.v 3)) _ (by decide +kernel)))
      (pss_one (ps_if (pt_ie (N := drawN) (o := .gt) (t := .v 4) (u := .c 0) S rfl rfl (by decide +kernel) (by decide +kernel) (by decide +kernel))
        (pss_cons (ps_asg (pe_ie (N := drawN) S rfl (.op .fdiv (.v 4) (.v 1)) _ (by decide +kernel)) (pg_sub (pe_lb (N := drawN) (b := .fld 0 kGreat) S rfl (by decide +kernel)) (pe_chkV (N := drawN) (i := 3) S rfl (by decide +kernel)) set_list))
        (pss_one (ps_ret (pe_ie (N := drawN) S rfl (.op .mod (.v 4) (.v 1)) _ (by decide +kernel))))) pss_nil)))) pss_nil)
    (pss_cons (ps_set (i := 5) nd rfl (.inl rfl) (pe_lst (pa_cons pe_int (pa_cons pe_int (pa_cons pe_int (pa_cons pe_int (pa_cons pe_int (pa_cons pe_int (pa_cons pe_int (pa_cons pe_int pa_nil))))))))))
    (pss_cons (ps_set (i := 6) nd rfl (.inl rfl) (pe_ie (N := drawN) S rfl (.op .mod (.op .add (.op .add (.g 0 kSmall) (.op .mul (.c 7919) (.v 2))) (.c 17)) (.ix (.var 5) (.op .mod (.v 2) (.c 8)))) _ (by decide +kernel)))
    (pss_cons (ps_set (i := 6) nd rfl (.inl rfl) (pe_ie (N := drawN) S rfl (.op .mod (.op .add (.op .mul (.v 6) (.op .add (.c 48271) (.op .mul (.c 2) (.v 2)))) (.op .mul (.c 104729) (.v 2))) (.ix (.var 5) (.op .mod (.v 2) (.c 8)))) _ (by decide +kernel)))
    (pss_one (ps_ret (pe_ie (N := drawN) S rfl (.op .mod (.op .fdiv (.op .mod (.op .mul (.op .mul (.v 6) (.v 6)) (.v 6)) (.ix (.var 5) (.op .mod (.v 2) (.c 8)))) (.c 7)) (.v 1)) _ (by decide +kernel))))))))), ?_⟩
  obtain ⟨hvl, Γ, O, ss, k, x, g1, g2, g3, g4, g5, ⟨g6, many, rfl, m1, m2, hk⟩, g7, g8⟩ := hsp
  cases g5 with | cons r1 g5 => cases g5 with | cons r2 g5 => cases g5 with | nil =>
  rename_i v1 v2
  obtain ⟨rfl, hnn⟩ := r1
  cases r2
  rcases g1.so with z | ⟨am, gl, hne, esv, eM, eW⟩
  · exact absurd z hnn
  rw [esv]
  rw [eW] at g2
  obtain ⟨ns, sm, at_, h1, h2⟩ := g2
  have fin : ∀ r H', 0 ≤ r → r < many → SameM Γ H H' → StW am gl H' → Q (.int r) H' := fun r H' a1 a2 a3 a4 =>
    g7 (.val (.int r)) (.int r) H' (hk r a1 a2) ⟨a3, by rw [eW]; exact a4⟩ (.int r)
  have sM : ∀ {H1 : Hp} {b : Addr} {o : HO}, (b = am ∨ b = gl) → SameM Γ H H1 → SameM Γ H (upd H1 b o) := fun {H1 b o} hb s c u e n => by
    have : c ≠ b := fun z => n (by rw [eM, z]; exact hb)
    rw [upd_ne this]; exact s c u e n
  have sS : ∀ {H1 H2 : Hp}, SameM Γ H H1 → Same H1 H2 → SameM Γ H H2 := fun a b c u e n => b c u (a c u e n)
  -- k = m['at']
  refine ⟨at_, by simp only [ieV, fldV, L2.start, drawN, List.getElem?_cons_zero, List.map_cons, List.cons_append]; rw [h1]; rfl, fun H1 s1 => ?_⟩
  -- m['at'] = k + 1
  refine ⟨at_ + 1, rfl, fun H2 s2 => ⟨_, rfl, am, _, rfl, DPut.k (k := Sum.inr kAt) (s2 _ _ (s1 _ _ h1)) (by show 3 < sizeLine; decide), ?_⟩⟩
  rw [put_at]
  have q1 : (upd H2 am (.dK (stKvs gl sm (at_ + 1)))) am = some (.dK (stKvs gl sm (at_ + 1))) := upd_same
  have q2 : (upd H2 am (.dK (stKvs gl sm (at_ + 1)))) gl = some (.lst (ns.map V.int)) := by rw [upd_ne (Ne.symm hne)]; exact s2 _ _ (s1 _ _ h2)
  have q3 : SameM Γ H (upd H2 am (.dK (stKvs gl sm (at_ + 1)))) := sM (.inl rfl) fun c u e n => s2 _ _ (s1 _ _ e)
  generalize upd H2 am (.dK (stKvs gl sm (at_ + 1))) = H3 at q1 q2 q3
  -- the second half
  have half : ∀ (H3 : Hp) (x3 x4 : Option V), H3 am = some (.dK (stKvs gl sm (at_ + 1))) → H3 gl = some (.lst (ns.map V.int)) → SameM Γ H H3 →
      ∀ p, H3 p = none → (∃ i, ieV [some (.ref am), some (.int many), some (.int at_), x3, x4, some (.ref p), none] (upd H3 p (.lst (prs.map V.int))) (.op .mod (.op .add (.op .add (.g 0 kSmall) (.op .mul (.c 7919) (.v 2))) (.c 17)) (.ix (.var 5) (.op .mod (.v 2) (.c 8)))) = some i ∧
        ∀ H4, Same (upd H3 p (.lst (prs.map V.int))) H4 → ∃ j, ieV [some (.ref am), some (.int many), some (.int at_), x3, x4, some (.ref p), some (.int i)] H4 (.op .mod (.op .add (.op .mul (.v 6) (.op .add (.c 48271) (.op .mul (.c 2) (.v 2)))) (.op .mul (.c 104729) (.v 2))) (.ix (.var 5) (.op .mod (.v 2) (.c 8)))) = some j ∧
        ∀ H5, Same H4 H5 → ∃ r, ieV [some (.ref am), some (.int many), some (.int at_), x3, x4, some (.ref p), some (.int j)] H5 (.op .mod (.op .fdiv (.op .mod (.op .mul (.op .mul (.v 6) (.v 6)) (.v 6)) (.ix (.var 5) (.op .mod (.v 2) (.c 8)))) (.c 7)) (.v 1)) = some r ∧
        ∀ H6, Same H5 H6 → Q (.int r) H6) := by
    intro H3 x3 x4 q1 q2 q3 p hp
    have sp : Same H3 (upd H3 p (.lst (prs.map V.int))) := same_upd hp
    have pp : (upd H3 p (.lst (prs.map V.int))) p = some (.lst (prs.map V.int)) := upd_same
    generalize upd H3 p (.lst (prs.map V.int)) = G at sp pp ⊢
    obtain ⟨p0, ep, l1, l2⟩ := pr_at at_
    have ix : ∀ {G' : Hp} {y : Option V}, Same G G' → ieV [some (.ref am), some (.int many), some (.int at_), x3, x4, some (.ref p), y] G' (.ix (.var 5) (.op .mod (.v 2) (.c 8))) = some p0 := fun {G' y} sg => by
      have e1 : lbN [some (.ref am), some (.int many), some (.int at_), x3, x4, some (.ref p), y] G' (.var 5) = some prs := by
        unfold lbN
        simp only [lbV, List.getElem?_cons_succ, List.getElem?_cons_zero, sg _ _ pp, intsV_map]
      simp only [ieV, e1]
      exact ep
    have hp0 : p0 ≠ 0 := by omega
    refine ⟨(sm + 7919 * at_ + 17).fmod p0, ?_, fun H4 s4 => ?_⟩
    · have e1 : ieV [some (.ref am), some (.int many), some (.int at_), x3, x4, some (.ref p), none] G (.g 0 kSmall) = some sm := by
        simp only [ieV, fldV, List.getElem?_cons_zero, sp _ _ q1]; rfl
      exact ie_op (ie_op (ie_op e1 (ie_op (i := 7919) (j := at_) rfl rfl (s_mulL (by decide))) (s_add _ _)) (j := 17) rfl (s_add _ _)) (ix (.refl _)) (s_mod hp0)
    have b1 := fmod_r (i := sm + 7919 * at_ + 17) (j := p0) (by omega)
    generalize (sm + 7919 * at_ + 17).fmod p0 = i at b1 ⊢
    refine ⟨(i * (48271 + 2 * at_) + 104729 * at_).fmod p0, ?_, fun H5 s5 => ?_⟩
    · exact ie_op (ie_op (ie_op (i := i) rfl (ie_op (i := 48271) rfl (ie_op (i := 2) (j := at_) rfl rfl (s_mulL (by decide))) (s_add _ _)) (s_mulL ⟨by omega, by omega⟩)) (ie_op (i := 104729) (j := at_) rfl rfl (s_mulL (by decide))) (s_add _ _)) (ix s4) (s_mod hp0)
    have b2 := fmod_r (i := i * (48271 + 2 * at_) + 104729 * at_) (j := p0) (by omega)
    generalize (i * (48271 + 2 * at_) + 104729 * at_).fmod p0 = j at b2 ⊢
    have b3 := fmod_r (i := ((j * j * j).fmod p0).fdiv 7) (j := many) m1
    refine ⟨(((j * j * j).fmod p0).fdiv 7).fmod many, ?_, fun H6 s6 => ?_⟩
    · exact ie_op (ie_op (ie_op (ie_op (ie_op (i := j) (j := j) rfl rfl (s_mulL ⟨by omega, by omega⟩)) (j := j) rfl (s_mulR ⟨by omega, by omega⟩)) (ix (s4.trans s5)) (s_mod hp0)) (j := 7) rfl (s_fdiv (by decide) (by decide))) (j := many) rfl (s_mod (by omega))
    · exact fin _ _ b3.1 b3.2 (sS q3 (sp.trans (s4.trans (s5.trans s6)))) (stw_same (sp.trans (s4.trans (s5.trans s6))) ⟨ns, sm, _, q1, q2⟩)
  have eG : ∀ {G : Hp} {x3 x4 x5 x6 : Option V}, G am = some (.dK (stKvs gl sm (at_ + 1))) → lbV [some (.ref am), some (.int many), some (.int at_), x3, x4, x5, x6] G (.fld 0 kGreat) = some (.ref gl) := fun {G x3 x4 x5 x6} h => by
    simp only [lbV, fldV, List.getElem?_cons_zero, h]; rfl
  refine ⟨_, eG q1, Nat.zero_le _, fun p hp => ?_⟩
  have sp : Same H3 (upd H3 p (.lst [])) := same_upd hp
  have pp : (upd H3 p (.lst [])) p = some (.lst []) := upd_same
  generalize upd H3 p (.lst []) = H4 at sp pp ⊢
  refine ⟨noG, fun _ => False, .list (ns.map .int), .list [], .bool (!ns.isEmpty), fun _ z => z.elim, ⟨gl, _, rfl, .inl ⟨.inl (sp _ _ q2), fun z => z⟩, intsV_reps (intsV_map ns)⟩, ⟨p, [], rfl, .inl ⟨.inl pp, fun z => z⟩, .nil⟩, ?_, fun v' H5 s5 r5 => ?_⟩
  · simp only [sem2]
    rw [if_pos (.inr ⟨shapedI ns, by decide⟩), eqvNil]
  cases r5
  have q1' := s5 _ _ (sp _ _ q1)
  have q2' := s5 _ _ (sp _ _ q2)
  have q3' := sS q3 (sp.trans s5)
  refine ⟨_, rfl, ?_⟩
  by_cases hns : ns = []
  · subst hns
    refine iteF ?_
    exact ⟨by decide, fun p hp => half H5 none none q1' q2' q3' p hp⟩
  · have : (!ns.isEmpty) = true := by simp [hns]
    refine ite2 (fun _ => ?_) fun z => absurd this z
    obtain ⟨n, j, en, ej⟩ := at_in hns at_
    have hl : 0 < ns.length := List.length_pos_iff.mpr hns
    have lb : ∀ {G : Hp} {x3 x4 x5 x6 : Option V}, Same H5 G → lbN [some (.ref am), some (.int many), some (.int at_), x3, x4, x5, x6] G (.fld 0 kGreat) = some ns := fun {G x3 x4 x5 x6} sg => by
      unfold lbN
      rw [eG (sg _ _ q1')]
      simp only [sg _ _ q2', intsV_map]
    refine ⟨at_.fmod ns.length, ie_op (i := at_) (j := (ns.length : Nat)) rfl ?_ (s_mod (by omega)), fun H6 s6 => ?_⟩
    · simp only [ieV, L2.start, drawN, List.length_cons, List.length_nil]
      exact congrArg _ (lb (.refl _))
    refine ⟨n, ?_, fun H7 s7 => ?_⟩
    · have := lb (x3 := some (.int (at_.fmod ns.length))) (x4 := none) (x5 := none) (x6 := none) s6
      show (match lbN [some (.ref am), some (.int many), some (.int at_), some (.int (at_.fmod ns.length)), none, none, none] H6 (.fld 0 kGreat), some (at_.fmod ns.length) with | some ns, some i => atI ns i | _, _ => none) = some n
      rw [this]
      exact en
    refine ⟨n, 0, decide (0 < n), rfl, rfl, rfl, fun H8 s8 => ?_⟩
    have s68 := s6.trans (s7.trans s8)
    refine ite2 (fun hb => ?_) fun hb => ?_
    · refine ⟨n.fdiv many, ie_op (i := n) (j := many) rfl rfl (s_fdiv m1 m2), fun H9 s9 => ?_⟩
      have s59 := s68.trans s9
      refine ⟨_, eG (x3 := some (.int (at_.fmod ns.length))) (x4 := some (.int n)) (x5 := none) (x6 := none) (s59 _ _ q1'), _, rfl, gl, _, _, j, rfl, rfl, s59 _ _ q2', by rw [List.length_map]; exact ej, ?_⟩
      have b3 := fmod_r (i := n) (j := many) m1
      refine ⟨n.fmod many, ie_op (i := n) (j := many) rfl rfl (s_mod (by omega)), fun H10 s10 => ?_⟩
      have u1 : (upd H9 gl (.lst ((ns.map V.int).set j (.int (n.fdiv many))))) am = some (.dK (stKvs gl sm (at_ + 1))) := by rw [upd_ne hne]; exact s59 _ _ q1'
      refine fin _ _ b3.1 b3.2 (sS (sM (.inr rfl) (sS q3' s59)) s10) (stw_same s10 ⟨ns.set j (n.fdiv many), sm, at_ + 1, u1, ?_⟩)
      rw [← map_set]
      exact upd_same
    · exact ⟨by decide, fun p hp => half H8 _ _ (s68 _ _ q1') (s68 _ _ q2') (sS q3' s68) p hp⟩
end
end Tk
namespace Tk
open PySem PySem.Spec PyProof.Rows L2
section
variable {P : Program} {w : World} {K : PySem.W.Frag} {mg : Str → Option Value} {base : Heap} {xr : XRep} {F : FT} {C : Cfg}
theorem hereS_of {n : Nat} {N ps : List Str} {qual : Str} {scope : Scope} {f : Addr} {cdv : Value} {A : Around} {outer : List Env} {s : Shared} {H : Hp} {E : XK} (S : FnScope N ps scope) (hr : Room n (A.deeper (envOfC qual scope s.heap.objs.size f cdv))) (hg : A.guards = some []) (blt : ∀ x ∈ bltNames, mg x = none)
    (st : Stat (cxOf (L2.CX P w) P w K mg base N qual scope f cdv A outer s H E) F C xr n) :
    HereS (cxOf (L2.CX P w) P w K mg base N qual scope f cdv A outer s H E) F N scope (fun _ => true) C xr n (fun cls dd _ H' => E cls dd H') :=
  ⟨⟨site_of hr hg blt, st, hr, rfl, S.nd, takes_of rfl rfl rfl rfl⟩, rfl, passes_of rfl⟩
def noF : FT := fun _ => none
def noC : Cfg := ⟨fun _ _ _ _ => False, fun _ => none⟩
def noX : XRep := fun _ _ _ _ _ => False
theorem noStat {X : Cx} : Stat X noF noC noX 0 := ⟨fun x d h => (nomatch (show (none : Option D) = some d from h)), fun _ _ _ _ _ _ _ h => h.elim, fun f nm np h => (nomatch (show (none : Option (Str × Nat)) = some (nm, np) from h)), fun f nm np h => (nomatch (show (none : Option (Str × Nat)) = some (nm, np) from h))⟩
theorem noG_ok : noG.Ok := ⟨.inl rfl, fun _ z => z.elim, fun _ z => z.elim, fun _ _ _ z => z.elim, fun _ _ _ _ => trivial, fun _ _ _ _ _ z => z.elim, fun _ _ _ z => z.elim⟩
theorem later_noG {H H' : Hp} {H0 : Hp} {O0 : Addr → Prop} (l : Later { noG with H0 := H0, O0 := O0 } H H') : Same H H' := fun b u e => l.same b u e fun z => z
theorem reps_ints {H : Hp} {O : Addr → Prop} : ∀ {ns : List Int} {vs : List V}, Reps K H O vs (ns.map PyData.int) → vs = ns.map V.int
  | [], _, h => by cases h; rfl
  | n :: ns, _, h => by
    cases h with
    | cons h1 h2 => cases h1; rw [reps_ints h2]; rfl
def begN : List Str := ["_law_script", "_law_m", "_law_cell"]
def begPs : List Str := ["_law_script"]
theorem scBeg : FnScope begN begPs (defScope sBegun) := scope_by (by decide +kernel)
/-- what the begin gives -/
def spBeg (K : PySem.W.Frag) : Sp := fun vs H Q _ => ∃ (v : V) (ns : List Int), vs = [v] ∧ ns.length ≤ 1000 ∧ Rep K H (fun _ => False) v (.list (ns.map .int)) ∧
  ∀ am gl H', am ≠ gl → H am = none → H gl = none → Same H H' → StW am gl H' → Q (.ref am) H'
def p18 : CE := .op2 .pow (.const (.int 10)) (.const (.int 18))
def greatC : CE := .comp [2] (.var 2) (.name 2) (.iter (.var 0)) (.op2 .ge (.var 2) p18)
theorem great_loop {δ : Dl} (hl : δ.length = 3) : ∀ (ns acc : List Int) (k : List D → Prop), ns.length + acc.length ≤ 1000 → (∀ ms : List Int, k (ms.map .int)) → loopC (compB noC [2] (.var 2) (.name 2) (.op2 .ge (.var 2) p18) δ) (ns.map .int) (acc.map .int) k
  | [], acc, k, _, hk => hk acc
  | n :: ns, acc, k, hle, hk => by
    have h2 : 2 < δ.length := by omega
    simp only [List.map_cons, loopC, compB, bindT, wipeD, List.length_set]
    refine ⟨h2, ?_⟩
    simp only [List.set_set, evT, ev, p18, List.getElem?_set_self h2, recv, true_and]
    refine ⟨.int (10 ^ 18), by simp [sem2], decide (10 ^ 18 ≤ n), rfl, ?_⟩
    refine ite2 (fun _ => ?_) fun _ => ?_
    · simp only [List.length_cons] at hle
      refine ⟨by rw [List.length_map, sizeLine_eq]; omega, ?_⟩
      have := great_loop hl ns (acc ++ [n]) k (by simp; omega) hk
      simp only [List.map_append, List.map_cons, List.map_nil] at this
      exact this
    · simp only [List.length_cons] at hle
      exact great_loop hl ns acc k (by omega) hk
def smallE : IE := .op .mod (.op .add (.op .add (.op .mul (.g 1 kSmall) (.op .pow (.c 10) (.c 18))) (.op .mod (.v 2) (.op .pow (.c 10) (.c 18)))) (.c 1)) (.op .mul (.op .sub (.op .pow (.c 2) (.c 61)) (.c 1)) (.op .sub (.op .pow (.c 2) (.c 31)) (.c 1)))
theorem put_small (gl : Addr) (a b t : Int) : putK (stKvs gl a t) (Sum.inr kSmall) (.int b) = stKvs gl b t := rfl
theorem beg_ok {a : Addr} {fd : FuncData} (Fu : FunD K "_law_begun" "_law_begun" (defArgs sBegun) (defBody sBegun) (defScope sBegun) [] [] a fd) (blt : ∀ x ∈ bltNames, mg x = none) :
    FnG P w K mg base 1 a fd begPs (spBeg K) := by
  obtain ⟨oc, od, dV, kV, doc, pm, an, cdv, ct, osl, rfl, lk, hcd, _, _⟩ := Fu.ex
  refine fnG_of (N := begN) lk hcd scBeg (fun vs H Q E h => ?_) fun A outer s H vs Q E md hr hg hsp => ?_
  · obtain ⟨v, ns, rfl, _⟩ := h
    rfl
  have hh : HereS (cxOf (L2.CX P w) P w K mg base begN "_law_begun" (defScope sBegun) a cdv A outer s H E) noF begN (defScope sBegun) (fun _ => true) noC noX 0 _ := hereS_of scBeg hr hg blt noStat
  have S := hh.toHere.site
  have nd : begN.Nodup := scBeg.nd
  refine ⟨_, pss_cons (ps_set (i := 1) nd rfl (.inl rfl) (pe_disp (pps_cons pe_str (sO hh.toHere greatC _ (by decide +kernel)) (pps_cons pe_str pe_int (pps_cons pe_str pe_int pps_nil))) rfl rfl (by simp) (by decide)))
    (pss_cons (ps_for hh.po S.calm (sI hh.toHere false (.iter (.var 0)) _ _ (by decide +kernel)) (pg_name (i := 2) nd rfl (.inl rfl)) (pss_one (ps_if (pt_ie (N := begN) (o := .lt) (t := .v 2) (u := .op .pow (.c 10) (.c 18)) S rfl rfl (by decide +kernel) (by decide +kernel) (by decide +kernel))
        (pss_one (ps_dput (units1 S) (pe_chkV (N := begN) (i := 1) S rfl (by decide +kernel)) pe_str (pe_ie (N := begN) S rfl smallE _ (by decide +kernel)) rfl)) pss_nil)) (fun y => rfl))
    (pss_one (ps_ret (pe_chkV (N := begN) (i := 1) S rfl (by decide +kernel))))), ?_⟩
  obtain ⟨v, ns, rfl, hn, rv, q⟩ := hsp
  intro p hp
  have sp : Same H (upd H p (.dK [])) := same_upd hp
  have ep : (upd H p (.dK [])) p = some (.dK []) := upd_same
  generalize upd H p (.dK []) = H1 at sp ep ⊢
  have r1 := Rep.ext (Ext.same sp) _ _ rv
  have fr1 := fr_start (K := K) (Γ := noG) (N := begN) (ss := [.val (.list (ns.map .int))]) (vs := [v]) noG_ok trivial (fun _ z => z.elim) (fun _ z => z.elim) (.cons r1 .nil) (by show 1 ≤ 3; decide)
  refine ⟨_, _, _, fun sl => ∃ ms : List Int, sl = .own (ms.map .int), fun _ => False, fr1, ?_, ?_, fun _ _ _ _ z => z.elim⟩
  · unfold greatC
    simp only [evO]
    rw [ev_comp]
    simp only [evI, ev, startD, List.map_cons, List.map_nil, List.cons_append, List.getElem?_cons_zero]
    refine ⟨_, rfl, ?_⟩
    exact great_loop (acc := []) rfl ns _ (by simpa using hn) fun ms => ⟨ms, rfl⟩
  rintro sl u H2 O2 ⟨ms, rfl⟩ ow
  obtain ⟨gl, us, rfl, f1, f2, f3, f4⟩ := ow.rep
  obtain rfl := reps_ints f4
  have s2 := later_noG ow.lat
  have hgl : H1 gl = none := f3
  have hpg : p ≠ gl := fun z => by rw [z, hgl] at ep; cases ep
  refine ⟨s2 _ _ ep, [(Sum.inr kGreat, .ref gl), (Sum.inr kSmall, .int 0), (Sum.inr kAt, .int 0)], rfl, by show 3 ≤ 15; decide, ?_⟩
  have em : mergeK [] [(Sum.inr kGreat, .ref gl), (Sum.inr kSmall, .int 0), (Sum.inr kAt, .int 0)] = stKvs gl 0 0 := rfl
  rw [em]
  have w1 : StW p gl (upd H2 p (.dK (stKvs gl 0 0))) := ⟨ms, 0, 0, upd_same, by rw [upd_ne (Ne.symm hpg)]; exact f1⟩
  have s3 : Same H (upd H2 p (.dK (stKvs gl 0 0))) := fun b u e => by
    have : b ≠ p := fun z => by rw [z, hp] at e; cases e
    rw [upd_ne this]; exact s2 _ _ (sp _ _ e)
  generalize upd H2 p (.dK (stKvs gl 0 0)) = H3 at w1 s3 ⊢
  have hgl0 : H gl = none := by
    cases e : H gl with
    | none => rfl
    | some u => rw [sp _ _ e] at hgl; cases hgl
  -- the loop
  have x3 : Ext H H3 (fun _ => False) (fun b => b = p) := ⟨fun b u e _ => s3 b u e, fun b z => .inr (by rw [z]; exact hp), fun b xs e => s3 _ _ e, fun b o u e => s3 _ _ e⟩
  have r3 := Rep.ext x3 _ _ rv
  have ot3 : OTr (fun b => b = p) H3 := fun b z e => by
    obtain ⟨_, _, _, h1, _⟩ := w1
    rw [z, h1] at e; cases e
  have fr3 : Fr K { noG with H0 := H3, O0 := fun b => b = p } [some (.val (.list (ns.map .int))), none, none] [some v, some (.ref p), none] H3 (fun b => b = p) := by
    refine ⟨⟨.inl rfl, fun _ z => z.elim, ot3, fun _ _ _ z => z.elim, fun _ _ _ _ => trivial, fun _ _ _ _ _ z => z.elim, fun _ _ _ z => z.elim⟩, rfl, fun _ _ h _ => h, fun _ h => h, ot3, trivial, fun i s e => ?_, fun i j a ds es h1 _ _ _ => ?_⟩
    · match i, e with
      | 0, e => cases e; exact ⟨v, rfl, r3⟩
      | 1, e => cases e
      | 2, e => cases e
      | i + 3, e => simp at e
    · match i, h1 with
      | 0, e => cases e
      | 1, e => cases e
      | 2, e => cases e
      | i + 3, e => simp at e
  refine ⟨_, _, _, fun xs => xs = ns.map .int, fun _ => False, fr3, ?_, fun xs J H4 ex l4 wk => ?_, fun _ _ _ _ z => z.elim⟩
  · simp only [evI, ev, List.getElem?_cons_zero]
    exact ⟨_, rfl, rfl⟩
  subst ex
  obtain ⟨G, Y, wa, hw⟩ := wk
  have s4 := later_noG l4
  have w4 := stw_same s4 w1
  have okH : ∀ H5, StW p gl H5 → (∀ b u, H4 b = some u → b ≠ p → H5 b = some u) → Ext H4 H5 (fun b => b = p) (fun b => b = p) ∧ OTr (fun b => b = p) H5 := fun H5 w5 k5 => by
    refine ⟨⟨fun b u e n => k5 b u e n, fun b z => .inl z, fun b xs e => k5 b _ e fun z => ?_, fun b o u e => k5 b _ e fun z => ?_⟩, fun b z e => ?_⟩
    · obtain ⟨_, _, _, h1, _⟩ := w4; rw [z, h1] at e; cases e
    · obtain ⟨_, _, _, h1, _⟩ := w4; rw [z, h1] at e; cases e
    · obtain ⟨_, _, _, h1, _⟩ := w5; rw [z, h1] at e; cases e
  refine for_it wa (fun i σ' H' => (∃ y, σ' = [some v, some (.ref p), y]) ∧ StW p gl H' ∧ ∀ b u, H4 b = some u → b ≠ p → H' b = some u) ⟨⟨none, rfl⟩, w4, fun b u e _ => e⟩ ?_ ?_ ?_
  · rintro i σ' H5 _ ⟨_, w5, k5⟩
    exact (hw H5 _ (okH H5 w5 k5).1 (fun z => by cases z) (okH H5 w5 k5).2).1
  · rintro i x σ' H5 H6 hi ⟨⟨y, rfl⟩, w5, k5⟩ hy
    obtain ⟨s6, d, ed, rd⟩ := (hw H5 _ (okH H5 w5 k5).1 (fun z => by cases z) (okH H5 w5 k5).2).2 i x H6 hi hy
    rw [List.getElem?_map] at ed
    obtain ⟨n, e1, rfl⟩ := Option.map_eq_some_iff.mp ed
    cases rd
    have k6 : ∀ b u, H4 b = some u → b ≠ p → H6 b = some u := fun b u e z => s6 _ _ (k5 b u e z)
    have w6 := stw_same s6 w5
    refine ⟨n, 10 ^ 18, decide (n < 10 ^ 18), rfl, rfl, by simp [sem2], fun H7 s7 => ?_⟩
    have k7 : ∀ b u, H4 b = some u → b ≠ p → H7 b = some u := fun b u e z => s7 _ _ (k6 b u e z)
    have w7 := stw_same s7 w6
    refine ite2 (fun _ => ?_) fun _ => ⟨⟨_, rfl⟩, w7, k7⟩
    obtain ⟨ms7, sm, at_, h1, h2⟩ := w7
    have eg : ieV [some v, some (.ref p), some (.int n)] H7 (.g 1 kSmall) = some sm := by
      simp only [ieV, fldV, List.getElem?_cons_succ, List.getElem?_cons_zero, h1]; rfl
    have e18 : ∀ {σ : L2.St}, ieV σ H7 (.op .pow (.c 10) (.c 18)) = some (10 ^ 18) := fun {σ} => by rfl
    have em : ∀ {σ : L2.St}, ieV σ H7 (.op .mul (.op .sub (.op .pow (.c 2) (.c 61)) (.c 1)) (.op .sub (.op .pow (.c 2) (.c 31)) (.c 1))) = some ((2 ^ 61 - 1) * (2 ^ 31 - 1)) := fun {σ} => by rfl
    refine ⟨_, ie_op (ie_op (ie_op (ie_op eg e18 (s_mulR (by decide))) (ie_op (i := n) rfl e18 (s_mod (by decide))) (s_add _ _)) (j := 1) rfl (s_add _ _)) em (s_mod (by decide)), fun H8 s8 => ⟨_, rfl, p, _, rfl, DPut.k (k := Sum.inr kSmall) (s8 _ _ h1) (by show 3 < sizeLine; decide), ⟨_, rfl⟩, ?_, fun b u e z => ?_⟩⟩
    · rw [put_small]
      exact ⟨ms7, _, at_, upd_same, by rw [upd_ne (Ne.symm hpg)]; exact s8 _ _ h2⟩
    · rw [upd_ne z]; exact s8 _ _ (k7 b u e z)
  · rintro σ' H5 ⟨⟨y, rfl⟩, w5, k5⟩
    refine ⟨_, rfl, q p gl H5 hpg hp hgl0 (fun b u e => ?_) w5⟩
    exact k5 b u (s4 _ _ (s3 _ _ e)) fun z => by rw [z, hp] at e; cases e
end
end Tk
namespace Tk
open PySem PySem.Spec PyProof.Rows L2
abbrev sRows : Stmt := top 1
def rowN : List Str := ["text", "found", "line", "words"]
def rowPs : List Str := ["text"]
theorem scRows : FnScope rowN rowPs (defScope sRows) := scope_by (by decide +kernel)
def wordsD (l : Str) : List Str := Txt.split l " "
def linesD (t : Str) : List Str := Txt.split t "\n"
def rowD (l : Str) : Option (List Str) := if ("" : Str) ∈ wordsD l then none else some (wordsD l)
def rowsD (t : Str) : List (Option (List Str)) := (linesD t).map rowD
structure RowsOk (t : Str) : Prop where
  len : t.length + 2 ≤ sizeLine
  lines : (linesD t).length < sizeLine
  line : ∀ l ∈ linesD t, l.length + 2 ≤ sizeLine
  word : ∀ l ∈ linesD t, ∀ x ∈ wordsD l, x.length ≤ sizeLine ∧ PyData.strOk x = true
/-- new lists of words -/
inductive RowsV (H H' : Hp) : List V → List (Option (List Str)) → List Addr → Prop
  | nil : RowsV H H' [] [] []
  | non {us rs as} : RowsV H H' us rs as → RowsV H H' (.non :: us) (none :: rs) as
  | row {us rs as b ws} : H b = none → H' b = some (.lst (ws.map V.str)) → RowsV H H' us rs as → RowsV H H' (.ref b :: us) (some ws :: rs) (b :: as)
theorem RowsV.snocN {H H' : Hp} {us rs as} (h : RowsV H H' us rs as) : RowsV H H' (us ++ [.non]) (rs ++ [none]) as := by
  induction h with
  | nil => exact .non .nil
  | non _ ih => exact .non ih
  | row a b _ ih => exact .row a b ih
theorem RowsV.snoc {H H' : Hp} {us rs as} {b : Addr} {ws : List Str} (h : RowsV H H' us rs as) (h1 : H b = none) (h2 : H' b = some (.lst (ws.map V.str))) : RowsV H H' (us ++ [.ref b]) (rs ++ [some ws]) (as ++ [b]) := by
  induction h with
  | nil => exact .row h1 h2 .nil
  | non _ ih => exact .non ih
  | row a b _ ih => exact .row a b ih
theorem RowsV.keep {H H' H2 : Hp} {us rs as} (h : RowsV H H' us rs as) (k : ∀ b ∈ as, H2 b = H' b) : RowsV H H2 us rs as := by
  induction h with
  | nil => exact .nil
  | non _ ih => exact .non (ih k)
  | row a b _ ih => exact .row a (by rw [k _ (by simp)]; exact b) (ih fun c hc => k c (by simp [hc]))
theorem RowsV.mem {H H' : Hp} {us rs as} (h : RowsV H H' us rs as) : ∀ b ∈ as, H b = none ∧ H' b ≠ none := by
  induction h with
  | nil => simp
  | non _ ih => exact ih
  | row a b _ ih =>
    intro c hc
    rcases List.mem_cons.mp hc with rfl | hc
    · exact ⟨a, by rw [b]; simp⟩
    · exact ih c hc
theorem RowsV.length {H H' : Hp} {us rs as} (h : RowsV H H' us rs as) : us.length = rs.length := by
  induction h <;> simp_all
/-- the whole: a list of them -/
structure RowsAt (H H' : Hp) (a : Addr) (rs : List (Option (List Str))) (us : List V) (as : List Addr) : Prop where
  same : Same H H'
  new : H a = none
  lst : H' a = some (.lst us)
  rows : RowsV H H' us rs as
  nd : as.Nodup
  na : a ∉ as
def spRows : Sp := fun vs H Q _ => ∃ t : Str, vs = [.str t] ∧ t.length ≤ sizeLine ∧ RowsOk t ∧ ∀ a H' us as, RowsAt H H' a (rowsD t) us as → Q (.ref a) H'
theorem inD_empty (ws : List Str) : inD (.str "") (ws.map PyData.str) = decide (("" : Str) ∈ ws) := by
  induction ws with
  | nil => rfl
  | cons x ws ih =>
    have : inD (.str "") ((x :: ws).map PyData.str) = (PyData.eqv (.str x) (.str "") || inD (.str "") (ws.map PyData.str)) := rfl
    rw [this, ih]
    simp only [PyData.eqv, List.mem_cons]
    by_cases h : x = ""
    · subst h; simp
    · have h' : ¬ ("" : Str) = x := fun z => h z.symm
      simp [h, h']
theorem shapedS {x : Str} (h : PyData.strOk x = true) : SeqAt.shaped (.str x) = true := by
  simp [SeqAt.shaped, PyData.canLay0, h, PyData.depth]
theorem allShapedS {ws : List Str} (h : ∀ x ∈ ws, PyData.strOk x = true) : allShaped (ws.map PyData.str) = true := by
  simp only [allShaped, List.all_map, List.all_eq_true]
  exact fun x hx => shapedS (h x hx)
section
variable {P : Program} {w : World} {K : PySem.W.Frag} {mg : Str → Option Value} {base : Heap}
theorem reps_strs {H : Hp} {O : Addr → Prop} : ∀ {ws : List Str}, (∀ x ∈ ws, x.length ≤ sizeLine) → Reps K H O (ws.map V.str) (ws.map PyData.str)
  | [], _ => .nil
  | x :: ws, h => .cons (.str x (h x (by simp))) (reps_strs fun y hy => h y (by simp [hy]))
theorem rows_ok {a : Addr} {fd : FuncData} (Fu : FunD K "rows_of" "rows_of" (defArgs sRows) (defBody sRows) (defScope sRows) [] [] a fd) (blt : ∀ x ∈ bltNames, mg x = none) :
    FnG P w K mg base 1 a fd rowPs spRows := by
  obtain ⟨oc, od, dV, kV, doc, pm, an, cdv, ct, osl, rfl, lk, hcd, _, _⟩ := Fu.ex
  refine fnG_of (N := rowN) lk hcd scRows (fun vs H Q E h => ?_) fun A outer s H vs Q E md hr hg hsp => ?_
  · obtain ⟨v, rfl, _⟩ := h
    rfl
  have hh : HereS (cxOf (L2.CX P w) P w K mg base rowN "rows_of" (defScope sRows) a cdv A outer s H E) noF rowN (defScope sRows) (fun _ => true) noC noX 0 _ := hereS_of scRows hr hg blt noStat
  have S := hh.toHere.site
  have nd : rowN.Nodup := scRows.nd
  have pvv : ∀ {i : Nat} {x : Str} {p : Pos}, chkV rowN (defScope sRows) i x = true → PE (cxOf (L2.CX P w) P w K mg base rowN "rows_of" (defScope sRows) a cdv A outer s H E) (.Name x p) (tVar i) := fun h => pe_chkV (N := rowN) S rfl h
  refine ⟨_, pss_cons (ps_set (i := 1) nd rfl (.inl rfl) (pe_lst pa_nil))
    (pss_cons (ps_for hh.po S.calm (sI hh.toHere false (.iter (.op2 .split (.var 0) (.const (.str "\n")))) _ _ (by decide +kernel)) (pg_name (i := 2) nd rfl (.inl rfl))
      (pss_cons (ps_set (i := 3) nd rfl (.inl rfl) (pe_m1 PySem.F.slot_str_split PySem.F.type_str_split mt_split (pvv (i := 2) (by decide +kernel)) pe_str))
      (pss_one (ps_expr (pe_bm PySem.F.plainAttrs_list PySem.F.slot_list_append PySem.F.type_list_append mt_append (pvv (i := 1) (by decide +kernel))
        (pa_cons (pe_ifExp (pt_cmpR (cmp_ok S (o := .inn) rfl) pe_str (pvv (i := 3) (by decide +kernel)) (marks_ok (by decide +kernel))) pe_non (pvv (i := 3) (by decide +kernel))) pa_nil))))) (fun y => rfl))
    (pss_one (ps_ret (pvv (i := 1) (by decide +kernel))))), ?_⟩
  obtain ⟨t, rfl, hz, ok, q⟩ := hsp
  refine ⟨Nat.zero_le _, fun f hf => ?_⟩
  have s1 : Same H (upd H f (.lst [])) := same_upd hf
  have e1 : (upd H f (.lst [])) f = some (.lst []) := upd_same
  generalize upd H f (.lst []) = H1 at s1 e1 ⊢
  have ot1 : OTr (fun b => b = f) H1 := fun b z e => by rw [z, e1] at e; cases e
  have fr1 : Fr K { noG with H0 := H1, O0 := fun b => b = f } [some (.val (.str t)), none, none, none] [some (.str t), some (.ref f), none, none] H1 (fun b => b = f) := by
    refine ⟨⟨.inl rfl, fun _ z => z.elim, ot1, fun _ _ _ z => z.elim, fun _ _ _ _ => trivial, fun _ _ _ _ _ z => z.elim, fun _ _ _ z => z.elim⟩, rfl, fun _ _ h _ => h, fun _ h => h, ot1, trivial, fun i s e => ?_, fun i j a ds es h1 _ _ _ => ?_⟩
    · match i, e with
      | 0, e => cases e; exact ⟨_, rfl, .str t hz⟩
      | 1, e => cases e
      | 2, e => cases e
      | 3, e => cases e
      | i + 4, e => simp at e
    · match i, h1 with
      | 0, e => cases e
      | 1, e => cases e
      | 2, e => cases e
      | 3, e => cases e
      | i + 4, e => simp at e
  refine ⟨_, _, _, fun xs => xs = (linesD t).map .str, fun _ => False, fr1, ?_, fun xs J H2 ex l2 wk => ?_, fun _ _ _ _ z => z.elim⟩
  · simp only [evI, ev, List.getElem?_cons_zero, recv, true_and]
    refine ⟨.list ((linesD t).map .str), ?_, _, rfl, rfl⟩
    simp only [sem2]
    rw [if_pos ⟨by decide, ok.len, List.all_eq_true.mpr fun x hx => decide_eq_true (Nat.le_trans (Nat.le_add_right _ 2) (ok.line x hx))⟩]
    rfl
  subst ex
  obtain ⟨G, Y, wa, hw⟩ := wk
  have s2 := later_noG l2
  have e2 := s2 _ _ e1
  have okH : ∀ H5, (∃ us, H5 f = some (.lst us)) → (∀ b u, H2 b = some u → b ≠ f → H5 b = some u) → Ext H2 H5 (fun b => b = f) (fun b => b = f) ∧ OTr (fun b => b = f) H5 := fun H5 ⟨us, w5⟩ k5 => by
    refine ⟨⟨fun b u e n => k5 b u e n, fun b z => .inl z, fun b xs e => k5 b _ e fun z => ?_, fun b o u e => k5 b _ e fun z => ?_⟩, fun b z e => ?_⟩
    · rw [z, e2] at e; cases e
    · rw [z, e2] at e; cases e
    · rw [z, w5] at e; cases e
  refine for_it wa (fun i σ' H' => (∃ x y, σ' = [some (.str t), some (.ref f), x, y]) ∧ (∀ b u, H2 b = some u → b ≠ f → H' b = some u) ∧ ∃ us as, H' f = some (.lst us) ∧ RowsV H H' us ((rowsD t).take i) as ∧ as.Nodup ∧ f ∉ as) ⟨⟨none, none, rfl⟩, fun b u e _ => e, [], [], e2, .nil, List.nodup_nil, by simp⟩ ?_ ?_ ?_
  · rintro i σ' H5 _ ⟨_, k5, us, as, w5, _⟩
    exact (hw H5 _ (okH H5 ⟨us, w5⟩ k5).1 (fun z => by cases z) (okH H5 ⟨us, w5⟩ k5).2).1
  · rintro i x σ' H5 H6 hi ⟨⟨y1, y2, rfl⟩, k5, us, as, w5, r5, n5, na5⟩ hy
    obtain ⟨s6, d, ed, rd⟩ := (hw H5 _ (okH H5 ⟨us, w5⟩ k5).1 (fun z => by cases z) (okH H5 ⟨us, w5⟩ k5).2).2 i x H6 hi hy
    rw [List.getElem?_map] at ed
    obtain ⟨l, el, rfl⟩ := Option.map_eq_some_iff.mp ed
    cases rd
    have hl : l ∈ linesD t := List.mem_of_getElem? el
    refine ⟨_, rfl, ⟨l, rfl⟩, l, " ", rfl, rfl, rfl, ok.line l hl, fun p hp => ?_⟩
    have s7 : Same H6 (upd H6 p (.lst ((Txt.split l (Str.ofString " ")).map V.str))) := same_upd hp
    have e7 : (upd H6 p (.lst ((Txt.split l (Str.ofString " ")).map V.str))) p = some (.lst ((wordsD l).map V.str)) := upd_same
    show _
    have key : ∀ H8, Same H6 H8 → H8 p = some (.lst ((wordsD l).map V.str)) → (∀ b u, H2 b = some u → b ≠ f → H8 b = some u) ∧ H8 f = some (.lst us) ∧ RowsV H H8 us ((rowsD t).take i) as ∧ p ∉ as ∧ p ≠ f ∧ H p = none := fun H8 s8 e8 => by
      have s58 := s6.trans s8
      refine ⟨fun b u e z => s58 _ _ (k5 b u e z), s58 _ _ w5, r5.keep fun b hb => ?_, fun hb => ?_, fun z => ?_, ?_⟩
      · cases e : H5 b with
        | none => exact absurd e (r5.mem b hb).2
        | some u => rw [s58 _ _ e]
      · cases e : H5 p with
        | none => exact absurd e (r5.mem p hb).2
        | some u => rw [s6 _ _ e] at hp; cases hp
      · rw [z, s6 _ _ w5] at hp; cases hp
      · cases e : H p with
        | none => rfl
        | some u =>
          have : p ≠ f := fun z => by rw [z, hf] at e; cases e
          rw [s6 _ _ (k5 _ _ (s2 _ _ (s1 _ _ e)) this)] at hp; cases hp
    have hrow : (rowsD t)[i]? = some (rowD l) := by unfold rowsD; rw [List.getElem?_map]; rw [show (linesD t)[i]? = some l from el]; rfl
    have htake : (rowsD t).take (i + 1) = (rowsD t).take i ++ [rowD l] := by
      rw [List.take_succ, hrow]; rfl
    have hus : us.length < sizeLine := by
      rw [r5.length, List.length_take]
      have := ok.lines
      unfold rowsD
      rw [List.length_map]
      omega
    generalize upd H6 p (.lst ((Txt.split l (Str.ofString " ")).map V.str)) = H7 at s7 e7 ⊢
    refine ⟨_, rfl, .inl ⟨rfl, us, .inl (.inl (key H7 s7 e7).2.1)⟩, ?_⟩
    refine ⟨_, rfl, noG, fun _ => False, .str "", .list ((wordsD l).map .str), .bool (decide (("" : Str) ∈ wordsD l)), fun _ z => z.elim, .str _ (by decide), ⟨p, _, rfl, .inl ⟨.inl e7, fun z => z⟩, reps_strs fun y hy => (ok.word l hl y hy).1⟩, ?_, fun v' H8 s8 r8 => ?_⟩
    · simp only [sem2]
      rw [if_pos ⟨by decide +kernel, allShapedS fun y hy => (ok.word l hl y hy).2⟩, inD_empty]
    cases r8
    refine ⟨_, rfl, ?_⟩
    obtain ⟨k8, w8, r8, np, npf, hp0⟩ := key H8 (s7.trans s8) (s8 _ _ e7)
    refine ite2 (fun hb => ?_) fun hb => ?_
    · have hb := of_decide_eq_true hb
      refine ⟨f, us, .non, rfl, rfl, w8, hus, ⟨_, _, rfl⟩, fun b u e z => by rw [upd_ne z]; exact k8 b u e z, us ++ [.non], as, upd_same, ?_, n5, na5⟩
      rw [htake, show rowD l = none from if_pos hb]
      exact (r8.keep fun b hb => upd_ne fun z => na5 (by rw [← z]; exact hb)).snocN
    · have hb : ¬ ("" : Str) ∈ wordsD l := fun z => hb (decide_eq_true z)
      refine ⟨_, rfl, f, us, _, rfl, rfl, w8, hus, ⟨_, _, rfl⟩, fun b u e z => by rw [upd_ne z]; exact k8 b u e z, us ++ [.ref p], as ++ [p], upd_same, ?_, ?_, ?_⟩
      · rw [htake, show rowD l = some (wordsD l) from if_neg hb]
        exact (r8.keep fun b hb => upd_ne fun z => na5 (by rw [← z]; exact hb)).snoc hp0 (by rw [upd_ne npf]; exact s8 _ _ e7)
      · exact List.nodup_append.mpr ⟨n5, by simp, fun x hx y hy => by simp at hy; rintro rfl; exact np (by rw [← hy]; exact hx)⟩
      · simp only [List.mem_append, List.mem_singleton, not_or]
        exact ⟨na5, Ne.symm npf⟩
  · rintro σ' H5 ⟨⟨x, y, rfl⟩, k5, us, as, w5, r5, n5, na5⟩
    refine ⟨_, rfl, q f H5 us as ⟨fun b u e => ?_, hf, w5, ?_, n5, na5⟩⟩
    · exact k5 b u (s2 _ _ (s1 _ _ e)) fun z => by rw [z, hf] at e; cases e
    · rw [List.length_map] at r5
      have : (rowsD t).take (linesD t).length = rowsD t := by rw [List.take_of_length_le]; unfold rowsD; rw [List.length_map]; exact Nat.le_refl _
      rw [this] at r5
      exact r5
end
end Tk
namespace Tk
open PySem PySem.Spec PyProof.Rows L2
/-- a statement that means S -/
def tG (K : PySem.W.Frag) (xr : XRep) (W : WX) (S : Dl → En → Prop) : TS := fun B σ H => ∃ Γ δ O E, Fr K Γ δ σ H O ∧ S δ E ∧ EnOk K xr W Γ H O B E
def seqG (S1 S2 : Dl → En → Prop) : Dl → En → Prop := fun δ E => S1 δ { E with nx := fun δ' => S2 δ' E }
def forG (C : Cfg) (t : Tg) (it : CE) (S : Dl → En → Prop) : Dl → En → Prop := fun δ E => evI C false it δ (fun xs => loopS (fun y δ' E' => bindT t y δ' fun δ1 => S δ1 E') xs δ E) fun x => E.xc x δ
section
variable {X : Cx} {F : FT} {N : List Str} {sc : Scope} {fn : Str → Bool} {C : Cfg} {xr : XRep} {n : Nat} {W : WX}
theorem gS (h : HereS X F N sc fn C xr n W) (c : CS) (st : Stmt) (hc : chkS F N sc fn c st = true) : PS X st (tG X.K xr W (ex C c)) := sS h c st hc
theorem gSs (h : HereS X F N sc fn C xr n W) (c : CS) (sts : List Stmt) (hc : chkSs F N sc fn c sts = true) : PSs X sts (tG X.K xr W (ex C c)) := sSs h c sts hc
theorem gCons {st : Stmt} {sts : List Stmt} {S1 S2 : Dl → En → Prop} (h1 : PS X st (tG X.K xr W S1)) (h2 : PSs X sts (tG X.K xr W S2)) : PSs X (st :: sts) (tG X.K xr W (seqG S1 S2)) := by
  refine PSs.imp (pss_cons h1 h2) fun B σ H ⟨Γ, δ, O, E, fr, hev, en⟩ => ?_
  exact ⟨Γ, δ, O, _, fr, hev, ⟨fun δ' σ' H' O' hk f' x' => ⟨Γ, δ', O', E, f', hk, en.ext x'⟩, en.rt, en.bk, en.ct, en.xc⟩⟩
theorem gOne {st : Stmt} {S1 : Dl → En → Prop} (h1 : PS X st (tG X.K xr W S1)) : PSs X [st] (tG X.K xr W S1) := pss_one h1
theorem gFor (h : HereS X F N sc fn C xr n W) {t : Tg} {it : CE} {tg ie : Expr} {body : List Stmt} {p : Pos} {S : Dl → En → Prop} (h2 : notSet ie = true) (h3 : chkI F N it sc tg ie = true) (h4 : chkT N sc fn t tg = true) (hb : PSs X body (tG X.K xr W S)) :
    PS X (.For tg ie body [] p) (tG X.K xr W (forG C t it S)) := by
  have hh := h.toHere
  refine PS.imp (ps_for (pos := p) h.po hh.site.calm (sI hh false it tg ie h3) (sTg hh.hN hh.nd hh.site.sc h.fn hh.site.calm t tg h4) hb (fun y => by cases ie <;> first | rfl | (simp [notSet] at h2))) fun B σ H ⟨Γ, δ, O, E, fr, hev, en⟩ => ?_
  refine ⟨Γ, δ, O, _, _, fr, hev, fun xs J H1 hk l wk => ?_, en.x fr⟩
  obtain ⟨G, Y, w, hw⟩ := wk
  have f1 := fr.later l
  refine for_it w (fun i σ' H' => ∃ δ' O', Fr X.K Γ δ' σ' H' O' ∧ loopS (fun y δ' E' => bindT t y δ' fun δ1 => S δ1 E') (xs.drop i) δ' E ∧ Ext H1 H' O O') ⟨δ, O, f1, hk, .refl⟩ ?_ ?_ ?_
  · rintro i σ' H' _ ⟨δ', O', f', _, x'⟩
    exact (hw H' O' x' (fun z => by cases z) f'.otr).1
  · rintro i y σ' H' H2 hi ⟨δ', O', f', hl, x'⟩ hy
    obtain ⟨s2, d, ed, rd⟩ := (hw H' O' x' (fun z => by cases z) f'.otr).2 i y H2 hi hy
    have hdrop : xs.drop i = d :: xs.drop (i + 1) := by
      obtain ⟨h', e'⟩ := List.getElem?_eq_some_iff.mp ed
      rw [List.drop_eq_getElem_cons h', e']
    rw [hdrop] at hl
    simp only [loopS] at hl
    have l2 : Later Γ H' H2 := Later.of_same f'.gh f'.w s2
    have f2 := f'.later l2
    have x2 : Ext H1 H2 O O' := x'.trans (f'.ext l2)
    refine ⟨Γ, δ', O', d, _, f2, hl, rd, fun δ3 σ3 hk3 f3 _ => ⟨Γ, δ3, O', _, f3, hk3, ?_⟩⟩
    refine ⟨fun δ4 σ4 H4 O4 hk4 f4 x4 => ⟨δ4, O4, f4, hk4, x2.trans x4⟩, en.rt, fun δ4 σ4 H4 O4 hk4 f4 x4 => en.nx δ4 σ4 H4 O4 hk4 f4 ((fr.ext l).trans (x2.trans x4)), fun δ4 σ4 H4 O4 hk4 f4 x4 => ⟨δ4, O4, f4, hk4, x2.trans x4⟩, en.xc⟩
  · rintro σ' H' ⟨δ', O', f', hl, x'⟩
    have : xs.drop xs.length = [] := by simp
    rw [this] at hl
    simp only [loopS] at hl
    exact en.nx δ' σ' H' O' hl f' ((fr.ext l).trans x')
/-- a call of a def whose promise is sp -/
theorem pe_callG {a : Addr} {fd : FuncData} {ps : List Str} {sp : Sp} {x : Str} {e : Expr} {es : List Expr} {t : TA} {p pos : Pos} (h : Here X F N sc C xr n W) (m1 : X.mg x = some (.ref a)) (m2 : PySem.W.keepIn X.K (.ref a) = true) (m4 : Binds X.K fd ps [])
    (m5 : FnG X.prog X.w X.K X.mg X.base n a fd ps sp) (hg : gl sc x = true) (hp : plainName x = true) (hs : notStars (e :: es) = true) (ha : PA X (e :: es) t) :
    PE X (.Call (.Name x p) (e :: es) [] pos) (fun σ H Q => t σ H fun vs H1 => sp vs H1 Q fun cls dd H' => W cls dd σ H') := by
  have hdb : (x == ("__debug__" : Str)) = false := by
    simp only [plainName, Bool.and_eq_true, Bool.not_eq_true'] at hp
    exact hp.1
  refine ⟨fun pins s σ H Q I q => ?_⟩
  refine wpAny_Call_Name_kw (ld_glob I (h.site.gl hg) m1 ?_ hdb)
  simp only [notStars, List.all_cons, Bool.and_eq_true] at hs
  refine PySem.W.callWith_K (h₀ := X.base) I.ok.mod.kin m2 (thn (ha.run pos pins s σ H _ I q) fun us s1 ⟨vs, H1, I1, r, q⟩ => ⟨I1.kIn, ?_⟩) (star_cons hs.1) (stars_any hs.2)
  exact run_fnG m5 h.room h.site.guards m4 h.tk I1 r q
end
/-- a slot of which nothing is known from now on -/
theorem Fr.forget {K : PySem.W.Frag} {Γ : Gh} {δ : Dl} {σ : L2.St} {H : Hp} {O : Addr → Prop} (f : Fr K Γ δ σ H O) (i : Nat) (v : Option V) : Fr K Γ (δ.set i none) (σ.set i v) H O where
  gh := f.gh
  len := by simp [f.len]
  same := f.same
  sub := f.sub
  otr := f.otr
  w := f.w
  slot := fun j s h => by
    by_cases e : i = j
    · subst e
      rw [List.getElem?_set] at h
      simp only [if_true] at h
      split at h <;> cases h
    · rw [List.getElem?_set_ne e] at h ⊢
      exact f.slot j s h
  dist := fun j k a ds es h1 h2 h3 h4 => by
    have g : ∀ {m : Nat} {es : List D}, (δ.set i none)[m]? = some (some (.own es)) → i ≠ m := fun {m es} h e => by
      subst e
      rw [List.getElem?_set] at h
      simp only [if_true] at h
      split at h <;> cases h
    have g1 := g h1
    have g2 := g h2
    rw [List.getElem?_set_ne g1] at h1 h3
    rw [List.getElem?_set_ne g2] at h2 h4
    exact f.dist j k a ds es h1 h2 h3 h4
/-! ### rows told, and made longer -/
def rowPD : Option (List Str) → D
  | none => .none
  | some ws => .list (ws.map .str)
def moreR : Option (List Str) → Option (List Str)
  | none => none
  | some ws => some (ws ++ [("more" : Str)])
theorem RowsV.get {H H' : Hp} {us rs as} (h : RowsV H H' us rs as) : ∀ (i : Nat) v, us[i]? = some v → ∃ r, rs[i]? = some r ∧ (r = none ∧ v = .non ∨ ∃ ws b, r = some ws ∧ v = .ref b ∧ b ∈ as ∧ H b = none ∧ H' b = some (.lst (ws.map V.str))) := by
  induction h with
  | nil => intro i v e; simp at e
  | non _ ih =>
    intro i v e
    cases i with
    | zero => simp at e; subst e; exact ⟨none, rfl, .inl ⟨rfl, rfl⟩⟩
    | succ i => simpa using ih i v (by simpa using e)
  | row a b _ ih =>
    intro i v e
    cases i with
    | zero => simp at e; subst e; exact ⟨_, rfl, .inr ⟨_, _, rfl, rfl, by simp, a, b⟩⟩
    | succ i =>
      obtain ⟨r, e1, e2⟩ := ih i v (by simpa using e)
      refine ⟨r, by simpa using e1, ?_⟩
      rcases e2 with e2 | ⟨ws, b, x1, x2, x3, x4, x5⟩
      · exact .inl e2
      · exact .inr ⟨ws, b, x1, x2, by simp [x3], x4, x5⟩
theorem RowsV.at {H H' : Hp} {us rs as} (h : RowsV H H' us rs as) : ∀ b ∈ as, ∃ i : Nat, us[i]? = some (.ref b) := by
  induction h with
  | nil => simp
  | non _ ih =>
    intro b hb
    obtain ⟨i, e⟩ := ih b hb
    exact ⟨i + 1, by simpa using e⟩
  | row a b _ ih =>
    intro c hc
    rcases List.mem_cons.mp hc with rfl | hc
    · exact ⟨0, rfl⟩
    · obtain ⟨i, e⟩ := ih c hc
      exact ⟨i + 1, by simpa using e⟩
theorem RowsV.mem_of {H H' : Hp} {us rs as} (h : RowsV H H' us rs as) : ∀ (i : Nat) b, us[i]? = some (.ref b) → b ∈ as := by
  intro i b e
  obtain ⟨r, _, e2⟩ := h.get i _ e
  rcases e2 with ⟨_, e2⟩ | ⟨ws, c, _, e2, e3, _⟩
  · cases e2
  · cases e2; exact e3
theorem RowsV.inj {H H' : Hp} {us rs as} (h : RowsV H H' us rs as) (nd : as.Nodup) : ∀ (i j : Nat) b, us[i]? = some (.ref b) → us[j]? = some (.ref b) → i = j := by
  induction h with
  | nil => intro i j b e; simp at e
  | non _ ih =>
    intro i j b e1 e2
    cases i with
    | zero => simp at e1
    | succ i =>
      cases j with
      | zero => simp at e2
      | succ j => rw [ih nd i j b (by simpa using e1) (by simpa using e2)]
  | @row us rs as c ws _ _ r ih =>
    rw [List.nodup_cons] at nd
    intro i j b e1 e2
    cases i with
    | zero =>
      cases j with
      | zero => rfl
      | succ j =>
        simp at e1 e2
        subst e1
        exact absurd (r.mem_of j _ e2) nd.1
    | succ i =>
      cases j with
      | zero =>
        simp at e1 e2
        subst e2
        exact absurd (r.mem_of i _ e1) nd.1
      | succ j => rw [ih nd.2 i j b (by simpa using e1) (by simpa using e2)]
theorem rows_reps {K : PySem.W.Frag} {O : Addr → Prop} {H' : Hp} : ∀ {us : List V} {rs : List (Option (List Str))}, us.length = rs.length → (∀ (i : Nat) v r, us[i]? = some v → rs[i]? = some r → r = none ∧ v = .non ∨ ∃ ws b, r = some ws ∧ v = .ref b ∧ ¬ O b ∧ H' b = some (.lst (ws.map V.str)) ∧ ∀ x ∈ ws, x.length ≤ sizeLine) →
    Reps K H' O us (rs.map rowPD)
  | [], [], _, _ => .nil
  | [], _ :: _, h, _ => by simp at h
  | _ :: _, [], h, _ => by simp at h
  | u :: us, r :: rs, hl, h => by
    refine .cons ?_ (rows_reps (by simpa using hl) fun i v r e1 e2 => h (i + 1) v r (by simpa using e1) (by simpa using e2))
    rcases h 0 u r rfl rfl with ⟨rfl, rfl⟩ | ⟨ws, b, rfl, rfl, x1, x2, x3⟩
    · exact .non
    · exact .lst (.inl ⟨.inl x2, x1⟩) (reps_strs x3)
structure ShowOk (d : D) : Prop where
  sh : d.showable = true
  di : d.hasDict = false
  de : d.depth ≤ 100
  le : d.shown.length ≤ sizeLine
theorem ShowOk.sem {d : D} (h : ShowOk d) : sem1 .repr d = some (.str d.shown) := by
  simp only [sem1]
  rw [if_pos ⟨h.sh, h.di, h.de, h.le⟩]
end Tk
namespace Tk
open PySem PySem.Spec PyProof.Rows L2
abbrev sLaw : Stmt := top 8
def forBody : Stmt → List Stmt
  | .For _ _ b _ _ => b
  | _ => []
def noSt : Stmt := .Pass ⟨0, 0, 0, 0⟩
def turnB : List Stmt := forBody ((defBody sLaw).getD 1 noSt)
def againB : List Stmt := forBody (turnB.getD 4 noSt)
def lawN : List Str := ["_law_script", "_law_m", "_law_signs_here", "_law_turn", "_law_some_lines", "_law_text", "_law_due", "_law_again", "_law_found", "_law_row", "_law_k"]
def cB2 : CE := .or_ (.not_ (.op1 (.isi ["list"]) (.var 8))) (.op2 .ne (.op1 .repr (.var 8)) (.op1 .repr (.var 6)))
def moreC : CE := .comp [9] (.ifx (.op1 .isN (.var 9)) (.const .none) (.op2 .add (.var 9) (.lst (.cons (.const (.str "more")) .nil)))) (.name 9) (.iter (.var 6)) .nil
def cB4 : CE := .op2 .ne (.op1 .repr (.var 8)) (.op1 .repr moreC)
structure AgainOk (t : Str) : Prop where
  rows : RowsOk t
  sh1 : ShowOk (.list ((rowsD t).map rowPD))
  sh2 : ShowOk (.list (((rowsD t).map moreR).map rowPD))
  more : ∀ ws, some ws ∈ rowsD t → ws.length + 1 ≤ sizeLine
/-- what the block means -/
def againG : Dl → En → Prop := fun δ E => ∃ t : Str, δ[5]? = some (some (.val (.str t))) ∧ δ[6]? = some (some (.val (.list ((rowsD t).map rowPD)))) ∧ δ.length = 11 ∧ AgainOk t ∧
  E.nx ((δ.set 9 none).set 8 (some (.own (((rowsD t).map moreR).map rowPD ++ [.none]))))
theorem more_loop {C : Cfg} {δ : Dl} (hl : δ.length = 11) : ∀ (rs : List (Option (List Str))) (acc : List D) (k : List D → Prop), rs.length + acc.length ≤ sizeLine → (∀ ws, some ws ∈ rs → ws.length + 1 ≤ sizeLine) → k (acc ++ (rs.map moreR).map rowPD) →
    loopC (compB C [9] (.ifx (.op1 .isN (.var 9)) (.const .none) (.op2 .add (.var 9) (.lst (.cons (.const (.str "more")) .nil)))) (.name 9) .nil δ) (rs.map rowPD) acc k
  | [], acc, k, _, _, hk => by simpa [loopC] using hk
  | r :: rs, acc, k, hle, hm, hk => by
    have h9 : 9 < δ.length := by omega
    simp only [List.length_cons] at hle
    simp only [List.map_cons, loopC, compB, bindT, wipeD, List.length_set]
    refine ⟨h9, ?_⟩
    simp only [List.set_set, evT, ev, evA, List.getElem?_set_self h9, sem1, recv, true_and, if_true]
    cases r with
    | none =>
      refine ⟨true, rfl, ?_⟩
      refine iteT ⟨by omega, ?_⟩
      exact more_loop hl rs (acc ++ [.none]) k (by simp; omega) (fun ws h => hm ws (by simp [h])) (by simpa [rowPD, moreR] using hk)
    | some ws =>
      have h1 := hm ws (by simp)
      refine ⟨false, rfl, iteF ?_⟩
      refine ⟨_, rfl, by decide, .list ((ws ++ [("more" : Str)]).map .str), ?_, by omega, ?_⟩
      · simp only [rowPD, sem2, List.length_map, List.length_cons, List.length_nil]
        rw [if_pos h1]
        simp
      · exact more_loop hl rs (acc ++ [.list ((ws ++ [("more" : Str)]).map .str)]) k (by simp; omega) (fun ws h => hm ws (by simp [h])) (by simpa [rowPD, moreR] using hk)
section
variable {X : Cx} {F : FT} {C : Cfg} {xr : XRep} {n : Nat} {W : WX}
theorem again_ok {a0 : Addr} {fd0 : FuncData} (h : HereS X F lawN (defScope sLaw) (fun _ => true) C xr n W) (m1 : X.mg "rows_of" = some (.ref a0)) (m2 : PySem.W.keepIn X.K (.ref a0) = true) (m4 : Binds X.K fd0 rowPs [])
    (m5 : FnG X.prog X.w X.K X.mg X.base n a0 fd0 rowPs spRows) : PSs X againB (tG X.K xr W againG) := by
  have hh := h.toHere
  have S := hh.site
  have hN : X.N = lawN := hh.hN
  have pvv : ∀ {i : Nat} {x : Str} {p : Pos}, chkV lawN (defScope sLaw) i x = true → PE X (.Name x p) (tVar i) := fun q => pe_chkV (N := lawN) S hN q
  have pg : ∀ {i : Nat} {x : Str} {p : Pos}, chkT lawN (defScope sLaw) (fun _ => true) (.name i) (.Name x p) = true → PG X (.Name x p) (gName i) := fun {i x p} q => by
    obtain ⟨q1, q2, q3⟩ := name_ok h q
    exact pg_name hh.nd q1 q2 q3
  refine PSs.imp (pss_cons (ps_asg (pe_callG hh m1 m2 m4 m5 (by decide +kernel) (by decide +kernel) (by decide +kernel) (pa_cons (pvv (i := 5) (by decide +kernel)) pa_nil)) (pg (i := 8) (by decide +kernel)))
    (pss_cons (ps_if (sT hh cB2 _ (by kernel_rfl)) pss_never pss_nil)
    (pss_cons (ps_for h.po S.calm (pi_any (pvv (i := 8) (by decide +kernel))) (pg (i := 9) (by decide +kernel))
      (pss_one (ps_if (pt_cmp (pc_notN (pvv (i := 9) (by decide +kernel)))) (pss_one (ps_expr (pe_bm PySem.F.plainAttrs_list PySem.F.slot_list_append PySem.F.type_list_append mt_append (pvv (i := 9) (by decide +kernel)) (pa_cons pe_str pa_nil)))) pss_nil)) (fun y => rfl))
    (pss_cons (ps_if (sT hh cB4 _ (by kernel_rfl)) pss_never pss_nil)
    (pss_one (sS h (.app 8 (.const .none)) _ (by kernel_rfl))))))) fun B σ H ⟨Γ, δ, O, E, fr, ⟨t, d5, d6, dl, ok, hE⟩, en⟩ => ?_
  have rok := ok.rows
  obtain ⟨v5, s5, r5⟩ := fr.slot 5 _ d5
  cases r5 with | str _ ht =>
  refine ⟨_, s5, t, rfl, ht, rok, fun a H1 us as ra => ?_⟩
  obtain ⟨rsame, rnew, rlst, rrows, rnd, rna⟩ := ra
  have l1 : Later Γ H H1 := Later.of_same fr.gh fr.w rsame
  have h0a : Γ.H0 a = none := fr.h0 rnew
  have ha8 : 8 < δ.length := by omega
  have nO : ∀ b, H b = none → ¬ O b := fun b e z => fr.otr b z e
  have nM : ∀ b, H b = none → ¬ Γ.M b := fun b e z => nO b e (fr.m b z)
  have wl : ∀ ws, some ws ∈ rowsD t → ∀ x ∈ ws, x.length ≤ sizeLine := fun ws hw x hx => by
    unfold rowsD at hw
    obtain ⟨l, hl, e⟩ := List.mem_map.mp hw
    unfold rowD at e
    split at e
    · cases e
    · cases e; exact (rok.word l hl x hx).1
  -- the frame, with any rows there
  have frame : ∀ (H' : Hp) (rs : List (Option (List Str))) (y : Option V), Later Γ H H' → H' a = some (.lst us) → rs.length = us.length → (∀ (i : Nat) v r, us[i]? = some v → rs[i]? = some r → r = none ∧ v = .non ∨ ∃ ws b, r = some ws ∧ v = .ref b ∧ H b = none ∧ b ≠ a ∧ H' b = some (.lst (ws.map V.str)) ∧ ∀ x ∈ ws, x.length ≤ sizeLine) →
      ∃ O', Fr X.K Γ ((δ.set 9 none).set 8 (some (.own (rs.map rowPD)))) ((σ.set 9 y).set 8 (some (.ref a))) H' O' ∧ Ext H H' O O' := fun H' rs y l ea hl hr => by
    obtain ⟨f1, x1⟩ := fr.grow l rnew ea
    refine ⟨_, (f1.forget 9 y).setO (by simp; omega) ⟨a, us, rfl, ea, .inr rfl, h0a, rows_reps hl.symm fun i v r e1 e2 => ?_⟩ (fun ds b e1 e2 j es hj => ?_), x1⟩
    · rcases hr i v r e1 e2 with q | ⟨ws, b, q1, q2, q3, q4, q5, q6⟩
      · exact .inl q
      · exact .inr ⟨ws, b, q1, q2, fun z => z.elim (nO b q3) q4, q5, q6⟩
    · cases e2
      by_cases z : 9 = j
      · subst z
        rw [List.getElem?_set] at hj
        simp only [if_true] at hj
        split at hj <;> cases hj
      · rw [List.getElem?_set_ne z] at hj ⊢
        exact fr.nslot rnew j es hj
  -- first look
  have rget := rrows.get
  have rlen : (rowsD t).length = us.length := rrows.length.symm
  have base1 : ∀ H2, Later Γ H1 H2 → ∀ (i : Nat) v r, us[i]? = some v → (rowsD t)[i]? = some r → r = none ∧ v = .non ∨ ∃ ws b, r = some ws ∧ v = .ref b ∧ H b = none ∧ b ≠ a ∧ H2 b = some (.lst (ws.map V.str)) ∧ ∀ x ∈ ws, x.length ≤ sizeLine := fun H2 l2 i v r e1 e2 => by
    obtain ⟨r', e3, e4⟩ := rget i v e1
    rw [e2] at e3; cases e3
    rcases e4 with e4 | ⟨ws, b, f1, f2, f3, f4, f5⟩
    · exact .inl e4
    · exact .inr ⟨ws, b, f1, f2, f4, fun z => rna (by rw [← z]; exact f3), l2.same b _ f5 (nM b f4), wl ws (by rw [← f1]; exact List.mem_of_getElem? e2)⟩
  obtain ⟨O1, fr1, x1⟩ := frame H1 (rowsD t) (σ[9]?.getD none) l1 rlst rlen (base1 H1 (.refl l1.w))
  have hσ9 : σ.set 9 (σ[9]?.getD none) = σ := by
    have : 9 < σ.length := by rw [← fr.len]; omega
    rw [List.getElem?_eq_getElem this]
    exact List.set_getElem_self this
  rw [hσ9] at fr1
  have g8 : ((δ.set 9 none).set 8 (some (.own ((rowsD t).map rowPD))))[8]? = some (some (.own ((rowsD t).map rowPD))) := List.getElem?_set_self (by simp; omega)
  have g6 : ∀ z, ((δ.set 9 none).set 8 z)[6]? = some (some (.val (.list ((rowsD t).map rowPD)))) := fun z => by
    rw [List.getElem?_set_ne (by decide), List.getElem?_set_ne (by decide)]; exact d6
  refine ⟨Γ, _, O1, fun b => b = false, fun _ => False, fr1, ?_, fun b H2 eb l2 => ?_, fun _ _ _ _ z => z.elim⟩
  · simp only [cB2, evT, ev, g8, g6, true_and, ok.sh1.sem, recv]
    refine ⟨true, rfl, ?_⟩
    simp only [Bool.not_true, if_neg Bool.false_ne_true]
    refine ⟨_, rfl, _, rfl, false, ?_, rfl⟩
    simp only [sem2, bothS, true_or, if_true]
    simp [PyData.eqv]
  subst eb
  refine iteF ?_
  have l12 := l1.trans l2
  have e2a : H2 a = some (.lst us) := l2.same a _ rlst (nM a rnew)
  have b2 := base1 H2 l2
  -- the loop over the rows
  refine ⟨_, by rw [List.getElem?_set_self (by rw [← fr.len]; exact ha8)], .inl ⟨a, us, rfl, .inl (.inl e2a), ?_⟩⟩
  refine for_it (walk_list (xs := us)) (fun i σ' H' => (∃ y, σ' = (σ.set 9 y).set 8 (some (.ref a))) ∧ (∀ b u, H2 b = some u → (∀ j : Nat, us[j]? ≠ some (.ref b)) → H' b = some u) ∧
    ∀ (j : Nat) ws b, us[j]? = some (.ref b) → (rowsD t)[j]? = some (some ws) → H' b = some (.lst ((if j < i then ws ++ [("more" : Str)] else ws).map V.str))) ?_ ?_ ?_ ?_
  · refine ⟨⟨σ[9]?.getD none, by rw [hσ9]⟩, fun b u e _ => e, fun j ws b e1 e2 => ?_⟩
    rcases b2 j _ _ e1 e2 with ⟨z, _⟩ | ⟨ws', b', q1, q2, q3, q4, q5, q6⟩
    · cases z
    · cases q1; cases q2
      simpa using q5
  · rintro i σ' H' _ ⟨_, k', _⟩
    exact .inl (.inl (k' a _ e2a fun j hj => rna (rrows.mem_of j a hj)))
  · rintro i x σ' H' H3 hi ⟨⟨y, rfl⟩, k', j'⟩ ⟨rfl, ex⟩
    have h9 : ((((σ.set 9 y).set 8 (some (.ref a))).set 9 (some x)))[9]? = some (some x) := List.getElem?_set_self (by simp; rw [← fr.len]; omega)
    have hset : (((σ.set 9 y).set 8 (some (.ref a))).set 9 (some x)) = (σ.set 9 (some x)).set 8 (some (.ref a)) := by
      rw [List.set_comm _ _ (by decide : (8 : Nat) ≠ 9), List.set_set]
    refine ⟨x, h9, _, rfl, ?_⟩
    obtain ⟨r, er⟩ : ∃ r, (rowsD t)[i]? = some r := ⟨_, List.getElem?_eq_getElem (by rw [rlen]; exact hi)⟩
    rcases b2 i x r ex er with ⟨rfl, rfl⟩ | ⟨ws, b, rfl, rfl, q3, q4, q5, q6⟩
    · refine iteF ⟨⟨_, hset⟩, k', fun j ws b e1 e2 => ?_⟩
      have := j' j ws b e1 e2
      by_cases hj : j < i
      · rw [if_pos hj] at this; rw [if_pos (by omega)]; exact this
      · have hne : j ≠ i := fun z => by subst z; rw [ex] at e1; cases e1
        rw [if_neg hj] at this; rw [if_neg (by omega)]; exact this
    · refine ite2 (fun _ => ?_) fun z => absurd (by simp) z
      have hb := j' i ws b ex er
      rw [if_neg (Nat.lt_irrefl i)] at hb
      refine ⟨_, h9, .inl ⟨rfl, _, .inl (.inl hb)⟩, b, _, _, rfl, rfl, hb, ?_, ⟨_, hset⟩, fun c u e hc => ?_, fun j vs c e1 e2 => ?_⟩
      · rw [List.length_map]
        have := ok.more ws (List.mem_of_getElem? er)
        omega
      · have : c ≠ b := fun z => hc i (by rw [z]; exact ex)
        rw [upd_ne this]
        exact k' c u e hc
      · by_cases hj : j = i
        · subst hj
          rw [ex] at e1; cases e1
          rw [er] at e2; cases e2
          rw [upd_same, if_pos (by omega)]
          simp
        · have hcb : c ≠ b := fun z => hj (rrows.inj rnd j i c e1 (by rw [z]; exact ex))
          rw [upd_ne hcb]
          have := j' j vs c e1 e2
          by_cases hj2 : j < i
          · rw [if_pos hj2] at this; rw [if_pos (by omega)]; exact this
          · rw [if_neg hj2] at this; rw [if_neg (by omega)]; exact this
  · rintro σ' H3 ⟨⟨y, rfl⟩, k', j'⟩
    have l3 : Later Γ H H3 := by
      refine ⟨fun b u e m => k' b u (l12.same b u e m) fun j hj => ?_, fr.gh.ws H2 H3 (fun b mb => ?_) l12.w⟩
      · rcases rget j _ hj with ⟨r, _, ⟨_, z⟩ | ⟨ws, c, _, z, _, z2, _⟩⟩
        · cases z
        · cases z; rw [z2] at e; cases e
      · cases e : H2 b with
        | none => exact absurd e (fr.gh.wm H2 l12.w b mb)
        | some u =>
          refine k' b u e fun j hj => ?_
          rcases rget j _ hj with ⟨r, _, ⟨_, z⟩ | ⟨ws, c, _, z, _, z2, _⟩⟩
          · cases z
          · cases z; exact nM b z2 mb
    have e3a : H3 a = some (.lst us) := k' a _ e2a fun j hj => rna (rrows.mem_of j a hj)
    obtain ⟨O3, fr3, x3⟩ := frame H3 ((rowsD t).map moreR) y l3 e3a (by rw [List.length_map]; exact rlen) fun i v r e1 e2 => by
      rw [List.getElem?_map] at e2
      obtain ⟨r0, er, rfl⟩ := Option.map_eq_some_iff.mp e2
      rcases b2 i v r0 e1 er with ⟨rfl, rfl⟩ | ⟨ws, b, rfl, rfl, q3, q4, q5, q6⟩
      · exact .inl ⟨rfl, rfl⟩
      · have hi : i < us.length := (List.getElem?_eq_some_iff.mp e1).1
        have := j' i ws b e1 er
        rw [if_pos hi] at this
        refine .inr ⟨ws ++ [("more" : Str)], b, rfl, rfl, q3, q4, this, fun x hx => ?_⟩
        rcases List.mem_append.mp hx with hx | hx
        · exact q6 x hx
        · simp at hx; subst hx; decide
    have g8' : ((δ.set 9 none).set 8 (some (.own (((rowsD t).map moreR).map rowPD))))[8]? = some (some (.own (((rowsD t).map moreR).map rowPD))) := List.getElem?_set_self (by simp; omega)
    refine ⟨Γ, _, O3, fun b => b = false, fun _ => False, fr3, ?_, fun b H4 eb l4 => ?_, fun _ _ _ _ z => z.elim⟩
    · simp only [cB4, evT]
      simp only [ev, g8', true_and, ok.sh2.sem, recv]
      refine ⟨_, rfl, ?_⟩
      unfold moreC
      rw [ev_comp]
      simp only [evI, ev, g6]
      refine ⟨_, rfl, more_loop (by simp; exact dl) (rowsD t) [] _ ?_ ok.more ?_⟩
      · have := rok.lines
        unfold rowsD
        simp
        omega
      · simp only [List.nil_append, ok.sh2.sem]
        refine ⟨_, rfl, false, ?_, rfl⟩
        simp only [sem2, bothS, true_or, if_true]
        simp [PyData.eqv]
    subst eb
    refine iteF ?_
    have fr4 := fr3.later l4
    refine ⟨Γ, _, O3, E, fr4, ?_, en.ext (x3.trans (fr3.ext l4))⟩
    simp only [ex, g8', ev]
    refine ⟨?_, ?_⟩
    · have := rok.lines
      unfold rowsD
      simp
      omega
    · rw [List.set_set]
      exact hE
end
end Tk
namespace Tk
open PySem PySem.Spec PyProof.Rows L2
def fDraw : Nat := 0
def fRows : Nat := 1
def fSigns : Nat := 2
def fLine : Nat := 3
def fWalk : Nat := 4
def i_ (i : Int) : CE := .const (.int i)
def s_ (x : Str) : CE := .const (.str x)
def args : List CE → CE
  | [] => .nil
  | a :: r => .cons a (args r)
def sq : List CS → CS
  | [] => .nop
  | a :: r => .seq a (sq r)
def some1 : Str := "!\"#$&'()*+,-./0123456789:;<=>?@ABCDEFGHIJKLMNOPQRSTUVWXYZ[\\]^_"
def some2 : Str := "`abcdefghijklmnopqrstuvwxyz{|}~"
def signsB : CS := sq [.asg (.name 0) (s_ some1), .ret (.op2 .add (.var 0) (s_ some2))]
def dSigns : Def := ⟨top 5, "_law_signs", [], ["_law_some"], signsB⟩
def draw (m : CE) : CE := .call fDraw (args [.var 0, m])
def wordC : CE := .comp [6] (.op2 .ix (.var 1) (draw (.op1 .len (.var 1)))) (.name 6) (.range1 (.op2 .add (i_ 1) (draw (i_ 5)))) .nil
def seps : List Str := [" ", " ", " ", "  "]
def heads : List Str := ["", "", "", " ", "", " "]
def tails : List Str := ["", "", "", "", " ", " "]
def strL (l : List Str) : CE := .lst (args (l.map s_))
def lineB : CS := sq [.par [2, 3, 4] (args [draw (i_ 4), draw (i_ 6), .lst .nil]),
  .for_ (.name 5) (.range1 (draw (i_ 6))) (sq [.app 4 (.op2 .join (s_ "") wordC)]),
  .asg (.name 7) (.op2 .join (.op2 .ix (strL seps) (.var 2)) (.var 4)),
  .ret (.op2 .add (.op2 .add (.op2 .ix (strL heads) (.var 3)) (.var 7)) (.op2 .ix (strL tails) (.var 3)))]
def dLine : Def := ⟨top 6, "_law_line", ["_law_m", "_law_signs_here"], ["_law_m", "_law_signs_here", "_law_way", "_law_ends", "_law_found", "_law_k", "_law_j", "_law_line_here"], lineB⟩
def walkS : CS := sq [.ite (.op2 .nin (.var 5) (.tup (args [s_ " ", s_ "\n"]))) (sq [.asg (.name 3) (.op2 .add (.var 3) (.var 5))])
    (sq [.asg (.name 4) (.and_ (.var 4) (.op2 .ne (.var 3) (s_ ""))), .app 2 (.var 3), .asg (.name 3) (s_ "")]),
  .ite (.op2 .eq (.var 5) (s_ "\n")) (sq [.frz 2, .app 1 (.ifx (.var 4) (.var 2) (.const .none)), .par [2, 4] (args [.lst .nil, .const (.bool true)])]) .nop]
def walkB : CS := sq [.par [1, 2, 3, 4] (args [.lst .nil, .lst .nil, s_ "", .const (.bool true)]), .for_ (.name 5) (.iter (.op2 .add (.var 0) (s_ "\n"))) walkS, .retV 1]
def dWalk : Def := ⟨top 7, "_law_walked", ["_law_text"], ["_law_text", "_law_found", "_law_words", "_law_word", "_law_is_so", "_law_sign"], walkB⟩
def semRows (ss : List Slot) (k : Slot → Prop) (_ : KX) : Prop := ∃ t : Str, ss = [.val (.str t)] ∧ RowsOk t ∧ k (.own ((rowsD t).map rowPD))
def tab : List Ent := [.prim "_law_draw" 2 1 semDraw, .prim "rows_of" 1 1 semRows, .code dSigns, .code dLine, .code dWalk]
def noGl : Str → Option D := fun _ => none
theorem ok_signs : DOk (tabF tab) dSigns := ⟨by decide +kernel, fun _ _ _ _ _ _ us hl => match us, hl with | [], _ => rfl, by decide +kernel⟩
theorem ok_line : DOk (tabF tab) dLine := ⟨by decide +kernel, fun _ _ _ _ _ _ us hl => match us, hl with | [_, _], _ => rfl, by decide +kernel⟩
theorem ok_walk : DOk (tabF tab) dWalk := ⟨by decide +kernel, fun _ _ _ _ _ _ us hl => match us, hl with | [_], _ => rfl, by decide +kernel⟩
section
variable {P : Program} {w : World} {K : PySem.W.Frag} {mg : Str → Option Value} {base : Heap} {xr : XRep}
/-- rows_of as the table has it -/
theorem rows_sp {f n : Nat} {a : Addr} {fd : FuncData} (h : FnG P w K mg base n a fd rowPs spRows) : FnG P w K mg base n a fd rowPs (spC K xr (fun _ ss k x => ss.length = 1 ∧ semRows ss k x) f 1) := by
  have imp : ∀ vs H Q E, spC K xr (fun _ ss k x => ss.length = 1 ∧ semRows ss k x) f 1 vs H Q E → spRows vs H Q E := by
    rintro vs H Q E ⟨hvl, Γ, O, ss, k, x, g1, g2, g3, g4, g5, ⟨g6, t, rfl, ok, hk⟩, g7, g8⟩
    cases g5 with | cons r1 g5 => cases g5 with | nil =>
    cases r1 with | str _ ht =>
    refine ⟨t, rfl, ht, ok, fun a H' us as ra => ?_⟩
    refine g7 _ _ H' hk (Later.of_same g1 g2 ra.same) ⟨a, us, rfl, ra.lst, ra.new, rows_reps ra.rows.length fun i v r e1 e2 => ?_⟩
    obtain ⟨r', e3, e4⟩ := ra.rows.get i v e1
    rw [e2] at e3; cases e3
    rcases e4 with e4 | ⟨ws, b, f1, f2, f3, f4, f5⟩
    · exact .inl e4
    · refine .inr ⟨ws, b, f1, f2, fun z => z.elim (fun z => g3 b z f4) fun z => ra.na (by rw [← z]; exact f3), f5, ?_⟩
      have hm := List.mem_of_getElem? e2
      unfold rowsD at hm
      obtain ⟨l, hl, e⟩ := List.mem_map.mp hm
      rw [f1] at e
      unfold rowD at e
      split at e
      · cases e
      · cases e; exact fun x hx => (ok.word l hl x hx).1
  exact ⟨fun vs H Q E hh => h.len vs H Q E (imp _ _ _ _ hh), fun A outer s H args us vs Q E a1 a2 a3 a4 a5 a6 => h.run A outer s H args us vs Q E a1 a2 a3 a4 a5 (imp _ _ _ _ a6)⟩
end
end Tk
namespace Tk
open PySem PySem.Spec PyProof.Rows L2
theorem law_callG {P : Program} {w : World} {K : PySem.W.Frag} {mg mb : Str → Option Value} {k : Nat} {fa a : Addr} {fd : FuncData} {x : Str} {sp : Sp} {s₁ : Shared} {vs : List Value} {ns : List Int}
    (KX : K.In s₁.heap) (hns : s₁.heap.Ns mainGlobals mg) (hb : s₁.heap.Ns builtinsNs mb) (hbb : ∀ x : Str, x ≠ "__name__" → mb x = bootBuiltins x) (hlim : s₁.heap.NoLimit) (hg : s₁.gens = #[])
    (ha : s₁.heap.get? a = some { cls := .type "list", data := .seq vs.toArray }) (hi : IntsAre vs ns) (hl : ns.length ≤ sizeLine) (hr : Room k callerA)
    (F : ∀ base : Heap, FnG P w K mg base k fa fd [x] sp) (hbind : ∀ (s : Shared) (u : Value), BindsTo s fd ⟨[u], []⟩ [(x, u)])
    (hsp : ∀ H : Hp, Only H → SqL K H a (ns.map V.int) → sp [.ref a] H (fun v _ => v = .bl true) fun _ _ _ => False)
    (hCX : ∀ H e s', L2.CX P w [] H s₁ (fun _ _ _ => False) e s' → False) :
    codeAny (model P w) callerA (.call (.ref fa) ⟨[.ref a], []⟩) (fun r s' => r = .ok (.ret (.bool true)) ∧ OldK s₁.heap s'.heap ∧ s'.os = s₁.os ∧ AllBare s'.gens) s₁ := by
  have rv := vals_ints hi
  have core : ∀ H : Hp, Only H → SqL K H a (ns.map V.int) → HOk P w H s₁.heap → (∀ b, H b ≠ none → b = a) → (H a ≠ none → K.lookup a = none) →
      codeAny (model P w) callerA (.call (.ref fa) ⟨[.ref a], []⟩) (fun r s' => r = .ok (.ret (.bool true)) ∧ OldK s₁.heap s'.heap ∧ s'.os = s₁.os ∧ AllBare s'.gens) s₁ := by
    intro H hO hS hok hA hK
    have at_a : ∀ {b : Addr} {u : HO}, H b = some u → b = a := fun {b u} q => hA b (by rw [q]; simp)
    have nsK : ∀ {b : Addr} {m : Str → Option Value}, s₁.heap.Ns b m → (hidT s₁.heap H).Ns b m := by
      rintro b m ⟨o, es, ep, e, d, r⟩
      refine ⟨o, es, ep, hidT_get e ?_, d, r⟩
      cases q : H b with
      | none => rfl
      | some u =>
        obtain rfl := at_a q
        rw [ha] at e; cases e
        have d' : Data.seq vs.toArray _ = Data.dict es ep := d
        cases d'
    have hKb : K.In (hidT s₁.heap H) := fun b o e => hidT_get (KX b o e) (by
      cases q : H b with
      | none => rfl
      | some u =>
        obtain rfl := at_a q
        rw [hK (by rw [q]; simp)] at e; cases e)
    obtain ⟨mc, c1, c2⟩ := hlim
    have e0 : Env0 P w K mg (hidT s₁.heap H) callerA [] s₁ H := ⟨rfl, ⟨hKb, nsK hns, ⟨mb, nsK hb, hbb⟩, mc, nsK c1, c2⟩, fun b o e => of_hidT e, Nat.le_of_eq (hidT_size _ _), trivial, fun b hb => absurd (show b ∈ ([] : List Addr) from hb) (by simp), hok, .of_eq hg⟩
    refine codeAny_mono ((F _).run callerA [] s₁ H ⟨[.ref a], []⟩ [.ref a] [.ref a] _ _ hr rfl e0 (hbind s₁ (.ref a)) (.cons rfl .nil) (hsp H hO hS)) fun r s' h => ?_
    cases r with
    | error e => exact (hCX H e s' h).elim
    | ok fl =>
      cases fl with
      | ret u =>
        obtain ⟨v, H', os, bare, un, hok', r', q⟩ := h
        have q' : v = .bl true := q
        subst q'
        obtain rfl : u = Value.bool true := r'
        refine ⟨rfl, OldK.of_keep fun b o e => ?_, os, bare⟩
        rcases hO b with z | ⟨ob, xs, z⟩
        · exact un.keep b o e z (fun z => absurd (show b ∈ ([] : List Addr) from z) (by simp)) (by simp)
        · obtain ⟨e1, _⟩ := hok b _ z
          obtain ⟨e2, _⟩ := hok' b _ (un.frzs b ob _ z)
          rw [e] at e1; cases e1
          exact e2
      | _ => exact False.elim h
  cases hk : K.lookup a with
  | some o =>
    have e := KX a o hk
    rw [ha] at e
    cases e
    exact core (fun _ => none) (fun _ => .inl rfl) (.inr ⟨_, vs.toArray, _, hk, rfl, rfl, rfl, by rw [List.size_toArray, hi.length]; exact hl, by simpa using rv⟩) (fun b u z => (nomatch (show (none : Option HO) = some u from z))) (fun b z => absurd rfl z) fun z => absurd rfl z
  | none =>
    refine core (upd (fun _ => none) a (.frz { cls := .type "list", data := .seq vs.toArray } (.lst (ns.map V.int)))) (fun b => ?_) (.inl (.inr ⟨_, upd_same⟩)) (fun b u z => ?_) (fun b z => ?_) fun _ => hk
    · by_cases hb : b = a
      · rw [hb]; exact .inr ⟨_, _, upd_same⟩
      · exact .inl (upd_ne hb)
    · by_cases hb : b = a
      · subst hb
        rw [upd_same] at z
        cases z
        exact ⟨ha, by rw [List.length_map]; exact hl, vs, _, rv, ha⟩
      · rw [upd_ne hb] at z; cases z
    · by_cases hb : b = a
      · exact hb
      · exact absurd (upd_ne hb) z
theorem walk_ofG {l : PySem.W.OpenLaw} {n k : Nat} {q : Program} {loose : List Str} {XP : (Str → Option Value) → Heap → Prop} {YP : World → Heap → Prop} {d : DefRec} {x : Str}
    (hn : l.most = some n) (hn2 : n ≤ sizeLine) (hdf : d.params.defaults = []) (hr : Room k callerA)
    (F : ∀ (w : World) (mg : Str → Option Value) (fa : Addr) (h : Heap), YP w h → h.Ns mainGlobals mg → mg d.name = some (.ref fa) →
      ∃ (K : PySem.W.Frag) (fd : FuncData) (sp : Sp), K.In h ∧ (∀ (s : Shared) (u : Value), BindsTo s fd ⟨[u], []⟩ [(x, u)]) ∧
        (∀ (H : Hp) (a : Addr) (ns : List Int), ns.length ≤ n → Only H → SqL K H a (ns.map V.int) → sp [.ref a] H (fun v _ => v = .bl true) fun _ _ _ => False) ∧
        ∀ base : Heap, FnG l.prog w K mg base k fa fd [x] sp) :
    PySem.W.WalkO q loose XP YP l.row.toRowW d [] (fun f vs => PySem.call f vs) := by
  refine Att.attach_call hn hdf fun w s₀ s₁ mg mb fa o pm cd doc a vs ns G Y ho hd hcd hmg hobj hints hlen hg => ?_
  obtain ⟨K, fd, sp, KX, hb, hsp, hF⟩ := F w mg fa _ Y G.T.g hmg
  exact law_callG KX G.T.g G.T.b G.T.builtins G.T.nolimit hg hobj hints (Nat.le_trans hlen hn2) hr hF hb (fun H hO hS => hsp H a ns hlen hO hS) fun H e s' ⟨_, _, _, _, _, _, _, _, _, _, _, _, z⟩ => z
end Tk
namespace Tk
open PySem PySem.Spec PyProof.Rows L2
def lv : Nat := 5
def cfg : Cfg := ⟨callW tab noGl lv, noGl⟩
def drawL (m : CE) : CE := .call fDraw (args [.var 1, m])
def t1 : CS := .asgO 4 (.comp [10] (.call fLine (args [.var 1, .var 2])) (.name 10) (.range1 (.op2 .add (i_ 1) (drawL (i_ 6)))) .nil)
def t2 : CS := .app 4 (.op2 .ix (.var 4) (drawL (.op1 .len (.var 4))))
def t3 : CS := .asg (.name 5) (.op2 .join (s_ "\n") (.var 4))
def t4 : CS := .asg (.name 6) (.call fWalk (args [.var 5]))
def turnG : Dl → En → Prop := seqG (ex cfg t1) (seqG (ex cfg t2) (seqG (ex cfg t3) (seqG (ex cfg t4) (forG cfg (.name 7) (.range1 (i_ 2)) againG))))
def non_ : CE := .const .none
def restB : CS := sq [.asg (.name 6) (.lst (args [.lst (args [non_]), .lst (args [non_, non_]), .lst (args [strL ["a"], non_, strL ["b", "c"]])])),
  .ret (.op2 .eq (.op1 .repr (.lst (args [.call fRows (args [s_ ""]), .call fRows (args [s_ "\n"]), .call fRows (args [s_ "a\n\nb c"])]))) (.op1 .repr (.var 6)))]
def lawG : Dl → En → Prop := seqG (forG cfg (.name 3) (.range1 (i_ 4)) turnG) (ex cfg restB)
def signsD : Str := some1 ++ some2
def δ1 : Dl := [none, some .st, some (.val (.str signsD)), none, none, none, none, none, none, none, none]
def E1 : En := ⟨fun _ => False, fun s => s = .val (.bool true), fun _ => False, fun _ => False, fun _ _ => False⟩
def lawPs : List Str := ["_law_script"]
theorem scLaw : FnScope lawN lawPs (defScope sLaw) := scope_by (by decide +kernel)
def spLaw (K : PySem.W.Frag) : Sp := fun vs H Q _ => ∃ (a : Addr) (ns : List Int), vs = [.ref a] ∧ ns.length ≤ 63 ∧ Only H ∧ SqL K H a (ns.map V.int) ∧ ∀ H', Q (.bl true) H'
theorem stw_ok {am gl : Addr} {H : Hp} (hne : am ≠ gl) (w : StW am gl H) : Gh.Ok ⟨H, fun b => b = am ∨ b = gl, fun b => b = am ∨ b = gl, StW am gl, .ref am⟩ := by
  have tr : ∀ H b, StW am gl H → (b = am ∨ b = gl) → (∃ kvs, H b = some (.dK kvs)) ∨ ∃ xs, H b = some (.lst xs) := by
    rintro H b ⟨ns, sm, at_, h1, h2⟩ (rfl | rfl)
    · exact .inl ⟨_, h1⟩
    · exact .inr ⟨_, h2⟩
  refine ⟨.inr ⟨am, gl, hne, rfl, rfl, rfl⟩, fun b h => h, fun b h e => ?_, fun H w b h e => ?_, fun H H' h w => ?_, fun H H' w _ b h xs e => ?_, fun H b w h o u e => ?_⟩
  · have e' : H b = none := e
    rcases tr H b w h with ⟨_, z⟩ | ⟨_, z⟩ <;> (rw [e'] at z; cases z)
  · rcases tr H b w h with ⟨_, z⟩ | ⟨_, z⟩ <;> (rw [e] at z; cases z)
  · obtain ⟨ns, sm, at_, h1, h2⟩ := w
    exact ⟨ns, sm, at_, by rw [h am (.inl rfl)]; exact h1, by rw [h gl (.inr rfl)]; exact h2⟩
  · rcases tr H b w h with ⟨_, z⟩ | ⟨_, z⟩ <;> (rw [e] at z; cases z)
  · rcases tr H b w h with ⟨_, z⟩ | ⟨_, z⟩ <;> (rw [e] at z; cases z)
section
variable {P : Program} {w : World} {K : PySem.W.Frag} {mg : Str → Option Value} {base : Heap}
theorem law_ok {a aB aR : Addr} {fd fdB fdR : FuncData} (pure : lawG δ1 E1) (psig : callW tab noGl lv fSigns [] (fun s => ∃ d, slotD s = some d ∧ d = .str signsD) (fun _ => False)) (hz : signsD.length ≤ sizeLine)
    (tb : Tab mg K P w tab noGl noX) (Fu : FunD K "law" "law" (defArgs sLaw) (defBody sLaw) (defScope sLaw) [] [] a fd)
    (FB : FunD K "_law_begun" "_law_begun" (defArgs sBegun) (defBody sBegun) (defScope sBegun) [] [] aB fdB) (gB : mg "_law_begun" = some (.ref aB))
    (FR : FunD K "rows_of" "rows_of" (defArgs sRows) (defBody sRows) (defScope sRows) [] [] aR fdR) (gR : mg "rows_of" = some (.ref aR)) :
    FnG P w K mg base (lv + 1) a fd lawPs (spLaw K) := by
  have blt := tb.blt
  have GB : FnG P w K mg base lv aB fdB begPs (spBeg K) := (beg_ok FB blt).mono (by decide)
  have GR : FnG P w K mg base lv aR fdR rowPs spRows := (rows_ok FR blt).mono (by decide)
  have bB : Binds K fdB begPs [] := FB.bindsN fun _ _ _ _ _ _ us hl => match us, hl with | [_], _ => rfl
  have bR : Binds K fdR rowPs [] := FR.bindsN fun _ _ _ _ _ _ us hl => match us, hl with | [_], _ => rfl
  have kB := FB.kp
  have kR := FR.kp
  obtain ⟨oc, od, dV, kV, doc, pm, an, cdv, ct, osl, rfl, lk, hcd, _, _⟩ := Fu.ex
  refine fnG_of (N := lawN) lk hcd scLaw (fun vs H Q E h => ?_) fun A outer s H vs Q E md hr hg hsp => ?_
  · obtain ⟨v, ns, rfl, _⟩ := h
    rfl
  have hh : HereS (cxOf (L2.CX P w) P w K mg base lawN "law" (defScope sLaw) a cdv A outer s H E) (tabF tab) lawN (defScope sLaw) (fun _ => true) cfg noX lv _ :=
    hereS_of scLaw hr hg blt ⟨tb.glob, tb.xm, fun f nm np hF ss k x h => callW_len hF h, fun f nm np hF => sound tb base lv f nm np hF⟩
  have S := hh.toHere.site
  have nd : lawN.Nodup := scLaw.nd
  have turn : PSs (cxOf (L2.CX P w) P w K mg base lawN "law" (defScope sLaw) a cdv A outer s H E) turnB (tG K noX _ turnG) :=
    gCons (gS hh t1 _ (by decide +kernel)) (gCons (gS hh t2 _ (by decide +kernel)) (gCons (gS hh t3 _ (by decide +kernel)) (gCons (gS hh t4 _ (by decide +kernel)) (gOne (gFor hh (t := .name 7) (it := .range1 (i_ 2)) (by decide +kernel) (by decide +kernel) (by decide +kernel) (again_ok hh gR kR bR GR))))))
  refine ⟨_, pss_cons (ps_asg (pe_tup (pa_cons (pe_callG hh.toHere gB kB bB GB (by decide +kernel) (by decide +kernel) (by decide +kernel) (pa_cons (pe_chkV (N := lawN) (i := 0) S rfl (by decide +kernel)) pa_nil)) (pa_cons (sE hh.toHere false (.call fSigns .nil) _ (by decide +kernel)) pa_nil)))
      (pg_tup S.calm (pgs_cons (pg_name (i := 1) nd rfl (.inr rfl)) (pgs_cons (pg_name (i := 2) nd rfl (.inr rfl)) pgs_nil))) rfl (swap_eq (by show swapVal (defScope sLaw) _ _ = _; decide +kernel)))
    (gCons (gFor hh (t := .name 3) (it := .range1 (i_ 4)) (by decide +kernel) (by decide +kernel) (by decide +kernel) turn) (gSs hh restB _ (by decide +kernel))), ?_⟩
  obtain ⟨as, ns, rfl, hn, ho, hs, q⟩ := hsp
  refine ⟨_, rfl, _, ns, rfl, by omega, ?_, fun am gl H1 hne h1 h2 s1 w1 => ?_⟩
  · refine .lst ?_ (intsV_reps (intsV_map ns))
    rcases hs with hs | hs
    · exact .inl ⟨hs, fun z => z⟩
    · exact .inr hs
  have gok := stw_ok hne w1
  have fr0 : Fr K ⟨H1, fun b => b = am ∨ b = gl, fun b => b = am ∨ b = gl, StW am gl, .ref am⟩ (List.replicate 11 none) (L2.start lawN [.ref as]) H1 (fun b => b = am ∨ b = gl) := by
    refine ⟨gok, rfl, fun _ _ h _ => h, fun _ h => h, gok.ot, w1, fun i s e => ?_, fun i j b ds es e _ _ _ => ?_⟩
    · rw [List.getElem?_replicate] at e; split at e <;> cases e
    · rw [List.getElem?_replicate] at e; split at e <;> cases e
  refine ⟨_, _, _, fun d => d = .str signsD, fun _ => False, fr0, ?_, fun d v H2 hd l2 rp => ?_, fun _ _ _ _ z => z.elim⟩
  · simp only [ev, evA]
    exact psig
  subst hd
  refine ⟨by show 2 ≤ sizeLine; decide, fun T hT => ⟨T, _, rfl, .inl (.inl upd_same), rfl, _, _, rfl, _, _, rfl, rfl, ?_⟩⟩
  have sT : Same H2 (upd H2 T (.tup [.ref am, v])) := same_upd hT
  have l3 := Later.of_same gok l2.w sT
  have fr2 := ((fr0.later (l2.trans l3)).setO (i := 1) (s := .st) (v := .ref am) (by decide) ⟨rfl, by simp⟩ (fun _ _ z => by cases z)).set (i := 2) (by decide) (Rep.ext ((fr0.later l2).ext l3) _ _ rp)
  refine ⟨_, δ1, _, E1, fr2, pure, ⟨fun _ _ _ _ z => z.elim, fun s v H' hs ro => ?_, fun _ _ _ _ z => z.elim, fun _ _ _ _ z => z.elim, fun _ _ _ _ _ _ _ z => z.elim⟩⟩
  have hs' : s = .val (.bool true) := hs
  subst hs'
  obtain ⟨_, _, O', _, r⟩ := ro
  cases r
  exact q H'
end
end Tk
namespace Tk
open PySem PySem.Spec PyProof.Rows L2
def dd (x : Str) (i : Nat) : He.DefD := ⟨(x, none), x, x, defArgs (top i), defBody (top i), defScope (top i), [], []⟩
def fnD : List He.DefD := [dd "rows_of" 1, dd "_law_begun" 3, dd "_law_draw" 4, dd "_law_signs" 5, dd "_law_line" 6, dd "_law_walked" 7, dd "law" 8]
def faD : List He.Fa := [.glo "rows_of", .glo "_law_begun", .glo "_law_draw", .glo "_law_signs", .glo "_law_line", .glo "_law_walked", .glo "law"] ++ bltNames.map He.Fa.free
abbrev RW : PySem.W.OpenRow := PySem.W.OpenLaw.row PySem.Challenge.rw_tiekeep_k03_lines_and_words
abbrev hk : PySem.W.Hook := He.hookD 4 faD fnD
def ob (s : PySem.W.SharedT) : He.AlD := He.obsDG 4 faD fnD (HandSHeadRun.getT s)
theorem ob_eq (s : PySem.W.SharedT) : ob s = hk.obs s.abs := He.obsDG_eq (HandSHeadRun.getT_eq s)
def looseD : List Str := ["rows_of", "_law_begun", "_law_draw", "_law_signs", "_law_line", "_law_walked"]
theorem run (w : World) : HandSHeadRun.RunEq RW (PySem.W.view RW.prog [8]) hk ob 400 looseD w := by
  intro os
  kernel_rfl
theorem facts {P : Program} {w : World} {K : PySem.W.Frag} {h : Heap} {mg : Str → Option Value} {f : Addr} (X : K.In h) (G : h.Ns mainGlobals mg) (hfa : mg ("law" : Str) = some (.ref f)) (c : He.SaysD faD fnD K)
    (pure : lawG δ1 E1) (psig : callW tab noGl lv fSigns [] (fun s => ∃ d, slotD s = some d ∧ d = .str signsD) (fun _ => False)) (hz : signsD.length ≤ sizeLine) :
    ∃ fd : FuncData, (∀ (s : Shared) (v : Value), BindsTo s fd ⟨[v], []⟩ [("_law_script", v)]) ∧ ∀ base : Heap, FnG P w K mg base (lv + 1) f fd lawPs (spLaw K) := by
  obtain ⟨fd1, F1⟩ := c.def_ 0 (d := dd "rows_of" 1) rfl
  obtain ⟨fd2, F2⟩ := c.def_ 1 (d := dd "_law_begun" 3) rfl
  obtain ⟨fd3, F3⟩ := c.def_ 2 (d := dd "_law_draw" 4) rfl
  obtain ⟨fd4, F4⟩ := c.def_ 3 (d := dd "_law_signs" 5) rfl
  obtain ⟨fd5, F5⟩ := c.def_ 4 (d := dd "_law_line" 6) rfl
  obtain ⟨fd6, F6⟩ := c.def_ 5 (d := dd "_law_walked" 7) rfl
  obtain ⟨fd, F⟩ := c.def_ 6 (d := dd "law" 8) rfl
  have g1 := He.glo_ok X G (c.fact 0 (f := .glo "rows_of") rfl)
  have g2 := He.glo_ok X G (c.fact 1 (f := .glo "_law_begun") rfl)
  have g3 := He.glo_ok X G (c.fact 2 (f := .glo "_law_draw") rfl)
  have g4 := He.glo_ok X G (c.fact 3 (f := .glo "_law_signs") rfl)
  have g5 := He.glo_ok X G (c.fact 4 (f := .glo "_law_line") rfl)
  have g6 := He.glo_ok X G (c.fact 5 (f := .glo "_law_walked") rfl)
  have e := hfa.symm.trans (He.glo_ok X G (c.fact 6 (f := .glo "law") rfl))
  cases e
  have blt : ∀ x ∈ bltNames, mg x = none := fun x hx => He.free_ok X G (c.facts (f := .free x) (List.mem_append_right _ (List.mem_map_of_mem hx)))
  have tb : Tab mg K P w tab noGl noX := by
    refine ⟨blt, fun x d h => (nomatch (show (none : Option D) = some d from h)), fun _ _ _ _ _ _ _ h => h.elim, fun i d e => ?_, fun i nm np lvl sem e => ?_⟩
    · match i, e with
      | 0, e => cases e
      | 1, e => cases e
      | 2, e => cases e; exact ⟨ok_signs, _, _, g4, F4⟩
      | 3, e => cases e; exact ⟨ok_line, _, _, g5, F5⟩
      | 4, e => cases e; exact ⟨ok_walk, _, _, g6, F6⟩
      | i + 5, e => simp [tab] at e
    · match i, e with
      | 0, e => cases e; exact ⟨_, _, drawPs, g3, F3.kp, rfl, F3.bindsN fun _ _ _ _ _ _ us hl => match us, hl with | [_, _], _ => rfl, fun base => draw_ok F3 blt⟩
      | 1, e => cases e; exact ⟨_, _, rowPs, g1, F1.kp, rfl, F1.bindsN fun _ _ _ _ _ _ us hl => match us, hl with | [_], _ => rfl, fun base => rows_sp (rows_ok F1 blt)⟩
      | 2, e => cases e
      | 3, e => cases e
      | 4, e => cases e
      | i + 5, e => simp [tab] at e
  have b := FunD.bindsA (ps := ["_law_script"]) F fun _ _ _ _ _ _ us hl => match us, hl with | [_], _ => rfl
  exact ⟨fd, fun s v => b s [v] rfl, fun base => law_ok pure psig hz tb F F2 g2 F1 g1⟩
end Tk
open PySem PySem.W PySem.Calls PyProof.Rows
theorem k03_of (pure : Tk.lawG Tk.δ1 Tk.E1) (psig : Tk.callW Tk.tab Tk.noGl Tk.lv Tk.fSigns [] (fun s => ∃ d, Tk.slotD s = some d ∧ d = .str Tk.signsD) (fun _ => False)) (hz : Tk.signsD.length ≤ sizeLine) : PySem.Challenge.rw_tiekeep_k03_lines_and_words.Holds := by
  w_on; o_law
  refine HandSHeadRun.head_any (r := OpenLaw.row PySem.Challenge.rw_tiekeep_k03_lines_and_words) (q := view (OpenLaw.row PySem.Challenge.rw_tiekeep_k03_lines_and_words).prog [8]) (H := Tk.hk) (ob := Tk.ob) (M := 400) (loose := Tk.looseD) (d := HandSHeadRun.topDef (OpenLaw.row PySem.Challenge.rw_tiekeep_k03_lines_and_words).prog 8) (kwd := []) Tk.ob_eq
    (by kernel_rfl) (fun s => by kernel_rfl) Tk.run (by kernel_rfl) (by kernel_rfl) (by kernel_rfl) (by rfl) (by first | assumption | decide +kernel) (by decide +kernel) ⟨rfl, rfl, rfl, rfl, rfl, by decide +kernel⟩ ?hw ?hc
  case hw => w_witness2
  case hc =>
    refine Tk.walk_ofG (l := PySem.Challenge.rw_tiekeep_k03_lines_and_words) (n := 63) (k := Tk.lv + 1) (x := "_law_script") rfl (by decide) (by kernel_rfl) ⟨rfl, by decide, by decide⟩ ?F
    intro w mg fa h Y G hmg0
    obtain ⟨K, KX, c⟩ := Y
    have hmg : mg ("law" : PySem.Str) = some (.ref fa) := by
      have e : (HandSHeadRun.topDef (OpenLaw.row PySem.Challenge.rw_tiekeep_k03_lines_and_words).prog 8).name = ("law" : PySem.Str) := by kernel_rfl
      rw [← e]
      exact hmg0
    obtain ⟨fd, hb, hF⟩ := Tk.facts (P := (PySem.Challenge.rw_tiekeep_k03_lines_and_words).prog) (w := w) KX G hmg c pure psig hz
    exact ⟨K, fd, Tk.spLaw K, KX, hb, fun H a ns hl hO hS => ⟨a, ns, rfl, hl, hO, hS, fun _ => rfl⟩, hF⟩
namespace Tk
open PySem PySem.Spec PyProof.Rows L2
abbrev S (l : List Nat) : Str := ⟨l.toArray⟩
theorem S_tl (x : Str) : S x.cps.toList = x := SX.S_tl x
/-- parts between c's -/
def cutL (c : Nat) : List Nat → List Nat → List (List Nat)
  | acc, [] => [acc]
  | acc, d :: r => if d = c then acc :: cutL c [] r else cutL c (acc ++ [d]) r
theorem spl_cut (c : Nat) : ∀ (l acc : List Nat), TL.spl [c] 0 acc l = cutL c acc l
  | [], acc => rfl
  | d :: r, acc => by
    by_cases h : d = c
    · rw [TL.spl_hit (by subst h; simp [TL.pre]), cutL, if_pos h]
      show acc :: TL.spl [c] 0 [] r = _
      rw [spl_cut c r []]
    · rw [TL.spl_miss (by simp [TL.pre, h]), cutL, if_neg h, spl_cut c r _]
theorem lines_cut (l : List Nat) : linesD (S l) = (cutL 10 [] l).map S := by
  have e : ("\n" : Str) = S [10] := by decide +kernel
  unfold linesD
  rw [e]
  exact (SX.split_S (a := l) (b := [10]) (by simp) (by decide)).trans (by rw [spl_cut])
theorem words_cut (l : List Nat) : wordsD (S l) = (cutL 32 [] l).map S := by
  have e : (" " : Str) = S [32] := by decide +kernel
  unfold wordsD
  rw [e]
  exact (SX.split_S (a := l) (b := [32]) (by simp) (by decide)).trans (by rw [spl_cut])
theorem cut_snoc_c (c : Nat) : ∀ (l acc : List Nat), cutL c acc (l ++ [c]) = cutL c acc l ++ [[]]
  | [], acc => by simp [cutL]
  | d :: r, acc => by
    simp only [List.cons_append, cutL]
    by_cases h : d = c
    · rw [if_pos h, if_pos h, cut_snoc_c c r []]; rfl
    · rw [if_neg h, if_neg h, cut_snoc_c c r _]
theorem cut_snoc (c d : Nat) (hd : d ≠ c) : ∀ (l acc : List Nat) (A : List (List Nat)) (b : List Nat), cutL c acc l = A ++ [b] → cutL c acc (l ++ [d]) = A ++ [b ++ [d]]
  | [], acc, A, b, h => by
    simp only [cutL] at h
    have : A = [] ∧ acc = b := by
      cases A with
      | nil => simpa using h
      | cons x A => simp at h
    obtain ⟨rfl, rfl⟩ := this
    simp [cutL, hd]
  | e :: r, acc, A, b, h => by
    simp only [List.cons_append, cutL] at h ⊢
    by_cases he : e = c
    · rw [if_pos he] at h ⊢
      cases A with
      | nil =>
        simp at h
        have : cutL c [] r ≠ [] := by cases r <;> simp [cutL]; split <;> simp [cutL_ne]
        exact absurd h.2 this
      | cons x A =>
        simp only [List.cons_append, List.cons.injEq] at h
        rw [cut_snoc c d hd r [] A b h.2, h.1]; rfl
    · rw [if_neg he] at h ⊢
      exact cut_snoc c d hd r _ A b h
where
  cutL_ne {c : Nat} : ∀ {l acc : List Nat}, cutL c acc l ≠ []
    | [], acc => by simp [cutL]
    | d :: r, acc => by
      simp only [cutL]
      split
      · simp
      · exact cutL_ne
def rowL (l : List Nat) : Option (List Str) := rowD (S l)
theorem rows_cut (l : List Nat) : rowsD (S l) = (cutL 10 [] l).map rowL := by
  unfold rowsD
  rw [lines_cut, List.map_map]; rfl
theorem S_empty {l : List Nat} : S l = ("" : Str) ↔ l = [] := by
  have e : ("" : Str) = S [] := by decide +kernel
  rw [e]
  constructor
  · intro h; exact SX.S_inj h
  · intro h; rw [h]
theorem rowL_of {l : List Nat} {ws : List (List Nat)} (h : cutL 32 [] l = ws) : rowL l = if [] ∈ ws then none else some (ws.map S) := by
  unfold rowL rowD
  rw [words_cut, h]
  have : (("" : Str) ∈ ws.map S) ↔ [] ∈ ws := by
    rw [List.mem_map]
    constructor
    · rintro ⟨x, hx, e⟩
      rw [S_empty.mp e] at hx; exact hx
    · intro h; exact ⟨[], h, S_empty.mpr rfl⟩
  by_cases q : [] ∈ ws
  · rw [if_pos q, if_pos (this.mpr q)]
  · rw [if_neg q, if_neg fun z => q (this.mp z)]
/-! ### the walk -/
def wst (t : Str) (F : List (Option (List Str))) (ws : List (List Nat)) (w : List Nat) (so : Bool) (sg : Option Slot) : Dl :=
  [some (.val (.str t)), some (.own (F.map rowPD)), some (.own ((ws.map S).map .str)), some (.val (.str (S w))), some (.val (.bool so)), sg]
theorem len_S (l : List Nat) : (S l).length = l.length := SX.S_len l
theorem shape1 {d : Nat} (h : d < 0x110000) : SeqAt.shaped (.str (S [d])) = true := by
  apply shapedS
  simp [PyData.strOk, h]
theorem strOk_S {l : List Nat} : PyData.strOk (S l) = true ↔ ∀ x ∈ l, x < 0x110000 := by
  simp [PyData.strOk]
theorem nin_sem {d : Nat} (h : d < 0x110000) : sem2 .nin (.str (S [d])) (.tuple [.str " ", .str "\n"]) = some (.bool (!(decide (d = 32) || decide (d = 10)))) := by
  have e1 : (" " : Str) = S [32] := by decide +kernel
  have e2 : ("\n" : Str) = S [10] := by decide +kernel
  rw [e1, e2]
  simp only [sem2]
  rw [if_pos ⟨shape1 h, by decide +kernel⟩]
  have q : ∀ a b : Nat, PyData.eqv (.str (S [a])) (.str (S [b])) = decide (b = a) := fun a b => by
    simp only [PyData.eqv]
    rw [SX.S_beq_eq]
    by_cases z : b = a
    · simp [z]
    · have : ¬ a = b := fun y => z y.symm
      simp [z, this]
  simp only [inD, List.any_cons, List.any_nil, q, Bool.or_false]
def wA : CS := sq [.asg (.name 3) (.op2 .add (.var 3) (.var 5))]
def wB : CS := sq [.asg (.name 4) (.and_ (.var 4) (.op2 .ne (.var 3) (s_ ""))), .app 2 (.var 3), .asg (.name 3) (s_ "")]
def wC : CS := sq [.frz 2, .app 1 (.ifx (.var 4) (.var 2) (.const .none)), .par [2, 4] (args [.lst .nil, .const (.bool true)])]
section
variable {C : Cfg} {t : Str} {F : List (Option (List Str))} {ws : List (List Nat)} {w : List Nat} {so : Bool} {d : Nat} {E : En} {k : Bool → Prop} {x : KX} {sg : Option Slot}
theorem e_empty : ("" : Str) = S [] := by decide +kernel
theorem e_nl : ("\n" : Str) = S [10] := by decide +kernel
theorem ne_sem : sem2 .ne (.str (S w)) (.str "") = some (.bool (!decide (w = []))) := by
  simp only [sem2, bothS, true_or, if_true, PyData.eqv]
  rw [e_empty, SX.S_beq_eq]
theorem eq_sem : sem2 .eq (.str (S [d])) (.str "\n") = some (.bool (decide (d = 10))) := by
  simp only [sem2, bothS, true_or, if_true, PyData.eqv]
  rw [e_nl, SX.S_beq_eq]
  by_cases z : d = 10 <;> simp [z]
theorem add_sem (hw : w.length < 10000) : sem2 .add (.str (S w)) (.str (S [d])) = some (.str (S (w ++ [d]))) := by
  simp only [sem2]
  rw [if_pos (by rw [len_S, len_S, sizeLine_eq]; simp; omega)]
  exact congrArg (fun x => some (PyData.str x)) (SX.S_cat w [d])
theorem stepA (hw : w.length < 10000) (h : E.nx (wst t F ws (w ++ [d]) so (some (.val (.str (S [d])))))) : ex C wA (wst t F ws w so (some (.val (.str (S [d]))))) E := by
  simp only [wA, sq, ex, ev, wst, List.getElem?_cons_succ, List.getElem?_cons_zero, recv, true_and]
  exact ⟨_, add_sem hw, by simp, h⟩
theorem stepB (hws : ws.length < 10000) (h : E.nx (wst t F (ws ++ [w]) [] (so && !decide (w = [])) sg)) : ex C wB (wst t F ws w so sg) E := by
  have tail : ∀ b, b = (so && !decide (w = [])) → bindT (.name 4) (.bool b) (wst t F ws w so sg) (fun δ' => ex C (sq [.app 2 (.var 3), .asg (.name 3) (s_ "")]) δ' E) := by
    intro b hb
    refine ⟨by simp [wst], ?_⟩
    simp only [sq, ex, wst, List.set_cons_succ, List.set_cons_zero, ev, List.getElem?_cons_succ, List.getElem?_cons_zero]
    refine ⟨by simp only [List.length_map, sizeLine_eq]; omega, ?_⟩
    simp only [s_, ev]
    refine ⟨by simp, ?_⟩
    simp only [List.set_cons_succ, List.set_cons_zero]
    rw [hb, e_empty]
    simpa [wst] using h
  show ev C false (.and_ (.var 4) (.op2 .ne (.var 3) (s_ ""))) (wst t F ws w so sg) _ _
  simp only [ev, s_]
  show match (wst t F ws w so sg)[4]? with | _ => _
  simp only [wst, List.getElem?_cons_succ, List.getElem?_cons_zero, recv, true_and]
  refine ⟨so, rfl, ?_⟩
  cases so with
  | true => exact iteT ⟨_, ne_sem, tail _ (by simp)⟩
  | false => exact iteF (tail _ (by simp))
theorem stepC (hF : F.length < 10000) (h : E.nx (wst t (F ++ [if so = true then some (ws.map S) else none]) [] w true sg)) : ex C wC (wst t F ws w so sg) E := by
  simp only [wC, sq, ex, wst, List.set_cons_succ, List.set_cons_zero, List.getElem?_cons_succ, List.getElem?_cons_zero]
  have e1 : ∀ (k : D → Prop), k (rowPD (if so = true then some (ws.map S) else none)) → ev C false (.ifx (.var 4) (.var 2) (.const .none)) [some (.val (.str t)), some (.own (F.map rowPD)), some (.val (.list ((ws.map S).map .str))), some (.val (.str (S w))), some (.val (.bool so)), sg] k (fun x => E.xc x [some (.val (.str t)), some (.own (F.map rowPD)), some (.val (.list ((ws.map S).map .str))), some (.val (.str (S w))), some (.val (.bool so)), sg]) := by
    intro k hk
    simp only [ev, evT, List.getElem?_cons_succ, List.getElem?_cons_zero]
    cases so with
    | true => exact iteT hk
    | false => exact iteF hk
  refine e1 _ ⟨by simp only [List.length_map, sizeLine_eq]; omega, ?_⟩
  simp only [args, evOs, evO, ev, evA, valsD, toOwn]
  refine ⟨[], rfl, by decide, ?_⟩
  refine ⟨_, rfl, ?_⟩
  simpa [wst] using h
theorem test1 (hd : d < 0x110000) (h : k (!(decide (d = 32) || decide (d = 10)))) : evT C (.op2 .nin (.var 5) (.tup (args [s_ " ", s_ "\n"]))) (wst t F ws w so (some (.val (.str (S [d]))))) k x := by
  simp only [evT, ev, evA, args, s_, wst, List.getElem?_cons_succ, List.getElem?_cons_zero, recv, true_and, valsD, Option.map_some]
  exact ⟨_, rfl, by decide, _, nin_sem hd, h⟩
theorem test2 (h : k (decide (d = 10))) : evT C (.op2 .eq (.var 5) (s_ "\n")) (wst t F ws w so (some (.val (.str (S [d]))))) k x := by
  simp only [evT, ev, s_, wst, List.getElem?_cons_succ, List.getElem?_cons_zero, recv, true_and]
  exact ⟨_, eq_sem, h⟩
theorem walk_step (hd : d < 0x110000) (hF : F.length < 10000) (hws : ws.length < 10000) (hw : w.length < 10000)
    (h1 : d ≠ 32 → d ≠ 10 → E.nx (wst t F ws (w ++ [d]) so (some (.val (.str (S [d]))))))
    (h2 : d = 32 → E.nx (wst t F (ws ++ [w]) [] (so && !decide (w = [])) (some (.val (.str (S [d]))))))
    (h3 : d = 10 → E.nx (wst t (F ++ [if (so && !decide (w = [])) = true then some ((ws ++ [w]).map S) else none]) [] [] true (some (.val (.str (S [d])))))) :
    bindT (.name 5) (.str (S [d])) (wst t F ws w so sg) fun δ => ex C walkS δ E := by
  refine ⟨by simp [wst], ?_⟩
  show ex C walkS (wst t F ws w so (some (.val (.str (S [d]))))) E
  have second : ∀ F ws w so, F.length < 10000 → (d = 10 → E.nx (wst t (F ++ [if so = true then some (ws.map S) else none]) [] w true (some (.val (.str (S [d])))))) → (d ≠ 10 → E.nx (wst t F ws w so (some (.val (.str (S [d])))))) →
      ex C (sq [.ite (.op2 .eq (.var 5) (s_ "\n")) wC .nop]) (wst t F ws w so (some (.val (.str (S [d]))))) E := by
    intro F ws w so hF a b
    refine test2 (C := C) (k := fun z => if z = true then ex C wC (wst t F ws w so (some (.val (.str (S [d]))))) { E with nx := fun δ' => E.nx δ' } else ex C .nop (wst t F ws w so (some (.val (.str (S [d]))))) { E with nx := fun δ' => E.nx δ' }) ?_
    refine ite2 (fun z => ?_) fun z => ?_
    · exact stepC hF (a (of_decide_eq_true z))
    · exact b fun y => z (decide_eq_true y)
  refine test1 (C := C) (k := fun z => if z = true then ex C wA (wst t F ws w so (some (.val (.str (S [d]))))) { E with nx := fun δ' => ex C (sq [.ite (.op2 .eq (.var 5) (s_ "\n")) wC .nop]) δ' E } else ex C wB (wst t F ws w so (some (.val (.str (S [d]))))) { E with nx := fun δ' => ex C (sq [.ite (.op2 .eq (.var 5) (s_ "\n")) wC .nop]) δ' E }) hd ?_
  refine ite2 (fun z => ?_) fun z => ?_
  · have c1 : d ≠ 32 := by rintro rfl; simp at z
    have c2 : d ≠ 10 := by rintro rfl; simp at z
    exact stepA hw (second _ _ _ _ hF (fun e => absurd e c2) fun _ => h1 c1 c2)
  · refine stepB hws (second _ _ _ _ hF (fun e => h3 e) fun e => ?_)
    have : d = 32 := by
      by_cases c1 : d = 32
      · exact c1
      · simp [c1, e] at z
    exact h2 this
/-- the whole walk, from the midst of a line -/
theorem walk_loop : ∀ (l cur : List Nat) (F : List (Option (List Str))) (ws : List (List Nat)) (w : List Nat) (so : Bool) (sg : Option Slot) (E : En), (∀ d ∈ l, d < 0x110000) → F.length + ws.length + w.length + l.length < 9000 →
    cutL 32 [] cur = ws ++ [w] → so = !decide ([] ∈ ws) → (∀ sg, E.nx (wst t (F ++ (cutL 10 cur l).map rowL) [] [] true sg)) →
    loopS (fun y δ' E' => bindT (.name 5) y δ' fun δ1 => ex C walkS δ1 E') ((l ++ [10]).map fun c => .str (S [c])) (wst t F ws w so sg) E
  | [], cur, F, ws, w, so, sg, E, hl, hz, hc, hs, hE => by
    simp only [List.nil_append, List.map_cons, List.map_nil, loopS]
    simp only [List.length_nil] at hz
    refine walk_step (by decide) (by omega) (by omega) (by omega) (fun _ z => absurd rfl z) (fun z => by cases z) fun _ => ?_
    have := hE (some (.val (.str (S [10]))))
    simp only [cutL, List.map_cons, List.map_nil, rowL_of hc] at this
    have e : (if (so && !decide (w = [])) = true then some ((ws ++ [w]).map S) else none) = if [] ∈ ws ++ [w] then none else some ((ws ++ [w]).map S) := by
      rw [hs]
      by_cases a : [] ∈ ws <;> by_cases b : w = [] <;> simp [a, b, eq_comm]
    show E.nx _
    rw [e]
    exact this
  | d :: l, cur, F, ws, w, so, sg, E, hl, hz, hc, hs, hE => by
    simp only [List.cons_append, List.map_cons, loopS]
    simp only [List.length_cons] at hz
    have hd := hl d (by simp)
    have hl' : ∀ x ∈ l, x < 0x110000 := fun x hx => hl x (by simp [hx])
    refine walk_step hd (by omega) (by omega) (by omega) (fun c1 c2 => ?_) (fun c1 => ?_) fun c2 => ?_
    · refine walk_loop l (cur ++ [d]) F ws (w ++ [d]) so _ E hl' (by simp; omega) (cut_snoc 32 d c1 cur [] ws w hc) hs fun sg => ?_
      have := hE sg
      rw [cutL, if_neg c2] at this
      exact this
    · subst c1
      refine walk_loop l (cur ++ [32]) F (ws ++ [w]) [] _ _ E hl' (by simp; omega) (by rw [cut_snoc_c, hc]) ?_ fun sg => ?_
      · rw [hs]
        by_cases a : [] ∈ ws <;> by_cases b : w = [] <;> simp [a, b, eq_comm]
      · have := hE sg
        rw [cutL, if_neg (by decide)] at this
        exact this
    · subst c2
      refine walk_loop l [] (F ++ [_]) [] [] true _ E hl' (by simp; omega) rfl rfl fun sg => ?_
      have := hE sg
      rw [cutL, if_pos rfl, List.map_cons, rowL_of hc] at this
      have e : (if (so && !decide (w = [])) = true then some ((ws ++ [w]).map S) else none) = if [] ∈ ws ++ [w] then none else some ((ws ++ [w]).map S) := by
        rw [hs]
        by_cases a : [] ∈ ws <;> by_cases b : w = [] <;> simp [a, b, eq_comm]
      rw [e]
      simpa using this
end
/-- texts as they are drawn -/
structure Good (n : Nat) (x : Str) : Prop where
  len : x.length ≤ n
  ok : ∀ c ∈ x.cps.toList, c < 0x110000
theorem walk_call {n : Nat} {t : Str} {k : Slot → Prop} {x : KX} (hg : Good 5000 t) (hk : k (.own ((rowsD t).map rowPD))) : callW tab noGl (n + 1) fWalk [.val (.str t)] k x := by
  refine ⟨rfl, ?_⟩
  show ex _ walkB (startD 6 [.val (.str t)]) (enD k x)
  have hlen : t.cps.toList.length ≤ 5000 := by have := hg.len; simpa [Str.length] using this
  simp only [walkB, sq, ex, args, evOs, evO, ev, evA, valsD, toOwn, s_]
  refine ⟨[], rfl, by decide, [], rfl, by decide, _, rfl, ?_⟩
  have eδ : (((((startD 6 [.val (.str t)]).set 1 (some (.own []))).set 2 (some (.own []))).set 3 (some (.val (.str "")))).set 4 (some (.val (.bool true)))) = wst t [] [] [] true none := by
    rw [e_empty]; rfl
  rw [eδ]
  have hadd : sem2 .add (.str t) (.str "\n") = some (.str (S (t.cps.toList ++ [10]))) := by
    simp only [sem2]
    have h10 : (S [10]).length = 1 := by decide +kernel
    rw [if_pos (by rw [e_nl, h10, sizeLine_eq]; have := hg.len; omega), e_nl]
    have := SX.S_cat t.cps.toList [10]
    rw [SX.S_tl] at this
    exact congrArg (fun x => some (PyData.str x)) this
  have hci : itemsD (.str (S (t.cps.toList ++ [10]))) = some ((t.cps.toList ++ [10]).map fun c => .str (S [c])) := by
    simp [itemsD, chars]
  have e0 : ∀ (k : List D → Prop) x', k ((t.cps.toList ++ [10]).map fun c => .str (S [c])) → evI ⟨callW tab noGl n, noGl⟩ false (.iter (.op2 .add (.var 0) (.const (.str "\n")))) (wst t [] [] [] true none) k x' := by
    intro k x' hk
    simp only [evI, ev, wst, List.getElem?_cons_zero, recv, true_and]
    exact ⟨_, hadd, _, hci, hk⟩
  refine e0 _ _ (walk_loop t.cps.toList [] [] [] [] true none _ hg.ok (by simp only [List.length_nil]; omega) rfl rfl fun sg => ?_)
  show k _
  have := rows_cut t.cps.toList
  rw [S_tl] at this
  rw [List.nil_append, ← this]
  exact hk
end Tk
namespace Tk
open PySem PySem.Spec PyProof.Rows L2
theorem draw_call {m : Nat} {b : Int} {k : Slot → Prop} {x : KX} (h1 : 0 < b) (h2 : b < 1073741824) (h : ∀ r, 0 ≤ r → r < b → k (.val (.int r))) : callW tab noGl (m + 2) fDraw [.st, .val (.int b)] k x :=
  ⟨by omega, rfl, b, rfl, h1, h2, h⟩
theorem Good.mono {n m : Nat} {x : Str} (h : Good n x) (hn : n ≤ m) : Good m x := ⟨Nat.le_trans h.len hn, h.ok⟩
theorem good_cat {n m : Nat} {x y : Str} (hx : Good n x) (hy : Good m y) : Good (n + m) (x ++ y) := by
  refine ⟨by rw [Str.length_append]; have := hx.len; have := hy.len; omega, fun c hc => ?_⟩
  rw [Str.cps_append, Array.toList_append, List.mem_append] at hc
  exact hc.elim (hx.ok c) (hy.ok c)
theorem mem_joinL {s : List Nat} {c : Nat} : ∀ {ps : List (List Nat)}, c ∈ TL.joinL s ps → c ∈ s ∨ ∃ p ∈ ps, c ∈ p
  | [], h => by simp [TL.joinL] at h
  | [p], h => .inr ⟨p, by simp, by simpa [TL.joinL] using h⟩
  | p :: q :: r, h => by
    simp only [TL.joinL, List.mem_append] at h
    rcases h with h | h | h
    · exact .inr ⟨p, by simp, h⟩
    · exact .inl h
    · rcases mem_joinL (ps := q :: r) h with h | ⟨y, hy, h⟩
      · exact .inl h
      · exact .inr ⟨y, by simp at hy ⊢; exact .inr hy, h⟩
theorem strsD_map (ys : List Str) : strsD (ys.map .str) = some ys := by
  induction ys with
  | nil => rfl
  | cons y ys ih => simp [strsD, ih]
theorem sum_le {m : Nat} : ∀ {ys : List Str}, (∀ y ∈ ys, y.length ≤ m) → (ys.map (·.length)).sum ≤ ys.length * m
  | [], _ => by simp
  | y :: ys, h => by
    have h1 := h y (by simp)
    have h2 := sum_le (m := m) (ys := ys) fun z hz => h z (by simp [hz])
    simp only [List.map_cons, List.sum_cons, List.length_cons, Nat.succ_mul]
    omega
theorem join_sem {a : Str} {ys : List Str} {N m : Nat} (ha : Good 10 a) (hn : ys.length ≤ N) (hy : ∀ y ∈ ys, Good m y) (hb : N * (m + 10) ≤ 10000) : ∃ z, sem2 .join (.str a) (.list (ys.map .str)) = some (.str z) ∧ Good (N * (m + 10)) z := by
  have h1 : (ys.map (·.length)).sum ≤ ys.length * m := sum_le fun y h => (hy y h).len
  have h2 : ys.length * a.length ≤ ys.length * 10 := Nat.mul_le_mul_left _ ha.len
  have h3 : ys.length * m + ys.length * 10 ≤ N * (m + 10) := by rw [← Nat.mul_add]; exact Nat.mul_le_mul_right _ hn
  have h4 : (Txt.join a ys).length ≤ (ys.map (·.length)).sum + ys.length * a.length := by
    show (Builtin.Str.glued a ys).length ≤ _
    rw [StrLaws.glued_eq_join]
    exact StrLaws.join_length_le a ys
  refine ⟨Txt.join a ys, ?_, by omega, fun c hc => ?_⟩
  · simp only [sem2, strsD_map, Option.bind_some]
    rw [if_pos ⟨by omega, by rw [sizeLine_eq]; omega⟩]
  · have e1 : ys = (ys.map fun y => y.cps.toList).map SX.S := by
      rw [List.map_map]
      conv => lhs; rw [← List.map_id ys]
      exact List.map_congr_left fun y _ => (SX.S_tl y).symm
    have e2 : a = SX.S a.cps.toList := (SX.S_tl a).symm
    rw [e1, e2, SX.join_S] at hc
    have hc' : c ∈ TL.joinL a.cps.toList (ys.map fun y => y.cps.toList) := hc
    rcases mem_joinL hc' with h | ⟨p, hp, h⟩
    · exact ha.ok c h
    · obtain ⟨y, hy', rfl⟩ := List.mem_map.mp hp
      exact (hy y hy').ok c h
/-- one sign of a text -/
theorem ix_sem {x : Str} {r : Int} {n : Nat} (hx : Good n x) (h0 : 0 ≤ r) (h1 : r < x.length) : ∃ z, sem2 .ix (.str x) (.int r) = some (.str z) ∧ Good 1 z := by
  have hl : x.cps.toList.length = x.length := by simp [Str.length]
  have hr : r.toNat < x.cps.toList.length := by omega
  refine ⟨S [x.cps.toList[r.toNat]], ?_, by simp [len_S], fun c hc => ?_⟩
  · simp only [sem2]
    have : atI x.cps.toList r = some x.cps.toList[r.toNat] := by
      have := atI_nat (List.getElem?_eq_getElem hr)
      rwa [Int.toNat_of_nonneg h0] at this
    rw [this]; rfl
  · have hc' : c ∈ [x.cps.toList[r.toNat]] := hc
    simp at hc'
    subst hc'
    exact hx.ok _ (by simp)
theorem good_signs : Good 200 signsD := ⟨by decide +kernel, by decide +kernel⟩
/-- a word -/
theorem word_ev {n : Nat} {δ : Dl} {k : D → Prop} {x : KX} (hl : δ.length = 8) (d0 : δ[0]? = some (some .st)) (d1 : δ[1]? = some (some (.val (.str signsD)))) (hk : ∀ ys : List Str, ys.length ≤ 5 → (∀ y ∈ ys, Good 1 y) → k (.list (ys.map .str))) :
    ev ⟨callW tab noGl (n + 2), noGl⟩ true wordC δ k x := by
  unfold wordC
  rw [ev_comp]
  simp only [evI, ev, i_, recv, true_and, draw, args, evA, d0]
  refine draw_call (by decide) (by decide) fun r h0 h1 => ⟨_, rfl, _, rfl, _, rfl, ⟨by omega, by omega⟩, ?_⟩
  have loop : ∀ (xs : List D) (ys : List Str) (k' : List D → Prop), xs.length + ys.length ≤ 5 → (∀ y ∈ ys, Good 1 y) → (∀ ys : List Str, ys.length ≤ 5 → (∀ y ∈ ys, Good 1 y) → k' (ys.map .str)) →
      loopC (compB ⟨callW tab noGl (n + 2), noGl⟩ [6] (.op2 .ix (.var 1) (.call fDraw (.cons (.var 0) (.cons (.op1 .len (.var 1)) .nil)))) (.name 6) .nil δ) xs (ys.map .str) k' := by
    intro xs
    induction xs with
    | nil => intro ys k' h g hk; exact hk ys (by simpa using h) g
    | cons y xs ih =>
      intro ys k' h g hk
      simp only [List.length_cons] at h
      have h6 : 6 < δ.length := by omega
      have g0 : ((δ.set 6 none).set 6 (some (.val y)))[0]? = some (some .st) := by rw [List.getElem?_set_ne (by decide), List.getElem?_set_ne (by decide)]; exact d0
      have g1 : ((δ.set 6 none).set 6 (some (.val y)))[1]? = some (some (.val (.str signsD))) := by rw [List.getElem?_set_ne (by decide), List.getElem?_set_ne (by decide)]; exact d1
      simp only [loopC, compB, bindT, wipeD]
      refine ⟨by simp; exact h6, ?_⟩
      simp only [evT, if_true, ev, g1, recv, true_and, evA, g0]
      refine ⟨.int (signsD.length : Nat), rfl, ?_⟩
      refine draw_call (by decide +kernel) (by decide +kernel) fun r q0 q1 => ⟨_, rfl, ?_⟩
      obtain ⟨z, e1, e2⟩ := ix_sem good_signs q0 q1
      refine ⟨_, e1, by rw [List.length_map, sizeLine_eq]; omega, ?_⟩
      have := ih (ys ++ [z]) k' (by simp; omega) (fun v hv => (List.mem_append.mp hv).elim (g v) fun hv => by simp at hv; subst hv; exact e2) hk
      simpa using this
  exact loop (rangeD 0 (1 + r)) [] _ (by simp [rangeD]; omega) (by simp) fun ys h g => hk ys h g
theorem strL_ix {n : Nat} {C : Cfg} {l : List Str} {δ : Dl} {j : Nat} {i : Int} {k : D → Prop} {x : KX} (hl : l.length ≤ 100) (hj : δ[j]? = some (some (.val (.int i)))) (h0 : 0 ≤ i) (h1 : i < l.length) (hg : ∀ y ∈ l, Good n y) (hk : ∀ y, Good n y → k (.str y)) : ev C true (.op2 .ix (strL l) (.var j)) δ k x := by
  have ha : ∀ (l : List Str) (k : List Slot → Prop), k (l.map fun y => .val (.str y)) → evA C (args (l.map s_)) δ k x := by
    intro l
    induction l with
    | nil => intro k h; exact h
    | cons y l ih =>
      intro k h
      simp only [List.map_cons, args, s_, evA, ev]
      exact ih _ h
  have hv : ∀ l : List Str, valsD (l.map fun y => .val (.str y)) = some (l.map .str) := by
    intro l
    induction l with
    | nil => rfl
    | cons y l ih => simp [valsD, ih]
  simp only [ev, strL]
  refine ha l _ ⟨_, hv l, by rw [List.length_map, sizeLine_eq]; omega, rfl, ?_⟩
  simp only [hj]
  have hr : i.toNat < l.length := by omega
  refine ⟨.str l[i.toNat], ?_, hk _ (hg _ (by simp))⟩
  have e : (l.map PyData.str)[i.toNat]? = some (.str l[i.toNat]) := by rw [List.getElem?_map, List.getElem?_eq_getElem hr]; rfl
  have := atI_nat e
  rwa [Int.toNat_of_nonneg h0] at this
theorem line_call {n : Nat} {k : Slot → Prop} {x : KX} (hk : ∀ l, Good 400 l → k (.val (.str l))) : callW tab noGl (n + 3) fLine [.st, .val (.str signsD)] k x := by
  refine ⟨rfl, ?_⟩
  show ex _ lineB [some .st, some (.val (.str signsD)), none, none, none, none, none, none] (enD k x)
  have st2 : ∀ (way ends : Int) (ys : List Str) (s5 s6 : Option Slot), 0 ≤ way → way < 4 → 0 ≤ ends → ends < 6 → ys.length ≤ 5 → (∀ y ∈ ys, Good 55 y) →
      ex ⟨callW tab noGl (n + 2), noGl⟩ (sq [.asg (.name 7) (.op2 .join (.op2 .ix (strL seps) (.var 2)) (.var 4)), .ret (.op2 .add (.op2 .add (.op2 .ix (strL heads) (.var 3)) (.var 7)) (.op2 .ix (strL tails) (.var 3)))])
        [some .st, some (.val (.str signsD)), some (.val (.int way)), some (.val (.int ends)), some (.own (ys.map .str)), s5, s6, none] (enD k x) := by
    intro way ends ys s5 s6 w0 w1 e0 e1 hl hg
    show ev _ true (.op2 .ix (strL seps) (.var 2)) _ _ _
    refine strL_ix (n := 10) (by decide) rfl w0 w1 (fun y hy => ?_) fun sep hsep => ⟨rfl, ?_⟩
    · simp only [seps, List.mem_cons, List.not_mem_nil, or_false] at hy
      rcases hy with rfl | rfl | rfl | rfl <;> exact ⟨by decide +kernel, by decide +kernel⟩
    simp only [ev, List.getElem?_cons_succ, List.getElem?_cons_zero, true_and]
    obtain ⟨z, e2, gz⟩ := join_sem (N := 5) (m := 55) hsep hl hg (by decide)
    refine ⟨_, e2, by simp, ?_⟩
    show ev _ true (.op2 .add (.op2 .ix (strL heads) (.var 3)) (.var 7)) _ _ _
    simp only [List.set_cons_succ, List.set_cons_zero]
    show ev _ true (.op2 .ix (strL heads) (.var 3)) _ _ _
    refine strL_ix (n := 10) (by decide) rfl e0 e1 (fun y hy => ?_) fun hd hhd => ⟨rfl, ?_⟩
    · simp only [heads, List.mem_cons, List.not_mem_nil, or_false] at hy
      rcases hy with rfl | rfl | rfl | rfl | rfl | rfl <;> exact ⟨by decide +kernel, by decide +kernel⟩
    simp only [ev, List.getElem?_cons_succ, List.getElem?_cons_zero]
    have g1 := good_cat hhd gz
    refine ⟨.str (hd ++ z), ?_, rfl, ?_⟩
    · simp only [sem2]
      rw [if_pos (by rw [sizeLine_eq]; have := hhd.len; have := gz.len; omega)]
    show ev _ true (.op2 .ix (strL tails) (.var 3)) _ _ _
    refine strL_ix (n := 10) (by decide) rfl e0 e1 (fun y hy => ?_) fun tl htl => ?_
    · simp only [tails, List.mem_cons, List.not_mem_nil, or_false] at hy
      rcases hy with rfl | rfl | rfl | rfl | rfl | rfl <;> exact ⟨by decide +kernel, by decide +kernel⟩
    refine ⟨.str (hd ++ z ++ tl), ?_, ?_⟩
    · simp only [sem2]
      rw [if_pos (by rw [sizeLine_eq]; have := g1.len; have := htl.len; omega)]
    · exact hk _ ((good_cat g1 htl).mono (by decide))
  have body : ∀ (way ends : Int) (ys : List Str) (s5 s6 : Option Slot) (E : En), ys.length ≤ 5 → (∀ z, Good 55 z → E.nx [some .st, some (.val (.str signsD)), some (.val (.int way)), some (.val (.int ends)), some (.own (ys.map .str ++ [.str z])), s5, s6, none]) →
      ex ⟨callW tab noGl (n + 2), noGl⟩ (sq [.app 4 (.op2 .join (s_ "") wordC)]) [some .st, some (.val (.str signsD)), some (.val (.int way)), some (.val (.int ends)), some (.own (ys.map .str)), s5, s6, none] E := by
    intro way ends ys s5 s6 E hl hE
    simp only [sq, ex, List.set_cons_succ, List.set_cons_zero, List.getElem?_cons_succ, List.getElem?_cons_zero]
    simp only [ev, s_, recv, true_and]
    show ev _ true wordC _ _ _
    refine word_ev rfl rfl rfl fun zs hz gz => ?_
    obtain ⟨z, e2, g⟩ := join_sem (a := "") (N := 5) (m := 1) ⟨by decide, by decide +kernel⟩ hz gz (by decide)
    exact ⟨_, e2, by rw [List.length_map, sizeLine_eq]; omega, hE z g⟩
  have loop : ∀ (way ends : Int) (xs : List D) (ys : List Str) (s5 s6 : Option Slot) (E : En), 0 ≤ way → way < 4 → 0 ≤ ends → ends < 6 → xs.length + ys.length ≤ 5 → (∀ y ∈ ys, Good 55 y) →
      (∀ (ys : List Str) (s5 s6 : Option Slot), ys.length ≤ 5 → (∀ y ∈ ys, Good 55 y) → E.nx [some .st, some (.val (.str signsD)), some (.val (.int way)), some (.val (.int ends)), some (.own (ys.map .str)), s5, s6, none]) →
      loopS (fun y δ' E' => bindT (.name 5) y δ' fun δ1 => ex ⟨callW tab noGl (n + 2), noGl⟩ (sq [.app 4 (.op2 .join (s_ "") wordC)]) δ1 E') xs [some .st, some (.val (.str signsD)), some (.val (.int way)), some (.val (.int ends)), some (.own (ys.map .str)), s5, s6, none] E := by
    intro way ends xs
    induction xs with
    | nil => intro ys s5 s6 E w0 w1 e0 e1 hl hg hE; exact hE ys s5 s6 (by simpa using hl) hg
    | cons y xs ih =>
      intro ys s5 s6 E w0 w1 e0 e1 hl hg hE
      simp only [List.length_cons] at hl
      refine ⟨by simp, ?_⟩
      refine body way ends ys (some (.val y)) s6 _ (by omega) fun z g => ?_
      have := ih (ys ++ [z]) (some (.val y)) s6 E w0 w1 e0 e1 (by simp; omega) (fun v hv => (List.mem_append.mp hv).elim (hg v) fun hv => by simp at hv; subst hv; exact g) hE
      simp only [List.map_append, List.map_cons, List.map_nil] at this
      exact this
  unfold lineB
  rw [sq]
  simp only [ex]
  simp only [args, evOs, evO, draw, i_, evA, ev, List.getElem?_cons_zero]
  refine draw_call (by decide) (by decide) fun way w0 w1 => ?_
  refine draw_call (by decide) (by decide) fun ends e0 e1 => ?_
  refine ⟨[], rfl, by decide, _, rfl, ?_⟩
  rw [sq]
  simp only [ex]
  simp only [evI, draw, i_, args, ev, evA, toOwn, List.set_cons_succ, List.set_cons_zero, List.getElem?_cons_zero]
  refine draw_call (by decide) (by decide) fun r r0 r1 => ⟨_, rfl, _, rfl, ⟨by omega, by omega⟩, ?_⟩
  exact loop way ends (rangeD 0 r) [] none none _ w0 w1 e0 e1 (by simp [rangeD]; omega) (by simp) fun ys s5 s6 hl hg => st2 way ends ys s5 s6 w0 w1 e0 e1 hl hg
end Tk
namespace Tk
open PySem PySem.Spec PyProof.Rows L2
theorem cut_mem (c : Nat) : ∀ (l acc : List Nat) (p : List Nat), p ∈ cutL c acc l → ∀ x ∈ p, x ∈ acc ∨ x ∈ l
  | [], acc, p, h, x, hx => by simp [cutL] at h; subst h; exact .inl hx
  | d :: r, acc, p, h, x, hx => by
    simp only [cutL] at h
    split at h
    · rcases List.mem_cons.mp h with rfl | h
      · exact .inl hx
      · rcases cut_mem c r [] p h x hx with h | h
        · cases h
        · exact .inr (by simp [h])
    · rcases cut_mem c r _ p h x hx with h | h
      · rcases List.mem_append.mp h with h | h
        · exact .inl h
        · simp at h; exact .inr (by simp [h])
      · exact .inr (by simp [h])
theorem line_good {n : Nat} {t l : Str} (g : Good n t) (h : l ∈ linesD t) : Good n l := by
  refine ⟨Nat.le_trans (part_short h) g.len, fun c hc => ?_⟩
  have e := lines_cut t.cps.toList
  rw [S_tl] at e
  rw [e] at h
  obtain ⟨p, hp, rfl⟩ := List.mem_map.mp h
  rcases cut_mem 10 _ [] p hp c hc with z | z
  · cases z
  · exact g.ok c z
theorem word_good {n : Nat} {t l : Str} (g : Good n t) (h : l ∈ wordsD t) : Good n l := by
  refine ⟨Nat.le_trans (part_short h) g.len, fun c hc => ?_⟩
  have e := words_cut t.cps.toList
  rw [S_tl] at e
  rw [e] at h
  obtain ⟨p, hp, rfl⟩ := List.mem_map.mp h
  rcases cut_mem 32 _ [] p hp c hc with z | z
  · cases z
  · exact g.ok c z
theorem Good.strOk {n : Nat} {x : Str} (g : Good n x) : PyData.strOk x = true := by
  have := strOk_S (l := x.cps.toList)
  rw [S_tl] at this
  exact this.mpr g.ok
theorem rows_okG {t : Str} (g : Good 5000 t) : RowsOk t := by
  have hl := g.len
  refine ⟨by rw [sizeLine_eq]; omega, ?_, fun l h => ?_, fun l h x hx => ?_⟩
  · have := split_le t "\n"
    unfold linesD
    rw [sizeLine_eq]; omega
  · have := (line_good g h).len
    rw [sizeLine_eq]; omega
  · have g2 := word_good (line_good g h) hx
    exact ⟨by rw [sizeLine_eq]; have := g2.len; omega, g2.strOk⟩
def rwt : Option (List Str) → Nat
  | none => 0
  | some ws => (ws.map (·.length)).sum + ws.length
section
variable {ws : List Str}
theorem w_lay (h : ∀ x ∈ ws, PyData.strOk x = true) : PyData.canLayAll0 (ws.map .str) = true := by
  induction ws with
  | nil => rfl
  | cons x ws ih => simp [PyData.canLayAll0, PyData.canLay0, h x (by simp), ih fun y hy => h y (by simp [hy])]
theorem w_dep : PyData.depthAll (ws.map .str) = 0 := by
  induction ws with
  | nil => rfl
  | cons x ws ih => simp [PyData.depthAll, PyData.depth, ih]
theorem w_wt : PyData.weightAll (ws.map .str) = (ws.map (·.length)).sum + ws.length := by
  induction ws with
  | nil => rfl
  | cons x ws ih =>
    simp only [List.map_cons, PyData.weightAll, PyData.weight, ih, List.sum_cons, List.length_cons]
    have : x.cps.size = x.length := rfl
    omega
theorem w_sh : PyData.showableAll (ws.map .str) = true := by
  induction ws with
  | nil => rfl
  | cons x ws ih => simp [PyData.showableAll, PyData.showable, ih]
theorem w_di : PyData.hasDictAll (ws.map .str) = false := by
  induction ws with
  | nil => rfl
  | cons x ws ih => simp [PyData.hasDictAll, PyData.hasDict, ih]
theorem w_in : PyData.intsShortAll 13 (ws.map .str) = true := by
  induction ws with
  | nil => rfl
  | cons x ws ih => simp [PyData.intsShortAll, PyData.intsShort, ih]
end
theorem show_rows : ∀ (rs : List (Option (List Str))), (∀ ws, some ws ∈ rs → ∀ x ∈ ws, PyData.strOk x = true) → PyData.canLayAll0 (rs.map rowPD) = true ∧ PyData.depthAll (rs.map rowPD) ≤ 1 ∧ PyData.weightAll (rs.map rowPD) = (rs.map fun r => rwt r + 1).sum ∧ PyData.showableAll (rs.map rowPD) = true ∧ PyData.hasDictAll (rs.map rowPD) = false ∧ PyData.intsShortAll 13 (rs.map rowPD) = true
  | [], _ => by simp [PyData.canLayAll0, PyData.depthAll, PyData.weightAll, PyData.showableAll, PyData.hasDictAll, PyData.intsShortAll]
  | r :: rs, h => by
    obtain ⟨a1, a2, a3, a4, a5, a6⟩ := show_rows rs fun ws hw => h ws (by simp [hw])
    cases r with
    | none => simp [rowPD, rwt, PyData.canLayAll0, PyData.depthAll, PyData.weightAll, PyData.showableAll, PyData.hasDictAll, PyData.intsShortAll, PyData.canLay0, PyData.depth, PyData.weight, PyData.showable, PyData.hasDict, PyData.intsShort, a1, a2, a3, a4, a5, a6]
    | some ws =>
      have hw := h ws (by simp)
      simp only [List.map_cons, rowPD, PyData.canLayAll0, PyData.depthAll, PyData.weightAll, PyData.showableAll, PyData.hasDictAll, PyData.intsShortAll, PyData.canLay0, PyData.depth, PyData.weight, PyData.showable, PyData.hasDict, PyData.intsShort, w_lay hw, w_dep, w_wt, w_sh, w_di, w_in, a1, a3, a4, a5, a6, rwt, List.sum_cons]
      refine ⟨?_, ?_, ?_, ?_, ?_, ?_⟩ <;> first | trivial | rfl | omega | simp
theorem show_ok {rs : List (Option (List Str))} (h : ∀ ws, some ws ∈ rs → ∀ x ∈ ws, PyData.strOk x = true) (hw : (rs.map fun r => rwt r + 1).sum ≤ 1000000) : ShowOk (.list (rs.map rowPD)) := by
  obtain ⟨a1, a2, a3, a4, a5, a6⟩ := show_rows rs h
  have hd : PyData.depth (.list (rs.map rowPD)) ≤ 2 := by simp only [PyData.depth]; omega
  have hwt : PyData.weight (.list (rs.map rowPD)) ≤ 2 ^ 20 := by simp only [PyData.weight, a3]; have : (2 : Nat) ^ 20 = 1048576 := by decide
                                                                 omega
  have e1 : PyData.canLay0 (.list (rs.map rowPD)) = true := by simp only [PyData.canLay0, a1]
  have e2 : PyData.intsShort 13 (.list (rs.map rowPD)) = true := by simp only [PyData.intsShort, a6]
  have lay : PyData.layable0 (.list (rs.map rowPD)) = true := by
    unfold PyData.layable0
    rw [e1, decide_eq_true (by omega : PyData.depth (.list (rs.map rowPD)) ≤ 64), decide_eq_true hwt]; rfl
  refine ⟨by simp only [PyData.showable, a4], by simp only [PyData.hasDict, a5], by omega, ?_⟩
  have := shown_le13 lay e2
  rw [sizeLine_eq]; omega
theorem sum_f {f : Str → Nat} : ∀ {ls : List Str}, (∀ l ∈ ls, f l ≤ l.length + 6) → (ls.map fun l => f l + 1).sum ≤ 7 * ((ls.map (·.length)).sum + ls.length)
  | [], _ => by simp
  | l :: ls, h => by
    have h1 := h l (by simp)
    have h2 := sum_f (f := f) (ls := ls) fun z hz => h z (by simp [hz])
    simp only [List.map_cons, List.sum_cons, List.length_cons]
    omega
theorem again_of {t : Str} (g : Good 5000 t) : AgainOk t := by
  have rok := rows_okG g
  have hl := g.len
  have hsum : ((linesD t).map (·.length)).sum + (linesD t).length ≤ t.length + 1 := split_weight t "\n" (by decide)
  have hr : ∀ l ∈ linesD t, rwt (rowD l) ≤ l.length + 1 := fun l h => by
    have := split_weight l " " (by decide)
    unfold rowD
    split
    · exact Nat.zero_le _
    · exact this
  have hm : ∀ r, rwt (moreR r) ≤ rwt r + 5 := fun r => by
    cases r with
    | none => exact Nat.zero_le _
    | some ws =>
      have : ("more" : Str).length = 4 := by decide +kernel
      simp [moreR, rwt, this]; omega
  have hs : ∀ ws, some ws ∈ rowsD t → (∀ x ∈ ws, PyData.strOk x = true) ∧ ws.length + 1 ≤ sizeLine := fun ws h => by
    unfold rowsD at h
    obtain ⟨l, hl', e⟩ := List.mem_map.mp h
    unfold rowD at e
    split at e
    · cases e
    · cases e
      refine ⟨fun x hx => (rok.word l hl' x hx).2, ?_⟩
      have h1 := split_le l " "
      have h2 := (line_good g hl').len
      unfold wordsD
      rw [sizeLine_eq]; omega
  refine ⟨rok, show_ok (fun ws h => (hs ws h).1) ?_, show_ok (fun ws h x hx => ?_) ?_, fun ws h => (hs ws h).2⟩
  · unfold rowsD
    rw [List.map_map]
    have := sum_f (f := fun l => rwt (rowD l)) (ls := linesD t) fun l h => Nat.le_trans (hr l h) (by omega)
    have e : ((fun r => rwt r + 1) ∘ rowD) = fun l => rwt (rowD l) + 1 := rfl
    rw [e]
    omega
  · obtain ⟨r, hr', e⟩ := List.mem_map.mp h
    cases r with
    | none => cases e
    | some ws' =>
      cases e
      rcases List.mem_append.mp hx with hx | hx
      · exact (hs ws' hr').1 x hx
      · simp at hx; subst hx; decide +kernel
  · unfold rowsD
    rw [List.map_map, List.map_map]
    have := sum_f (f := fun l => rwt (moreR (rowD l))) (ls := linesD t) fun l h => by have := hm (rowD l); have := hr l h; omega
    have e : (((fun r => rwt r + 1) ∘ moreR) ∘ rowD) = fun l => rwt (moreR (rowD l)) + 1 := rfl
    rw [e]
    omega
end Tk
namespace Tk
open PySem PySem.Spec PyProof.Rows L2
theorem psig : callW tab noGl lv fSigns [] (fun s => ∃ d, slotD s = some d ∧ d = .str signsD) (fun _ => False) := by
  refine ⟨rfl, ?_⟩
  show ex _ signsB [none] _
  simp only [signsB, sq, ex, s_, ev]
  refine ⟨by decide, ?_⟩
  simp only [List.set_cons_zero, List.getElem?_cons_zero, recv, true_and]
  refine ⟨.str signsD, ?_, _, rfl, rfl⟩
  simp only [sem2]
  rw [if_pos (by decide +kernel)]
  rfl
structure LS (δ : Dl) : Prop where
  len : δ.length = 11
  st : δ[1]? = some (some .st)
  sg : δ[2]? = some (some (.val (.str signsD)))
theorem LS.set {δ : Dl} (h : LS δ) (i : Nat) (s : Option Slot) (hi : 2 < i) : LS (δ.set i s) :=
  ⟨by simp [h.len], by rw [List.getElem?_set_ne (by omega)]; exact h.st, by rw [List.getElem?_set_ne (by omega)]; exact h.sg⟩
theorem t1_ok {δ : Dl} {E : En} (h : LS δ) (hE : ∀ ys : List Str, 0 < ys.length → ys.length ≤ 6 → (∀ y ∈ ys, Good 400 y) → E.nx (δ.set 4 (some (.own (ys.map .str))))) : ex cfg t1 δ E := by
  have hl := h.len
  unfold t1
  simp only [ex, evO]
  rw [ev_comp]
  simp only [evI, ev, i_, recv, true_and, drawL, args, evA, h.st]
  refine draw_call (m := 3) (by decide) (by decide) fun r h0 h1 => ⟨_, rfl, .int (1 + r), rfl, _, rfl, ⟨by omega, by omega⟩, ?_⟩
  have loop : ∀ (xs : List D) (ys : List Str) (k' : List D → Prop), xs.length + ys.length ≤ 6 → (∀ y ∈ ys, Good 400 y) → (∀ zs : List Str, zs.length = xs.length + ys.length → (∀ y ∈ zs, Good 400 y) → k' (zs.map .str)) →
      loopC (compB cfg [10] (.call fLine (.cons (.var 1) (.cons (.var 2) .nil))) (.name 10) .nil δ) xs (ys.map .str) k' := by
    intro xs
    induction xs with
    | nil => intro ys k' q g hk; exact hk ys (by simp) g
    | cons y xs ih =>
      intro ys k' q g hk
      simp only [List.length_cons] at q hk
      have g1 : ((δ.set 10 none).set 10 (some (.val y)))[1]? = some (some .st) := ((h.set 10 none (by decide)).set 10 _ (by decide)).st
      have g2 : ((δ.set 10 none).set 10 (some (.val y)))[2]? = some (some (.val (.str signsD))) := ((h.set 10 none (by decide)).set 10 _ (by decide)).sg
      simp only [loopC, compB, bindT, wipeD]
      refine ⟨by simp; omega, ?_⟩
      simp only [evT, if_true, ev, evA, g1, g2]
      refine line_call (n := 2) fun l gl => ⟨_, rfl, by rw [List.length_map, sizeLine_eq]; omega, ?_⟩
      have := ih (ys ++ [l]) k' (by simp; omega) (fun v hv => (List.mem_append.mp hv).elim (g v) fun hv => by simp at hv; subst hv; exact gl) fun zs hz gz => hk zs (by rw [hz]; simp; omega) gz
      simpa using this
  refine loop (rangeD 0 (1 + r)) [] _ (by simp [rangeD]; omega) (by simp) fun zs hz gz => ⟨by omega, ?_⟩
  simp [rangeD] at hz
  exact hE zs (by omega) (by omega) gz
theorem t2_ok {δ : Dl} {E : En} {ys : List Str} (h : LS δ) (h4 : δ[4]? = some (some (.own (ys.map .str)))) (n0 : 0 < ys.length) (n6 : ys.length ≤ 6) (g : ∀ y ∈ ys, Good 400 y)
    (hE : ∀ zs : List Str, zs.length ≤ 7 → (∀ y ∈ zs, Good 400 y) → E.nx (δ.set 4 (some (.own (zs.map .str))))) : ex cfg t2 δ E := by
  unfold t2
  simp only [ex, h4, ev, recv, true_and, drawL, args, evA, h.st]
  refine ⟨.int (ys.length : Nat), by simp [sem1, lenD], ?_⟩
  refine draw_call (m := 3) (by omega) (by omega) fun r h0 h1 => ⟨_, rfl, ?_⟩
  have hr : r.toNat < ys.length := by omega
  refine ⟨.str ys[r.toNat], ?_, by rw [List.length_map, sizeLine_eq]; omega, ?_⟩
  · have e : (ys.map PyData.str)[r.toNat]? = some (.str ys[r.toNat]) := by rw [List.getElem?_map, List.getElem?_eq_getElem hr]; rfl
    have := atI_nat e
    rwa [Int.toNat_of_nonneg h0] at this
  · have := hE (ys ++ [ys[r.toNat]]) (by simp; omega) (fun v hv => (List.mem_append.mp hv).elim (g v) fun hv => by simp at hv; subst hv; exact g _ (by simp))
    simpa using this
theorem t3_ok {δ : Dl} {E : En} {ys : List Str} (h : LS δ) (h4 : δ[4]? = some (some (.own (ys.map .str)))) (n7 : ys.length ≤ 7) (g : ∀ y ∈ ys, Good 400 y)
    (hE : ∀ t, Good 5000 t → E.nx (δ.set 5 (some (.val (.str t))))) : ex cfg t3 δ E := by
  have hl := h.len
  unfold t3
  simp only [ex, ev, s_, recv, true_and, h4]
  obtain ⟨z, e1, e2⟩ := join_sem (a := "\n") (N := 7) (m := 400) ⟨by decide +kernel, by decide +kernel⟩ n7 g (by decide)
  exact ⟨_, e1, by omega, hE z (e2.mono (by decide))⟩
theorem t4_ok {δ : Dl} {E : En} {t : Str} (h : LS δ) (h5 : δ[5]? = some (some (.val (.str t)))) (g : Good 5000 t)
    (hE : E.nx (δ.set 6 (some (.val (.list ((rowsD t).map rowPD)))))) : ex cfg t4 δ E := by
  have hl := h.len
  unfold t4
  simp only [ex, ev, args, evA, h5]
  exact walk_call (n := 4) g ⟨_, rfl, by omega, hE⟩
theorem again_loop {t : Str} (g : Good 5000 t) : ∀ (xs : List D) (δ : Dl) (E : En), LS δ → δ[5]? = some (some (.val (.str t))) → δ[6]? = some (some (.val (.list ((rowsD t).map rowPD)))) → (∀ δ', LS δ' → E.nx δ') →
    loopS (fun y δ' E' => bindT (.name 7) y δ' fun δ1 => againG δ1 E') xs δ E
  | [], δ, E, h, _, _, hE => hE δ h
  | y :: xs, δ, E, h, h5, h6, hE => by
    have hl := h.len
    have h7 := h.set 7 (some (.val y)) (by decide)
    refine ⟨by omega, t, by rw [List.getElem?_set_ne (by decide)]; exact h5, by rw [List.getElem?_set_ne (by decide)]; exact h6, h7.len, again_of g, ?_⟩
    refine again_loop g xs _ E ((h7.set 9 none (by decide)).set 8 _ (by decide)) ?_ ?_ hE
    · rw [List.getElem?_set_ne (by decide), List.getElem?_set_ne (by decide), List.getElem?_set_ne (by decide)]; exact h5
    · rw [List.getElem?_set_ne (by decide), List.getElem?_set_ne (by decide), List.getElem?_set_ne (by decide)]; exact h6
theorem turn_ok {δ : Dl} {E : En} (h : LS δ) (hE : ∀ δ', LS δ' → E.nx δ') : turnG δ E := by
  have hl := h.len
  refine t1_ok h fun ys n0 n6 g => ?_
  have ha := h.set 4 (some (.own (ys.map .str))) (by decide)
  refine t2_ok ha (List.getElem?_set_self (by omega)) n0 n6 g fun zs n7 gz => ?_
  have hb := ha.set 4 (some (.own (zs.map .str))) (by decide)
  refine t3_ok hb (List.getElem?_set_self (by have := ha.len; omega)) n7 gz fun t gt => ?_
  have hc := hb.set 5 (some (.val (.str t))) (by decide)
  refine t4_ok hc (List.getElem?_set_self (by have := hb.len; omega)) gt ?_
  have hd := hc.set 6 (some (.val (.list ((rowsD t).map rowPD)))) (by decide)
  show forG cfg (.name 7) (.range1 (i_ 2)) againG _ E
  unfold forG
  simp only [evI, i_, ev]
  refine ⟨_, rfl, by decide, again_loop gt _ _ _ hd ?_ (List.getElem?_set_self (by have := hc.len; omega)) fun δ' h' => hE δ' h'⟩
  rw [List.getElem?_set_ne (by decide)]
  exact List.getElem?_set_self (by have := hb.len; omega)
theorem turns_ok : ∀ (xs : List D) (δ : Dl) (E : En), LS δ → (∀ δ', LS δ' → E.nx δ') → loopS (fun y δ' E' => bindT (.name 3) y δ' fun δ1 => turnG δ1 E') xs δ E
  | [], δ, E, h, hE => hE δ h
  | y :: xs, δ, E, h, hE => by
    have hl := h.len
    exact ⟨by omega, turn_ok (h.set 3 _ (by decide)) fun δ' h' => turns_ok xs δ' E h' hE⟩
def endRs : List (List (Option (List Str))) := [[none], [none, none], [some ["a"], none, some ["b", "c"]]]
def endD : D := .list (endRs.map fun rs => .list (rs.map rowPD))
theorem rows_call {m : Nat} {t : Str} {rs : List (Option (List Str))} {k : D → Prop} {x : KX} (g : Good 5000 t) (e : rowsD t = rs) (hk : k (.list (rs.map rowPD))) : callW tab noGl (m + 2) fRows [.val (.str t)] (fun s => ∃ d, slotD s = some d ∧ k d) x :=
  ⟨by omega, rfl, t, rfl, rows_okG g, _, rfl, by rw [e]; exact hk⟩
theorem end_show : ShowOk endD := ⟨by decide +kernel, by decide +kernel, by decide +kernel, by decide +kernel⟩
theorem rest_ok {δ : Dl} (h : LS δ) : ex cfg restB δ E1 := by
  have hl := h.len
  unfold restB
  simp only [sq, ex, args, non_, strL, s_, List.map_cons, List.map_nil]
  simp only [ev, evA, valsD, Option.map_some]
  refine ⟨_, rfl, by decide, _, rfl, by decide, _, rfl, by decide, _, rfl, by decide, _, rfl, by decide, _, rfl, by decide, by omega, ?_⟩
  have h6 : (δ.set 6 (some (.val endD)))[6]? = some (some (.val endD)) := List.getElem?_set_self (by omega)
  refine rows_call (m := 3) (rs := [none]) ⟨by decide +kernel, by decide +kernel⟩ (by decide +kernel) ?_
  refine rows_call (m := 3) (rs := [none, none]) ⟨by decide +kernel, by decide +kernel⟩ (by decide +kernel) ?_
  refine rows_call (m := 3) (rs := [some ["a"], none, some ["b", "c"]]) ⟨by decide +kernel, by decide +kernel⟩ (by decide +kernel) ?_
  refine ⟨_, rfl, by decide, .str endD.shown, end_show.sem, rfl, ?_⟩
  have e6 : (δ.set 6 (some (.val (.list [.list [.none], .list [.none, .none], .list [.list [.str "a"], .none, .list [.str "b", .str "c"]]]))))[6]? = some (some (.val endD)) := h6
  simp only [e6]
  refine ⟨_, end_show.sem, .bool true, ?_, rfl⟩
  simp only [sem2, bothS, true_or, if_true]
  simp [PyData.eqv]
theorem k03_pure : lawG δ1 E1 := by
  unfold lawG seqG forG
  simp only [evI, i_, ev]
  exact ⟨_, rfl, by decide, turns_ok _ _ _ ⟨rfl, rfl, rfl⟩ fun δ' h' => rest_ok h'⟩
end Tk
theorem PySem.Challenge.cw_tiekeep_k03_lines_and_words_holds : PySem.Challenge.rw_tiekeep_k03_lines_and_words.Holds := by
  exact k03_of Tk.k03_pure Tk.psig (by decide +kernel)
