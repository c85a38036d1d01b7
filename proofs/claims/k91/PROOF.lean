import PyProof.Rows.All
import HandS.ForMost
import HandS.Defaults
import HandS.Wide
import HandS.Deep
import HandS.TupAny
import HandS.TupMul
import HandS.Zip
import HandS.Gcd
import HandS.IsInst
import HandS.Style
import HandS.Flow
import HandS.SortInts
import KE.GoesNew
import KE.GoesDict
import HandS.Conv
import HandS.Head0
import HandS.Head1
import HandS.Head2
import HandS.HeadEnd
import HandS.HeadHook1
import HandS.HeadHook2
import HandS.HeadHook3
import HandS.HeadHook4
import HandS.Head3
import PySem.Challenge.RW_momentstold_k91_whole_rows_told_every_wa
set_option Elab.async false
set_option linter.all false
set_option maxRecDepth 100000
/-! PyD, part 1: a small language of data, its evaluator. -/
namespace PyD
open PySem
abbrev D := PyData
abbrev Store := List (List D)
/-- a reference to the n-th shared list; the script -/
abbrev locD (n : Nat) : D := .dict [(.int (n : Int), .none)]
abbrev scrD (xs : List D) : D := .dict [(.none, .list xs)]
inductive Slot where
  | no | val (d : D) | own (xs : List D)
abbrev Env := List Slot
inductive Bop where
  | add | sub | mul | fdiv | mod | pow
inductive Cop where
  | eq | ne | lt | le | gt | ge | inn | nin | isN | notN
  deriving DecidableEq
inductive B1 where
  | len | abs | int | list | tuple | sum | all | any | sorted | min | max | isInt | isBool | isStr | isTup | isLst
inductive B2 where
  | min | max | gcd | lcm
inductive T where
  | cst (d : D) | var (i : Nat) | bor (i : Nat)
  | bop (o : Bop) (a b : T) | neg (a : T) | notv (a : T) | band (a b : T) | borr (a b : T)
  | cmp (o : Cop) (a b : T) | chn (o1 o2 : Cop) (a b c : T) | ite (c a b : T)
  | call (f : Nat) (as : T) | b1 (b : B1) (a : T) | b2 (b : B2) (a c : T) | min3 (a b c : T)
  | tup (as : T) | lst (as : T) | mkl (as : T)
  | ix (a b : T) | sl (a lo hi : T) | rev (a : T) | nop
  | tl (a : T) | lr (a : T) | mkb (a : T)
  | lc (tg : T) (it : T) (ifs : T) (e : T)
  | lc2 (tg : T) (it : T) (ifs : T) (tg2 : T) (it2 : T) (ifs2 : T) (e : T)
  | anil | acons (a r : T)
  | itS (a : T) | itR1 (a : T) | itR2 (a b : T) | itR3 (a b c : T) | itZ (a b : T) | itE (a : T)
  | nm (i : Nat)
inductive Sn where
  | skip | seq (a b : Sn)
  | asg (tg e : T) | asgO (i : Nat) (e : T) | par (ts : List (Nat × Bool)) (as : T)
  | seti (i : Nat) (ix e : T) | app (i : Nat) (e : T) | ext (i : Nat) (e : T)
  | ifs (c : T) (a b : Sn) | forS (tg it : T) (b : Sn) | whl (c : T) (b : Sn)
  | setl (a ix e : T) | swp (i : Nat) (ix1 ix2 a b : T)
  | ret (e : T) | expr (e : T) | frz (i : Nat) | fail
inductive Res where
  | next (ρ : Env) | ret (d : D)

def LIM : Nat := 100000
def bnd {α β : Type} (x : Option (α × Store)) (f : α → Store → Option (β × Store)) : Option (β × Store) := match x with
  | none => none
  | some (a, s) => f a s
def get (ρ : Env) (i : Nat) : Option D := match ρ[i]? with
  | some (.val d) => some d
  | _ => none
def getB (ρ : Env) (i : Nat) : Option D := match ρ[i]? with
  | some (.val d) => some d
  | some (.own xs) => some (.list xs)
  | _ => none
def lim (xs : List D) : Option (List D) := if xs.length ≤ LIM then some xs else none
/-- numbers -/
def mulOk (i j : Int) : Bool := decide (i.natAbs.log2 + j.natAbs.log2 < 1000000) || (decide (i.natAbs < 2 ^ 64) || decide (j.natAbs < 2 ^ 64))
def divOk (j : Int) : Bool := decide (j ≠ 0) && decide (j.natAbs.log2 < 9000)
def powOk (i j : Int) : Bool := decide (0 ≤ j) && decide (j ≤ 1000) && decide (i.natAbs < 2 ^ 64)
def repD (xs : List D) (k : Int) : Option (List D) := if k ≤ 1000 ∧ xs.length ≤ 1000 ∧ -1000 ≤ k then some (List.replicate k.toNat xs).flatten else none
def opB : Bop → D → D → Option D
  | .add, .int i, .int j => some (.int (i + j))
  | .add, .list xs, .list ys => (lim (xs ++ ys)).map .list
  | .add, .tuple xs, .tuple ys => (lim (xs ++ ys)).map .tuple
  | .sub, .int i, .int j => some (.int (i - j))
  | .mul, .int i, .int j => if mulOk i j then some (.int (i * j)) else none
  | .mul, .list xs, .int k => (repD xs k).map .list
  | .mul, .tuple xs, .int k => (repD xs k).map .tuple
  | .fdiv, .int i, .int j => if divOk j then some (.int (i.fdiv j)) else none
  | .mod, .int i, .int j => if j ≠ 0 then some (.int (i.fmod j)) else none
  | .pow, .int i, .int j => if powOk i j then some (.int (i ^ j.toNat)) else none
  | _, _, _ => none
def eqD (a b : D) : Option Bool := if SeqAt.shaped a && SeqAt.shaped b then some (PyData.eqv a b) else none
def inD (a : D) (xs : List D) : Option Bool := if SeqAt.shaped a && SeqAt.shaped (.list xs) then some (xs.any fun z => PyData.eqv z a) else none
def opC : Cop → D → D → Option Bool
  | .eq, a, b => eqD a b
  | .ne, a, b => (eqD a b).map not
  | .lt, .int i, .int j => some (decide (i < j))
  | .le, .int i, .int j => some (decide (i ≤ j))
  | .gt, .int i, .int j => some (decide (j < i))
  | .ge, .int i, .int j => some (decide (j ≤ i))
  | .inn, a, .list xs => inD a xs
  | .inn, a, .tuple xs => inD a xs
  | .nin, a, .list xs => (inD a xs).map not
  | .nin, a, .tuple xs => (inD a xs).map not
  | .isN, a, .none => some (match a with | .none => true | _ => false)
  | .notN, a, .none => some (match a with | .none => false | _ => true)
  | _, _, _ => none
def allInt : List D → Option (List Int)
  | [] => some []
  | .int i :: r => (allInt r).map (i :: ·)
  | _ => none
def allBool : List D → Option (List Bool)
  | [] => some []
  | .bool i :: r => (allBool r).map (i :: ·)
  | _ => none
def insI (i : Int) : List Int → List Int
  | [] => [i]
  | j :: r => if i ≤ j then i :: j :: r else j :: insI i r
def sortI : List Int → List Int
  | [] => []
  | i :: r => insI i (sortI r)
def minL : Int → List Int → Int
  | m, [] => m
  | m, x :: r => minL (if x < m then x else m) r
def maxL : Int → List Int → Int
  | m, [] => m
  | m, x :: r => maxL (if m < x then x else m) r
def op1 : B1 → D → Option D
  | .len, .list xs => some (.int xs.length)
  | .len, .tuple xs => some (.int xs.length)
  | .abs, .int i => some (.int (if i < 0 then -i else i))
  | .int, .int i => some (.int i)
  | .int, .bool b => some (.int (if b then 1 else 0))
  | .list, .list xs => some (.list xs)
  | .list, .tuple xs => some (.list xs)
  | .list, .dict [(.none, .list xs)] => some (.list xs)
  | .tuple, .list xs => some (.tuple xs)
  | .tuple, .tuple xs => some (.tuple xs)
  | .sum, .list xs => (allInt xs).map fun ns => .int ns.sum
  | .all, .list xs => (allBool xs).map fun bs => .bool (bs.all id)
  | .any, .list xs => (allBool xs).map fun bs => .bool (bs.any id)
  | .sorted, .list xs => (allInt xs).map fun ns => .list ((sortI ns).map .int)
  | .min, .list xs => (match allInt xs with | some (n :: ns) => some (.int (minL n ns)) | _ => none)
  | .max, .list xs => (match allInt xs with | some (n :: ns) => some (.int (maxL n ns)) | _ => none)
  | .isInt, d => (match d with | .int _ => some (.bool true) | .bool _ => some (.bool true) | .dict _ => none | _ => some (.bool false))
  | .isBool, d => (match d with | .bool _ => some (.bool true) | .dict _ => none | _ => some (.bool false))
  | .isStr, d => (match d with | .str _ => some (.bool true) | .dict _ => none | _ => some (.bool false))
  | .isTup, d => (match d with | .tuple _ => some (.bool true) | .dict _ => none | _ => some (.bool false))
  | .isLst, d => (match d with | .list _ => some (.bool true) | .dict _ => none | _ => some (.bool false))
  | _, _ => none
def op2 : B2 → D → D → Option D
  | .min, .int i, .int j => some (.int (if j < i then j else i))
  | .max, .int i, .int j => some (.int (if j > i then j else i))
  | .gcd, .int i, .int j => some (.int ((Nat.gcd i.natAbs j.natAbs : Nat) : Int))
  | _, _, _ => none
/-- an item; a slice -/
def atD (xs : List D) (i : Int) : Option D := L2.atI xs i
def cutD (xs : List D) (lo hi : Option Int) : List D := (xs.drop (HT.sIx xs.length 0 lo)).take (HT.sIx xs.length xs.length hi - HT.sIx xs.length 0 lo)
def ixD : D → D → Option D
  | .list xs, .int i => atD xs i
  | .tuple xs, .int i => atD xs i
  | _, _ => none
def slD : D → Option Int → Option Int → Option D
  | .list xs, lo, hi => some (.list (cutD xs lo hi))
  | .tuple xs, lo, hi => some (.tuple (cutD xs lo hi))
  | _, _, _ => none
def revD : D → Option D
  | .list xs => some (.list xs.reverse)
  | .tuple xs => some (.tuple xs.reverse)
  | _ => none
def seqD : D → Option (List D)
  | .list xs => some xs
  | .tuple xs => some xs
  | _ => none
/- targets: a name, or a tuple of targets (acons .. anil) -/
mutual
def setTg : T → D → Env → Option Env
  | .nm i, d, ρ => some (ρ.set i (.val d))
  | .acons a r, .tuple xs, ρ => setTgs (.acons a r) xs ρ
  | _, _, _ => none
def setTgs : T → List D → Env → Option Env
  | .anil, [], ρ => some ρ
  | .acons a r, d :: ds, ρ => (match setTg a d ρ with
    | some ρ' => setTgs r ds ρ'
    | none => none)
  | _, _, _ => none
end
def tgNames : T → List Nat
  | .nm i => [i]
  | .acons a r => tgNames a ++ tgNames r
  | _ => []
def wipe (ρ : Env) : List Nat → Env
  | [] => ρ
  | v :: vs => (wipe ρ vs).set v .no
def isB : T → Bool
  | .bor _ => true
  | _ => false
def rngD (a b : Int) : List D := (List.range (b - a).toNat).map fun i => .int (a + (i : Nat))
def rngDown (a b : Int) : List D := (List.range (a - b).toNat).map fun i => .int (a - (i : Nat))
def rngOk (a : Int) : Bool := decide (-(2 ^ 62) ≤ a) && decide (a < 2 ^ 62)
def zipD (xs ys : List D) : List D := (xs.zip ys).map fun p => .tuple [p.1, p.2]
def enumD (xs : List D) : List D := (xs.zipIdx).map fun p => .tuple [.int (p.2 : Nat), p.1]
/-- a comprehension's loop: f: an item; some (some d) to be put, some none left out -/
def loopC (f : D → Store → Option (List D × Store)) : List D → Store → Option (List D × Store)
  | [], S => some ([], S)
  | d :: ds, S => bnd (f d S) fun y S => bnd (loopC f ds S) fun ys S => some (y ++ ys, S)
def loopF (f : D → Env → Store → Option (Res × Store)) : List D → Env → Store → Option (Res × Store)
  | [], ρ, S => some (.next ρ, S)
  | d :: ds, ρ, S => bnd (f d ρ S) fun r S => (match r with
    | .next ρ => loopF f ds ρ S
    | .ret d => some (.ret d, S))
def loopW (c : Env → Store → Option (Bool × Store)) (f : Env → Store → Option (Res × Store)) : Nat → Env → Store → Option (Res × Store)
  | 0, _, _ => none
  | n + 1, ρ, S => bnd (c ρ S) fun b S => if b then bnd (f ρ S) fun r S => (match r with
    | .next ρ => loopW c f n ρ S
    | .ret d => some (.ret d, S)) else some (.next ρ, S)
section
variable (C : Nat → List D → Store → Option (D × Store))
mutual
def ev : T → Env → Store → Option (D × Store)
  | .cst d, _, S => some (d, S)
  | .var i, ρ, S => (get ρ i).map (·, S)
  | .bor i, ρ, S => (getB ρ i).map (·, S)
  | .bop o a b, ρ, S => bnd (ev a ρ S) fun x S => bnd (ev b ρ S) fun y S => (opB o x y).map (·, S)
  | .neg a, ρ, S => bnd (ev a ρ S) fun x S => (match x with | .int i => some (.int (-i), S) | _ => none)
  | .notv a, ρ, S => bnd (ev a ρ S) fun x S => (match x with | .bool b => some (.bool (!b), S) | _ => none)
  | .band a b, ρ, S => bnd (ev a ρ S) fun x S => (match x with | .bool true => (if isB b then none else ev b ρ S) | .bool false => some (.bool false, S) | _ => none)
  | .borr a b, ρ, S => bnd (ev a ρ S) fun x S => (match x with | .bool false => (if isB b then none else ev b ρ S) | .bool true => some (.bool true, S) | _ => none)
  | .cmp o a b, ρ, S => bnd (ev a ρ S) fun x S => bnd (ev b ρ S) fun y S => (opC o x y).map fun c => (.bool c, S)
  | .chn o1 o2 a b c, ρ, S => bnd (ev a ρ S) fun x S => bnd (ev b ρ S) fun y S => (match opC o1 x y with
    | some true => bnd (ev c ρ S) fun z S => (opC o2 y z).map fun c => (.bool c, S)
    | some false => some (.bool false, S)
    | none => none)
  | .ite c a b, ρ, S => bnd (evT c ρ S) fun t S => if t then (if isB a then none else ev a ρ S) else (if isB b then none else ev b ρ S)
  | .call f as, ρ, S => bnd (evA as ρ S) fun ds S => C f ds S
  | .b1 b a, ρ, S => bnd (ev a ρ S) fun x S => (op1 b x).map (·, S)
  | .b2 b a c, ρ, S => bnd (ev a ρ S) fun x S => bnd (ev c ρ S) fun y S => (op2 b x y).map (·, S)
  | .min3 a b c, ρ, S => bnd (ev a ρ S) fun x S => bnd (ev b ρ S) fun y S => bnd (ev c ρ S) fun z S => (match x, y, z with
    | .int i, .int j, .int k => some (.int (minL i [j, k]), S)
    | _, _, _ => none)
  | .tup as, ρ, S => bnd (evA as ρ S) fun ds S => (lim ds).map fun ds => (.tuple ds, S)
  | .lst as, ρ, S => bnd (evA as ρ S) fun ds S => (lim ds).map fun ds => (.list ds, S)
  | .mkl as, ρ, S => bnd (evA as ρ S) fun ds S => (lim ds).map fun ds => (locD S.length, S ++ [ds])
  | .ix a b, ρ, S => bnd (ev a ρ S) fun x S => bnd (ev b ρ S) fun y S => (match x, y with
    | .dict [(.int n, .none)], .int i => (match S[n.toNat]? with
      | some xs => if n < 0 then none else (atD xs i).map (·, S)
      | none => none)
    | x, y => (ixD x y).map (·, S))
  | .sl a lo hi, ρ, S => bnd (ev a ρ S) fun x S => bnd (evO lo ρ S) fun l S => bnd (evO hi ρ S) fun h S => (slD x l h).map (·, S)
  | .rev a, ρ, S => bnd (ev a ρ S) fun x S => (revD x).map (·, S)
  | .tl a, ρ, S => bnd (ev a ρ S) fun x S => (match x with
    | .dict [(.int n, .none)] => if n < 0 then none else (S[n.toNat]?).map fun xs => (.tuple xs, S)
    | _ => none)
  | .lr a, ρ, S => bnd (ev a ρ S) fun x S => (match x with
    | .int j => if j ≤ 100000 ∧ 0 ≤ j then some (.list (rngD 0 j), S) else none
    | _ => none)
  | .mkb a, ρ, S => bnd (ev a ρ S) fun x S => (seqD x).map fun xs => (locD S.length, S ++ [xs])
  | .lc tg it ifs e, ρ, S => bnd (evI it ρ S) fun ds S => bnd (loopC (fun d S => (match setTg tg d (wipe ρ (tgNames tg)) with
      | some ρ' => bnd (evQ ifs ρ' S) fun b S => if b then (if isB e then none else bnd (ev e ρ' S) fun y S => some ([y], S)) else some ([], S)
      | none => none)) ds S) fun ys S => (lim ys).map fun ys => (.list ys, S)
  | .lc2 tg it ifs tg2 it2 ifs2 e, ρ, S => bnd (evI it ρ S) fun ds S => bnd (loopC (fun d S => (match setTg tg d (wipe ρ (tgNames tg ++ tgNames tg2)) with
      | some ρ' => bnd (evQ ifs ρ' S) fun b S => if b then bnd (evI it2 ρ' S) fun ds2 S => loopC (fun d2 S => (match setTg tg2 d2 (wipe ρ' (tgNames tg2)) with
          | some ρ2 => bnd (evQ ifs2 ρ2 S) fun b2 S => if b2 then (if isB e then none else bnd (ev e ρ2 S) fun y S => some ([y], S)) else some ([], S)
          | none => none)) ds2 S else some ([], S)
      | none => none)) ds S) fun ys S => (lim ys).map fun ys => (.list ys, S)
  | _, _, _ => none
/-- arguments, items of displays -/
def evA : T → Env → Store → Option (List D × Store)
  | .anil, _, S => some ([], S)
  | .acons a r, ρ, S => if isB a then none else bnd (ev a ρ S) fun x S => bnd (evA r ρ S) fun xs S => some (x :: xs, S)
  | _, _, _ => none
/-- a part of a slice -/
def evO : T → Env → Store → Option (Option Int × Store)
  | .nop, _, S => some (none, S)
  | .acons a _, ρ, S => bnd (ev a ρ S) fun x S => (match x with | .int i => some (some i, S) | _ => none)
  | _, _, _ => none
/-- a test -/
def evT : T → Env → Store → Option (Bool × Store)
  | .band a b, ρ, S => bnd (evT a ρ S) fun t S => if t then evT b ρ S else some (false, S)
  | .borr a b, ρ, S => bnd (evT a ρ S) fun t S => if t then some (true, S) else evT b ρ S
  | .notv a, ρ, S => bnd (evT a ρ S) fun t S => some (!t, S)
  | .cmp o a b, ρ, S => bnd (ev a ρ S) fun x S => bnd (ev b ρ S) fun y S => (opC o x y).map (·, S)
  | .chn o1 o2 a b c, ρ, S => bnd (ev a ρ S) fun x S => bnd (ev b ρ S) fun y S => (match opC o1 x y with
    | some true => bnd (ev c ρ S) fun z S => (opC o2 y z).map (·, S)
    | some false => some (false, S)
    | none => none)
  | .call f as, ρ, S => bnd (evA as ρ S) fun ds S => bnd (C f ds S) fun x S => (match x with | .bool b => some (b, S) | _ => none)
  | .b1 b a, ρ, S => bnd (ev a ρ S) fun x S => (match op1 b x with | some (.bool b) => some (b, S) | _ => none)
  | .var i, ρ, S => (match get ρ i with | some (.bool b) => some (b, S) | _ => none)
  | _, _, _ => none
/-- the tests of a comprehension -/
def evQ : T → Env → Store → Option (Bool × Store)
  | .anil, _, S => some (true, S)
  | .acons a .anil, ρ, S => evT a ρ S
  | _, _, _ => none
/-- what is walked -/
def evI : T → Env → Store → Option (List D × Store)
  | .itS a, ρ, S => if isB a then none else bnd (ev a ρ S) fun x S => (seqD x).map (·, S)
  | .itR1 a, ρ, S => bnd (ev a ρ S) fun x S => (match x with | .int j => if rngOk j then some (rngD 0 j, S) else none | _ => none)
  | .itR2 a b, ρ, S => bnd (ev a ρ S) fun x S => bnd (ev b ρ S) fun y S => (match x, y with | .int i, .int j => if rngOk i && rngOk j then some (rngD i j, S) else none | _, _ => none)
  | .itR3 a b c, ρ, S => bnd (ev a ρ S) fun x S => bnd (ev b ρ S) fun y S => bnd (ev c ρ S) fun z S => (match x, y, z with | .int i, .int j, .int (-1) => if rngOk i && rngOk j then some (rngDown i j, S) else none | _, _, _ => none)
  | .itZ a b, ρ, S => if isB a || isB b then none else bnd (ev a ρ S) fun x S => bnd (ev b ρ S) fun y S => (match seqD x, seqD y with | some xs, some ys => some (zipD xs ys, S) | _, _ => none)
  | .itE a, ρ, S => if isB a then none else bnd (ev a ρ S) fun x S => (seqD x).map fun xs => (enumD xs, S)
  | _, _, _ => none
end
/-- several targets from the left, the flagged ones own lists -/
def setPar : List (Nat × Bool) → List D → Env → Option Env
  | [], [], ρ => some ρ
  | (i, false) :: r, d :: ds, ρ => setPar r ds (ρ.set i (.val d))
  | (i, true) :: r, .list xs :: ds, ρ => setPar r ds (ρ.set i (.own xs))
  | _, _, _ => none
def ex (W : Nat) : Sn → Env → Store → Option (Res × Store)
  | .skip, ρ, S => some (.next ρ, S)
  | .seq a b, ρ, S => bnd (ex W a ρ S) fun r S => (match r with
    | .next ρ => ex W b ρ S
    | .ret d => some (.ret d, S))
  | .asg tg e, ρ, S => if isB e then none else bnd (ev C e ρ S) fun x S => (setTg tg x ρ).map fun ρ => (.next ρ, S)
  | .asgO i e, ρ, S => bnd (ev C e ρ S) fun x S => (match x with | .list xs => some (.next (ρ.set i (.own xs)), S) | _ => none)
  | .par ts as, ρ, S => bnd (evA C as ρ S) fun ds S => (setPar ts ds ρ).map fun ρ => (.next ρ, S)
  | .seti i ix e, ρ, S => if isB e then none else bnd (ev C e ρ S) fun x S => bnd (ev C ix ρ S) fun y S => (match ρ[i]?, y with
    | some (.own xs), .int k => (match L2.ixN xs.length k with
      | some j => some (.next (ρ.set i (.own (xs.set j x))), S)
      | none => none)
    | some (.val (.dict [(.int n, .none)])), .int k => if n < 0 then none else (match S[n.toNat]? with
      | some xs => (match L2.ixN xs.length k with
        | some j => some (.next ρ, S.set n.toNat (xs.set j x))
        | none => none)
      | none => none)
    | _, _ => none)
  | .setl a ix e, ρ, S => if isB e then none else bnd (ev C e ρ S) fun x S => bnd (ev C a ρ S) fun l S => bnd (ev C ix ρ S) fun y S => (match l, y with
    | .dict [(.int n, .none)], .int k => if n < 0 then none else (match S[n.toNat]? with
      | some xs => (match L2.ixN xs.length k with
        | some j => some (.next ρ, S.set n.toNat (xs.set j x))
        | none => none)
      | none => none)
    | _, _ => none)
  | .swp i ix1 ix2 a b, ρ, S => if isB a || isB b then none else bnd (ev C a ρ S) fun x S => bnd (ev C b ρ S) fun y S => bnd (ev C ix1 ρ S) fun k1 S => (match ρ[i]?, k1 with
    | some (.own xs), .int k => (match L2.ixN xs.length k with
      | some j => bnd (ev C ix2 (ρ.set i (.own (xs.set j x))) S) fun k2 S => (match k2 with
        | .int l => (match L2.ixN xs.length l with
          | some m => some (.next (ρ.set i (.own ((xs.set j x).set m y))), S)
          | none => none)
        | _ => none)
      | none => none)
    | _, _ => none)
  | .app i e, ρ, S => if isB e then none else bnd (ev C e ρ S) fun x S => (match ρ[i]? with
    | some (.own xs) => if xs.length < LIM then some (.next (ρ.set i (.own (xs ++ [x]))), S) else none
    | _ => none)
  | .ext i e, ρ, S => if isB e then none else bnd (ev C e ρ S) fun x S => (match ρ[i]?, x with
    | some (.own xs), .list ys => if (xs ++ ys).length < LIM then some (.next (ρ.set i (.own (xs ++ ys))), S) else none
    | _, _ => none)
  | .ifs c a b, ρ, S => bnd (evT C c ρ S) fun t S => if t then ex W a ρ S else ex W b ρ S
  | .forS tg it b, ρ, S => bnd (evI C it ρ S) fun ds S => loopF (fun d ρ S => (match setTg tg d ρ with
      | some ρ => ex W b ρ S
      | none => none)) ds ρ S
  | .whl c b, ρ, S => loopW (evT C c) (ex W b) W ρ S
  | .ret e, ρ, S => if isB e then none else bnd (ev C e ρ S) fun x S => some (.ret x, S)
  | .expr e, ρ, S => bnd (ev C e ρ S) fun _ S => some (.next ρ, S)
  | .frz i, ρ, S => (match ρ[i]? with
    | some (.own xs) => some (.next (ρ.set i (.val (.list xs))), S)
    | some (.val d) => some (.next ρ, S)
    | _ => none)
  | .fail, _, _ => none
/-- a def: how many parameters, how many slots, its body -/
structure Def where
  np : Nat
  ns : Nat
  body : Sn
def evDef (W : Nat) (d : Def) (ds : List D) (S : Store) : Option (D × Store) := if ds.length = d.np then bnd (ex C W d.body (ds.map .val ++ List.replicate (d.ns - ds.length) .no) S) fun r S => (match r with
    | .next _ => some (.none, S)
    | .ret x => some (x, S)) else none
end
def callN (P : List Def) (W : Nat) : Nat → Nat → List D → Store → Option (D × Store)
  | 0, _, _, _ => none
  | k + 1, f, ds, S => (match P[f]? with
    | some d => evDef (callN P W k) W d ds S
    | none => none)
end PyD

set_option Elab.async false
set_option linter.all false
set_option maxRecDepth 100000
/-! PyD, part 2: how data lies in the abstract heap; what an expression's evaluation leaves. -/
namespace PyD
open PySem PySem.Spec PyProof.Rows L2
abbrev Frag := PySem.W.Frag
mutual
/-- v is d: F the shared lists' addresses (N of them), G the part of the heap that stays -/
inductive Rv (K : Frag) (F : Nat → Addr) (N : Nat) (G : Hp) : V → D → Prop
  | non : Rv K F N G .non .none
  | bl (b : Bool) : Rv K F N G (.bl b) (.bool b)
  | int (i : Int) : Rv K F N G (.int i) (.int i)
  | str (x : Str) : Rv K F N G (.str x) (.str x)
  | lst {a : Addr} {vs : List V} {ds : List D} : G a = some (.lst vs) → Rvs K F N G vs ds → Rv K F N G (.ref a) (.list ds)
  | tup {a : Addr} {vs : List V} {ds : List D} : SqT K G a vs → Rvs K F N G vs ds → Rv K F N G (.ref a) (.tuple ds)
  | loc {n : Nat} : n < N → Rv K F N G (.ref (F n)) (locD n)
  | scr {a : Addr} {vs : List V} {ds : List D} : SqL K G a vs → Rvs K F N G vs ds → Rv K F N G (.ref a) (scrD ds)
inductive Rvs (K : Frag) (F : Nat → Addr) (N : Nat) (G : Hp) : List V → List D → Prop
  | nil : Rvs K F N G [] []
  | cons {v : V} {vs : List V} {d : D} {ds : List D} : Rv K F N G v d → Rvs K F N G vs ds → Rvs K F N G (v :: vs) (d :: ds)
end
structure Wd (K : Frag) (F : Nat → Addr) (G H : Hp) (S : Store) : Prop where
  sub : ∀ a o, G a = some o → H a = some o
  inj : ∀ i j, i < S.length → j < S.length → F i = F j → i = j
  loc : ∀ i xs, S[i]? = some xs → G (F i) = none ∧ ∃ vs, H (F i) = some (.lst vs) ∧ Rvs K F S.length G vs xs
structure Ext (F : Nat → Addr) (G H : Hp) (n : Nat) (F' : Nat → Addr) (G' H' : Hp) (n' : Nat) : Prop where
  le : n ≤ n'
  eqF : ∀ i, i < n → F' i = F i
  subG : ∀ a o, G a = some o → G' a = some o
  keep : ∀ a o, H a = some o → (∀ i, i < n → a ≠ F i) → H' a = some o
  newG : ∀ a, G a = none → G' a ≠ none → H a = none
  newF : ∀ i, n ≤ i → i < n' → H (F' i) = none
theorem Ext.refl {F : Nat → Addr} {G H : Hp} {n : Nat} : Ext F G H n F G H n :=
  ⟨Nat.le_refl _, fun _ _ => rfl, fun _ _ h => h, fun _ _ h _ => h, fun a h h' => absurd h h', fun i h h' => absurd h' (by omega)⟩
section
variable {K : Frag} {F F1 F2 F' : Nat → Addr} {N N' : Nat} {G G1 G2 G' H H1 H2 H' : Hp} {S S1 S2 S' : Store}
theorem SqT.sub {a : Addr} {xs : List V} (h : ∀ a o, G a = some o → G' a = some o) (s : SqT K G a xs) : SqT K G' a xs := by
  rcases s with (s | ⟨o, s⟩) | s
  · exact .inl (.inl (h _ _ s))
  · exact .inl (.inr ⟨o, h _ _ s⟩)
  · exact .inr s
theorem SqL.sub {a : Addr} {xs : List V} (h : ∀ a o, G a = some o → G' a = some o) (s : SqL K G a xs) : SqL K G' a xs := by
  rcases s with (s | ⟨o, s⟩) | s
  · exact .inl (.inl (h _ _ s))
  · exact .inl (.inr ⟨o, h _ _ s⟩)
  · exact .inr s
mutual
theorem Rv.mono (hF : ∀ i, i < N → F' i = F i) (hN : N ≤ N') (hG : ∀ a o, G a = some o → G' a = some o) : ∀ {v d}, Rv K F N G v d → Rv K F' N' G' v d
  | _, _, .non => .non
  | _, _, .bl b => .bl b
  | _, _, .int i => .int i
  | _, _, .str x => .str x
  | _, _, .lst h r => .lst (hG _ _ h) (Rvs.mono hF hN hG r)
  | _, _, .tup h r => .tup (SqT.sub hG h) (Rvs.mono hF hN hG r)
  | _, _, .loc h => by rw [← hF _ h]; exact .loc (Nat.lt_of_lt_of_le h hN)
  | _, _, .scr h r => .scr (SqL.sub hG h) (Rvs.mono hF hN hG r)
theorem Rvs.mono (hF : ∀ i, i < N → F' i = F i) (hN : N ≤ N') (hG : ∀ a o, G a = some o → G' a = some o) : ∀ {vs ds}, Rvs K F N G vs ds → Rvs K F' N' G' vs ds
  | _, _, .nil => .nil
  | _, _, .cons r t => .cons (Rv.mono hF hN hG r) (Rvs.mono hF hN hG t)
end
theorem Rvs.length : ∀ {vs ds}, Rvs K F N G vs ds → vs.length = ds.length
  | _, _, .nil => rfl
  | _, _, .cons _ t => by rw [List.length_cons, List.length_cons, Rvs.length t]
theorem Rvs.get : ∀ {vs ds} {i : Nat} {d : D}, Rvs K F N G vs ds → ds[i]? = some d → ∃ v, vs[i]? = some v ∧ Rv K F N G v d
  | _, _, _, _, .nil, h => by simp at h
  | _, _, 0, _, .cons r _, h => by simp at h; subst h; exact ⟨_, rfl, r⟩
  | _, _, i + 1, _, .cons _ t, h => by
    obtain ⟨v, h1, h2⟩ := Rvs.get (i := i) t (by simpa using h)
    exact ⟨v, by simpa using h1, h2⟩
theorem Rvs.get' : ∀ {vs ds} {i : Nat} {v : V}, Rvs K F N G vs ds → vs[i]? = some v → ∃ d, ds[i]? = some d ∧ Rv K F N G v d
  | _, _, _, _, .nil, h => by simp at h
  | _, _, 0, _, .cons r _, h => by simp at h; subst h; exact ⟨_, rfl, r⟩
  | _, _, i + 1, _, .cons _ t, h => by
    obtain ⟨v, h1, h2⟩ := Rvs.get' (i := i) t (by simpa using h)
    exact ⟨v, by simpa using h1, h2⟩
theorem Rvs.append : ∀ {vs ds us es}, Rvs K F N G vs ds → Rvs K F N G us es → Rvs K F N G (vs ++ us) (ds ++ es)
  | _, _, _, _, .nil, r => r
  | _, _, _, _, .cons r t, s => .cons r (Rvs.append t s)
theorem Rvs.set {v : V} {d : D} (r : Rv K F N G v d) : ∀ {vs ds} (i : Nat), Rvs K F N G vs ds → Rvs K F N G (vs.set i v) (ds.set i d)
  | _, _, _, .nil => .nil
  | _, _, 0, .cons _ t => .cons r t
  | _, _, i + 1, .cons q t => .cons q (Rvs.set r i t)
theorem Rvs.take : ∀ {vs ds} (n : Nat), Rvs K F N G vs ds → Rvs K F N G (vs.take n) (ds.take n)
  | _, _, 0, _ => .nil
  | _, _, _ + 1, .nil => .nil
  | _, _, n + 1, .cons r t => .cons r (Rvs.take n t)
theorem Rvs.drop : ∀ {vs ds} (n : Nat), Rvs K F N G vs ds → Rvs K F N G (vs.drop n) (ds.drop n)
  | _, _, 0, r => r
  | _, _, _ + 1, .nil => .nil
  | _, _, n + 1, .cons _ t => Rvs.drop n t
theorem Rvs.reverse : ∀ {vs ds}, Rvs K F N G vs ds → Rvs K F N G vs.reverse ds.reverse
  | _, _, .nil => .nil
  | _, _, .cons r t => by
    rw [List.reverse_cons, List.reverse_cons]
    exact (Rvs.reverse t).append (.cons r .nil)
theorem Rvs.rep {vs ds} (r : Rvs K F N G vs ds) : ∀ k : Nat, Rvs K F N G (List.replicate k vs).flatten (List.replicate k ds).flatten
  | 0 => .nil
  | k + 1 => by
    rw [List.replicate_succ, List.replicate_succ, List.flatten_cons, List.flatten_cons]
    exact r.append (Rvs.rep r k)
theorem Ext.there (x : Ext F G H S.length F1 G1 H1 N) (w1 : Wd K F1 G1 H1 S1) (hn : S1.length = N) {a : Addr} {o : HO} (h : H a = some o) : H1 a ≠ none := by
  by_cases c : ∃ i, i < S.length ∧ a = F i
  · obtain ⟨i, hi, rfl⟩ := c
    have hi1 : i < S1.length := by have := x.le; omega
    obtain ⟨_, vs, e, _⟩ := w1.loc i _ (List.getElem?_eq_getElem hi1)
    rw [x.eqF i hi] at e
    rw [e]; exact fun z => nomatch z
  · rw [x.keep a o h fun i hi e => c ⟨i, hi, e⟩]
    exact fun z => nomatch z
theorem Ext.trans (x : Ext F G H S.length F1 G1 H1 S1.length) (w1 : Wd K F1 G1 H1 S1) (y : Ext F1 G1 H1 S1.length F2 G2 H2 N) : Ext F G H S.length F2 G2 H2 N where
  le := Nat.le_trans x.le y.le
  eqF := fun i hi => (y.eqF i (Nat.lt_of_lt_of_le hi x.le)).trans (x.eqF i hi)
  subG := fun a o h => y.subG a o (x.subG a o h)
  keep := fun a o h hne => y.keep a o (x.keep a o h hne) fun i hi e => by
    by_cases c : i < S.length
    · exact hne i c (e.trans (x.eqF i c))
    · have q := x.newF i (by omega) hi
      rw [← e, h] at q; cases q
  newG := fun a h h2 => by
    cases c : H a with
    | none => rfl
    | some o =>
      cases c1 : G1 a with
      | none => exact absurd (y.newG a c1 h2) (x.there w1 rfl c)
      | some o1 =>
        have := x.newG a h (by rw [c1]; exact fun z => nomatch z)
        rw [c] at this; cases this
  newF := fun i h1 h2 => by
    cases c : H (F2 i) with
    | none => rfl
    | some o =>
      by_cases q : i < S1.length
      · have z := x.newF i h1 q
        rw [← y.eqF i q, c] at z; cases z
      · exact absurd (y.newF i (by omega) h2) (x.there w1 rfl c)
theorem Rv.ext (x : Ext F G H N F' G' H' N') {v : V} {d : D} (r : Rv K F N G v d) : Rv K F' N' G' v d := r.mono x.eqF x.le x.subG
theorem Rvs.ext (x : Ext F G H N F' G' H' N') {vs : List V} {ds : List D} (r : Rvs K F N G vs ds) : Rvs K F' N' G' vs ds := r.mono x.eqF x.le x.subG
/-- a new object, kept in G -/
theorem Ext.new {p : Addr} {o : HO} (w : Wd K F G H S) (hp : H p = none) : Ext F G H S.length F (upd G p o) (upd H p o) S.length ∧ (∀ q, G p ≠ some q) := by
  have gp : ∀ q, G p ≠ some q := fun q e => by rw [w.sub p q e] at hp; cases hp
  refine ⟨⟨Nat.le_refl _, fun _ _ => rfl, fun a u e => ?_, fun a u e _ => ?_, fun a e e2 => ?_, fun i a b => absurd b (by omega)⟩, gp⟩
  · rw [upd_ne (fun z => gp u (by rw [← z]; exact e))]; exact e
  · rw [upd_ne (ne_of_none e hp)]; exact e
  · by_cases z : a = p
    · rw [z]; exact hp
    · rw [upd_ne z] at e2; exact absurd e e2
theorem Wd.new {p : Addr} {o : HO} (w : Wd K F G H S) (hp : H p = none) : Wd K F (upd G p o) (upd H p o) S := by
  have x := (Ext.new (o := o) w hp).1
  refine ⟨fun a u e => ?_, w.inj, fun i xs e => ?_⟩
  · by_cases z : a = p
    · subst z; rw [upd_same] at e ⊢; exact e
    · rw [upd_ne z] at e ⊢; exact w.sub a u e
  · obtain ⟨g, vs, h, r⟩ := w.loc i xs e
    have ne : F i ≠ p := ne_of_none h hp
    exact ⟨by rw [upd_ne ne]; exact g, vs, by rw [upd_ne ne]; exact h, r.ext x⟩
/-- a new object, not kept in G -/
theorem Ext.newO {p : Addr} {o : HO} (w : Wd K F G H S) (hp : H p = none) : Ext F G H S.length F G (upd H p o) S.length :=
  ⟨Nat.le_refl _, fun _ _ => rfl, fun _ _ e => e, fun a u e _ => by rw [upd_ne (ne_of_none e hp)]; exact e, fun a e e2 => absurd e e2, fun i a b => absurd b (by omega)⟩
theorem Wd.newO {p : Addr} {o : HO} (w : Wd K F G H S) (hp : H p = none) : Wd K F G (upd H p o) S := by
  refine ⟨fun a u e => ?_, w.inj, fun i xs e => ?_⟩
  · have h := w.sub a u e
    rw [upd_ne (ne_of_none h hp)]; exact h
  · obtain ⟨g, vs, h, r⟩ := w.loc i xs e
    exact ⟨g, vs, by rw [upd_ne (ne_of_none h hp)]; exact h, r⟩
/-- kept from now on -/
theorem Wd.frz {p : Addr} {o : HO} (w : Wd K F G H S) (hp : H p = some o) (hg : G p = none) (hl : ∀ i, i < S.length → p ≠ F i) : Wd K F (upd G p o) H S := by
  refine ⟨fun a u e => ?_, w.inj, fun i xs e => ?_⟩
  · by_cases z : a = p
    · subst z; rw [upd_same] at e; cases e; exact hp
    · rw [upd_ne z] at e; exact w.sub a u e
  · obtain ⟨g, vs, h, r⟩ := w.loc i xs e
    have hi : i < S.length := (List.getElem?_eq_some_iff.mp e).1
    refine ⟨by rw [upd_ne (Ne.symm (hl i hi))]; exact g, vs, h, r.mono (fun _ _ => rfl) (Nat.le_refl _) fun a u q => ?_⟩
    rw [upd_ne (fun z => by rw [z, hg] at q; cases q)]; exact q
theorem sub_upd {p : Addr} {o : HO} (hg : G p = none) : ∀ a u, G a = some u → (upd G p o) a = some u := fun a u q => by
  rw [upd_ne (fun z => by rw [z, hg] at q; cases q)]; exact q
end

/-! ### what a name may hold; own lists borrowed -/
/-- d is read: kept data, or a list of the def's own -/
def Rb (K : Frag) (F : Nat → Addr) (N : Nat) (G H : Hp) (v : V) (d : D) : Prop :=
  Rv K F N G v d ∨ ∃ a vs xs, v = .ref a ∧ d = .list xs ∧ G a = none ∧ H a = some (.lst vs) ∧ (∀ i, i < N → a ≠ F i) ∧ Rvs K F N G vs xs
structure RE (K : Frag) (F : Nat → Addr) (N : Nat) (G H : Hp) (σ : L2.St) (ρ : Env) : Prop where
  len : σ.length = ρ.length
  val : ∀ (i : Nat) d, ρ[i]? = some (.val d) → ∃ v, σ[i]? = some (some v) ∧ Rv K F N G v d
  own : ∀ (i : Nat) xs, ρ[i]? = some (.own xs) → ∃ a vs, σ[i]? = some (some (.ref a)) ∧ G a = none ∧ H a = some (.lst vs) ∧ (∀ j, j < N → a ≠ F j) ∧ Rvs K F N G vs xs
  sep : ∀ (i j : Nat) xs ys a, ρ[i]? = some (.own xs) → ρ[j]? = some (.own ys) → σ[i]? = some (some (.ref a)) → σ[j]? = some (some (.ref a)) → i = j
section
variable {K : Frag} {F F' : Nat → Addr} {N N' : Nat} {G G' H H' : Hp} {S S' : Store} {σ : L2.St} {ρ : Env} {v : V} {d : D}
theorem Ext.notG (x : Ext F G H N F' G' H' N') {a : Addr} {o : HO} (hg : G a = none) (h : H a = some o) : G' a = none := by
  cases c : G' a with
  | none => rfl
  | some u =>
    have := x.newG a hg (by rw [c]; exact fun z => nomatch z)
    rw [h] at this; cases this
theorem Ext.notF (x : Ext F G H N F' G' H' N') {a : Addr} {o : HO} (h : H a = some o) (hl : ∀ i, i < N → a ≠ F i) : ∀ i, i < N' → a ≠ F' i := fun i hi e => by
  by_cases c : i < N
  · rw [x.eqF i c] at e; exact hl i c e
  · have := x.newF i (by omega) hi
    rw [← e, h] at this; cases this
theorem Rb.ext (x : Ext F G H N F' G' H' N') (r : Rb K F N G H v d) : Rb K F' N' G' H' v d := by
  rcases r with r | ⟨a, vs, xs, e1, e2, g, h, hl, r⟩
  · exact .inl (r.ext x)
  · exact .inr ⟨a, vs, xs, e1, e2, x.notG g h, x.keep a _ h hl, x.notF h hl, r.ext x⟩
theorem RE.ext (x : Ext F G H N F' G' H' N') (r : RE K F N G H σ ρ) : RE K F' N' G' H' σ ρ where
  len := r.len
  val := fun i d e => by obtain ⟨v, h, q⟩ := r.val i d e; exact ⟨v, h, q.ext x⟩
  own := fun i xs e => by
    obtain ⟨a, vs, h1, h2, h3, h4, h5⟩ := r.own i xs e
    exact ⟨a, vs, h1, x.notG h2 h3, x.keep a _ h3 h4, x.notF h3 h4, h5.ext x⟩
  sep := r.sep
/-- a list that is read -/
theorem Rb.list {xs : List D} (w : Wd K F G H S) (r : Rb K F N G H v (.list xs)) : ∃ a vs, v = .ref a ∧ H a = some (.lst vs) ∧ Rvs K F N G vs xs := by
  rcases r with r | ⟨a, vs, xs, e1, e2, g, h, hl, r⟩
  · cases r with
    | lst h r => exact ⟨_, _, rfl, w.sub _ _ h, r⟩
  · cases e2
    exact ⟨a, vs, e1, h, r⟩
theorem Rb.tuple {xs : List D} (w : Wd K F G H S) (r : Rb K F N G H v (.tuple xs)) : ∃ a vs, v = .ref a ∧ SqT K H a vs ∧ Rvs K F N G vs xs := by
  rcases r with r | ⟨a, vs, xs, e1, e2, g, h, hl, r⟩
  · cases r with
    | tup h r => exact ⟨_, _, rfl, PyD.SqT.sub w.sub h, r⟩
  · cases e2
theorem Rb.int {i : Int} (r : Rb K F N G H v (.int i)) : v = .int i := by
  rcases r with r | ⟨a, vs, xs, e1, e2, _⟩
  · cases r; rfl
  · cases e2
theorem Rb.bool {i : Bool} (r : Rb K F N G H v (.bool i)) : v = .bl i := by
  rcases r with r | ⟨a, vs, xs, e1, e2, _⟩
  · cases r; rfl
  · cases e2
theorem Rb.none (r : Rb K F N G H v .none) : v = .non := by
  rcases r with r | ⟨a, vs, xs, e1, e2, _⟩
  · cases r; rfl
  · cases e2
theorem Rb.loc {n : Int} (r : Rb K F N G H v (.dict [(.int n, .none)])) : ∃ m : Nat, n = m ∧ m < N ∧ v = .ref (F m) := by
  rcases r with r | ⟨a, vs, xs, e1, e2, _⟩
  · generalize hd : (PyData.dict [(.int n, .none)]) = d at r
    cases r <;> cases hd
    exact ⟨_, rfl, by assumption, rfl⟩
  · cases e2
theorem Rv.notNone (r : Rv K F N G v d) (h : d ≠ .none) : v ≠ .non := by
  intro z
  subst z
  generalize hv : V.non = v at r
  cases r with
  | non => exact h rfl
  | _ => cases hv
mutual
theorem Rv.dp (hs : ∀ a o, G a = some o → H a = some o) : ∀ {v d}, Rv K F N G v d → d.canLay0 = true → Dp K H v d
  | _, _, .non, _ => .non
  | _, _, .bl b, _ => .bl b
  | _, _, .int i, _ => .int i
  | _, _, .str x, _ => .str x
  | _, _, .lst h r, c => .lst (.inl (.inl (hs _ _ h))) (Rvs.dp hs r (by simpa [PyData.canLay0] using c))
  | _, _, .tup h r, c => .tup (PyD.SqT.sub hs h) (Rvs.dp hs r (by simpa [PyData.canLay0] using c))
  | _, _, .loc h, c => by simp [PyData.canLay0] at c
  | _, _, .scr h r, c => by simp [PyData.canLay0] at c
theorem Rvs.dp (hs : ∀ a o, G a = some o → H a = some o) : ∀ {vs ds}, Rvs K F N G vs ds → PyData.canLayAll0 ds = true → DpAll K H vs ds
  | _, _, .nil, _ => .nil
  | _, _, .cons r t, c => by
    have c' := Bool.and_eq_true_iff.mp (show (PyData.canLay0 _ && PyData.canLayAll0 _) = true by simpa [PyData.canLayAll0] using c)
    exact .cons (Rv.dp hs r c'.1) (Rvs.dp hs t c'.2)
end
theorem Rb.dp (w : Wd K F G H S) (r : Rb K F N G H v d) (c : SeqAt.shaped d = true) : Dp K H v d := by
  have c' := SeqAt.canLay_of_shaped c
  rcases r with r | ⟨a, vs, xs, e1, e2, g, h, hl, r⟩
  · exact r.dp w.sub c'
  · subst e1 e2
    exact .lst (.inl (.inl h)) (Rvs.dp w.sub r (by simpa [PyData.canLay0] using c'))
end

/-! ### readings -/
/-- a computation from here: what it yields is handed on -/
def rdG {α β : Type} (K : Frag) (R : (Nat → Addr) → Nat → Hp → Hp → β → α → Prop) (m : Env → Store → Option (α × Store)) (σ : L2.St) (H : Hp) (Q : β → Hp → Prop) : Prop :=
  ∃ F G S ρ, Wd K F G H S ∧ RE K F S.length G H σ ρ ∧ ∃ d S', m ρ S = some (d, S') ∧ ∀ v F' G' H', Ext F G H S.length F' G' H' S'.length → Wd K F' G' H' S' → R F' S'.length G' H' v d → Q v H'
abbrev rd (K : Frag) (m : Env → Store → Option (D × Store)) : TE := rdG K (fun F N G _ v d => Rv K F N G v d) m
abbrev rdB (K : Frag) (m : Env → Store → Option (D × Store)) : TE := rdG K (fun F N G H v d => Rb K F N G H v d) m
abbrev rdT (K : Frag) (m : Env → Store → Option (Bool × Store)) : TT := rdG K (fun _ _ _ _ v d => v = d) m
abbrev rdA (K : Frag) (m : Env → Store → Option (List D × Store)) : TA := rdG K (fun F N G _ v d => Rvs K F N G v d) m
/-- a fresh list, not kept yet -/
def Rf (K : Frag) (F : Nat → Addr) (N : Nat) (G H : Hp) (v : V) (d : D) : Prop := ∃ a vs xs, v = .ref a ∧ d = .list xs ∧ G a = none ∧ H a = some (.lst vs) ∧ (∀ i, i < N → a ≠ F i) ∧ Rvs K F N G vs xs
/-- .. with its freshness: at the entry it was not there -/
def rdF (K : Frag) (m : Env → Store → Option (D × Store)) : TE := fun σ H Q =>
  ∃ F G S ρ, Wd K F G H S ∧ RE K F S.length G H σ ρ ∧ ∃ d S', m ρ S = some (d, S') ∧ ∀ v F' G' H', Ext F G H S.length F' G' H' S'.length → Wd K F' G' H' S' → (∃ a vs xs, v = .ref a ∧ d = .list xs ∧ H a = none ∧ G' a = none ∧ H' a = some (.lst vs) ∧ (∀ i, i < S'.length → a ≠ F' i) ∧ Rvs K F' S'.length G' vs xs) → Q v H'
theorem bnd_some {α β : Type} {x : Option (α × Store)} {f : α → Store → Option (β × Store)} {r : β × Store} (h : bnd x f = some r) : ∃ a S, x = some (a, S) ∧ f a S = some r := by
  unfold bnd at h
  split at h
  · cases h
  · exact ⟨_, _, rfl, h⟩
theorem _root_.L2.PE.imp {X : Cx} {e : Expr} {t t' : TE} (p : PE X e t) (h : ∀ σ H Q, t' σ H Q → t σ H Q) : PE X e t' := ⟨fun pins s σ H Q I q => p.run pins s σ H Q I (h σ H Q q)⟩
theorem _root_.L2.PT.imp {X : Cx} {e : Expr} {t t' : TT} (p : PT X e t) (h : ∀ σ H Q, t' σ H Q → t σ H Q) : PT X e t' := ⟨fun pins s σ H Q I q => p.run pins s σ H Q I (h σ H Q q)⟩
theorem _root_.L2.PW.imp {X : Cx} {e : Expr} {t t' : TT} (p : PW X e t) (h : ∀ σ H Q, t' σ H Q → t σ H Q) : PW X e t' := ⟨fun wh pins s σ H Q I q => p.run wh pins s σ H Q I (h σ H Q q)⟩
theorem _root_.L2.PA.imp {X : Cx} {es : List Expr} {t t' : TA} (p : PA X es t) (h : ∀ σ H Q, t' σ H Q → t σ H Q) : PA X es t' := ⟨fun pos pins s σ H Q I q => p.run pos pins s σ H Q I (h σ H Q q)⟩
theorem _root_.L2.PS.imp {X : Cx} {e : Stmt} {t t' : TS} (p : PS X e t) (h : ∀ D σ H, t' D σ H → t D σ H) : PS X e t' := ⟨fun pins s σ H D I q => p.run pins s σ H D I (h D σ H q)⟩
theorem _root_.L2.PSs.imp {X : Cx} {e : List Stmt} {t t' : TS} (p : PSs X e t) (h : ∀ D σ H, t' D σ H → t D σ H) : PSs X e t' := ⟨fun pins s σ H D I q => p.run pins s σ H D I (h D σ H q)⟩
theorem _root_.L2.PI.imp {X : Cx} {tg e : Expr} {t t' : TI} (p : PI X tg e t) (h : ∀ σ H Q, t' σ H Q → t σ H Q) : PI X tg e t' := ⟨fun pins s σ H Q I q => p.run pins s σ H Q I (h σ H Q q)⟩
end PyD

set_option Elab.async false
set_option linter.all false
set_option maxRecDepth 100000
/-! PyD, part 3: what a for walks: sequences of either kind, two at once, with their places. -/
namespace PyD
open PySem PySem.Spec PyProof.Rows L2
def sit : Bool → Heap → Addr → Addr → Nat → Prop
  | true => fun h it l i => h.IsListIter it l i
  | false => fun h it l i => h.IsTupleIter it l i
def ssq : Bool → Heap → Addr → Array Value → Prop
  | true => fun h l items => h.IsList l items
  | false => fun h l items => h.IsTuple l items
def SqK (K : Frag) (H : Hp) : Bool → Addr → List V → Prop
  | true => fun a xs => SqL K H a xs
  | false => fun a xs => SqT K H a xs
def itO (k : Bool) (l : Addr) : Obj := { cls := .type (if k then "list_iterator" else "tuple_iterator"), data := .fields #[.ref l, .int 0 0] }
theorem sit_obj {k : Bool} {h : Heap} {it l : Addr} {i : Nat} (s : sit k h it l i) : ∃ o, h.get? it = some o ∧ ∀ v, o.data ≠ .cell v := by
  cases k <;> (obtain ⟨o, e, _, d⟩ := s; exact ⟨o, e, fun v z => by rw [d] at z; cases z⟩)
theorem sit_at {k : Bool} {h h' : Heap} {it l : Addr} {i : Nat} (s : sit k h it l i) (hk : ∀ o, h.get? it = some o → h'.get? it = some o) : sit k h' it l i := by
  cases k <;> (obtain ⟨o, e, r⟩ := s; exact ⟨o, hk o e, r⟩)
theorem ssq_at {k : Bool} {h h' : Heap} {l : Addr} {x : Array Value} (s : ssq k h l x) (hk : ∀ o, h.get? l = some o → h'.get? l = some o) : ssq k h' l x := by
  cases k <;> (obtain ⟨o, e, r⟩ := s; exact ⟨o, hk o e, r⟩)
theorem sit_zero {k : Bool} {h : Heap} {it l : Addr} (e : h.get? it = some (itO k l)) : sit k h it l 0 := by
  cases k <;> exact ⟨_, e, rfl, rfl⟩
theorem ssq_lt {k : Bool} {h : Heap} {l : Addr} {x : Array Value} (s : ssq k h l x) : l < h.objs.size := by
  cases k <;> (obtain ⟨o, e, _⟩ := s; exact Heap.lt_size e)
theorem draws {prog : Program} {w : World} {A : Around} (k : Bool) (hh : A.handled = none) (it l : Addr) (hne : l ≠ it) (items : Array Value) :
    Draws prog w A it [it, l] items.size (fun i v => items[i]? = some v) (fun i h => sit k h it l i ∧ ssq k h l items) := by
  cases k
  · exact Draws.tuple hh it l hne items
  · exact Draws.list hh it l hne items
theorem begins (k : Bool) (l : Addr) (items : Array Value) : Begins (.ref l) (itO k l) fun h => ssq k h l items := by
  cases k
  · exact begins_tuple l items
  · exact begins_list l items
theorem sqk {X : Cx} {pins : List (Addr × Obj)} {σ : L2.St} {H : Hp} {s : Shared} {a : Addr} {xs : List V} {k : Bool} (I : Inv X pins σ H s) (h : SqK X.K H k a xs) : ∃ its : List Value, Vals xs its ∧ ssq k s.heap a its.toArray ∧ xs.length ≤ sizeLine := by
  cases k
  · obtain ⟨its, r, p, z⟩ := I.tuple h
    exact ⟨its, r, p, z⟩
  · obtain ⟨its, r, p, z⟩ := I.list h
    exact ⟨its, r, p.isList, z⟩
/-! ### two sequences -/
def It2 (K : Frag) (k1 k2 : Bool) (a b : Addr) (vs us : List V) : It :=
  ⟨fun i H => SqK K H k1 a vs ∧ SqK K H k2 b us ∧ i < min vs.length us.length,
   fun i H v H' => ∃ T x y, v = .ref T ∧ H T = none ∧ vs[i]? = some x ∧ us[i]? = some y ∧ H' = upd H T (.tup [x, y]),
   fun i H => SqK K H k1 a vs ∧ SqK K H k2 b us ∧ i = min vs.length us.length⟩
theorem turn_zip2 {P : Program} {w : World} {K : Frag} {elts : List Expr} {kk : Nat} {tpos : Pos} {k1 k2 : Bool} {a b : Addr} {vs us : List V} {n : Nat} (ha : a < n) (hb : b < n) :
    Turn P w K (.Tuple elts kk tpos) (It2 K k1 k2 a b vs us) [n + 4, n + 2, n + 3, n, n + 1] (n + 4) (fun i h => IsZip h (n + 4) (n + 2) (n + 3) .none ∧ IsTupOf2 h (n + 2) (.ref n) (.ref (n + 1)) ∧ (∃ x y, IsTupOf2 h (n + 3) x y) ∧ sit k1 h n a i ∧ sit k2 h (n + 1) b i) where
  mem := List.mem_cons_self
  obj := fun i h ⟨hz, h1, ⟨x, y, h2⟩, h3, h4⟩ c hc => by
    simp only [List.mem_cons, List.not_mem_nil, or_false] at hc
    rcases hc with rfl | rfl | rfl | rfl | rfl
    · exact ⟨_, hz, fun v q => nomatch q⟩
    · exact ⟨_, h1, fun v q => nomatch q⟩
    · exact ⟨_, h2, fun v q => nomatch q⟩
    · exact sit_obj h3
    · exact sit_obj h4
  keep := fun i h h' ⟨hz, h1, ⟨x, y, h2⟩, h3, h4⟩ k =>
    ⟨k _ (by simp) _ hz, k _ (by simp) _ h1, ⟨x, y, k _ (by simp) _ h2⟩, sit_at h3 (k _ (by simp)), sit_at h4 (k _ (by simp))⟩
  item := by
    intro X hP hw hK hc i pins s σ H E I hf ⟨hz, h1, h2, h3, h4⟩ ⟨hq1, hq2, hi⟩
    subst hP hw hK
    obtain ⟨its, r1, q1, _⟩ := sqk I hq1
    obtain ⟨jts, r2, q2, _⟩ := sqk I hq2
    have e1 := r1.length
    have e2 := r2.length
    have hh : X.A.in1.handled = none := I.ok.hd hc
    have na : (a : Nat) ≠ n := Nat.ne_of_lt ha
    have nb : (b : Nat) ≠ n + 1 := Nat.ne_of_lt (Nat.lt_succ_of_lt hb)
    have G := GoesN.zip2 (elts := elts) (x1 := kk) (pos := tpos) (zip_sep2 (N := n) (fp1 := [a]) (fp2 := [b]) (by simpa using ha) (by simpa using hb)) (draws (prog := X.prog) (w := X.w) k1 hh n a na its.toArray) (draws k2 hh (n + 1) b nb jts.toArray)
    refine thn (G.goes i s (fun v s2 => ∃ x H', Inv X pins σ H' s2 ∧ RelV x v ∧ (It2 X.K k1 k2 a b vs us).yld i H x H' ∧ (IsZip s2.heap (n + 4) (n + 2) (n + 3) .none ∧ IsTupOf2 s2.heap (n + 2) (.ref n) (.ref (n + 1)) ∧ (∃ x y, IsTupOf2 s2.heap (n + 3) x y) ∧ sit k1 s2.heap n a (i + 1) ∧ sit k2 s2.heap (n + 1) b (i + 1)) ∧ ∀ c ∈ [n + 4, n + 2, n + 3, n, n + 1], H' c = none) E (by simp only [List.size_toArray]; omega) ⟨hz, h1, h2, ⟨h3, q1⟩, ⟨h4, q2⟩⟩ fun v h' tk ⟨T, x, y, ev, hT, hx, hy, tT⟩ ⟨z1, z2, z3, ⟨z4, _⟩, ⟨z5, _⟩⟩ hk _ => ?_) fun r s1 z => z
    subst ev
    have hi1 : i < vs.length := by omega
    have hi2 : i < us.length := by omega
    obtain ⟨u1, eu1, ru1⟩ := r1.get (List.getElem?_eq_getElem hi1)
    obtain ⟨u2, eu2, ru2⟩ := r2.get (List.getElem?_eq_getElem hi2)
    have ex : x = u1 := by
      have : its[i]? = some x := by simpa using hx
      rw [eu1] at this; exact (Option.some.inj this).symm
    have ey : y = u2 := by
      have : jts[i]? = some y := by simpa using hy
      rw [eu2] at this; exact (Option.some.inj this).symm
    subst ex ey
    have fT : H T = none := I.hok.fresh hT
    refine ⟨.ref T, upd H T (.tup [vs[i], us[i]]), ?_, rfl, ⟨T, _, _, rfl, fT, List.getElem?_eq_getElem hi1, List.getElem?_eq_getElem hi2, rfl⟩, ⟨z1, z2, z3, z4, z5⟩, fun c hcm => ?_⟩
    · refine I.turnedNew (ch := [n + 4, n + 3, n, n + 1]) hk (fun c hcm => hf c ?_) hT ⟨by show 2 ≤ sizeLine; decide, [x, y], .cons ru1 (.cons ru2 .nil), tT⟩
      simp only [List.mem_cons, List.not_mem_nil, or_false] at hcm ⊢
      rcases hcm with q | q | q | q <;> simp [q]
    · have : c ≠ T := fun e => by
        obtain ⟨o, e2, _⟩ : ∃ o, s.heap.get? c = some o ∧ ∀ v, o.data ≠ .cell v := by
          simp only [List.mem_cons, List.not_mem_nil, or_false] at hcm
          obtain ⟨x0, y0, h2⟩ := h2
          rcases hcm with rfl | rfl | rfl | rfl | rfl
          · exact ⟨_, hz, fun v q => nomatch q⟩
          · exact ⟨_, h1, fun v q => nomatch q⟩
          · exact ⟨_, h2, fun v q => nomatch q⟩
          · exact sit_obj h3
          · exact sit_obj h4
        exact absurd (Nat.lt_of_lt_of_le (Heap.lt_size e2) (e ▸ hT)) (Nat.lt_irrefl _)
      rw [upd_ne this]
      exact (hf c hcm).1
  done := by
    intro X hP hw hK hc i pins s σ H E I hf ⟨hz, h1, h2, h3, h4⟩ ⟨hq1, hq2, hi⟩
    subst hP hw hK
    obtain ⟨its, r1, q1, _⟩ := sqk I hq1
    obtain ⟨jts, r2, q2, _⟩ := sqk I hq2
    have e1 := r1.length
    have e2 := r2.length
    have hh : X.A.in1.handled = none := I.ok.hd hc
    have na : (a : Nat) ≠ n := Nat.ne_of_lt ha
    have nb : (b : Nat) ≠ n + 1 := Nat.ne_of_lt (Nat.lt_succ_of_lt hb)
    have G := GoesN.zip2 (elts := elts) (x1 := kk) (pos := tpos) (zip_sep2 (N := n) (fp1 := [a]) (fp2 := [b]) (by simpa using ha) (by simpa using hb)) (draws (prog := X.prog) (w := X.w) k1 hh n a na its.toArray) (draws k2 hh (n + 1) b nb jts.toArray)
    have en : i = min its.toArray.size jts.toArray.size := by simp only [List.size_toArray]; omega
    subst en
    refine thn (G.stops s (fun s1 => Inv X pins σ H s1) E ⟨hz, h1, h2, ⟨h3, q1⟩, ⟨h4, q2⟩⟩ fun h' tk hk _ => ?_) fun r s1 z => z
    refine I.turnedL (ch := [n + 4, n + 3, n, n + 1]) hk fun c hcm => hf c ?_
    simp only [List.mem_cons, List.not_mem_nil, or_false] at hcm ⊢
    rcases hcm with q | q | q | q <;> simp [q]
  self := fun A i s Q E ⟨hz, _⟩ h => wpAny_pyIter_zip hz h
def iZip2 (K : Frag) (ta : TA) : TI := fun σ H R => ta σ H fun vs H1 => ∃ a b xs ys k1 k2, vs = [.ref a, .ref b] ∧ SqK K H1 k1 a xs ∧ SqK K H1 k2 b ys ∧ R (It2 K k1 k2 a b xs ys) H1
theorem pi_zip2 {X : Cx} {e e2 : Expr} {ta : TA} {p pos tpos : Pos} {elts : List Expr} {kk : Nat} (hg : Gl X "zip") (hm : X.mg "zip" = none) (ha : PA X [e, e2] ta)
    (hs : starEach [e, e2] X.env = (false, eval e X.env) :: starEach [e2] X.env) (hpl : (backTo pos (starEach [e2] X.env)).any (·.1) = false) :
    PI X (.Tuple elts kk tpos) (.Call (.Name "zip" p) [e, e2] [] pos) (iZip2 X.K ta) := by
  refine ⟨fun pins s σ H R I h => ?_⟩
  refine Call_ (ld_blt I hg hm boot_zip (callWith_type1 (thn (ha.run pos pins s σ H _ I h) fun ws s1 ⟨vs, H1, I1, r1, q1⟩ => ?_) hs hpl))
  obtain ⟨a, b, xs, ys, k1, k2, rfl, hx, hy, q⟩ := q1
  obtain ⟨u1, u2, rfl, ra, rb⟩ := vals2 r1
  cases ra
  cases rb
  obtain ⟨its, _, p1, _⟩ := sqk I1 hx
  obtain ⟨jts, _, p2, _⟩ := sqk I1 hy
  refine zip_begins2 (begins k1 a its.toArray) (begins k2 b jts.toArray) p1 p2 fun h' hz hTI hTO ho1 ho2 _ hk => wpAny_pyIter_zip hz ?_
  refine ⟨s1.heap.objs.size + 4, _, _, _, H1, rfl, I1.kept (t' := s1.toks) hk, turn_zip2 (ssq_lt p1) (ssq_lt p2), ⟨hz, hTI, ⟨_, _, hTO⟩, sit_zero ho1, sit_zero ho2⟩, fun c hcm => ?_, q⟩
  have hle : s1.heap.objs.size ≤ c := by
    simp only [List.mem_cons, List.not_mem_nil, or_false] at hcm
    rcases hcm with z | z | z | z | z <;> rw [z] <;> first | exact Nat.le_refl _ | exact Nat.le_add_right _ _
  exact I1.fpOk hle (I1.hok.fresh hle)
/-! ### a sequence with its places -/
def ItE (K : Frag) (k : Bool) (a : Addr) (vs : List V) : It :=
  ⟨fun i H => SqK K H k a vs ∧ i < vs.length,
   fun i H v H' => ∃ T x, v = .ref T ∧ H T = none ∧ vs[i]? = some x ∧ H' = upd H T (.tup [.int (i : Nat), x]),
   fun i H => SqK K H k a vs ∧ i = vs.length⟩
theorem turn_enum2 {P : Program} {w : World} {K : Frag} {elts : List Expr} {kk : Nat} {tpos : Pos} {k : Bool} {a : Addr} {vs : List V} {n : Nat} (ha : a < n) :
    Turn P w K (.Tuple elts kk tpos) (ItE K k a vs) [n + 1, n] (n + 1) (fun i h => (∃ old, IsEnum h (n + 1) n (0 + (i : Int)) old) ∧ sit k h n a i) where
  mem := List.mem_cons_self
  obj := fun i h ⟨⟨old, hz⟩, h3⟩ c hc => by
    simp only [List.mem_cons, List.not_mem_nil, or_false] at hc
    rcases hc with rfl | rfl
    · exact ⟨_, hz, fun v q => nomatch q⟩
    · exact sit_obj h3
  keep := fun i h h' ⟨⟨old, hz⟩, h3⟩ k => ⟨⟨old, k _ (by simp) _ hz⟩, sit_at h3 (k _ (by simp))⟩
  item := by
    intro X hP hw hK hc i pins s σ H E I hf ⟨hz, h3⟩ ⟨hq1, hi⟩
    subst hP hw hK
    obtain ⟨its, r1, q1, _⟩ := sqk I hq1
    have e1 := r1.length
    have hh : X.A.in1.handled = none := I.ok.hd hc
    have na : (a : Nat) ≠ n := Nat.ne_of_lt ha
    have nb : (n + 1 : Nat) ∉ [n, a] := by
      have : (a : Nat) < n := ha
      simp only [List.mem_cons, List.not_mem_nil, or_false, not_or]
      exact ⟨Nat.succ_ne_self n, fun q => absurd (Nat.lt_of_lt_of_le (q ▸ this) (Nat.le_succ n)) (by omega)⟩
    have G := GoesN.enumFrom (elts := elts) (x1 := kk) (pos := tpos) 0 (draws (prog := X.prog) (w := X.w) k hh n a na its.toArray) (n + 1) (Nat.succ_ne_self n) nb List.mem_cons_self
    refine thn (G.goes i s (fun v s2 => ∃ x H', Inv X pins σ H' s2 ∧ RelV x v ∧ (ItE X.K k a vs).yld i H x H' ∧ ((∃ old, IsEnum s2.heap (n + 1) n (0 + ((i + 1 : Nat) : Int)) old) ∧ sit k s2.heap n a (i + 1)) ∧ ∀ c ∈ [n + 1, n], H' c = none) E (by simp only [List.size_toArray]; omega) ⟨hz, h3, q1⟩ fun v h' tk ⟨T, t, x, ev, hT, hx, tT⟩ ⟨z1, z4, _⟩ hk _ => ?_) fun r s1 z => z
    subst ev
    obtain ⟨u1, eu1, ru1⟩ := r1.get (List.getElem?_eq_getElem hi)
    have ex : x = u1 := by
      have : its[i]? = some x := by simpa using hx
      rw [eu1] at this; exact (Option.some.inj this).symm
    subst ex
    have fT : H T = none := I.hok.fresh hT
    refine ⟨.ref T, upd H T (.tup [.int (i : Nat), vs[i]]), ?_, rfl, ⟨T, _, rfl, fT, List.getElem?_eq_getElem hi, rfl⟩, ⟨z1, z4⟩, fun c hcm => ?_⟩
    · refine I.turnedNew (ch := [n + 1, n]) hk hf hT ⟨by show 2 ≤ sizeLine; decide, [.int (0 + (i : Int)) t, x], .cons ⟨t, by rw [Int.zero_add]⟩ (.cons ru1 .nil), tT⟩
    · have : c ≠ T := fun e => by
        obtain ⟨o, e2, _⟩ : ∃ o, s.heap.get? c = some o ∧ ∀ v, o.data ≠ .cell v := by
          simp only [List.mem_cons, List.not_mem_nil, or_false] at hcm
          obtain ⟨old, hz⟩ := hz
          rcases hcm with rfl | rfl
          · exact ⟨_, hz, fun v q => nomatch q⟩
          · exact sit_obj h3
        exact absurd (Nat.lt_of_lt_of_le (Heap.lt_size e2) (e ▸ hT)) (Nat.lt_irrefl _)
      rw [upd_ne this]
      exact (hf c hcm).1
  done := by
    intro X hP hw hK hc i pins s σ H E I hf ⟨hz, h3⟩ ⟨hq1, hi⟩
    subst hP hw hK
    obtain ⟨its, r1, q1, _⟩ := sqk I hq1
    have e1 := r1.length
    have hh : X.A.in1.handled = none := I.ok.hd hc
    have na : (a : Nat) ≠ n := Nat.ne_of_lt ha
    have nb : (n + 1 : Nat) ∉ [n, a] := by
      have : (a : Nat) < n := ha
      simp only [List.mem_cons, List.not_mem_nil, or_false, not_or]
      exact ⟨Nat.succ_ne_self n, fun q => absurd (Nat.lt_of_lt_of_le (q ▸ this) (Nat.le_succ n)) (by omega)⟩
    have G := GoesN.enumFrom (elts := elts) (x1 := kk) (pos := tpos) 0 (draws (prog := X.prog) (w := X.w) k hh n a na its.toArray) (n + 1) (Nat.succ_ne_self n) nb List.mem_cons_self
    have en : i = its.toArray.size := by simp only [List.size_toArray]; omega
    subst en
    exact thn (G.stops s (fun s1 => Inv X pins σ H s1) E ⟨hz, h3, q1⟩ fun h' tk hk _ => I.turnedL (ch := [n + 1, n]) hk hf) fun r s1 z => z
  self := fun A i s Q E ⟨⟨_, hz⟩, _⟩ h => wpAny_pyIter_enum hz h
def iEnum2 (K : Frag) (ta : TA) : TI := fun σ H R => ta σ H fun vs H1 => ∃ a xs k, vs = [.ref a] ∧ SqK K H1 k a xs ∧ R (ItE K k a xs) H1
/-! ### one sequence -/
def It1 (K : Frag) (k : Bool) (a : Addr) (vs : List V) : It :=
  ⟨fun i H => SqK K H k a vs ∧ i < vs.length, fun i H v H' => H' = H ∧ vs[i]? = some v, fun i H => SqK K H k a vs ∧ i = vs.length⟩
end PyD

set_option Elab.async false
set_option linter.all false
set_option maxRecDepth 100000
/-! PyD, part 4: some operations more. -/
namespace PyD
open PySem PySem.Spec PyProof.Rows L2
/-! ### enumerate(v) -/
set_option maxHeartbeats 1000000 in
theorem enum_made {v : Value} {o : Obj} {Hd : Heap → Prop} (B : Begins v o Hd) :
    Meets (Builtin.«enumerate.__new__» ⟨[.type "enumerate", v], []⟩) (fun _ R s => Hd s.heap ∧
      R (.ok (.ret (.ref (s.heap.push o).objs.size))) { s with heap := (s.heap.push o).push { cls := .type "enumerate", data := .fields #[.none, .bool false, .ref s.heap.objs.size, rawInt 0, .none, .none] } }) :=
  .of_wp fun prog w A R s ⟨hd, hR⟩ => by
    obtain ⟨hp, gs, dr, tk, os⟩ := s
    have hsub := sub_enumerate
    have go : ∀ {A' : Around} {E : Value → Shared → Prop} {Q : Value → Shared → Prop}, Q (.ref hp.objs.size) ⟨hp.push o, gs, dr, tk, os⟩ → wpAny (model prog w) A' (pyIter v) Q E ⟨hp, gs, dr, tk, os⟩ :=
      fun q => B.iter prog w _ _ ⟨hp, gs, dr, tk, os⟩ _ hd q
    wp_walk using go
    refine wpAny_stack_any fun _ => wpAny_pure ?_
    split
    · rename_i c _ _ _ _ _
      cases (c == Value.type "enumerate") <;> (wp_walk using go; exact ⟨_, rfl, hR⟩)
    · wp_walk using go
      exact ⟨_, rfl, hR⟩
section
variable {prog : Program} {w : World} {A : Around} {E : Value → Shared → Prop} {s : Shared}
theorem enum_call {v : Value} {o : Obj} {Hd : Heap → Prop} {Q : Value → Shared → Prop} (B : Begins v o Hd) (h1 : Hd s.heap)
    (h : ∀ h', IsEnum h' (s.heap.objs.size + 1) s.heap.objs.size 0 .none → h'.get? s.heap.objs.size = some o → (∀ b u, s.heap.get? b = some u → h'.get? b = some u) → Q (.ref (s.heap.objs.size + 1)) { s with heap := h' }) :
    wpAny (model prog w) A (call (.type "enumerate") [v]) Q E s := by
  refine callType_new F.called_enumerate (by decide) (F.typeCall_enumerate_1 _) (F.newCall_enumerate_1 _) (fun obj => F.args_object_init_2 obj _) F.entry_enumerate_new (enum_made B) ⟨h1, ?_⟩
  have hz : (s.heap.push o).objs.size = s.heap.objs.size + 1 := Heap.size_push ..
  show _ ∧ _
  rw [hz]
  have en := Heap.get?_push_size (s.heap.push o) (o := { cls := .type "enumerate", data := .fields #[.none, .bool false, .ref s.heap.objs.size, rawInt 0, .none, .none] }) rfl
  rw [hz] at en
  exact ⟨⟨_, en, rfl⟩, h _ en (Heap.get?_push_of_some _ (Heap.get?_push_size _ B.free)) fun b u x => Heap.get?_push_of_some _ (Heap.get?_push_of_some _ x)⟩
end
theorem pi_enum2 {X : Cx} {e : Expr} {ta : TA} {p pos tpos : Pos} {elts : List Expr} {kk : Nat} (hg : Gl X "enumerate") (hm : X.mg "enumerate" = none) (ha : PA X [e] ta)
    (hs : starEach [e] X.env = (false, eval e X.env) :: starEach [] X.env) : PI X (.Tuple elts kk tpos) (.Call (.Name "enumerate" p) [e] [] pos) (iEnum2 X.K ta) := by
  refine ⟨fun pins s σ H R I h => ?_⟩
  refine Call_ (ld_blt I hg hm boot_enumerate (callWith_type1 (thn (ha.run pos pins s σ H _ I h) fun ws s1 ⟨vs, H1, I1, r1, q1⟩ => ?_) hs rfl))
  obtain ⟨a, xs, k, rfl, hx, q⟩ := q1
  obtain ⟨u1, rfl, ra⟩ := vals1 r1
  cases ra
  obtain ⟨its, _, p1, _⟩ := sqk I1 hx
  refine enum_call (begins k a its.toArray) p1 fun h' he ho hk => wpAny_pyIter_enum he ?_
  refine ⟨s1.heap.objs.size + 1, [s1.heap.objs.size + 1, s1.heap.objs.size], _, _, H1, rfl, I1.kept (t' := s1.toks) hk, turn_enum2 (ssq_lt p1), ⟨⟨.none, he⟩, sit_zero ho⟩, fun c hcm => ?_, q⟩
  have hle : s1.heap.objs.size ≤ c := by
    simp only [List.mem_cons, List.not_mem_nil, or_false] at hcm
    rcases hcm with z | z <;> rw [z] <;> first | exact Nat.le_refl _ | exact Nat.le_add_right _ _
  exact I1.fpOk hle (I1.hok.fresh hle)
/-! ### a sequence as it is -/
def iSeq (K : Frag) (tl : TE) : TI := fun σ H R => tl σ H fun x H1 => ∃ a xs k, x = .ref a ∧ SqK K H1 k a xs ∧ R (if k then Itl K a else Itt K a) H1
theorem pi_seq {X : Cx} {tg l : Expr} {tl : TE} (hl : PE X l tl) : PI X tg l (iSeq X.K tl) := by
  refine ⟨fun pins s σ H R I h => ?_⟩
  have h' : tl σ H (fun x H1 => ∃ a xs k, x = .ref a ∧ SqK X.K H1 k a xs ∧ R (if k then Itl X.K a else Itt X.K a) H1) := h
  refine thn (hl.run pins s σ H _ I h') fun v s1 ⟨x, H1, I1, r1, q1⟩ => ?_
  obtain ⟨a, xs, k, rfl, hq, q⟩ := q1
  cases r1
  have fr : FpOk X pins H1 s1.heap.objs.size := I1.fpOk (Nat.le_refl _) (I1.hok.fresh (Nat.le_refl _))
  cases k with
  | true =>
    obtain ⟨its, rv, p, hz⟩ := I1.list hq
    refine wpAny_pyIter_list p.isList ⟨s1.heap.objs.size, [s1.heap.objs.size], _, _, H1, rfl, I1.kept (t' := s1.toks) fun b o e => Heap.get?_push_of_some _ e, turn_list a _, ⟨_, Heap.get?_push_size _ rfl, rfl, rfl⟩, fun b hb => ?_, q⟩
    rw [List.mem_singleton.mp hb]; exact fr
  | false =>
    obtain ⟨its, rv, p, hz⟩ := I1.tuple hq
    refine wpAny_pyIter_tuple (show s1.heap.IsTuple a its.toArray from p) ⟨s1.heap.objs.size, [s1.heap.objs.size], _, _, H1, rfl, I1.kept (t' := s1.toks) fun b o e => Heap.get?_push_of_some _ e, turn_tuple a _, ⟨_, Heap.get?_push_size _ rfl, rfl, rfl⟩, fun b hb => ?_, q⟩
    rw [List.mem_singleton.mp hb]; exact fr
/-! ### tuple * int, every small count -/
theorem tmul_same (l : Addr) (items : Array Value) (n : Nat) (dd : Option Addr) (sl : Array (Option Value)) (x : Int) (u : Tok) (c0 : (decide (x < -(2 ^ 63)) || decide (x ≥ 2 ^ 63)) = false) (c1 : (items.isEmpty || x == 1) = true) :
    Meets (Builtin.«tuple.__mul__» ⟨[.ref l, .int x u], []⟩) (fun _ R s => s.heap.get? l = some { cls := .type "tuple", dict := dd, data := .seq items n, slots := sl } ∧ R (.ok (.ret (Value.ref l))) s) :=
  .of_wp fun prog w A R s ⟨hl, hR⟩ => by
    obtain ⟨hp, g, d, tk, os⟩ := s
    have f1 := AutoSeq1.idx_int
    wp_walk using AutoSeq1.wpAny_loadPart' hl
    repeat (first
      | (refine wpAny_ite_false (decide_eq_false (by rw [c0]; exact Bool.false_ne_true)) ?_; wp_walk using AutoSeq1.wpAny_loadPart' hl)
      | (refine wpAny_ite_true (decide_eq_true (by rw [c1])) ?_; wp_walk using AutoSeq1.wpAny_loadPart' hl))
    all_goals exact ⟨_, rfl, hR⟩
theorem tmul_none (l : Addr) (items : Array Value) (n : Nat) (dd : Option Addr) (sl : Array (Option Value)) (x : Int) (u : Tok) (c0 : (decide (x < -(2 ^ 63)) || decide (x ≥ 2 ^ 63)) = false) (c1 : (items.isEmpty || x == 1) = false) (c2 : (decide (x ≤ 0) || items.isEmpty) = true) :
    Meets (Builtin.«tuple.__mul__» ⟨[.ref l, .int x u], []⟩) (fun _ R s => s.heap.get? l = some { cls := .type "tuple", dict := dd, data := .seq items n, slots := sl } ∧
      R (.ok (.ret (Value.ref s.heap.objs.size))) { s with heap := s.heap.push { cls := Value.type "tuple", data := Data.seq #[] }, toks := s.toks }) :=
  .of_wp fun prog w A R s ⟨hl, hR⟩ => by
    obtain ⟨hp, g, d, tk, os⟩ := s
    have f1 := AutoSeq1.idx_int
    wp_walk using AutoSeq1.wpAny_loadPart' hl
    repeat (first
      | (refine wpAny_ite_false (decide_eq_false (by rw [c0]; exact Bool.false_ne_true)) ?_; wp_walk using AutoSeq1.wpAny_loadPart' hl)
      | (refine wpAny_ite_false (decide_eq_false (by rw [c1]; exact Bool.false_ne_true)) ?_; wp_walk using AutoSeq1.wpAny_loadPart' hl)
      | (refine wpAny_ite_true (decide_eq_true (by rw [c2])) ?_; wp_walk using AutoSeq1.wpAny_loadPart' hl))
    all_goals exact ⟨_, rfl, hR⟩
/-- tuple * int -/
def rRepA (K : Frag) : R2 := fun x y H Q => ∃ l k xs, x = .ref l ∧ y = .int k ∧ SqT K H l xs ∧ -1000 ≤ k ∧ k ≤ 1000 ∧ xs.length ≤ 1000 ∧
  ((xs = [] ∨ k = 1) → Q (.ref l) H) ∧ (xs ≠ [] → k ≠ 1 → ∀ p, H p = none → Q (.ref p) (upd H p (.tup (List.replicate k.toNat xs).flatten)))
theorem op_repA {X : Cx} : OpR X (binaryOp .Mult) (rRepA X.K) := by
  intro pins s σ H x y v u Q I rx ry h
  obtain ⟨l, k, xs, rfl, rfl, hT, h0, h1, hz, q1, q2⟩ := h
  by_cases big : xs ≠ [] ∧ 2 ≤ k
  · exact op_repT pins s σ H _ _ v u Q I rx ry ⟨l, k, xs, rfl, rfl, hT, big.1, big.2, h1, hz, q2 big.1 (by omega)⟩
  cases rx
  obtain ⟨t, rfl⟩ := ry
  obtain ⟨its, r, ⟨⟨cls, dd, data, sl⟩, ho, hc, n, hd⟩, hs⟩ := I.tuple hT
  simp only at hc hd
  subst hc hd
  have hle : its.length = xs.length := r.length.symm
  have he : its.toArray.isEmpty = xs.isEmpty := by
    cases r <;> rfl
  have c0 : (decide (k < -(2 ^ 63)) || decide (k ≥ 2 ^ 63)) = false := by
    rw [decide_eq_false (by omega), decide_eq_false (by omega)] <;> rfl
  by_cases c : xs = [] ∨ k = 1
  · have c1 : (its.toArray.isEmpty || k == 1) = true := by
      rw [he]
      rcases c with c | c
      · rw [c]; rfl
      · rw [c]; simp
    exact wpAny_binaryOp_repeat_ref (T := "tuple") (U := "int") (by decide) ⟨_, ho, rfl⟩ (fun s' => typeIs_int s' k t) noFill_tuple_mul F.fills_int_mul F.slot_int_rmul repeat_tuple F.slot_int_index.lookup
      (call_meets F.slot_int_rmul (typeIs_int s k t) F.entry_int_rmul (F.args_int_rmul_2 _ _) (int_rmul_tuple k t l its.toArray n dd sl)
        ⟨ho, rfl, ⟨_, ho, rfl⟩, call_meets F.slot_tuple_mul ⟨_, ho, rfl⟩ F.entry_tuple_mul (F.args_tuple_mul_2 _ _) (tmul_same l its.toArray n dd sl k t c0 c1) ⟨ho, ⟨.ref l, H, I, rfl, q1 c⟩⟩⟩)
  · have cx : xs ≠ [] := fun e => c (.inl e)
    have ck : k ≠ 1 := fun e => c (.inr e)
    have k0 : k ≤ 0 := by
      rcases Int.lt_or_le k 2 with z | z
      · omega
      · exact absurd ⟨cx, z⟩ big
    have c1 : (its.toArray.isEmpty || k == 1) = false := by
      rw [he]
      cases xs with
      | nil => exact absurd rfl cx
      | cons a b => exact (show (k == 1) = false from beq_eq_false_iff_ne.mpr ck)
    have c2 : (decide (k ≤ 0) || its.toArray.isEmpty) = true := by rw [decide_eq_true k0]; rfl
    refine wpAny_binaryOp_repeat_ref (T := "tuple") (U := "int") (by decide) ⟨_, ho, rfl⟩ (fun s' => typeIs_int s' k t) noFill_tuple_mul F.fills_int_mul F.slot_int_rmul repeat_tuple F.slot_int_index.lookup
      (call_meets F.slot_int_rmul (typeIs_int s k t) F.entry_int_rmul (F.args_int_rmul_2 _ _) (int_rmul_tuple k t l its.toArray n dd sl)
        ⟨ho, rfl, ⟨_, ho, rfl⟩, call_meets F.slot_tuple_mul ⟨_, ho, rfl⟩ F.entry_tuple_mul (F.args_tuple_mul_2 _ _) (tmul_none l its.toArray n dd sl k t c0 c1 c2) ⟨ho, ?_⟩⟩)
    have kz : k.toNat = 0 := by omega
    refine ⟨.ref s.heap.objs.size, _, I.laid (t' := s.toks) (o := .tup (List.replicate k.toNat xs).flatten) (fun b ob q => Heap.get?_push_of_some _ q) (Nat.le_refl _) ?_, rfl, q2 cx ck _ (I.hok.fresh (Nat.le_refl _))⟩
    rw [kz]
    exact ⟨Nat.zero_le _, [], .nil, IsTup.new _ _⟩
/-! ### // by any divisor that is small enough; x in a tuple of data -/
theorem op_fdivA {X : Cx} : OpR X (binaryOp .FloorDiv) (rI (fun _ j => j ≠ 0 ∧ j.natAbs.log2 < 9000) fun i j => .int (i.fdiv j)) := opI fun _ _ _ _ _ _ _ hc q => floordiv_int hc.1 q (.inl (PyProof.noPylong_of_log2 hc.2))
def rInT (K : Frag) (neg : Bool) : R2 := fun x y H Q => ∃ d ds, Dp K H x d ∧ Dp K H y (.tuple ds) ∧ SeqAt.shaped d = true ∧ SeqAt.shaped (.list ds) = true ∧ Q (.bl (if neg then !(ds.any fun z => PyData.eqv z d) else ds.any fun z => PyData.eqv z d)) H
theorem lay_tup {ds : List PyData} (h : SeqAt.shaped (.list ds) = true) : PyData.canLayAll0 ds = true := by
  have := SeqAt.canLay_of_shaped h
  simpa [PyData.canLay0] using this
theorem op_inT {X : Cx} (hu : X.A.units + 65 < cLine) : OpR X (compareOp .In) (rInT X.K false) := by
  intro pins s σ H x y v u Q I rx ry ⟨d, ds, hd, he, sd, se, q⟩
  obtain ⟨as, r1⟩ := Dp.reads I d x v hd rx
  obtain ⟨bs, r2⟩ := Dp.reads I (.tuple ds) y u he ry
  exact SeqAt.in_tuple_reads r2 r1 (lay_tup se) (SeqAt.canLay_of_shaped sd) (room_in_shaped sd hu) ⟨.bl _, H, I, rfl, q⟩
theorem op_ninT {X : Cx} (hu : X.A.units + 65 < cLine) : OpR X (compareOp .NotIn) (rInT X.K true) := by
  intro pins s σ H x y v u Q I rx ry ⟨d, ds, hd, he, sd, se, q⟩
  obtain ⟨as, r1⟩ := Dp.reads I d x v hd rx
  obtain ⟨bs, r2⟩ := Dp.reads I (.tuple ds) y u he ry
  exact SeqAt.notIn_tuple_reads r2 r1 (lay_tup se) (SeqAt.canLay_of_shaped sd) (room_in_shaped sd hu) ⟨.bl _, H, I, rfl, q⟩
end PyD

set_option Elab.async false
set_option linter.all false
set_option maxRecDepth 100000
set_option maxHeartbeats 4000000
namespace PyD
open PySem PySem.Spec PyProof.Rows L2
/-! ### t[::-1] of a tuple -/
section
variable {prog : Program} {w : World} {A : Around} {E : Value → Shared → Prop} {s : Shared}
theorem applied_rev {sl : Addr} {vs : Value} {n : Nat} {Q : Int × Int × Nat → Shared → Prop} (hs : s.heap.IsSliceOf sl .none .none vs) (ps : IsPart vs (some (-1)))
    (h : Q ((n : Int) - 1, -1, n) s) : wpAny (model prog w) A (Builtin.Slice.sliceApplied (.ref sl) (pure (n : Int))) Q E s := by
  obtain ⟨os, hos, hcs, hds⟩ := id hs
  cases ps with
  | int i t =>
  unfold Builtin.Slice.sliceApplied Builtin.Slice.sliceFields
  refine wpAny_bind (wpAny_bind (wpAny_field hos hds (x := .none) rfl (wpAny_bind (wpAny_field hos hds (x := .none) rfl (wpAny_bind (wpAny_field hos hds (x := .int (-1) t) rfl (wpAny_pure ?_)))))))
  refine wpAny_bind (HT.slicePart_ (.int (-1) t) ?_)
  show wpAny _ _ (if ((-1 : Int) == 0) = true then _ else _) _ _ s
  rw [if_neg (by decide)]
  refine wpAny_bind (HT.slicePart_ .none (wpAny_bind (HT.slicePart_ .none (wpAny_bind (wpAny_pure ?_)))))
  have e1 : Builtin.Slice.sliceAdjust none none (-1) (n : Int) = ((n : Int) - 1, -1) := rfl
  have e2 : Builtin.Slice.slicePlaces ((n : Int) - 1) (-1) (-1) = n := by
    unfold Builtin.Slice.slicePlaces
    have h1 : ¬ ((-1 : Int) > 0) := by decide
    simp only [h1, if_false]
    by_cases c : (n : Int) - 1 > -1
    · simp only [c, if_true]
      rw [show (- -1 : Int) = 1 by decide, Int.ediv_one]
      omega
    · simp only [c, if_false]
      omega
  show wpAny _ _ (match Builtin.Slice.sliceAdjust none none (-1) (n : Int) with | (lo, hi) => pure (lo, (-1 : Int), Builtin.Slice.slicePlaces lo hi (-1))) _ _ s
  rw [e1]
  show wpAny _ _ (pure ((n : Int) - 1, (-1 : Int), Builtin.Slice.slicePlaces ((n : Int) - 1) (-1) (-1))) _ _ s
  rw [e2]
  exact wpAny_pure h
theorem pick_rev (xs : Array Value) : ((List.range xs.size).filterMap fun (m : Nat) => xs[((xs.size : Int) - 1 + (m : Int) * (-1)).toNat]?).toArray = xs.toList.reverse.toArray := by
  have e : (fun (m : Nat) => xs[((xs.size : Int) - 1 + (m : Int) * (-1)).toNat]?) = (fun k => xs[k]?) ∘ fun m => xs.size - 1 - m := by
    funext m
    have : ((xs.size : Int) - 1 + (m : Int) * (-1)).toNat = xs.size - 1 - m := by omega
    rw [this]; rfl
  rw [e, ← List.filterMap_map, PySem.W.krv_range, List.filterMap_reverse, PySem.W.krv_all]
theorem getItem_tuple_rev {t sl : Addr} {items : Array Value} {vs : Value} {Q : Value → Shared → Prop} (ht : IsTup s.heap t items) (hs : s.heap.IsSliceOf sl .none .none vs) (ps : IsPart vs (some (-1)))
    (h : Q (.ref s.heap.objs.size) { s with heap := s.heap.push { cls := .type "tuple", data := .seq items.toList.reverse.toArray } })
    (hsz : items.size ≤ sizeLine) : wpAny (model prog w) A (getItem (.ref t) (.ref sl)) Q E s := by
  have hok : sizeOk (.seq items.toList.reverse.toArray) := by
    show items.toList.reverse.toArray.size ≤ sizeLine
    rw [List.size_toArray, List.length_reverse, Array.length_toList]
    exact hsz
  obtain ⟨os, hos, hcs, hds⟩ := id hs
  have hTs : s.TypeIs (.ref sl) "slice" := ⟨os, hos, hcs⟩
  unfold getItem
  try with_reducible refine wpAny_holding ?_
  first | refine wpAny_bind (wpAny_pure ?_) | skip
  refine wpAny_bind (wpAny_sequenceKey ht.typeIs (by decide) ?_)
  refine wpAny_bind (wpAny_callSpecial?_slot (name := Str.ofString "__getitem__") ht.typeIs PyProof.Rows.slot_tuple_getitem
    (wpAny_call_entry PyProof.Rows.slot_tuple_getitem ht.typeIs entry_tuple_getitem ?_ (args_tuple_getitem _ _)))
  show wpAny _ _ (Builtin.Tuple.tupleItemsOf (.ref t) >>= _) _ _ s
  refine wpAny_bind (tupleItemsOf_ ht ?_)
  refine wpAny_bind (wpAny_typeOf hTs ?_)
  rw [if_pos (by decide)]
  refine wpAny_bind (applied_rev hs ps ?_)
  show wpAny _ _ (if (((items.size : Int) - 1) == 0 && (-1 : Int) == 1 && items.size == items.size) = true then _ else _) _ _ s
  rw [if_neg (by rw [show ((-1 : Int) == 1) = false from rfl, Bool.and_false, Bool.false_and]; decide), pick_rev]
  first
    | exact wpAny_bind (m := Builtin.Tuple.tupleExact _) (wpAny_newObj_type (wpAny_pure ⟨_, rfl, wpAny_pure h⟩) hok)
    | exact wpAny_bind (m := Builtin.Tuple.tupleExact _) (wpAny_newObj_type (wpAny_bind (wpAny_pure (wpAny_pure ⟨_, rfl, wpAny_pure h⟩))) hok)
    | exact wpAny_bind (wpAny_bind (m := Builtin.Tuple.tupleExact _) (wpAny_newObj_type (wpAny_pure (wpAny_pure ⟨_, rfl, wpAny_pure h⟩)) hok))
    | exact wpAny_bind (wpAny_bind (m := Builtin.Tuple.tupleExact _) (wpAny_newObj_type (wpAny_pure ⟨_, rfl, wpAny_pure h⟩) hok))
end
/-- xs[::-1], a list or a tuple -/
def tRevA (K : Frag) (te : TE) : TE := fun σ H Q => te σ H fun x H1 => ∃ a xs, x = .ref a ∧ ((SqL K H1 a xs ∧ ∀ p, H1 p = none → Q (.ref p) (upd H1 p (.lst xs.reverse))) ∨ (SqT K H1 a xs ∧ ∀ p, H1 p = none → Q (.ref p) (upd H1 p (.tup xs.reverse))))
theorem pe_revA {X : Cx} {e : Expr} {te : TE} {k : Nat} {p1 p2 p3 pos : Pos} (he : PE X e te) : PE X (.Subscript e (.Slice none none (some (.UnaryOp .USub (.Constant (.int 1) k p1) p2)) p3) pos) (tRevA X.K te) := by
  refine ⟨fun pins s σ H Q I h => ?_⟩
  refine Subscript_ (thn (he.run pins s σ H _ I h) fun v s1 ⟨x, H1, I1, r1, q1⟩ => ?_)
  obtain ⟨a, xs, ex, q⟩ := q1
  subst ex
  cases r1
  have hst : PO X (some (.UnaryOp .USub (.Constant (.int 1) k p1) p2)) (tPart (tUn (rU fun i => .int (-i)) (tC (.int 1)))) := po_some (pe_un un_neg pe_int)
  refine wpAny_Slice (thn (po_none.run pins s1 σ H1 (fun o H2 => o = none ∧ H2 = H1) I1 ⟨rfl, rfl⟩) fun vl s2 ⟨l, H2, I2, pl, el, e2⟩ => ?_)
  subst el e2
  refine thn (po_none.run pins s2 σ H2 (fun o H3 => o = none ∧ H3 = H2) I2 ⟨rfl, rfl⟩) fun vu s3 ⟨u, H3, I3, pu, eu, e3⟩ => ?_
  subst eu e3
  refine thn (hst.run pins s3 σ H3 (fun o H4 => o = some (-1) ∧ H4 = H3) I3 ⟨1, rfl, -1, rfl, rfl, rfl⟩) fun vs s4 ⟨o, H4, I4, ps, eo, e4⟩ => ?_
  subst eo e4
  have I5 : Inv X pins σ H4 { s4 with heap := s4.heap.push { cls := .type "slice", data := .fields #[vl, vu, vs] } } := I4.kept (t' := s4.toks) fun b ob q => Heap.get?_push_of_some _ q
  show wpAny (model X.prog X.w) X.A (subscriptTail e (.Slice none none (some (.UnaryOp .USub (.Constant (.int 1) k p1) p2)) p3) (.ref a) (.ref s4.heap.objs.size)) (EP X pins σ Q) X.xe { s4 with heap := s4.heap.push { cls := .type "slice", data := .fields #[vl, vu, vs] } }
  rcases q with ⟨hx, q⟩ | ⟨hx, q⟩
  · obtain ⟨its, r, ht, hz⟩ := I5.list hx
    have hlen := r.length
    refine tail_any (ops := [.ref a, .ref s4.heap.objs.size]) ht.isList.typeIs (PySem.slot_list_getitem.lookup) ?_ (by with_unfolding_all rfl)
    refine wpAny_getItem_list_slice ht.isList (Heap.IsSliceOf.new _ vl vu vs) pl pu ps (by decide) ?_ (by rw [List.size_toArray]; omega)
    rw [PySem.W.krv_pick]
    refine ⟨.ref _, _, I5.laid (t' := s4.toks) (o := .lst xs.reverse) (fun b ob q => Heap.get?_push_of_some _ q) (Nat.le_refl _) ?_, rfl, q _ (I5.hok.fresh (Nat.le_refl _))⟩
    exact ⟨by rw [List.length_reverse]; exact hz, _, 0, r.reverse, Heap.get?_push_size _ rfl⟩
  · obtain ⟨its, r, ht, hz⟩ := I5.tuple hx
    have hlen := r.length
    refine tail_any (ops := [.ref a, .ref s4.heap.objs.size]) ht.typeIs (PyProof.Rows.slot_tuple_getitem.lookup) ?_ (by with_unfolding_all rfl)
    cases pl
    cases pu
    refine getItem_tuple_rev ht (Heap.IsSliceOf.new _ _ _ vs) ps ?_ (by rw [List.size_toArray]; omega)
    refine ⟨.ref _, _, I5.laid (t' := s4.toks) (o := .tup xs.reverse) (fun b ob q => Heap.get?_push_of_some _ q) (Nat.le_refl _) ?_, rfl, q _ (I5.hok.fresh (Nat.le_refl _))⟩
    exact ⟨by rw [List.length_reverse]; exact hz, _, r.reverse, IsTup.new _ _⟩
end PyD

set_option Elab.async false
set_option linter.all false
set_option maxRecDepth 100000
/-! PyD, part 5: each kind of expression. -/
namespace PyD
open PySem PySem.Spec PyProof.Rows L2
section
variable {X : Cx} {K : Frag} {F F' : Nat → Addr} {G G' H H' : Hp} {S S' : Store} {a b c e : Expr} {pos : Pos} {ma mb mc : Env → Store → Option (D × Store)} {mt : Env → Store → Option (Bool × Store)}
theorem rd_toB {m : Env → Store → Option (D × Store)} (p : PE X e (rd X.K m)) : PE X e (rdB X.K m) := p.imp fun σ H Q ⟨F, G, S, ρ, w, re, d, S', em, q⟩ => ⟨F, G, S, ρ, w, re, d, S', em, fun v F' G' H' x w' r => q v F' G' H' x w' (.inl r)⟩
theorem rd_of_rdF {m : Env → Store → Option (D × Store)} (p : PE X e (rdF X.K m)) : PE X e (rd X.K m) := p.imp fun σ H Q ⟨F, G, S, ρ, w, re, d, S', em, q⟩ => by
  refine ⟨F, G, S, ρ, w, re, d, S', em, fun v F' G' H' x w' ⟨a, vs, xs, e1, e2, n1, n2, h1, hl, r⟩ => ?_⟩
  subst e1 e2
  refine q (.ref a) F' (upd G' a (.lst vs)) H' ⟨x.le, x.eqF, fun b o h => sub_upd n2 b o (x.subG b o h), x.keep, fun b h h2 => ?_, x.newF⟩ (w'.frz h1 n2 hl) (.lst upd_same (r.mono (fun _ _ => rfl) (Nat.le_refl _) (sub_upd n2)))
  by_cases z : b = a
  · rw [z]; exact n1
  · rw [upd_ne z] at h2; exact x.newG b h h2
/-! ### constants, names -/
theorem n_int {i j} : PE X (.Constant (.int i) j pos) (rd X.K fun _ S => some (.int i, S)) := pe_int.imp fun σ H Q ⟨F, G, S, ρ, w, re, d, S', em, q⟩ => by cases em; exact q _ F G H .refl w (.int i)
theorem n_bool {i j} : PE X (.Constant (.bool i) j pos) (rd X.K fun _ S => some (.bool i, S)) := pe_bl.imp fun σ H Q ⟨F, G, S, ρ, w, re, d, S', em, q⟩ => by cases em; exact q _ F G H .refl w (.bl i)
theorem n_none {j} : PE X (.Constant .none j pos) (rd X.K fun _ S => some (.none, S)) := pe_non.imp fun σ H Q ⟨F, G, S, ρ, w, re, d, S', em, q⟩ => by cases em; exact q _ F G H .refl w .non
theorem n_str {i j} : PE X (.Constant (.str i) j pos) (rd X.K fun _ S => some (.str i, S)) := pe_str.imp fun σ H Q ⟨F, G, S, ρ, w, re, d, S', em, q⟩ => by cases em; exact q _ F G H .refl w (.str i)
theorem get_some {ρ : Env} {i : Nat} {d : D} (h : get ρ i = some d) : ρ[i]? = some (.val d) := by
  unfold get at h
  split at h
  · rename_i e; cases h; exact e
  · cases h
theorem getB_some {ρ : Env} {i : Nat} {d : D} (h : getB ρ i = some d) : ρ[i]? = some (.val d) ∨ ∃ xs, d = .list xs ∧ ρ[i]? = some (.own xs) := by
  unfold getB at h
  split at h
  · rename_i e; cases h; exact .inl e
  · rename_i e; cases h; exact .inr ⟨_, rfl, e⟩
  · cases h
theorem map_some {α β : Type} {x : Option α} {f : α → β} {r : β} (h : x.map f = some r) : ∃ a, x = some a ∧ f a = r := by
  cases x with
  | none => cases h
  | some a => exact ⟨a, rfl, Option.some.inj h⟩
theorem n_var {i : Nat} {x : Str} (hN : X.N[i]? = some x) (hv : Vis X.env.scope x) (hd : (x == ("__debug__" : Str)) = false) (hcd : (x == ("__classdict__" : Str)) = false) : PE X (.Name x pos) (rd X.K fun ρ S => (get ρ i).map (·, S)) :=
  (pe_var hN hv hd hcd).imp fun σ H Q ⟨F, G, S, ρ, w, re, d, S', em, q⟩ => by
    obtain ⟨d', eg, er⟩ := map_some em
    cases er
    obtain ⟨v, e1, r⟩ := re.val i d (get_some eg)
    exact ⟨v, e1, q v F G H .refl w r⟩
theorem n_bor {i : Nat} {x : Str} (hN : X.N[i]? = some x) (hv : Vis X.env.scope x) (hd : (x == ("__debug__" : Str)) = false) (hcd : (x == ("__classdict__" : Str)) = false) : PE X (.Name x pos) (rdB X.K fun ρ S => (getB ρ i).map (·, S)) :=
  (pe_var hN hv hd hcd).imp fun σ H Q ⟨F, G, S, ρ, w, re, d, S', em, q⟩ => by
    obtain ⟨d', eg, er⟩ := map_some em
    cases er
    rcases getB_some eg with e1 | ⟨xs, e1, e2⟩
    · obtain ⟨v, e1, r⟩ := re.val i d e1
      exact ⟨v, e1, q v F G H .refl w (.inl r)⟩
    · subst e1
      obtain ⟨a, vs, h1, h2, h3, h4, h5⟩ := re.own i xs e2
      exact ⟨_, h1, q _ F G H .refl w (.inr ⟨a, vs, xs, rfl, rfl, h2, h3, h4, h5⟩)⟩
theorem n_glo {x : Str} {v : V} {u : Value} {d : D} (hg : Gl X x) (hm : X.mg x = some u) (r : RelV v u) (hr : ∀ F N G, Rv X.K F N G v d) (hd : (x == ("__debug__" : Str)) = false) : PE X (.Name x pos) (rd X.K fun _ S => some (d, S)) :=
  (pe_glob hg hm r hd).imp fun σ H Q ⟨F, G, S, ρ, w, re, d, S', em, q⟩ => by cases em; exact q _ F G H .refl w (hr _ _ _)
/-! ### two operands -/
/-- what is kept of an operation's answer z -/
abbrev Kp (K : Frag) (F : Nat → Addr) (G H : Hp) (S : Store) (z : D) (Q : VK) : Prop := ∀ v F' G' H', Ext F G H S.length F' G' H' S.length → Wd K F' G' H' S → Rv K F' S.length G' v z → Q v H'
abbrev Kf (K : Frag) (F : Nat → Addr) (G H : Hp) (S : Store) (z : D) (Q : VK) : Prop := ∀ v F' G' H', Ext F G H S.length F' G' H' S.length → Wd K F' G' H' S → (∃ a vs xs, v = .ref a ∧ z = .list xs ∧ H a = none ∧ G' a = none ∧ H' a = some (.lst vs) ∧ (∀ i, i < S.length → a ≠ F' i) ∧ Rvs K F' S.length G' vs xs) → Q v H'
def OpG (K : Frag) (r : R2) (g : D → D → Option D) : Prop := ∀ F G H S v1 v2 x y z Q, Wd K F G H S → Rb K F S.length G H v1 x → Rb K F S.length G H v2 y → g x y = some z → Kp K F G H S z Q → r v1 v2 H Q
def OpF (K : Frag) (r : R2) (g : D → D → Option D) : Prop := ∀ F G H S v1 v2 x y z Q, Wd K F G H S → Rb K F S.length G H v1 x → Rb K F S.length G H v2 y → g x y = some z → Kf K F G H S z Q → r v1 v2 H Q
def CmpG (K : Frag) (r : R2) (g : D → D → Option Bool) : Prop := ∀ F G H S v1 v2 x y z Q, Wd K F G H S → Rb K F S.length G H v1 x → Rb K F S.length G H v2 y → g x y = some z → Q (.bl z) H → r v1 v2 H Q
abbrev m2 {α : Type} (ma mb : Env → Store → Option (D × Store)) (g : D → D → Option α) : Env → Store → Option (α × Store) := fun ρ S => bnd (ma ρ S) fun x S => bnd (mb ρ S) fun y S => (g x y).map (·, S)
theorem m2_some {α : Type} {g : D → D → Option α} {ρ : Env} {r : α × Store} (h : m2 ma mb g ρ S = some r) : ∃ x S1 y S2 z, ma ρ S = some (x, S1) ∧ mb ρ S1 = some (y, S2) ∧ g x y = some z ∧ r = (z, S2) := by
  obtain ⟨x, S1, e1, h⟩ := bnd_some h
  obtain ⟨y, S2, e2, h⟩ := bnd_some h
  obtain ⟨z, e3, h⟩ := map_some h
  exact ⟨x, S1, y, S2, z, e1, e2, e3, h.symm⟩
/-- the two operands are there -/
theorem two {α : Type} {R : V → V → Hp → Prop} {σ : L2.St} {g : D → D → Option α} {ρ : Env} {z : α} (w : Wd K F G H S) (re : RE K F S.length G H σ ρ) (h : m2 ma mb g ρ S = some (z, S'))
    (k : ∀ v1 v2 x y F' G' H', Ext F G H S.length F' G' H' S'.length → Wd K F' G' H' S' → RE K F' S'.length G' H' σ ρ → Rb K F' S'.length G' H' v1 x → Rb K F' S'.length G' H' v2 y → g x y = some z → R v1 v2 H') :
    rdB K ma σ H fun v1 H1 => rdB K mb σ H1 fun v2 H2 => R v1 v2 H2 := by
  obtain ⟨x, S1, y, S2, z', e1, e2, e3, e4⟩ := m2_some h
  cases e4
  refine ⟨F, G, S, ρ, w, re, x, S1, e1, fun v1 F1 G1 H1 x1 w1 r1 => ⟨F1, G1, S1, ρ, w1, re.ext x1, y, S', e2, fun v2 F2 G2 H2 x2 w2 r2 => ?_⟩⟩
  exact k v1 v2 x y F2 G2 H2 (x1.trans w1 x2) w2 (re.ext (x1.trans w1 x2)) (r1.ext x2) r2 e3
theorem n_op {op : Operator} {r : R2} {g : D → D → Option D} (ho : OpR X (binaryOp op) r) (pa : PE X a (rdB X.K ma)) (pb : PE X b (rdB X.K mb)) (hr : OpG X.K r g) : PE X (.BinOp a op b pos) (rd X.K (m2 ma mb g)) :=
  (pe_op ho pa pb).imp fun σ H Q ⟨F, G, S, ρ, w, re, d, S', em, q⟩ => two w re em fun v1 v2 x y F' G' H' xt w' re' r1 r2 eg =>
    hr F' G' H' S' v1 v2 x y d Q w' r1 r2 eg fun v F2 G2 H2 x2 w2 r => q v F2 G2 H2 (xt.trans w' x2) w2 r
theorem n_opF {op : Operator} {r : R2} {g : D → D → Option D} (ho : OpR X (binaryOp op) r) (pa : PE X a (rdB X.K ma)) (pb : PE X b (rdB X.K mb)) (hr : OpF X.K r g) : PE X (.BinOp a op b pos) (rdF X.K (m2 ma mb g)) :=
  (pe_op ho pa pb).imp fun σ H Q ⟨F, G, S, ρ, w, re, d, S', em, q⟩ => two w re em fun v1 v2 x y F' G' H' xt w' re' r1 r2 eg =>
    hr F' G' H' S' v1 v2 x y d Q w' r1 r2 eg fun v F2 G2 H2 x2 w2 ⟨a, vs, xs, e1, e2, n1, r⟩ => q v F2 G2 H2 (xt.trans w' x2) w2 ⟨a, vs, xs, e1, e2, by
      cases c : H a with
      | none => rfl
      | some o => exact absurd n1 (xt.there w' rfl c), r⟩
theorem n_cmp {op : CmpOp} {r : R2} {g : D → D → Option Bool} (ho : OpR X (compareOp op) r) (pa : PE X a (rdB X.K ma)) (pb : PE X b (rdB X.K mb)) (hm : behindInMarks op b = false) (hr : CmpG X.K r g) :
    PE X (.Compare a [op] [b] pos) (rd X.K fun ρ S => bnd (ma ρ S) fun x S => bnd (mb ρ S) fun y S => (g x y).map fun c => (.bool c, S)) :=
  (pe_cmpR ho pa pb hm).imp fun σ H Q ⟨F, G, S, ρ, w, re, d, S', em, q⟩ => by
    obtain ⟨x, S1, e1, h⟩ := bnd_some em
    obtain ⟨y, S2, e2, h⟩ := bnd_some h
    obtain ⟨z, e3, h⟩ := map_some h
    cases h
    exact two (g := g) (z := z) (S' := S') w re (by unfold m2 bnd; rw [e1]; simp only; rw [e2]; simp only; rw [e3]; rfl) fun v1 v2 x y F' G' H' xt w' re' r1 r2 eg =>
      hr F' G' H' S' v1 v2 x y z Q w' r1 r2 eg (q _ F' G' H' xt w' (.bl z))
theorem t_cmp {op : CmpOp} {r : R2} {g : D → D → Option Bool} (ho : OpR X (compareOp op) r) (pa : PE X a (rdB X.K ma)) (pb : PE X b (rdB X.K mb)) (hm : behindInMarks op b = false) (hr : CmpG X.K r g) :
    PT X (.Compare a [op] [b] pos) (rdT X.K (m2 ma mb g)) :=
  (pt_cmpR ho pa pb hm).imp fun σ H Q ⟨F, G, S, ρ, w, re, d, S', em, q⟩ => two w re em fun v1 v2 x y F' G' H' xt w' re' r1 r2 eg =>
    hr F' G' H' S' v1 v2 x y d _ w' r1 r2 eg ⟨d, rfl, q _ F' G' H' xt w' rfl⟩
theorem three {σ : L2.St} {ρ : Env} {r r' : R2} {g g' : D → D → Option Bool} {z : Bool} {Q : VK} (hr : CmpG K r g) (hr' : CmpG K r' g') (w : Wd K F G H S) (re : RE K F S.length G H σ ρ)
    (em : (bnd (ma ρ S) fun x S => bnd (mb ρ S) fun y S => (match g x y with
      | some true => bnd (mc ρ S) fun z S => (g' y z).map (·, S)
      | some false => some (false, S)
      | none => none)) = some (z, S')) (q : ∀ F' G' H', Ext F G H S.length F' G' H' S'.length → Wd K F' G' H' S' → Q (.bl z) H') : tChain r r' (rdB K ma) (rdB K mb) (rdB K mc) σ H Q := by
  obtain ⟨x, S1, e1, h⟩ := bnd_some em
  obtain ⟨y, S2, e2, h⟩ := bnd_some h
  refine ⟨F, G, S, ρ, w, re, x, S1, e1, fun v1 F1 G1 H1 x1 w1 r1 => ⟨F1, G1, S1, ρ, w1, re.ext x1, y, S2, e2, fun v2 F2 G2 H2 x2 w2 r2 => ?_⟩⟩
  have x12 := x1.trans w1 x2
  cases eg : g x y with
  | none => rw [eg] at h; cases h
  | some t =>
    rw [eg] at h
    refine hr F2 G2 H2 S2 v1 v2 x y t _ w2 (r1.ext x2) r2 eg ⟨t, rfl, ?_⟩
    cases t with
    | false =>
      cases h
      rw [if_neg Bool.false_ne_true]
      exact q F2 G2 H2 x12 w2
    | true =>
      rw [if_pos rfl]
      obtain ⟨u, S3, e4, h⟩ := bnd_some h
      obtain ⟨t', e5, h⟩ := map_some h
      cases h
      refine ⟨F2, G2, S2, ρ, w2, re.ext x12, u, S', e4, fun v3 F3 G3 H3 x3 w3 r3 => ?_⟩
      exact hr' F3 G3 H3 S' v2 v3 y u z Q w3 (r2.ext x3) r3 e5 (q F3 G3 H3 (x12.trans w2 x3) w3)
theorem n_chn {o1 o2 : CmpOp} {r r' : R2} {g g' : D → D → Option Bool} (ho : OpR X (compareOp o1) r) (ho' : OpR X (compareOp o2) r') (pa : PE X a (rdB X.K ma)) (pb : PE X b (rdB X.K mb)) (pc : PE X c (rdB X.K mc)) (hm : lastMarks [o1, o2] [b, c] = false)
    (hr : CmpG X.K r g) (hr' : CmpG X.K r' g') : PE X (.Compare a [o1, o2] [b, c] pos) (rd X.K fun ρ S => bnd (ma ρ S) fun x S => bnd (mb ρ S) fun y S => (match g x y with
      | some true => bnd (mc ρ S) fun z S => (g' y z).map fun c => (.bool c, S)
      | some false => some (.bool false, S)
      | none => none)) :=
  (pe_chain ho ho' pa pb pc hm).imp fun σ H Q ⟨F, G, S, ρ, w, re, d, S', em, q⟩ => by
    have key : ∃ z, d = .bool z ∧ (bnd (ma ρ S) fun x S => bnd (mb ρ S) fun y S => (match g x y with
      | some true => bnd (mc ρ S) fun z S => (g' y z).map (·, S)
      | some false => some (false, S)
      | none => none)) = some (z, S') := by
      obtain ⟨x, S1, e1, h⟩ := bnd_some em
      obtain ⟨y, S2, e2, h⟩ := bnd_some h
      cases eg : g x y with
      | none => rw [eg] at h; cases h
      | some t =>
        rw [eg] at h
        cases t with
        | false => cases h; exact ⟨false, rfl, by unfold bnd; rw [e1]; simp only; rw [e2]; simp only; rw [eg]⟩
        | true =>
          obtain ⟨u, S3, e4, h⟩ := bnd_some h
          obtain ⟨t', e5, h⟩ := map_some h
          cases h
          exact ⟨t', rfl, by unfold bnd; rw [e1]; simp only; rw [e2]; simp only; rw [eg]; simp only; rw [e4]; simp only; rw [e5]; rfl⟩
    obtain ⟨z, rfl, em2⟩ := key
    exact three hr hr' w re em2 fun F' G' H' x' w' => q _ F' G' H' x' w' (.bl z)
theorem t_chn {o1 o2 : CmpOp} {r r' : R2} {g g' : D → D → Option Bool} (ho : OpR X (compareOp o1) r) (ho' : OpR X (compareOp o2) r') (pa : PE X a (rdB X.K ma)) (pb : PE X b (rdB X.K mb)) (pc : PE X c (rdB X.K mc)) (hm : lastMarks [o1, o2] [b, c] = false)
    (hr : CmpG X.K r g) (hr' : CmpG X.K r' g') : PT X (.Compare a [o1, o2] [b, c] pos) (rdT X.K fun ρ S => bnd (ma ρ S) fun x S => bnd (mb ρ S) fun y S => (match g x y with
      | some true => bnd (mc ρ S) fun z S => (g' y z).map (·, S)
      | some false => some (false, S)
      | none => none)) :=
  (pt_chain ho ho' pa pb pc hm).imp fun σ H Q ⟨F, G, S, ρ, w, re, d, S', em, q⟩ => three hr hr' w re em fun F' G' H' x' w' => ⟨d, rfl, q _ F' G' H' x' w' rfl⟩
/-! ### the operations by data -/
theorem lim_some {xs ys : List D} (h : lim xs = some ys) : ys = xs ∧ xs.length ≤ 100000 := by
  unfold lim at h
  split at h
  · rename_i l; cases h; exact ⟨rfl, l⟩
  · cases h
theorem sz {n : Nat} (h : n ≤ 100000) : n ≤ sizeLine := Nat.le_trans h (by rw [sizeLine_eq]; decide)
theorem newL {vs : List V} {xs : List D} {Q : VK} (w : Wd K F G H S) (r : Rvs K F S.length G vs xs) (q : Kp K F G H S (.list xs) Q) (p : Addr) (hp : H p = none) : Q (.ref p) (upd H p (.lst vs)) := by
  obtain ⟨x, _⟩ := Ext.new (o := .lst vs) w hp
  exact q _ F _ _ x (w.new hp) (.lst upd_same (r.ext x))
theorem newT {vs : List V} {xs : List D} {Q : VK} (w : Wd K F G H S) (r : Rvs K F S.length G vs xs) (q : Kp K F G H S (.tuple xs) Q) (p : Addr) (hp : H p = none) : Q (.ref p) (upd H p (.tup vs)) := by
  obtain ⟨x, _⟩ := Ext.new (o := .tup vs) w hp
  exact q _ F _ _ x (w.new hp) (.tup (.inl (.inl upd_same)) (r.ext x))
theorem newLF {vs : List V} {xs : List D} {Q : VK} (w : Wd K F G H S) (r : Rvs K F S.length G vs xs) (q : Kf K F G H S (.list xs) Q) (p : Addr) (hp : H p = none) : Q (.ref p) (upd H p (.lst vs)) := by
  have gp : G p = none := by
    cases c : G p with
    | none => rfl
    | some o => rw [w.sub p o c] at hp; cases hp
  exact q _ F G _ (.newO w hp) (w.newO hp) ⟨p, vs, xs, rfl, rfl, hp, gp, upd_same, fun i hi e => (by
    obtain ⟨_, vs, h, _⟩ := w.loc i _ (List.getElem?_eq_getElem hi)
    rw [← e, hp] at h; cases h), r⟩
def rAddA (K : Frag) : R2 := fun x y H Q => rI0 (fun i j => .int (i + j)) x y H Q ∨ rCat x y H Q ∨ rCatA K x y H Q
theorem o_add : OpR X (binaryOp .Add) (rAddA X.K) := .or op_add (.or op_cat op_catA)
theorem g_add : OpG K (rAddA K) (opB .add) := by
  intro F G H S v1 v2 x y z Q w r1 r2 eg q
  have cs : (∃ i j, x = .int i ∧ y = .int j) ∨ (∃ xs ys, x = .list xs ∧ y = .list ys) ∨ (∃ xs ys, x = .tuple xs ∧ y = .tuple ys) := by
    cases x <;> cases y <;> first | (exact .inl ⟨_, _, rfl, rfl⟩) | (exact .inr (.inl ⟨_, _, rfl, rfl⟩)) | (exact .inr (.inr ⟨_, _, rfl, rfl⟩)) | (cases eg; done)
  rcases cs with ⟨i, j, rfl, rfl⟩ | ⟨xs, ys, rfl, rfl⟩ | ⟨xs, ys, rfl, rfl⟩
  · cases eg
    exact .inl ⟨_, _, r1.int, r2.int, q _ F G H .refl w (.int _)⟩
  · obtain ⟨zs, e1, e2⟩ := map_some eg
    obtain ⟨e3, hl⟩ := lim_some e1
    subst e2 e3
    obtain ⟨a, vs, rfl, ha, ra⟩ := r1.list w
    obtain ⟨b, us, rfl, hb, rb⟩ := r2.list w
    refine .inr (.inl ⟨a, b, vs, us, rfl, rfl, ha, hb, ?_, fun p hp => newL w (ra.append rb) q p hp⟩)
    rw [ra.length, rb.length, ← List.length_append]; exact sz hl
  · obtain ⟨zs, e1, e2⟩ := map_some eg
    obtain ⟨e3, hl⟩ := lim_some e1
    subst e2 e3
    have r1' := r1
    have r2' := r2
    obtain ⟨a, vs, rfl, ha, ra⟩ := r1.tuple w
    obtain ⟨b, us, rfl, hb, rb⟩ := r2.tuple w
    refine .inr (.inr ⟨a, b, vs, us, rfl, rfl, ha, hb, ?_, fun e => ?_, fun _ e => ?_, fun _ _ p hp => newT w (ra.append rb) q p hp⟩)
    · rw [ra.length, rb.length, ← List.length_append]; exact sz hl
    · subst e
      cases ra
      rcases r2' with r | ⟨_, _, _, _, e, _⟩
      · exact q _ F G H .refl w r
      · cases e
    · subst e
      cases rb
      rcases r1' with r | ⟨_, _, _, _, e, _⟩
      · rw [List.append_nil] at q; exact q _ F G H .refl w r
      · cases e
theorem f_add : OpF K rCat (fun x y => match x, y with | .list xs, .list ys => (lim (xs ++ ys)).map .list | _, _ => none) := by
  intro F G H S v1 v2 x y z Q w r1 r2 eg q
  have cs : ∃ xs ys, x = .list xs ∧ y = .list ys := by
    cases x <;> cases y <;> first | (exact ⟨_, _, rfl, rfl⟩) | (cases eg; done)
  obtain ⟨xs, ys, rfl, rfl⟩ := cs
  obtain ⟨zs, e1, e2⟩ := map_some (show (lim (xs ++ ys)).map PyData.list = some z from eg)
  obtain ⟨e3, hl⟩ := lim_some e1
  subst e2 e3
  obtain ⟨a, vs, rfl, ha, ra⟩ := r1.list w
  obtain ⟨b, us, rfl, hb, rb⟩ := r2.list w
  refine ⟨a, b, vs, us, rfl, rfl, ha, hb, ?_, fun p hp => newLF w (ra.append rb) q p hp⟩
  rw [ra.length, rb.length, ← List.length_append]; exact sz hl
theorem o_sub : OpR X (binaryOp .Sub) (rI0 fun i j => .int (i - j)) := op_sub
theorem g_sub : OpG K (rI0 fun i j => .int (i - j)) (opB .sub) := by
  intro F G H S v1 v2 x y z Q w r1 r2 eg q
  have cs : ∃ i j, x = .int i ∧ y = .int j := by
    cases x <;> cases y <;> first | (exact ⟨_, _, rfl, rfl⟩) | (cases eg; done)
  obtain ⟨i, j, rfl, rfl⟩ := cs
  cases eg
  exact ⟨_, _, r1.int, r2.int, q _ F G H .refl w (.int _)⟩
def CMulA (i j : Int) : Prop := CMulW i j ∨ CMul i j
theorem mulOk_of {i j : Int} (h : mulOk i j = true) : CMulA i j := by
  rcases Bool.or_eq_true_iff.mp h with h | h
  · exact .inl (show i.natAbs.log2 + j.natAbs.log2 < 1000000 from of_decide_eq_true h)
  rcases Bool.or_eq_true_iff.mp h with h | h
  · have := of_decide_eq_true h
    exact .inr (.inl (by omega))
  · have := of_decide_eq_true h
    exact .inr (.inr (by omega))
theorem op_mulA : OpR X (binaryOp .Mult) (rI CMulA fun i j => .int (i * j)) := opI fun _ _ _ _ _ _ _ hc q => mul_int q (hc.elim (·.ok) (·.ok))
def rMulA (K : Frag) : R2 := fun x y H Q => rI CMulA (fun i j => .int (i * j)) x y H Q ∨ rRep x y H Q ∨ rRepA K x y H Q
theorem o_mul : OpR X (binaryOp .Mult) (rMulA X.K) := .or op_mulA (.or op_rep op_repA)
theorem repD_some {xs zs : List D} {k : Int} (h : repD xs k = some zs) : k ≤ 1000 ∧ xs.length ≤ 1000 ∧ -1000 ≤ k ∧ zs = (List.replicate k.toNat xs).flatten := by
  unfold repD at h
  split at h
  · rename_i c; cases h; exact ⟨c.1, c.2.1, c.2.2, rfl⟩
  · cases h
theorem rep_sz {n : Nat} {k : Int} (h1 : k ≤ 1000) (h2 : n ≤ 1000) : n * k.toNat ≤ sizeLine := by
  rw [sizeLine_eq]
  have : n * k.toNat ≤ 1000 * 1000 := Nat.mul_le_mul h2 (by omega)
  omega
theorem g_mul : OpG K (rMulA K) (opB .mul) := by
  intro F G H S v1 v2 x y z Q w r1 r2 eg q
  have cs : ∃ j, y = .int j ∧ ((∃ i, x = .int i) ∨ (∃ xs, x = .list xs) ∨ (∃ xs, x = .tuple xs)) := by
    cases x <;> cases y <;> first | (exact ⟨_, rfl, .inl ⟨_, rfl⟩⟩) | (exact ⟨_, rfl, .inr (.inl ⟨_, rfl⟩)⟩) | (exact ⟨_, rfl, .inr (.inr ⟨_, rfl⟩)⟩) | (cases eg; done)
  obtain ⟨j, rfl, ⟨i, rfl⟩ | ⟨xs, rfl⟩ | ⟨xs, rfl⟩⟩ := cs
  · have eg' : (if mulOk i j then some (PyData.int (i * j)) else none) = some z := eg
    split at eg'
    · rename_i c
      cases eg'
      exact .inl ⟨_, _, r1.int, r2.int, mulOk_of c, q _ F G H .refl w (.int _)⟩
    · cases eg'
  · obtain ⟨zs, e1, e2⟩ := map_some (show (repD xs j).map PyData.list = some z from eg)
    obtain ⟨c1, c2, c3, e3⟩ := repD_some e1
    subst e2 e3
    obtain ⟨a, vs, rfl, ha, ra⟩ := r1.list w
    exact .inr (.inl ⟨a, j, vs, rfl, r2.int, ha, by omega, by omega, by rw [ra.length]; exact rep_sz c1 c2, fun p hp => newL w (ra.rep j.toNat) q p hp⟩)
  · obtain ⟨zs, e1, e2⟩ := map_some (show (repD xs j).map PyData.tuple = some z from eg)
    obtain ⟨c1, c2, c3, e3⟩ := repD_some e1
    subst e2 e3
    have r1' := r1
    obtain ⟨a, vs, rfl, ha, ra⟩ := r1.tuple w
    refine .inr (.inr ⟨a, j, vs, rfl, r2.int, ha, c3, c1, by rw [ra.length]; exact c2, fun e => ?_, fun _ _ p hp => newT w (ra.rep j.toNat) q p hp⟩)
    have er : (List.replicate j.toNat xs).flatten = xs := by
      rcases e with e | e
      · subst e; cases ra; simp
      · subst e; simp
    rw [er] at q
    rcases r1' with r | ⟨_, _, _, _, e, _⟩
    · exact q _ F G H .refl w r
    · cases e
theorem f_mul : OpF K rRep (fun x y => match x, y with | .list xs, .int k => (repD xs k).map .list | _, _ => none) := by
  intro F G H S v1 v2 x y z Q w r1 r2 eg q
  have cs : ∃ xs j, x = .list xs ∧ y = .int j := by
    cases x <;> cases y <;> first | (exact ⟨_, _, rfl, rfl⟩) | (cases eg; done)
  obtain ⟨xs, j, rfl, rfl⟩ := cs
  obtain ⟨zs, e1, e2⟩ := map_some (show (repD xs j).map PyData.list = some z from eg)
  obtain ⟨c1, c2, c3, e3⟩ := repD_some e1
  subst e2 e3
  obtain ⟨a, vs, rfl, ha, ra⟩ := r1.list w
  exact ⟨a, j, vs, rfl, r2.int, ha, by omega, by omega, by rw [ra.length]; exact rep_sz c1 c2, fun p hp => newLF w (ra.rep j.toNat) q p hp⟩
theorem o_fdiv : OpR X (binaryOp .FloorDiv) (rI (fun _ j => j ≠ 0 ∧ j.natAbs.log2 < 9000) fun i j => .int (i.fdiv j)) := op_fdivA
theorem g_fdiv : OpG K (rI (fun _ j => j ≠ 0 ∧ j.natAbs.log2 < 9000) fun i j => .int (i.fdiv j)) (opB .fdiv) := by
  intro F G H S v1 v2 x y z Q w r1 r2 eg q
  have cs : ∃ i j, x = .int i ∧ y = .int j := by
    cases x <;> cases y <;> first | (exact ⟨_, _, rfl, rfl⟩) | (cases eg; done)
  obtain ⟨i, j, rfl, rfl⟩ := cs
  have eg' : (if divOk j then some (PyData.int (i.fdiv j)) else none) = some z := eg
  split at eg'
  · rename_i c
    cases eg'
    have c' := Bool.and_eq_true_iff.mp c
    exact ⟨_, _, r1.int, r2.int, ⟨of_decide_eq_true c'.1, of_decide_eq_true c'.2⟩, q _ F G H .refl w (.int _)⟩
  · cases eg'
theorem o_mod : OpR X (binaryOp .Mod) (rI (fun _ j => j ≠ 0) fun i j => .int (i.fmod j)) := op_modN
theorem g_mod : OpG K (rI (fun _ j => j ≠ 0) fun i j => .int (i.fmod j)) (opB .mod) := by
  intro F G H S v1 v2 x y z Q w r1 r2 eg q
  have cs : ∃ i j, x = .int i ∧ y = .int j := by
    cases x <;> cases y <;> first | (exact ⟨_, _, rfl, rfl⟩) | (cases eg; done)
  obtain ⟨i, j, rfl, rfl⟩ := cs
  have eg' : (if j ≠ 0 then some (PyData.int (i.fmod j)) else none) = some z := eg
  split at eg'
  · rename_i c
    cases eg'
    exact ⟨_, _, r1.int, r2.int, c, q _ F G H .refl w (.int _)⟩
  · cases eg'
theorem o_pow : OpR X (binaryOp .Pow) (rI CPow fun i j => .int (i ^ j.toNat)) := op_pow
theorem g_pow : OpG K (rI CPow fun i j => .int (i ^ j.toNat)) (opB .pow) := by
  intro F G H S v1 v2 x y z Q w r1 r2 eg q
  have cs : ∃ i j, x = .int i ∧ y = .int j := by
    cases x <;> cases y <;> first | (exact ⟨_, _, rfl, rfl⟩) | (cases eg; done)
  obtain ⟨i, j, rfl, rfl⟩ := cs
  have eg' : (if powOk i j then some (PyData.int (i ^ j.toNat)) else none) = some z := eg
  split at eg'
  · rename_i c
    cases eg'
    have c' := Bool.and_eq_true_iff.mp c
    have c2 := Bool.and_eq_true_iff.mp c'.1
    have a1 := of_decide_eq_true c2.1
    have a2 := of_decide_eq_true c2.2
    exact ⟨_, _, r1.int, r2.int, ⟨a1, by omega, of_decide_eq_true c'.2⟩, q _ F G H .refl w (.int _)⟩
  · cases eg'
/-! ### comparisons by data -/
theorem eqD_some {x y : D} {z : Bool} (h : eqD x y = some z) : SeqAt.shaped x = true ∧ SeqAt.shaped y = true ∧ z = PyData.eqv x y := by
  unfold eqD at h
  split at h
  · rename_i c; cases h
    have c' := Bool.and_eq_true_iff.mp c
    exact ⟨c'.1, c'.2, rfl⟩
  · cases h
theorem c_eq : CmpG K (rEqD K) (opC .eq) := by
  intro F G H S v1 v2 x y z Q w r1 r2 eg q
  obtain ⟨s1, s2, e⟩ := eqD_some (show eqD x y = some z by cases x <;> cases y <;> exact eg)
  subst e
  exact ⟨x, y, r1.dp w s1, r2.dp w s2, s1, s2, q⟩
theorem c_ne : CmpG K (rNeD K) (opC .ne) := by
  intro F G H S v1 v2 x y z Q w r1 r2 eg q
  obtain ⟨t, e1, e2⟩ := map_some (show (eqD x y).map not = some z by cases x <;> cases y <;> exact eg)
  obtain ⟨s1, s2, e⟩ := eqD_some e1
  subst e e2
  exact ⟨x, y, r1.dp w s1, r2.dp w s2, s1, s2, q⟩
theorem c_int {o : Cop} {p : Int → Int → Bool} (h1 : ∀ i j, opC o (.int i) (.int j) = some (p i j)) (h2 : ∀ x y z, opC o x y = some z → ∃ i j, x = .int i ∧ y = .int j) : CmpG K (rI0 fun i j => .bl (p i j)) (opC o) := by
  intro F G H S v1 v2 x y z Q w r1 r2 eg q
  obtain ⟨i, j, rfl, rfl⟩ := h2 x y z eg
  rw [h1] at eg
  cases eg
  exact ⟨_, _, r1.int, r2.int, q⟩
theorem c_lt : CmpG K (rI0 fun i j => .bl (decide (i < j))) (opC .lt) := c_int (fun _ _ => rfl) fun x y z h => by cases x <;> cases y <;> first | exact ⟨_, _, rfl, rfl⟩ | (cases h; done)
theorem c_le : CmpG K (rI0 fun i j => .bl (decide (i ≤ j))) (opC .le) := c_int (fun _ _ => rfl) fun x y z h => by cases x <;> cases y <;> first | exact ⟨_, _, rfl, rfl⟩ | (cases h; done)
theorem c_gt : CmpG K (rI0 fun i j => .bl (decide (j < i))) (opC .gt) := c_int (fun _ _ => rfl) fun x y z h => by cases x <;> cases y <;> first | exact ⟨_, _, rfl, rfl⟩ | (cases h; done)
theorem c_ge : CmpG K (rI0 fun i j => .bl (decide (j ≤ i))) (opC .ge) := c_int (fun _ _ => rfl) fun x y z h => by cases x <;> cases y <;> first | exact ⟨_, _, rfl, rfl⟩ | (cases h; done)
theorem inD_some {x : D} {ys : List D} {z : Bool} (h : inD x ys = some z) : SeqAt.shaped x = true ∧ SeqAt.shaped (.list ys) = true ∧ z = ys.any fun t => PyData.eqv t x := by
  unfold inD at h
  split at h
  · rename_i c; cases h
    have c' := Bool.and_eq_true_iff.mp c
    exact ⟨c'.1, c'.2, rfl⟩
  · cases h
theorem Rb.dpT {v : V} {ys : List D} (w : Wd K F G H S) (r : Rb K F S.length G H v (.tuple ys)) (s : SeqAt.shaped (.list ys) = true) : Dp K H v (.tuple ys) := by
  rcases r with r | ⟨_, _, _, _, e, _⟩
  · exact r.dp w.sub (by rw [PyData.canLay0]; exact lay_tup s)
  · cases e
def rInA (K : Frag) : R2 := fun x y H Q => rInD K x y H Q ∨ rInT K false x y H Q
def rNinA (K : Frag) : R2 := fun x y H Q => rNotInD K x y H Q ∨ rInT K true x y H Q
theorem c_in : CmpG K (rInA K) (opC .inn) := by
  intro F G H S v1 v2 x y z Q w r1 r2 eg q
  have cs : (∃ ys, y = .list ys ∧ inD x ys = some z) ∨ (∃ ys, y = .tuple ys ∧ inD x ys = some z) := by
    cases y <;> first | exact .inl ⟨_, rfl, by cases x <;> exact eg⟩ | exact .inr ⟨_, rfl, by cases x <;> exact eg⟩ | (cases x <;> cases eg; done)
  rcases cs with ⟨ys, rfl, eg⟩ | ⟨ys, rfl, eg⟩
  · obtain ⟨s1, s2, e⟩ := inD_some eg
    subst e
    exact .inl ⟨x, ys, r1.dp w s1, r2.dp w s2, s1, s2, q⟩
  · obtain ⟨s1, s2, e⟩ := inD_some eg
    subst e
    exact .inr ⟨x, ys, r1.dp w s1, r2.dpT w s2, s1, s2, q⟩
theorem c_nin : CmpG K (rNinA K) (opC .nin) := by
  intro F G H S v1 v2 x y z Q w r1 r2 eg q
  have cs : (∃ ys, y = .list ys ∧ (inD x ys).map not = some z) ∨ (∃ ys, y = .tuple ys ∧ (inD x ys).map not = some z) := by
    cases y <;> first | exact .inl ⟨_, rfl, by cases x <;> exact eg⟩ | exact .inr ⟨_, rfl, by cases x <;> exact eg⟩ | (cases x <;> cases eg; done)
  rcases cs with ⟨ys, rfl, eg⟩ | ⟨ys, rfl, eg⟩
  · obtain ⟨t, e1, e2⟩ := map_some eg
    obtain ⟨s1, s2, e⟩ := inD_some e1
    subst e e2
    exact .inl ⟨x, ys, r1.dp w s1, r2.dp w s2, s1, s2, q⟩
  · obtain ⟨t, e1, e2⟩ := map_some eg
    obtain ⟨s1, s2, e⟩ := inD_some e1
    subst e e2
    exact .inr ⟨x, ys, r1.dp w s1, r2.dpT w s2, s1, s2, q⟩
def isNoneD : D → Bool
  | .none => true
  | _ => false
theorem Rb.isNone {v : V} {d : D} (r : Rb K F S.length G H v d) : decide (v = .non) = isNoneD d := by
  rcases r with r | ⟨a, vs, xs, e1, e2, _⟩
  · cases r <;> rfl
  · subst e1 e2; rfl
theorem c_isN : CmpG K (fun x y H Q => y = .non ∧ Q (.bl (decide (x = .non))) H) (opC .isN) := by
  intro F G H S v1 v2 x y z Q w r1 r2 eg q
  have cs : y = .none ∧ z = isNoneD x := by
    cases y <;> first | exact ⟨rfl, by cases x <;> cases eg <;> rfl⟩ | (cases x <;> cases eg; done)
  obtain ⟨rfl, rfl⟩ := cs
  exact ⟨r2.none, by rw [r1.isNone]; exact q⟩
theorem c_notN : CmpG K (fun x y H Q => y = .non ∧ Q (.bl (!decide (x = .non))) H) (opC .notN) := by
  intro F G H S v1 v2 x y z Q w r1 r2 eg q
  have cs : y = .none ∧ z = !isNoneD x := by
    cases y <;> first | exact ⟨rfl, by cases x <;> cases eg <;> rfl⟩ | (cases x <;> cases eg; done)
  obtain ⟨rfl, rfl⟩ := cs
  exact ⟨r2.none, by rw [r1.isNone]; exact q⟩
end
end PyD

set_option Elab.async false
set_option linter.all false
set_option maxRecDepth 100000
/-! PyD, part 6: truth, choice, calls, displays, items, slices. -/
namespace PyD
open PySem PySem.Spec PyProof.Rows L2
def notStar : Expr → Bool
  | .Starred _ _ => false
  | _ => true
theorem star_cons {e : Expr} {es : List Expr} {env : PySem.Env} (h : notStar e = true) : starEach (e :: es) env = (false, eval e env) :: starEach es env := by
  cases e <;> first | rfl | cases h
def noStars : List Expr → Bool
  | [] => true
  | e :: es => notStar e && noStars es
theorem back_any {pos : Pos} {env : PySem.Env} : ∀ {es : List Expr}, noStars es = true → (backTo pos (starEach es env)).any (·.1) = false
  | [], _ => rfl
  | e :: es, h => by
    have h' := Bool.and_eq_true_iff.mp h
    rw [star_cons h'.1]
    exact back_any h'.2
section
variable {X : Cx} {K : Frag} {F F' : Nat → Addr} {G G' H H' : Hp} {S S' : Store} {a b c e : Expr} {pos : Pos} {ma mb mc : Env → Store → Option (D × Store)} {mt ta tb : Env → Store → Option (Bool × Store)}
theorem n_neg (pa : PE X a (rdB X.K ma)) : PE X (.UnaryOp .USub a pos) (rd X.K fun ρ S => bnd (ma ρ S) fun x S => (match x with | .int i => some (.int (-i), S) | _ => none)) :=
  (pe_un un_neg pa).imp fun σ H Q ⟨F, G, S, ρ, w, re, d, S', em, q⟩ => by
    obtain ⟨x, S1, e1, h⟩ := bnd_some em
    refine ⟨F, G, S, ρ, w, re, x, S1, e1, fun v F1 G1 H1 x1 w1 r1 => ?_⟩
    cases x <;> first | cases h | skip
    exact ⟨_, r1.int, q _ F1 G1 H1 x1 w1 (.int _)⟩
theorem n_not (pa : PE X a (rdB X.K ma)) : PE X (.UnaryOp .Not a pos) (rd X.K fun ρ S => bnd (ma ρ S) fun x S => (match x with | .bool b => some (.bool (!b), S) | _ => none)) :=
  (pe_not pa).imp fun σ H Q ⟨F, G, S, ρ, w, re, d, S', em, q⟩ => by
    obtain ⟨x, S1, e1, h⟩ := bnd_some em
    refine ⟨F, G, S, ρ, w, re, x, S1, e1, fun v F1 G1 H1 x1 w1 r1 => ?_⟩
    cases x <;> first | cases h | skip
    exact ⟨_, r1.bool, q _ F1 G1 H1 x1 w1 (.bl _)⟩
theorem t_not (pa : PT X a (rdT X.K ta)) : PT X (.UnaryOp .Not a pos) (rdT X.K fun ρ S => bnd (ta ρ S) fun t S => some (!t, S)) :=
  (pt_not pa).imp fun σ H Q ⟨F, G, S, ρ, w, re, d, S', em, q⟩ => by
    obtain ⟨x, S1, e1, h⟩ := bnd_some em
    cases h
    exact ⟨F, G, S, ρ, w, re, x, S', e1, fun v F1 G1 H1 x1 w1 r1 => by subst r1; exact q _ F1 G1 H1 x1 w1 rfl⟩
theorem n_and {rest : List Expr} (pa : PE X a (rdB X.K ma)) (pb : PE X (.BoolOp .And (b :: rest) pos) (rd X.K mb)) :
    PE X (.BoolOp .And (a :: b :: rest) pos) (rd X.K fun ρ S => bnd (ma ρ S) fun x S => (match x with | .bool true => mb ρ S | .bool false => some (.bool false, S) | _ => none)) :=
  (pe_and pa pb).imp fun σ H Q ⟨F, G, S, ρ, w, re, d, S', em, q⟩ => by
    obtain ⟨x, S1, e1, h⟩ := bnd_some em
    refine ⟨F, G, S, ρ, w, re, x, S1, e1, fun v F1 G1 H1 x1 w1 r1 => ?_⟩
    cases x with
    | bool t =>
      refine ⟨t, r1.bool, ?_⟩
      cases t with
      | true => exact ⟨F1, G1, S1, ρ, w1, re.ext x1, d, S', h, fun v F2 G2 H2 x2 w2 r2 => q v F2 G2 H2 (x1.trans w1 x2) w2 r2⟩
      | false => cases h; exact q _ F1 G1 H1 x1 w1 (.bl _)
    | _ => cases h
theorem n_or {rest : List Expr} (pa : PE X a (rdB X.K ma)) (pb : PE X (.BoolOp .Or (b :: rest) pos) (rd X.K mb)) :
    PE X (.BoolOp .Or (a :: b :: rest) pos) (rd X.K fun ρ S => bnd (ma ρ S) fun x S => (match x with | .bool false => mb ρ S | .bool true => some (.bool true, S) | _ => none)) :=
  (pe_or pa pb).imp fun σ H Q ⟨F, G, S, ρ, w, re, d, S', em, q⟩ => by
    obtain ⟨x, S1, e1, h⟩ := bnd_some em
    refine ⟨F, G, S, ρ, w, re, x, S1, e1, fun v F1 G1 H1 x1 w1 r1 => ?_⟩
    cases x with
    | bool t =>
      refine ⟨t, r1.bool, ?_⟩
      cases t with
      | false => exact ⟨F1, G1, S1, ρ, w1, re.ext x1, d, S', h, fun v F2 G2 H2 x2 w2 r2 => q v F2 G2 H2 (x1.trans w1 x2) w2 r2⟩
      | true => cases h; exact q _ F1 G1 H1 x1 w1 (.bl _)
    | _ => cases h
theorem t_and {rest : List Expr} (pa : PT X a (rdT X.K ta)) (pb : PW X (.BoolOp .And (b :: rest) pos) (rdT X.K tb)) :
    PW X (.BoolOp .And (a :: b :: rest) pos) (rdT X.K fun ρ S => bnd (ta ρ S) fun t S => if t then tb ρ S else some (false, S)) :=
  (pw_and pa pb).imp fun σ H Q ⟨F, G, S, ρ, w, re, d, S', em, q⟩ => by
    obtain ⟨x, S1, e1, h⟩ := bnd_some em
    refine ⟨F, G, S, ρ, w, re, x, S1, e1, fun v F1 G1 H1 x1 w1 r1 => ?_⟩
    subst r1
    cases v with
    | true => exact ⟨F1, G1, S1, ρ, w1, re.ext x1, d, S', h, fun v F2 G2 H2 x2 w2 r2 => q v F2 G2 H2 (x1.trans w1 x2) w2 r2⟩
    | false => cases h; exact q _ F1 G1 H1 x1 w1 rfl
theorem t_or {rest : List Expr} (pa : PT X a (rdT X.K ta)) (pb : PW X (.BoolOp .Or (b :: rest) pos) (rdT X.K tb)) :
    PW X (.BoolOp .Or (a :: b :: rest) pos) (rdT X.K fun ρ S => bnd (ta ρ S) fun t S => if t then some (true, S) else tb ρ S) :=
  (pw_or pa pb).imp fun σ H Q ⟨F, G, S, ρ, w, re, d, S', em, q⟩ => by
    obtain ⟨x, S1, e1, h⟩ := bnd_some em
    refine ⟨F, G, S, ρ, w, re, x, S1, e1, fun v F1 G1 H1 x1 w1 r1 => ?_⟩
    subst r1
    cases v with
    | false => exact ⟨F1, G1, S1, ρ, w1, re.ext x1, d, S', h, fun v F2 G2 H2 x2 w2 r2 => q v F2 G2 H2 (x1.trans w1 x2) w2 r2⟩
    | true => cases h; exact q _ F1 G1 H1 x1 w1 rfl
/-- a value's test, the value a bool -/
theorem t_val (p : PE X e (rd X.K ma)) (he : ∀ whole, isTrue e X.env whole = (do let v ← whole; standAt e.pos; holding [v] (truthy v))) :
    PT X e (rdT X.K fun ρ S => bnd (ma ρ S) fun x S => (match x with | .bool b => some (b, S) | _ => none)) :=
  (pt_val p he).imp fun σ H Q ⟨F, G, S, ρ, w, re, d, S', em, q⟩ => by
    obtain ⟨x, S1, e1, h⟩ := bnd_some em
    refine ⟨F, G, S, ρ, w, re, x, S1, e1, fun v F1 G1 H1 x1 w1 r1 => ?_⟩
    cases x with
    | bool t => cases h; cases r1; exact ⟨_, rfl, q _ F1 G1 H1 x1 w1 rfl⟩
    | _ => cases h
theorem n_ite (pc : PT X c (rdT X.K mt)) (pa : PE X a (rd X.K ma)) (pb : PE X b (rd X.K mb)) :
    PE X (.IfExp c a b pos) (rd X.K fun ρ S => bnd (mt ρ S) fun t S => if t then ma ρ S else mb ρ S) :=
  (pe_ifExp pc pa pb).imp fun σ H Q ⟨F, G, S, ρ, w, re, d, S', em, q⟩ => by
    obtain ⟨x, S1, e1, h⟩ := bnd_some em
    refine ⟨F, G, S, ρ, w, re, x, S1, e1, fun v F1 G1 H1 x1 w1 r1 => ?_⟩
    subst r1
    cases v with
    | true => exact ⟨F1, G1, S1, ρ, w1, re.ext x1, d, S', h, fun v F2 G2 H2 x2 w2 r2 => q v F2 G2 H2 (x1.trans w1 x2) w2 r2⟩
    | false => exact ⟨F1, G1, S1, ρ, w1, re.ext x1, d, S', h, fun v F2 G2 H2 x2 w2 r2 => q v F2 G2 H2 (x1.trans w1 x2) w2 r2⟩
/-! ### arguments, displays -/
theorem a_nil : PA X [] (rdA X.K fun _ S => some ([], S)) := pa_nil.imp fun σ H Q ⟨F, G, S, ρ, w, re, d, S', em, q⟩ => by cases em; exact q _ F G H .refl w .nil
theorem a_cons {es : List Expr} {mr : Env → Store → Option (List D × Store)} (hs : notStar e = true) (pe : PE X e (rd X.K ma)) (pr : PA X es (rdA X.K mr)) : PA X (e :: es) (rdA X.K fun ρ S => bnd (ma ρ S) fun x S => bnd (mr ρ S) fun xs S => some (x :: xs, S)) :=
  (pa_cons pe pr (star_cons hs)).imp fun σ H Q ⟨F, G, S, ρ, w, re, d, S', em, q⟩ => by
    obtain ⟨x, S1, e1, h⟩ := bnd_some em
    obtain ⟨xs, S2, e2, h⟩ := bnd_some h
    cases h
    refine ⟨F, G, S, ρ, w, re, x, S1, e1, fun v F1 G1 H1 x1 w1 r1 => ⟨F1, G1, S1, ρ, w1, re.ext x1, xs, S', e2, fun vs F2 G2 H2 x2 w2 r2 => ?_⟩⟩
    exact q _ F2 G2 H2 (x1.trans w1 x2) w2 (.cons (r1.ext x2) r2)
theorem n_tup {es : List Expr} {k : Nat} {mr : Env → Store → Option (List D × Store)} (pr : PA X es (rdA X.K mr)) : PE X (.Tuple es k pos) (rd X.K fun ρ S => bnd (mr ρ S) fun ds S => (lim ds).map fun ds => (.tuple ds, S)) :=
  (pe_tup pr).imp fun σ H Q ⟨F, G, S, ρ, w, re, d, S', em, q⟩ => by
    obtain ⟨xs, S1, e1, h⟩ := bnd_some em
    obtain ⟨ys, e2, h9⟩ := map_some h
    obtain ⟨e3, hl⟩ := lim_some e2
    clear h
    subst e3
    cases h9
    refine ⟨F, G, S, ρ, w, re, ys, S', e1, fun vs F1 G1 H1 x1 w1 r1 => ⟨by rw [r1.length]; exact sz hl, fun p hp => ?_⟩⟩
    exact newT w1 r1 (fun v F2 G2 H2 x2 w2 r2 => q v F2 G2 H2 (x1.trans w1 x2) w2 r2) p hp
theorem n_lst {es : List Expr} {mr : Env → Store → Option (List D × Store)} (pr : PA X es (rdA X.K mr)) : PE X (.List es pos) (rdF X.K fun ρ S => bnd (mr ρ S) fun ds S => (lim ds).map fun ds => (.list ds, S)) :=
  (pe_lst pr).imp fun σ H Q ⟨F, G, S, ρ, w, re, d, S', em, q⟩ => by
    obtain ⟨xs, S1, e1, h⟩ := bnd_some em
    obtain ⟨ys, e2, h9⟩ := map_some h
    obtain ⟨e3, hl⟩ := lim_some e2
    clear h
    subst e3
    cases h9
    refine ⟨F, G, S, ρ, w, re, ys, S', e1, fun vs F1 G1 H1 x1 w1 r1 => ⟨by rw [r1.length]; exact sz hl, fun p hp => ?_⟩⟩
    refine newLF w1 r1 (fun v F2 G2 H2 x2 w2 ⟨a, us, zs, e1, e2, n1, r⟩ => q v F2 G2 H2 (x1.trans w1 x2) w2 ⟨a, us, zs, e1, e2, ?_, r⟩) p hp
    cases c : H a with
    | none => rfl
    | some o => exact absurd n1 (x1.there w1 rfl c)
/-- a new list becomes a shared one -/
theorem newLoc {vs : List V} {ys : List D} {Q : VK} {S1 : Store} {F1 : Nat → Addr} {G1 H1 : Hp} (w1 : Wd K F1 G1 H1 S1) (r1 : Rvs K F1 S1.length G1 vs ys)
    (q : ∀ v F' G' H', Ext F1 G1 H1 S1.length F' G' H' (S1 ++ [ys]).length → Wd K F' G' H' (S1 ++ [ys]) → Rv K F' (S1 ++ [ys]).length G' v (locD S1.length) → Q v H') (p : Addr) (hp : H1 p = none) : Q (.ref p) (upd H1 p (.lst vs)) := by
  have gp : G1 p = none := by
    cases c : G1 p with
    | none => rfl
    | some o => rw [w1.sub p o c] at hp; cases hp
  let F2 : Nat → Addr := fun i => if i = S1.length then p else F1 i
  have f2 : ∀ i, i < S1.length → F2 i = F1 i := fun i hi => if_neg (by omega)
  have f2n : F2 S1.length = p := if_pos rfl
  have nf : ∀ i, i < S1.length → p ≠ F1 i := fun i hi e => by
    obtain ⟨_, us, h, _⟩ := w1.loc i _ (List.getElem?_eq_getElem hi)
    rw [← e, hp] at h; cases h
  have el : (S1 ++ [ys]).length = S1.length + 1 := by simp
  have x2 : Ext F1 G1 H1 S1.length F2 G1 (upd H1 p (.lst vs)) (S1 ++ [ys]).length := by
    refine ⟨by omega, f2, fun _ _ h => h, fun b o h _ => by rw [upd_ne (ne_of_none h hp)]; exact h, fun b h h2 => absurd h h2, fun i h1 h2 => ?_⟩
    have : i = S1.length := by omega
    subst this
    rw [f2n]; exact hp
  have w2 : Wd K F2 G1 (upd H1 p (.lst vs)) (S1 ++ [ys]) := by
    refine ⟨fun b o h => ?_, fun i j hi hj e => ?_, fun i zs h => ?_⟩
    · have := w1.sub b o h
      rw [upd_ne (ne_of_none this hp)]; exact this
    · by_cases c1 : i < S1.length <;> by_cases c2 : j < S1.length
      · rw [f2 i c1, f2 j c2] at e; exact w1.inj i j c1 c2 e
      · have : j = S1.length := by omega
        subst this
        rw [f2 i c1, f2n] at e; exact absurd e.symm (nf i c1)
      · have : i = S1.length := by omega
        subst this
        rw [f2 j c2, f2n] at e; exact absurd e (nf j c2)
      · omega
    · by_cases c1 : i < S1.length
      · rw [List.getElem?_append_left c1] at h
        obtain ⟨g, us, hu, ru⟩ := w1.loc i zs h
        rw [f2 i c1]
        exact ⟨g, us, by rw [upd_ne (Ne.symm (nf i c1))]; exact hu, ru.ext x2⟩
      · have : i = S1.length := by
          have := (List.getElem?_eq_some_iff.mp h).1; omega
        subst this
        rw [List.getElem?_append_right (Nat.le_refl _), Nat.sub_self] at h
        cases h
        rw [f2n]
        exact ⟨gp, vs, upd_same, r1.ext x2⟩
  refine q (.ref p) F2 G1 _ x2 w2 ?_
  rw [← f2n]
  exact .loc (by omega)
/-- a new shared list -/
theorem n_mkl {es : List Expr} {mr : Env → Store → Option (List D × Store)} (pr : PA X es (rdA X.K mr)) : PE X (.List es pos) (rd X.K fun ρ S => bnd (mr ρ S) fun ds S => (lim ds).map fun ds => (locD S.length, S ++ [ds])) :=
  (pe_lst pr).imp fun σ H Q ⟨F, G, S, ρ, w, re, d, S', em, q⟩ => by
    obtain ⟨xs, S1, e1, h⟩ := bnd_some em
    obtain ⟨ys, e2, h9⟩ := map_some h
    obtain ⟨e3, hl⟩ := lim_some e2
    clear h
    subst e3
    cases h9
    refine ⟨F, G, S, ρ, w, re, ys, S1, e1, fun vs F1 G1 H1 x1 w1 r1 => ⟨by rw [r1.length]; exact sz hl, fun p hp => ?_⟩⟩
    exact newLoc w1 r1 (fun v F2 G2 H2 x2 w2 r2 => q v F2 G2 H2 (x1.trans w1 x2) w2 r2) p hp
/-! ### built-ins of one argument -/
def C1G (K : Frag) (r : List V → Hp → VK → Prop) (g : D → Option D) : Prop := ∀ F G H S v x z Q, Wd K F G H S → Rb K F S.length G H v x → g x = some z → Kp K F G H S z Q → r [v] H Q
theorem one {σ : L2.St} {g : D → Option D} {ρ : Env} {d : D} {R : List V → Hp → VK → Prop} {Q : VK} (hr : C1G K R g) (w : Wd K F G H S) (re : RE K F S.length G H σ ρ)
    (em : (bnd (ma ρ S) fun x S => (g x).map (·, S)) = some (d, S')) (q : ∀ v F' G' H', Ext F G H S.length F' G' H' S'.length → Wd K F' G' H' S' → Rv K F' S'.length G' v d → Q v H') : tCB R (tCons (rdB K ma) tNil) σ H Q := by
  obtain ⟨x, S1, e1, h⟩ := bnd_some em
  obtain ⟨z, e2, h⟩ := map_some h
  cases h
  exact ⟨F, G, S, ρ, w, re, x, S', e1, fun v F1 G1 H1 x1 w1 r1 => hr F1 G1 H1 S' v x _ Q w1 r1 e2 fun v2 F2 G2 H2 x2 w2 r2 => q v2 F2 G2 H2 (x1.trans w1 x2) w2 r2⟩
theorem n_b1 {x : Str} {id : String} {p : Pos} {g : D → Option D} {r : List V → Hp → VK → Prop} (hc : CallR X (.builtin id) r) (hg : Gl X x) (hm : X.mg x = none) (hv : bootBuiltins x = some (.builtin id)) (hs : notStar a = true) (pa : PE X a (rdB X.K ma)) (hr : C1G X.K r g)
    (hn : x ≠ "__name__") (hdb : (x == ("__debug__" : Str)) = false) : PE X (.Call (.Name x p) [a] [] pos) (rd X.K fun ρ S => bnd (ma ρ S) fun x S => (g x).map (·, S)) :=
  (pe_callB hc hg hm hv (pa_cons pa pa_nil (star_cons hs)) hn hdb (star_cons hs) rfl).imp fun σ H Q ⟨F, G, S, ρ, w, re, d, S', em, q⟩ => one hr w re em q
theorem n_t1 {x : Str} {T : String} {p : Pos} {g : D → Option D} {r : List V → Hp → VK → Prop} (hc : CallR X (.type T) r) (hg : Gl X x) (hm : X.mg x = none) (hv : bootBuiltins x = some (.type T)) (hs : notStar a = true) (pa : PE X a (rdB X.K ma)) (hr : C1G X.K r g)
    (hn : x ≠ "__name__") (hdb : (x == ("__debug__" : Str)) = false) : PE X (.Call (.Name x p) [a] [] pos) (rd X.K fun ρ S => bnd (ma ρ S) fun x S => (g x).map (·, S)) :=
  (pe_callTy hc hg hm hv (pa_cons pa pa_nil (star_cons hs)) hn hdb (star_cons hs) rfl).imp fun σ H Q ⟨F, G, S, ρ, w, re, d, S', em, q⟩ => one hr w re em q
/-- list(x): fresh -/
def C1F (K : Frag) (r : List V → Hp → VK → Prop) (g : D → Option D) : Prop := ∀ F G H S v x z Q, Wd K F G H S → Rb K F S.length G H v x → g x = some z → Kf K F G H S z Q → r [v] H Q
theorem n_t1F {x : Str} {T : String} {p : Pos} {g : D → Option D} {r : List V → Hp → VK → Prop} (hc : CallR X (.type T) r) (hg : Gl X x) (hm : X.mg x = none) (hv : bootBuiltins x = some (.type T)) (hs : notStar a = true) (pa : PE X a (rdB X.K ma)) (hr : C1F X.K r g)
    (hn : x ≠ "__name__") (hdb : (x == ("__debug__" : Str)) = false) : PE X (.Call (.Name x p) [a] [] pos) (rdF X.K fun ρ S => bnd (ma ρ S) fun x S => (g x).map (·, S)) :=
  (pe_callTy hc hg hm hv (pa_cons pa pa_nil (star_cons hs)) hn hdb (star_cons hs) rfl).imp fun σ H Q ⟨F, G, S, ρ, w, re, d, S', em, q⟩ => by
    obtain ⟨x, S1, e1, h⟩ := bnd_some em
    obtain ⟨z, e2, h⟩ := map_some h
    cases h
    refine ⟨F, G, S, ρ, w, re, x, S', e1, fun v F1 G1 H1 x1 w1 r1 => hr F1 G1 H1 S' v x _ Q w1 r1 e2 fun v2 F2 G2 H2 x2 w2 ⟨a, us, zs, e1, e2, n1, r⟩ => q v2 F2 G2 H2 (x1.trans w1 x2) w2 ⟨a, us, zs, e1, e2, ?_, r⟩⟩
    cases c : H a with
    | none => rfl
    | some o => exact absurd n1 (x1.there w1 rfl c)
theorem k_len : C1G K (fun xs H Q => ∃ p ys, xs = [.ref p] ∧ (SqL K H p ys ∨ SqT K H p ys) ∧ Q (.int ys.length) H) (op1 .len) := by
  intro F G H S v x z Q w r eg q
  cases x <;> first | (cases eg; done) | skip
  · cases eg
    obtain ⟨a, vs, rfl, ha, ra⟩ := r.list w
    exact ⟨a, vs, rfl, .inl (.of ha), by rw [ra.length]; exact q _ F G H .refl w (.int _)⟩
  · cases eg
    obtain ⟨a, vs, rfl, ha, ra⟩ := r.tuple w
    exact ⟨a, vs, rfl, .inr ha, by rw [ra.length]; exact q _ F G H .refl w (.int _)⟩
theorem k_abs : C1G K (fun xs H Q => ∃ i, xs = [.int i] ∧ Q (.int (if i < 0 then -i else i)) H) (op1 .abs) := by
  intro F G H S v x z Q w r eg q
  cases x <;> first | (cases eg; done) | skip
  cases eg
  exact ⟨_, by rw [r.int], q _ F G H .refl w (.int _)⟩
theorem k_int : C1G K (fun xs H Q => (∃ i, xs = [.int i] ∧ Q (.int i) H) ∨ ∃ k, xs = [.bl k] ∧ Q (.int (if k then 1 else 0)) H) (op1 .int) := by
  intro F G H S v x z Q w r eg q
  cases x <;> first | (cases eg; done) | skip
  · cases eg
    exact .inr ⟨_, by rw [r.bool], q _ F G H .refl w (.int _)⟩
  · cases eg
    exact .inl ⟨_, by rw [r.int], q _ F G H .refl w (.int _)⟩
def rListA (K : Frag) : List V → Hp → VK → Prop := fun xs H Q => ∃ p ys, xs = [.ref p] ∧ (SqL K H p ys ∨ SqT K H p ys) ∧ ∀ l, H l = none → Q (.ref l) (upd H l (.lst ys))
theorem kf_list : C1F K (rListA K) (op1 .list) := by
  intro F G H S v x z Q w r eg q
  cases x with
  | list xs =>
    cases eg
    obtain ⟨a, vs, rfl, ha, ra⟩ := r.list w
    exact ⟨a, vs, rfl, .inl (.of ha), fun p hp => newLF w ra q p hp⟩
  | tuple xs =>
    cases eg
    obtain ⟨a, vs, rfl, ha, ra⟩ := r.tuple w
    exact ⟨a, vs, rfl, .inr ha, fun p hp => newLF w ra q p hp⟩
  | dict kvs =>
    have cs : ∃ xs, kvs = [(.none, .list xs)] ∧ z = .list xs := by
      unfold op1 at eg
      split at eg <;> first | (cases eg; done) | skip
      all_goals (first | (rename_i e1 e2; cases e2; done) | skip)
      rename_i xs e1 e2
      cases e2
      cases eg
      exact ⟨_, rfl, rfl⟩
    obtain ⟨xs, rfl, rfl⟩ := cs
    rcases r with r | ⟨_, _, _, _, e, _⟩
    · generalize hd : (PyData.dict [(.none, .list xs)]) = d at r
      cases r <;> cases hd
      rename_i h r
      exact ⟨_, _, rfl, .inl (PyD.SqL.sub w.sub h), fun p hp => newLF w r q p hp⟩
    · cases e
  | _ => cases eg
theorem k_tuple : C1G K (fun xs H Q => ∃ p ys, xs = [.ref p] ∧ ((SqL K H p ys ∧ ∀ l, H l = none → Q (.ref l) (upd H l (.tup ys))) ∨ (SqT K H p ys ∧ Q (.ref p) H))) (op1 .tuple) := by
  intro F G H S v x z Q w r eg q
  cases x <;> first | (cases eg; done) | skip
  · cases eg
    obtain ⟨a, vs, rfl, ha, ra⟩ := r.list w
    exact ⟨a, vs, rfl, .inl ⟨.of ha, fun p hp => newT w ra q p hp⟩⟩
  · cases eg
    have r' := r
    obtain ⟨a, vs, rfl, ha, ra⟩ := r.tuple w
    rcases r' with r | ⟨_, _, _, _, e, _⟩
    · exact ⟨a, vs, rfl, .inr ⟨ha, q _ F G H .refl w r⟩⟩
    · cases e
theorem allBool_rv : ∀ {ds : List D} {vs : List V} {N} {bs : List Bool}, Rvs K F N G vs ds → allBool ds = some bs → vs = bs.map V.bl
  | [], _, _, _, .nil, h => by cases h; rfl
  | d :: ds, _, _, bs, .cons r t, h => by
    cases d <;> first | (cases h; done) | skip
    obtain ⟨cs, e1, e2⟩ := map_some (show (allBool ds).map _ = some bs from h)
    subst e2
    cases r
    rw [allBool_rv t e1]; rfl
theorem allInt_rv : ∀ {ds : List D} {vs : List V} {N} {bs : List Int}, Rvs K F N G vs ds → allInt ds = some bs → vs = bs.map V.int
  | [], _, _, _, .nil, h => by cases h; rfl
  | d :: ds, _, _, bs, .cons r t, h => by
    cases d <;> first | (cases h; done) | skip
    obtain ⟨cs, e1, e2⟩ := map_some (show (allInt ds).map _ = some bs from h)
    subst e2
    cases r
    rw [allInt_rv t e1]; rfl
theorem k_all : C1G K (rAll K) (op1 .all) := by
  intro F G H S v x z Q w r eg q
  cases x <;> first | (cases eg; done) | skip
  obtain ⟨bs, e1, e2⟩ := map_some (show (allBool _).map _ = some z from eg)
  subst e2
  obtain ⟨a, vs, rfl, ha, ra⟩ := r.list w
  exact ⟨a, bs, rfl, by rw [← allBool_rv ra e1]; exact .of ha, q _ F G H .refl w (.bl _)⟩
theorem k_any : C1G K (rAny K) (op1 .any) := by
  intro F G H S v x z Q w r eg q
  cases x <;> first | (cases eg; done) | skip
  obtain ⟨bs, e1, e2⟩ := map_some (show (allBool _).map _ = some z from eg)
  subst e2
  obtain ⟨a, vs, rfl, ha, ra⟩ := r.list w
  exact ⟨a, bs, rfl, by rw [← allBool_rv ra e1]; exact .of ha, q _ F G H .refl w (.bl _)⟩
theorem k_sum : C1G K (rSum K) (op1 .sum) := by
  intro F G H S v x z Q w r eg q
  cases x <;> first | (cases eg; done) | skip
  obtain ⟨bs, e1, e2⟩ := map_some (show (allInt _).map _ = some z from eg)
  subst e2
  obtain ⟨a, vs, rfl, ha, ra⟩ := r.list w
  exact ⟨a, bs, rfl, by rw [← allInt_rv ra e1]; exact .of ha, q _ F G H .refl w (.int _)⟩
/-! ### isinstance -/
def tyD : D → Option String
  | .none => some "NoneType"
  | .bool _ => some "bool"
  | .int _ => some "int"
  | .str _ => some "str"
  | .list _ => some "list"
  | .tuple _ => some "tuple"
  | .dict _ => none
theorem Rb.ty {v : V} {d : D} {T : String} (w : Wd K F G H S) (r : Rb K F S.length G H v d) (h : tyD d = some T) : TyX K H v (.type T) := by
  rcases r with r | ⟨a, vs, xs, e1, e2, _, hh, _⟩
  · cases r with
    | non => cases h; exact .base .non
    | bl b => cases h; exact .base (.bl b)
    | int b => cases h; exact .base (.int b)
    | str b => cases h; exact .base (.str b)
    | lst g _ => cases h; exact .base (.lst (w.sub _ _ g))
    | tup g _ =>
      cases h
      rcases g with (g | ⟨o, g⟩) | ⟨o, its, n, g, c, _⟩
      · exact .base (.tup (w.sub _ _ g))
      · exact .fTuple (w.sub _ _ g)
      · exact .kTuple g c
    | loc _ => cases h
    | scr _ _ => cases h
  · subst e1 e2
    cases h
    exact .base (.lst hh)
theorem n_isi {x y : Str} {n : String} {p p2 : Pos} {g : D → Option D} (hg : Gl X x) (hm : X.mg x = none) (hv : bootBuiltins x = some (.builtin "isinstance")) (hg2 : Gl X y) (hm2 : X.mg y = none) (hv2 : bootBuiltins y = some (.type n)) (hs : notStar a = true) (pa : PE X a (rdB X.K ma))
    (hr : ∀ d z, g d = some z → ∃ T b, tyD d = some T ∧ kitB T n = some b ∧ z = .bool b)
    (hn : x ≠ "__name__") (hdb : (x == ("__debug__" : Str)) = false) (hn2 : y ≠ "__name__") (hdb2 : (y == ("__debug__" : Str)) = false) : PE X (.Call (.Name x p) [a, .Name y p2] [] pos) (rd X.K fun ρ S => bnd (ma ρ S) fun x S => (g x).map (·, S)) :=
  (pe_callB call_isi hg hm hv (pa_cons pa (pa_cons (pe_bltn hg2 hm2 hv2 (v := .ty n) rfl hn2 hdb2) pa_nil) (star_cons hs)) hn hdb (star_cons hs) rfl).imp fun σ H Q ⟨F, G, S, ρ, w, re, d, S', em, q⟩ => by
    obtain ⟨x, S1, e1, h⟩ := bnd_some em
    obtain ⟨z, e2, h⟩ := map_some h
    cases h
    refine ⟨F, G, S, ρ, w, re, x, S', e1, fun v F1 G1 H1 x1 w1 r1 => ?_⟩
    obtain ⟨T, b, e3, e4, rfl⟩ := hr x _ e2
    exact ⟨v, .ty n, .type T, .type n, b, rfl, .ty n, r1.ty w1 e3, kit_ty e4, q _ F1 G1 H1 x1 w1 (.bl b)⟩
theorem i_int : ∀ d z, op1 .isInt d = some z → ∃ T b, tyD d = some T ∧ kitB T "int" = some b ∧ z = .bool b := by
  intro d z h
  cases d <;> first | (cases h; exact ⟨_, _, rfl, by decide +kernel, rfl⟩) | (cases h; done)
theorem i_bool : ∀ d z, op1 .isBool d = some z → ∃ T b, tyD d = some T ∧ kitB T "bool" = some b ∧ z = .bool b := by
  intro d z h
  cases d <;> first | (cases h; exact ⟨_, _, rfl, by decide +kernel, rfl⟩) | (cases h; done)
theorem i_str : ∀ d z, op1 .isStr d = some z → ∃ T b, tyD d = some T ∧ kitB T "str" = some b ∧ z = .bool b := by
  intro d z h
  cases d <;> first | (cases h; exact ⟨_, _, rfl, by decide +kernel, rfl⟩) | (cases h; done)
theorem i_tup : ∀ d z, op1 .isTup d = some z → ∃ T b, tyD d = some T ∧ kitB T "tuple" = some b ∧ z = .bool b := by
  intro d z h
  cases d <;> first | (cases h; exact ⟨_, _, rfl, by decide +kernel, rfl⟩) | (cases h; done)
theorem i_lst : ∀ d z, op1 .isLst d = some z → ∃ T b, tyD d = some T ∧ kitB T "list" = some b ∧ z = .bool b := by
  intro d z h
  cases d <;> first | (cases h; exact ⟨_, _, rfl, by decide +kernel, rfl⟩) | (cases h; done)
/-! ### built-ins of two -/
def C2G (K : Frag) (r : List V → Hp → VK → Prop) (g : D → D → Option D) : Prop := ∀ F G H S v1 v2 x y z Q, Wd K F G H S → Rb K F S.length G H v1 x → Rb K F S.length G H v2 y → g x y = some z → Kp K F G H S z Q → r [v1, v2] H Q
theorem two' {σ : L2.St} {g : D → D → Option D} {ρ : Env} {d : D} {R : List V → Hp → VK → Prop} {Q : VK} (hr : C2G K R g) (w : Wd K F G H S) (re : RE K F S.length G H σ ρ)
    (em : m2 ma mb g ρ S = some (d, S')) (q : ∀ v F' G' H', Ext F G H S.length F' G' H' S'.length → Wd K F' G' H' S' → Rv K F' S'.length G' v d → Q v H') : tCB R (tCons (rdB K ma) (tCons (rdB K mb) tNil)) σ H Q :=
  two (R := fun v1 v2 H' => R [v1, v2] H' Q) w re em fun v1 v2 x y F' G' H' xt w' re' r1 r2 eg => hr F' G' H' S' v1 v2 x y d Q w' r1 r2 eg fun v F2 G2 H2 x2 w2 r => q v F2 G2 H2 (xt.trans w' x2) w2 r
theorem n_b2 {x : Str} {id : String} {p : Pos} {g : D → D → Option D} {r : List V → Hp → VK → Prop} (hc : CallR X (.builtin id) r) (hg : Gl X x) (hm : X.mg x = none) (hv : bootBuiltins x = some (.builtin id)) (hs : notStar a = true) (hs2 : notStar b = true) (pa : PE X a (rdB X.K ma)) (pb : PE X b (rdB X.K mb)) (hr : C2G X.K r g)
    (hn : x ≠ "__name__") (hdb : (x == ("__debug__" : Str)) = false) : PE X (.Call (.Name x p) [a, b] [] pos) (rd X.K (m2 ma mb g)) :=
  (pe_callB hc hg hm hv (pa_cons pa (pa_cons pb pa_nil (star_cons hs2)) (star_cons hs)) hn hdb (star_cons hs) (back_any (by simp [noStars, hs2]))).imp fun σ H Q ⟨F, G, S, ρ, w, re, d, S', em, q⟩ => two' hr w re em q
theorem n_m2 {x : Str} {id : String} {p : Pos} {g : D → D → Option D} {r : List V → Hp → VK → Prop} (hc : CallR X (.builtin id) r) (hg : Gl X x) (hm : X.mg x = some (.builtin id)) (hs : notStar a = true) (hs2 : notStar b = true) (pa : PE X a (rdB X.K ma)) (pb : PE X b (rdB X.K mb)) (hr : C2G X.K r g)
    (hdb : (x == ("__debug__" : Str)) = false) : PE X (.Call (.Name x p) [a, b] [] pos) (rd X.K (m2 ma mb g)) :=
  (pe_callBfun hc hg hm (pa_cons pa (pa_cons pb pa_nil (star_cons hs2)) (star_cons hs)) hdb (star_cons hs) (back_any (by simp [noStars, hs2]))).imp fun σ H Q ⟨F, G, S, ρ, w, re, d, S', em, q⟩ => two' hr w re em q
theorem ints2 {o : B2} (h : ∀ x y z, op2 o x y = some z → ∃ i j, x = .int i ∧ y = .int j) {r : List V → Hp → VK → Prop} {f : Int → Int → Int} (h2 : ∀ i j, op2 o (.int i) (.int j) = some (.int (f i j))) (hr : ∀ i j H Q, Q (.int (f i j)) H → r [.int i, .int j] H Q) : C2G K r (op2 o) := by
  intro F G H S v1 v2 x y z Q w r1 r2 eg q
  obtain ⟨i, j, rfl, rfl⟩ := h x y z eg
  rw [h2] at eg
  cases eg
  rw [r1.int, r2.int]
  exact hr i j H Q (q _ F G H .refl w (.int _))
theorem k_min2 : C2G K (fun xs H Q => ∃ i j, xs = [.int i, .int j] ∧ Q (.int (if j < i then j else i)) H) (op2 .min) := ints2 (fun x y z h => by cases x <;> cases y <;> first | exact ⟨_, _, rfl, rfl⟩ | (cases h; done)) (fun _ _ => rfl) fun i j H Q q => ⟨i, j, rfl, q⟩
theorem k_max2 : C2G K (fun xs H Q => ∃ i j, xs = [.int i, .int j] ∧ Q (.int (if j > i then j else i)) H) (op2 .max) := ints2 (fun x y z h => by cases x <;> cases y <;> first | exact ⟨_, _, rfl, rfl⟩ | (cases h; done)) (fun _ _ => rfl) fun i j H Q q => ⟨i, j, rfl, q⟩
theorem k_gcd : C2G K rGcd (op2 .gcd) := ints2 (fun x y z h => by cases x <;> cases y <;> first | exact ⟨_, _, rfl, rfl⟩ | (cases h; done)) (fun _ _ => rfl) fun i j H Q q => ⟨i, j, rfl, q⟩
/-! ### items, slices -/
theorem atI_len {α β : Type} {xs : List α} {ys : List β} {i : Int} {y : β} (h : L2.atI ys i = some y) (hl : xs.length = ys.length) : ∃ j : Nat, ys[j]? = some y ∧ L2.atI xs i = xs[j]? := by
  unfold L2.atI at h ⊢
  rw [hl]
  cases e : L2.ixN ys.length i with
  | none => rw [e] at h; cases h
  | some j => rw [e] at h; exact ⟨j, h, rfl⟩
theorem item_rv {N : Nat} {vs : List V} {xs : List D} {i : Int} {z : D} (r : Rvs K F N G vs xs) (h : atD xs i = some z) : ∃ v, L2.atI vs i = some v ∧ Rv K F N G v z := by
  obtain ⟨j, e1, e2⟩ := atI_len (xs := vs) h r.length
  obtain ⟨v, e3, r'⟩ := r.get e1
  exact ⟨v, e2.trans e3, r'⟩
theorem n_ix (pa : PE X a (rdB X.K ma)) (pb : PE X b (rdB X.K mb)) (hp : PlainIx b) : PE X (.Subscript a b pos) (rd X.K fun ρ S => bnd (ma ρ S) fun x S => bnd (mb ρ S) fun y S => (match x, y with
    | .dict [(.int n, .none)], .int i => (match S[n.toNat]? with
      | some xs => if n < 0 then none else (atD xs i).map (·, S)
      | none => none)
    | x, y => (ixD x y).map (·, S))) :=
  (pe_ix (ix_list.or ix_tup) pa pb hp).imp fun σ H Q ⟨F, G, S, ρ, w, re, d, S', em, q⟩ => by
    obtain ⟨x, S1, e1, h⟩ := bnd_some em
    obtain ⟨y, S2, e2, h⟩ := bnd_some h
    refine ⟨F, G, S, ρ, w, re, x, S1, e1, fun v1 F1 G1 H1 x1 w1 r1 => ⟨F1, G1, S1, ρ, w1, re.ext x1, y, S2, e2, fun v2 F2 G2 H2 x2 w2 r2 => ?_⟩⟩
    have x12 := x1.trans w1 x2
    have r1' := r1.ext x2
    have cs : (∃ xs i, x = PyData.list xs ∧ y = PyData.int i ∧ atD xs i = some d ∧ S2 = S') ∨ (∃ xs i, x = PyData.tuple xs ∧ y = PyData.int i ∧ atD xs i = some d ∧ S2 = S') ∨ (∃ (n : Int) (xs : List D) (i : Int), x = PyData.dict [(.int n, .none)] ∧ y = .int i ∧ S2[n.toNat]? = some xs ∧ atD xs i = some d ∧ S2 = S') := by
      split at h
      · split at h
        · split at h
          · cases h
          · obtain ⟨z, e3, h⟩ := map_some h
            cases h
            exact .inr (.inr ⟨_, _, _, rfl, rfl, by assumption, e3, rfl⟩)
        · cases h
      · obtain ⟨z, e3, h⟩ := map_some h
        cases h
        cases x <;> cases y <;> first | (cases e3; done) | exact .inl ⟨_, _, rfl, rfl, e3, rfl⟩ | exact .inr (.inl ⟨_, _, rfl, rfl, e3, rfl⟩)
    rcases cs with ⟨xs, i, rfl, rfl, e3, rfl⟩ | ⟨xs, i, rfl, rfl, e3, rfl⟩ | ⟨n, xs, i, rfl, rfl, e3, e4, rfl⟩
    · obtain ⟨p, vs, rfl, hp, rp⟩ := r1'.list w2
      obtain ⟨v, e4, rv⟩ := item_rv rp e3
      exact .inl ⟨p, vs, i, v, rfl, r2.int, .of hp, e4, q _ F2 G2 H2 x12 w2 rv⟩
    · obtain ⟨p, vs, rfl, hp, rp⟩ := r1'.tuple w2
      obtain ⟨v, e4, rv⟩ := item_rv rp e3
      exact .inr ⟨p, vs, i, v, rfl, r2.int, hp, e4, q _ F2 G2 H2 x12 w2 rv⟩
    · obtain ⟨m, rfl, hm, rfl⟩ := r1'.loc
      obtain ⟨_, vs, hv, rp⟩ := w2.loc m xs e3
      obtain ⟨v, e5, rv⟩ := item_rv rp e4
      exact .inl ⟨F2 m, vs, i, v, rfl, r2.int, .of hv, e5, q _ F2 G2 H2 x12 w2 rv⟩
abbrev rdO (K : Frag) (m : Env → Store → Option (Option Int × Store)) : TO := rdG K (fun _ _ _ _ v d => v = d) m
theorem o_none : PO X none (rdO X.K fun _ S => some (none, S)) := ⟨fun pins s σ H Q I ⟨F, G, S, ρ, w, re, d, S', em, q⟩ => po_none.run pins s σ H Q I (by cases em; exact q _ F G H .refl w rfl)⟩
theorem o_some (pa : PE X a (rdB X.K ma)) : PO X (some a) (rdO X.K fun ρ S => bnd (ma ρ S) fun x S => (match x with | .int i => some (some i, S) | _ => none)) := ⟨fun pins s σ H Q I ⟨F, G, S, ρ, w, re, d, S', em, q⟩ => (po_some pa).run pins s σ H Q I (by
    obtain ⟨x, S1, e1, h⟩ := bnd_some em
    refine ⟨F, G, S, ρ, w, re, x, S1, e1, fun v F1 G1 H1 x1 w1 r1 => ?_⟩
    cases x <;> first | (cases h; done) | skip
    cases h
    exact ⟨_, r1.int, q _ F1 G1 H1 x1 w1 rfl⟩)⟩
theorem cut_rv {N : Nat} {vs : List V} {xs : List D} (lo hi : Option Int) (r : Rvs K F N G vs xs) : Rvs K F N G (cutV vs lo hi) (cutD xs lo hi) := by
  unfold cutV cutD
  rw [r.length]
  exact (r.drop _).take _
theorem n_sl {lo hi : Option Expr} {p2 : Pos} {ml mh : Env → Store → Option (Option Int × Store)} (pa : PE X a (rdB X.K ma)) (pl : PO X lo (rdO X.K ml)) (ph : PO X hi (rdO X.K mh)) : PE X (.Subscript a (.Slice lo hi none p2) pos)
    (rd X.K fun ρ S => bnd (ma ρ S) fun x S => bnd (ml ρ S) fun l S => bnd (mh ρ S) fun h S => (slD x l h).map (·, S)) :=
  (pe_slice (sl_list.or sl_tupA) pa pl ph).imp fun σ H Q ⟨F, G, S, ρ, w, re, d, S', em, q⟩ => by
    obtain ⟨x, S1, e1, h⟩ := bnd_some em
    obtain ⟨l, S2, e2, h⟩ := bnd_some h
    obtain ⟨u, S3, e3, h⟩ := bnd_some h
    obtain ⟨z, e4, h⟩ := map_some h
    cases h
    refine ⟨F, G, S, ρ, w, re, x, S1, e1, fun v1 F1 G1 H1 x1 w1 r1 => ⟨F1, G1, S1, ρ, w1, re.ext x1, l, S2, e2, fun v2 F2 G2 H2 x2 w2 r2 => ⟨F2, G2, S2, ρ, w2, re.ext (x1.trans w1 x2), u, S', e3, fun v3 F3 G3 H3 x3 w3 r3 => ?_⟩⟩⟩
    subst r2 r3
    have x13 := (x1.trans w1 x2).trans w2 x3
    have r1' := (r1.ext x2).ext x3
    have k : Kp X.K F3 G3 H3 S' d Q := fun v F4 G4 H4 x4 w4 r => q v F4 G4 H4 (x13.trans w3 x4) w4 r
    cases x <;> first | (cases e4; done) | skip
    · cases e4
      obtain ⟨p, vs, rfl, hp, rp⟩ := r1'.list w3
      exact .inl ⟨p, vs, rfl, .of hp, fun p hp => newL w3 (cut_rv v2 v3 rp) k p hp⟩
    · cases e4
      have r1'' := r1'
      obtain ⟨p, vs, rfl, hp, rp⟩ := r1'.tuple w3
      refine .inr ⟨p, vs, rfl, hp, fun ⟨c1, c2⟩ => ?_, fun _ p hp => newT w3 (cut_rv v2 v3 rp) k p hp⟩
      have ec : ∀ xs : List D, vs.length = xs.length → cutD xs v2 v3 = xs := fun xs hl => by
        unfold cutD
        rw [← hl, c1, c2, List.drop_zero, Nat.sub_zero, hl, List.take_length]
      rw [ec _ rp.length] at k
      rcases r1'' with r | ⟨_, _, _, _, e, _⟩
      · exact k _ F3 G3 H3 .refl w3 r
      · cases e
/-! ### [::-1], list(range(..)), tuple(a shared list), list(..) as a shared list -/
theorem n_rev {k : Nat} {p1 p2 p3 : Pos} (pa : PE X a (rdB X.K ma)) : PE X (.Subscript a (.Slice none none (some (.UnaryOp .USub (.Constant (.int 1) k p1) p2)) p3) pos) (rd X.K fun ρ S => bnd (ma ρ S) fun x S => (revD x).map (·, S)) :=
  (pe_revA pa).imp fun σ H Q ⟨F, G, S, ρ, w, re, d, S', em, q⟩ => by
    obtain ⟨x, S1, e1, h⟩ := bnd_some em
    obtain ⟨z, e2, h⟩ := map_some h
    cases h
    refine ⟨F, G, S, ρ, w, re, x, S', e1, fun v F1 G1 H1 x1 w1 r1 => ?_⟩
    have kp : Kp X.K F1 G1 H1 S' d Q := fun v F2 G2 H2 x2 w2 r2 => q v F2 G2 H2 (x1.trans w1 x2) w2 r2
    cases x <;> first | (cases e2; done) | skip
    · cases e2
      obtain ⟨p, vs, rfl, hp, rp⟩ := r1.list w1
      exact ⟨p, vs, rfl, .inl ⟨.of hp, fun p hp => newL w1 rp.reverse kp p hp⟩⟩
    · cases e2
      obtain ⟨p, vs, rfl, hp, rp⟩ := r1.tuple w1
      exact ⟨p, vs, rfl, .inr ⟨hp, fun p hp => newT w1 rp.reverse kp p hp⟩⟩
theorem rg_rv {N : Nat} (j : Int) : Rvs K F N G (rgV 0 j) (rngD 0 j) := by
  unfold rgV rngD
  have : ∀ l : List Nat, Rvs K F N G (l.map fun i => V.int (0 + (i : Nat))) (l.map fun i => PyData.int (0 + (i : Nat))) := by
    intro l
    induction l with
    | nil => exact .nil
    | cons i l ih => exact .cons (.int _) ih
  exact this _
theorem n_lr {p p2 pos2 : Pos} (hc : X.calm = true) (hg : Gl X "list") (hm : X.mg "list" = none) (hg2 : Gl X "range") (hm2 : X.mg "range" = none) (hs : notStar a = true) (pa : PE X a (rdB X.K ma)) :
    PE X (.Call (.Name "list" p) [.Call (.Name "range" p2) [a] [] pos2] [] pos) (rdF X.K fun ρ S => bnd (ma ρ S) fun x S => (match x with
    | .int j => if j ≤ 100000 ∧ 0 ≤ j then some (.list (rngD 0 j), S) else none
    | _ => none)) :=
  (pe_listRg hc hg hm (prg_1 hg2 hm2 pa (star_cons hs)) rfl).imp fun σ H Q ⟨F, G, S, ρ, w, re, d, S', em, q⟩ => by
    obtain ⟨x, S1, e1, h⟩ := bnd_some em
    refine ⟨F, G, S, ρ, w, re, x, S1, e1, fun v F1 G1 H1 x1 w1 r1 => ?_⟩
    cases x <;> first | (cases h; done) | skip
    rename_i j
    have h : (if j ≤ 100000 ∧ 0 ≤ j then some (PyData.list (rngD 0 j), S1) else none) = some (d, S') := h
    split at h
    · rename_i c
      cases h
      refine ⟨j, r1.int, .of_le (by omega) (by omega) (by omega) (by omega), fun p hp => newLF w1 (rg_rv j) (fun v F2 G2 H2 x2 w2 ⟨b, us, zs, e1, e2, n1, r⟩ => q v F2 G2 H2 (x1.trans w1 x2) w2 ⟨b, us, zs, e1, e2, ?_, r⟩) p hp⟩
      cases c : H b with
      | none => rfl
      | some o => exact absurd n1 (x1.there w1 rfl c)
    · cases h
theorem n_tl {p : Pos} (hg : Gl X "tuple") (hm : X.mg "tuple" = none) (hs : notStar a = true) (pa : PE X a (rdB X.K ma)) : PE X (.Call (.Name "tuple" p) [a] [] pos) (rd X.K fun ρ S => bnd (ma ρ S) fun x S => (match x with
    | .dict [(.int n, .none)] => if n < 0 then none else (S[n.toNat]?).map fun xs => (.tuple xs, S)
    | _ => none)) :=
  (pe_callTy call_tuple_of hg hm boot_tuple (pa_cons pa pa_nil (star_cons hs)) (by decide) (by decide) (star_cons hs) rfl).imp fun σ H Q ⟨F, G, S, ρ, w, re, d, S', em, q⟩ => by
    obtain ⟨x, S1, e1, h⟩ := bnd_some em
    refine ⟨F, G, S, ρ, w, re, x, S1, e1, fun v F1 G1 H1 x1 w1 r1 => ?_⟩
    have cs : ∃ n : Int, x = .dict [(.int n, .none)] ∧ ((S1[n.toNat]?).map fun xs => (PyData.tuple xs, S1)) = some (d, S') := by
      split at h
      · split at h
        · cases h
        · exact ⟨_, rfl, h⟩
      · cases h
    obtain ⟨n, rfl, h2⟩ := cs
    obtain ⟨xs, e2, h3⟩ := map_some h2
    cases h3
    obtain ⟨m, rfl, hm, rfl⟩ := r1.loc
    obtain ⟨_, vs, hv, rp⟩ := w1.loc m xs e2
    exact ⟨F1 m, vs, rfl, .inl ⟨.of hv, fun p hp => newT w1 rp (fun v F2 G2 H2 x2 w2 r2 => q v F2 G2 H2 (x1.trans w1 x2) w2 r2) p hp⟩⟩
theorem n_mkb {p : Pos} (hg : Gl X "list") (hm : X.mg "list" = none) (hs : notStar a = true) (pa : PE X a (rdB X.K ma)) : PE X (.Call (.Name "list" p) [a] [] pos) (rd X.K fun ρ S => bnd (ma ρ S) fun x S => (seqD x).map fun xs => (locD S.length, S ++ [xs])) :=
  (pe_callTy call_list_of hg hm boot_list (pa_cons pa pa_nil (star_cons hs)) (by decide) (by decide) (star_cons hs) rfl).imp fun σ H Q ⟨F, G, S, ρ, w, re, d, S', em, q⟩ => by
    obtain ⟨x, S1, e1, h⟩ := bnd_some em
    obtain ⟨xs, e2, h⟩ := map_some h
    cases h
    refine ⟨F, G, S, ρ, w, re, x, S1, e1, fun v F1 G1 H1 x1 w1 r1 => ?_⟩
    have fin := fun (vs : List V) (rp : Rvs X.K F1 S1.length G1 vs xs) (p : Addr) (hp : H1 p = none) => newLoc w1 rp (fun v F2 G2 H2 x2 w2 r2 => q v F2 G2 H2 (x1.trans w1 x2) w2 r2) p hp
    cases x <;> first | (cases e2; done) | skip
    · cases e2
      obtain ⟨p, vs, rfl, hp, rp⟩ := r1.list w1
      exact ⟨p, vs, rfl, .inl (.of hp), fun p hp => fin vs rp p hp⟩
    · cases e2
      obtain ⟨p, vs, rfl, hp, rp⟩ := r1.tuple w1
      exact ⟨p, vs, rfl, .inr hp, fun p hp => fin vs rp p hp⟩
end
end PyD

set_option Elab.async false
set_option linter.all false
set_option maxRecDepth 100000
/-! PyD, part 7: targets, walks, comprehensions. -/
namespace PyD
open PySem PySem.Spec PyProof.Rows L2
section
variable {X : Cx} {K : Frag} {F F' F2 : Nat → Addr} {N N' : Nat} {G G' G2 H H' H2 : Hp} {S S' S2 : Store} {σ : L2.St} {ρ : Env} {pos : Pos}
/-! ### frames -/
theorem Ext.updO {a : Addr} {o : HO} (x : Ext F G H N F' G' H' N') (ha : H a = none) : Ext F G H N F' G' (upd H' a o) N' where
  le := x.le
  eqF := x.eqF
  subG := x.subG
  keep := fun b u e hne => by rw [upd_ne (fun z => by rw [z, ha] at e; cases e)]; exact x.keep b u e hne
  newG := x.newG
  newF := x.newF
theorem Wd.updO {a : Addr} {o : HO} (w : Wd K F G H S) (hg : G a = none) (hl : ∀ i, i < S.length → a ≠ F i) : Wd K F G (upd H a o) S := by
  refine ⟨fun b u e => ?_, w.inj, fun i xs e => ?_⟩
  · rw [upd_ne (fun z => by rw [z, hg] at e; cases e)]; exact w.sub b u e
  · obtain ⟨g, vs, h, r⟩ := w.loc i xs e
    exact ⟨g, vs, by rw [upd_ne (Ne.symm (hl i (List.getElem?_eq_some_iff.mp e).1))]; exact h, r⟩
structure Fwd (F : Nat → Addr) (G : Hp) (n : Nat) (F' : Nat → Addr) (G' : Hp) (n' : Nat) : Prop where
  le : n ≤ n'
  eqF : ∀ i, i < n → F' i = F i
  subG : ∀ a o, G a = some o → G' a = some o
theorem Fwd.refl : Fwd F G N F G N := ⟨Nat.le_refl _, fun _ _ => rfl, fun _ _ h => h⟩
theorem Ext.fwd (x : Ext F G H N F' G' H' N') : Fwd F G N F' G' N' := ⟨x.le, x.eqF, x.subG⟩
theorem Fwd.trans {N2 : Nat} (x : Fwd F G N F' G' N') (y : Fwd F' G' N' F2 G2 N2) : Fwd F G N F2 G2 N2 :=
  ⟨Nat.le_trans x.le y.le, fun i h => (y.eqF i (Nat.lt_of_lt_of_le h x.le)).trans (x.eqF i h), fun a o h => y.subG a o (x.subG a o h)⟩
theorem Rv.fwd (x : Fwd F G N F' G' N') {v : V} {d : D} (r : Rv K F N G v d) : Rv K F' N' G' v d := r.mono x.eqF x.le x.subG
theorem Rvs.fwd (x : Fwd F G N F' G' N') {v : List V} {d : List D} (r : Rvs K F N G v d) : Rvs K F' N' G' v d := r.mono x.eqF x.le x.subG
/-! ### slots -/
theorem set_at {α : Type} {xs : List α} {i j : Nat} {a b : α} (h : (xs.set i a)[j]? = some b) : (i = j ∧ b = a ∧ i < xs.length) ∨ (i ≠ j ∧ xs[j]? = some b) := by
  by_cases c : i = j
  · subst c
    by_cases l : i < xs.length
    · rw [List.getElem?_set_self l] at h; cases h; exact .inl ⟨rfl, rfl, l⟩
    · rw [List.getElem?_eq_none (by simpa using l)] at h; cases h
  · rw [List.getElem?_set_ne c] at h; exact .inr ⟨c, h⟩
theorem RE.put_val (r : RE K F N G H σ ρ) {x : V} {d : D} (h : Rv K F N G x d) (i : Nat) : RE K F N G H (σ.set i (some x)) (ρ.set i (.val d)) where
  len := by simp [r.len]
  val := fun j e q => by
    rcases set_at q with ⟨rfl, q, l⟩ | ⟨c, q⟩
    · cases q
      exact ⟨x, List.getElem?_set_self (by rw [r.len]; exact l), h⟩
    · rw [List.getElem?_set_ne c]; exact r.val j e q
  own := fun j e q => by
    rcases set_at q with ⟨rfl, q, l⟩ | ⟨c, q⟩
    · cases q
    · rw [List.getElem?_set_ne c]; exact r.own j e q
  sep := fun j k xs ys a q1 q2 q3 q4 => by
    rcases set_at q1 with ⟨rfl, q, l⟩ | ⟨c1, q1⟩
    · cases q
    rcases set_at q2 with ⟨rfl, q, l⟩ | ⟨c2, q2⟩
    · cases q
    rw [List.getElem?_set_ne c1] at q3
    rw [List.getElem?_set_ne c2] at q4
    exact r.sep j k xs ys a q1 q2 q3 q4
theorem RE.put_no (r : RE K F N G H σ ρ) (i : Nat) : RE K F N G H (σ.set i none) (ρ.set i .no) where
  len := by simp [r.len]
  val := fun j e q => by
    rcases set_at q with ⟨rfl, q, l⟩ | ⟨c, q⟩
    · cases q
    · rw [List.getElem?_set_ne c]; exact r.val j e q
  own := fun j e q => by
    rcases set_at q with ⟨rfl, q, l⟩ | ⟨c, q⟩
    · cases q
    · rw [List.getElem?_set_ne c]; exact r.own j e q
  sep := fun j k xs ys a q1 q2 q3 q4 => by
    rcases set_at q1 with ⟨rfl, q, l⟩ | ⟨c1, q1⟩
    · cases q
    rcases set_at q2 with ⟨rfl, q, l⟩ | ⟨c2, q2⟩
    · cases q
    rw [List.getElem?_set_ne c1] at q3
    rw [List.getElem?_set_ne c2] at q4
    exact r.sep j k xs ys a q1 q2 q3 q4
theorem RE.put_own (r : RE K F N G H σ ρ) {a : Addr} {vs : List V} {xs : List D} (hg : G a = none) (h : H a = some (.lst vs)) (hl : ∀ j, j < N → a ≠ F j) (rv : Rvs K F N G vs xs)
    (i : Nat) (hs : ∀ j ys, j ≠ i → ρ[j]? = some (.own ys) → σ[j]? ≠ some (some (.ref a))) : RE K F N G H (σ.set i (some (.ref a))) (ρ.set i (.own xs)) where
  len := by simp [r.len]
  val := fun j e q => by
    rcases set_at q with ⟨rfl, q, l⟩ | ⟨c, q⟩
    · cases q
    · rw [List.getElem?_set_ne c]; exact r.val j e q
  own := fun j e q => by
    rcases set_at q with ⟨rfl, q, l⟩ | ⟨c, q⟩
    · cases q
      exact ⟨a, vs, List.getElem?_set_self (by rw [r.len]; exact l), hg, h, hl, rv⟩
    · rw [List.getElem?_set_ne c]; exact r.own j e q
  sep := fun j k ys zs b q1 q2 q3 q4 => by
    rcases set_at q1 with ⟨rfl, q, l⟩ | ⟨c1, q1⟩
    · rcases set_at q2 with ⟨rfl, q', l'⟩ | ⟨c2, q2⟩
      · rfl
      · rw [List.getElem?_set_self (by rw [r.len]; exact l)] at q3
        rw [List.getElem?_set_ne c2] at q4
        cases q3
        exact absurd q4 (hs k zs (Ne.symm c2) q2)
    · rw [List.getElem?_set_ne c1] at q3
      rcases set_at q2 with ⟨rfl, q', l'⟩ | ⟨c2, q2⟩
      · rw [List.getElem?_set_self (by rw [r.len]; exact l')] at q4
        cases q4
        exact absurd q3 (hs j ys (Ne.symm c1) q1)
      · rw [List.getElem?_set_ne c2] at q4
        exact r.sep j k ys zs b q1 q2 q3 q4
theorem RE.wipe (r : RE K F N G H σ ρ) : ∀ vs, RE K F N G H (L2.wipe σ vs) (PyD.wipe ρ vs)
  | [] => r
  | v :: vs => (RE.wipe r vs).put_no v
/-! ### targets -/
/-- a target's cell: what it keeps of the slots -/
structure TK (σ : L2.St) (ρ : Env) (σ' : L2.St) (ρ' : Env) (ns : List Nat) : Prop where
  wipe : ∀ vs, (∀ i ∈ ns, i ∈ vs) → L2.wipe σ' vs = L2.wipe σ vs
  own : ∀ (i : Nat) xs, ρ'[i]? = some (.own xs) → ρ[i]? = some (.own xs) ∧ σ'[i]? = σ[i]?
theorem TK.refl : TK σ ρ σ ρ [] := ⟨fun _ _ => rfl, fun _ _ h => ⟨h, rfl⟩⟩
theorem TK.trans {σ1 σ2 : L2.St} {ρ1 ρ2 : Env} {a b : List Nat} (x : TK σ ρ σ1 ρ1 a) (y : TK σ1 ρ1 σ2 ρ2 b) : TK σ ρ σ2 ρ2 (a ++ b) :=
  ⟨fun vs h => (y.wipe vs fun i hi => h i (List.mem_append_right _ hi)).trans (x.wipe vs fun i hi => h i (List.mem_append_left _ hi)),
   fun i xs h => by
    obtain ⟨h1, e1⟩ := y.own i xs h
    obtain ⟨h2, e2⟩ := x.own i xs h1
    exact ⟨h2, e1.trans e2⟩⟩
theorem wipe_set {i : Nat} {o : Option V} : ∀ {vs : List Nat}, i ∈ vs → L2.wipe (σ.set i o) vs = L2.wipe σ vs
  | v :: vs, h => by
    unfold L2.wipe
    by_cases c : i ∈ vs
    · rw [wipe_set c]
    · have e : v = i := by
        rcases List.mem_cons.mp h with h | h
        · exact h.symm
        · exact absurd h c
      subst e
      have : ∀ vs : List Nat, v ∉ vs → (L2.wipe (σ.set v o) vs).set v none = (L2.wipe σ vs).set v none := by
        intro vs
        induction vs with
        | nil => intro _; unfold L2.wipe; rw [List.set_set]
        | cons w ws ih =>
          intro hn
          unfold L2.wipe
          have hw : w ≠ v := fun e => hn (by rw [e]; exact List.mem_cons_self)
          rw [List.set_comm _ _ hw, ih (fun z => hn (List.mem_cons_of_mem _ z)), List.set_comm _ _ hw]
      exact this vs c
theorem TK.put {i : Nat} {x : V} {d : D} : TK σ ρ (σ.set i (some x)) (ρ.set i (.val d)) [i] :=
  ⟨fun vs h => wipe_set (h i List.mem_cons_self), fun j xs h => by
    rcases set_at h with ⟨rfl, q, l⟩ | ⟨c, q⟩
    · cases q
    · exact ⟨q, List.getElem?_set_ne c⟩⟩
def TgG (K : Frag) (g : TG) (t : T) : Prop := ∀ F G H S σ ρ x d ρ' (k : L2.St → Hp → Prop), Wd K F G H S → RE K F S.length G H σ ρ → Rv K F S.length G x d → setTg t d ρ = some ρ' →
  (∀ σ', RE K F S.length G H σ' ρ' → TK σ ρ σ' ρ' (tgNames t) → k σ' H) → g x σ H k
def TgsG (K : Frag) (g : TGs) (t : T) : Prop := ∀ F G H S σ ρ xs ds ρ' (k : L2.St → Hp → Prop), Wd K F G H S → RE K F S.length G H σ ρ → Rvs K F S.length G xs ds → setTgs t ds ρ = some ρ' →
  (∀ σ', RE K F S.length G H σ' ρ' → TK σ ρ σ' ρ' (tgNames t) → k σ' H) → g xs σ H k
def cnt : T → Nat
  | .acons _ r => cnt r + 1
  | _ => 0
theorem setTgs_len : ∀ {t : T} {ds : List D} {ρ ρ' : Env}, setTgs t ds ρ = some ρ' → ds.length = cnt t
  | t, [], ρ, ρ', h => by
    cases t <;> first | rfl | (simp [setTgs] at h; done)
  | t, d :: ds, ρ, ρ', h => by
    cases t <;> first | (simp [setTgs] at h; done) | skip
    rename_i a r
    rw [setTgs] at h
    cases e : setTg a d ρ with
    | none => rw [e] at h; cases h
    | some ρ1 => rw [e] at h; rw [List.length_cons, setTgs_len h, cnt]
theorem tg_nm {i : Nat} : TgG K (gName i) (.nm i) := by
  intro F G H S σ ρ x d ρ' k w re r e q
  rw [setTg] at e
  cases e
  exact q _ (re.put_val r i) .put
theorem tgs_nil : TgsG K gNil .anil := by
  intro F G H S σ ρ xs ds ρ' k w re r e q
  cases ds with
  | cons d ds => simp [setTgs] at e
  | nil => cases r; simp [setTgs] at e; subst e; exact ⟨rfl, q _ re .refl⟩
theorem tgs_cons {g : TG} {gs : TGs} {a r : T} (h1 : TgG K g a) (h2 : TgsG K gs r) : TgsG K (gCons g gs) (.acons a r) := by
  intro F G H S σ ρ xs ds ρ' k w re rv e q
  cases ds with
  | nil => simp [setTgs] at e
  | cons d ds =>
    rw [setTgs] at e
    cases e1 : setTg a d ρ with
    | none => rw [e1] at e; cases e
    | some ρ1 =>
      rw [e1] at e
      cases rv with
      | cons r1 r2 => exact ⟨_, _, rfl, h1 F G H S σ ρ _ d ρ1 _ w re r1 e1 fun σ1 re1 k1 => h2 F G H S σ1 ρ1 _ ds ρ' k w re1 r2 e fun σ2 re2 k2 => q σ2 re2 (k1.trans k2)⟩
theorem tg_tup {gs : TGs} {a r : T} {n : Nat} (h : TgsG K gs (.acons a r)) (hn : cnt (.acons a r) = n) : TgG K (gTup K n gs) (.acons a r) := by
  intro F G H S σ ρ x d ρ' k w re rv e q
  cases d <;> first | (simp [setTg] at e; done) | skip
  rename_i ds
  rw [setTg] at e
  obtain ⟨p, vs, rfl, hp, rp⟩ := Rb.tuple w (.inl rv)
  exact ⟨p, vs, rfl, hp, by rw [rp.length, setTgs_len e, hn], h F G H S σ ρ vs ds ρ' k w re rp e q⟩
theorem asg_cons {e : Expr} {es : List Expr} {env : PySem.Env} (h : notStar e = true) : assignEach (e :: es) env = (false, assign e env) :: assignEach es env := by
  cases e <;> first | rfl | cases h
theorem asg_len {env : PySem.Env} : ∀ {es : List Expr}, noStars es = true → (assignEach es env).length = es.length ∧ (assignEach es env).findIdx? (·.1) = none
  | [], _ => ⟨rfl, rfl⟩
  | e :: es, h => by
    have h' := Bool.and_eq_true_iff.mp h
    obtain ⟨h1, h2⟩ := asg_len (env := env) h'.2
    rw [asg_cons h'.1]
    refine ⟨by simp [h1], ?_⟩
    rw [List.findIdx?_cons, h2]; rfl
theorem pg_cons {e : Expr} {es : List Expr} {t : TG} {u : TGs} (hs : notStar e = true) (h1 : PG X e t) (h2 : PGs X es u) : PGs X (e :: es) (gCons t u) := pgs_cons h1 h2 (by rw [asg_cons hs]; rfl)
theorem pg_tup' {es : List Expr} {k : Nat} {t : TGs} (hc : X.calm = true) (hs : noStars es = true) (h : PGs X es t) : PG X (.Tuple es k pos) (gTup X.K es.length t) := pg_tup hc h (asg_len hs).1 (asg_len hs).2
/-! ### walks -/
structure Walks (K : Frag) (F : Nat → Addr) (N : Nat) (G : Hp) (J : It) (ds : List D) : Prop where
  go : ∀ {F2 G2 H2 S2} (i : Nat), Fwd F G N F2 G2 S2.length → Wd K F2 G2 H2 S2 → i < ds.length → J.go i H2
  stop : ∀ {F2 G2 H2 S2}, Fwd F G N F2 G2 S2.length → Wd K F2 G2 H2 S2 → J.stop ds.length H2
  yld : ∀ {F2 G2 H2 S2} (i : Nat) x H' d, Fwd F G N F2 G2 S2.length → Wd K F2 G2 H2 S2 → J.yld i H2 x H' → ds[i]? = some d → ∃ G3, Ext F2 G2 H2 S2.length F2 G3 H' S2.length ∧ Wd K F2 G3 H' S2 ∧ Rv K F2 S2.length G3 x d
def rdI (K : Frag) (m : Env → Store → Option (List D × Store)) : TI := fun σ H R => ∃ F G S ρ, Wd K F G H S ∧ RE K F S.length G H σ ρ ∧ ∃ ds S', m ρ S = some (ds, S') ∧ ∀ J F' G' H', Ext F G H S.length F' G' H' S'.length → Wd K F' G' H' S' → Walks K F' S'.length G' J ds → R J H'
def Kq (K : Frag) (G : Hp) : Bool → Addr → List V → Prop
  | true => fun a vs => G a = some (.lst vs)
  | false => fun a vs => SqT K G a vs
theorem Kq.at {k : Bool} {a : Addr} {vs : List V} (h : Kq K G k a vs) (hs : ∀ a o, G a = some o → H a = some o) : SqK K H k a vs := by
  cases k
  · exact PyD.SqT.sub hs h
  · exact .of (hs _ _ h)
theorem Rv.seq {x : D} {xs : List D} {v : V} (r : Rv K F N G v x) (e : seqD x = some xs) : ∃ a vs k, v = .ref a ∧ Kq K G k a vs ∧ Rvs K F N G vs xs := by
  cases r with
  | lst h r => cases e; exact ⟨_, _, true, rfl, h, r⟩
  | tup h r => cases e; exact ⟨_, _, false, rfl, h, r⟩
  | _ => cases e
theorem walks_seq {k : Bool} {a : Addr} {vs : List V} {xs : List D} (h : Kq K G k a vs) (r : Rvs K F N G vs xs) : Walks K F N G (if k then Itl K a else Itt K a) xs := by
  have at_ : ∀ {F2 G2 H2 S2} , Fwd F G N F2 G2 S2.length → Wd K F2 G2 H2 S2 → SqK K H2 k a vs := fun f w => h.at fun a o e => w.sub a o (f.subG a o e)
  cases k
  · refine ⟨fun {F2 G2 H2 S2} i f w hi => ?_, fun {F2 G2 H2 S2} f w => ?_, fun {F2 G2 H2 S2} i x H' d f w y e => ?_⟩
    · exact ⟨vs, vs[i]'(by rw [r.length]; exact hi), at_ f w, List.getElem?_eq_getElem _⟩
    · exact ⟨vs, at_ f w, by rw [r.length]; exact Nat.le_refl _⟩
    · obtain ⟨rfl, y⟩ := y
      have ev := y vs (at_ f w)
      obtain ⟨v', e2, rv⟩ := r.get e
      rw [ev] at e2; cases e2
      exact ⟨G2, .refl, w, rv.fwd f⟩
  · refine ⟨fun {F2 G2 H2 S2} i f w hi => ?_, fun {F2 G2 H2 S2} f w => ?_, fun {F2 G2 H2 S2} i x H' d f w y e => ?_⟩
    · exact ⟨vs, vs[i]'(by rw [r.length]; exact hi), at_ f w, List.getElem?_eq_getElem _⟩
    · exact ⟨vs, at_ f w, by rw [r.length]; exact Nat.le_refl _⟩
    · obtain ⟨rfl, y⟩ := y
      have ev := y vs (at_ f w)
      obtain ⟨v', e2, rv⟩ := r.get e
      rw [ev] at e2; cases e2
      exact ⟨G2, .refl, w, rv.fwd f⟩
theorem walks_ints {J : It} {n : Nat} {f : Nat → Int} {ds : List D} (hd : ds = (List.range n).map fun i => .int (f i)) (hg : ∀ i H, i < n → J.go i H) (hs : ∀ H, J.stop n H) (hy : ∀ i H x H', J.yld i H x H' → H' = H ∧ x = .int (f i)) : Walks K F N G J ds := by
  have hl : ds.length = n := by rw [hd]; simp
  refine ⟨fun {F2 G2 H2 S2} i _ w hi => hg i _ (by omega), fun {F2 G2 H2 S2} _ w => by rw [hl]; exact hs _, fun {F2 G2 H2 S2} i x H' d _ w y e => ?_⟩
  obtain ⟨rfl, rfl⟩ := hy i _ x H' y
  have hi : i < n := by rw [← hl]; exact (List.getElem?_eq_some_iff.mp e).1
  rw [hd, List.getElem?_map, List.getElem?_range hi] at e
  cases e
  exact ⟨G2, .refl, w, .int _⟩
theorem walks_zip {k1 k2 : Bool} {a b : Addr} {vs us : List V} {xs ys : List D} (h1 : Kq K G k1 a vs) (h2 : Kq K G k2 b us) (r1 : Rvs K F N G vs xs) (r2 : Rvs K F N G us ys) : Walks K F N G (It2 K k1 k2 a b vs us) (zipD xs ys) := by
  have hl : (zipD xs ys).length = min vs.length us.length := by rw [zipD, List.length_map, List.length_zip, r1.length, r2.length]
  have at1 : ∀ {F2 G2 H2 S2} , Fwd F G N F2 G2 S2.length → Wd K F2 G2 H2 S2 → SqK K H2 k1 a vs := fun f w => h1.at fun a o e => w.sub a o (f.subG a o e)
  have at2 : ∀ {F2 G2 H2 S2} , Fwd F G N F2 G2 S2.length → Wd K F2 G2 H2 S2 → SqK K H2 k2 b us := fun f w => h2.at fun a o e => w.sub a o (f.subG a o e)
  refine ⟨fun {F2 G2 H2 S2} i f w hi => ⟨at1 f w, at2 f w, by omega⟩, fun {F2 G2 H2 S2} f w => ⟨at1 f w, at2 f w, hl⟩, fun {F2 G2 H2 S2} i x H' d f w y e => ?_⟩
  obtain ⟨p, v, u, rfl, hp, e1, e2, rfl⟩ := y
  obtain ⟨d1, e3, rv⟩ := r1.get' e1
  obtain ⟨d2, e4, ru⟩ := r2.get' e2
  rw [zipD, List.getElem?_map, (List.getElem?_zip_eq_some (z := (d1, d2))).mpr ⟨e3, e4⟩] at e
  cases e
  obtain ⟨x, _⟩ := Ext.new (o := .tup [v, u]) w hp
  exact ⟨_, x, w.new hp, .tup (.inl (.inl upd_same)) (.cons ((rv.fwd f).ext x) (.cons ((ru.fwd f).ext x) .nil))⟩
theorem walks_enum {k : Bool} {a : Addr} {vs : List V} {xs : List D} (h1 : Kq K G k a vs) (r1 : Rvs K F N G vs xs) : Walks K F N G (ItE K k a vs) (enumD xs) := by
  have hl : (enumD xs).length = vs.length := by rw [enumD, List.length_map, List.length_zipIdx, r1.length]
  have at1 : ∀ {F2 G2 H2 S2} , Fwd F G N F2 G2 S2.length → Wd K F2 G2 H2 S2 → SqK K H2 k a vs := fun f w => h1.at fun a o e => w.sub a o (f.subG a o e)
  refine ⟨fun {F2 G2 H2 S2} i f w hi => ⟨at1 f w, by omega⟩, fun {F2 G2 H2 S2} f w => ⟨at1 f w, hl⟩, fun {F2 G2 H2 S2} i x H' d f w y e => ?_⟩
  obtain ⟨p, v, rfl, hp, e1, rfl⟩ := y
  obtain ⟨d1, e3, rv⟩ := r1.get' e1
  rw [enumD, List.getElem?_map, List.getElem?_zipIdx, e3] at e
  simp only [Option.map_some, Nat.zero_add, Option.some.injEq] at e
  subst e
  obtain ⟨x, _⟩ := Ext.new (o := .tup [.int (i : Nat), v]) w hp
  exact ⟨_, x, w.new hp, .tup (.inl (.inl upd_same)) (.cons (.int _) (.cons ((rv.fwd f).ext x) .nil))⟩
section
variable {tg a b c : Expr} {ma mb mc : Env → Store → Option (D × Store)}
theorem i_seq (pa : PE X a (rd X.K ma)) : PI X tg a (rdI X.K fun ρ S => bnd (ma ρ S) fun x S => (seqD x).map (·, S)) :=
  (pi_seq pa).imp fun σ H Q ⟨F, G, S, ρ, w, re, ds, S', em, q⟩ => by
    obtain ⟨x, S1, e1, h⟩ := bnd_some em
    obtain ⟨xs, e2, h⟩ := map_some h
    cases h
    refine ⟨F, G, S, ρ, w, re, x, S', e1, fun v F1 G1 H1 x1 w1 r1 => ?_⟩
    obtain ⟨p, vs, k, rfl, hk, rs⟩ := r1.seq e2
    exact ⟨p, vs, k, rfl, hk.at w1.sub, q _ F1 G1 H1 x1 w1 (walks_seq hk rs)⟩
theorem rngOk_iff {a : Int} (h : rngOk a = true) : -(2 ^ 62) ≤ a ∧ a < 2 ^ 62 := by
  have h' := Bool.and_eq_true_iff.mp h
  exact ⟨of_decide_eq_true h'.1, of_decide_eq_true h'.2⟩
theorem i_r1 {p : Pos} (hg : Gl X "range") (hm : X.mg "range" = none) (hs : notStar a = true) (pa : PE X a (rdB X.K ma)) : PI X tg (.Call (.Name "range" p) [a] [] pos) (rdI X.K fun ρ S => bnd (ma ρ S) fun x S => (match x with | .int j => if rngOk j then some (rngD 0 j, S) else none | _ => none)) :=
  (pi_range1 hg hm (pa_cons pa pa_nil (star_cons hs)) (star_cons hs)).imp fun σ H Q ⟨F, G, S, ρ, w, re, ds, S', em, q⟩ => by
    obtain ⟨x, S1, e1, h⟩ := bnd_some em
    refine ⟨F, G, S, ρ, w, re, x, S1, e1, fun v F1 G1 H1 x1 w1 r1 => ?_⟩
    cases x <;> first | (cases h; done) | skip
    rename_i j
    have h : (if rngOk j then some (rngD 0 j, S1) else none) = some (ds, S') := h
    split at h
    · rename_i c
      cases h
      obtain ⟨c1, c2⟩ := rngOk_iff c
      exact ⟨j, by rw [r1.int], c1, c2, q _ F1 G1 H1 x1 w1 (walks_ints (n := j.toNat) (f := fun i => 0 + (i : Nat)) (by rw [rngD, Int.sub_zero]) (fun i H h => h) (fun H => Nat.le_refl _) fun i H x H' h => h)⟩
    · cases h
theorem i_r2 {p : Pos} (hg : Gl X "range") (hm : X.mg "range" = none) (hs : notStar a = true) (hs2 : notStar b = true) (pa : PE X a (rdB X.K ma)) (pb : PE X b (rdB X.K mb)) : PI X tg (.Call (.Name "range" p) [a, b] [] pos)
    (rdI X.K fun ρ S => bnd (ma ρ S) fun x S => bnd (mb ρ S) fun y S => (match x, y with | .int i, .int j => if rngOk i && rngOk j then some (rngD i j, S) else none | _, _ => none)) :=
  (pi_range2 hg hm (pa_cons pa (pa_cons pb pa_nil (star_cons hs2)) (star_cons hs)) (by rw [star_cons hs, star_cons hs2]; rfl) (star_cons hs2)).imp fun σ H Q ⟨F, G, S, ρ, w, re, ds, S', em, q⟩ => by
    obtain ⟨x, S1, e1, h⟩ := bnd_some em
    obtain ⟨y, S2, e2, h⟩ := bnd_some h
    refine ⟨F, G, S, ρ, w, re, x, S1, e1, fun v F1 G1 H1 x1 w1 r1 => ⟨F1, G1, S1, ρ, w1, re.ext x1, y, S2, e2, fun v2 F2 G2 H2 x2 w2 r2 => ?_⟩⟩
    have cs : ∃ i j, x = .int i ∧ y = .int j := by
      cases x <;> cases y <;> first | exact ⟨_, _, rfl, rfl⟩ | (cases h; done)
    obtain ⟨i, j, rfl, rfl⟩ := cs
    have h : (if rngOk i && rngOk j then some (rngD i j, S2) else none) = some (ds, S') := h
    split at h
    · rename_i c
      cases h
      have c' := Bool.and_eq_true_iff.mp c
      obtain ⟨c1, c2⟩ := rngOk_iff c'.1
      obtain ⟨c3, c4⟩ := rngOk_iff c'.2
      exact ⟨i, j, by rw [r1.int, r2.int], ⟨c1, c2, c3, c4⟩, q _ F2 G2 H2 (x1.trans w1 x2) w2 (walks_ints (n := (j - i).toNat) (f := fun k => i + (k : Nat)) rfl (fun i H h => h) (fun H => Nat.le_refl _) fun i H x H' h => h)⟩
    · cases h
theorem i_r3 {p : Pos} (hg : Gl X "range") (hm : X.mg "range" = none) (hs : notStar a = true) (hs2 : notStar b = true) (hs3 : notStar c = true) (pa : PE X a (rdB X.K ma)) (pb : PE X b (rdB X.K mb)) (pc : PE X c (rdB X.K mc)) : PI X tg (.Call (.Name "range" p) [a, b, c] [] pos)
    (rdI X.K fun ρ S => bnd (ma ρ S) fun x S => bnd (mb ρ S) fun y S => bnd (mc ρ S) fun z S => (match x, y, z with | .int i, .int j, .int (-1) => if rngOk i && rngOk j then some (rngDown i j, S) else none | _, _, _ => none)) :=
  (pi_range3 hg hm (pa_cons pa (pa_cons pb (pa_cons pc pa_nil (star_cons hs3)) (star_cons hs2)) (star_cons hs)) (star_cons hs) (back_any (by simp [noStars, hs2, hs3]))).imp fun σ H Q ⟨F, G, S, ρ, w, re, ds, S', em, q⟩ => by
    obtain ⟨x, S1, e1, h⟩ := bnd_some em
    obtain ⟨y, S2, e2, h⟩ := bnd_some h
    obtain ⟨z, S3, e3, h⟩ := bnd_some h
    refine ⟨F, G, S, ρ, w, re, x, S1, e1, fun v F1 G1 H1 x1 w1 r1 => ⟨F1, G1, S1, ρ, w1, re.ext x1, y, S2, e2, fun v2 F2 G2 H2 x2 w2 r2 => ⟨F2, G2, S2, ρ, w2, re.ext (x1.trans w1 x2), z, S3, e3, fun v3 F3 G3 H3 x3 w3 r3 => ?_⟩⟩⟩
    have cs : ∃ i j, x = .int i ∧ y = .int j ∧ z = .int (-1) ∧ (if rngOk i && rngOk j then some (rngDown i j, S3) else none) = some (ds, S') := by
      split at h
      · exact ⟨_, _, rfl, rfl, rfl, h⟩
      · cases h
    clear h
    obtain ⟨i, j, rfl, rfl, rfl, h⟩ := cs
    split at h
    · rename_i c
      cases h
      have c' := Bool.and_eq_true_iff.mp c
      obtain ⟨c1, c2⟩ := rngOk_iff c'.1
      obtain ⟨c3, c4⟩ := rngOk_iff c'.2
      refine ⟨i, j, -1, (i - j).toNat, by rw [r1.int, r2.int, r3.int], .neg c1 c2 c3 c4, q _ F3 G3 H3 ((x1.trans w1 x2).trans w2 x3) w3 (walks_ints (n := (i - j).toNat) (f := fun k => i - (k : Nat)) rfl (fun i H h => h) (fun H => Nat.le_refl _) fun k H x H' h => ⟨h.1, ?_⟩)⟩
      rw [h.2]; congr 1; omega
    · cases h
theorem i_zip {p tpos : Pos} {elts : List Expr} {kk : Nat} (hg : Gl X "zip") (hm : X.mg "zip" = none) (hs : notStar a = true) (hs2 : notStar b = true) (pa : PE X a (rd X.K ma)) (pb : PE X b (rd X.K mb)) : PI X (.Tuple elts kk tpos) (.Call (.Name "zip" p) [a, b] [] pos)
    (rdI X.K fun ρ S => bnd (ma ρ S) fun x S => bnd (mb ρ S) fun y S => (match seqD x, seqD y with | some xs, some ys => some (zipD xs ys, S) | _, _ => none)) :=
  (pi_zip2 hg hm (pa_cons pa (pa_cons pb pa_nil (star_cons hs2)) (star_cons hs)) (star_cons hs) (back_any (by simp [noStars, hs2]))).imp fun σ H Q ⟨F, G, S, ρ, w, re, ds, S', em, q⟩ => by
    obtain ⟨x, S1, e1, h⟩ := bnd_some em
    obtain ⟨y, S2, e2, h⟩ := bnd_some h
    refine ⟨F, G, S, ρ, w, re, x, S1, e1, fun v F1 G1 H1 x1 w1 r1 => ⟨F1, G1, S1, ρ, w1, re.ext x1, y, S2, e2, fun v2 F2 G2 H2 x2 w2 r2 => ?_⟩⟩
    cases c1 : seqD x with
    | none => rw [c1] at h; cases h
    | some xs =>
      cases c2 : seqD y with
      | none => rw [c1, c2] at h; cases h
      | some ys =>
        rw [c1, c2] at h
        cases h
        obtain ⟨p1, vs, k1, rfl, hk1, rs1⟩ := (r1.ext x2).seq c1
        obtain ⟨p2, us, k2, rfl, hk2, rs2⟩ := r2.seq c2
        exact ⟨p1, p2, vs, us, k1, k2, rfl, hk1.at w2.sub, hk2.at w2.sub, q _ F2 G2 H2 (x1.trans w1 x2) w2 (walks_zip hk1 hk2 rs1 rs2)⟩
theorem i_enum {p tpos : Pos} {elts : List Expr} {kk : Nat} (hg : Gl X "enumerate") (hm : X.mg "enumerate" = none) (hs : notStar a = true) (pa : PE X a (rd X.K ma)) : PI X (.Tuple elts kk tpos) (.Call (.Name "enumerate" p) [a] [] pos)
    (rdI X.K fun ρ S => bnd (ma ρ S) fun x S => (seqD x).map fun xs => (enumD xs, S)) :=
  (pi_enum2 hg hm (pa_cons pa pa_nil (star_cons hs)) (star_cons hs)).imp fun σ H Q ⟨F, G, S, ρ, w, re, ds, S', em, q⟩ => by
    obtain ⟨x, S1, e1, h⟩ := bnd_some em
    obtain ⟨xs, e2, h⟩ := map_some h
    cases h
    refine ⟨F, G, S, ρ, w, re, x, S', e1, fun v F1 G1 H1 x1 w1 r1 => ?_⟩
    obtain ⟨p, vs, k, rfl, hk, rs⟩ := r1.seq e2
    exact ⟨p, vs, k, rfl, hk.at w1.sub, q _ F1 G1 H1 x1 w1 (walks_enum hk rs)⟩
end
/-! ### list comprehensions -/
def lcF (t : T) (mq : Env → Store → Option (Bool × Store)) (me : Env → Store → Option (D × Store)) (ρ : Env) : D → Store → Option (List D × Store) := fun d S => (match setTg t d (wipe ρ (tgNames t)) with
  | some ρ' => bnd (mq ρ' S) fun b S => if b then bnd (me ρ' S) fun y S => some ([y], S) else some ([], S)
  | none => none)
def lcM (mi : Env → Store → Option (List D × Store)) (t : T) (mq : Env → Store → Option (Bool × Store)) (me : Env → Store → Option (D × Store)) : Env → Store → Option (D × Store) := fun ρ S =>
  bnd (mi ρ S) fun ds S => bnd (loopC (lcF t mq me ρ) ds S) fun ys S => (lim ys).map fun ys => (.list ys, S)
theorem lc_rd {mi : Env → Store → Option (List D × Store)} {mq : Env → Store → Option (Bool × Store)} {me : Env → Store → Option (D × Store)} {t : T} {g : TG} {vs : List Nat} {Q : VK} (hg : TgG K g t) (hv : vs = tgNames t) (h : rdF K (lcM mi t mq me) σ H Q) :
    tLc (rdI K mi) g (rdT K mq) (rd K me) vs σ H Q := by
  obtain ⟨F, G, S, ρ, w, re, d, S', em, q⟩ := h
  obtain ⟨ds, S1, e1, h⟩ := bnd_some em
  obtain ⟨ys, S9, e2, h⟩ := bnd_some h
  obtain ⟨zs, e3, h9⟩ := map_some h
  obtain ⟨e4, hl⟩ := lim_some e3
  clear h
  subst e4 hv
  cases h9
  refine ⟨F, G, S, ρ, w, re, ds, S1, e1, fun J F1 G1 H1 x1 w1 wk L hL => ?_⟩
  have g1 : G1 L = none := by
    cases c : G1 L with
    | none => rfl
    | some o => rw [w1.sub L o c] at hL; cases hL
  have l1 : ∀ j, j < S1.length → L ≠ F1 j := fun j hj e => by
    obtain ⟨_, us, h, _⟩ := w1.loc j _ (List.getElem?_eq_getElem hj)
    rw [← e, hL] at h; cases h
  refine ⟨fun i m H2 => m = ds.length - i ∧ i ≤ ds.length ∧ ∃ F2 G2 S2 acc ya yr, Wd K F2 G2 H2 S2 ∧ Ext F1 G1 H1 S1.length F2 G2 H2 S2.length ∧ G2 L = none ∧ H2 L = some (.lst acc) ∧ (∀ j, j < S2.length → L ≠ F2 j) ∧ Rvs K F2 S2.length G2 acc ya ∧
    loopC (lcF t mq me ρ) (ds.drop i) S2 = some (yr, S') ∧ ya ++ yr = zs, ⟨ds.length, by simp, Nat.zero_le _, F1, G1, S1, [], [], zs, w1.newO hL, .newO w1 hL, g1, upd_same, l1, .nil, e2, rfl⟩, ?_⟩
  rintro i m H2 ⟨rfl, hi, F2, G2, S2, acc, ya, yr, w2, x2, g2, h2, l2, r2, e5, e6⟩
  by_cases hlt : i < ds.length
  · refine .inr ⟨wk.go i x2.fwd w2 hlt, fun H' => ds.length - (i + 1) = ds.length - (i + 1) ∧ i + 1 ≤ ds.length ∧ ∃ F2 G2 S2 acc ya yr, Wd K F2 G2 H' S2 ∧ Ext F1 G1 H1 S1.length F2 G2 H' S2.length ∧ G2 L = none ∧ H' L = some (.lst acc) ∧ (∀ j, j < S2.length → L ≠ F2 j) ∧ Rvs K F2 S2.length G2 acc ya ∧
      loopC (lcF t mq me ρ) (ds.drop (i + 1)) S2 = some (yr, S') ∧ ya ++ yr = zs, fun H' n => ⟨_, by omega, n⟩, fun x H3 y => ?_⟩
    rw [List.drop_eq_getElem_cons hlt] at e5
    obtain ⟨y1, S3, e7, h⟩ := bnd_some (show (bnd (lcF t mq me ρ ds[i] S2) fun y S => bnd (loopC (lcF t mq me ρ) (ds.drop (i + 1)) S) fun ys S => some (y ++ ys, S)) = some (yr, S') from e5)
    obtain ⟨yr', S4, e8, h9⟩ := bnd_some h
    cases h9
    clear h
    obtain ⟨G3, x3, w3, rx⟩ := wk.yld i x H3 ds[i] x2.fwd w2 y (List.getElem?_eq_getElem hlt)
    have x13 := x2.trans w2 x3
    have re3 := ((re.ext x1).ext x13).wipe (tgNames t)
    unfold lcF at e7
    cases e9 : setTg t ds[i] (wipe ρ (tgNames t)) with
    | none => rw [e9] at e7; cases e7
    | some ρ' =>
      rw [e9] at e7
      obtain ⟨b, S5, e10, h⟩ := bnd_some e7
      refine hg F2 G3 H3 S2 _ _ x ds[i] ρ' _ w3 re3 rx e9 fun σ' re' tk => ⟨?_, ?_⟩
      · rw [tk.wipe _ fun i h => h]
        have : ∀ vs ws : List Nat, (∀ i ∈ vs, i ∈ ws) → L2.wipe (L2.wipe σ vs) ws = L2.wipe σ ws := by
          intro vs
          induction vs with
          | nil => intro ws _; rfl
          | cons v vs ih =>
            intro ws hm
            rw [show L2.wipe σ (v :: vs) = (L2.wipe σ vs).set v none from rfl, wipe_set (hm v List.mem_cons_self), ih ws fun i hi => hm i (List.mem_cons_of_mem _ hi)]
        exact this _ _ fun i h => h
      refine ⟨F2, G3, S2, ρ', w3, re', b, S5, e10, fun b' F4 G4 H4 x4 w4 eb => ?_⟩
      subst eb
      have x14 := x13.trans w3 x4
      have h4 : H4 L = some (.lst acc) := x4.keep L _ (x3.keep L _ h2 l2) l2
      have g4 : G4 L = none := x4.notG (x3.notG g2 h2) (x3.keep L _ h2 l2)
      have l4 := x4.notF (x3.keep L _ h2 l2) l2
      cases b' with
      | false =>
        cases h
        exact ⟨rfl, hlt, F4, G4, S3, acc, ya, yr', w4, x14, g4, h4, l4, (r2.ext x3).ext x4, e8, e6⟩
      | true =>
        obtain ⟨z, S6, e11, h⟩ := bnd_some (show (bnd (me ρ' S5) fun y S => some ([y], S)) = some (y1, S3) from h)
        cases h
        refine ⟨F4, G4, S5, ρ', w4, re'.ext x4, z, S3, e11, fun v F5 G5 H5 x5 w5 rv => ?_⟩
        have h5 := x5.keep L _ h4 l4
        have l5 := x5.notF h4 l4
        have g5 := x5.notG g4 h4
        have r5 := ((r2.ext x3).ext x4).ext x5
        refine ⟨acc, h5, ?_, rfl, hlt, F5, G5, S3, acc ++ [v], ya ++ [z], yr', w5.updO g5 l5, (x14.trans w4 x5).updO hL, g5, upd_same, l5, r5.append (.cons rv .nil), e8, by rw [List.append_assoc]; exact e6⟩
        rw [r2.length]
        have : zs.length = ya.length + (1 + yr'.length) := by rw [← e6]; simp [Nat.add_comm]
        have := sz hl
        omega
  · have e : i = ds.length := by omega
    subst e
    rw [List.drop_length] at e5
    cases e5
    rw [List.append_nil] at e6
    subst e6
    refine .inl ⟨wk.stop x2.fwd w2, q _ F2 G2 H2 (x1.trans w1 x2) w2 ⟨L, acc, _, rfl, rfl, ?_, g2, h2, l2, r2⟩⟩
    cases c : H L with
    | none => rfl
    | some o => exact absurd hL (x1.there w1 rfl c)
def notSet : Expr → Bool
  | .Set _ _ _ => false
  | _ => true
theorem fold_no {e : Expr} {env : PySem.Env} (h : notSet e = true) : ∀ x, foldedSetIterable e env x = pure x := by
  intro x
  cases e <;> first | rfl | cases h
theorem pts_two {ifs : List Expr} {mq : Env → Store → Option (Bool × Store)} {c : Expr} (h : PT X c (rdT X.K mq)) : PTs X [c] (rdT X.K mq) := pts_one h
theorem pts_no : PTs X [] (rdT X.K fun _ S => some (true, S)) := ⟨fun pins s σ H Q I ⟨F, G, S, ρ, w, re, d, S', em, q⟩ => pts_nil.run pins s σ H Q I (by cases em; exact q true F G H .refl w rfl)⟩
end
end PyD

set_option Elab.async false
set_option linter.all false
set_option maxRecDepth 100000
/-! PyD, part 8: calls, statements. -/
namespace PyD
open PySem PySem.Spec PyProof.Rows L2
section
variable {X : Cx} {K : Frag} {F0 F F' F2 : Nat → Addr} {N N' : Nat} {G0 G G' G2 H0 H H' H2 : Hp} {S0 S S' S2 : Store} {σ σ' : L2.St} {ρ ρ' : Env} {pos : Pos}
/-! ### calls -/
def spC (K : Frag) (C : List D → Store → Option (D × Store)) : Sp := fun vs H Q _ => ∃ F G S ds, Wd K F G H S ∧ Rvs K F S.length G vs ds ∧ ∃ d S', C ds S = some (d, S') ∧ ∀ v F' G' H', Ext F G H S.length F' G' H' S'.length → Wd K F' G' H' S' → Rv K F' S'.length G' v d → Q v H'
section
variable {k : Nat} {f : Addr} {fd : FuncData} {ps : List Str} {C : List D → Store → Option (D × Store)} {x : Str} {p : Pos} {e : Expr} {es : List Expr} {ma : Env → Store → Option (List D × Store)}
theorem n_call (Fo : FnOk X.prog X.w X.K X.mg X.base CX0 k f fd ps (spC X.K C)) (hr : Room k X.A) (hg : Gl X x) (hm : X.mg x = some (.ref f)) (hk : PySem.W.keepIn X.K (.ref f) = true) (hb : Binds X.K fd ps []) (hdb : (x == ("__debug__" : Str)) = false) (hs : noStars (e :: es) = true) (pa : PA X (e :: es) (rdA X.K ma)) :
    PE X (.Call (.Name x p) (e :: es) [] pos) (rd X.K fun ρ S => bnd (ma ρ S) fun ds S => C ds S) := by
  have h' := Bool.and_eq_true_iff.mp hs
  refine (pe_call (E := E0) Fo hr hg hm hk hb .nil pass0 pa hdb (star_cons h'.1) (back_any h'.2)).imp fun σ H Q ⟨F, G, S, ρ, w, re, d, S', em, q⟩ => ?_
  obtain ⟨ds, S1, e1, h⟩ := bnd_some em
  refine ⟨F, G, S, ρ, w, re, ds, S1, e1, fun vs F1 G1 H1 x1 w1 r1 => ?_⟩
  show spC X.K C (vs ++ []) H1 Q E0
  rw [List.append_nil]
  exact ⟨F1, G1, S1, ds, w1, r1, d, S', h, fun v F2 G2 H2 x2 w2 r2 => q v F2 G2 H2 (x1.trans w1 x2) w2 r2⟩
theorem n_call0 (Fo : FnOk X.prog X.w X.K X.mg X.base CX0 k f fd ps (spC X.K C)) (hr : Room k X.A) (hg : Gl X x) (hm : X.mg x = some (.ref f)) (hk : PySem.W.keepIn X.K (.ref f) = true) (hb : Binds X.K fd ps []) (hdb : (x == ("__debug__" : Str)) = false) :
    PE X (.Call (.Name x p) [] [] pos) (rd X.K fun ρ S => C [] S) := by
  refine (pe_call0 (E := E0) Fo hr hg hm hk hb .nil pass0 hdb).imp fun σ H Q ⟨F, G, S, ρ, w, re, d, S', em, q⟩ => ?_
  exact ⟨F, G, S, [], w, .nil, d, S', em, q⟩
end
/-! ### statements -/
structure SE (K : Frag) (F0 : Nat → Addr) (G0 H0 : Hp) (S0 : Store) (F : Nat → Addr) (G H : Hp) (S : Store) (σ : L2.St) (ρ : Env) : Prop where
  w : Wd K F G H S
  re : RE K F S.length G H σ ρ
  x : Ext F0 G0 H0 S0.length F G H S.length
  ow : ∀ (i : Nat) xs a, ρ[i]? = some (.own xs) → σ[i]? = some (some (.ref a)) → H0 a = none
theorem SE.ext (s : SE K F0 G0 H0 S0 F G H S σ ρ) (y : Ext F G H S.length F' G' H' S'.length) (w : Wd K F' G' H' S') : SE K F0 G0 H0 S0 F' G' H' S' σ ρ :=
  ⟨w, s.re.ext y, s.x.trans s.w y, s.ow⟩
theorem SE.put (s : SE K F0 G0 H0 S0 F G H S σ ρ) (re : RE K F S.length G H σ' ρ') {ns : List Nat} (tk : TK σ ρ σ' ρ' ns) : SE K F0 G0 H0 S0 F G H S σ' ρ' :=
  ⟨s.w, re, s.x, fun i xs a h1 h2 => by
    obtain ⟨h3, e⟩ := tk.own i xs h1
    exact s.ow i xs a h3 (by rw [← e]; exact h2)⟩
theorem SE.fresh (s : SE K F0 G0 H0 S0 F G H S σ ρ) {a : Addr} (h : H a = none) : H0 a = none := by
  cases c : H0 a with
  | none => rfl
  | some o => exact absurd h (s.x.there s.w rfl c)
def Ends' (K : Frag) (F0 : Nat → Addr) (G0 H0 : Hp) (S0 : Store) (F : Nat → Addr) (G : Hp) (S : Store) (D : Ends) (S' : Store) : Res → Prop
  | .next ρ' => ∀ F' G' H' σ', SE K F0 G0 H0 S0 F' G' H' S' σ' ρ' → Fwd F G S.length F' G' S'.length → D.nx σ' H'
  | .ret d => ∀ F' G' H' v, Ext F0 G0 H0 S0.length F' G' H' S'.length → Wd K F' G' H' S' → Rv K F' S'.length G' v d → D.rt v H'
def rdS (K : Frag) (m : Env → Store → Option (Res × Store)) : TS := fun D σ H => ∃ F0 G0 H0 S0 F G S ρ, SE K F0 G0 H0 S0 F G H S σ ρ ∧ ∃ r S', m ρ S = some (r, S') ∧ Ends' K F0 G0 H0 S0 F G S D S' r
def seqM (m1 m2 : Env → Store → Option (Res × Store)) : Env → Store → Option (Res × Store) := fun ρ S => bnd (m1 ρ S) fun r S => (match r with
  | .next ρ => m2 ρ S
  | .ret d => some (.ret d, S))
theorem s_nil : PSs X [] (rdS X.K fun ρ S => some (.next ρ, S)) := pss_nil.imp fun D σ H ⟨F0, G0, H0, S0, F, G, S, ρ, se, r, S', em, q⟩ => by
  cases em
  exact q F G H σ se .refl
theorem s_pass : PS X (.Pass pos) (rdS X.K fun ρ S => some (.next ρ, S)) := ps_pass.imp fun D σ H ⟨F0, G0, H0, S0, F, G, S, ρ, se, r, S', em, q⟩ => by
  cases em
  exact q F G H σ se .refl
theorem s_doc {x : Str} {j : Nat} {p : Pos} : PS X (.Expr (.Constant (.str x) j p) pos) (rdS X.K fun ρ S => some (.next ρ, S)) := ps_doc.imp fun D σ H ⟨F0, G0, H0, S0, F, G, S, ρ, se, r, S', em, q⟩ => by
  cases em
  exact q F G H σ se .refl
theorem s_fail {st : Stmt} : PS X st (rdS X.K fun _ _ => none) := ps_never.imp fun D σ H ⟨F0, G0, H0, S0, F, G, S, ρ, se, r, S', em, q⟩ => by cases em
theorem s_seq {D : Ends} {m1 m2 : Env → Store → Option (Res × Store)} (h : rdS K (seqM m1 m2) D σ H) : rdS K m1 { D with nx := rdS K m2 D } σ H := by
  obtain ⟨F0, G0, H0, S0, F, G, S, ρ, se, r, S', em, q⟩ := h
  obtain ⟨r1, S1, e1, h⟩ := bnd_some em
  refine ⟨F0, G0, H0, S0, F, G, S, ρ, se, r1, S1, e1, ?_⟩
  cases r1 with
  | next ρ1 =>
    intro F1 G1 H1 σ1 se1 fw1
    refine ⟨F0, G0, H0, S0, F1, G1, S1, ρ1, se1, r, S', h, ?_⟩
    cases r with
    | next ρ2 => exact fun F2 G2 H2 σ2 se2 fw2 => q F2 G2 H2 σ2 se2 (fw1.trans fw2)
    | ret d => exact q
  | ret d => cases h; exact q
theorem s_cons {st : Stmt} {rest : List Stmt} {m1 m2 : Env → Store → Option (Res × Store)} (h1 : PS X st (rdS X.K m1)) (h2 : PSs X rest (rdS X.K m2)) : PSs X (st :: rest) (rdS X.K (seqM m1 m2)) :=
  (pss_cons h1 h2).imp fun D σ H h => s_seq h
theorem s_if {c : Expr} {a b : List Stmt} {mt : Env → Store → Option (Bool × Store)} {m1 m2 : Env → Store → Option (Res × Store)} (pc : PT X c (rdT X.K mt)) (h1 : PSs X a (rdS X.K m1)) (h2 : PSs X b (rdS X.K m2)) :
    PS X (.If c a b pos) (rdS X.K fun ρ S => bnd (mt ρ S) fun t S => if t then m1 ρ S else m2 ρ S) :=
  (ps_if pc h1 h2).imp fun D σ H ⟨F0, G0, H0, S0, F, G, S, ρ, se, r, S', em, q⟩ => by
    obtain ⟨t, S1, e1, h⟩ := bnd_some em
    refine ⟨F, G, S, ρ, se.w, se.re, t, S1, e1, fun b F1 G1 H1 x1 w1 eb => ?_⟩
    subst eb
    have q' : Ends' X.K F0 G0 H0 S0 F1 G1 S1 D S' r := by
      cases r with
      | next ρ2 => exact fun F2 G2 H2 σ2 se2 fw2 => q F2 G2 H2 σ2 se2 (x1.fwd.trans fw2)
      | ret d => exact q
    cases b with
    | true => exact ⟨F0, G0, H0, S0, F1, G1, S1, ρ, se.ext x1 w1, r, S', h, q'⟩
    | false => exact ⟨F0, G0, H0, S0, F1, G1, S1, ρ, se.ext x1 w1, r, S', h, q'⟩
theorem s_ret {e : Expr} {ma : Env → Store → Option (D × Store)} (pe : PE X e (rd X.K ma)) : PS X (.Return (some e) pos) (rdS X.K fun ρ S => bnd (ma ρ S) fun x S => some (.ret x, S)) :=
  (ps_ret pe).imp fun D σ H ⟨F0, G0, H0, S0, F, G, S, ρ, se, r, S', em, q⟩ => by
    obtain ⟨x, S1, e1, h⟩ := bnd_some em
    cases h
    exact ⟨F, G, S, ρ, se.w, se.re, x, S', e1, fun v F1 G1 H1 x1 w1 r1 => q F1 G1 H1 v (se.x.trans se.w x1) w1 r1⟩
theorem s_expr {e : Expr} {ma : Env → Store → Option (D × Store)} (pe : PE X e (rd X.K ma)) (hs : swapsWith e none pos.line X.env = pure false) : PS X (.Expr e pos) (rdS X.K fun ρ S => bnd (ma ρ S) fun x S => some (.next ρ, S)) :=
  (ps_expr pe hs).imp fun D σ H ⟨F0, G0, H0, S0, F, G, S, ρ, se, r, S', em, q⟩ => by
    obtain ⟨x, S1, e1, h⟩ := bnd_some em
    cases h
    exact ⟨F, G, S, ρ, se.w, se.re, x, S', e1, fun v F1 G1 H1 x1 w1 r1 => q F1 G1 H1 σ (se.ext x1 w1) x1.fwd⟩
/-! ### assignments -/
theorem rdF_of_rd {m : Env → Store → Option (D × Store)} {Q : VK} (h : rd K m σ H Q) : rdF K m σ H Q := by
  obtain ⟨F, G, S, ρ, w, re, d, S', em, q⟩ := h
  refine ⟨F, G, S, ρ, w, re, d, S', em, fun v F' G' H' x w' ⟨a, vs, xs, e1, e2, n1, n2, h1, hl, r⟩ => ?_⟩
  subst e1 e2
  refine q (.ref a) F' (upd G' a (.lst vs)) H' ⟨x.le, x.eqF, fun b o h => sub_upd n2 b o (x.subG b o h), x.keep, fun b h h2 => ?_, x.newF⟩ (w'.frz h1 n2 hl) (.lst upd_same (r.mono (fun _ _ => rfl) (Nat.le_refl _) (sub_upd n2)))
  by_cases z : b = a
  · rw [z]; exact n1
  · rw [upd_ne z] at h2; exact x.newG b h h2
theorem s_asg {st : Stmt} {te : TE} {g : TG} {t : T} {ma : Env → Store → Option (D × Store)} (p : PS X st (tAsg te g)) (ht : ∀ σ H Q, rd X.K ma σ H Q → te σ H Q) (hg : TgG X.K g t) :
    PS X st (rdS X.K fun ρ S => bnd (ma ρ S) fun x S => (setTg t x ρ).map fun ρ => (.next ρ, S)) :=
  p.imp fun D σ H ⟨F0, G0, H0, S0, F, G, S, ρ, se, r, S', em, q⟩ => by
    obtain ⟨x, S1, e1, h⟩ := bnd_some em
    obtain ⟨ρ', e2, h⟩ := map_some h
    cases h
    refine ht _ _ _ ⟨F, G, S, ρ, se.w, se.re, x, S', e1, fun v F1 G1 H1 x1 w1 r1 => ?_⟩
    have se1 := se.ext x1 w1
    exact hg F1 G1 H1 S' σ ρ v x ρ' _ w1 se1.re r1 e2 fun σ' re' tk => q F1 G1 H1 σ' (se1.put re' tk) x1.fwd
theorem SE.putO (se : SE K F0 G0 H0 S0 F G H S σ ρ) {a : Addr} {vs : List V} {xs : List D} (h0 : H0 a = none) (hg : G a = none) (h : H a = some (.lst vs)) (hl : ∀ j, j < S.length → a ≠ F j) (rv : Rvs K F S.length G vs xs)
    (i : Nat) (hs : ∀ j ys, j ≠ i → ρ[j]? = some (.own ys) → σ[j]? ≠ some (some (.ref a))) : SE K F0 G0 H0 S0 F G H S (σ.set i (some (.ref a))) (ρ.set i (.own xs)) :=
  ⟨se.w, se.re.put_own hg h hl rv i hs, se.x, fun j ys b h1 h2 => by
    rcases set_at h1 with ⟨rfl, q, l⟩ | ⟨c, q⟩
    · rw [List.getElem?_set_self (by rw [se.re.len]; exact l)] at h2
      cases h2
      exact h0
    · rw [List.getElem?_set_ne c] at h2
      exact se.ow j ys b q h2⟩
theorem s_asgO {st : Stmt} {te : TE} {i : Nat} {ma : Env → Store → Option (D × Store)} (p : PS X st (tAsg te (gName i))) (ht : ∀ σ H Q, rdF X.K ma σ H Q → te σ H Q) :
    PS X st (rdS X.K fun ρ S => bnd (ma ρ S) fun x S => (match x with | .list xs => some (.next (ρ.set i (.own xs)), S) | _ => none)) :=
  p.imp fun D σ H ⟨F0, G0, H0, S0, F, G, S, ρ, se, r, S', em, q⟩ => by
    obtain ⟨x, S1, e1, h⟩ := bnd_some em
    refine ht _ _ _ ⟨F, G, S, ρ, se.w, se.re, x, S1, e1, fun v F1 G1 H1 x1 w1 ⟨a, vs, xs, e2, e3, n1, g1, h1, l1, rv⟩ => ?_⟩
    subst e2 e3
    cases h
    have se1 := se.ext x1 w1
    refine q F1 G1 H1 _ (se1.putO (se.fresh n1) g1 h1 l1 rv i fun j ys _ e2 e3 => ?_) x1.fwd
    obtain ⟨b, us, e4, _, e5, _⟩ := se.re.own j ys e2
    rw [e3] at e4; cases e4
    rw [n1] at e5; cases e5
/-! ### what is written to a list -/
theorem RE.updO (r : RE K F N G H σ ρ) {i : Nat} {a : Addr} {xs ys : List D} {us : List V} (h1 : ρ[i]? = some (.own xs)) (h2 : σ[i]? = some (some (.ref a))) (rv : Rvs K F N G us ys) : RE K F N G (upd H a (.lst us)) σ (ρ.set i (.own ys)) where
  len := by simp [r.len]
  val := fun j e q => by
    rcases set_at q with ⟨rfl, q, l⟩ | ⟨c, q⟩
    · cases q
    · exact r.val j e q
  own := fun j e q => by
    rcases set_at q with ⟨rfl, q, l⟩ | ⟨c, q⟩
    · cases q
      obtain ⟨b, vs, e1, e2, e3, e4, e5⟩ := r.own i xs h1
      rw [h2] at e1; cases e1
      exact ⟨a, us, h2, e2, upd_same, e4, rv⟩
    · obtain ⟨b, vs, e1, e2, e3, e4, e5⟩ := r.own j e q
      refine ⟨b, vs, e1, e2, ?_, e4, e5⟩
      rw [upd_ne (fun z => c (r.sep i j xs e a h1 q h2 (by rw [← z]; exact e1)))]
      exact e3
  sep := fun j k zs ws b q1 q2 q3 q4 => by
    have own_of : ∀ {l : Nat} {ts : List D}, (ρ.set i (.own ys))[l]? = some (.own ts) → ∃ ts', ρ[l]? = some (.own ts') := fun {l ts} q => by
      rcases set_at q with ⟨rfl, q, _⟩ | ⟨c, q⟩
      · exact ⟨_, h1⟩
      · exact ⟨_, q⟩
    obtain ⟨_, p1⟩ := own_of q1
    obtain ⟨_, p2⟩ := own_of q2
    exact r.sep j k _ _ b p1 p2 q3 q4
theorem SE.updO (se : SE K F0 G0 H0 S0 F G H S σ ρ) {i : Nat} {a : Addr} {xs ys : List D} {us : List V} (h1 : ρ[i]? = some (.own xs)) (h2 : σ[i]? = some (some (.ref a))) (rv : Rvs K F S.length G us ys) : SE K F0 G0 H0 S0 F G (upd H a (.lst us)) S σ (ρ.set i (.own ys)) := by
  obtain ⟨b, vs, e1, e2, e3, e4, e5⟩ := se.re.own i xs h1
  rw [h2] at e1; cases e1
  refine ⟨se.w.updO e2 e4, se.re.updO h1 h2 rv, se.x.updO (se.ow i xs a h1 h2), fun j zs b q1 q2 => ?_⟩
  rcases set_at q1 with ⟨rfl, q, _⟩ | ⟨c, q⟩
  · exact se.ow i xs b h1 q2
  · exact se.ow j zs b q q2
theorem ld_var {i : Nat} {x : Str} {p : Pos} (hN : X.N[i]? = some x) (hv : Vis X.env.scope x) (hd : (x == ("__debug__" : Str)) = false) (hcd : (x == ("__classdict__" : Str)) = false) : PE X (.Name x p) (tVar i) := pe_var hN hv hd hcd
section
variable {i : Nat} {x : Str} {p apos cpos : Pos} {e : Expr} {ma mb : Env → Store → Option (D × Store)}
theorem s_app (hN : X.N[i]? = some x) (hv : Vis X.env.scope x) (hd : (x == ("__debug__" : Str)) = false) (hcd : (x == ("__classdict__" : Str)) = false) (pe : PE X e (rd X.K ma)) (hs : notStar e = true) (hline : (apos.endLine == cpos.line) = true) :
    PS X (.Expr (.Call (.Attribute (.Name x p) "append" apos) [e] [] cpos) pos) (rdS X.K fun ρ S => bnd (ma ρ S) fun x S => (match ρ[i]? with
      | some (.own xs) => if xs.length < LIM then some (.next (ρ.set i (.own (xs ++ [x]))), S) else none
      | _ => none)) :=
  (ps_expr (pe_bm F.plainAttrs_list F.slot_list_append rfl mt_append (pe_var hN hv hd hcd) (pa_cons pe pa_nil (star_cons hs)) rfl (by rw [star_cons hs]; rfl) hline (star_cons hs) rfl) rfl).imp fun D σ H ⟨F0, G0, H0, S0, F, G, S, ρ, se, r, S', em, q⟩ => by
    obtain ⟨d, S1, e1, h⟩ := bnd_some em
    split at h
    · rename_i xs ho
      split at h
      · rename_i hlt
        cases h
        obtain ⟨a, vs, h1, h2, h3, h4, h5⟩ := se.re.own i xs ho
        refine ⟨_, h1, .inl ⟨rfl, vs, .of h3⟩, F, G, S, ρ, se.w, se.re, d, S', e1, fun v F1 G1 H1 x1 w1 r1 => ?_⟩
        have se1 := se.ext x1 w1
        obtain ⟨b, us, e1', e2', e3', e4', e5'⟩ := se1.re.own i xs ho
        rw [h1] at e1'; cases e1'
        refine ⟨a, us, v, rfl, rfl, e3', ?_, q F1 G1 _ σ (se1.updO ho h1 (e5'.append (.cons r1 .nil))) x1.fwd⟩
        rw [e5'.length]
        have : xs.length < 100000 := hlt
        have := sz (Nat.le_refl 100000)
        omega
      · cases h
    · cases h
theorem s_ext (hN : X.N[i]? = some x) (hv : Vis X.env.scope x) (hd : (x == ("__debug__" : Str)) = false) (hcd : (x == ("__classdict__" : Str)) = false) (pe : PE X e (rd X.K ma)) (hs : notStar e = true) (hline : (apos.endLine == cpos.line) = true) :
    PS X (.Expr (.Call (.Attribute (.Name x p) "extend" apos) [e] [] cpos) pos) (rdS X.K fun ρ S => bnd (ma ρ S) fun x S => (match ρ[i]?, x with
      | some (.own xs), .list ys => if (xs ++ ys).length < LIM then some (.next (ρ.set i (.own (xs ++ ys))), S) else none
      | _, _ => none)) :=
  (ps_expr (pe_bm F.plainAttrs_list F.slot_list_extend rfl mt_extend (pe_var hN hv hd hcd) (pa_cons pe pa_nil (star_cons hs)) rfl (by rw [star_cons hs]; rfl) hline (star_cons hs) rfl) rfl).imp fun D σ H ⟨F0, G0, H0, S0, F, G, S, ρ, se, r, S', em, q⟩ => by
    obtain ⟨d, S1, e1, h⟩ := bnd_some em
    split at h
    · rename_i xs ys ho
      split at h
      · rename_i hlt
        cases h
        obtain ⟨a, vs, h1, h2, h3, h4, h5⟩ := se.re.own i xs ho
        refine ⟨_, h1, .inl ⟨rfl, vs, .of h3⟩, F, G, S, ρ, se.w, se.re, _, S', e1, fun v F1 G1 H1 x1 w1 r1 => ?_⟩
        have se1 := se.ext x1 w1
        obtain ⟨b, us, e1', e2', e3', e4', e5'⟩ := se1.re.own i xs ho
        rw [h1] at e1'; cases e1'
        obtain ⟨c, ws, rfl, hc, rc⟩ := Rb.list w1 (.inl r1)
        refine ⟨a, c, us, ws, rfl, rfl, e3', hc, ?_, q F1 G1 _ σ (se1.updO ho h1 (e5'.append rc)) x1.fwd⟩
        rw [e5'.length, rc.length]
        have h9 : (xs ++ ys).length < 100000 := hlt
        rw [List.length_append] at h9
        have := sz (Nat.le_refl 100000)
        omega
      · cases h
    · cases h
theorem Ext.updL {n : Nat} {o : HO} (y : Ext F0 G0 H0 S0.length F G H S.length) (hn : n < S.length) : Ext F0 G0 H0 S0.length F G (upd H (F n) o) S.length where
  le := y.le
  eqF := y.eqF
  subG := y.subG
  keep := fun b u e hne => by
    rw [upd_ne]
    · exact y.keep b u e hne
    · intro z
      subst z
      by_cases c : n < S0.length
      · exact hne n c (y.eqF n c)
      · rw [y.newF n (by omega) hn] at e; cases e
  newG := y.newG
  newF := y.newF
theorem ixN_set {n : Nat} {k : Int} {j : Nat} (h : L2.ixN n k = some j) : j < n := by
  unfold L2.ixN at h
  split at h <;> split at h <;> first | (cases h; omega) | cases h
def notSlice : Expr → Bool
  | .Slice _ _ _ _ => false
  | _ => true
theorem plainIx {b : Expr} (h : notSlice b = true) : PlainIx b := by
  intro o i
  cases b <;> first | rfl | cases h
theorem asg_sub {o i : Expr} {pos : Pos} {env : PySem.Env} (h : notSlice i = true) : ∀ v, assign (.Subscript o i pos) env v = (do
      let ov ← holding [v] (eval o env)
      let iv ← holding [v, ov] (eval i env)
      standAt pos
      holding [v, ov, iv] (setItem ov iv v)
      release [v, ov, iv] []) := by
  intro v
  cases i <;> first | rfl | cases h
theorem s_seti {tpos : Pos} {ie : Expr} (hN : X.N[i]? = some x) (hv : Vis X.env.scope x) (hd : (x == ("__debug__" : Str)) = false) (hcd : (x == ("__classdict__" : Str)) = false) (pe : PE X e (rd X.K ma)) (pi : PE X ie (rdB X.K mb)) (hsl : notSlice ie = true)
    (hsw : swapsWithSole [.Subscript (.Name x p) ie tpos] e pos.line X.env = pure false) (hss : swappedStores [.Subscript (.Name x p) ie tpos] e X.env = pure none) :
    PS X (.Assign [.Subscript (.Name x p) ie tpos] e pos) (rdS X.K fun ρ S => bnd (ma ρ S) fun x S => bnd (mb ρ S) fun y S => (match ρ[i]?, y with
    | some (.own xs), .int k => (match L2.ixN xs.length k with
      | some j => some (.next (ρ.set i (.own (xs.set j x))), S)
      | none => none)
    | some (.val (.dict [(.int n, .none)])), .int k => if n < 0 then none else (match S[n.toNat]? with
      | some xs => (match L2.ixN xs.length k with
        | some j => some (.next ρ, S.set n.toNat (xs.set j x))
        | none => none)
      | none => none)
    | _, _ => none)) :=
  (ps_asg pe (pg_sub (pe_var hN hv hd hcd) pi set_list (asg_sub hsl)) hsw hss).imp fun D σ H ⟨F0, G0, H0, S0, F, G, S, ρ, se, r, S', em, q⟩ => by
    obtain ⟨d, S1, e1, h⟩ := bnd_some em
    obtain ⟨y, S2, e2, h⟩ := bnd_some h
    refine ⟨F, G, S, ρ, se.w, se.re, d, S1, e1, fun v F1 G1 H1 x1 w1 r1 => ?_⟩
    have se1 := se.ext x1 w1
    split at h
    · rename_i xs k ho
      split at h
      · rename_i j ej
        cases h
        obtain ⟨a, vs, h1, h2, h3, h4, h5⟩ := se1.re.own i xs ho
        refine ⟨_, h1, F1, G1, S1, ρ, w1, se1.re, _, S', e2, fun v2 F2 G2 H2 x2 w2 r2 => ?_⟩
        have se2 := se1.ext x2 w2
        obtain ⟨b, us, e1', e2', e3', e4', e5'⟩ := se2.re.own i xs ho
        rw [h1] at e1'; cases e1'
        refine ⟨a, us, k, j, rfl, r2.int, e3', by rw [e5'.length]; exact ej, q F2 G2 _ σ (se2.updO ho h1 (e5'.set (r1.ext x2) j)) (x1.fwd.trans x2.fwd)⟩
      · cases h
    · rename_i n k ho
      split at h
      · cases h
      · split at h
        · rename_i xs es
          split at h
          · rename_i j ej
            cases h
            obtain ⟨v0, h1, rl⟩ := se1.re.val i _ ho
            refine ⟨_, h1, F1, G1, S1, ρ, w1, se1.re, _, S2, e2, fun v2 F2 G2 H2 x2 w2 r2 => ?_⟩
            have se2 := se1.ext x2 w2
            obtain ⟨m, rfl, hm, rfl⟩ := Rb.loc (K := X.K) (F := F2) (N := S2.length) (G := G2) (H := H2) (.inl (rl.ext x2))
            obtain ⟨g2, vs, h2, rv⟩ := w2.loc m xs es
            have hl : (S2.set m (xs.set j d)).length = S2.length := by simp
            refine ⟨F2 m, vs, k, j, rfl, r2.int, h2, by rw [rv.length]; exact ej, q F2 G2 _ σ ⟨?_, ?_, ?_, ?_⟩ (by
              have z := x1.fwd.trans x2.fwd
              exact ⟨by rw [show ((m : Int)).toNat = m from rfl, hl]; exact z.le, z.eqF, z.subG⟩)⟩
            · show Wd X.K F2 G2 _ (S2.set m (xs.set j d))
              refine ⟨fun b u eb => ?_, fun a b ha hb => w2.inj a b (by omega) (by omega), fun l zs el => ?_⟩
              · rw [upd_ne (fun z => by rw [z, g2] at eb; cases eb)]; exact w2.sub b u eb
              · rw [hl]
                rcases set_at el with ⟨rfl, ez, _⟩ | ⟨c, el⟩
                · subst ez
                  exact ⟨g2, _, upd_same, rv.set (r1.ext x2) j⟩
                · obtain ⟨g3, us, h3, ru⟩ := w2.loc l zs el
                  refine ⟨g3, us, ?_, ru⟩
                  rw [upd_ne (fun z => c ((w2.inj l m (List.getElem?_eq_some_iff.mp el).1 hm z).symm))]
                  exact h3
            · show RE X.K F2 (S2.set m (xs.set j d)).length G2 _ σ ρ
              rw [hl]
              refine ⟨se2.re.len, se2.re.val, fun l zs el => ?_, se2.re.sep⟩
              obtain ⟨b, us, a1, a2, a3, a4, a5⟩ := se2.re.own l zs el
              exact ⟨b, us, a1, a2, by rw [upd_ne (a4 m hm)]; exact a3, a4, a5⟩
            · show Ext F0 G0 H0 S0.length F2 G2 _ (S2.set m (xs.set j d)).length
              rw [hl]
              exact se2.x.updL hm
            · exact se2.ow
          · cases h
        · cases h
    · cases h
end
/-! ### a list is kept from here on -/
def frzM (i : Nat) : Env → Store → Option (Res × Store) := fun ρ S => (match ρ[i]? with
    | some (.own xs) => some (.next (ρ.set i (.val (.list xs))), S)
    | some (.val d) => some (.next ρ, S)
    | _ => none)
theorem s_frz {i : Nat} {m : Env → Store → Option (Res × Store)} {D : Ends} (h : rdS K (seqM (frzM i) m) D σ H) : rdS K m D σ H := by
  obtain ⟨F0, G0, H0, S0, F, G, S, ρ, se, r, S', em, q⟩ := h
  obtain ⟨r1, S1, e1, h⟩ := bnd_some em
  unfold frzM at e1
  split at e1
  · rename_i xs ho
    cases e1
    obtain ⟨a, vs, h1, h2, h3, h4, h5⟩ := se.re.own i xs ho
    have sub := sub_upd (o := .lst vs) h2
    have fw : Fwd F G S.length F (upd G a (.lst vs)) S.length := ⟨Nat.le_refl _, fun _ _ => rfl, sub⟩
    have se' : SE K F0 G0 H0 S0 F (upd G a (.lst vs)) H S σ (ρ.set i (.val (.list xs))) := by
      refine ⟨se.w.frz h3 h2 h4, ⟨by simp [se.re.len], fun j d e => ?_, fun j ys e => ?_, fun j k ys zs b q1 q2 q3 q4 => ?_⟩, ⟨se.x.le, se.x.eqF, fun b o e => sub b o (se.x.subG b o e), se.x.keep, fun b e1 e2 => ?_, se.x.newF⟩, fun j ys b q1 q2 => ?_⟩
      · rcases set_at e with ⟨rfl, e, _⟩ | ⟨c, e⟩
        · cases e
          exact ⟨_, h1, .lst upd_same (h5.fwd fw)⟩
        · obtain ⟨v, e1, e2⟩ := se.re.val j d e
          exact ⟨v, e1, e2.fwd fw⟩
      · rcases set_at e with ⟨rfl, e, _⟩ | ⟨c, e⟩
        · cases e
        · obtain ⟨b, us, a1, a2, a3, a4, a5⟩ := se.re.own j ys e
          refine ⟨b, us, a1, ?_, a3, a4, a5.fwd fw⟩
          rw [upd_ne (fun z => c (se.re.sep i j xs ys a ho e h1 (by rw [← z]; exact a1)))]
          exact a2
      · rcases set_at q1 with ⟨rfl, e, _⟩ | ⟨c1, q1⟩
        · cases e
        rcases set_at q2 with ⟨rfl, e, _⟩ | ⟨c2, q2⟩
        · cases e
        exact se.re.sep j k ys zs b q1 q2 q3 q4
      · by_cases z : b = a
        · rw [z]; exact se.ow i xs a ho h1
        · rw [upd_ne z] at e2; exact se.x.newG b e1 e2
      · rcases set_at q1 with ⟨rfl, e, _⟩ | ⟨c1, q1⟩
        · cases e
        exact se.ow j ys b q1 q2
    refine ⟨F0, G0, H0, S0, F, _, S, _, se', r, S', h, ?_⟩
    cases r with
    | next ρ2 => exact fun F2 G2 H2 σ2 se2 fw2 => q F2 G2 H2 σ2 se2 (fw.trans fw2)
    | ret d => exact q
  · cases e1
    exact ⟨F0, G0, H0, S0, F, G, S, ρ, se, r, S', h, q⟩
  · cases e1
/-! ### loops -/
theorem Ends'.from {D : Ends} {r : Res} {S1 S' : Store} {F1 : Nat → Addr} {G1 : Hp} (q : Ends' K F0 G0 H0 S0 F G S D S' r) (fw : Fwd F G S.length F1 G1 S1.length) : Ends' K F0 G0 H0 S0 F1 G1 S1 D S' r := by
  cases r with
  | next ρ2 => exact fun F2 G2 H2 σ2 se2 fw2 => q F2 G2 H2 σ2 se2 (fw.trans fw2)
  | ret d => exact q
def forF (t : T) (mb : Env → Store → Option (Res × Store)) : D → Env → Store → Option (Res × Store) := fun d ρ S => (match setTg t d ρ with
      | some ρ => mb ρ S
      | none => none)
theorem s_for {tg it : Expr} {body : List Stmt} {g : TG} {t : T} {mi : Env → Store → Option (List D × Store)} {mb : Env → Store → Option (Res × Store)} (hx : X.xe = fun _ _ => False) (hc : X.calm = true) (pi : PI X tg it (rdI X.K mi)) (pg : PG X tg g) (hg : TgG X.K g t) (hb : PSs X body (rdS X.K mb)) (hn : notSet it = true) :
    PS X (.For tg it body [] pos) (rdS X.K fun ρ S => bnd (mi ρ S) fun ds S => loopF (forF t mb) ds ρ S) :=
  (ps_for (by rw [hx]; exact .never) hc pi pg hb (fold_no hn)).imp fun D σ H ⟨F0, G0, H0, S0, F, G, S, ρ, se, r, S', em, q⟩ => by
    obtain ⟨ds, S1, e1, h⟩ := bnd_some em
    refine ⟨F, G, S, ρ, se.w, se.re, ds, S1, e1, fun J F1 G1 H1 x1 w1 wk => ?_⟩
    refine ⟨fun i m σ' H' => m = ds.length - i ∧ i ≤ ds.length ∧ ∃ F2 G2 S2 ρ2, SE X.K F0 G0 H0 S0 F2 G2 H' S2 σ' ρ2 ∧ Fwd F1 G1 S1.length F2 G2 S2.length ∧ loopF (forF t mb) (ds.drop i) ρ2 S2 = some (r, S'), ⟨ds.length, by simp, Nat.zero_le _, F1, G1, S1, ρ, se.ext x1 w1, .refl, h⟩, ?_⟩
    rintro i m σ2 H2 ⟨rfl, hi, F2, G2, S2, ρ2, se2, fw2, h2⟩
    by_cases hlt : i < ds.length
    · refine .inr ⟨wk.go i fw2 se2.w hlt, fun σ' H' => ds.length - (i + 1) = ds.length - (i + 1) ∧ i + 1 ≤ ds.length ∧ ∃ F2 G2 S2 ρ2, SE X.K F0 G0 H0 S0 F2 G2 H' S2 σ' ρ2 ∧ Fwd F1 G1 S1.length F2 G2 S2.length ∧ loopF (forF t mb) (ds.drop (i + 1)) ρ2 S2 = some (r, S'), fun σ' H' n => ⟨_, by omega, n⟩, fun x H3 y => ?_⟩
      rw [List.drop_eq_getElem_cons hlt] at h2
      obtain ⟨r1, S3, e3, h3⟩ := bnd_some (show (bnd (forF t mb ds[i] ρ2 S2) fun r S => (match r with
        | .next ρ => loopF (forF t mb) (ds.drop (i + 1)) ρ S
        | .ret d => some (.ret d, S))) = some (r, S') from h2)
      obtain ⟨G3, x3, w3, rx⟩ := wk.yld i x H3 ds[i] fw2 se2.w y (List.getElem?_eq_getElem hlt)
      unfold forF at e3
      cases e4 : setTg t ds[i] ρ2 with
      | none => rw [e4] at e3; cases e3
      | some ρ3 =>
        rw [e4] at e3
        have se3 := se2.ext x3 w3
        refine hg F2 G3 H3 S2 σ2 ρ2 x ds[i] ρ3 _ w3 se3.re rx e4 fun σ3 re3 tk => ?_
        refine ⟨F0, G0, H0, S0, F2, G3, S2, ρ3, se3.put re3 tk, r1, S3, e3, ?_⟩
        cases r1 with
        | next ρ4 => exact fun F4 G4 H4 σ4 se4 fw4 => ⟨rfl, hlt, F4, G4, S3, ρ4, se4, (fw2.trans x3.fwd).trans fw4, h3⟩
        | ret d => cases h3; exact q
    · have e : i = ds.length := by omega
      subst e
      rw [List.drop_length] at h2
      cases h2
      exact .inl ⟨wk.stop fw2 se2.w, q F2 G2 H2 σ2 se2 (x1.fwd.trans fw2)⟩
theorem s_whl {c : Expr} {body : List Stmt} {n : Nat} {mt : Env → Store → Option (Bool × Store)} {mb : Env → Store → Option (Res × Store)} (hx : X.xe = fun _ _ => False) (pc : PT X c (rdT X.K mt)) (hb : PSs X body (rdS X.K mb)) :
    PS X (.While c body [] pos) (rdS X.K fun ρ S => loopW mt mb n ρ S) :=
  (ps_while (by rw [hx]; exact .never) pc hb).imp fun D σ H ⟨F0, G0, H0, S0, F, G, S, ρ, se, r, S', em, q⟩ => by
    refine ⟨fun m σ' H' => ∃ F2 G2 S2 ρ2, SE X.K F0 G0 H0 S0 F2 G2 H' S2 σ' ρ2 ∧ Fwd F G S.length F2 G2 S2.length ∧ loopW mt mb m ρ2 S2 = some (r, S'), ⟨n, F, G, S, ρ, se, .refl, em⟩, ?_⟩
    rintro m σ2 H2 ⟨F2, G2, S2, ρ2, se2, fw2, h2⟩
    cases m with
    | zero => cases h2
    | succ m =>
      obtain ⟨b, S3, e3, h3⟩ := bnd_some (show (bnd (mt ρ2 S2) fun b S => if b then bnd (mb ρ2 S) fun r S => (match r with
        | .next ρ => loopW mt mb m ρ S
        | .ret d => some (.ret d, S)) else some (.next ρ2, S)) = some (r, S') from h2)
      refine ⟨F2, G2, S2, ρ2, se2.w, se2.re, b, S3, e3, fun b' F4 G4 H4 x4 w4 eb => ?_⟩
      subst eb
      have se4 := se2.ext x4 w4
      cases b' with
      | false =>
        cases h3
        exact q F4 G4 H4 σ2 se4 (fw2.trans x4.fwd)
      | true =>
        obtain ⟨r1, S5, e5, h5⟩ := bnd_some (show (bnd (mb ρ2 S3) fun r S => (match r with
          | .next ρ => loopW mt mb m ρ S
          | .ret d => some (.ret d, S))) = some (r, S') from h3)
        refine ⟨fun σ' H' => ∃ F2 G2 S2 ρ2, SE X.K F0 G0 H0 S0 F2 G2 H' S2 σ' ρ2 ∧ Fwd F G S.length F2 G2 S2.length ∧ loopW mt mb m ρ2 S2 = some (r, S'), fun σ' H' n => ⟨m, by omega, n⟩, F0, G0, H0, S0, F4, G4, S3, ρ2, se4, r1, S5, e5, ?_⟩
        cases r1 with
        | next ρ4 => exact fun F6 G6 H6 σ6 se6 fw6 => ⟨F6, G6, S5, ρ4, se6, (fw2.trans x4.fwd).trans fw6, h5⟩
        | ret d => cases h5; exact q
end
end PyD

set_option Elab.async false
set_option linter.all false
set_option maxRecDepth 100000
/-! PyD, part 9: which tree an expression has; what the tree yields, the expression yields. -/
namespace PyD
open PySem PySem.Spec PyProof.Rows L2
inductive Syn where
  | e (x : Expr) | es (xs : List Expr) | o (x : Option Expr) | it (tg x : Expr)
structure Cc where
  N : List Str
  sc : Scope
  fn : Str → Bool
  fns : List Str
  fr : List Str
  cs : List (Str × D)
  gc : Bool
mutual
def beqD : D → D → Bool
  | .none, .none => true
  | .bool a, .bool b => decide (a = b)
  | .int a, .int b => decide (a = b)
  | .str a, .str b => decide (a = b)
  | .list a, .list b => beqDs a b
  | .tuple a, .tuple b => beqDs a b
  | _, _ => false
def beqDs : List D → List D → Bool
  | [], [] => true
  | a :: as, b :: bs => beqD a b && beqDs as bs
  | _, _ => false
end
mutual
theorem beqD_eq : ∀ {a b : D}, beqD a b = true → a = b
  | .none, b, h => by cases b <;> first | rfl | (simp [beqD] at h; done)
  | .bool x, b, h => by cases b <;> first | (simp [beqD] at h; subst h; rfl) | (simp [beqD] at h; done)
  | .int x, b, h => by cases b <;> first | (simp [beqD] at h; subst h; rfl) | (simp [beqD] at h; done)
  | .str x, b, h => by cases b <;> first | (simp [beqD] at h; subst h; rfl) | (simp [beqD] at h; done)
  | .list x, b, h => by
    cases b <;> first | (simp [beqD] at h; done) | skip
    rw [beqD] at h; rw [beqDs_eq h]
  | .tuple x, b, h => by
    cases b <;> first | (simp [beqD] at h; done) | skip
    rw [beqD] at h; rw [beqDs_eq h]
  | .dict x, b, h => by cases b <;> (simp [beqD] at h; done)
theorem beqDs_eq : ∀ {a b : List D}, beqDs a b = true → a = b
  | [], b, h => by cases b <;> first | rfl | (simp [beqDs] at h; done)
  | x :: xs, b, h => by
    cases b <;> first | (simp [beqDs] at h; done) | skip
    rw [beqDs] at h
    have h' := Bool.and_eq_true_iff.mp h
    rw [beqD_eq h'.1, beqDs_eq h'.2]
end
def cstB : Const → D → Bool
  | .none, .none => true
  | .bool a, .bool b => decide (a = b)
  | .int a, .int b => decide (a = b)
  | .str a, .str b => decide (a = b)
  | _, _ => false
def visB (sc : Scope) (x : Str) : Bool := match sc.names.lookup x with
  | some .local => true
  | some .cell => true
  | some .free => true
  | _ => false
def locB (sc : Scope) (x : Str) : Bool := match sc.names.lookup x with
  | some .local => true
  | some .cell => true
  | _ => false
def lclB (sc : Scope) (x : Str) : Bool := match sc.names.lookup x with
  | some .local => true
  | _ => false
def glB (sc : Scope) (x : Str) : Bool := match sc.names.lookup x with
  | some .globalImplicit => true
  | _ => false
def nmB (c : Cc) (i : Nat) (x : Str) : Bool := decide (c.N[i]? = some x) && (visB c.sc x && (!(x == ("__debug__" : Str)) && !(x == ("__classdict__" : Str))))
/-- a name that is stored -/
def stB (c : Cc) (i : Nat) (x : Str) : Bool := decide (c.N[i]? = some x) && (locB c.sc x && (c.fn x || lclB c.sc x))
def blB (c : Cc) (x y : Str) : Bool := decide (x = y) && (glB c.sc x && decide (x ∈ c.fr))
def opOf : Bop → Operator
  | .add => .Add | .sub => .Sub | .mul => .Mult | .fdiv => .FloorDiv | .mod => .Mod | .pow => .Pow
def copOf : Cop → CmpOp
  | .eq => .Eq | .ne => .NotEq | .lt => .Lt | .le => .LtE | .gt => .Gt | .ge => .GtE | .inn => .In | .nin => .NotIn | .isN => .Is | .notN => .IsNot
def b1n : B1 → Option Str
  | .len => some "len" | .abs => some "abs" | .int => some "int" | .list => some "list" | .tuple => some "tuple" | .sum => some "sum" | .all => some "all" | .any => some "any" | _ => none
def isn : B1 → Option Str
  | .isInt => some "int" | .isBool => some "bool" | .isStr => some "str" | .isTup => some "tuple" | .isLst => some "list" | _ => none
def blkP (N : List Str) (sc scope : Scope) (own : List (Str × Nat)) : Prop := scope.kind = .function ∧ (∀ y ∈ scope.names, scope.names.lookup y.1 = some y.2) ∧ (∀ p ∈ own, N[p.2]? = some p.1) ∧
  (∀ y ∈ scope.names, y.2 = .free → sc.names.lookup y.1 = some .cell ∨ sc.names.lookup y.1 = some .free) ∧ (∀ y ∈ scope.names, y.2 = .local ∨ y.2 = .cell → y.1 ∈ own.map (·.1) ∨ y.1 ∉ N)
instance {N : List Str} {sc scope : Scope} {own : List (Str × Nat)} : Decidable (blkP N sc scope own) := by unfold blkP; infer_instance
def ownOf (N : List Str) (t : T) : List (Str × Nat) := (tgNames t).map fun i => (N.getD i default, i)
def Cc.blk (c : Cc) (scope : Scope) : Cc := { c with sc := relS scope c.sc, fn := fun x => scope.names.lookup x == some .cell }
/-- targets -/
def chkG (c : Cc) : T → Syn → Bool
  | .nm i, s => (match s with
    | .e (.Name x _) => stB c i x
    | _ => false)
  | .anil, s => (match s with
    | .es [] => true
    | _ => false)
  | .acons a r, s => (match s with
    | .e (.Tuple (e :: es) _ _) => noStars (e :: es) && (chkG c a (.e e) && chkG c r (.es es))
    | .es (e :: es) => notStar e && (chkG c a (.e e) && chkG c r (.es es))
    | _ => false)
  | _, _ => false
def chk : T → Cc → Syn → Bool
  | .cst d, c, s => (match s with
    | .e (.Constant k _ _) => cstB k d
    | .e (.Name x _) => glB c.sc x && (!(x == ("__debug__" : Str)) && (match c.cs.lookup x with
      | some d' => beqD d' d
      | none => false))
    | _ => false)
  | .var i, c, s => (match s with
    | .e (.Name x _) => nmB c i x
    | _ => false)
  | .bor i, c, s => (match s with
    | .e (.Name x _) => nmB c i x
    | _ => false)
  | .bop o a b, c, s => (match s with
    | .e (.BinOp l op r _) => decide (op = opOf o) && (chk a c (.e l) && chk b c (.e r))
    | _ => false)
  | .neg a, c, s => (match s with
    | .e (.UnaryOp .USub l _) => chk a c (.e l)
    | _ => false)
  | .notv a, c, s => (match s with
    | .e (.UnaryOp .Not l _) => chk a c (.e l)
    | _ => false)
  | .band a b, c, s => (match s with
    | .e (.BoolOp .And (l :: r :: rest) p) => chk a c (.e l) && (match rest with
      | [] => chk b c (.e r)
      | _ => chk b c (.e (.BoolOp .And (r :: rest) p)))
    | _ => false)
  | .borr a b, c, s => (match s with
    | .e (.BoolOp .Or (l :: r :: rest) p) => chk a c (.e l) && (match rest with
      | [] => chk b c (.e r)
      | _ => chk b c (.e (.BoolOp .Or (r :: rest) p)))
    | _ => false)
  | .cmp o a b, c, s => (match s with
    | .e (.Compare l [op] [r] _) => decide (op = copOf o) && (!behindInMarks op r && (chk a c (.e l) && chk b c (.e r)))
    | _ => false)
  | .chn o1 o2 a b d, c, s => (match s with
    | .e (.Compare l [op1, op2] [r, z] _) => decide (op1 = copOf o1) && (decide (op2 = copOf o2) && (!lastMarks [op1, op2] [r, z] && (chk a c (.e l) && (chk b c (.e r) && chk d c (.e z)))))
    | _ => false)
  | .ite t a b, c, s => (match s with
    | .e (.IfExp x l r _) => chk t c (.e x) && (chk a c (.e l) && chk b c (.e r))
    | _ => false)
  | .call f as, c, s => (match s with
    | .e (.Call (.Name x _) es [] _) => decide (c.fns[f]? = some x) && (glB c.sc x && (noStars es && chk as c (.es es)))
    | _ => false)
  | .b1 b a, c, s => (match s with
    | .e (.Call (.Name x _) [l] [] _) => notStar l && ((match b1n b with
      | some y => blB c x y
      | none => false) && chk a c (.e l))
    | .e (.Call (.Name x _) [l, .Name y _] [] _) => notStar l && (blB c x "isinstance" && ((match isn b with
      | some z => blB c y z
      | none => false) && chk a c (.e l)))
    | _ => false)
  | .b2 b a d, c, s => (match s with
    | .e (.Call (.Name x _) [l, r] [] _) => notStar l && (notStar r && ((match b with
      | .min => blB c x "min"
      | .max => blB c x "max"
      | .gcd => decide (x = "gcd") && (glB c.sc x && c.gc)
      | .lcm => false) && (chk a c (.e l) && chk d c (.e r))))
    | _ => false)
  | .tup as, c, s => (match s with
    | .e (.Tuple es _ _) => chk as c (.es es)
    | _ => false)
  | .lst as, c, s => (match s with
    | .e (.List es _) => chk as c (.es es)
    | _ => false)
  | .mkl as, c, s => (match s with
    | .e (.List es _) => chk as c (.es es)
    | _ => false)
  | .ix a b, c, s => (match s with
    | .e (.Subscript l r _) => notSlice r && (chk a c (.e l) && chk b c (.e r))
    | _ => false)
  | .sl a lo hi, c, s => (match s with
    | .e (.Subscript l (.Slice x y none _) _) => chk a c (.e l) && (chk lo c (.o x) && chk hi c (.o y))
    | _ => false)
  | .rev a, c, s => (match s with
    | .e (.Subscript l (.Slice none none (some (.UnaryOp .USub (.Constant (.int i) _ _) _)) _) _) => decide (i = 1) && chk a c (.e l)
    | _ => false)
  | .tl a, c, s => (match s with
    | .e (.Call (.Name x _) [l] [] _) => blB c x "tuple" && (notStar l && chk a c (.e l))
    | _ => false)
  | .mkb a, c, s => (match s with
    | .e (.Call (.Name x _) [l] [] _) => blB c x "list" && (notStar l && chk a c (.e l))
    | _ => false)
  | .lr a, c, s => (match s with
    | .e (.Call (.Name x _) [.Call (.Name y _) [l] [] _] [] _) => blB c x "list" && (blB c y "range" && (notStar l && chk a c (.e l)))
    | _ => false)
  | .nop, c, s => (match s with
    | .o none => true
    | _ => false)
  | .anil, c, s => (match s with
    | .es [] => true
    | _ => false)
  | .acons a r, c, s => (match s with
    | .es (e :: es) => notStar e && (chk a c (.e e) && chk r c (.es es))
    | .o (some e) => chk a c (.e e)
    | _ => false)
  | .lc tg it ifs e, c, s => (match s with
    | .e (.ListComp elt [⟨g, i, qs, as⟩] scope _) => decide (as = 0) && (decide (blkP c.N c.sc scope (ownOf c.N tg)) && (chkG (c.blk scope) tg (.e g) && (chk it c (.it g i) && (notSet i && (chk ifs (c.blk scope) (.es qs) && chk e (c.blk scope) (.e elt))))))
    | _ => false)
  | .itS a, c, s => (match s with
    | .it _ x => notSet x && chk a c (.e x)
    | _ => false)
  | .itR1 a, c, s => (match s with
    | .it _ (.Call (.Name x _) [l] [] _) => blB c x "range" && (notStar l && chk a c (.e l))
    | _ => false)
  | .itR2 a b, c, s => (match s with
    | .it _ (.Call (.Name x _) [l, r] [] _) => blB c x "range" && (notStar l && (notStar r && (chk a c (.e l) && chk b c (.e r))))
    | _ => false)
  | .itR3 a b d, c, s => (match s with
    | .it _ (.Call (.Name x _) [l, r, z] [] _) => blB c x "range" && (notStar l && (notStar r && (notStar z && (chk a c (.e l) && (chk b c (.e r) && chk d c (.e z))))))
    | _ => false)
  | .itZ a b, c, s => (match s with
    | .it (.Tuple _ _ _) (.Call (.Name x _) [l, r] [] _) => blB c x "zip" && (notStar l && (notStar r && (chk a c (.e l) && chk b c (.e r))))
    | _ => false)
  | .itE a, c, s => (match s with
    | .it (.Tuple _ _ _) (.Call (.Name x _) [l] [] _) => blB c x "enumerate" && (notStar l && chk a c (.e l))
    | _ => false)
  | _, _, _ => false
/-! ### contexts -/
structure CokF (C : Nat → List D → Store → Option (D × Store)) (X : Cx) (f : Nat) (x : Str) : Prop where
  ex : ∃ k a fd ps, FnOk X.prog X.w X.K X.mg X.base CX0 k a fd ps (spC X.K (C f)) ∧ Room k X.A ∧ X.mg x = some (.ref a) ∧ PySem.W.keepIn X.K (.ref a) = true ∧ Binds X.K fd ps [] ∧ (x == ("__debug__" : Str)) = false
structure Cok (c : Cc) (C : Nat → List D → Store → Option (D × Store)) (X : Cx) : Prop where
  N : X.N = c.N
  nd : X.N.Nodup
  sc : X.env.scope = c.sc
  kind : c.sc.kind = .function
  fn : X.fn = c.fn
  calm : X.calm = true
  xe : X.xe = fun _ _ => False
  un : X.A.units + 65 < cLine
  fr : ∀ x, x ∈ c.fr → X.mg x = none
  gcd : c.gc = true → X.mg "gcd" = some (.builtin "math.gcd")
  cs : ∀ x d, c.cs.lookup x = some d → ∃ u v, X.mg x = some u ∧ RelV v u ∧ ∀ F N G, Rv X.K F N G v d
  fns : ∀ f x, c.fns[f]? = some x → CokF C X f x
theorem Cok.blk {c : Cc} {C : Nat → List D → Store → Option (D × Store)} {X : Cx} (h : Cok c C X) {scope : Scope} (hk : scope.kind = .function) (s : Shared) (H : Hp) (A : Addr) (cl : List (Str × Addr)) (fp : List Addr) :
    Cok (c.blk scope) C (X.blk s H scope (compEnvC scope cl A X.env) fp) where
  N := h.N
  nd := h.nd
  sc := by
    show relS scope X.env.scope = relS scope c.sc
    rw [h.sc]
  kind := hk
  fn := rfl
  calm := h.calm
  xe := rfl
  un := h.un
  fr := h.fr
  gcd := h.gcd
  cs := h.cs
  fns := fun f x e => ⟨(h.fns f x e).ex⟩
section
variable {c : Cc} {C : Nat → List D → Store → Option (D × Store)} {X : Cx} {x y : Str} {i : Nat}
theorem vis_of {sc : Scope} (h : visB sc x = true) : Vis sc x := by
  unfold visB at h
  split at h
  · rename_i e; exact .inl e
  · rename_i e; exact .inr (.inl e)
  · rename_i e; exact .inr (.inr e)
  · cases h
theorem loc_of {sc : Scope} (h : locB sc x = true) : Loc sc x := by
  unfold locB at h
  split at h
  · rename_i e; exact .inl e
  · rename_i e; exact .inr e
  · cases h
theorem lcl_of {sc : Scope} (h : lclB sc x = true) : sc.names.lookup x = some .local := by
  unfold lclB at h
  split at h
  · rename_i e; exact e
  · cases h
theorem Cok.gl (k : Cok c C X) (h : glB c.sc x = true) : Gl X x := by
  unfold glB at h
  split at h
  · rename_i e
    show X.env.scope.names.lookup x = some .globalImplicit
    rw [k.sc]; exact e
  · cases h
theorem Cok.nm (k : Cok c C X) (h : nmB c i x = true) : X.N[i]? = some x ∧ Vis X.env.scope x ∧ (x == ("__debug__" : Str)) = false ∧ (x == ("__classdict__" : Str)) = false := by
  have h1 := Bool.and_eq_true_iff.mp h
  have h2 := Bool.and_eq_true_iff.mp h1.2
  have h3 := Bool.and_eq_true_iff.mp h2.2
  refine ⟨by rw [k.N]; exact of_decide_eq_true h1.1, by rw [k.sc]; exact vis_of h2.1, by simpa using h3.1, by simpa using h3.2⟩
theorem Cok.st (k : Cok c C X) (h : stB c i x = true) : X.N[i]? = some x ∧ Loc X.env.scope x ∧ (X.fn x = true ∨ X.env.scope.names.lookup x = some .local) := by
  have h1 := Bool.and_eq_true_iff.mp h
  have h2 := Bool.and_eq_true_iff.mp h1.2
  refine ⟨by rw [k.N]; exact of_decide_eq_true h1.1, by rw [k.sc]; exact loc_of h2.1, ?_⟩
  rcases Bool.or_eq_true_iff.mp h2.2 with h3 | h3
  · exact .inl (by rw [k.fn]; exact h3)
  · exact .inr (by rw [k.sc]; exact lcl_of h3)
theorem Cok.bl (k : Cok c C X) (h : blB c x y = true) : x = y ∧ Gl X y ∧ X.mg y = none := by
  have h1 := Bool.and_eq_true_iff.mp h
  have h2 := Bool.and_eq_true_iff.mp h1.2
  have e : x = y := of_decide_eq_true h1.1
  subst e
  exact ⟨rfl, k.gl h2.1, k.fr x (of_decide_eq_true h2.2)⟩
/-! ### targets -/
mutual
def gT (K : Frag) : T → TG
  | .nm i => gName i
  | .acons a r => gTup K (cnt r + 1) (gCons (gT K a) (gTs K r))
  | _ => gName 0
def gTs (K : Frag) : T → TGs
  | .acons a r => gCons (gT K a) (gTs K r)
  | _ => gNil
end
theorem snd_G {t : T} : (∀ {c : Cc} {X : Cx}, Cok c C X → ∀ e, chkG c t (.e e) = true → PG X e (gT X.K t) ∧ TgG X.K (gT X.K t) t) ∧ (∀ {c : Cc} {X : Cx}, Cok c C X → ∀ es, chkG c t (.es es) = true → PGs X es (gTs X.K t) ∧ TgsG X.K (gTs X.K t) t ∧ es.length = cnt t ∧ noStars es = true) := by
  induction t with
  | nm i =>
    refine ⟨fun {c X} k e h => ?_, fun {c X} k es h => absurd h Bool.false_ne_true⟩
    cases e <;> first | (exact absurd h Bool.false_ne_true) | skip
    obtain ⟨h1, h2, h3⟩ := k.st h
    rw [gT]
    exact ⟨pg_name k.nd h1 h2 h3, tg_nm⟩
  | anil =>
    refine ⟨fun {c X} k e h => absurd h Bool.false_ne_true, fun {c X} k es h => ?_⟩
    cases es with
    | nil => exact ⟨pgs_nil, tgs_nil, rfl, rfl⟩
    | cons _ _ => exact absurd h Bool.false_ne_true
  | acons a r ha hr =>
    have key : ∀ {c : Cc} {X : Cx}, Cok c C X → ∀ (e : Expr) (es : List Expr), notStar e = true → chkG c a (.e e) = true → chkG c r (.es es) = true → PGs X (e :: es) (gTs X.K (.acons a r)) ∧ TgsG X.K (gTs X.K (.acons a r)) (.acons a r) ∧ (e :: es).length = cnt (.acons a r) ∧ noStars (e :: es) = true := fun {c X} k e es h1 h2 h3 => by
      obtain ⟨p1, t1⟩ := ha.1 k e h2
      obtain ⟨p2, t2, l2, s2⟩ := hr.2 k es h3
      rw [gTs]
      exact ⟨pg_cons h1 p1 p2, tgs_cons t1 t2, by rw [List.length_cons, l2, cnt], by rw [noStars, h1, s2]; rfl⟩
    refine ⟨fun {c X} k e h => ?_, fun {c X} k es h => ?_⟩
    · cases e <;> first | (exact absurd h Bool.false_ne_true) | skip
      rename_i es kk pos
      cases es with
      | nil => exact absurd h Bool.false_ne_true
      | cons e es =>
        have h1 := Bool.and_eq_true_iff.mp h
        have h2 := Bool.and_eq_true_iff.mp h1.2
        have h3 := Bool.and_eq_true_iff.mp h1.1
        obtain ⟨p, t, l, s⟩ := key k e es h3.1 h2.1 h2.2
        have q := pg_tup' (pos := pos) (k := kk) k.calm s p
        rw [l, gTs, cnt] at q
        rw [gT]
        rw [gTs] at t
        exact ⟨q, tg_tup t rfl⟩
    · cases es with
      | nil => exact absurd h Bool.false_ne_true
      | cons e es =>
        have h1 := Bool.and_eq_true_iff.mp h
        have h2 := Bool.and_eq_true_iff.mp h1.2
        exact key k e es h1.1 h2.1 h2.2
  | _ => exact ⟨fun k e h => absurd h Bool.false_ne_true, fun k es h => absurd h Bool.false_ne_true⟩
end
end PyD

set_option Elab.async false
set_option linter.all false
set_option maxRecDepth 100000
/-! PyD, part 10: an expression yields what its tree yields. -/
namespace PyD
open PySem PySem.Spec PyProof.Rows L2
def isF : T → Bool
  | .lst _ => true
  | .lc _ _ _ _ => true
  | .b1 .list _ => true
  | .lr _ => true
  | .bop .add _ _ => true
  | .bop .mul _ _ => true
  | _ => false
def mL (m : Env → Store → Option (D × Store)) : Env → Store → Option (D × Store) := fun ρ S => bnd (m ρ S) fun x S => (match x with
  | .list xs => some (.list xs, S)
  | _ => none)
section
variable (C : Nat → List D → Store → Option (D × Store)) (t : T)
abbrev mNB : Env → Store → Option (D × Store) := fun ρ S => if isB t then none else ev C t ρ S
/-- a comprehension on the line of its target is stored ahead of the block's end -/
def AsgR (e : Expr) (X : Cx) : Prop := ∀ (i : Nat) (y : Str) (py spos : Pos), X.N[i]? = some y → Loc X.env.scope y → (X.fn y = true ∨ X.env.scope.names.lookup y = some .local) →
  (isB t = false → ∃ te, PS X (.Assign [.Name y py] e spos) (tAsg te (gName i)) ∧ ∀ σ H Q, rd X.K (ev C t) σ H Q → te σ H Q) ∧
  (isF t = true → ∃ te, PS X (.Assign [.Name y py] e spos) (tAsg te (gName i)) ∧ ∀ σ H Q, rdF X.K (mL (ev C t)) σ H Q → te σ H Q)
structure SndE (c : Cc) (X : Cx) (e : Expr) : Prop where
  b : PE X e (rdB X.K (ev C t))
  v : isB t = false → PE X e (rd X.K (ev C t))
  tt : PT X e (rdT X.K (evT C t))
  f : isF t = true → PE X e (rdF X.K (mL (ev C t)))
structure Snd : Prop where
  e : ∀ {c : Cc} {X : Cx}, Cok c C X → ∀ e, chk t c (.e e) = true → SndE C t c X e
  a : ∀ {c : Cc} {X : Cx}, Cok c C X → ∀ e, chk t c (.e e) = true → AsgR C t e X
  es : ∀ {c : Cc} {X : Cx}, Cok c C X → ∀ es, chk t c (.es es) = true → PA X es (rdA X.K (evA C t)) ∧ PTs X es (rdT X.K (evQ C t)) ∧ noStars es = true
  o : ∀ {c : Cc} {X : Cx}, Cok c C X → ∀ o, chk t c (.o o) = true → PO X o (rdO X.K (evO C t))
  it : ∀ {c : Cc} {X : Cx}, Cok c C X → ∀ g i, chk t c (.it g i) = true → PI X g i (rdI X.K (evI C t)) ∧ notSet i = true
end
section
variable {C : Nat → List D → Store → Option (D × Store)} {t : T} {c : Cc} {X : Cx} {e : Expr}
theorem and2 {a b : Bool} (h : (a && b) = true) : a = true ∧ b = true := Bool.and_eq_true_iff.mp h
theorem pt_none {m : Env → Store → Option (Bool × Store)} (hm : ∀ ρ S, m ρ S = none) : PT X e (rdT X.K m) := ⟨fun pins s σ H Q I ⟨F, G, S, ρ, w, re, d, S', em, q⟩ => by rw [hm] at em; cases em⟩
theorem nb (h : SndE C t c X e) : PE X e (rd X.K (mNB C t)) := by
  cases hb : isB t with
  | false => exact (h.v hb).imp fun σ H Q ⟨F, G, S, ρ, w, re, d, S', em, q⟩ => ⟨F, G, S, ρ, w, re, d, S', by simpa [mNB, hb] using em, q⟩
  | true => exact h.b.imp fun σ H Q ⟨F, G, S, ρ, w, re, d, S', em, q⟩ => by simp [mNB, hb] at em
theorem sw_no {tg : Option Expr} {l : Nat} {env : PySem.Env} (h : ∀ elt gs scope pos, e ≠ .ListComp elt gs scope pos) (h2 : ∀ elt gs scope pos, e ≠ .SetComp elt gs scope pos) (h3 : ∀ a elt gs scope pos, e ≠ .DictComp a elt gs scope pos) : swapsWith e tg l env = pure false := by
  cases e <;> first | rfl | exact absurd rfl (h _ _ _ _) | exact absurd rfl (h2 _ _ _ _) | exact absurd rfl (h3 _ _ _ _ _)
def notComp : Expr → Bool
  | .ListComp _ _ _ _ => false
  | .SetComp _ _ _ _ => false
  | .DictComp _ _ _ _ _ => false
  | _ => true
theorem sw_nc {tg : Option Expr} {l : Nat} {env : PySem.Env} (h : notComp e = true) : swapsWith e tg l env = pure false := by
  cases e <;> first | rfl | cases h
theorem asgR_of (k : Cok c C X) (h : SndE C t c X e) (hn : notComp e = true) : AsgR C t e X := fun i y py spos h1 h2 h3 =>
  ⟨fun hb => ⟨_, ps_set k.nd h1 h2 (h.v hb) (sw_nc hn) h3, fun _ _ _ q => q⟩, fun hf => ⟨_, ps_set k.nd h1 h2 (h.f hf) (sw_nc hn) h3, fun _ _ _ q => q⟩⟩
/-- an expression's tree only -/
theorem sndE (h : ∀ {c : Cc} {X : Cx}, Cok c C X → ∀ e, chk t c (.e e) = true → notComp e = true ∧ SndE C t c X e) (h2 : ∀ c es, chk t c (.es es) = false) (h3 : ∀ c o, chk t c (.o o) = false) (h4 : ∀ c g i, chk t c (.it g i) = false) : Snd C t where
  e := fun k e z => (h k e z).2
  a := fun k e z => asgR_of k (h k e z).2 (h k e z).1
  es := fun _ es z => by rw [h2] at z; cases z
  o := fun _ o z => by rw [h3] at z; cases z
  it := fun _ g i z => by rw [h4] at z; cases z
theorem sndI (h : ∀ {c : Cc} {X : Cx}, Cok c C X → ∀ g i, chk t c (.it g i) = true → PI X g i (rdI X.K (evI C t)) ∧ notSet i = true) (h2 : ∀ c es, chk t c (.es es) = false) (h3 : ∀ c o, chk t c (.o o) = false) (h4 : ∀ c e, chk t c (.e e) = false) : Snd C t where
  e := fun _ e z => by rw [h4] at z; cases z
  a := fun _ e z => by rw [h4] at z; cases z
  es := fun _ es z => by rw [h2] at z; cases z
  o := fun _ o z => by rw [h3] at z; cases z
  it := h
/-- a value, no test, not fresh -/
theorem mkV (p : PE X e (rd X.K (ev C t))) (ht : ∀ ρ S, evT C t ρ S = none) (hf : isF t = false) : SndE C t c X e :=
  ⟨rd_toB p, fun _ => p, pt_none ht, fun h => by rw [hf] at h; cases h⟩
theorem mkT (p : PE X e (rd X.K (ev C t))) (pt : PT X e (rdT X.K (evT C t))) (hf : isF t = false) : SndE C t c X e :=
  ⟨rd_toB p, fun _ => p, pt, fun h => by rw [hf] at h; cases h⟩
theorem mkF (p : PE X e (rd X.K (ev C t))) (pf : PE X e (rdF X.K (mL (ev C t)))) (ht : ∀ ρ S, evT C t ρ S = none) : SndE C t c X e :=
  ⟨rd_toB p, fun _ => p, pt_none ht, fun _ => pf⟩
theorem mL_of {m : Env → Store → Option (D × Store)} (p : PE X e (rdF X.K m)) : PE X e (rdF X.K (mL m)) := p.imp fun σ H Q ⟨F, G, S, ρ, w, re, d, S', em, q⟩ => by
  obtain ⟨x, S1, e1, h⟩ := bnd_some em
  cases x <;> first | (cases h; done) | skip
  cases h
  exact ⟨F, G, S, ρ, w, re, _, S', e1, q⟩
theorem snd_cst {d : D} : Snd C (.cst d) := sndE (fun {c X} k e h => by
  cases e <;> first | exact absurd h Bool.false_ne_true | skip
  · rename_i kk j pos
    refine ⟨rfl, mkV ?_ (fun _ _ => rfl) rfl⟩
    cases kk <;> cases d <;> first | (exact absurd h Bool.false_ne_true) | skip
    · exact n_none
    · rename_i a b
      have e : a = b := of_decide_eq_true h
      subst e; exact n_bool
    · rename_i a b
      have e : a = b := of_decide_eq_true h
      subst e; exact n_int
    · rename_i a b
      have e : a = b := of_decide_eq_true h
      subst e; exact n_str
  · rename_i x pos
    refine ⟨rfl, mkV ?_ (fun _ _ => rfl) rfl⟩
    obtain ⟨h1, h7⟩ := and2 h
    obtain ⟨h2, h3⟩ := and2 h7
    clear h h7
    split at h3
    · rename_i d' el
      have ed := beqD_eq h3
      subst ed
      obtain ⟨u, v, e1, e2, e3⟩ := k.cs x d' el
      exact n_glo (k.gl h1) e1 e2 e3 (by simpa using h2)
    · cases h3) (fun _ _ => rfl) (fun _ _ => rfl) (fun _ _ _ => rfl)
theorem snd_var {i : Nat} : Snd C (.var i) := sndE (fun {c X} k e h => by
  cases e <;> first | exact absurd h Bool.false_ne_true | skip
  rename_i x pos
  obtain ⟨h1, h2, h3, h4⟩ := k.nm h
  have p : PE X (.Name x pos) (rd X.K (ev C (.var i))) := n_var h1 h2 h3 h4
  refine ⟨rfl, mkT p ((t_val p fun _ => rfl).imp fun σ H Q ⟨F, G, S, ρ, w, re, d, S', em, q⟩ => ⟨F, G, S, ρ, w, re, d, S', ?_, q⟩) rfl⟩
  have em : (match get ρ i with | some (.bool b) => some (b, S) | _ => none) = some (d, S') := em
  show (bnd ((get ρ i).map (·, S)) fun x S => (match x with | .bool b => some (b, S) | _ => none)) = some (d, S')
  cases g : get ρ i with
  | none => rw [g] at em; cases em
  | some z =>
    rw [g] at em
    cases z <;> first | (cases em; done) | exact em) (fun _ _ => rfl) (fun _ _ => rfl) (fun _ _ _ => rfl)
theorem snd_bor {i : Nat} : Snd C (.bor i) := sndE (fun {c X} k e h => by
  cases e <;> first | exact absurd h Bool.false_ne_true | skip
  rename_i x pos
  obtain ⟨h1, h2, h3, h4⟩ := k.nm h
  exact ⟨rfl, n_bor h1 h2 h3 h4, fun z => (by cases z), pt_none fun _ _ => rfl, fun z => by cases z⟩) (fun _ _ => rfl) (fun _ _ => rfl) (fun _ _ _ => rfl)
theorem snd_bop {o : Bop} {a b : T} (ha : Snd C a) (hb : Snd C b) : Snd C (.bop o a b) := sndE (fun {c X} k e h => by
  cases e <;> first | exact absurd h Bool.false_ne_true | skip
  rename_i l op r pos
  obtain ⟨h1, h2⟩ := and2 h
  obtain ⟨h2, h3⟩ := and2 h2
  have e := of_decide_eq_true h1
  subst e
  have pa := (ha.e k l h2).b
  have pb := (hb.e k r h3).b
  refine ⟨rfl, ?_⟩
  cases o with
  | add =>
    refine mkF (n_op o_add pa pb g_add) ?_ fun _ _ => rfl
    refine (n_opF (op_cat) pa pb f_add).imp fun σ H Q ⟨F, G, S, ρ, w, re, d, S', em, q⟩ => ?_
    obtain ⟨x, S1, e1, h⟩ := bnd_some em
    cases x <;> first | (cases h; done) | skip
    cases h
    obtain ⟨x, S2, y, S3, z, f1, f2, f3, f4⟩ := m2_some (show m2 (ev C a) (ev C b) (opB .add) ρ S = _ from e1)
    cases f4
    refine ⟨F, G, S, ρ, w, re, _, S', ?_, q⟩
    unfold m2 bnd
    rw [f1]; simp only
    rw [f2]; simp only
    cases x <;> cases y <;> first | (cases f3; done) | skip
    · exact congrArg (Option.map (·, S')) f3
    · obtain ⟨_, _, z⟩ := map_some (show (lim _).map PyData.tuple = some _ from f3)
      cases z
  | sub => exact mkV (n_op o_sub pa pb g_sub) (fun _ _ => rfl) rfl
  | mul =>
    refine mkF (n_op o_mul pa pb g_mul) ?_ fun _ _ => rfl
    refine (n_opF (op_rep) pa pb f_mul).imp fun σ H Q ⟨F, G, S, ρ, w, re, d, S', em, q⟩ => ?_
    obtain ⟨x, S1, e1, h⟩ := bnd_some em
    cases x <;> first | (cases h; done) | skip
    cases h
    obtain ⟨x, S2, y, S3, z, f1, f2, f3, f4⟩ := m2_some (show m2 (ev C a) (ev C b) (opB .mul) ρ S = _ from e1)
    cases f4
    refine ⟨F, G, S, ρ, w, re, _, S', ?_, q⟩
    unfold m2 bnd
    rw [f1]; simp only
    rw [f2]; simp only
    cases x <;> cases y <;> first | (cases f3; done) | skip
    · rename_i i j
      have f3 : (if mulOk i j then some (PyData.int (i * j)) else none) = some _ := f3
      split at f3 <;> cases f3
    · exact congrArg (Option.map (·, S')) f3
    · obtain ⟨_, _, z⟩ := map_some (show (repD _ _).map PyData.tuple = some _ from f3)
      cases z
  | fdiv => exact mkV (n_op o_fdiv pa pb g_fdiv) (fun _ _ => rfl) rfl
  | mod => exact mkV (n_op o_mod pa pb g_mod) (fun _ _ => rfl) rfl
  | pow => exact mkV (n_op o_pow pa pb g_pow) (fun _ _ => rfl) rfl) (fun _ _ => rfl) (fun _ _ => rfl) (fun _ _ _ => rfl)
theorem snd_neg {a : T} (ha : Snd C a) : Snd C (.neg a) := sndE (fun {c X} k e h => by
  cases e <;> first | exact absurd h Bool.false_ne_true | skip
  rename_i op l pos
  cases op <;> first | exact absurd h Bool.false_ne_true | skip
  exact ⟨rfl, mkV (n_neg (ha.e k l h).b) (fun _ _ => rfl) rfl⟩) (fun _ _ => rfl) (fun _ _ => rfl) (fun _ _ _ => rfl)
theorem snd_notv {a : T} (ha : Snd C a) : Snd C (.notv a) := sndE (fun {c X} k e h => by
  cases e <;> first | exact absurd h Bool.false_ne_true | skip
  rename_i op l pos
  cases op <;> first | exact absurd h Bool.false_ne_true | skip
  exact ⟨rfl, mkT (n_not (ha.e k l h).b) (t_not (ha.e k l h).tt) rfl⟩) (fun _ _ => rfl) (fun _ _ => rfl) (fun _ _ _ => rfl)
theorem pw_bool {op : BoolOp} {es : List Expr} {pos : Pos} {t : TT} (h : PT X (.BoolOp op es pos) t) : PW X (.BoolOp op es pos) t := ⟨fun wh pins s σ H Q I q => h.run pins s σ H Q I q⟩
theorem snd_band {a b : T} (ha : Snd C a) (hb : Snd C b) : Snd C (.band a b) := sndE (fun {c X} k e h => by
  cases e <;> first | exact absurd h Bool.false_ne_true | skip
  rename_i op es pos
  cases op <;> first | exact absurd h Bool.false_ne_true | skip
  rcases es with _ | ⟨l, _ | ⟨r, rest⟩⟩ <;> first | exact absurd h Bool.false_ne_true | skip
  obtain ⟨h1, h2⟩ := and2 h
  have pa := ha.e k l h1
  have key : PE X (.BoolOp .And (r :: rest) pos) (rd X.K (mNB C b)) ∧ PW X (.BoolOp .And (r :: rest) pos) (rdT X.K (evT C b)) := by
    cases rest with
    | nil =>
      have pb := hb.e k r h2
      exact ⟨pe_one (nb pb), pw_and1 pb.tt⟩
    | cons z zs =>
      have pb := hb.e k (.BoolOp .And (r :: z :: zs) pos) h2
      exact ⟨nb pb, pw_bool pb.tt⟩
  refine ⟨rfl, mkT ((n_and pa.b key.1).imp fun σ H Q ⟨F, G, S, ρ, w, re, d, S', em, q⟩ => ⟨F, G, S, ρ, w, re, d, S', em, q⟩) (t_and pa.tt key.2).pt rfl⟩) (fun _ _ => rfl) (fun _ _ => rfl) (fun _ _ _ => rfl)
theorem snd_borr {a b : T} (ha : Snd C a) (hb : Snd C b) : Snd C (.borr a b) := sndE (fun {c X} k e h => by
  cases e <;> first | exact absurd h Bool.false_ne_true | skip
  rename_i op es pos
  cases op <;> first | exact absurd h Bool.false_ne_true | skip
  rcases es with _ | ⟨l, _ | ⟨r, rest⟩⟩ <;> first | exact absurd h Bool.false_ne_true | skip
  obtain ⟨h1, h2⟩ := and2 h
  have pa := ha.e k l h1
  have key : PE X (.BoolOp .Or (r :: rest) pos) (rd X.K (mNB C b)) ∧ PW X (.BoolOp .Or (r :: rest) pos) (rdT X.K (evT C b)) := by
    cases rest with
    | nil =>
      have pb := hb.e k r h2
      exact ⟨pe_one (nb pb), pw_or1 pb.tt⟩
    | cons z zs =>
      have pb := hb.e k (.BoolOp .Or (r :: z :: zs) pos) h2
      exact ⟨nb pb, pw_bool pb.tt⟩
  refine ⟨rfl, mkT ((n_or pa.b key.1).imp fun σ H Q ⟨F, G, S, ρ, w, re, d, S', em, q⟩ => ⟨F, G, S, ρ, w, re, d, S', em, q⟩) (t_or pa.tt key.2).pt rfl⟩) (fun _ _ => rfl) (fun _ _ => rfl) (fun _ _ _ => rfl)
/-- a comparison's reading -/
theorem cop (k : Cok c C X) (o : Cop) : ∃ r, OpR X (compareOp (copOf o)) r ∧ CmpG X.K r (opC o) := by
  have hu := k.un
  cases o with
  | eq => exact ⟨_, op_eqD (by omega), c_eq⟩
  | ne => exact ⟨_, op_neD (by omega), c_ne⟩
  | lt => exact ⟨_, op_lt, c_lt⟩
  | le => exact ⟨_, op_le, c_le⟩
  | gt => exact ⟨_, op_gt, c_gt⟩
  | ge => exact ⟨_, op_ge, c_ge⟩
  | inn => exact ⟨_, .or (op_inD hu) (op_inT hu), c_in⟩
  | nin => exact ⟨_, .or (op_notInD hu) (op_ninT hu), c_nin⟩
  | isN => exact ⟨_, op_isN, c_isN⟩
  | notN => exact ⟨_, op_notN, c_notN⟩
theorem snd_cmp {o : Cop} {a b : T} (ha : Snd C a) (hb : Snd C b) : Snd C (.cmp o a b) := sndE (fun {c X} k e h => by
  cases e <;> first | exact absurd h Bool.false_ne_true | skip
  rename_i l ops rs pos
  rcases ops with _ | ⟨op, _ | ⟨_, _⟩⟩ <;> first | exact absurd h Bool.false_ne_true | skip
  rcases rs with _ | ⟨r, _ | ⟨_, _⟩⟩ <;> first | exact absurd h Bool.false_ne_true | skip
  obtain ⟨h1, h2⟩ := and2 h
  obtain ⟨h2, h3⟩ := and2 h2
  obtain ⟨h3, h4⟩ := and2 h3
  have e := of_decide_eq_true h1
  subst e
  obtain ⟨rr, ho, hg⟩ := cop k o
  have hm : behindInMarks (copOf o) r = false := by simpa using h2
  exact ⟨rfl, mkT (n_cmp ho (ha.e k l h3).b (hb.e k r h4).b hm hg) (t_cmp ho (ha.e k l h3).b (hb.e k r h4).b hm hg) rfl⟩) (fun _ _ => rfl) (fun _ _ => rfl) (fun _ _ _ => rfl)
theorem snd_chn {o1 o2 : Cop} {a b d : T} (ha : Snd C a) (hb : Snd C b) (hd : Snd C d) : Snd C (.chn o1 o2 a b d) := sndE (fun {c X} k e h => by
  cases e <;> first | exact absurd h Bool.false_ne_true | skip
  rename_i l ops rs pos
  rcases ops with _ | ⟨op1, _ | ⟨op2, _ | ⟨_, _⟩⟩⟩ <;> first | exact absurd h Bool.false_ne_true | skip
  rcases rs with _ | ⟨r, _ | ⟨z, _ | ⟨_, _⟩⟩⟩ <;> first | exact absurd h Bool.false_ne_true | skip
  obtain ⟨h1, h2⟩ := and2 h
  obtain ⟨h2, h3⟩ := and2 h2
  obtain ⟨h3, h4⟩ := and2 h3
  obtain ⟨h4, h5⟩ := and2 h4
  obtain ⟨h5, h6⟩ := and2 h5
  have e := of_decide_eq_true h1
  have e' := of_decide_eq_true h2
  subst e e'
  obtain ⟨r1, ho1, hg1⟩ := cop k o1
  obtain ⟨r2, ho2, hg2⟩ := cop k o2
  have hm : lastMarks [copOf o1, copOf o2] [r, z] = false := by simpa using h3
  exact ⟨rfl, mkT (n_chn ho1 ho2 (ha.e k l h4).b (hb.e k r h5).b (hd.e k z h6).b hm hg1 hg2) (t_chn ho1 ho2 (ha.e k l h4).b (hb.e k r h5).b (hd.e k z h6).b hm hg1 hg2) rfl⟩) (fun _ _ => rfl) (fun _ _ => rfl) (fun _ _ _ => rfl)
theorem snd_ite {d a b : T} (hd : Snd C d) (ha : Snd C a) (hb : Snd C b) : Snd C (.ite d a b) := sndE (fun {c X} k e h => by
  cases e <;> first | exact absurd h Bool.false_ne_true | skip
  rename_i x l r pos
  obtain ⟨h1, h2⟩ := and2 h
  obtain ⟨h2, h3⟩ := and2 h2
  exact ⟨rfl, mkV (n_ite (hd.e k x h1).tt (nb (ha.e k l h2)) (nb (hb.e k r h3))) (fun _ _ => rfl) rfl⟩) (fun _ _ => rfl) (fun _ _ => rfl) (fun _ _ _ => rfl)
theorem snd_call {f : Nat} {as : T} (ha : Snd C as) : Snd C (.call f as) := sndE (fun {c X} k e h => by
  cases e <;> first | exact absurd h Bool.false_ne_true | skip
  rename_i g es kws pos
  cases g <;> first | exact absurd h Bool.false_ne_true | skip
  rename_i x px
  cases kws <;> first | exact absurd h Bool.false_ne_true | skip
  obtain ⟨h1, h7⟩ := and2 h
  obtain ⟨h2, h8⟩ := and2 h7
  obtain ⟨h3, h4⟩ := and2 h8
  clear h h7 h8
  obtain ⟨kk, a, fd, ps, Fo, hr, hm, hk, hb, hdb⟩ := (k.fns f x (of_decide_eq_true h1)).ex
  obtain ⟨pa, _, hs⟩ := ha.es k es h4
  have p : PE X (.Call (.Name x px) es [] pos) (rd X.K (ev C (.call f as))) := by
    cases es with
    | nil =>
      refine (n_call0 Fo hr (k.gl h2) hm hk hb hdb).imp fun σ H Q ⟨F, G, S, ρ, w, re, d, S', em, q⟩ => ⟨F, G, S, ρ, w, re, d, S', ?_, q⟩
      cases as <;> first | exact absurd h4 Bool.false_ne_true | exact em
    | cons e es => exact n_call Fo hr (k.gl h2) hm hk hb hdb hs pa
  refine ⟨rfl, mkT p ((t_val p fun _ => rfl).imp fun σ H Q ⟨F, G, S, ρ, w, re, d, S', em, q⟩ => ⟨F, G, S, ρ, w, re, d, S', ?_, q⟩) rfl⟩
  obtain ⟨ds, S1, e1, h⟩ := bnd_some (show (bnd (evA C as ρ S) fun ds S => bnd (C f ds S) fun x S => (match x with | .bool b => some (b, S) | _ => none)) = some (d, S') from em)
  show (bnd (bnd (evA C as ρ S) fun ds S => C f ds S) fun x S => (match x with | .bool b => some (b, S) | _ => none)) = some (d, S')
  rw [e1]
  exact h) (fun _ _ => rfl) (fun _ _ => rfl) (fun _ _ _ => rfl)
theorem snd_tup {as : T} (ha : Snd C as) : Snd C (.tup as) := sndE (fun {c X} k e h => by
  cases e <;> first | exact absurd h Bool.false_ne_true | skip
  rename_i es kk pos
  exact ⟨rfl, mkV (n_tup (ha.es k es h).1) (fun _ _ => rfl) rfl⟩) (fun _ _ => rfl) (fun _ _ => rfl) (fun _ _ _ => rfl)
theorem snd_lst {as : T} (ha : Snd C as) : Snd C (.lst as) := sndE (fun {c X} k e h => by
  cases e <;> first | exact absurd h Bool.false_ne_true | skip
  rename_i es pos
  have p := n_lst (pos := pos) (ha.es k es h).1
  exact ⟨rfl, mkF (rd_of_rdF p) (mL_of p) (fun _ _ => rfl)⟩) (fun _ _ => rfl) (fun _ _ => rfl) (fun _ _ _ => rfl)
theorem snd_mkl {as : T} (ha : Snd C as) : Snd C (.mkl as) := sndE (fun {c X} k e h => by
  cases e <;> first | exact absurd h Bool.false_ne_true | skip
  rename_i es pos
  exact ⟨rfl, mkV (n_mkl (ha.es k es h).1) (fun _ _ => rfl) rfl⟩) (fun _ _ => rfl) (fun _ _ => rfl) (fun _ _ _ => rfl)
theorem snd_ix {a b : T} (ha : Snd C a) (hb : Snd C b) : Snd C (.ix a b) := sndE (fun {c X} k e h => by
  cases e <;> first | exact absurd h Bool.false_ne_true | skip
  rename_i l r pos
  obtain ⟨h1, h2⟩ := and2 h
  obtain ⟨h2, h3⟩ := and2 h2
  exact ⟨rfl, mkV (n_ix (ha.e k l h2).b (hb.e k r h3).b (plainIx h1)) (fun _ _ => rfl) rfl⟩) (fun _ _ => rfl) (fun _ _ => rfl) (fun _ _ _ => rfl)
theorem snd_sl {a lo hi : T} (ha : Snd C a) (hl : Snd C lo) (hh : Snd C hi) : Snd C (.sl a lo hi) := sndE (fun {c X} k e h => by
  cases e <;> first | exact absurd h Bool.false_ne_true | skip
  rename_i l r pos
  cases r <;> first | exact absurd h Bool.false_ne_true | skip
  rename_i x y z p2
  cases z <;> first | exact absurd h Bool.false_ne_true | skip
  obtain ⟨h1, h2⟩ := and2 h
  obtain ⟨h2, h3⟩ := and2 h2
  exact ⟨rfl, mkV (n_sl (ha.e k l h1).b (hl.o k x h2) (hh.o k y h3)) (fun _ _ => rfl) rfl⟩) (fun _ _ => rfl) (fun _ _ => rfl) (fun _ _ _ => rfl)
theorem snd_nop : Snd C .nop where
  e := fun _ e z => absurd z Bool.false_ne_true
  a := fun _ e z => absurd z Bool.false_ne_true
  es := fun _ es z => absurd z Bool.false_ne_true
  o := fun k o z => by
    cases o with
    | none => exact o_none
    | some e => exact absurd z Bool.false_ne_true
  it := fun _ g i z => absurd z Bool.false_ne_true
theorem snd_anil : Snd C .anil where
  e := fun _ e z => absurd z Bool.false_ne_true
  a := fun _ e z => absurd z Bool.false_ne_true
  es := fun k es z => by
    cases es with
    | nil => exact ⟨a_nil, pts_no, rfl⟩
    | cons e es => exact absurd z Bool.false_ne_true
  o := fun _ o z => by cases o <;> exact absurd z Bool.false_ne_true
  it := fun _ g i z => absurd z Bool.false_ne_true
theorem pts_none {es : List Expr} {m : Env → Store → Option (Bool × Store)} (hm : ∀ ρ S, m ρ S = none) : PTs X es (rdT X.K m) := ⟨fun pins s σ H Q I ⟨F, G, S, ρ, w, re, d, S', em, q⟩ => by rw [hm] at em; cases em⟩
theorem snd_acons {a r : T} (ha : Snd C a) (hr : Snd C r) : Snd C (.acons a r) where
  e := fun _ e z => absurd z Bool.false_ne_true
  a := fun _ e z => absurd z Bool.false_ne_true
  es := fun {c X} k es z => by
    cases es with
    | nil => exact absurd z Bool.false_ne_true
    | cons e es =>
      obtain ⟨h1, h2⟩ := and2 z
      obtain ⟨h2, h3⟩ := and2 h2
      have pa := ha.e k e h2
      have pr := hr.es k es h3
      refine ⟨(a_cons h1 (nb pa) pr.1).imp fun σ H Q ⟨F, G, S, ρ, w, re, d, S', em, q⟩ => ⟨F, G, S, ρ, w, re, d, S', ?_, q⟩, ?_, by rw [noStars, h1, pr.2.2]; rfl⟩
      · have em : (if isB a then none else bnd (ev C a ρ S) fun x S => bnd (evA C r ρ S) fun xs S => some (x :: xs, S)) = some (d, S') := em
        show (bnd (if isB a then none else ev C a ρ S) fun x S => bnd (evA C r ρ S) fun xs S => some (x :: xs, S)) = some (d, S')
        cases hb : isB a with
        | true => rw [hb] at em; cases em
        | false => rw [hb] at em; exact em
      · cases r <;> first | exact pts_none (fun _ _ => rfl) | skip
        cases es with
        | nil => exact pts_one pa.tt
        | cons _ _ => exact absurd h3 Bool.false_ne_true
  o := fun {c X} k o z => by
    cases o with
    | none => exact absurd z Bool.false_ne_true
    | some e => exact o_some (ha.e k e z).b
  it := fun _ g i z => absurd z Bool.false_ne_true
end
end PyD

set_option Elab.async false
set_option linter.all false
set_option maxRecDepth 100000
/-! PyD, part 11: built-ins, walks, comprehensions: every tree. -/
namespace PyD
open PySem PySem.Spec PyProof.Rows L2
section
variable {C : Nat → List D → Store → Option (D × Store)} {t : T} {c : Cc} {X : Cx} {e : Expr}
theorem b1_t {a : T} {b : B1} (p : PE X e (rd X.K (ev C (.b1 b a)))) : PT X e (rdT X.K (evT C (.b1 b a))) ↔ PT X e (rdT X.K fun ρ S => bnd (ev C (.b1 b a) ρ S) fun x S => (match x with | .bool b => some (b, S) | _ => none)) := by
  constructor <;> intro h <;> refine h.imp fun σ H Q ⟨F, G, S, ρ, w, re, d, S', em, q⟩ => ⟨F, G, S, ρ, w, re, d, S', ?_, q⟩
  · obtain ⟨x, S1, e1, h1⟩ := bnd_some em
    obtain ⟨y, S2, e2, h2⟩ := bnd_some (show (bnd (ev C a ρ S) fun x S => (op1 b x).map (·, S)) = some (x, S1) from e1)
    obtain ⟨z, e3, h3⟩ := map_some h2
    cases h3
    show (bnd (ev C a ρ S) fun x S => (match op1 b x with | some (.bool b) => some (b, S) | _ => none)) = some (d, S')
    rw [e2]
    show (match op1 b y with | some (.bool b) => some (b, S1) | _ => none) = some (d, S')
    rw [e3]
    cases x <;> first | (cases h1; done) | exact h1
  · have em : (bnd (ev C a ρ S) fun x S => (match op1 b x with | some (.bool b) => some (b, S) | _ => none)) = some (d, S') := em
    obtain ⟨y, S2, e2, h2⟩ := bnd_some em
    show (bnd (bnd (ev C a ρ S) fun x S => (op1 b x).map (·, S)) fun x S => (match x with | .bool b => some (b, S) | _ => none)) = some (d, S')
    rw [e2]
    show (bnd ((op1 b y).map (·, S2)) fun x S => (match x with | .bool b => some (b, S) | _ => none)) = some (d, S')
    cases e3 : op1 b y with
    | none => rw [e3] at h2; cases h2
    | some z =>
      rw [e3] at h2
      cases z <;> first | (cases h2; done) | exact h2
theorem isi (k : Cok c C X) {b : B1} {x y z : Str} {a : T} {l : Expr} {p p2 pos : Pos} (hx : blB c x "isinstance" = true) (hz : isn b = some z) (hy : blB c y z = true) (hs : notStar l = true) (pa : PE X l (rdB X.K (ev C a))) :
    PE X (.Call (.Name x p) [l, .Name y p2] [] pos) (rd X.K (ev C (.b1 b a))) := by
  obtain ⟨rfl, g1, m1⟩ := k.bl hx
  obtain ⟨rfl, g2, m2⟩ := k.bl hy
  cases b <;> first | (cases hz; done) | skip
  all_goals cases hz
  · exact n_isi g1 m1 boot_isinstance g2 m2 boot_int hs pa i_int (by decide) (by decide) (by decide) (by decide)
  · exact n_isi g1 m1 boot_isinstance g2 m2 boot_bool hs pa i_bool (by decide) (by decide) (by decide) (by decide)
  · exact n_isi g1 m1 boot_isinstance g2 m2 boot_str hs pa i_str (by decide) (by decide) (by decide) (by decide)
  · exact n_isi g1 m1 boot_isinstance g2 m2 boot_tuple hs pa i_tup (by decide) (by decide) (by decide) (by decide)
  · exact n_isi g1 m1 boot_isinstance g2 m2 boot_list hs pa i_lst (by decide) (by decide) (by decide) (by decide)
theorem b1c (k : Cok c C X) {b : B1} {x y : Str} {a : T} {l : Expr} {p pos : Pos} (hn : b1n b = some y) (hx : blB c x y = true) (hs : notStar l = true) (pa : PE X l (rdB X.K (ev C a))) :
    PE X (.Call (.Name x p) [l] [] pos) (rd X.K (ev C (.b1 b a))) ∧ (isF (.b1 b a) = true → PE X (.Call (.Name x p) [l] [] pos) (rdF X.K (mL (ev C (.b1 b a))))) := by
  obtain ⟨rfl, g1, m1⟩ := k.bl hx
  cases b <;> first | (cases hn; done) | skip
  all_goals cases hn
  · exact ⟨n_b1 call_len_seq g1 m1 boot_len hs pa k_len (by decide) (by decide), fun z => by cases z⟩
  · exact ⟨n_b1 call_abs g1 m1 boot_abs hs pa k_abs (by decide) (by decide), fun z => by cases z⟩
  · exact ⟨n_t1 call_int1 g1 m1 boot_int hs pa k_int (by decide) (by decide), fun z => by cases z⟩
  · have q := n_t1F call_list_of g1 m1 boot_list hs pa kf_list (by decide) (by decide) (p := p) (pos := pos)
    exact ⟨rd_of_rdF q, fun _ => mL_of q⟩
  · exact ⟨n_t1 call_tuple_of g1 m1 boot_tuple hs pa k_tuple (by decide) (by decide), fun z => by cases z⟩
  · exact ⟨n_b1 (cr_sum k.calm) g1 m1 boot_sum hs pa k_sum (by decide) (by decide), fun z => by cases z⟩
  · exact ⟨n_b1 (cr_all k.calm) g1 m1 boot_all hs pa k_all (by decide) (by decide), fun z => by cases z⟩
  · exact ⟨n_b1 (cr_any k.calm) g1 m1 boot_any hs pa k_any (by decide) (by decide), fun z => by cases z⟩
theorem snd_b1 {b : B1} {a : T} (ha : Snd C a) : Snd C (.b1 b a) := sndE (fun {c X} k e h => by
  cases e <;> first | exact absurd h Bool.false_ne_true | skip
  rename_i g es kws pos
  cases g <;> first | exact absurd h Bool.false_ne_true | skip
  rename_i x px
  cases kws <;> first | (rcases es with _ | ⟨_, _ | ⟨y, _ | ⟨_, _⟩⟩⟩ <;> first | exact absurd h Bool.false_ne_true | (cases y <;> exact absurd h Bool.false_ne_true)) | skip
  rcases es with _ | ⟨l, _ | ⟨y, _ | ⟨_, _⟩⟩⟩ <;> first | exact absurd h Bool.false_ne_true | skip
  · obtain ⟨h1, h7⟩ := and2 h
    obtain ⟨h2, h3⟩ := and2 h7
    clear h h7
    split at h2
    · rename_i y hn
      obtain ⟨q1, q2⟩ := b1c (p := px) (pos := pos) k hn h2 h1 (ha.e k l h3).b
      exact ⟨rfl, ⟨rd_toB q1, fun _ => q1, (b1_t q1).mpr (t_val q1 fun _ => rfl), q2⟩⟩
    · cases h2
  · cases y <;> first | exact absurd h Bool.false_ne_true | skip
    rename_i y py
    obtain ⟨h1, h7⟩ := and2 h
    obtain ⟨h2, h8⟩ := and2 h7
    obtain ⟨h3, h4⟩ := and2 h8
    clear h h7 h8
    split at h3
    · rename_i z hn
      have q1 := isi (p := px) (p2 := py) (pos := pos) k h2 hn h3 h1 (ha.e k l h4).b
      refine ⟨rfl, mkT q1 ((b1_t q1).mpr (t_val q1 fun _ => rfl)) ?_⟩
      cases b <;> first | rfl | cases hn
    · cases h3
  · cases y <;> exact absurd h Bool.false_ne_true) (fun _ _ => rfl) (fun _ _ => rfl) (fun _ _ _ => rfl)
theorem snd_b2 {b : B2} {a d : T} (ha : Snd C a) (hd : Snd C d) : Snd C (.b2 b a d) := sndE (fun {c X} k e h => by
  cases e <;> first | exact absurd h Bool.false_ne_true | skip
  rename_i g es kws pos
  cases g <;> first | exact absurd h Bool.false_ne_true | skip
  rename_i x px
  rcases es with _ | ⟨l, _ | ⟨r, _ | ⟨_, _⟩⟩⟩ <;> first | exact absurd h Bool.false_ne_true | skip
  cases kws <;> first | exact absurd h Bool.false_ne_true | skip
  obtain ⟨h1, h7⟩ := and2 h
  obtain ⟨h2, h8⟩ := and2 h7
  obtain ⟨h3, h9⟩ := and2 h8
  obtain ⟨h4, h5⟩ := and2 h9
  clear h h7 h8 h9
  refine ⟨rfl, mkV ?_ (fun _ _ => rfl) rfl⟩
  cases b with
  | min =>
    obtain ⟨rfl, g1, m1⟩ := k.bl h3
    exact n_b2 (call_min2 k.calm) g1 m1 boot_min h1 h2 (ha.e k l h4).b (hd.e k r h5).b k_min2 (by decide) (by decide)
  | max =>
    obtain ⟨rfl, g1, m1⟩ := k.bl h3
    exact n_b2 (call_max2 k.calm) g1 m1 boot_max h1 h2 (ha.e k l h4).b (hd.e k r h5).b k_max2 (by decide) (by decide)
  | gcd =>
    obtain ⟨h6, h7⟩ := and2 h3
    obtain ⟨h7, h8⟩ := and2 h7
    have e := of_decide_eq_true h6
    subst e
    exact n_m2 cr_gcd (k.gl h7) (k.gcd h8) h1 h2 (ha.e k l h4).b (hd.e k r h5).b k_gcd (by decide)
  | lcm => cases h3) (fun _ _ => rfl) (fun _ _ => rfl) (fun _ _ _ => rfl)
theorem snd_rev {a : T} (ha : Snd C a) : Snd C (.rev a) := sndE (fun {c X} k e h => by
  cases e <;> first | exact absurd h Bool.false_ne_true | skip
  rename_i l sl pos
  cases sl <;> first | exact absurd h Bool.false_ne_true | skip
  rename_i x y z p
  cases x <;> first | exact absurd h Bool.false_ne_true | skip
  cases y <;> first | exact absurd h Bool.false_ne_true | skip
  cases z <;> first | exact absurd h Bool.false_ne_true | skip
  rename_i z
  cases z <;> first | exact absurd h Bool.false_ne_true | skip
  rename_i op z p2
  cases op <;> first | exact absurd h Bool.false_ne_true | skip
  cases z <;> first | exact absurd h Bool.false_ne_true | skip
  rename_i kk j p1
  cases kk <;> first | exact absurd h Bool.false_ne_true | skip
  obtain ⟨h1, h2⟩ := and2 h
  have e := of_decide_eq_true h1
  subst e
  exact ⟨rfl, mkV (n_rev (ha.e k l h2).b) (fun _ _ => rfl) rfl⟩) (fun _ _ => rfl) (fun _ _ => rfl) (fun _ _ _ => rfl)
theorem snd_tl {a : T} (ha : Snd C a) : Snd C (.tl a) := sndE (fun {c X} k e h => by
  cases e <;> first | exact absurd h Bool.false_ne_true | skip
  rename_i g es kws pos
  cases g <;> first | exact absurd h Bool.false_ne_true | skip
  rename_i x px
  rcases es with _ | ⟨l, _ | ⟨_, _⟩⟩ <;> first | exact absurd h Bool.false_ne_true | skip
  cases kws <;> first | exact absurd h Bool.false_ne_true | skip
  obtain ⟨h1, h7⟩ := and2 h
  obtain ⟨h2, h3⟩ := and2 h7
  obtain ⟨rfl, g1, m1⟩ := k.bl h1
  exact ⟨rfl, mkV (n_tl g1 m1 h2 (ha.e k l h3).b) (fun _ _ => rfl) rfl⟩) (fun _ _ => rfl) (fun _ _ => rfl) (fun _ _ _ => rfl)
theorem snd_mkb {a : T} (ha : Snd C a) : Snd C (.mkb a) := sndE (fun {c X} k e h => by
  cases e <;> first | exact absurd h Bool.false_ne_true | skip
  rename_i g es kws pos
  cases g <;> first | exact absurd h Bool.false_ne_true | skip
  rename_i x px
  rcases es with _ | ⟨l, _ | ⟨_, _⟩⟩ <;> first | exact absurd h Bool.false_ne_true | skip
  cases kws <;> first | exact absurd h Bool.false_ne_true | skip
  obtain ⟨h1, h7⟩ := and2 h
  obtain ⟨h2, h3⟩ := and2 h7
  obtain ⟨rfl, g1, m1⟩ := k.bl h1
  exact ⟨rfl, mkV (n_mkb g1 m1 h2 (ha.e k l h3).b) (fun _ _ => rfl) rfl⟩) (fun _ _ => rfl) (fun _ _ => rfl) (fun _ _ _ => rfl)
theorem snd_lr {a : T} (ha : Snd C a) : Snd C (.lr a) := sndE (fun {c X} k e h => by
  cases e <;> first | exact absurd h Bool.false_ne_true | skip
  rename_i g es kws pos
  cases g <;> first | exact absurd h Bool.false_ne_true | skip
  rename_i x px
  rcases es with _ | ⟨l, _ | ⟨_, _⟩⟩ <;> first | exact absurd h Bool.false_ne_true | skip
  · cases l <;> first | exact absurd h Bool.false_ne_true | skip
    rename_i g2 es2 kws2 pos2
    cases g2 <;> first | exact absurd h Bool.false_ne_true | skip
    rename_i y py
    rcases es2 with _ | ⟨l, _ | ⟨_, _⟩⟩ <;> first | exact absurd h Bool.false_ne_true | skip
    cases kws2 <;> first | exact absurd h Bool.false_ne_true | skip
    cases kws <;> first | exact absurd h Bool.false_ne_true | skip
    obtain ⟨h1, h7⟩ := and2 h
    obtain ⟨h2, h8⟩ := and2 h7
    obtain ⟨h3, h4⟩ := and2 h8
    obtain ⟨rfl, g1, m1⟩ := k.bl h1
    obtain ⟨rfl, g2, m2⟩ := k.bl h2
    have p := n_lr (p := px) (p2 := py) (pos2 := pos2) (pos := pos) k.calm g1 m1 g2 m2 h3 (ha.e k l h4).b
    exact ⟨rfl, mkF (rd_of_rdF p) (mL_of p) (fun _ _ => rfl)⟩
  · cases l <;> first | exact absurd h Bool.false_ne_true | skip
    rename_i g2 es2 kws2 pos2
    cases g2 <;> first | exact absurd h Bool.false_ne_true | skip
    rcases es2 with _ | ⟨l, _ | ⟨_, _⟩⟩ <;> first | exact absurd h Bool.false_ne_true | skip
    cases kws2 <;> exact absurd h Bool.false_ne_true) (fun _ _ => rfl) (fun _ _ => rfl) (fun _ _ _ => rfl)
/-! ### walks -/
theorem snd_itS {a : T} (ha : Snd C a) : Snd C (.itS a) := sndI (fun {c X} k g i h => by
  obtain ⟨h1, h2⟩ := and2 h
  refine ⟨(i_seq (nb (ha.e k i h2))).imp fun σ H Q ⟨F, G, S, ρ, w, re, d, S', em, q⟩ => ⟨F, G, S, ρ, w, re, d, S', ?_, q⟩, h1⟩
  have em : (if isB a then none else bnd (ev C a ρ S) fun x S => (seqD x).map (·, S)) = some (d, S') := em
  show (bnd (if isB a then none else ev C a ρ S) fun x S => (seqD x).map (·, S)) = some (d, S')
  cases hb : isB a with
  | true => rw [hb] at em; cases em
  | false => rw [hb] at em; exact em) (fun _ _ => rfl) (fun _ _ => rfl) (fun _ _ => rfl)
theorem snd_itR1 {a : T} (ha : Snd C a) : Snd C (.itR1 a) := sndI (fun {c X} k g i h => by
  cases i <;> first | exact absurd h Bool.false_ne_true | skip
  rename_i gg es kws pos
  cases gg <;> first | exact absurd h Bool.false_ne_true | skip
  rename_i x px
  rcases es with _ | ⟨l, _ | ⟨_, _⟩⟩ <;> first | exact absurd h Bool.false_ne_true | skip
  cases kws <;> first | exact absurd h Bool.false_ne_true | skip
  obtain ⟨h1, h7⟩ := and2 h
  obtain ⟨h2, h3⟩ := and2 h7
  obtain ⟨rfl, g1, m1⟩ := k.bl h1
  exact ⟨i_r1 g1 m1 h2 (ha.e k l h3).b, rfl⟩) (fun _ _ => rfl) (fun _ _ => rfl) (fun _ _ => rfl)
theorem snd_itR2 {a b : T} (ha : Snd C a) (hb : Snd C b) : Snd C (.itR2 a b) := sndI (fun {c X} k g i h => by
  cases i <;> first | exact absurd h Bool.false_ne_true | skip
  rename_i gg es kws pos
  cases gg <;> first | exact absurd h Bool.false_ne_true | skip
  rename_i x px
  rcases es with _ | ⟨l, _ | ⟨r, _ | ⟨_, _⟩⟩⟩ <;> first | exact absurd h Bool.false_ne_true | skip
  cases kws <;> first | exact absurd h Bool.false_ne_true | skip
  obtain ⟨h1, h7⟩ := and2 h
  obtain ⟨h2, h8⟩ := and2 h7
  obtain ⟨h3, h9⟩ := and2 h8
  obtain ⟨h4, h5⟩ := and2 h9
  obtain ⟨rfl, g1, m1⟩ := k.bl h1
  exact ⟨i_r2 g1 m1 h2 h3 (ha.e k l h4).b (hb.e k r h5).b, rfl⟩) (fun _ _ => rfl) (fun _ _ => rfl) (fun _ _ => rfl)
theorem snd_itR3 {a b d : T} (ha : Snd C a) (hb : Snd C b) (hd : Snd C d) : Snd C (.itR3 a b d) := sndI (fun {c X} k g i h => by
  cases i <;> first | exact absurd h Bool.false_ne_true | skip
  rename_i gg es kws pos
  cases gg <;> first | exact absurd h Bool.false_ne_true | skip
  rename_i x px
  rcases es with _ | ⟨l, _ | ⟨r, _ | ⟨z, _ | ⟨_, _⟩⟩⟩⟩ <;> first | exact absurd h Bool.false_ne_true | skip
  cases kws <;> first | exact absurd h Bool.false_ne_true | skip
  obtain ⟨h1, h7⟩ := and2 h
  obtain ⟨h2, h8⟩ := and2 h7
  obtain ⟨h3, h9⟩ := and2 h8
  obtain ⟨h4, h10⟩ := and2 h9
  obtain ⟨h5, h11⟩ := and2 h10
  obtain ⟨h6, h12⟩ := and2 h11
  obtain ⟨rfl, g1, m1⟩ := k.bl h1
  exact ⟨i_r3 g1 m1 h2 h3 h4 (ha.e k l h5).b (hb.e k r h6).b (hd.e k z h12).b, rfl⟩) (fun _ _ => rfl) (fun _ _ => rfl) (fun _ _ => rfl)
theorem snd_itZ {a b : T} (ha : Snd C a) (hb : Snd C b) : Snd C (.itZ a b) := sndI (fun {c X} k g i h => by
  cases g <;> first | exact absurd h Bool.false_ne_true | skip
  cases i <;> first | exact absurd h Bool.false_ne_true | skip
  rename_i gg es kws pos
  cases gg <;> first | exact absurd h Bool.false_ne_true | skip
  rename_i x px
  rcases es with _ | ⟨l, _ | ⟨r, _ | ⟨_, _⟩⟩⟩ <;> first | exact absurd h Bool.false_ne_true | skip
  cases kws <;> first | exact absurd h Bool.false_ne_true | skip
  obtain ⟨h1, h7⟩ := and2 h
  obtain ⟨h2, h8⟩ := and2 h7
  obtain ⟨h3, h9⟩ := and2 h8
  obtain ⟨h4, h5⟩ := and2 h9
  obtain ⟨rfl, g1, m1⟩ := k.bl h1
  refine ⟨(i_zip g1 m1 h2 h3 (nb (ha.e k l h4)) (nb (hb.e k r h5))).imp fun σ H Q ⟨F, G, S, ρ, w, re, d, S', em, q⟩ => ⟨F, G, S, ρ, w, re, d, S', ?_, q⟩, rfl⟩
  have em : (if isB a || isB b then none else bnd (ev C a ρ S) fun x S => bnd (ev C b ρ S) fun y S => (match seqD x, seqD y with | some xs, some ys => some (zipD xs ys, S) | _, _ => none)) = some (d, S') := em
  show (bnd (if isB a then none else ev C a ρ S) fun x S => bnd (if isB b then none else ev C b ρ S) fun y S => (match seqD x, seqD y with | some xs, some ys => some (zipD xs ys, S) | _, _ => none)) = some (d, S')
  cases hb : isB a with
  | true => rw [hb] at em; cases em
  | false =>
    cases hb2 : isB b with
    | true => rw [hb, hb2] at em; cases em
    | false => rw [hb, hb2] at em; exact em) (fun _ _ => rfl) (fun _ _ => rfl) (fun _ _ => rfl)
theorem snd_itE {a : T} (ha : Snd C a) : Snd C (.itE a) := sndI (fun {c X} k g i h => by
  cases g <;> first | exact absurd h Bool.false_ne_true | skip
  cases i <;> first | exact absurd h Bool.false_ne_true | skip
  rename_i gg es kws pos
  cases gg <;> first | exact absurd h Bool.false_ne_true | skip
  rename_i x px
  rcases es with _ | ⟨l, _ | ⟨_, _⟩⟩ <;> first | exact absurd h Bool.false_ne_true | skip
  cases kws <;> first | exact absurd h Bool.false_ne_true | skip
  obtain ⟨h1, h7⟩ := and2 h
  obtain ⟨h2, h3⟩ := and2 h7
  obtain ⟨rfl, g1, m1⟩ := k.bl h1
  refine ⟨(i_enum g1 m1 h2 (nb (ha.e k l h3))).imp fun σ H Q ⟨F, G, S, ρ, w, re, d, S', em, q⟩ => ⟨F, G, S, ρ, w, re, d, S', ?_, q⟩, rfl⟩
  have em : (if isB a then none else bnd (ev C a ρ S) fun x S => (seqD x).map fun xs => (enumD xs, S)) = some (d, S') := em
  show (bnd (if isB a then none else ev C a ρ S) fun x S => (seqD x).map fun xs => (enumD xs, S)) = some (d, S')
  cases hb : isB a with
  | true => rw [hb] at em; cases em
  | false => rw [hb] at em; exact em) (fun _ _ => rfl) (fun _ _ => rfl) (fun _ _ => rfl)
/-! ### comprehensions -/
theorem sw_lc {elt : Expr} {gs : List Comprehension} {scope : Scope} {pos py : Pos} {y : Str} {l : Nat} {env : PySem.Env} : ∃ b : Bool, swapsWith (.ListComp elt gs scope pos) (some (.Name y py)) l env = pure b ∧ (b = true → env.scope.names.lookup y = some .local) := by
  refine ⟨env.blockKind == .function && env.kindOf y == some .local && py.line == pos.line && !(scope.names.any fun (n, k) => n == y && (k == .local || k == .cell)), rfl, fun h => ?_⟩
  have h1 := (and2 (and2 (and2 h).1).1).2
  exact eq_of_beq h1
theorem loopC_eq {f g : D → Store → Option (List D × Store)} (h : ∀ d S, f d S = g d S) : ∀ ds S, loopC f ds S = loopC g ds S
  | [], S => rfl
  | d :: ds, S => by
    unfold loopC bnd
    rw [h]
    cases g d S with
    | none => rfl
    | some p => simp only [loopC_eq h ds]
theorem ev_lc {tg it ifs e : T} : ev C (.lc tg it ifs e) = lcM (evI C it) tg (evQ C ifs) (mNB C e) := by
  funext ρ S
  show (bnd (evI C it ρ S) fun ds S => bnd (loopC (fun d S => (match setTg tg d (wipe ρ (tgNames tg)) with
      | some ρ' => bnd (evQ C ifs ρ' S) fun b S => if b then (if isB e then none else bnd (ev C e ρ' S) fun y S => some ([y], S)) else some ([], S)
      | none => none)) ds S) fun ys S => (lim ys).map fun ys => (PyData.list ys, S)) = _
  unfold lcM
  congr 1
  funext ds S
  rw [loopC_eq (g := lcF tg (evQ C ifs) (mNB C e) ρ)]
  intro d S
  unfold lcF mNB
  cases setTg tg d (wipe ρ (tgNames tg)) with
  | none => rfl
  | some ρ' =>
    simp only
    congr 1
    funext b S
    cases isB e <;> rfl
theorem snd_lc {tg it ifs a : T} (hi : Snd C it) (hq : Snd C ifs) (ha : Snd C a) : Snd C (.lc tg it ifs a) := by
  have main : ∀ {c : Cc} {X : Cx}, Cok c C X → ∀ e, chk (.lc tg it ifs a) c (.e e) = true → notComp e = false ∧ SndE C (.lc tg it ifs a) c X e ∧ AsgR C (.lc tg it ifs a) e X := fun {c X} k e h => by
    cases e <;> first | exact absurd h Bool.false_ne_true | skip
    rename_i elt gs scope pos
    rcases gs with _ | ⟨⟨g, i, qs, as⟩, _ | ⟨_, _⟩⟩ <;> first | exact absurd h Bool.false_ne_true | skip
    · obtain ⟨h0, h11⟩ := and2 h
      have e0 : as = 0 := of_decide_eq_true h0
      subst e0
      obtain ⟨h1, h7⟩ := and2 h11
      clear h0 h11
      obtain ⟨h2, h8⟩ := and2 h7
      obtain ⟨h3, h9⟩ := and2 h8
      obtain ⟨h4, h10⟩ := and2 h9
      obtain ⟨h5, h6⟩ := and2 h10
      clear h7 h8 h9 h10
      obtain ⟨b1, b2, b3, b4, b5⟩ := of_decide_eq_true h1
      have ok : BlkOk X.N X.env.scope scope (ownOf c.N tg) := ⟨b1, b2, by rw [k.N]; exact b3, by rw [k.sc]; exact b4, by rw [k.N]; exact b5⟩
      have hv : (ownOf c.N tg).map (·.2) = tgNames tg := by unfold ownOf; rw [List.map_map]; exact List.map_id' _
      have pgs := fun (s : Shared) (H : Hp) (A : Addr) (cl : List (Str × Addr)) (fp : List Addr) => (snd_G.1 (k.blk b1 s H A cl fp) g h2).1
      have tgg : TgG X.K (gT X.K tg) tg := (snd_G.1 (k.blk b1 X.s_0 X.H_0 (0 : Nat) [] []) g h2).2
      obtain ⟨pi, hns⟩ := hi.it k g i h3
      have pq := fun (s : Shared) (H : Hp) (A : Addr) (cl : List (Str × Addr)) (fp : List Addr) => (hq.es (k.blk b1 s H A cl fp) qs h5).2.1
      have pe := fun (s : Shared) (H : Hp) (A : Addr) (cl : List (Str × Addr)) (fp : List Addr) => nb (ha.e (k.blk b1 s H A cl fp) elt h6)
      have p : PE X (.ListComp elt [⟨g, i, qs, 0⟩] scope pos) (rdF X.K (ev C (.lc tg it ifs a))) := (pe_lc k.calm k.nd pi ok pgs pq pe (fold_no hns)).imp fun σ H Q q => lc_rd tgg hv (by rw [ev_lc] at q; exact q)
      refine ⟨rfl, mkF (rd_of_rdF p) (mL_of p) (fun _ _ => rfl), fun j y py spos n1 n2 n3 => ?_⟩
      obtain ⟨b, hsw, hloc⟩ := sw_lc (elt := elt) (gs := [⟨g, i, qs, 0⟩]) (scope := scope) (pos := pos) (py := py) (y := y) (l := spos.line) (env := X.env)
      cases b with
      | false => exact ⟨fun _ => ⟨_, ps_set k.nd n1 n2 (rd_of_rdF p) hsw n3, fun _ _ _ q => q⟩, fun _ => ⟨_, ps_set k.nd n1 n2 (mL_of p) hsw n3, fun _ _ _ q => q⟩⟩
      | true =>
        have ps := ps_setLc (g := gT X.K tg) (tt := rdT X.K (evQ C ifs)) (te := rd X.K (mNB C a)) (i := j) (py := py) (spos := spos) k.calm k.nd n1 (hloc rfl) hsw pi ok pgs pq pe (fold_no hns)
        refine ⟨fun _ => ⟨_, ps, fun σ H Q q => lc_rd tgg hv (by rw [← ev_lc]; exact rdF_of_rd q)⟩, fun _ => ⟨_, ps, fun σ H Q ⟨F, G, S, ρ, w, re, d, S', em, q⟩ => lc_rd tgg hv ⟨F, G, S, ρ, w, re, d, S', ?_, q⟩⟩⟩
        rw [← ev_lc]
        obtain ⟨x, S1, e1, h⟩ := bnd_some em
        cases x <;> first | (cases h; done) | skip
        cases h
        exact e1
  exact ⟨fun k e z => (main k e z).2.1, fun k e z => (main k e z).2.2, fun _ es z => absurd z Bool.false_ne_true, fun _ o z => absurd z Bool.false_ne_true, fun _ g i z => absurd z Bool.false_ne_true⟩
end
end PyD

set_option Elab.async false
set_option linter.all false
set_option maxRecDepth 100000
/-! PyD, part 12: statements. -/
namespace PyD
open PySem PySem.Spec PyProof.Rows L2
theorem sound (C : Nat → List D → Store → Option (D × Store)) : ∀ t : T, Snd C t := by
  intro t
  induction t with
  | cst d => exact snd_cst
  | var i => exact snd_var
  | bor i => exact snd_bor
  | bop o a b ha hb => exact snd_bop ha hb
  | neg a ha => exact snd_neg ha
  | notv a ha => exact snd_notv ha
  | band a b ha hb => exact snd_band ha hb
  | borr a b ha hb => exact snd_borr ha hb
  | cmp o a b ha hb => exact snd_cmp ha hb
  | chn o p a b d ha hb hd => exact snd_chn ha hb hd
  | ite d a b hd ha hb => exact snd_ite hd ha hb
  | call f as ha => exact snd_call ha
  | b1 b a ha => exact snd_b1 ha
  | b2 b a d ha hd => exact snd_b2 ha hd
  | tup as ha => exact snd_tup ha
  | lst as ha => exact snd_lst ha
  | mkl as ha => exact snd_mkl ha
  | ix a b ha hb => exact snd_ix ha hb
  | sl a lo hi ha hl hh => exact snd_sl ha hl hh
  | rev a ha => exact snd_rev ha
  | tl a ha => exact snd_tl ha
  | lr a ha => exact snd_lr ha
  | mkb a ha => exact snd_mkb ha
  | nop => exact snd_nop
  | lc tg it ifs e _ hi hq he => exact snd_lc hi hq he
  | anil => exact snd_anil
  | acons a r ha hr => exact snd_acons ha hr
  | itS a ha => exact snd_itS ha
  | itR1 a ha => exact snd_itR1 ha
  | itR2 a b ha hb => exact snd_itR2 ha hb
  | itR3 a b d ha hb hd => exact snd_itR3 ha hb hd
  | itZ a b ha hb => exact snd_itZ ha hb
  | itE a ha => exact snd_itE ha
  | _ => exact ⟨fun _ e z => absurd z Bool.false_ne_true, fun _ e z => absurd z Bool.false_ne_true, fun _ e z => absurd z Bool.false_ne_true, fun _ e z => absurd z Bool.false_ne_true, fun _ g i z => absurd z Bool.false_ne_true⟩
/-! ### stores of a pair -/
def swNames (sc : Scope) (ts : List Expr) : List Str := ts.filterMap fun
    | .Name id pos => if sc.names.lookup id == some .local && pos.line == (ts.head?.map (·.pos.line)).getD 0 then some id else none
    | _ => none
def swapV (sc : Scope) (ts vs : List Expr) : Option (Option (List Str)) :=
  if !(ts.length == 2 || ts.length == 3) || vs.length != ts.length then some none
  else if (vs.any fun | .Starred .. => true | _ => false) then some none
  else if (swNames sc ts).length != ts.length || (swNames sc ts).eraseDups.length != (swNames sc ts).length then some none
  else if vs.all (foldedForSure 8) then some none
  else if vs.all (constantsAlone 8) then none
  else some (some (swNames sc ts))
theorem swap_of {env : PySem.Env} {ts vs : List Expr} {k k2 : Nat} {p p2 : Pos} {r : Option (List Str)} (hk : env.scope.kind = .function) (h : swapV env.scope ts vs = some r) : swappedStores [.Tuple ts k p] (.Tuple vs k2 p2) env = pure r := by
  have hb : env.blockKind = .function := by unfold Env.blockKind; rw [hk]; rfl
  unfold swapV at h
  unfold swappedStores
  simp only [hb]
  have e2 : ((ScopeKind.function : ScopeKind) != .function) = false := rfl
  simp only [e2, Bool.or_false]
  split at h
  · rename_i c; cases h; rw [if_pos c]
  · rename_i c
    rw [if_neg c]
    split at h
    · rename_i c2; cases h; exact if_pos c2
    · rename_i c2
      refine Eq.trans (if_neg c2) ?_
      split at h
      · rename_i c3; cases h
        exact if_pos c3
      · rename_i c3
        refine Eq.trans (if_neg c3) ?_
        split at h
        · rename_i c4; cases h; exact if_pos c4
        · rename_i c4
          refine Eq.trans (if_neg c4) ?_
          split at h
          · cases h
          · rename_i c5; cases h
            exact if_neg c5
def notTuple : Expr → Bool
  | .Tuple _ _ _ => false
  | _ => true
def noSwB (sc : Scope) (g v : Expr) : Bool := match g, v with
  | .Tuple ts _ _, .Tuple vs _ _ => (match swapV sc ts vs with
    | some none => true
    | _ => false)
  | .Tuple _ _ _, _ => true
  | .Name _ _, _ => true
  | .Subscript _ _ _, _ => true
  | _, _ => false
theorem noSw {env : PySem.Env} {g v : Expr} (hk : env.scope.kind = .function) (h : noSwB env.scope g v = true) : swappedStores [g] v env = pure none := by
  cases g <;> first | (exact absurd h Bool.false_ne_true) | skip
  · rfl
  · rfl
  · cases v <;> first | rfl | skip
    unfold noSwB at h
    simp only at h
    split at h
    · rename_i e; exact swap_of hk e
    · cases h
section
variable {X : Cx} {K : Frag} {F0 F F' F2 : Nat → Addr} {N N' : Nat} {G0 G G' G2 H0 H H' H2 : Hp} {S0 S S' S2 : Store} {σ σ' : L2.St} {ρ ρ' : Env} {pos : Pos}
theorem SE.put_val (se : SE K F0 G0 H0 S0 F G H S σ ρ) {v : V} {d : D} (r : Rv K F S.length G v d) (i : Nat) : SE K F0 G0 H0 S0 F G H S (σ.set i (some v)) (ρ.set i (.val d)) := se.put (se.re.put_val r i) .put
/-! ### several stores at once -/
/-- values that come: kept ones, and lists of the def's own (flagged) -/
inductive AVs (K : Frag) (F : Nat → Addr) (N : Nat) (G H : Hp) : List Bool → List V → List D → Prop
  | nil : AVs K F N G H [] [] []
  | val {fs : List Bool} {v : V} {d : D} {vs : List V} {ds : List D} : Rv K F N G v d → AVs K F N G H fs vs ds → AVs K F N G H (false :: fs) (v :: vs) (d :: ds)
  | own {fs : List Bool} {a : Addr} {us : List V} {xs : List D} {vs : List V} {ds : List D} : G a = none → H a = some (.lst us) → (∀ i, i < N → a ≠ F i) → Rvs K F N G us xs → (∀ i : Nat, fs[i]? = some true → vs[i]? ≠ some (V.ref a)) → AVs K F N G H fs vs ds →
      AVs K F N G H (true :: fs) (.ref a :: vs) (.list xs :: ds)
theorem AVs.ext (x : Ext F G H N F' G' H' N') {fs : List Bool} {vs : List V} {ds : List D} (r : AVs K F N G H fs vs ds) : AVs K F' N' G' H' fs vs ds := by
  induction r with
  | nil => exact .nil
  | val r _ ih => exact .val (r.ext x) ih
  | own g h l rv nd _ ih => exact .own (x.notG g h) (x.keep _ _ h l) (x.notF h l) (rv.ext x) nd ih
theorem AVs.length {fs : List Bool} {vs : List V} {ds : List D} (r : AVs K F N G H fs vs ds) : vs.length = fs.length ∧ ds.length = fs.length := by
  induction r with
  | nil => exact ⟨rfl, rfl⟩
  | val _ _ ih => exact ⟨by simp [ih.1], by simp [ih.2]⟩
  | own _ _ _ _ _ _ ih => exact ⟨by simp [ih.1], by simp [ih.2]⟩
theorem AVs.there {fs : List Bool} {vs : List V} {ds : List D} (r : AVs K F N G H fs vs ds) : ∀ (i : Nat) a, fs[i]? = some true → vs[i]? = some (V.ref a) → H a ≠ none := by
  induction r with
  | nil => intro i a h; simp at h
  | val _ _ ih =>
    intro i a h1 h2
    cases i with
    | zero => simp at h1
    | succ i => exact ih i a (by simpa using h1) (by simpa using h2)
  | own _ h _ _ _ _ ih =>
    intro i a h1 h2
    cases i with
    | zero => simp at h2; subst h2; rw [h]; exact fun z => nomatch z
    | succ i => exact ih i a (by simpa using h1) (by simpa using h2)
def rdAF (K : Frag) (fs : List Bool) (m : Env → Store → Option (List D × Store)) : TA := fun σ H Q => ∃ F G S ρ, Wd K F G H S ∧ RE K F S.length G H σ ρ ∧ ∃ ds S', m ρ S = some (ds, S') ∧ ∀ vs F' G' H', Ext F G H S.length F' G' H' S'.length → Wd K F' G' H' S' → AVs K F' S'.length G' H' fs vs ds →
  (∀ (i : Nat) a, fs[i]? = some true → vs[i]? = some (V.ref a) → H a = none) → Q vs H'
def consM (ma : Env → Store → Option (D × Store)) (mr : Env → Store → Option (List D × Store)) : Env → Store → Option (List D × Store) := fun ρ S => bnd (ma ρ S) fun x S => bnd (mr ρ S) fun xs S => some (x :: xs, S)
theorem af_nil : PA X [] (rdAF X.K [] fun _ S => some ([], S)) := pa_nil.imp fun σ H Q ⟨F, G, S, ρ, w, re, d, S', em, q⟩ => by cases em; exact q _ F G H .refl w .nil (fun i a h => by simp at h)
theorem af_val {e : Expr} {es : List Expr} {fs : List Bool} {ma : Env → Store → Option (D × Store)} {mr : Env → Store → Option (List D × Store)} (hs : notStar e = true) (pe : PE X e (rd X.K ma)) (pr : PA X es (rdAF X.K fs mr)) : PA X (e :: es) (rdAF X.K (false :: fs) (consM ma mr)) :=
  (pa_cons pe pr (star_cons hs)).imp fun σ H Q ⟨F, G, S, ρ, w, re, d, S', em, q⟩ => by
    obtain ⟨x, S1, e1, h⟩ := bnd_some em
    obtain ⟨xs, S2, e2, h⟩ := bnd_some h
    cases h
    refine ⟨F, G, S, ρ, w, re, x, S1, e1, fun v F1 G1 H1 x1 w1 r1 => ⟨F1, G1, S1, ρ, w1, re.ext x1, xs, S', e2, fun vs F2 G2 H2 x2 w2 r2 n2 => ?_⟩⟩
    refine q _ F2 G2 H2 (x1.trans w1 x2) w2 (.val (r1.ext x2) r2) fun i a h1 h2 => ?_
    cases i with
    | zero => simp at h1
    | succ i =>
      have n := n2 i a (by simpa using h1) (by simpa using h2)
      cases c : H a with
      | none => rfl
      | some o => exact absurd n (x1.there w1 rfl c)
theorem af_own {e : Expr} {es : List Expr} {fs : List Bool} {ma : Env → Store → Option (D × Store)} {mr : Env → Store → Option (List D × Store)} (hs : notStar e = true) (pe : PE X e (rdF X.K (mL ma))) (pr : PA X es (rdAF X.K fs mr)) : PA X (e :: es) (rdAF X.K (true :: fs) (consM (mL ma) mr)) :=
  (pa_cons pe pr (star_cons hs)).imp fun σ H Q ⟨F, G, S, ρ, w, re, d, S', em, q⟩ => by
    obtain ⟨x, S1, e1, h⟩ := bnd_some em
    obtain ⟨xs, S2, e2, h⟩ := bnd_some h
    cases h
    refine ⟨F, G, S, ρ, w, re, x, S1, e1, fun v F1 G1 H1 x1 w1 hh => ?_⟩
    obtain ⟨a, us, ys, e4, e5, n1, g1, h1, l1, rv⟩ := hh
    refine ⟨F1, G1, S1, ρ, w1, re.ext x1, xs, S', e2, fun vs F2 G2 H2 x2 w2 r2 n2 => ?_⟩
    subst e4 e5
    refine q _ F2 G2 H2 (x1.trans w1 x2) w2 (.own (x2.notG g1 h1) (x2.keep a _ h1 l1) (x2.notF h1 l1) (rv.ext x2) (fun i c1 c2 => ?_) r2) fun i b c1 c2 => ?_
    · have := n2 i a c1 c2
      rw [h1] at this; cases this
    · cases i with
      | zero => simp at c2; subst c2; exact n1
      | succ i =>
        have n := n2 i b (by simpa using c1) (by simpa using c2)
        cases c : H b with
        | none => rfl
        | some o => exact absurd n (x1.there w1 rfl c)
def setSig : List (Nat × Bool) → List V → L2.St → L2.St
  | (i, _) :: ts, v :: vs, σ => setSig ts vs (σ.set i (some v))
  | _, _, σ => σ
def Fr (σ : L2.St) (ρ : Env) (a : Addr) : Prop := ∀ (j : Nat) ys, ρ[j]? = some (.own ys) → σ[j]? ≠ some (some (.ref a))
theorem SE.putPar : ∀ {ts : List (Nat × Bool)} {vs : List V} {ds : List D} {σ : L2.St} {ρ : Env}, SE K F0 G0 H0 S0 F G H S σ ρ → AVs K F S.length G H (ts.map (·.2)) vs ds →
    (∀ (i : Nat) a, (ts.map (·.2))[i]? = some true → vs[i]? = some (V.ref a) → H0 a = none ∧ Fr σ ρ a) → setPar ts ds ρ = some ρ' → SE K F0 G0 H0 S0 F G H S (setSig ts vs σ) ρ'
  | [], vs, ds, σ, ρ, se, r, hf, e => by
    cases r
    simp [setPar] at e
    subst e
    exact se
  | (i, f) :: ts, vs, ds, σ, ρ, se, r, hf, e => by
    cases f with
    | false =>
      cases r with
      | val r1 r2 =>
        rename_i v d vs ds
        rw [setPar] at e
        show SE K F0 G0 H0 S0 F G H S (setSig ts vs (σ.set i (some v))) ρ'
        refine SE.putPar (se.put_val r1 i) r2 (fun j a c1 c2 => ?_) e
        obtain ⟨c3, c4⟩ := hf (j + 1) a (by simpa using c1) (by simpa using c2)
        refine ⟨c3, fun l ys q1 q2 => ?_⟩
        rcases set_at q1 with ⟨rfl, q, _⟩ | ⟨c, q⟩
        · cases q
        · rw [List.getElem?_set_ne c] at q2
          exact c4 l ys q q2
    | true =>
      cases r with
      | own g h l rv nd r2 =>
        rename_i a us xs vs ds
        rw [setPar] at e
        obtain ⟨d1, d2⟩ := hf 0 a rfl rfl
        show SE K F0 G0 H0 S0 F G H S (setSig ts vs (σ.set i (some (V.ref a)))) ρ'
        refine SE.putPar (se.putO d1 g h l rv i fun j ys _ q => d2 j ys q) r2 (fun j b c1 c2 => ?_) e
        obtain ⟨c3, c4⟩ := hf (j + 1) b (by simpa using c1) (by simpa using c2)
        refine ⟨c3, fun m ys q1 q2 => ?_⟩
        rcases set_at q1 with ⟨rfl, q, ll⟩ | ⟨c, q⟩
        · rw [List.getElem?_set_self (by rw [se.re.len]; exact ll)] at q2
          cases q2
          exact nd j c1 c2
        · rw [List.getElem?_set_ne c] at q2
          exact c4 m ys q q2
def parM (ts : List (Nat × Bool)) (ma : Env → Store → Option (List D × Store)) : Env → Store → Option (Res × Store) := fun ρ S => bnd (ma ρ S) fun ds S => (setPar ts ds ρ).map fun ρ => (.next ρ, S)
/-- from the values to the slots -/
theorem par_core {ts : List (Nat × Bool)} {ma : Env → Store → Option (List D × Store)} {D : Ends} {R : List V → Hp → Prop} (h : rdS K (parM ts ma) D σ H)
    (k : ∀ (vs : List V) (F1 : Nat → Addr) (G1 H1 : Hp) (S1 : Store), Wd K F1 G1 H1 S1 → vs.length = ts.length → (∀ F2 G2 H2, Ext F1 G1 H1 S1.length F2 G2 H2 S1.length → Wd K F2 G2 H2 S1 → D.nx (setSig ts vs σ) H2) → R vs H1) : rdAF K (ts.map (·.2)) ma σ H R := by
  obtain ⟨F0, G0, H0, S0, F, G, S, ρ, se, r, S', em, q⟩ := h
  obtain ⟨ds, S1, e1, h⟩ := bnd_some em
  obtain ⟨ρ', e2, h9⟩ := map_some h
  cases h9
  clear h
  refine ⟨F, G, S, ρ, se.w, se.re, ds, S', e1, fun vs F1 G1 H1 x1 w1 rs nf => k vs F1 G1 H1 S' w1 (by have := rs.length.1; simpa using this) fun F2 G2 H2 x2 w2 => ?_⟩
  have se2 := (se.ext x1 w1).ext x2 w2
  refine q F2 G2 H2 _ (se2.putPar (rs.ext x2) (fun i a c1 c2 => ⟨se.fresh (nf i a c1 c2), fun j ys d1 d2 => ?_⟩) e2) (x1.fwd.trans x2.fwd)
  obtain ⟨b, us, c4, _, c5, _⟩ := se.re.own j ys d1
  rw [d2] at c4; cases c4
  rw [nf i a c1 c2] at c5; cases c5
theorem s_par2 {st : Stmt} {i j : Nat} {f g : Bool} {ma : Env → Store → Option (List D × Store)} (p : PS X st (tPar i j (rdAF X.K [f, g] ma))) : PS X st (rdS X.K (parM [(i, f), (j, g)] ma)) :=
  p.imp fun D σ H h => par_core (ts := [(i, f), (j, g)]) h fun vs F1 G1 H1 S1 w1 hl k => by
    rcases vs with _ | ⟨v, _ | ⟨w, _ | ⟨_, _⟩⟩⟩ <;> first | (simp at hl; done) | skip
    exact ⟨v, w, rfl, k F1 G1 H1 .refl w1⟩
theorem s_par3 {st : Stmt} {i j l : Nat} {f g e : Bool} {ma : Env → Store → Option (List D × Store)} (p : PS X st (tPar3 i j l (rdAF X.K [f, g, e] ma))) : PS X st (rdS X.K (parM [(i, f), (j, g), (l, e)] ma)) :=
  p.imp fun D σ H h => par_core (ts := [(i, f), (j, g), (l, e)]) h fun vs F1 G1 H1 S1 w1 hl k => by
    rcases vs with _ | ⟨v, _ | ⟨w, _ | ⟨z, _ | ⟨_, _⟩⟩⟩⟩ <;> first | (simp at hl; done) | skip
    exact ⟨v, w, z, rfl, k F1 G1 H1 .refl w1⟩
def gNs : List (Nat × Bool) → TGs
  | [] => gNil
  | (i, _) :: ts => gCons (gName i) (gNs ts)
theorem gNs_run : ∀ {ts : List (Nat × Bool)} {vs : List V} {σ : L2.St} {H : Hp} {Q : L2.St → Hp → Prop}, vs.length = ts.length → Q (setSig ts vs σ) H → gNs ts vs σ H Q
  | [], [], σ, H, Q, _, q => ⟨rfl, q⟩
  | (i, f) :: ts, v :: vs, σ, H, Q, hl, q => ⟨v, vs, rfl, gNs_run (by simpa using hl) q⟩
/-- by a tuple that is unpacked -/
theorem s_parU {st : Stmt} {ts : List (Nat × Bool)} {ma : Env → Store → Option (List D × Store)} {te : TE} (hl : ts.length ≤ 100) (ht : ∀ σ H Q, rdAF X.K (ts.map (·.2)) ma σ H (fun vs H1 => vs.length ≤ sizeLine ∧ ∀ p, H1 p = none → Q (.ref p) (upd H1 p (.tup vs))) → te σ H Q)
    (p : PS X st (tAsg te (gTup X.K ts.length (gNs ts)))) : PS X st (rdS X.K (parM ts ma)) :=
  p.imp fun D σ H h => ht σ H _ (par_core (ts := ts) h fun vs F1 G1 H1 S1 w1 hvl k => ⟨by rw [hvl]; exact sz (by omega), fun p hp => ⟨p, vs, rfl, .inl (.inl upd_same), hvl, gNs_run hvl (k F1 G1 _ (.newO w1 hp) (w1.newO hp))⟩⟩)
end
def namesB (c : Cc) : List (Nat × Bool) → List Expr → Bool
  | [], [] => true
  | (i, _) :: ts, .Name x _ :: gs => stB c i x && namesB c ts gs
  | _, _ => false
def chkAF (c : Cc) : List Bool → T → List Expr → Bool
  | [], .anil, [] => true
  | f :: fs, .acons a r, e :: es => notStar e && ((!f || isF a) && (!isB a && (chk a c (.e e) && chkAF c fs r es)))
  | _, _, _ => false
def evAF (C : Nat → List D → Store → Option (D × Store)) : List Bool → T → Env → Store → Option (List D × Store)
  | [], .anil => fun _ S => some ([], S)
  | f :: fs, .acons a r => consM (if f then mL (ev C a) else ev C a) (evAF C fs r)
  | _, _ => fun _ _ => none
section
variable {C : Nat → List D → Store → Option (D × Store)} {c : Cc} {X : Cx}
theorem names_ok (k : Cok c C X) : ∀ {ts : List (Nat × Bool)} {gs : List Expr}, namesB c ts gs = true → PGs X gs (gNs ts) ∧ noStars gs = true ∧ gs.length = ts.length
  | [], [], _ => ⟨pgs_nil, rfl, rfl⟩
  | (i, f) :: ts, g :: gs, h => by
    cases g <;> first | (exact absurd h Bool.false_ne_true) | skip
    obtain ⟨h1, h2⟩ := and2 h
    obtain ⟨n1, n2, n3⟩ := k.st h1
    obtain ⟨p, s, l⟩ := names_ok k h2
    exact ⟨pg_cons rfl (pg_name k.nd n1 n2 n3) p, s, by simp [l]⟩
  | [], _ :: _, h => absurd h Bool.false_ne_true
  | _ :: _, [], h => absurd h Bool.false_ne_true
theorem pa_AF (k : Cok c C X) : ∀ {fs : List Bool} {as : T} {es : List Expr}, chkAF c fs as es = true → PA X es (rdAF X.K fs (evAF C fs as))
  | [], as, es, h => by
    cases as <;> first | (exact absurd h Bool.false_ne_true) | skip
    cases es with
    | nil => exact af_nil
    | cons _ _ => exact absurd h Bool.false_ne_true
  | f :: fs, as, es, h => by
    cases as <;> first | (exact absurd h Bool.false_ne_true) | skip
    rename_i a r
    cases es with
    | nil => exact absurd h Bool.false_ne_true
    | cons e es =>
      obtain ⟨h1, h7⟩ := and2 h
      obtain ⟨h2, h8⟩ := and2 h7
      obtain ⟨h3, h9⟩ := and2 h8
      obtain ⟨h4, h5⟩ := and2 h9
      have pr := pa_AF k h5
      have pe := (sound C a).e k e h4
      cases f with
      | false => exact af_val h1 (pe.v (by simpa using h3)) pr
      | true => exact af_own h1 (pe.f (by simpa using h2)) pr
/-- what is stored tells that the flagged ones are lists -/
theorem evAF_of : ∀ {ts : List (Nat × Bool)} {as : T} {ds : List D} {ρ ρ1 ρ' : Env} {S S' : Store}, evA C as ρ S = some (ds, S') → setPar ts ds ρ1 = some ρ' → evAF C (ts.map (·.2)) as ρ S = some (ds, S')
  | [], as, ds, ρ, ρ1, ρ', S, S', e1, e2 => by
    cases ds with
    | cons d ds => simp [setPar] at e2
    | nil =>
      cases as <;> first | (cases e1; done) | skip
      · cases e1; rfl
      · rename_i a r
        rw [evA] at e1
        split at e1
        · cases e1
        · obtain ⟨x, S1, h1, h⟩ := bnd_some e1
          obtain ⟨xs, S2, h2, h⟩ := bnd_some h
          cases h
  | (i, f) :: ts, as, ds, ρ, ρ1, ρ', S, S', e1, e2 => by
    cases as <;> first | (cases e1; done) | skip
    · cases e1
      cases f <;> simp [setPar] at e2
    · rename_i a r
      rw [evA] at e1
      split at e1
      · cases e1
      · obtain ⟨x, S1, h1, h⟩ := bnd_some e1
        obtain ⟨xs, S2, h2, h⟩ := bnd_some h
        cases h
        show consM (if f then mL (ev C a) else ev C a) (evAF C (ts.map (·.2)) r) ρ S = some (x :: xs, S')
        cases f with
        | false =>
          rw [setPar] at e2
          have ih := evAF_of h2 e2
          unfold consM
          rw [if_neg (by decide), h1]
          show (bnd (evAF C (ts.map (·.2)) r ρ S1) fun xs S => some (x :: xs, S)) = _
          rw [ih]; rfl
        | true =>
          cases x <;> first | (simp [setPar] at e2; done) | skip
          rename_i zs
          rw [setPar] at e2
          have ih := evAF_of h2 e2
          unfold consM
          have hm : mL (ev C a) ρ S = some (PyData.list zs, S1) := by unfold mL; rw [h1]; rfl
          rw [if_pos rfl, hm]
          show (bnd (evAF C (ts.map (·.2)) r ρ S1) fun xs S => some (PyData.list zs :: xs, S)) = _
          rw [ih]; rfl
end
/-! ### the check -/
def isNil (x : Option (List Stmt)) : Bool := match x with
  | some [] => true
  | _ => false
def put (b : Bool) (r : List Stmt) : Option (List Stmt) := if b then some r else none
def nmL (c : Cc) (i : Nat) (x : Str) : Bool := decide (c.N[i]? = some x) && lclB c.sc x
def parB (c : Cc) (ts : List (Nat × Bool)) (as : T) (gs vs : List Expr) : Bool := chkAF c (ts.map (·.2)) as vs && (match swapV c.sc gs vs with
  | some none => namesB c ts gs && decide (ts.length ≤ 100)
  | some (some xs) => (match ts, gs, vs with
    | [(i, _), (j, _)], [.Name x _, .Name y _], [_, _] => decide (i ≠ j) && (nmL c i x && (nmL c j y && decide (xs = [x, y])))
    | [(i, _), (j, _), (l, _)], [.Name x _, .Name y _, .Name z _], [_, _, _] => decide (i ≠ j ∧ i ≠ l ∧ j ≠ l) && (nmL c i x && (nmL c j y && (nmL c l z && decide (xs = [x, y, z]))))
    | _, _, _ => false)
  | none => false)
def swpB (c : Cc) (i : Nat) (ix1 ix2 a b : T) (g v : Expr) : Bool := match g, v with
  | .Tuple [.Subscript (.Name x _) j _, .Subscript (.Name y _) l _] _ _, .Tuple [u, v] _ _ => nmB c i x && (nmB c i y && (notSlice j && (notSlice l && (notStar u && (notStar v && (chk a c (.e u) && (chk b c (.e v) && (chk ix1 c (.e j) && chk ix2 c (.e l)))))))))
  | _, _ => false
def chkS : Sn → Cc → List Stmt → Option (List Stmt)
  | .skip, c, sts => (match sts with
    | .Pass _ :: r => some r
    | _ => some sts)
  | .seq a b, c, sts => (match chkS a c sts with
    | some r => chkS b c r
    | none => none)
  | .asg tg e, c, sts => (match sts with
    | .Assign [g] v _ :: r => put (match tg, g with
      | .nm i, .Name x _ => stB c i x && chk e c (.e v)
      | _, _ => notComp v && (noSwB c.sc g v && (chkG c tg (.e g) && chk e c (.e v)))) r
    | _ => none)
  | .asgO i e, c, sts => (match sts with
    | .Assign [.Name x _] v _ :: r => put (isF e && (stB c i x && chk e c (.e v))) r
    | _ => none)
  | .par ts as, c, sts => (match sts with
    | .Assign [.Tuple gs _ _] (.Tuple vs _ _) _ :: r => put (parB c ts as gs vs) r
    | _ => none)
  | .seti i ix e, c, sts => (match sts with
    | .Assign [.Subscript (.Name x p) j q] v _ :: r => put (nmB c i x && (notSlice j && (chk ix c (.e j) && chk e c (.e v)))) r
    | _ => none)
  | .setl a ix e, c, sts => (match sts with
    | .Assign [.Subscript o j _] v _ :: r => put (notSlice j && (chk a c (.e o) && (chk ix c (.e j) && chk e c (.e v)))) r
    | _ => none)
  | .swp i ix1 ix2 a b, c, sts => (match sts with
    | .Assign [g] v _ :: r => put (swpB c i ix1 ix2 a b g v) r
    | _ => none)
  | .app i e, c, sts => (match sts with
    | .Expr (.Call (.Attribute (.Name x _) m ap) [v] [] cp) _ :: r => put (decide (m = "append") && (nmB c i x && ((ap.endLine == cp.line) && (notStar v && chk e c (.e v))))) r
    | _ => none)
  | .ext i e, c, sts => (match sts with
    | .Expr (.Call (.Attribute (.Name x _) m ap) [v] [] cp) _ :: r => put (decide (m = "extend") && (nmB c i x && ((ap.endLine == cp.line) && (notStar v && chk e c (.e v))))) r
    | _ => none)
  | .ifs t a b, c, sts => (match sts with
    | .If x p q _ :: r => put (chk t c (.e x) && (isNil (chkS a c p) && isNil (chkS b c q))) r
    | _ => none)
  | .forS tg it b, c, sts => (match sts with
    | .For g i p [] _ :: r => put (chkG c tg (.e g) && (chk it c (.it g i) && isNil (chkS b c p))) r
    | _ => none)
  | .whl t b, c, sts => (match sts with
    | .While x p [] _ :: r => put (chk t c (.e x) && isNil (chkS b c p)) r
    | _ => none)
  | .ret e, c, sts => (match sts with
    | .Return (some v) _ :: r => put (chk e c (.e v)) r
    | _ => none)
  | .expr e, c, sts => (match sts with
    | .Expr v _ :: r => put (notComp v && (!isB e && chk e c (.e v))) r
    | _ => none)
  | .frz _, c, sts => some sts
  | .fail, c, sts => (match sts with
    | _ :: r => some r
    | [] => none)
/-! ### its word -/
section
variable {C : Nat → List D → Store → Option (D × Store)} {W : Nat} {c : Cc} {X : Cx}
def retM : Env → Store → Option (Res × Store) := fun ρ S => some (.next ρ, S)
theorem seq_ret (m : Env → Store → Option (Res × Store)) : seqM m retM = m := by
  funext ρ S
  unfold seqM bnd
  cases m ρ S with
  | none => rfl
  | some p => obtain ⟨r, S⟩ := p; cases r <;> rfl
theorem seq_assoc (m n o : Env → Store → Option (Res × Store)) : seqM (seqM m n) o = seqM m (seqM n o) := by
  funext ρ S
  unfold seqM bnd
  cases m ρ S with
  | none => rfl
  | some p => obtain ⟨r, S⟩ := p; cases r <;> rfl
theorem isNil_of {x : Option (List Stmt)} (h : isNil x = true) : x = some [] := by
  unfold isNil at h
  split at h
  · rfl
  · cases h
theorem put_some {b : Bool} {r r' : List Stmt} (h : put b r = some r') : b = true ∧ r = r' := by
  unfold put at h
  split at h
  · rename_i e; cases h; exact ⟨e, rfl⟩
  · cases h
def SndS (C : Nat → List D → Store → Option (D × Store)) (W : Nat) (s : Sn) : Prop := ∀ {c : Cc} {X : Cx}, Cok c C X → ∀ sts rest, chkS s c sts = some rest → ∀ m, PSs X rest (rdS X.K m) → PSs X sts (rdS X.K (seqM (ex C W s) m))
theorem SndS.block {s : Sn} (h : SndS C W s) (k : Cok c C X) {sts : List Stmt} (z : chkS s c sts = some []) : PSs X sts (rdS X.K (ex C W s)) := by
  have q := h k sts [] z retM s_nil
  rwa [seq_ret] at q
/-- one statement -/
theorem one_st {s : Sn} (h : ∀ {c : Cc} {X : Cx}, Cok c C X → ∀ sts rest, chkS s c sts = some rest → ∃ st, sts = st :: rest ∧ PS X st (rdS X.K (ex C W s))) : SndS C W s := fun {c X} k sts rest z m p => by
  obtain ⟨st, rfl, q⟩ := h k sts rest z
  exact s_cons q p
theorem Cok.kind' (k : Cok c C X) : X.env.scope.kind = .function := by rw [k.sc]; exact k.kind
theorem Cok.nmL (k : Cok c C X) {i : Nat} {x : Str} (h : nmL c i x = true) : X.N[i]? = some x ∧ X.env.scope.names.lookup x = some .local := by
  obtain ⟨h1, h2⟩ := and2 h
  exact ⟨by rw [k.N]; exact of_decide_eq_true h1, by rw [k.sc]; exact lcl_of h2⟩
theorem sS_par {ts : List (Nat × Bool)} {as : T} : SndS C W (.par ts as) := one_st fun {c X} k sts rest z => by
  rcases sts with _ | ⟨st, r⟩
  · cases z
  cases st <;> first | (cases z; done) | skip
  rename_i tgs v pos
  rcases tgs with _ | ⟨g, _ | ⟨_, _⟩⟩ <;> first | (cases z; done) | skip
  · cases g <;> first | (cases z; done) | skip
    rename_i gs k1 p1
    cases v <;> first | (cases z; done) | skip
    rename_i vs k2 p2
    obtain ⟨h, rfl⟩ := put_some z
    have nosw : swapsWithSole [.Tuple gs k1 p1] (.Tuple vs k2 p2) pos.line X.env = pure false := rfl
    obtain ⟨h1, h2⟩ := and2 h
    have pa := pa_AF k h1
    have fin : PS X (.Assign [.Tuple gs k1 p1] (.Tuple vs k2 p2) pos) (rdS X.K (parM ts (evAF C (ts.map (·.2)) as))) → PS X (.Assign [.Tuple gs k1 p1] (.Tuple vs k2 p2) pos) (rdS X.K (ex C W (.par ts as))) := fun p => p.imp fun D σ H ⟨F0, G0, H0, S0, F, G, S, ρ, se, r, S', em, q⟩ => ⟨F0, G0, H0, S0, F, G, S, ρ, se, r, S', by
      obtain ⟨ds, S1, e1, h⟩ := bnd_some (show (bnd (evA C as ρ S) fun ds S => (setPar ts ds ρ).map fun ρ => (Res.next ρ, S)) = some (r, S') from em)
      obtain ⟨ρ', e2, h9⟩ := map_some h
      unfold parM
      rw [evAF_of e1 e2]
      exact h, q⟩
    refine ⟨_, rfl, fin ?_⟩
    clear fin h z
    split at h2
    · rename_i hsw
      obtain ⟨h3, h4⟩ := and2 h2
      obtain ⟨pn, sn, ln⟩ := names_ok k h3
      have sw := swap_of (k := k1) (k2 := k2) (p := p1) (p2 := p2) k.kind' (by rw [k.sc]; exact hsw)
      have pg := pg_tup' (pos := p1) (k := k1) k.calm sn pn
      rw [ln] at pg
      exact s_parU (of_decide_eq_true h4) (fun σ H Q q => q) (ps_asg (pe_tup pa) pg nosw sw)
    · rename_i xs hsw
      split at h2
      · rename_i i f j g x px y py v1 v2
        obtain ⟨h3, hA⟩ := and2 h2
        obtain ⟨h4, hB⟩ := and2 hA
        obtain ⟨h5, h6⟩ := and2 hB
        have e := of_decide_eq_true h6
        subst e
        obtain ⟨a1, a2⟩ := k.nmL h4
        obtain ⟨b1, b2⟩ := k.nmL h5
        have sw := swap_of (k := k1) (k2 := k2) (p := p1) (p2 := p2) k.kind' (by rw [k.sc]; exact hsw)
        exact s_par2 (ps_par k.calm k.nd a1 b1 (of_decide_eq_true h3) a2 b2 pa sw nosw)
      · rename_i i f j g l e x px y py zz pz v1 v2 v3
        obtain ⟨h3, hA⟩ := and2 h2
        obtain ⟨h4, hB⟩ := and2 hA
        obtain ⟨h5, hC⟩ := and2 hB
        obtain ⟨h7, h6⟩ := and2 hC
        have e := of_decide_eq_true h6
        subst e
        obtain ⟨a1, a2⟩ := k.nmL h4
        obtain ⟨b1, b2⟩ := k.nmL h5
        obtain ⟨c1, c2⟩ := k.nmL h7
        obtain ⟨d1, d2, d3⟩ := of_decide_eq_true h3
        have sw := swap_of (k := k1) (k2 := k2) (p := p1) (p2 := p2) k.kind' (by rw [k.sc]; exact hsw)
        exact s_par3 (ps_par3 k.calm k.nd a1 b1 c1 d1 d2 d3 a2 b2 c2 pa sw nosw)
      · cases h2
    · cases h2
  · cases g <;> cases z
end
end PyD

set_option Elab.async false
set_option linter.all false
set_option maxRecDepth 100000
/-! PyD, part 13: every statement; defs; a program. -/
namespace PyD
open PySem PySem.Spec PyProof.Rows L2
section
variable {C : Nat → List D → Store → Option (D × Store)} {W : Nat}
theorem sS_skip : SndS C W .skip := fun {c X} k sts rest z m p => by
  have e : seqM (ex C W .skip) m = m := by funext ρ S; rfl
  rw [e]
  rcases sts with _ | ⟨st, r⟩
  · cases z; exact p
  · cases st <;> first | (cases z; exact p) | skip
    cases z
    have q := s_cons (m1 := retM) (s_pass (X := X) (pos := by assumption)) p
    have e2 : seqM retM m = m := by funext ρ S; rfl
    rw [e2] at q
    exact q
theorem sS_seq {a b : Sn} (ha : SndS C W a) (hb : SndS C W b) : SndS C W (.seq a b) := fun {c X} k sts rest z m p => by
  have z : (match chkS a c sts with | some r => chkS b c r | none => none) = some rest := z
  split at z
  · rename_i r e
    have q := ha k sts r e _ (hb k r rest z m p)
    rw [← seq_assoc] at q
    exact q
  · cases z
theorem sS_frz {i : Nat} : SndS C W (.frz i) := fun {c X} k sts rest z m p => by
  cases z
  exact p.imp fun D σ H h => s_frz (i := i) h
theorem sS_fail : SndS C W .fail := fun {c X} k sts rest z m p => by
  rcases sts with _ | ⟨st, r⟩
  · cases z
  · cases z
    exact s_cons s_fail p
theorem sS_asg {tg e : T} : SndS C W (.asg tg e) := one_st fun {c X} k sts rest z => by
  rcases sts with _ | ⟨st, r⟩
  · cases z
  cases st <;> first | (cases z; done) | skip
  rename_i tgs v pos
  rcases tgs with _ | ⟨g, _ | ⟨_, _⟩⟩ <;> first | (cases z; done) | skip
  obtain ⟨h, rfl⟩ := put_some z
  refine ⟨_, rfl, ?_⟩
  -- an own slot is not bound by asg
  have fin : ∀ {m : Env → Store → Option (D × Store)}, PS X (.Assign [g] v pos) (rdS X.K fun ρ S => bnd (mNB C e ρ S) fun x S => (setTg tg x ρ).map fun ρ => (.next ρ, S)) → PS X (.Assign [g] v pos) (rdS X.K (ex C W (.asg tg e))) := fun {m} p => p.imp fun D σ H ⟨F0, G0, H0, S0, F, G, S, ρ, se, r, S', em, q⟩ => ⟨F0, G0, H0, S0, F, G, S, ρ, se, r, S', by
    have em : (if isB e then none else bnd (ev C e ρ S) fun x S => (setTg tg x ρ).map fun ρ => (Res.next ρ, S)) = some (r, S') := em
    show (bnd (if isB e then none else ev C e ρ S) fun x S => (setTg tg x ρ).map fun ρ => (Res.next ρ, S)) = some (r, S')
    cases hb : isB e with
    | true => rw [hb] at em; cases em
    | false => rw [hb] at em; exact em, q⟩
  split at h
  · rename_i i x px
    obtain ⟨h1, h2⟩ := and2 h
    obtain ⟨n1, n2, n3⟩ := k.st h1
    cases hb : isB e with
    | false =>
      obtain ⟨te, p, ht⟩ := ((sound C e).a k v h2 i x px pos n1 n2 n3).1 hb
      refine (s_asg (t := .nm i) p ht tg_nm).imp fun D σ H ⟨F0, G0, H0, S0, F, G, S, ρ, se, r, S', em, q⟩ => ⟨F0, G0, H0, S0, F, G, S, ρ, se, r, S', by
        have em : (if isB e then none else bnd (ev C e ρ S) fun x S => (setTg (.nm i) x ρ).map fun ρ => (Res.next ρ, S)) = some (r, S') := em
        rw [hb] at em; exact em, q⟩
    | true =>
      have pv := s_fail (X := X) (st := .Assign [.Name x px] v pos)
      refine pv.imp fun D σ H ⟨F0, G0, H0, S0, F, G, S, ρ, se, r, S', em, q⟩ => by
        have em : (if isB e then none else bnd (ev C e ρ S) fun x S => (setTg (.nm i) x ρ).map fun ρ => (Res.next ρ, S)) = some (r, S') := em
        rw [hb] at em; cases em
  · obtain ⟨h1, h7⟩ := and2 h
    obtain ⟨h2, h8⟩ := and2 h7
    obtain ⟨h3, h4⟩ := and2 h8
    obtain ⟨pg, tg'⟩ := snd_G.1 k g h3
    have hsw : swapsWithSole [g] v pos.line X.env = pure false := sw_nc h1
    have has : (assignEach [g] X.env).map (·.2) = [assign g X.env] := by
      cases g <;> first | rfl | (cases tg <;> exact absurd h3 Bool.false_ne_true)
    exact fin (m := ev C e) (s_asg (ps_asg (nb ((sound C e).e k v h4)) pg hsw (noSw k.kind' (by rw [k.sc]; exact h2)) has) (fun _ _ _ q => q) tg')
theorem sS_asgO {i : Nat} {e : T} : SndS C W (.asgO i e) := one_st fun {c X} k sts rest z => by
  rcases sts with _ | ⟨st, r⟩
  · cases z
  cases st <;> first | (cases z; done) | skip
  rename_i tgs v pos
  rcases tgs with _ | ⟨g, _ | ⟨_, _⟩⟩ <;> first | (cases z; done) | (cases g <;> cases z; done) | skip
  cases g <;> first | (cases z; done) | skip
  rename_i x px
  obtain ⟨h, rfl⟩ := put_some z
  obtain ⟨h1, h7⟩ := and2 h
  obtain ⟨h2, h3⟩ := and2 h7
  obtain ⟨n1, n2, n3⟩ := k.st h2
  obtain ⟨te, p, ht⟩ := ((sound C e).a k v h3 i x px pos n1 n2 n3).2 h1
  refine ⟨_, rfl, (s_asgO p ht).imp fun D σ H ⟨F0, G0, H0, S0, F, G, S, ρ, se, r, S', em, q⟩ => ⟨F0, G0, H0, S0, F, G, S, ρ, se, r, S', ?_, q⟩⟩
  obtain ⟨x, S1, e1, h⟩ := bnd_some (show (bnd (ev C e ρ S) fun x S => (match x with | .list xs => some (Res.next (ρ.set i (.own xs)), S) | _ => none)) = some (r, S') from em)
  show (bnd (mL (ev C e) ρ S) fun x S => (match x with | .list xs => some (Res.next (ρ.set i (.own xs)), S) | _ => none)) = some (r, S')
  unfold mL
  rw [e1]
  cases x <;> first | (cases h; done) | exact h
theorem sw_sub {v o i : Expr} {p : Pos} {l : Nat} {env : PySem.Env} : swapsWith v (some (.Subscript o i p)) l env = pure false := by
  cases v <;> rfl
theorem ss_sub {v o i : Expr} {p : Pos} {env : PySem.Env} : swappedStores [.Subscript o i p] v env = pure none := rfl
theorem nb_eq {e : T} {ρ : Env} {S : Store} (hb : isB e = false) : mNB C e ρ S = ev C e ρ S := if_neg (by rw [hb]; decide)
theorem sS_seti {i : Nat} {ix e : T} : SndS C W (.seti i ix e) := one_st fun {c X} k sts rest z => by
  rcases sts with _ | ⟨st, r⟩
  · cases z
  cases st <;> first | (cases z; done) | skip
  rename_i tgs v pos
  rcases tgs with _ | ⟨g, _ | ⟨_, _⟩⟩ <;> first | (cases z; done) | skip
  · cases g <;> first | (cases z; done) | skip
    rename_i o j q
    cases o <;> first | (cases z; done) | skip
    rename_i x px
    obtain ⟨h, rfl⟩ := put_some z
    obtain ⟨h1, h7⟩ := and2 h
    obtain ⟨h2, h8⟩ := and2 h7
    obtain ⟨h4, h5⟩ := and2 h8
    obtain ⟨n1, n2, n3, n4⟩ := k.nm h1
    have hsw : swapsWithSole [.Subscript (.Name x px) j q] v pos.line X.env = pure false := sw_sub (o := .Name x px) (i := j) (p := q) (l := pos.line) (env := X.env)
    refine ⟨_, rfl, (s_seti n1 n2 n3 n4 (nb ((sound C e).e k v h5)) ((sound C ix).e k j h4).b h2 hsw rfl).imp fun D σ H ⟨F0, G0, H0, S0, F, G, S, ρ, se, r, S', em, q⟩ => ⟨F0, G0, H0, S0, F, G, S, ρ, se, r, S', ?_, q⟩⟩
    have em : ex C W (.seti i ix e) ρ S = some (r, S') := em
    cases hb : isB e with
    | true =>
      rw [ex, if_pos hb] at em
      cases em
    | false =>
      rw [ex, if_neg (by rw [hb]; decide)] at em
      show bnd (mNB C e ρ S) _ = some (r, S')
      rw [nb_eq hb]
      exact em
  · cases g <;> first | (cases z; done) | (rename_i o _ _; cases o <;> cases z; done)
/-- an item of a shared list -/
theorem s_setl {X : Cx} {pos p : Pos} {o ie v : Expr} {ma mb me : Env → Store → Option (D × Store)} (pe : PE X v (rd X.K me)) (po : PE X o (rdB X.K ma)) (pi : PE X ie (rdB X.K mb)) (hsl : notSlice ie = true) :
    PS X (.Assign [.Subscript o ie p] v pos) (rdS X.K fun ρ S => bnd (me ρ S) fun x S => bnd (ma ρ S) fun l S => bnd (mb ρ S) fun y S => (match l, y with
    | .dict [(.int n, .none)], .int k => if n < 0 then none else (match S[n.toNat]? with
      | some xs => (match L2.ixN xs.length k with
        | some j => some (.next ρ, S.set n.toNat (xs.set j x))
        | none => none)
      | none => none)
    | _, _ => none)) :=
  (ps_asg pe (pg_sub po pi set_list (asg_sub hsl)) (show swapsWith v (some (.Subscript o ie p)) pos.line X.env = pure false from sw_sub) rfl).imp fun D σ H ⟨F0, G0, H0, S0, F, G, S, ρ, se, r, S', em, q⟩ => by
    obtain ⟨d, S1, e1, h⟩ := bnd_some em
    obtain ⟨l, S2, e2, hB⟩ := bnd_some h
    clear h
    obtain ⟨y, S3, e3, h⟩ := bnd_some hB
    clear hB
    refine ⟨F, G, S, ρ, se.w, se.re, d, S1, e1, fun v1 F1 G1 H1 x1 w1 r1 => ?_⟩
    have se1 := se.ext x1 w1
    refine ⟨F1, G1, S1, ρ, w1, se1.re, l, S2, e2, fun v2 F2 G2 H2 x2 w2 r2 => ?_⟩
    have se2 := se1.ext x2 w2
    refine ⟨F2, G2, S2, ρ, w2, se2.re, y, S3, e3, fun v3 F3 G3 H3 x3 w3 r3 => ?_⟩
    have se3 := se2.ext x3 w3
    split at h
    · rename_i n k
      split at h
      · cases h
      · split at h
        · rename_i xs es
          split at h
          · rename_i j ej
            cases h
            obtain ⟨m, rfl, hm, rfl⟩ := Rb.loc (r2.ext x3)
            obtain ⟨g2, vs, h2, rv⟩ := w3.loc m xs es
            have hl : (S3.set m (xs.set j d)).length = S3.length := by simp
            refine ⟨F3 m, vs, k, j, rfl, r3.int, h2, by rw [rv.length]; exact ej, q F3 G3 _ σ ⟨?_, ?_, ?_, ?_⟩ (by
              have z := (x1.fwd.trans x2.fwd).trans x3.fwd
              exact ⟨by rw [show ((m : Int)).toNat = m from rfl, hl]; exact z.le, z.eqF, z.subG⟩)⟩
            · show Wd X.K F3 G3 _ (S3.set m (xs.set j d))
              refine ⟨fun b u eb => ?_, fun a b ha hb => w3.inj a b (by omega) (by omega), fun l zs el => ?_⟩
              · rw [upd_ne (fun z => by rw [z, g2] at eb; cases eb)]; exact w3.sub b u eb
              · rw [hl]
                rcases set_at el with ⟨rfl, ez, _⟩ | ⟨c, el⟩
                · subst ez
                  exact ⟨g2, _, upd_same, rv.set ((r1.ext x2).ext x3) j⟩
                · obtain ⟨g3, us, h3, ru⟩ := w3.loc l zs el
                  refine ⟨g3, us, ?_, ru⟩
                  rw [upd_ne (fun z => c ((w3.inj l m (List.getElem?_eq_some_iff.mp el).1 hm z).symm))]
                  exact h3
            · show RE X.K F3 (S3.set m (xs.set j d)).length G3 _ σ ρ
              rw [hl]
              refine ⟨se3.re.len, se3.re.val, fun l zs el => ?_, se3.re.sep⟩
              obtain ⟨b, us, a1, a2, a3, a4, a5⟩ := se3.re.own l zs el
              exact ⟨b, us, a1, a2, by rw [upd_ne (a4 m hm)]; exact a3, a4, a5⟩
            · show Ext F0 G0 H0 S0.length F3 G3 _ (S3.set m (xs.set j d)).length
              rw [hl]
              exact se3.x.updL hm
            · exact se3.ow
          · cases h
        · cases h
    · cases h
theorem sS_setl {a ix e : T} : SndS C W (.setl a ix e) := one_st fun {c X} k sts rest z => by
  rcases sts with _ | ⟨st, r⟩
  · cases z
  cases st <;> first | (cases z; done) | skip
  rename_i tgs v pos
  rcases tgs with _ | ⟨g, _ | ⟨_, _⟩⟩ <;> first | (cases z; done) | skip
  · cases g <;> first | (cases z; done) | skip
    rename_i o j q
    obtain ⟨h, rfl⟩ := put_some z
    obtain ⟨h2, h7⟩ := and2 h
    obtain ⟨h3, h8⟩ := and2 h7
    obtain ⟨h4, h5⟩ := and2 h8
    refine ⟨_, rfl, (s_setl (nb ((sound C e).e k v h5)) ((sound C a).e k o h3).b ((sound C ix).e k j h4).b h2).imp fun D σ H ⟨F0, G0, H0, S0, F, G, S, ρ, se, r, S', em, q⟩ => ⟨F0, G0, H0, S0, F, G, S, ρ, se, r, S', ?_, q⟩⟩
    have em : ex C W (.setl a ix e) ρ S = some (r, S') := em
    cases hb : isB e with
    | true =>
      rw [ex, if_pos hb] at em
      cases em
    | false =>
      rw [ex, if_neg (by rw [hb]; decide)] at em
      show bnd (mNB C e ρ S) _ = some (r, S')
      rw [nb_eq hb]
      exact em
  · cases g <;> cases z
/-- x[i], x[j] = a, b of a list of the def's own -/
theorem s_swp {X : Cx} {pos p1 p2 q1 q2 pt pt2 : Pos} {kt kt2 : Nat} {i : Nat} {x y : Str} {j l u v : Expr} {ma mb m1 m2 : Env → Store → Option (D × Store)} (hc : X.calm = true) (hN : X.N[i]? = some x) (hN2 : X.N[i]? = some y) (hv : Vis X.env.scope x) (hv2 : Vis X.env.scope y) (hd : (x == ("__debug__" : Str)) = false) (hcd : (x == ("__classdict__" : Str)) = false) (hd2 : (y == ("__debug__" : Str)) = false) (hcd2 : (y == ("__classdict__" : Str)) = false)
    (hs : notStar u = true) (hs2 : notStar v = true) (hj : notSlice j = true) (hl : notSlice l = true) (pu : PE X u (rd X.K ma)) (pv : PE X v (rd X.K mb)) (pj : PE X j (rdB X.K m1)) (pl : PE X l (rdB X.K m2))
    (hss : swappedStores [.Tuple [.Subscript (.Name x p1) j q1, .Subscript (.Name y p2) l q2] kt pt] (.Tuple [u, v] kt2 pt2) X.env = pure none) :
    PS X (.Assign [.Tuple [.Subscript (.Name x p1) j q1, .Subscript (.Name y p2) l q2] kt pt] (.Tuple [u, v] kt2 pt2) pos) (rdS X.K fun ρ S => bnd (ma ρ S) fun x S => bnd (mb ρ S) fun y S => bnd (m1 ρ S) fun k1 S => (match ρ[i]?, k1 with
    | some (.own xs), .int k => (match L2.ixN xs.length k with
      | some j => bnd (m2 (ρ.set i (.own (xs.set j x))) S) fun k2 S => (match k2 with
        | .int l => (match L2.ixN xs.length l with
          | some m => some (.next (ρ.set i (.own ((xs.set j x).set m y))), S)
          | none => none)
        | _ => none)
      | none => none)
    | _, _ => none)) :=
  (ps_asg (pe_tup (pa_cons pu (pa_cons pv pa_nil (star_cons hs2)) (star_cons hs))) (pg_tup' hc rfl (pg_cons rfl (pg_sub (pe_var hN hv hd hcd) pj set_list (asg_sub hj)) (pg_cons rfl (pg_sub (pe_var hN2 hv2 hd2 hcd2) pl set_list (asg_sub hl)) pgs_nil))) rfl hss).imp fun D σ H ⟨F0, G0, H0, S0, F, G, S, ρ, se, r, S', em, q⟩ => by
    obtain ⟨d1, S1, e1, h⟩ := bnd_some em
    obtain ⟨d2, S2, e2, h⟩ := bnd_some h
    obtain ⟨k1, S3, e3, h⟩ := bnd_some h
    refine ⟨F, G, S, ρ, se.w, se.re, d1, S1, e1, fun v1 F1 G1 H1 x1 w1 r1 => ?_⟩
    have se1 := se.ext x1 w1
    refine ⟨F1, G1, S1, ρ, w1, se1.re, d2, S2, e2, fun v2 F2 G2 H2 x2 w2 r2 => ⟨by show 2 ≤ sizeLine; exact sz (by decide), fun p hp => ?_⟩⟩
    have x3 : Ext F2 G2 H2 S2.length F2 G2 (upd H2 p (.tup [v1, v2])) S2.length := .newO w2 hp
    have w3 := w2.newO (o := .tup [v1, v2]) hp
    have se3 := (se1.ext x2 w2).ext x3 w3
    split at h
    · rename_i xs k ho
      split at h
      · rename_i a ea
        obtain ⟨k2, S4, e4, h⟩ := bnd_some h
        obtain ⟨b, us, b1, b2, b3, b4, b5⟩ := se3.re.own i xs ho
        refine ⟨p, [v1, v2], rfl, .inl (.inl upd_same), rfl, v1, [v2], rfl, _, b1, F2, G2, S2, ρ, w3, se3.re, .int k, S3, e3, fun v4 F4 G4 H4 x4 w4 r4 => ?_⟩
        have se4 := se3.ext x4 w4
        obtain ⟨b', us', c1, c2, c3, c4, c5⟩ := se4.re.own i xs ho
        rw [b1] at c1; cases c1
        have R1 := ((r1.ext x2).ext x3).ext x4
        have R2 := (r2.ext x3).ext x4
        refine ⟨b, us', k, a, rfl, r4.int, c3, by rw [c5.length]; exact ea, ?_⟩
        have se5 := se4.updO ho b1 (c5.set R1 a)
        refine ⟨v2, [], rfl, _, b1, F4, G4, S3, _, se5.w, se5.re, k2, S4, e4, fun v6 F6 G6 H6 x6 w6 r6 => ?_⟩
        have se6 := se5.ext x6 w6
        have hi : i < ρ.length := (List.getElem?_eq_some_iff.mp ho).1
        have ho6 : (ρ.set i (.own (xs.set a d1)))[i]? = some (.own (xs.set a d1)) := List.getElem?_set_self hi
        obtain ⟨b'', us'', f1, f2, f3, f4, f5⟩ := se6.re.own i _ ho6
        rw [b1] at f1; cases f1
        cases k2 <;> first | (cases h; done) | skip
        rename_i m
        have h : (match L2.ixN xs.length m with | some n => some (Res.next (ρ.set i (.own ((xs.set a d1).set n d2))), S4) | none => none) = some (r, S') := h
        split at h
        · rename_i n en
          cases h
          refine ⟨b, us'', m, n, rfl, r6.int, f3, by rw [f5.length, List.length_set]; exact en, rfl, ?_⟩
          have se7 := se6.updO ho6 b1 (f5.set (R2.ext x6) n)
          rw [List.set_set] at se7
          exact q F6 G6 _ σ se7 ((((x1.fwd.trans x2.fwd).trans x3.fwd).trans x4.fwd).trans x6.fwd)
        · cases h
      · cases h
    · cases h
theorem sS_swp {i : Nat} {ix1 ix2 a b : T} : SndS C W (.swp i ix1 ix2 a b) := one_st fun {c X} k sts rest z => by
  rcases sts with _ | ⟨st, r⟩
  · cases z
  cases st <;> first | (cases z; done) | skip
  rename_i tgs v pos
  rcases tgs with _ | ⟨g, _ | ⟨_, _⟩⟩ <;> first | (cases z; done) | skip
  obtain ⟨h, rfl⟩ := put_some z
  refine ⟨_, rfl, ?_⟩
  clear z
  unfold swpB at h
  split at h
  · rename_i x p1 j q1 y p2 l q2 kt pt u v kt2 pt2
    obtain ⟨h1, hA⟩ := and2 h
    obtain ⟨h2, hB⟩ := and2 hA
    obtain ⟨h3, hC⟩ := and2 hB
    obtain ⟨h4, hD⟩ := and2 hC
    obtain ⟨h5, hE⟩ := and2 hD
    obtain ⟨h6, hF⟩ := and2 hE
    obtain ⟨h8, hG⟩ := and2 hF
    obtain ⟨h9, hH⟩ := and2 hG
    obtain ⟨h10, h11⟩ := and2 hH
    obtain ⟨n1, n2, n3, n4⟩ := k.nm h1
    obtain ⟨m1, m2, m3, m4⟩ := k.nm h2
    have hsv : swapV X.env.scope [.Subscript (.Name x p1) j q1, .Subscript (.Name y p2) l q2] [u, v] = some none := by
      unfold swapV swNames
      simp only [List.length_cons, List.length_nil, List.filterMap_cons, List.filterMap_nil]
      cases u <;> cases v <;> first | (exact absurd h5 Bool.false_ne_true) | (exact absurd h6 Bool.false_ne_true) | rfl
    have hss := swap_of (k := kt) (k2 := kt2) (p := pt) (p2 := pt2) k.kind' hsv
    refine (s_swp k.calm n1 m1 n2 m2 n3 n4 m3 m4 h5 h6 h3 h4 (nb ((sound C a).e k u h8)) (nb ((sound C b).e k v h9)) ((sound C ix1).e k j h10).b ((sound C ix2).e k l h11).b hss).imp fun D σ H ⟨F0, G0, H0, S0, F, G, S, ρ, se, r, S', em, q⟩ => ⟨F0, G0, H0, S0, F, G, S, ρ, se, r, S', ?_, q⟩
    have em : ex C W (.swp i ix1 ix2 a b) ρ S = some (r, S') := em
    rw [ex] at em
    split at em
    · cases em
    · rename_i hab
      have hb1 : isB a = false := by cases c : isB a <;> simp_all
      have hb2 : isB b = false := by cases c : isB b <;> simp_all
      show bnd (mNB C a ρ S) _ = some (r, S')
      rw [nb_eq hb1]
      obtain ⟨d1, S1, e1, h12⟩ := bnd_some em
      rw [e1]
      show bnd (mNB C b ρ S1) _ = some (r, S')
      rw [nb_eq hb2]
      exact h12
  · cases h
theorem sS_app {i : Nat} {e : T} : SndS C W (.app i e) := one_st fun {c X} k sts rest z => by
  rcases sts with _ | ⟨st, r⟩
  · cases z
  cases st <;> first | (cases z; done) | skip
  rename_i v pos
  cases v <;> first | (cases z; done) | skip
  rename_i f es kw cp
  cases f <;> first | (cases z; done) | skip
  rename_i o m ap
  cases o <;> first | (cases z; done) | skip
  rename_i x px
  rcases es with _ | ⟨v, _ | ⟨_, _⟩⟩ <;> first | (cases z; done) | skip
  cases kw <;> first | (cases z; done) | skip
  obtain ⟨h, rfl⟩ := put_some z
  obtain ⟨h1, h7⟩ := and2 h
  obtain ⟨h2, h8⟩ := and2 h7
  obtain ⟨h3, h9⟩ := and2 h8
  obtain ⟨h4, h5⟩ := and2 h9
  obtain ⟨n1, n2, n3, n4⟩ := k.nm h2
  have em := of_decide_eq_true h1
  subst em
  refine ⟨_, rfl, (s_app n1 n2 n3 n4 (nb ((sound C e).e k v h5)) h4 h3).imp fun D σ H ⟨F0, G0, H0, S0, F, G, S, ρ, se, r, S', em, q⟩ => ⟨F0, G0, H0, S0, F, G, S, ρ, se, r, S', ?_, q⟩⟩
  have em : ex C W (.app i e) ρ S = some (r, S') := em
  cases hb : isB e with
  | true =>
    rw [ex, if_pos hb] at em
    cases em
  | false =>
    rw [ex, if_neg (by rw [hb]; decide)] at em
    have e2 : mNB C e ρ S = ev C e ρ S := if_neg (by rw [hb]; decide)
    show bnd (mNB C e ρ S) _ = some (r, S')
    rw [e2]
    exact em
theorem sS_ext {i : Nat} {e : T} : SndS C W (.ext i e) := one_st fun {c X} k sts rest z => by
  rcases sts with _ | ⟨st, r⟩
  · cases z
  cases st <;> first | (cases z; done) | skip
  rename_i v pos
  cases v <;> first | (cases z; done) | skip
  rename_i f es kw cp
  cases f <;> first | (cases z; done) | skip
  rename_i o m ap
  cases o <;> first | (cases z; done) | skip
  rename_i x px
  rcases es with _ | ⟨v, _ | ⟨_, _⟩⟩ <;> first | (cases z; done) | skip
  cases kw <;> first | (cases z; done) | skip
  obtain ⟨h, rfl⟩ := put_some z
  obtain ⟨h1, h7⟩ := and2 h
  obtain ⟨h2, h8⟩ := and2 h7
  obtain ⟨h3, h9⟩ := and2 h8
  obtain ⟨h4, h5⟩ := and2 h9
  obtain ⟨n1, n2, n3, n4⟩ := k.nm h2
  have em := of_decide_eq_true h1
  subst em
  refine ⟨_, rfl, (s_ext n1 n2 n3 n4 (nb ((sound C e).e k v h5)) h4 h3).imp fun D σ H ⟨F0, G0, H0, S0, F, G, S, ρ, se, r, S', em, q⟩ => ⟨F0, G0, H0, S0, F, G, S, ρ, se, r, S', ?_, q⟩⟩
  have em : ex C W (.ext i e) ρ S = some (r, S') := em
  cases hb : isB e with
  | true =>
    rw [ex, if_pos hb] at em
    cases em
  | false =>
    rw [ex, if_neg (by rw [hb]; decide)] at em
    have e2 : mNB C e ρ S = ev C e ρ S := if_neg (by rw [hb]; decide)
    show bnd (mNB C e ρ S) _ = some (r, S')
    rw [e2]
    exact em
theorem sS_ifs {t : T} {a b : Sn} (ha : SndS C W a) (hb : SndS C W b) : SndS C W (.ifs t a b) := one_st fun {c X} k sts rest z => by
  rcases sts with _ | ⟨st, r⟩
  · cases z
  cases st <;> first | (cases z; done) | skip
  rename_i x p q pos
  obtain ⟨h, rfl⟩ := put_some z
  obtain ⟨h1, h7⟩ := and2 h
  obtain ⟨h2, h3⟩ := and2 h7
  exact ⟨_, rfl, s_if ((sound C t).e k x h1).tt (ha.block k (isNil_of h2)) (hb.block k (isNil_of h3))⟩
theorem sS_for {tg it : T} {b : Sn} (hb : SndS C W b) : SndS C W (.forS tg it b) := one_st fun {c X} k sts rest z => by
  rcases sts with _ | ⟨st, r⟩
  · cases z
  cases st <;> first | (cases z; done) | skip
  rename_i g i p orl pos
  cases orl <;> first | (cases z; done) | skip
  obtain ⟨h, rfl⟩ := put_some z
  obtain ⟨h1, h7⟩ := and2 h
  obtain ⟨h2, h3⟩ := and2 h7
  obtain ⟨pg, tg'⟩ := snd_G.1 k g h1
  obtain ⟨pi, hn⟩ := (sound C it).it k g i h2
  exact ⟨_, rfl, s_for k.xe k.calm pi pg tg' (hb.block k (isNil_of h3)) hn⟩
theorem sS_whl {t : T} {b : Sn} (hb : SndS C W b) : SndS C W (.whl t b) := one_st fun {c X} k sts rest z => by
  rcases sts with _ | ⟨st, r⟩
  · cases z
  cases st <;> first | (cases z; done) | skip
  rename_i x p orl pos
  cases orl <;> first | (cases z; done) | skip
  obtain ⟨h, rfl⟩ := put_some z
  obtain ⟨h1, h2⟩ := and2 h
  exact ⟨_, rfl, s_whl k.xe ((sound C t).e k x h1).tt (hb.block k (isNil_of h2))⟩
theorem sS_ret {e : T} : SndS C W (.ret e) := one_st fun {c X} k sts rest z => by
  rcases sts with _ | ⟨st, r⟩
  · cases z
  cases st <;> first | (cases z; done) | skip
  rename_i v pos
  cases v <;> first | (cases z; done) | skip
  rename_i v
  obtain ⟨h, rfl⟩ := put_some z
  refine ⟨_, rfl, (s_ret (nb ((sound C e).e k v h))).imp fun D σ H ⟨F0, G0, H0, S0, F, G, S, ρ, se, r, S', em, q⟩ => ⟨F0, G0, H0, S0, F, G, S, ρ, se, r, S', ?_, q⟩⟩
  have em : ex C W (.ret e) ρ S = some (r, S') := em
  cases hb : isB e with
  | true =>
    rw [ex, if_pos hb] at em
    cases em
  | false =>
    rw [ex, if_neg (by rw [hb]; decide)] at em
    have e2 : mNB C e ρ S = ev C e ρ S := if_neg (by rw [hb]; decide)
    show bnd (mNB C e ρ S) _ = some (r, S')
    rw [e2]
    exact em
theorem sS_expr {e : T} : SndS C W (.expr e) := one_st fun {c X} k sts rest z => by
  rcases sts with _ | ⟨st, r⟩
  · cases z
  cases st <;> first | (cases z; done) | skip
  rename_i v pos
  obtain ⟨h, rfl⟩ := put_some z
  obtain ⟨h1, h7⟩ := and2 h
  obtain ⟨h2, h3⟩ := and2 h7
  have hb : isB e = false := by simpa using h2
  exact ⟨_, rfl, s_expr (((sound C e).e k v h3).v hb) (sw_nc h1)⟩
theorem soundS (C : Nat → List D → Store → Option (D × Store)) (W : Nat) : ∀ s : Sn, SndS C W s := by
  intro s
  induction s with
  | skip => exact sS_skip
  | seq a b ha hb => exact sS_seq ha hb
  | asg tg e => exact sS_asg
  | asgO i e => exact sS_asgO
  | par ts as => exact sS_par
  | seti i ix e => exact sS_seti
  | setl a ix e => exact sS_setl
  | swp i a b d e => exact sS_swp
  | app i e => exact sS_app
  | ext i e => exact sS_ext
  | ifs t a b ha hb => exact sS_ifs ha hb
  | forS tg it b hb => exact sS_for hb
  | whl t b hb => exact sS_whl hb
  | ret e => exact sS_ret
  | expr e => exact sS_expr
  | frz i => exact sS_frz
  | fail => exact sS_fail
end
/-! ### how arguments are bound -/
theorem lookup_zip {α : Type} {n : Str} : ∀ {ps : List Str} {us : List α}, us.length = ps.length → n ∈ ps → ((ps.zip us).lookup n).isSome = true
  | p :: ps, u :: us, hl, hn => by
    rw [List.zip_cons_cons, List.lookup_cons]
    cases e : n == p with
    | true => rfl
    | false =>
      rcases List.mem_cons.mp hn with h | h
      · subst h; simp at e
      · exact lookup_zip (by simpa using hl) h
  | [], _, _, hn => by cases hn
theorem fm_congr {α β : Type} {f g : α → Option β} : ∀ {l : List α}, (∀ x ∈ l, f x = g x) → l.filterMap f = l.filterMap g
  | [], _ => rfl
  | x :: l, h => by
    rw [List.filterMap_cons, List.filterMap_cons, h x List.mem_cons_self, fm_congr fun y hy => h y (List.mem_cons_of_mem _ hy)]
theorem zip_lookups {α : Type} : ∀ {ps : List Str} {us : List α}, us.length = ps.length → ps.Nodup → ps.filterMap (fun n => ((ps.zip us).lookup n).map fun x => (n, x)) = ps.zip us
  | [], [], _, _ => rfl
  | p :: ps, u :: us, hl, hn => by
    have hn' := List.nodup_cons.mp hn
    have hl' : us.length = ps.length := by simpa using hl
    rw [List.zip_cons_cons, List.filterMap_cons, List.lookup_cons, beq_self_eq_true]
    show (p, u) :: _ = _
    congr 1
    refine Eq.trans (fm_congr fun n h => ?_) (zip_lookups hl' hn'.2)
    rw [List.lookup_cons]
    cases e : n == p with
    | true => exact absurd (eq_of_beq e) (fun z => hn'.1 (z ▸ h))
    | false => rfl
theorem bind_plain {x qual : Str} {args : List PySem.Arg} {body : List Stmt} {scope : Scope} {kV doc pm : Value} {an : Option Addr} {cdv ct : Value} {us : List Value} {kd : List (Option Expr)} {df : List Expr} (hl : us.length = (args.map (·.arg)).length) (nd : (args.map (·.arg)).Nodup) :
    bindArgs (PySem.W.fnOf x qual ⟨[], args, none, [], kd, none, df⟩ body scope .none kV doc pm an cdv ct) ⟨us, []⟩ = pure ((args.map (·.arg)).zip us) := by
  have hm : ((args.map (·.arg)).filter fun n => (((args.map (·.arg)).zip us).lookup n).isNone) = [] := by
    rw [List.filter_eq_nil_iff]
    intro n hn
    have := lookup_zip hl hn
    rw [Option.isSome_iff_exists] at this
    obtain ⟨v, e⟩ := this
    rw [e]; simp
  have hz := zip_lookups hl nd
  have ht : List.take args.length (args.map (·.arg)) = args.map (·.arg) := by rw [← List.length_map (f := fun x : PySem.Arg => x.arg), List.take_length]
  unfold bindArgs PySem.W.fnOf
  have hs : seqItems? Value.none = pure none := rfl
  simp only [List.map_nil, List.nil_append, List.length_map, hl, List.forIn_nil, hs, pure_bind, Option.getD_none]
  have h1 : ∀ n : Nat, ((([] : List Value)).drop n) = [] := fun n => by cases n <;> rfl
  simp only [h1, List.length_nil, Nat.sub_zero, Nat.lt_irrefl, gt_iff_lt, decide_false, Bool.false_and, Bool.false_eq_true, if_false, List.zip_nil_right, List.forIn_nil, pure_bind]
  rw [ht, hm, List.append_nil, hz]
  rfl
end PyD

set_option Elab.async false
set_option linter.all false
set_option maxRecDepth 100000
/-! PyD, part 14: a def, a program. -/
namespace PyD
open PySem PySem.Spec PyProof.Rows L2
theorem RE.begins {K : Frag} {F : Nat → Addr} {n : Nat} {G H : Hp} {vs : List V} {ds : List D} (r : Rvs K F n G vs ds) (N : List Str) (hl : ds.length ≤ N.length) : RE K F n G H (L2.start N vs) (ds.map .val ++ List.replicate (N.length - ds.length) .no) where
  len := by
    unfold L2.start
    rw [List.length_append, List.length_append, List.length_map, List.length_map, List.length_replicate, List.length_replicate, r.length]
  val := fun i d e => by
    unfold L2.start
    by_cases h : i < ds.length
    · rw [List.getElem?_append_left (by simpa using h), List.getElem?_map] at e
      cases c : ds[i]? with
      | none => rw [c] at e; cases e
      | some d' =>
        rw [c] at e; cases e
        obtain ⟨v, e1, e2⟩ := r.get c
        exact ⟨v, by rw [List.getElem?_append_left (by rw [List.length_map, r.length]; exact h), List.getElem?_map, e1]; rfl, e2⟩
    · rw [List.getElem?_append_right (by simpa using h), List.getElem?_replicate] at e
      split at e <;> cases e
  own := fun i d e => by
    by_cases h : i < ds.length
    · rw [List.getElem?_append_left (by simpa using h), List.getElem?_map] at e
      cases c : ds[i]? with
      | none => rw [c] at e; cases e
      | some d' => rw [c] at e; cases e
    · rw [List.getElem?_append_right (by simpa using h), List.getElem?_replicate] at e
      split at e <;> cases e
  sep := fun i j xs ys a e => by
    by_cases h : i < ds.length
    · rw [List.getElem?_append_left (by simpa using h), List.getElem?_map] at e
      cases c : ds[i]? with
      | none => rw [c] at e; cases e
      | some d' => rw [c] at e; cases e
    · rw [List.getElem?_append_right (by simpa using h), List.getElem?_replicate] at e
      split at e <;> cases e
theorem no_own {ds : List D} {n : Nat} {i : Nat} {xs : List D} : (ds.map Slot.val ++ List.replicate n .no)[i]? ≠ some (.own xs) := fun e => by
  by_cases h : i < ds.length
  · rw [List.getElem?_append_left (by simpa using h), List.getElem?_map] at e
    cases c : ds[i]? with
    | none => rw [c] at e; cases e
    | some d' => rw [c] at e; cases e
  · rw [List.getElem?_append_right (by simpa using h), List.getElem?_replicate] at e
    split at e <;> cases e
/-! ### what K holds of a module's constants -/
mutual
def datB (K : Frag) : D → Value → Bool
  | .none, u => (match u with | .none => true | _ => false)
  | .bool b, u => (match u with | .bool c => decide (c = b) | _ => false)
  | .int i, u => (match u with | .int j _ => decide (j = i) | _ => false)
  | .str i, u => (match u with | .str j _ => decide (j = i) | _ => false)
  | .tuple ds, u => (match u with
    | .ref a => (match K.lookup a with
      | some ⟨.type c, _, .seq its _, _⟩ => decide (c = "tuple") && (decide (its.size ≤ sizeLine) && datsB K ds its.toList)
      | _ => false)
    | _ => false)
  | _, _ => false
def datsB (K : Frag) : List D → List Value → Bool
  | [], us => us.isEmpty
  | d :: ds, us => (match us with
    | u :: us => datB K d u && datsB K ds us
    | [] => false)
end
mutual
theorem datB_ok {K : Frag} : ∀ {d : D} {u : Value}, datB K d u = true → ∃ v, RelV v u ∧ ∀ F N G, Rv K F N G v d
  | .none, u, h => by cases u <;> first | (exact ⟨.non, rfl, fun _ _ _ => .non⟩) | (simp [datB] at h; done)
  | .bool b, u, h => by
    cases u <;> first | (simp [datB] at h; done) | skip
    simp [datB] at h; subst h; exact ⟨.bl _, rfl, fun _ _ _ => .bl _⟩
  | .int b, u, h => by
    cases u <;> first | (simp [datB] at h; done) | skip
    simp [datB] at h; subst h; exact ⟨.int _, ⟨_, rfl⟩, fun _ _ _ => .int _⟩
  | .str b, u, h => by
    cases u <;> first | (simp [datB] at h; done) | skip
    simp [datB] at h; subst h; exact ⟨.str _, ⟨_, rfl⟩, fun _ _ _ => .str _⟩
  | .tuple ds, u, h => by
    cases u <;> first | (simp [datB] at h; done) | skip
    rename_i a
    rw [datB] at h
    split at h
    · rename_i c od its n sl q
      obtain ⟨h1, h2⟩ := and2 h
      obtain ⟨h3, h4⟩ := and2 h2
      obtain ⟨vs, r, rv⟩ := datsB_ok h4
      exact ⟨.ref a, rfl, fun F N G => .tup (.inr ⟨_, its, n, q, congrArg Value.type (of_decide_eq_true h1), rfl, of_decide_eq_true h3, r⟩) (rv F N G)⟩
    · cases h
  | .list ds, u, h => by simp [datB] at h
  | .dict ds, u, h => by simp [datB] at h
theorem datsB_ok {K : Frag} : ∀ {ds : List D} {us : List Value}, datsB K ds us = true → ∃ vs, Vals vs us ∧ ∀ F N G, Rvs K F N G vs ds
  | [], us, h => by
    cases us with
    | nil => exact ⟨[], .nil, fun _ _ _ => .nil⟩
    | cons _ _ => simp [datsB] at h
  | d :: ds, us, h => by
    cases us with
    | nil => simp [datsB] at h
    | cons u us =>
      rw [datsB] at h
      obtain ⟨h1, h2⟩ := and2 h
      obtain ⟨v, r1, q1⟩ := datB_ok h1
      obtain ⟨vs, r2, q2⟩ := datsB_ok h2
      exact ⟨v :: vs, .cons r1 r2, fun F N G => .cons (q1 F N G) (q2 F N G)⟩
end
/-- the module's constants, and math.gcd -/
def exB (cs : List (Str × D)) (gc : Bool) (K : Frag) : Bool := (cs.all fun p => match PySem.W.nsIn K mainGlobals p.1 with
    | some (some u) => datB K p.2 u
    | _ => false) && (!gc || decide (PySem.W.nsIn K mainGlobals "gcd" = some (some (.builtin "math.gcd"))))
theorem exB_cs {cs : List (Str × D)} {gc : Bool} {K : Frag} {h : Heap} {mg : Str → Option Value} (z : exB cs gc K = true) (X : K.In h) (G : h.Ns mainGlobals mg) : ∀ x d, cs.lookup x = some d → ∃ u v, mg x = some u ∧ RelV v u ∧ ∀ F N G, Rv K F N G v d := fun x d e => by
  have h1 : (match PySem.W.nsIn K mainGlobals x with | some (some u) => datB K d u | _ => false) = true := List.all_eq_true.mp (and2 z).1 (x, d) (PySem.mem_of_lookup e)
  split at h1
  · rename_i u q
    obtain ⟨v, r, rv⟩ := datB_ok h1
    exact ⟨u, v, PySem.W.mg_of X G q, r, rv⟩
  · cases h1
theorem exB_gcd {cs : List (Str × D)} {gc : Bool} {K : Frag} {h : Heap} {mg : Str → Option Value} (z : exB cs gc K = true) (X : K.In h) (G : h.Ns mainGlobals mg) : gc = true → mg "gcd" = some (.builtin "math.gcd") := fun e => by
  have h1 := (and2 z).2
  rw [e] at h1
  exact PySem.W.mg_of X G (of_decide_eq_true (by simpa using h1))
/-! ### a def -/
def psOf (a : Arguments) : List Str := a.args.map (·.arg)
def plainA : Arguments → Bool
  | ⟨[], _, none, [], _, none, _⟩ => true
  | _ => false
def scopeP (N P : List Str) (sc : Scope) : Prop := sc.kind = .function ∧ sc.isCoroutine = false ∧ sc.isGenerator = false ∧ N.Nodup ∧ N.take P.length = P ∧ (∀ x ∈ P, sc.names.lookup x = some .local ∨ sc.names.lookup x = some .cell) ∧ ∀ y ∈ sc.names, y.2 ≠ .free
instance {N P : List Str} {sc : Scope} : Decidable (scopeP N P sc) := by unfold scopeP; infer_instance
/-- no defaults, and the tree is its body's -/
def defB (c0 : Cc) (N : List Str) (d : Def) (dd : He.DefD) : Bool :=
  plainA dd.params && (dd.dfl.isEmpty && (dd.kwd.isEmpty && (decide (dd.at_ = (dd.name, none)) && (!(dd.name == ("__debug__" : Str)) && (decide (scopeP N (psOf dd.params) dd.scope) && (decide (d.ns = N.length ∧ d.np = (psOf dd.params).length) && isNil (chkS d.body { c0 with N := N, sc := dd.scope, fn := fun _ => true } dd.body)))))))
structure DefOk (c0 : Cc) (N : List Str) (d : Def) (dd : He.DefD) : Prop where
  plain : plainA dd.params = true
  dfl : dd.dfl = []
  kwd : dd.kwd = []
  at_ : dd.at_ = (dd.name, none)
  nodebug : (dd.name == ("__debug__" : Str)) = false
  sc : FnScope N (psOf dd.params) dd.scope
  ns : d.ns = N.length
  np : d.np = (psOf dd.params).length
  body : chkS d.body { c0 with N := N, sc := dd.scope, fn := fun _ => true } dd.body = some []
theorem defB_ok {c0 : Cc} {N : List Str} {d : Def} {dd : He.DefD} (h : defB c0 N d dd = true) : DefOk c0 N d dd := by
  obtain ⟨h1, h⟩ := and2 h
  obtain ⟨h2, h⟩ := and2 h
  obtain ⟨h3, h⟩ := and2 h
  obtain ⟨h4, h⟩ := and2 h
  obtain ⟨h5, h⟩ := and2 h
  obtain ⟨h6, h⟩ := and2 h
  obtain ⟨h7, h8⟩ := and2 h
  obtain ⟨a, b, c, d, e, f, g⟩ := of_decide_eq_true h6
  obtain ⟨i, j⟩ := of_decide_eq_true h7
  exact ⟨h1, by simpa using h2, by simpa using h3, of_decide_eq_true h4, by simpa using h5, ⟨a, b, c, d, e, f, g⟩, i, j, isNil_of h8⟩
def defsB (c0 : Cc) : List (List Str) → List Def → List He.DefD → Bool
  | [], [], [] => true
  | N :: Ns, d :: P, dd :: fn => defB c0 N d dd && defsB c0 Ns P fn
  | _, _, _ => false
theorem defsB_ok {c0 : Cc} : ∀ {Ns : List (List Str)} {P : List Def} {fn : List He.DefD}, defsB c0 Ns P fn = true → ∀ (i : Nat) d, P[i]? = some d → ∃ N dd, fn[i]? = some dd ∧ DefOk c0 N d dd
  | [], [], [], _, i, d, h => by simp at h
  | N :: Ns, d :: P, dd :: fn, z, i, d', h => by
    obtain ⟨h1, h2⟩ := and2 z
    cases i with
    | zero => simp at h; subst h; exact ⟨N, dd, rfl, defB_ok h1⟩
    | succ i =>
      obtain ⟨N', dd', e, q⟩ := defsB_ok h2 i d' (by simpa using h)
      exact ⟨N', dd', by simpa using e, q⟩
  | [], _ :: _, [], z, _, _, _ => absurd z Bool.false_ne_true
  | [], [], _ :: _, z, _, _, _ => absurd z Bool.false_ne_true
  | [], _ :: _, _ :: _, z, _, _, _ => absurd z Bool.false_ne_true
  | _ :: _, [], [], z, _, _, _ => absurd z Bool.false_ne_true
  | _ :: _, [], _ :: _, z, _, _, _ => absurd z Bool.false_ne_true
  | _ :: _, _ :: _, [], z, _, _, _ => absurd z Bool.false_ne_true
/-! ### the program -/
section
variable {prog : Program} {w : World} {K : Frag} {mg : Str → Option Value} {base : Heap} {c0 : Cc} {P : List Def} {W : Nat} {fn : List He.DefD} {Ns : List (List Str)}
theorem spC_none : spC K (fun _ _ => none) = fun _ _ _ _ => False := by
  funext vs H Q E
  refine propext ⟨fun ⟨F, G, S, ds, w, r, d, S', e, q⟩ => (by cases e), fun h => h.elim⟩
/-- what is known of the top -/
structure Top (K : Frag) (mg : Str → Option Value) (c0 : Cc) (fn : List He.DefD) : Prop where
  defs : ∀ (i : Nat) dd, fn[i]? = some dd → mg dd.name = some (.ref (He.ga K dd.name)) ∧ ∃ fd, FunD K dd.name dd.qual dd.params dd.body dd.scope (dd.dvs K) (dd.kws K) (He.fAd K dd.at_) fd
  fr : ∀ x, x ∈ c0.fr → mg x = none
  gcd : c0.gc = true → mg "gcd" = some (.builtin "math.gcd")
  cs : ∀ x d, c0.cs.lookup x = some d → ∃ u v, mg x = some u ∧ RelV v u ∧ ∀ F N G, Rv K F N G v d
  fns : c0.fns = fn.map (·.name)
/-- what binds its arguments -/
theorem binds_plain {N : List Str} {d : Def} {dd : He.DefD} (ok : DefOk c0 N d dd) (kV doc pm : Value) (an : Option Addr) (cdv ct : Value) (us : List Value) (hl : us.length = (psOf dd.params).length) :
    bindArgs (PySem.W.fnOf dd.name dd.qual dd.params dd.body dd.scope .none kV doc pm an cdv ct) ⟨us, []⟩ = pure ((psOf dd.params).zip us) := by
  have hp := ok.plain
  have hn : (psOf dd.params).Nodup := by
    have h := ok.sc.nd
    have e := ok.sc.pre
    rw [← e]
    exact h.sublist (List.take_sublist _ _)
  generalize dd.params = a at hp hn hl
  obtain ⟨po, ar, va, kwo, kd, ka, df⟩ := a
  cases po <;> first | (exact absurd hp Bool.false_ne_true) | skip
  cases va <;> first | (exact absurd hp Bool.false_ne_true) | skip
  cases kwo <;> first | (exact absurd hp Bool.false_ne_true) | skip
  cases ka <;> first | (exact absurd hp Bool.false_ne_true) | skip
  exact bind_plain hl hn
/-- a def keeps its word at every depth -/
theorem prog_ok (T : Top K mg c0 fn) (hd : defsB c0 Ns P fn = true) (hl : fn.length = P.length) : ∀ (k i : Nat) (d : Def), P[i]? = some d → ∀ dd, fn[i]? = some dd → ∃ fd, FunD K dd.name dd.qual dd.params dd.body dd.scope [] [] (He.ga K dd.name) fd ∧
    mg dd.name = some (.ref (He.ga K dd.name)) ∧ PySem.W.keepIn K (.ref (He.ga K dd.name)) = true ∧ Binds K fd (psOf dd.params) [] ∧ (dd.name == ("__debug__" : Str)) = false ∧
    (∀ (s : Shared) (us : List Value), us.length = (psOf dd.params).length → BindsTo s fd ⟨us, []⟩ ((psOf dd.params).zip us)) ∧ FnOk prog w K mg base CX0 k (He.ga K dd.name) fd (psOf dd.params) (spC K (callN P W k i)) := by
  intro k
  induction k with
  | zero =>
    intro i d hi dd hdd
    obtain ⟨hm, fd, F⟩ := T.defs i dd hdd
    obtain ⟨N, dd', e, ok⟩ := defsB_ok hd i d hi
    rw [hdd] at e; cases e
    rw [He.DefD.dvs, ok.dfl, He.DefD.kws, ok.kwd, ok.at_] at F
    have F : FunD K dd.name dd.qual dd.params dd.body dd.scope [] [] (He.ga K dd.name) fd := F
    refine ⟨fd, F, hm, F.kp, F.bindsN (binds_plain ok), ok.nodebug, F.bindsA (binds_plain ok), ?_⟩
    have e0 : spC K (callN P W 0 i) = fun _ _ _ _ => False := spC_none
    rw [e0]
    exact ⟨fun _ _ _ _ h => h.elim, fun _ _ _ _ _ _ _ _ _ _ _ _ _ h => h.elim⟩
  | succ k ih =>
    intro i d hi dd hdd
    obtain ⟨hm, fd, F⟩ := T.defs i dd hdd
    obtain ⟨N, dd', e, ok⟩ := defsB_ok hd i d hi
    rw [hdd] at e; cases e
    rw [He.DefD.dvs, ok.dfl, He.DefD.kws, ok.kwd, ok.at_] at F
    have F : FunD K dd.name dd.qual dd.params dd.body dd.scope [] [] (He.ga K dd.name) fd := F
    refine ⟨fd, F, hm, F.kp, F.bindsN (binds_plain ok), ok.nodebug, F.bindsA (binds_plain ok), ?_⟩
    have ec : callN P W (k + 1) i = evDef (callN P W k) W d := by
      funext ds S
      show (match P[i]? with | some d => evDef (callN P W k) W d ds S | none => none) = _
      rw [hi]
    rw [ec]
    refine F.ok ok.sc (fun vs H Q E ⟨F', G, S, ds, w', r, z, S', em, _⟩ => ?_) (fun cdv A outer s H vs Q E hr ⟨F', G, S, ds, w', r, z, S', em, q⟩ => ⟨rdS K (ex (callN P W k) W d.body), PSs.nox ?_, ?_⟩)
    · rw [r.length]
      unfold evDef at em
      split at em
      · rename_i c; rw [c, ok.np]
      · cases em
    · -- the body's tree
      have hk : ∀ (f : Nat) (x : Str), c0.fns[f]? = some x → CokF (callN P W k) (cxOf CX0 prog w K mg base N dd.qual dd.scope (He.ga K dd.name) cdv A outer s H E).nox f x := fun f x e => by
        rw [T.fns, List.getElem?_map] at e
        cases c : fn[f]? with
        | none => rw [c] at e; cases e
        | some d2 =>
          rw [c] at e
          cases e
          have hf : f < P.length := by rw [← hl]; exact (List.getElem?_eq_some_iff.mp c).1
          obtain ⟨fd2, _, a1, a2, a3, a4, _, a5⟩ := ih f P[f] (List.getElem?_eq_getElem hf) d2 c
          exact ⟨k, He.ga K d2.name, fd2, psOf d2.params, a5, hr, a1, a2, a3, a4⟩
      have ck : Cok { c0 with N := N, sc := dd.scope, fn := fun _ => true } (callN P W k) (cxOf CX0 prog w K mg base N dd.qual dd.scope (He.ga K dd.name) cdv A outer s H E).nox :=
        ⟨rfl, ok.sc.nd, rfl, ok.sc.kind, rfl, rfl, rfl, (by
          have := hr.un
          show (A.deeper (envOfC dd.qual dd.scope s.heap.objs.size (He.ga K dd.name) cdv)).units + 65 < cLine
          omega), T.fr, T.gcd, T.cs, hk⟩
      exact SndS.block (soundS (callN P W k) W d.body) ck ok.body
    · unfold evDef at em
      split at em
      · rename_i hlen
        obtain ⟨r1, S1, e1, h⟩ := bnd_some em
        have hN : ds.length ≤ N.length := by
          have h1 := congrArg List.length ok.sc.pre
          rw [List.length_take] at h1
          have := ok.np
          omega
        rw [ok.ns] at e1
        refine ⟨F', G, H, S, F', G, S, _, ⟨w', RE.begins r N hN, .refl, fun i xs a z => absurd z no_own⟩, r1, S1, e1, ?_⟩
        cases r1 with
        | next ρ1 =>
          cases h
          exact fun F2 G2 H2 σ2 se2 _ => q .non F2 G2 H2 se2.x se2.w .non
        | ret x =>
          cases h
          exact fun F2 G2 H2 v x2 w2 rv => q v F2 G2 H2 x2 w2 rv
      · cases em
end
theorem FunD.same {K : Frag} {x q x2 q2 : Str} {p p2 : Arguments} {b b2 : List Stmt} {sc sc2 : Scope} {dv dv2 : List V} {kw kw2 : List (Str × V)} {a : Addr} {fd fd2 : FuncData} (F : FunD K x q p b sc dv kw a fd) (F2 : FunD K x2 q2 p2 b2 sc2 dv2 kw2 a fd2) : fd = fd2 := by
  obtain ⟨oc, od, dV, kV, doc, pm, an, cdv, ct, osl, _, lk, _⟩ := F.ex
  obtain ⟨oc2, od2, dV2, kV2, doc2, pm2, an2, cdv2, ct2, osl2, _, lk2, _⟩ := F2.ex
  rw [lk] at lk2
  cases lk2
  rfl
/-! ### the law's promise -/
theorem ints_rv {K : Frag} {F : Nat → Addr} {n : Nat} {G : Hp} : ∀ ns : List Int, Rvs K F n G (ns.map V.int) (ns.map .int)
  | [] => .nil
  | i :: ns => .cons (.int i) (ints_rv ns)
theorem law_sp {K : Frag} {P : List Def} {W k i : Nat} {ns : List Int} {S' : Store} (h : callN P W k i [scrD (ns.map .int)] [] = some (.bool true, S')) {H : Hp} {a : Addr} (hs : SqL K H a (ns.map V.int)) :
    spC K (callN P W k i) [.ref a] H (fun v _ => v = .bl true) fun _ _ _ => False :=
  ⟨fun _ => (0 : Nat), H, [], [scrD (ns.map .int)], ⟨fun _ _ h => h, fun i _ h => absurd h (Nat.not_lt_zero i), fun i xs h => by simp at h⟩, .cons (.scr hs (ints_rv ns)) .nil, _, S', h, fun v F' G' H' x w r => by cases r; rfl⟩
/-- the facts that the head is asked: the defs' names, the built-ins' -/
def faOf (fn : List He.DefD) (fr : List Str) : List He.Fa := (fn.map fun d => He.Fa.glo d.name) ++ fr.map He.Fa.free
theorem top_of {w : World} {K : Frag} {h h' : Heap} {mg : Str → Option Value} {c0 : Cc} {fn : List He.DefD} (c : He.SaysX (faOf fn c0.fr) fn [] [] (exB c0.cs c0.gc) w h K) (KX : K.In h') (G : h'.Ns mainGlobals mg) (hf : c0.fns = fn.map (·.name)) : Top K mg c0 fn where
  defs := fun i dd e => ⟨He.glo_ok KX G (c.t.d.facts (List.mem_append_left _ (List.mem_map.mpr ⟨dd, List.mem_of_getElem? e, rfl⟩))), c.t.d.def_ i e⟩
  fr := fun x hx => He.free_ok KX G (c.t.d.facts (List.mem_append_right _ (List.mem_map.mpr ⟨x, hx, rfl⟩)))
  gcd := exB_gcd c.more KX G
  cs := exB_cs c.more KX G
  fns := hf
theorem law_facts {prog : Program} {w : World} {K : Frag} {mg : Str → Option Value} {c0 : Cc} {P : List Def} {W k : Nat} {fn : List He.DefD} {Ns : List (List Str)} (T : Top K mg c0 fn) (hd : defsB c0 Ns P fn = true) (hl : fn.length = P.length) (i : Nat) {d : Def} {dd : He.DefD} (hi : P[i]? = some d) (hdd : fn[i]? = some dd)
    {fa : Addr} (hn : mg dd.name = some (.ref fa)) (hp : psOf dd.params = [("script" : Str)]) :
    ∃ fd : FuncData, (∀ (s : Shared) (u : Value), BindsTo s fd ⟨[u], []⟩ [("script", u)]) ∧ ∀ base : Heap, K.In base → base.Ns mainGlobals mg → FnOk prog w K mg base CX0 k fa fd ["script"] (spC K (callN P W k i)) := by
  obtain ⟨fd, F, hm, _, _, _, hb, _⟩ := prog_ok (prog := prog) (w := w) (base := default) (W := W) T hd hl k i d hi dd hdd
  have e : He.ga K dd.name = fa := by
    rw [hn] at hm
    cases hm
    rfl
  refine ⟨fd, fun s u => ?_, fun base _ _ => ?_⟩
  · have := hb s [u] (by rw [hp]; rfl)
    rw [hp] at this
    exact this
  · obtain ⟨fd2, F2, _, _, _, _, _, ok⟩ := prog_ok (prog := prog) (w := w) (base := base) (W := W) T hd hl k i d hi dd hdd
    rw [FunD.same F F2, ← e, ← hp]
    exact ok
end PyD

set_option linter.all false
/-! Mo, part 1: sums, ways, polynomials of steps (plain). -/
namespace Mo
def Sg : Nat → (Nat → Rat) → Rat
  | 0, _ => 0
  | n + 1, f => Sg n f + f n
theorem Sg_congr {f g : Nat → Rat} : ∀ {n : Nat}, (∀ i, i < n → f i = g i) → Sg n f = Sg n g
  | 0, _ => rfl
  | n + 1, h => by
    rw [Sg, Sg, Sg_congr fun i hi => h i (by omega), h n (by omega)]
theorem Sg_add {f g : Nat → Rat} : ∀ {n : Nat}, Sg n (fun i => f i + g i) = Sg n f + Sg n g
  | 0 => by simp only [Sg]; grind
  | n + 1 => by simp only [Sg, Sg_add]; grind
theorem Sg_sub {f g : Nat → Rat} : ∀ {n : Nat}, Sg n (fun i => f i - g i) = Sg n f - Sg n g
  | 0 => by simp only [Sg]; grind
  | n + 1 => by simp only [Sg, Sg_sub]; grind
theorem Sg_mul {c : Rat} {f : Nat → Rat} : ∀ {n : Nat}, Sg n (fun i => c * f i) = c * Sg n f
  | 0 => by simp only [Sg]; grind
  | n + 1 => by simp only [Sg, Sg_mul]; grind
theorem Sg_mulr {c : Rat} {f : Nat → Rat} : ∀ {n : Nat}, Sg n (fun i => f i * c) = Sg n f * c
  | 0 => by simp only [Sg]; grind
  | n + 1 => by simp only [Sg, Sg_mulr]; grind
theorem Sg_zero {f : Nat → Rat} : ∀ {n : Nat}, (∀ i, i < n → f i = 0) → Sg n f = 0
  | 0, _ => rfl
  | n + 1, h => by
    rw [Sg, Sg_zero fun i hi => h i (by omega), h n (by omega)]; grind
theorem Sg_head {f : Nat → Rat} : ∀ {n : Nat}, Sg (n + 1) f = f 0 + Sg n fun i => f (i + 1)
  | 0 => by simp only [Sg]; grind
  | n + 1 => by rw [Sg, Sg_head, Sg]; grind
theorem Sg_swap {f : Nat → Nat → Rat} {m : Nat} : ∀ {n : Nat}, (Sg n fun i => Sg m fun j => f i j) = Sg m fun j => Sg n fun i => f i j
  | 0 => by simp only [Sg]; exact (Sg_zero fun _ _ => rfl).symm
  | n + 1 => by simp only [Sg]; rw [Sg_swap, Sg_add]
/-- more terms that are 0 -/
theorem Sg_more {f : Nat → Rat} {n : Nat} : ∀ {m : Nat}, n ≤ m → (∀ i, n ≤ i → i < m → f i = 0) → Sg m f = Sg n f
  | 0, h, _ => by rw [show n = 0 by omega]
  | m + 1, h, z => by
    by_cases c : n = m + 1
    · rw [c]
    · rw [Sg, Sg_more (by omega) fun i h1 h2 => z i h1 (by omega), z m (by omega) (by omega)]; grind
theorem Sg_one {f : Nat → Rat} {k : Nat} : ∀ {n : Nat}, k < n → (∀ i, i < n → i ≠ k → f i = 0) → Sg n f = f k
  | 0, h, _ => by omega
  | n + 1, h, z => by
    by_cases c : k = n
    · subst c
      rw [Sg, Sg_zero fun i hi => z i (by omega) (by omega)]; grind
    · rw [Sg, Sg_one (by omega) fun i h1 h2 => z i (by omega) h2, z n (by omega) (by omega)]; grind
/-- one place on -/
def sh (f : Nat → Rat) : Nat → Rat
  | 0 => 0
  | i + 1 => f i
theorem Sg_sh {f g : Nat → Rat} {n : Nat} (h : f n * g (n + 1) = 0) : (Sg (n + 1) fun i => sh f i * g i) = Sg (n + 1) fun i => f i * g (i + 1) := by
  rw [Sg_head, Sg, h]
  simp only [sh]
  grind
/-- the numbers of a product -/
def cv (f g : Nat → Rat) (i : Nat) : Rat := Sg (i + 1) fun j => f j * g (i - j)
def dl (i j : Nat) : Rat := if i = j then 1 else 0
variable (a b : Nat → Rat)
/-- the sums of the ways of j moves from 0 to k -/
def L : Nat → Nat → Rat
  | 0, k => if k = 0 then 1 else 0
  | j + 1, k => sh (L j) k + a k * L j k + b k * L j (k + 1)
def Dn : Nat → Rat
  | 0 => 1
  | k + 1 => Dn k * b k
/-- the coefficients of the polynomials of the rule -/
def p : Nat → Nat → Rat
  | 0, i => if i = 0 then 1 else 0
  | 1, i => sh (p 0) i - a 0 * p 0 i
  | k + 2, i => sh (p (k + 1)) i - a (k + 1) * p (k + 1) i - b k * p k i
theorem L_gt : ∀ {j k : Nat}, j < k → L a b j k = 0
  | 0, k, h => by rw [L, if_neg (by omega)]
  | j + 1, 0, h => by omega
  | j + 1, k + 1, h => by
    rw [L, sh, L_gt (by omega), L_gt (by omega), L_gt (by omega)]; grind
theorem L_diag : ∀ {j : Nat}, L a b j j = 1
  | 0 => by rw [L, if_pos rfl]
  | j + 1 => by
    rw [L, sh, L_diag, L_gt a b (by omega), L_gt a b (by omega)]; grind
theorem p_one {i : Nat} : p a b 1 i = sh (p a b 0) i - a 0 * p a b 0 i := rfl
theorem p_two {k i : Nat} : p a b (k + 2) i = sh (p a b (k + 1)) i - a (k + 1) * p a b (k + 1) i - b k * p a b k i := by rw [p]
theorem p_gt : ∀ {k i : Nat}, k < i → p a b k i = 0
  | 0, i, h => by rw [p, if_neg (by omega)]
  | 1, 0, h => by omega
  | 1, i + 1, h => by rw [p, sh, p_gt (by omega), p_gt (by omega)]; grind
  | k + 2, 0, h => by omega
  | k + 2, i + 1, h => by rw [p, sh, p_gt (by omega), p_gt (by omega), p_gt (by omega)]; grind
theorem p_diag : ∀ {k : Nat}, p a b k k = 1
  | 0 => by rw [p, if_pos rfl]
  | 1 => by rw [p, sh, p_diag, p_gt a b (by omega)]; grind
  | k + 2 => by rw [p, sh, p_diag, p_gt a b (by omega), p_gt a b (by omega)]; grind
/-- the table of the moments by ways (N large) -/
def H (N i j : Nat) : Rat := Sg N fun k => L a b i k * (Dn b k * L a b j k)
theorem H_shift {N i j : Nat} (hi : i + 1 < N) (hj : j + 1 < N) : H a b N (i + 1) j = H a b N i (j + 1) := by
  obtain ⟨n, rfl⟩ : ∃ n, N = n + 1 := ⟨N - 1, by omega⟩
  have e : ∀ i j, i < n → j < n → H a b (n + 1) (i + 1) j = (Sg (n + 1) fun k => L a b i k * (Dn b (k + 1) * L a b j (k + 1))) + (Sg (n + 1) fun k => a k * (L a b i k * (Dn b k * L a b j k))) + Sg (n + 1) fun k => L a b i (k + 1) * (Dn b (k + 1) * L a b j k) := by
    intro i j hi hj
    unfold H
    rw [← Sg_sh (f := L a b i) (g := fun k => Dn b k * L a b j k) (n := n) (by rw [L_gt a b (show i < n by omega)]; grind), ← Sg_add, ← Sg_add]
    refine Sg_congr fun k hk => ?_
    rw [L, Dn]; grind
  have e2 : H a b (n + 1) i (j + 1) = H a b (n + 1) (j + 1) i := by
    unfold H
    exact Sg_congr fun k hk => by grind
  rw [e2, e i j (by omega) (by omega), e j i (by omega) (by omega)]
  have f1 : (Sg (n + 1) fun k => L a b i k * (Dn b (k + 1) * L a b j (k + 1))) = Sg (n + 1) fun k => L a b j (k + 1) * (Dn b (k + 1) * L a b i k) := Sg_congr fun k hk => by grind
  have f2 : (Sg (n + 1) fun k => a k * (L a b i k * (Dn b k * L a b j k))) = Sg (n + 1) fun k => a k * (L a b j k * (Dn b k * L a b i k)) := Sg_congr fun k hk => by grind
  have f3 : (Sg (n + 1) fun k => L a b i (k + 1) * (Dn b (k + 1) * L a b j k)) = Sg (n + 1) fun k => L a b j k * (Dn b (k + 1) * L a b i (k + 1)) := Sg_congr fun k hk => by grind
  rw [f1, f2, f3]; grind
theorem H_eq : ∀ {i j N : Nat}, i + j + 1 < N → H a b N i j = L a b (i + j) 0
  | 0, j, N, h => by
    unfold H
    rw [Sg_one (k := 0) (by omega) fun i _ hi => by rw [L, if_neg hi]; grind]
    rw [L, if_pos rfl, Dn, Nat.zero_add]; grind
  | i + 1, j, N, h => by
    rw [H_shift a b (by omega) (by omega), H_eq (by omega), show i + (j + 1) = i + 1 + j by omega]
/-- with fewer terms -/
theorem H_N {N i j : Nat} (h : i < N) : H a b N i j = L a b (i + j) 0 := by
  rw [← H_eq a b (N := N + i + j + 2) (by omega)]
  exact (Sg_more (by omega) fun k h1 h2 => by rw [L_gt a b (by omega)]; grind).symm
theorem pL_step {N k j : Nat} (hk : k < N) : (Sg N fun i => p a b k i * L a b (i + 1) j) = sh (fun j => Sg N fun i => p a b k i * L a b i j) j + a j * (Sg N fun i => p a b k i * L a b i j) + b j * Sg N fun i => p a b k i * L a b i (j + 1) := by
  rw [← Sg_mul, ← Sg_mul]
  cases j with
  | zero =>
    rw [sh, Rat.zero_add, ← Sg_add]
    refine Sg_congr fun i hi => ?_
    rw [L, sh]; grind
  | succ j =>
    rw [sh, ← Sg_add, ← Sg_add]
    refine Sg_congr fun i hi => ?_
    rw [L, sh]; grind
theorem sum_sh {N k : Nat} (hk : k + 1 < N) (g : Nat → Rat) : (Sg N fun i => sh (p a b k) i * g i) = Sg N fun i => p a b k i * g (i + 1) := by
  obtain ⟨n, rfl⟩ : ∃ n, N = n + 1 := ⟨N - 1, by omega⟩
  exact Sg_sh (by rw [p_gt a b (show k < n by omega)]; grind)
/-- the polynomials lead the ways to one level -/
theorem pL : ∀ {k N j : Nat}, k < N → (Sg N fun i => p a b k i * L a b i j) = dl k j
  | 0, N, j, h => by
    rw [Sg_one (k := 0) h fun i _ hi => by rw [p, if_neg hi]; grind, p, if_pos rfl, L]
    unfold dl
    by_cases c : j = 0
    · subst c; simp
    · rw [if_neg c, if_neg (by omega)]; grind
  | 1, N, j, h => by
    have e : (Sg N fun i => p a b 1 i * L a b i j) = (Sg N fun i => sh (p a b 0) i * L a b i j) - a 0 * Sg N fun i => p a b 0 i * L a b i j := by
      rw [← Sg_mul, ← Sg_sub]
      exact Sg_congr fun i _ => by rw [p_one]; grind
    rw [e, sum_sh a b h fun i => L a b i j, pL_step a b (by omega)]
    rw [show (fun j => Sg N fun i => p a b 0 i * L a b i j) = fun j => dl 0 j from funext fun j => pL (by omega), pL (by omega), pL (by omega)]
    cases j with
    | zero => simp only [sh, dl]; grind
    | succ j => simp only [sh, dl]; grind
  | k + 2, N, j, h => by
    have e : (Sg N fun i => p a b (k + 2) i * L a b i j) = (Sg N fun i => sh (p a b (k + 1)) i * L a b i j) - a (k + 1) * (Sg N fun i => p a b (k + 1) i * L a b i j) - b k * Sg N fun i => p a b k i * L a b i j := by
      rw [← Sg_mul, ← Sg_mul, ← Sg_sub, ← Sg_sub]
      exact Sg_congr fun i _ => by rw [p]; grind
    rw [e, sum_sh a b h fun i => L a b i j, pL_step a b (by omega)]
    rw [show (fun j => Sg N fun i => p a b (k + 1) i * L a b i j) = fun j => dl (k + 1) j from funext fun j => pL (by omega), pL (by omega), pL (by omega), pL (by omega)]
    by_cases c : k = j
    · subst c
      cases k with
      | zero => simp only [sh, dl]; grind
      | succ k => simp only [sh, dl]; grind
    · cases j with
      | zero => simp only [sh, dl]; grind
      | succ j => simp only [sh, dl]; grind
/-- the other way round -/
theorem Lp : ∀ {j N i : Nat}, j < N → (Sg N fun k => L a b j k * p a b k i) = dl j i
  | 0, N, i, h => by
    rw [Sg_one (k := 0) h fun i _ hi => by rw [L, if_neg hi]; grind, p, L, if_pos rfl]
    unfold dl
    by_cases c : i = 0
    · subst c; simp
    · rw [if_neg c, if_neg (by omega)]; grind
  | j + 1, N, i, h => by
    obtain ⟨n, rfl⟩ : ∃ n, N = n + 1 := ⟨N - 1, by omega⟩
    have e1 : (Sg (n + 1) fun k => L a b (j + 1) k * p a b k i) = (Sg (n + 1) fun k => sh (L a b j) k * p a b k i) + (Sg (n + 1) fun k => a k * (L a b j k * p a b k i)) + Sg (n + 1) fun k => b k * (L a b j (k + 1) * p a b k i) := by
      rw [← Sg_add, ← Sg_add]
      exact Sg_congr fun k _ => by rw [L]; grind
    have e2 : (Sg (n + 1) fun k => b k * (L a b j (k + 1) * p a b k i)) = Sg (n + 1) fun k => sh (fun k => b k * p a b k i) k * L a b j k := by
      rw [Sg_sh (by rw [L_gt a b (show j < n + 1 by omega)]; grind)]
      exact Sg_congr fun k _ => by grind
    rw [e1, e2, Sg_sh (by rw [L_gt a b (show j < n by omega)]; grind), ← Sg_add, ← Sg_add]
    have e3 : ∀ k, L a b j k * p a b (k + 1) i + a k * (L a b j k * p a b k i) + sh (fun k => b k * p a b k i) k * L a b j k = L a b j k * sh (p a b k) i := by
      intro k
      cases k with
      | zero => rw [p_one, sh]; grind
      | succ k => rw [p_two, sh]; grind
    rw [Sg_congr fun k _ => e3 k]
    cases i with
    | zero => rw [Sg_zero fun k _ => by rw [sh]; grind]; rfl
    | succ i =>
      simp only [sh]
      rw [Lp (by omega)]
      simp only [dl]; grind
end Mo

set_option linter.all false
/-! Mo, part 2: sums by the moments; what eliminations leave. -/
namespace Mo
theorem tri_swap {F : Nat → Nat → Rat} : ∀ {N : Nat}, (Sg N fun s => Sg (s + 1) fun i => F i (s - i)) = Sg N fun i => Sg (N - i) fun j => F i j
  | 0 => rfl
  | N + 1 => by
    rw [Sg, tri_swap]
    have e : (Sg (N + 1) fun i => Sg (N + 1 - i) fun j => F i j) = Sg (N + 1) fun i => (Sg (N - i) fun j => F i j) + F i (N - i) := Sg_congr fun i hi => by
      rw [show N + 1 - i = (N - i) + 1 by omega, Sg]
    rw [e, Sg_add]
    congr 1
    rw [Sg, Nat.sub_self, Sg]; grind
/-- a sum by moments of a product -/
theorem conv_sum {f g m : Nat → Rat} {k l N : Nat} (hf : ∀ i, k < i → f i = 0) (hg : ∀ i, l < i → g i = 0) (hN : k + l < N) : (Sg N fun s => cv f g s * m s) = Sg (k + 1) fun i => f i * Sg (l + 1) fun j => g j * m (i + j) := by
  have e : (Sg N fun s => cv f g s * m s) = Sg N fun s => Sg (s + 1) fun i => f i * (g (s - i) * m (i + (s - i))) := Sg_congr fun s hs => by
    unfold cv
    rw [← Sg_mulr]
    exact Sg_congr fun i hi => by
      rw [show i + (s - i) = s by omega]; grind
  rw [e, tri_swap (F := fun i j => f i * (g j * m (i + j)))]
  rw [Sg_more (n := k + 1) (m := N) (by omega) fun i h1 h2 => Sg_zero fun j _ => by rw [hf i (by omega)]; grind]
  refine Sg_congr fun i hi => ?_
  rw [Sg_mul, Sg_more (n := l + 1) (m := N - i) (by omega) fun j h1 h2 => by rw [hg j (by omega)]; grind]
variable (a b : Nat → Rat)
/-- moments by two polynomials' ways -/
theorem two_sum {k l N : Nat} (hk : k + 1 < N) (hl : l < N) (t : Nat) (ht : t ≤ 1) : (Sg (k + 1) fun i => p a b k i * Sg (l + 1) fun j => p a b l j * L a b (i + t + j) 0) = Sg N fun r => (Sg (k + 1) fun i => p a b k i * L a b (i + t) r) * (Dn b r * dl l r) := by
  have e : (Sg (k + 1) fun i => p a b k i * Sg (l + 1) fun j => p a b l j * L a b (i + t + j) 0) = Sg (k + 1) fun i => Sg N fun r => p a b k i * L a b (i + t) r * (Dn b r * dl l r) := by
    refine Sg_congr fun i hi => ?_
    have h1 : (Sg (l + 1) fun j => p a b l j * L a b (i + t + j) 0) = Sg (l + 1) fun j => Sg N fun r => L a b (i + t) r * (Dn b r * (p a b l j * L a b j r)) := Sg_congr fun j hj => by
      rw [← H_N a b (N := N) (i := i + t) (j := j) (by omega)]
      unfold H
      rw [← Sg_mul]
      exact Sg_congr fun r hr => by grind
    rw [h1, Sg_swap, ← Sg_mul]
    refine Sg_congr fun r hr => ?_
    rw [Sg_mul, Sg_mul, pL a b (show l < l + 1 by omega)]; grind
  rw [e, Sg_swap]
  exact Sg_congr fun r hr => Sg_mulr
/-- the sum by the moments of the product of two polynomials of the rule -/
theorem PP {k l N : Nat} (h : k + l < N) : (Sg N fun s => cv (p a b k) (p a b l) s * L a b s 0) = dl l k * Dn b k := by
  rw [conv_sum (k := k) (l := l) (m := fun s => L a b s 0) (fun i hi => p_gt a b hi) (fun i hi => p_gt a b hi) h]
  have := two_sum a b (k := k) (l := l) (N := k + l + 2) (by omega) (by omega) 0 (by omega)
  simp only [Nat.add_zero] at this
  rw [this]
  rw [Sg_congr (g := fun r => dl k r * (Dn b r * dl l r)) fun r hr => by rw [pL a b (show k < k + 1 by omega)]]
  rw [Sg_one (k := k) (by omega) fun r _ hr => by simp only [dl]; rw [if_neg (fun h => hr h.symm)]; grind]
  simp only [dl]
  grind
/-- times x -/
theorem xPP {k N : Nat} (h : 2 * k + 1 < N) : (Sg N fun s => sh (cv (p a b k) (p a b k)) s * L a b s 0) = Dn b k * a k := by
  obtain ⟨M, rfl⟩ : ∃ M, N = M + 1 := ⟨N - 1, by omega⟩
  have hz : cv (p a b k) (p a b k) M = 0 := by
    unfold cv
    refine Sg_zero fun j hj => ?_
    by_cases c : k < j
    · rw [p_gt a b c]; grind
    · rw [p_gt a b (show k < M - j by omega)]; grind
  rw [Sg_sh (by rw [hz]; grind), Sg, hz]
  rw [conv_sum (k := k) (l := k) (m := fun s => L a b (s + 1) 0) (fun i hi => p_gt a b hi) (fun i hi => p_gt a b hi) (by omega)]
  have := two_sum a b (k := k) (l := k) (N := k + 2) (by omega) (by omega) 1 (by omega)
  rw [show (Sg (k + 1) fun i => p a b k i * Sg (k + 1) fun j => p a b k j * L a b (i + j + 1) 0) = Sg (k + 1) fun i => p a b k i * Sg (k + 1) fun j => p a b k j * L a b (i + 1 + j) 0 from Sg_congr fun i _ => by
    rw [Sg_congr fun j _ => by rw [show i + j + 1 = i + 1 + j by omega]], this]
  rw [Sg_one (k := k) (by omega) fun r _ hr => by simp only [dl]; rw [if_neg (fun h => hr h.symm)]; grind]
  rw [pL_step a b (by omega), show (fun j => Sg (k + 1) fun i => p a b k i * L a b i j) = fun j => dl k j from funext fun j => pL a b (by omega), pL a b (by omega), pL a b (by omega)]
  cases k with
  | zero => simp only [sh, dl]; grind
  | succ k => simp only [sh, dl]; grind
/-- what eliminations leave of the table of the moments -/
def E : Nat → Nat → Nat → Rat
  | 0, i, j => L a b (i + j) 0
  | s + 1, i, j => E s i j - L a b i s * (Dn b s * L a b j s)
theorem E_eq {s i j N : Nat} (hi : i < N) : E a b s i j + (Sg s fun k => L a b i k * (Dn b k * L a b j k)) = Sg N fun k => L a b i k * (Dn b k * L a b j k) := by
  induction s with
  | zero =>
    rw [E, Sg, ← H_N a b hi, H]; grind
  | succ s ih =>
    rw [E, Sg, ← ih]; grind
/-- the row at the turn -/
theorem E_row {s j : Nat} : E a b s s j = Dn b s * L a b j s := by
  have := E_eq a b (s := s) (i := s) (j := j) (N := s + 1) (by omega)
  rw [Sg, L_diag] at this
  grind
theorem E_sym {s i j : Nat} : E a b s i j = E a b s j i := by
  induction s generalizing i j with
  | zero => rw [E, E, Nat.add_comm]
  | succ s ih => rw [E, E, ih]; grind
theorem E_col {s i : Nat} : E a b s i s = L a b i s * Dn b s := by
  rw [E_sym, E_row]; grind
/-- columns that are done -/
theorem E_zero {s i j : Nat} (h : j < s) : E a b s i j = 0 := by
  have := E_eq a b (s := s) (i := j) (j := i) (N := s) h
  rw [E_sym]
  grind
theorem D_ne {b : Nat → Rat} {k : Nat} (h : ∀ i, i < k → b i ≠ 0) : Dn b k ≠ 0 := by
  induction k with
  | zero => rw [Dn]; decide
  | succ k ih =>
    rw [Dn]
    have h1 := ih fun i hi => h i (by omega)
    have h2 := h k (by omega)
    grind
end Mo
namespace Mo
variable (a b : Nat → Rat)
/-- the powers of x led back to the first polynomials -/
def U (s i j : Nat) : Rat := Sg s fun k => L a b j k * p a b k i
theorem U_succ {s i j : Nat} : U a b (s + 1) i j = U a b s i j + L a b j s * p a b s i := rfl
theorem U_own {s i : Nat} (h : i < s) : U a b s i s = -p a b s i := by
  have := Lp a b (j := s) (N := s + 1) (i := i) (by omega)
  rw [Sg, L_diag] at this
  have e : dl s i = 0 := by
    unfold dl
    exact if_neg (by omega)
  rw [e] at this
  unfold U
  grind
theorem U_new {s j : Nat} : U a b (s + 1) s j = L a b j s := by
  unfold U
  rw [Sg, Sg_zero fun k hk => by rw [p_gt a b (show k < s by omega)]; grind, p_diag]; grind
theorem U_step {s i j : Nat} (h : i < s) : U a b s i j - U a b s i s * L a b j s = U a b (s + 1) i j := by
  rw [U_own a b h, U_succ]; grind
end Mo

set_option linter.all false
/-! Mo, part 3: series: peeled rows, quotients. -/
namespace Mo
def sf (a : Nat → Rat) (l : Nat) : Nat → Rat := fun k => a (l + k)
theorem sf_sf {a : Nat → Rat} {l : Nat} : sf (sf a l) 1 = sf a (l + 1) := funext fun k => by
  unfold sf
  rw [show l + (1 + k) = l + 1 + k by omega]
theorem sf_zero {a : Nat → Rat} : sf a 0 = a := funext fun k => by
  unfold sf
  rw [Nat.zero_add]
variable (a b : Nat → Rat)
theorem L_zero_step {j : Nat} : L a b (j + 1) 0 = a 0 * L a b j 0 + b 0 * L a b j (0 + 1) := by
  have : L a b (j + 1) 0 = 0 + a 0 * L a b j 0 + b 0 * L a b j (0 + 1) := rfl
  rw [this]; grind
/-- ways to a level above 0, by the last time at 0 -/
theorem dec : ∀ {t k : Nat}, L a b t (k + 1) = Sg t fun j => L a b j 0 * L (sf a 1) (sf b 1) (t - 1 - j) k
  | 0, k => by rw [L, if_neg (by omega)]; rfl
  | t + 1, k => by
    rw [L, Sg]
    have e : (Sg t fun j => L a b j 0 * L (sf a 1) (sf b 1) (t + 1 - 1 - j) k) = (Sg t fun j => L a b j 0 * sh (L (sf a 1) (sf b 1) (t - 1 - j)) k) + a (k + 1) * (Sg t fun j => L a b j 0 * L (sf a 1) (sf b 1) (t - 1 - j) k) + b (k + 1) * Sg t fun j => L a b j 0 * L (sf a 1) (sf b 1) (t - 1 - j) (k + 1) := by
      rw [← Sg_mul, ← Sg_mul, ← Sg_add, ← Sg_add]
      refine Sg_congr fun j hj => ?_
      rw [show t + 1 - 1 - j = (t - 1 - j) + 1 by omega, L]
      simp only [sf]
      rw [show 1 + k = k + 1 by omega]
      grind
    rw [e, ← dec, ← dec, show t + 1 - 1 - t = 0 by omega]
    cases k with
    | zero =>
      rw [Sg_zero fun j _ => by simp only [sh]; grind]
      simp only [sh]
      rw [show L (sf a 1) (sf b 1) 0 0 = 1 from rfl]; grind
    | succ k =>
      simp only [sh]
      rw [← dec, show L (sf a 1) (sf b 1) 0 (k + 1) = 0 from rfl]; grind
/-- what by_first finds -/
def gser : Nat → Rat
  | 0 => 1
  | 1 => -a 0
  | t + 2 => -(b 0 * L (sf a 1) (sf b 1) t 0)
theorem gser_rel (c : Rat) : ∀ {t : Nat}, (Sg (t + 1) fun s => c * L a b (s + 1) 0 * gser a b (t - s)) = -(c * L a b 0 0 * gser a b (t + 1)) := by
  intro t
  have h1 : L a b 0 0 = 1 := rfl
  cases t with
  | zero =>
    have hL := L_zero_step a b (j := 0)
    have h2 : L a b 0 (0 + 1) = 0 := rfl
    have g0 : gser a b (0 - 0) = 1 := rfl
    have g1 : gser a b (0 + 1) = -a 0 := rfl
    simp only [Sg]
    rw [hL, h2, g0, g1, h1]; grind
  | succ t =>
    rw [Sg, Sg, Nat.sub_self, show t + 1 - t = 1 by omega]
    have e : (Sg t fun s => c * L a b (s + 1) 0 * gser a b (t + 1 - s)) = -(c * b 0 * ((Sg (t + 1) fun j => L a b j 0 * L (sf a 1) (sf b 1) (t + 1 - 1 - j) 0) - L a b 0 0 * L (sf a 1) (sf b 1) t 0)) := by
      rw [Sg_head]
      simp only [Nat.sub_zero, Nat.add_sub_cancel]
      rw [show ∀ x y : Rat, -(c * b 0 * (x + y - x)) = (-(c * b 0)) * y from fun x y => by grind, ← Sg_mul]
      refine Sg_congr fun s hs => ?_
      rw [show t + 1 - s = (t - 1 - s) + 2 by omega, gser, show t - (s + 1) = t - 1 - s by omega]; grind
    have hL := L_zero_step a b (j := t + 1)
    rw [e, ← dec, h1, hL]
    simp only [gser]
    grind
end Mo

set_option linter.all false
/-! Mo, part 4: quotients. -/
namespace Mo
theorem cv_sh {g h : Nat → Rat} {t : Nat} : cv (sh g) h t = sh (cv g h) t := by
  cases t with
  | zero => simp only [cv, Sg, sh]; grind
  | succ t =>
    simp only [sh]
    unfold cv
    rw [Sg_head]
    simp only [sh]
    rw [Sg_congr (g := fun i => g i * h (t - i)) fun i hi => by rw [show t + 1 - (i + 1) = t - i by omega]]
    grind
theorem cv_lin {g1 g2 g3 h : Nat → Rat} {x y : Rat} {t : Nat} : cv (fun i => g1 i - x * g2 i - y * g3 i) h t = cv g1 h t - x * cv g2 h t - y * cv g3 h t := by
  unfold cv
  rw [← Sg_mul, ← Sg_mul, ← Sg_sub, ← Sg_sub]
  exact Sg_congr fun i _ => by grind
variable (a b : Nat → Rat)
def qB : Nat → Nat → Rat
  | 0 => fun i => if i = 0 then 1 else 0
  | 1 => fun i => if i = 0 then 1 else if i = 1 then -a 0 else 0
  | k + 2 => fun i => qB (k + 1) i - a (k + 1) * sh (qB (k + 1)) i - b k * sh (sh (qB k)) i
def qA (f : Rat) : Nat → Nat → Rat
  | 0 => fun i => 0
  | 1 => fun i => if i = 0 then f else 0
  | k + 2 => fun i => qA f (k + 1) i - a (k + 1) * sh (qA f (k + 1)) i - b k * sh (sh (qA f k)) i
theorem sh_gt {g : Nat → Rat} {m : Nat} (h : ∀ i, m < i → g i = 0) {i : Nat} (hi : m + 1 < i) : sh g i = 0 := by
  obtain ⟨j, rfl⟩ : ∃ j, i = j + 1 := ⟨i - 1, by omega⟩
  exact h j (by omega)
theorem qB_gt : ∀ {k i : Nat}, k < i → qB a b k i = 0
  | 0, i, h => by
    show (if i = 0 then (1 : Rat) else 0) = 0
    rw [if_neg (by omega)]
  | 1, i, h => by
    show (if i = 0 then (1 : Rat) else if i = 1 then -a 0 else 0) = 0
    rw [if_neg (by omega), if_neg (by omega)]
  | k + 2, i, h => by
    show qB a b (k + 1) i - a (k + 1) * sh (qB a b (k + 1)) i - b k * sh (sh (qB a b k)) i = 0
    rw [qB_gt (by omega), sh_gt (m := k + 1) (fun i hi => qB_gt hi) h, sh_gt (m := k + 1) (fun i hi => sh_gt (m := k) (fun i hi => qB_gt hi) hi) h]; grind
theorem qA_gt {f : Rat} : ∀ {k i : Nat}, k ≤ i → qA a b f k i = 0
  | 0, i, h => rfl
  | 1, i, h => by
    show (if i = 0 then f else 0) = 0
    rw [if_neg (by omega)]
  | k + 2, i, h => by
    show qA a b f (k + 1) i - a (k + 1) * sh (qA a b f (k + 1)) i - b k * sh (sh (qA a b f k)) i = 0
    have h1 : sh (qA a b f (k + 1)) i = 0 := by
      obtain ⟨j, rfl⟩ : ∃ j, i = j + 1 := ⟨i - 1, by omega⟩
      exact qA_gt (k := k + 1) (by omega)
    have h2 : sh (sh (qA a b f k)) i = 0 := by
      obtain ⟨j, rfl⟩ : ∃ j, i = j + 2 := ⟨i - 2, by omega⟩
      exact qA_gt (k := k) (by omega)
    rw [qA_gt (by omega), h1, h2]; grind
/-- what lacks -/
def qR (f : Rat) (k t : Nat) : Rat := if k ≤ t then f * Dn b k * L a b (t - k) k else 0
theorem qR_no {f : Rat} {k t : Nat} (h : t < k) : qR a b f k t = 0 := by
  unfold qR
  exact if_neg (by omega)
theorem qR_yes {f : Rat} {k t : Nat} : qR a b f k (t + k) = f * Dn b k * L a b t k := by
  unfold qR
  rw [if_pos (show k ≤ t + k by omega), show t + k - k = t by omega]
theorem qR_step {f : Rat} {k t : Nat} : qR a b f (k + 2) t = qR a b f (k + 1) t - a (k + 1) * sh (qR a b f (k + 1)) t - b k * sh (sh (qR a b f k)) t := by
  match t with
  | 0 =>
    have e1 : sh (qR a b f (k + 1)) 0 = 0 := rfl
    have e2 : sh (sh (qR a b f k)) 0 = 0 := rfl
    rw [e1, e2, qR_no a b (by omega), qR_no a b (by omega)]; grind
  | 1 =>
    have e1 : sh (qR a b f (k + 1)) 1 = qR a b f (k + 1) 0 := rfl
    have e2 : sh (sh (qR a b f k)) 1 = 0 := rfl
    rw [e1, e2, qR_no a b (by omega), qR_no a b (k := k + 1) (t := 0) (by omega)]
    by_cases c : k = 0
    · subst c
      have := qR_yes a b (f := f) (k := 1) (t := 0)
      rw [L_gt a b (show 0 < 1 by omega)] at this
      have e3 : qR a b f (0 + 1) 1 = qR a b f 1 (0 + 1) := rfl
      rw [e3, this]; grind
    · rw [qR_no a b (k := k + 1) (t := 1) (by omega)]; grind
  | t + 2 =>
    have e1 : sh (qR a b f (k + 1)) (t + 2) = qR a b f (k + 1) (t + 1) := rfl
    have e2 : sh (sh (qR a b f k)) (t + 2) = qR a b f k t := rfl
    rw [e1, e2]
    by_cases c : k ≤ t
    · obtain ⟨d, rfl⟩ : ∃ d, t = d + k := ⟨t - k, by omega⟩
      have h1 := qR_yes a b (f := f) (k := k + 2) (t := d)
      have h2 := qR_yes a b (f := f) (k := k + 1) (t := d + 1)
      have h3 := qR_yes a b (f := f) (k := k + 1) (t := d)
      have h4 := qR_yes a b (f := f) (k := k) (t := d)
      rw [show d + k + 2 = d + (k + 2) by omega, h1, show d + (k + 2) = d + 1 + (k + 1) by omega, h2, show d + k + 1 = d + (k + 1) by omega, h3, h4]
      have e3 : L a b (d + 1) (k + 1) = L a b d k + a (k + 1) * L a b d (k + 1) + b (k + 1) * L a b d (k + 2) := rfl
      have e4 : Dn b (k + 2) = Dn b k * b k * b (k + 1) := rfl
      have e5 : Dn b (k + 1) = Dn b k * b k := rfl
      rw [e3, e4, e5]; grind
    · rw [qR_no a b (k := k + 2) (by omega), qR_no a b (k := k + 1) (t := t + 1) (by omega), qR_no a b (k := k) (t := t) (by omega)]
      by_cases c2 : k + 1 ≤ t + 2
      · have : t + 2 = 0 + (k + 1) ∨ t + 2 = 1 + (k + 1) := by omega
        rcases this with h | h
        · rw [h, qR_yes, L_gt a b (by omega)]; grind
        · omega
      · rw [qR_no a b (by omega)]; grind
theorem quot {f : Rat} : ∀ {k : Nat}, (fun t => cv (qB a b k) (fun j => f * L a b j 0) t) = fun t => qA a b f k t + qR a b f k t
  | 0 => funext fun t => by
    unfold cv
    rw [Sg_one (k := 0) (by omega) fun i _ hi => by
      show (if i = 0 then (1 : Rat) else 0) * _ = 0
      rw [if_neg hi]; grind]
    show (1 : Rat) * (f * L a b (t - 0) 0) = 0 + qR a b f 0 t
    unfold qR
    rw [if_pos (Nat.zero_le _), Dn]; grind
  | 1 => funext fun t => by
    cases t with
    | zero =>
      show Sg 1 (fun j => qB a b 1 j * (f * L a b (0 - j) 0)) = f + qR a b f 1 0
      unfold qR
      rw [if_neg (by omega)]
      show (0 : Rat) + 1 * (f * L a b 0 0) = f + 0
      rw [show L a b 0 0 = 1 from rfl]; grind
    | succ t =>
      unfold cv
      rw [Sg_head, Sg_one (k := 0) (n := t + 1) (by omega) fun i _ hi => by
        show (if i + 1 = 0 then (1 : Rat) else if i + 1 = 1 then -a 0 else 0) * _ = 0
        rw [if_neg (by omega), if_neg (by omega)]; grind]
      show (1 : Rat) * (f * L a b (t + 1) 0) + -a 0 * (f * L a b t 0) = 0 + qR a b f 1 (t + 1)
      unfold qR
      rw [if_pos (by omega), show t + 1 - 1 = t by omega, L_zero_step, Dn, Dn]; grind
  | k + 2 => funext fun t => by
    have h1 := quot (f := f) (k := k + 1)
    have h0 := quot (f := f) (k := k)
    show cv (fun i => qB a b (k + 1) i - a (k + 1) * sh (qB a b (k + 1)) i - b k * sh (sh (qB a b k)) i) _ t = (qA a b f (k + 1) t - a (k + 1) * sh (qA a b f (k + 1)) t - b k * sh (sh (qA a b f k)) t) + _
    rw [cv_lin, cv_sh, cv_sh, qR_step]
    have e1 : cv (qB a b (k + 1)) (fun j => f * L a b j 0) = fun t => qA a b f (k + 1) t + qR a b f (k + 1) t := h1
    have e0 : cv (qB a b k) (fun j => f * L a b j 0) = fun t => qA a b f k t + qR a b f k t := h0
    have s1 : ∀ (g h : Nat → Rat) t, sh (fun t => g t + h t) t = sh g t + sh h t := fun g h t => by cases t <;> simp only [sh]; grind
    rw [e1, show cv (sh (qB a b k)) (fun j => f * L a b j 0) = sh (cv (qB a b k) fun j => f * L a b j 0) from funext fun t => cv_sh, e0, s1, show sh (fun t => qA a b f k t + qR a b f k t) = fun t => sh (qA a b f k) t + sh (qR a b f k) t from funext fun t => s1 _ _ t, s1]
    grind
/-- the quotient of all steps tells the row -/
theorem quot_row {f : Rat} {k t : Nat} (h : t < 2 * k) : cv (qB a b k) (fun j => f * L a b j 0) t = qA a b f k t := by
  have h0 : cv (qB a b k) (fun j => f * L a b j 0) t = qA a b f k t + qR a b f k t := congrFun (quot a b (f := f) (k := k)) t
  rw [h0]
  by_cases c : k ≤ t
  · obtain ⟨d, rfl⟩ : ∃ d, t = d + k := ⟨t - k, by omega⟩
    rw [qR_yes, L_gt a b (by omega)]; grind
  · rw [qR_no a b (by omega)]; grind
end Mo

set_option linter.all false
/-! Mo, part 5: rules. -/
namespace Mo
variable (a b : Nat → Rat)
theorem xk {j k : Nat} : (Sg (j + 1) fun i => p a b j i * L a b (k + i) 0) = L a b k j * Dn b j := by
  have e : (Sg (j + 1) fun i => p a b j i * L a b (k + i) 0) = Sg (j + 1) fun i => Sg (k + 1) fun r => L a b k r * Dn b r * (p a b j i * L a b i r) := Sg_congr fun i hi => by
    rw [← H_N a b (N := k + 1) (i := k) (j := i) (by omega), H, ← Sg_mul]
    exact Sg_congr fun r hr => by grind
  rw [e, Sg_swap]
  have e2 : (Sg (k + 1) fun r => Sg (j + 1) fun i => L a b k r * Dn b r * (p a b j i * L a b i r)) = Sg (k + 1) fun r => L a b k r * Dn b r * dl j r := Sg_congr fun r hr => by
    rw [Sg_mul, pL a b (show j < j + 1 by omega)]
  rw [e2]
  by_cases c : j ≤ k
  · rw [Sg_one (k := j) (by omega) fun r _ hr => by simp only [dl]; rw [if_neg (fun h => hr h.symm)]; grind]
    simp only [dl]; grind
  · rw [Sg_zero fun r hr => by simp only [dl]; rw [if_neg (by omega)]; grind, L_gt a b (by omega)]; grind
/-- a sum from the other end -/
theorem Sg_rev {g : Nat → Rat} : ∀ {m : Nat}, (Sg m fun i => g (m - 1 - i)) = Sg m g
  | 0 => rfl
  | m + 1 => by
    rw [Sg_head, Sg]
    have : (Sg m fun i => g (m + 1 - 1 - (i + 1))) = Sg m fun i => g (m - 1 - i) := Sg_congr fun i hi => by
      rw [show m + 1 - 1 - (i + 1) = m - 1 - i by omega]
    rw [this, Sg_rev, show m + 1 - 1 - 0 = m by omega]; grind
/-- what is behind the steps at the odd turns -/
def cC (f : Rat) (k : Nat) : Rat := if k = 0 then a 0 - f else a k
def Qp (f : Rat) (k i : Nat) : Rat := p a b (k + 1) i + cC a f k * p a b k i
theorem Qp_sum {f : Rat} {k : Nat} : (Sg (k + 2) fun i => Qp a b f k i * L a b (k + i) 0) = cC a f k * Dn b k := by
  have e : (Sg (k + 2) fun i => Qp a b f k i * L a b (k + i) 0) = (Sg (k + 1 + 1) fun i => p a b (k + 1) i * L a b (k + i) 0) + cC a f k * Sg (k + 2) fun i => p a b k i * L a b (k + i) 0 := by
    rw [← Sg_mul, ← Sg_add]
    exact Sg_congr fun i hi => by unfold Qp; grind
  rw [e, xk, Sg_more (n := k + 1) (m := k + 2) (by omega) fun i h1 h2 => by rw [p_gt a b (show k < i by omega)]; grind, xk, L_gt a b (show k < k + 1 by omega), L_diag]
  grind
theorem Qp_top {f : Rat} {k : Nat} : Qp a b f k (k + 1) = 1 := by
  unfold Qp
  rw [p_diag, p_gt a b (show k < k + 1 by omega)]; grind
/-- the new coefficients by the last ones -/
theorem Qp_zero {f : Rat} : Qp a b f 0 0 = -f := by
  have h1 : p a b 1 0 = 0 - a 0 * 1 := rfl
  have h2 : p a b 0 0 = 1 := rfl
  unfold Qp cC
  rw [h1, h2, if_pos rfl]; grind
theorem Qp_succ {f : Rat} {k i : Nat} : Qp a b f (k + 1) i = sh (p a b (k + 1)) i - b k * p a b k i := by
  unfold Qp cC
  rw [p_two, if_neg (by omega)]; grind
end Mo

set_option maxRecDepth 100000
set_option linter.all false
/-! The trees of the defs, calls by canonical numbers. -/
namespace B
open PySem PyD
abbrev i_is_integer : Nat := 0
def d_is_integer (ι : Nat → Nat) : Def := ⟨1, 1,
  (.ret (.band (.b1 .isInt (.var 0)) (.notv (.b1 .isBool (.var 0)))))⟩
abbrev dep_is_integer : List Nat := [0]
abbrev i_is_number : Nat := 1
def d_is_number (ι : Nat → Nat) : Def := ⟨3, 3,
  (.ret (.band (.call (ι 0) (.acons (.var 0) .anil)) (.chn .le .le (.var 1) (.var 0) (.var 2))))⟩
abbrev dep_is_number : List Nat := [0, 1]
abbrev i_need_number : Nat := 2
def d_need_number (ι : Nat → Nat) : Def := ⟨3, 3,
  (.ifs (.notv (.call (ι 1) (.acons (.var 0) (.acons (.var 1) (.acons (.var 2) .anil)))))
   .fail
   .skip)⟩
abbrev dep_need_number : List Nat := [0, 1, 2]
abbrev i_is_tuple_of : Nat := 3
def d_is_tuple_of (ι : Nat → Nat) : Def := ⟨3, 3,
  (.ret (.band (.b1 .isTup (.var 0)) (.chn .le .le (.var 1) (.b1 .len (.var 0)) (.var 2))))⟩
abbrev dep_is_tuple_of : List Nat := [3]
abbrev i_fits_fraction : Nat := 4
def d_fits_fraction (ι : Nat → Nat) : Def := ⟨1, 2,
  (.seq (.ifs (.borr (.notv (.call (ι 3) (.acons (.var 0) (.acons (.cst (.int 2)) (.acons (.cst (.int 2)) .anil))))) (.notv (.b1 .all (.lc (.nm 1) (.itS (.var 0)) .anil (.call (ι 0) (.acons (.var 1) .anil))))))
   (.ret (.cst (.bool false)))
   .skip)
  (.ret (.band (.cmp .ge (.ix (.var 0) (.cst (.int 1))) (.cst (.int 1))) (.cmp .eq (.b2 .gcd (.ix (.var 0) (.cst (.int 0))) (.ix (.var 0) (.cst (.int 1)))) (.cst (.int 1))))))⟩
abbrev dep_fits_fraction : List Nat := [0, 3, 4]
abbrev i_need_fraction : Nat := 5
def d_need_fraction (ι : Nat → Nat) : Def := ⟨1, 1,
  (.ifs (.notv (.call (ι 4) (.acons (.var 0) .anil)))
   .fail
   .skip)⟩
abbrev dep_need_fraction : List Nat := [0, 3, 4, 5]
abbrev i_lowest : Nat := 6
def d_lowest (ι : Nat → Nat) : Def := ⟨2, 3,
  (.seq (.asg (.nm 2) (.b2 .gcd (.var 0) (.var 1)))
  (.seq (.par [(0, false), (1, false)] (.acons (.bop .fdiv (.var 0) (.var 2)) (.acons (.bop .fdiv (.var 1) (.var 2)) .anil)))
  (.ret (.ite (.cmp .gt (.var 1) (.cst (.int 0))) (.tup (.acons (.var 0) (.acons (.var 1) .anil))) (.tup (.acons (.neg (.var 0)) (.acons (.neg (.var 1)) .anil)))))))⟩
abbrev dep_lowest : List Nat := [6]
abbrev i_plus : Nat := 7
def d_plus (ι : Nat → Nat) : Def := ⟨2, 2,
  (.ret (.call (ι 6) (.acons (.bop .add (.bop .mul (.ix (.var 0) (.cst (.int 0))) (.ix (.var 1) (.cst (.int 1)))) (.bop .mul (.ix (.var 1) (.cst (.int 0))) (.ix (.var 0) (.cst (.int 1))))) (.acons (.bop .mul (.ix (.var 0) (.cst (.int 1))) (.ix (.var 1) (.cst (.int 1)))) .anil))))⟩
abbrev dep_plus : List Nat := [6, 7]
abbrev i_minus : Nat := 8
def d_minus (ι : Nat → Nat) : Def := ⟨2, 2,
  (.ret (.call (ι 6) (.acons (.bop .sub (.bop .mul (.ix (.var 0) (.cst (.int 0))) (.ix (.var 1) (.cst (.int 1)))) (.bop .mul (.ix (.var 1) (.cst (.int 0))) (.ix (.var 0) (.cst (.int 1))))) (.acons (.bop .mul (.ix (.var 0) (.cst (.int 1))) (.ix (.var 1) (.cst (.int 1)))) .anil))))⟩
abbrev dep_minus : List Nat := [6, 8]
abbrev i_times : Nat := 9
def d_times (ι : Nat → Nat) : Def := ⟨2, 2,
  (.ret (.call (ι 6) (.acons (.bop .mul (.ix (.var 0) (.cst (.int 0))) (.ix (.var 1) (.cst (.int 0)))) (.acons (.bop .mul (.ix (.var 0) (.cst (.int 1))) (.ix (.var 1) (.cst (.int 1)))) .anil))))⟩
abbrev dep_times : List Nat := [6, 9]
abbrev i_over : Nat := 10
def d_over (ι : Nat → Nat) : Def := ⟨2, 2,
  (.ret (.call (ι 6) (.acons (.bop .mul (.ix (.var 0) (.cst (.int 0))) (.ix (.var 1) (.cst (.int 1)))) (.acons (.bop .mul (.ix (.var 0) (.cst (.int 1))) (.ix (.var 1) (.cst (.int 0)))) .anil))))⟩
abbrev dep_over : List Nat := [6, 10]
abbrev i_opposite : Nat := 11
def d_opposite (ι : Nat → Nat) : Def := ⟨1, 1,
  (.ret (.tup (.acons (.neg (.ix (.var 0) (.cst (.int 0)))) (.acons (.ix (.var 0) (.cst (.int 1))) .anil))))⟩
abbrev dep_opposite : List Nat := [11]
abbrev i_summed : Nat := 12
def d_summed (ι : Nat → Nat) : Def := ⟨1, 3,
  (.seq (.asg (.nm 1) (.cst (.tuple [(.int 0), (.int 1)])))
  (.seq (.forS (.nm 2) (.itS (.var 0))
   (.asg (.nm 1) (.call (ι 7) (.acons (.var 1) (.acons (.var 2) .anil)))))
  (.ret (.var 1))))⟩
abbrev dep_summed : List Nat := [6, 7, 12]
abbrev i_lean : Nat := 13
def d_lean (ι : Nat → Nat) : Def := ⟨1, 2,
  (.seq (.asg (.nm 1) (.b1 .len (.var 0)))
  (.seq (.whl (.band (.cmp .gt (.var 1) (.cst (.int 0))) (.cmp .eq (.ix (.ix (.var 0) (.bop .sub (.var 1) (.cst (.int 1)))) (.cst (.int 0))) (.cst (.int 0))))
   (.asg (.nm 1) (.bop .sub (.var 1) (.cst (.int 1)))))
  (.ret (.b1 .tuple (.sl (.var 0) .nop (.acons (.var 1) .nop))))))⟩
abbrev dep_lean : List Nat := [13]
abbrev i_at_power : Nat := 14
def d_at_power (ι : Nat → Nat) : Def := ⟨2, 2,
  (.ret (.ite (.cmp .lt (.var 1) (.b1 .len (.var 0))) (.ix (.var 0) (.var 1)) (.cst (.tuple [(.int 0), (.int 1)]))))⟩
abbrev dep_at_power : List Nat := [14]
abbrev i_scaled : Nat := 15
def d_scaled (ι : Nat → Nat) : Def := ⟨2, 3,
  (.ret (.call (ι 13) (.acons (.lc (.nm 2) (.itS (.var 0)) .anil (.call (ι 9) (.acons (.var 2) (.acons (.var 1) .anil)))) .anil)))⟩
abbrev dep_scaled : List Nat := [6, 9, 13, 15]
abbrev i_less : Nat := 16
def d_less (ι : Nat → Nat) : Def := ⟨2, 3,
  (.ret (.call (ι 13) (.acons (.lc (.nm 2) (.itR1 (.b2 .max (.b1 .len (.var 0)) (.b1 .len (.var 1)))) .anil (.call (ι 8) (.acons (.call (ι 14) (.acons (.var 0) (.acons (.var 2) .anil))) (.acons (.call (ι 14) (.acons (.var 1) (.acons (.var 2) .anil))) .anil)))) .anil)))⟩
abbrev dep_less : List Nat := [6, 8, 13, 14, 16]
abbrev i_raised : Nat := 17
def d_raised (ι : Nat → Nat) : Def := ⟨2, 2,
  (.ret (.ite (.cmp .ne (.var 0) (.tup .anil)) (.bop .add (.bop .mul (.tup (.acons (.cst (.tuple [(.int 0), (.int 1)])) .anil)) (.var 1)) (.var 0)) (.tup .anil)))⟩
abbrev dep_raised : List Nat := [17]
abbrev i_multiplied : Nat := 18
def d_multiplied (ι : Nat → Nat) : Def := ⟨2, 7,
  (.seq (.asgO 2 (.bop .mul (.lst (.acons (.cst (.tuple [(.int 0), (.int 1)])) .anil)) (.bop .add (.b1 .len (.var 0)) (.b1 .len (.var 1)))))
  (.seq (.forS (.acons (.nm 3) (.acons (.nm 4) .anil)) (.itE (.var 0))
   (.forS (.acons (.nm 5) (.acons (.nm 6) .anil)) (.itE (.var 1))
    (.seti 2 (.bop .add (.var 3) (.var 5)) (.call (ι 7) (.acons (.ix (.bor 2) (.bop .add (.var 3) (.var 5))) (.acons (.call (ι 9) (.acons (.var 4) (.acons (.var 6) .anil))) .anil))))))
  (.seq (.frz 2)
  (.ret (.call (ι 13) (.acons (.var 2) .anil))))))⟩
abbrev dep_multiplied : List Nat := [6, 7, 9, 13, 18]
abbrev i_fits_row : Nat := 19
def d_fits_row (ι : Nat → Nat) : Def := ⟨1, 2,
  (.ret (.band (.call (ι 3) (.acons (.var 0) (.acons (.cst (.int 1)) (.acons (.cst (.int 24)) .anil)))) (.b1 .all (.lc (.nm 1) (.itS (.var 0)) .anil (.call (ι 4) (.acons (.var 1) .anil))))))⟩
abbrev dep_fits_row : List Nat := [0, 3, 4, 19]
abbrev i_need_row : Nat := 20
def d_need_row (ι : Nat → Nat) : Def := ⟨1, 1,
  (.ifs (.notv (.call (ι 19) (.acons (.var 0) .anil)))
   .fail
   .skip)⟩
abbrev dep_need_row : List Nat := [0, 3, 4, 19, 20]
abbrev i_fits_steps : Nat := 21
def d_fits_steps (ι : Nat → Nat) : Def := ⟨1, 4,
  (.seq (.ifs (.borr (.notv (.call (ι 3) (.acons (.var 0) (.acons (.cst (.int 2)) (.acons (.cst (.int 2)) .anil))))) (.notv (.call (ι 3) (.acons (.ix (.var 0) (.cst (.int 0))) (.acons (.cst (.int 1)) (.acons (.cst (.int 12)) .anil))))))
   (.ret (.cst (.bool false)))
   .skip)
  (.seq (.asg (.acons (.nm 1) (.acons (.nm 2) .anil)) (.var 0))
  (.seq (.ifs (.borr (.notv (.call (ι 3) (.acons (.var 2) (.acons (.bop .sub (.b1 .len (.var 1)) (.cst (.int 1))) (.acons (.bop .sub (.b1 .len (.var 1)) (.cst (.int 1))) .anil))))) (.notv (.b1 .all (.lc (.nm 3) (.itS (.var 1)) .anil (.call (ι 4) (.acons (.var 3) .anil))))))
   (.ret (.cst (.bool false)))
   .skip)
  (.ret (.b1 .all (.lc (.nm 3) (.itS (.var 2)) .anil (.band (.call (ι 4) (.acons (.var 3) .anil)) (.cmp .ne (.ix (.var 3) (.cst (.int 0))) (.cst (.int 0))))))))))⟩
abbrev dep_fits_steps : List Nat := [0, 3, 4, 21]
abbrev i_need_steps : Nat := 22
def d_need_steps (ι : Nat → Nat) : Def := ⟨1, 1,
  (.ifs (.notv (.call (ι 21) (.acons (.var 0) .anil)))
   .fail
   .skip)⟩
abbrev dep_need_steps : List Nat := [0, 3, 4, 21, 22]
abbrev i_sum_in : Nat := 23
def d_sum_in (ι : Nat → Nat) : Def := ⟨2, 4,
  (.ret (.call (ι 12) (.acons (.lc (.acons (.nm 2) (.acons (.nm 3) .anil)) (.itZ (.var 1) (.var 0)) .anil (.call (ι 9) (.acons (.var 2) (.acons (.var 3) .anil)))) .anil)))⟩
abbrev dep_sum_in : List Nat := [6, 7, 9, 12, 23]
abbrev i_determinant_in : Nat := 24
def d_determinant_in (ι : Nat → Nat) : Def := ⟨1, 11,
  (.seq (.par [(1, true), (2, false)] (.acons (.lc (.nm 8) (.itS (.var 0)) .anil (.b1 .list (.var 8))) (.acons (.cst (.tuple [(.int 1), (.int 1)])) .anil)))
  (.seq (.forS (.nm 3) (.itR1 (.b1 .len (.bor 1)))
   (.seq (.asg (.nm 4) (.lc (.nm 6) (.itR2 (.var 3) (.b1 .len (.bor 1))) (.acons (.cmp .ne (.ix (.ix (.ix (.bor 1) (.var 6)) (.var 3)) (.cst (.int 0))) (.cst (.int 0))) .anil) (.var 6)))
   (.seq (.ifs (.cmp .eq (.var 4) (.lst .anil))
    (.ret (.cst (.tuple [(.int 0), (.int 1)])))
    .skip)
   (.seq (.ifs (.cmp .ne (.ix (.var 4) (.cst (.int 0))) (.var 3))
    (.seq (.swp 1 (.var 3) (.ix (.var 4) (.cst (.int 0))) (.ix (.bor 1) (.ix (.var 4) (.cst (.int 0)))) (.ix (.bor 1) (.var 3)))
    (.asg (.nm 2) (.call (ι 11) (.acons (.var 2) .anil))))
    .skip)
   (.seq (.asg (.nm 5) (.ix (.bor 1) (.var 3)))
   (.seq (.asg (.nm 2) (.call (ι 9) (.acons (.var 2) (.acons (.ix (.var 5) (.var 3)) .anil))))
   (.forS (.nm 6) (.itR2 (.bop .add (.var 3) (.cst (.int 1))) (.b1 .len (.bor 1)))
    (.seq (.asg (.nm 7) (.call (ι 10) (.acons (.ix (.ix (.bor 1) (.var 6)) (.var 3)) (.acons (.ix (.var 5) (.var 3)) .anil))))
    (.ifs (.cmp .ne (.ix (.var 7) (.cst (.int 0))) (.cst (.int 0)))
     (.seti 1 (.var 6) (.lc (.acons (.nm 9) (.acons (.nm 10) .anil)) (.itZ (.ix (.bor 1) (.var 6)) (.var 5)) .anil (.call (ι 8) (.acons (.var 9) (.acons (.call (ι 9) (.acons (.var 7) (.acons (.var 10) .anil))) .anil)))))
     .skip)))))))))
  (.ret (.var 2))))⟩
abbrev dep_determinant_in : List Nat := [6, 8, 9, 10, 11, 24]
abbrev i_table_in : Nat := 25
def d_table_in (ι : Nat → Nat) : Def := ⟨3, 4,
  (.ret (.b1 .tuple (.lc (.nm 3) (.itR1 (.var 1)) .anil (.b1 .tuple (.sl (.var 0) (.acons (.bop .add (.var 3) (.var 2)) .nop) (.acons (.bop .add (.bop .add (.var 3) (.var 2)) (.var 1)) .nop))))))⟩
abbrev dep_table_in : List Nat := [25]
abbrev i_is_full_in : Nat := 26
def d_is_full_in (ι : Nat → Nat) : Def := ⟨2, 3,
  (.seq (.ifs (.cmp .lt (.b1 .len (.var 0)) (.bop .mul (.cst (.int 2)) (.var 1)))
   (.ret (.cst (.bool false)))
   .skip)
  (.ret (.b1 .all (.lc (.nm 2) (.itR2 (.cst (.int 1)) (.bop .add (.var 1) (.cst (.int 1)))) .anil (.cmp .ne (.ix (.call (ι 24) (.acons (.call (ι 25) (.acons (.var 0) (.acons (.var 2) (.acons (.cst (.int 0)) .anil)))) .anil)) (.cst (.int 0))) (.cst (.int 0)))))))⟩
abbrev dep_is_full_in : List Nat := [6, 8, 9, 10, 11, 24, 25, 26]
abbrev i_need_full : Nat := 27
def d_need_full (ι : Nat → Nat) : Def := ⟨2, 2,
  (.ifs (.notv (.call (ι 26) (.acons (.var 0) (.acons (.var 1) .anil))))
   .fail
   .skip)⟩
abbrev dep_need_full : List Nat := [6, 8, 9, 10, 11, 24, 25, 26, 27]
abbrev i_moments_in : Nat := 28
def d_moments_in (ι : Nat → Nat) : Def := ⟨3, 11,
  (.seq (.asg (.acons (.nm 3) (.acons (.nm 4) .anil)) (.var 1))
  (.seq (.par [(5, true), (6, false)] (.acons (.lst .anil) (.acons (.bop .add (.tup (.acons (.var 0) .anil)) (.bop .mul (.tup (.acons (.cst (.tuple [(.int 0), (.int 1)])) .anil)) (.bop .sub (.b1 .len (.var 3)) (.cst (.int 1))))) .anil)))
  (.seq (.forS (.nm 7) (.itR1 (.var 2))
   (.seq (.app 5 (.ix (.var 6) (.cst (.int 0))))
   (.seq (.asgO 8 (.lst .anil))
   (.seq (.forS (.nm 9) (.itR1 (.b1 .len (.var 3)))
    (.seq (.asg (.nm 10) (.call (ι 9) (.acons (.ix (.var 6) (.var 9)) (.acons (.ix (.var 3) (.var 9)) .anil))))
    (.seq (.asg (.nm 10) (.ite (.cmp .gt (.var 9) (.cst (.int 0))) (.call (ι 7) (.acons (.var 10) (.acons (.ix (.var 6) (.bop .sub (.var 9) (.cst (.int 1)))) .anil))) (.var 10)))
    (.app 8 (.ite (.cmp .lt (.var 9) (.b1 .len (.var 4))) (.call (ι 7) (.acons (.var 10) (.acons (.call (ι 9) (.acons (.ix (.var 6) (.bop .add (.var 9) (.cst (.int 1)))) (.acons (.ix (.var 4) (.var 9)) .anil))) .anil))) (.var 10))))))
   (.asg (.nm 6) (.b1 .tuple (.bor 8)))))))
  (.ret (.b1 .tuple (.bor 5))))))⟩
abbrev dep_moments_in : List Nat := [6, 7, 9, 28]
abbrev i_rule_in : Nat := 29
def d_rule_in (ι : Nat → Nat) : Def := ⟨2, 7,
  (.seq (.asg (.acons (.nm 2) (.acons (.nm 3) .anil)) (.var 0))
  (.seq (.asgO 4 (.lst (.acons (.tup (.acons (.cst (.tuple [(.int 1), (.int 1)])) .anil)) .anil)))
  (.seq (.forS (.nm 5) (.itR1 (.var 1))
   (.seq (.asg (.nm 6) (.call (ι 16) (.acons (.call (ι 17) (.acons (.ix (.bor 4) (.var 5)) (.acons (.cst (.int 1)) .anil))) (.acons (.call (ι 15) (.acons (.ix (.bor 4) (.var 5)) (.acons (.ix (.var 2) (.var 5)) .anil))) .anil))))
   (.app 4 (.ite (.cmp .gt (.var 5) (.cst (.int 0))) (.call (ι 16) (.acons (.var 6) (.acons (.call (ι 15) (.acons (.ix (.bor 4) (.bop .sub (.var 5) (.cst (.int 1)))) (.acons (.ix (.var 3) (.bop .sub (.var 5) (.cst (.int 1)))) .anil))) .anil))) (.var 6)))))
  (.seq (.frz 4)
  (.ret (.var 4))))))⟩
abbrev dep_rule_in : List Nat := [6, 8, 9, 13, 14, 15, 16, 17, 29]
abbrev i_steps_in : Nat := 30
def d_steps_in (ι : Nat → Nat) : Def := ⟨2, 11,
  (.seq (.par [(2, false), (3, false), (4, false)] (.acons (.tup (.acons (.cst (.tuple [(.int 1), (.int 1)])) .anil)) (.acons (.tup .anil) (.acons (.cst (.tuple [(.int 1), (.int 1)])) .anil))))
  (.seq (.par [(5, true), (6, true)] (.acons (.lst .anil) (.acons (.lst .anil) .anil)))
  (.seq (.forS (.nm 7) (.itR1 (.var 1))
   (.seq (.asg (.nm 8) (.call (ι 23) (.acons (.var 0) (.acons (.call (ι 18) (.acons (.var 2) (.acons (.var 2) .anil))) .anil))))
   (.seq (.ifs (.cmp .gt (.var 7) (.cst (.int 0)))
    (.app 6 (.call (ι 10) (.acons (.var 8) (.acons (.var 4) .anil))))
    .skip)
   (.seq (.asg (.nm 9) (.call (ι 10) (.acons (.call (ι 23) (.acons (.var 0) (.acons (.call (ι 17) (.acons (.call (ι 18) (.acons (.var 2) (.acons (.var 2) .anil))) (.acons (.cst (.int 1)) .anil))) .anil))) (.acons (.var 8) .anil))))
   (.seq (.app 5 (.var 9))
   (.seq (.asg (.nm 10) (.call (ι 16) (.acons (.call (ι 17) (.acons (.var 2) (.acons (.cst (.int 1)) .anil))) (.acons (.call (ι 15) (.acons (.var 2) (.acons (.var 9) .anil))) .anil))))
   (.seq (.asg (.nm 10) (.ite (.cmp .gt (.var 7) (.cst (.int 0))) (.call (ι 16) (.acons (.var 10) (.acons (.call (ι 15) (.acons (.var 3) (.acons (.ix (.bor 6) (.neg (.cst (.int 1)))) .anil))) .anil))) (.var 10)))
   (.par [(2, false), (3, false), (4, false)] (.acons (.var 10) (.acons (.var 2) (.acons (.var 8) .anil)))))))))))
  (.ret (.tup (.acons (.b1 .tuple (.bor 5)) (.acons (.b1 .tuple (.bor 6)) .anil)))))))⟩
abbrev dep_steps_in : List Nat := [6, 7, 8, 9, 10, 12, 13, 14, 15, 16, 17, 18, 23, 30]
abbrev i_need_nonzero : Nat := 31
def d_need_nonzero (ι : Nat → Nat) : Def := ⟨1, 1,
  (.seq (.expr (.call (ι 5) (.acons (.var 0) .anil)))
  (.ifs (.cmp .eq (.ix (.var 0) (.cst (.int 0))) (.cst (.int 0)))
   .fail
   .skip))⟩
abbrev dep_need_nonzero : List Nat := [0, 3, 4, 5, 31]
abbrev i_need_whole_row : Nat := 32
def d_need_whole_row (ι : Nat → Nat) : Def := ⟨2, 2,
  (.seq (.expr (.call (ι 20) (.acons (.var 0) .anil)))
  (.seq (.ifs (.borr (.cmp .eq (.bop .mod (.b1 .len (.var 0)) (.cst (.int 2))) (.cst (.int 1))) (.cmp .gt (.b1 .len (.var 0)) (.var 1)))
   .fail
   .skip)
  (.expr (.call (ι 27) (.acons (.var 0) (.acons (.bop .fdiv (.b1 .len (.var 0)) (.cst (.int 2))) .anil))))))⟩
abbrev dep_need_whole_row : List Nat := [0, 3, 4, 6, 8, 9, 10, 11, 19, 20, 24, 25, 26, 27, 32]
abbrev i_row_of_steps : Nat := 33
def d_row_of_steps (ι : Nat → Nat) : Def := ⟨2, 2,
  (.seq (.expr (.call (ι 31) (.acons (.var 0) .anil)))
  (.seq (.expr (.call (ι 22) (.acons (.var 1) .anil)))
  (.ret (.call (ι 28) (.acons (.var 0) (.acons (.var 1) (.acons (.bop .mul (.cst (.int 2)) (.b1 .len (.ix (.var 1) (.cst (.int 0))))) .anil)))))))⟩
abbrev dep_row_of_steps : List Nat := [0, 3, 4, 5, 6, 7, 9, 21, 22, 28, 31, 33]
abbrev i_steps_of_row : Nat := 34
def d_steps_of_row (ι : Nat → Nat) : Def := ⟨1, 1,
  (.seq (.expr (.call (ι 32) (.acons (.var 0) (.acons (.cst (.int 24)) .anil))))
  (.ret (.call (ι 30) (.acons (.var 0) (.acons (.bop .fdiv (.b1 .len (.var 0)) (.cst (.int 2))) .anil)))))⟩
abbrev dep_steps_of_row : List Nat := [0, 3, 4, 6, 7, 8, 9, 10, 11, 12, 13, 14, 15, 16, 17, 18, 19, 20, 23, 24, 25, 26, 27, 30, 32, 34]
abbrev i_by_first : Nat := 35
def d_by_first (ι : Nat → Nat) : Def := ⟨1, 5,
  (.seq (.asgO 1 (.lst (.acons (.cst (.tuple [(.int 1), (.int 1)])) .anil)))
  (.seq (.forS (.nm 2) (.itR2 (.cst (.int 1)) (.b1 .len (.var 0)))
   (.seq (.asg (.nm 3) (.call (ι 12) (.acons (.lc (.nm 4) (.itR2 (.cst (.int 1)) (.bop .add (.var 2) (.cst (.int 1)))) .anil (.call (ι 9) (.acons (.ix (.var 0) (.var 4)) (.acons (.ix (.bor 1) (.bop .sub (.var 2) (.var 4))) .anil)))) .anil)))
   (.app 1 (.call (ι 11) (.acons (.call (ι 10) (.acons (.var 3) (.acons (.ix (.var 0) (.cst (.int 0))) .anil))) .anil)))))
  (.seq (.frz 1)
  (.ret (.var 1)))))⟩
abbrev dep_by_first : List Nat := [6, 7, 9, 10, 11, 12, 35]
abbrev i_peeled_in : Nat := 36
def d_peeled_in (ι : Nat → Nat) : Def := ⟨1, 3,
  (.seq (.asg (.nm 1) (.call (ι 35) (.acons (.var 0) .anil)))
  (.ret (.tup (.acons (.ix (.var 0) (.cst (.int 0))) (.acons (.call (ι 11) (.acons (.ix (.var 1) (.cst (.int 1))) .anil)) (.acons (.b1 .tuple (.lc (.nm 2) (.itS (.sl (.var 1) (.acons (.cst (.int 2)) .nop) .nop)) .anil (.call (ι 11) (.acons (.var 2) .anil)))) .anil))))))⟩
abbrev dep_peeled_in : List Nat := [6, 7, 9, 10, 11, 12, 35, 36]
abbrev i_steps_by_peeling : Nat := 37
def d_steps_by_peeling (ι : Nat → Nat) : Def := ⟨1, 8,
  (.seq (.expr (.call (ι 20) (.acons (.var 0) .anil)))
  (.seq (.ifs (.cmp .eq (.bop .mod (.b1 .len (.var 0)) (.cst (.int 2))) (.cst (.int 1)))
   .fail
   .skip)
  (.seq (.expr (.call (ι 27) (.acons (.var 0) (.acons (.bop .fdiv (.b1 .len (.var 0)) (.cst (.int 2))) .anil))))
  (.seq (.par [(1, true), (2, true), (3, false)] (.acons (.lst .anil) (.acons (.lst .anil) (.acons (.var 0) .anil))))
  (.seq (.forS (.nm 4) (.itR1 (.bop .fdiv (.b1 .len (.var 0)) (.cst (.int 2))))
   (.seq (.asg (.acons (.nm 5) (.acons (.nm 6) (.acons (.nm 7) .anil))) (.call (ι 36) (.acons (.var 3) .anil)))
   (.seq (.app 1 (.var 6))
   (.seq (.ifs (.cmp .ne (.var 7) (.tup .anil))
    (.app 2 (.ix (.var 7) (.cst (.int 0))))
    .skip)
   (.asg (.nm 3) (.var 7))))))
  (.ret (.tup (.acons (.ix (.var 0) (.cst (.int 0))) (.acons (.tup (.acons (.b1 .tuple (.bor 1)) (.acons (.b1 .tuple (.bor 2)) .anil))) .anil)))))))))⟩
abbrev dep_steps_by_peeling : List Nat := [0, 3, 4, 6, 7, 8, 9, 10, 11, 12, 19, 20, 24, 25, 26, 27, 35, 36, 37]
abbrev i_behind : Nat := 38
def d_behind (ι : Nat → Nat) : Def := ⟨4, 5,
  (.seq (.asg (.nm 4) (.call (ι 16) (.acons (.var 0) (.acons (.call (ι 17) (.acons (.call (ι 15) (.acons (.var 0) (.acons (.var 2) .anil))) (.acons (.cst (.int 1)) .anil))) .anil))))
  (.ret (.call (ι 16) (.acons (.var 4) (.acons (.call (ι 17) (.acons (.call (ι 15) (.acons (.var 1) (.acons (.var 3) .anil))) (.acons (.cst (.int 2)) .anil))) .anil)))))⟩
abbrev dep_behind : List Nat := [6, 8, 9, 13, 14, 15, 16, 17, 38]
abbrev i_quotients_in : Nat := 39
def d_quotients_in (ι : Nat → Nat) : Def := ⟨2, 9,
  (.seq (.asg (.acons (.nm 2) (.acons (.nm 3) .anil)) (.var 1))
  (.seq (.asgO 4 (.lst (.acons (.tup (.acons (.tup .anil) (.acons (.tup (.acons (.cst (.tuple [(.int 1), (.int 1)])) .anil)) .anil))) (.acons (.tup (.acons (.call (ι 13) (.acons (.tup (.acons (.var 0) .anil)) .anil)) (.acons (.call (ι 13) (.acons (.tup (.acons (.cst (.tuple [(.int 1), (.int 1)])) (.acons (.call (ι 11) (.acons (.ix (.var 2) (.cst (.int 0))) .anil)) .anil))) .anil)) .anil))) .anil))))
  (.seq (.forS (.nm 5) (.itR2 (.cst (.int 1)) (.b1 .len (.var 2)))
   (.seq (.par [(6, false), (7, false)] (.acons (.ix (.bor 4) (.neg (.cst (.int 1)))) (.acons (.ix (.bor 4) (.neg (.cst (.int 2)))) .anil)))
   (.app 4 (.b1 .tuple (.lc (.nm 8) (.itS (.tup (.acons (.cst (.int 0)) (.acons (.cst (.int 1)) .anil)))) .anil (.call (ι 38) (.acons (.ix (.var 6) (.var 8)) (.acons (.ix (.var 7) (.var 8)) (.acons (.ix (.var 2) (.var 5)) (.acons (.ix (.var 3) (.bop .sub (.var 5) (.cst (.int 1)))) .anil))))))))))
  (.seq (.frz 4)
  (.ret (.var 4))))))⟩
abbrev dep_quotients_in : List Nat := [6, 8, 9, 11, 13, 14, 15, 16, 17, 38, 39]
abbrev i_need_both : Nat := 40
def d_need_both (ι : Nat → Nat) : Def := ⟨2, 2,
  (.seq (.expr (.call (ι 5) (.acons (.var 0) .anil)))
  (.expr (.call (ι 22) (.acons (.var 1) .anil))))⟩
abbrev dep_need_both : List Nat := [0, 3, 4, 5, 21, 22, 40]
abbrev i_step_quotient : Nat := 41
def d_step_quotient (ι : Nat → Nat) : Def := ⟨3, 3,
  (.seq (.expr (.call (ι 40) (.acons (.var 0) (.acons (.var 1) .anil))))
  (.seq (.expr (.call (ι 2) (.acons (.var 2) (.acons (.cst (.int 0)) (.acons (.b1 .len (.ix (.var 1) (.cst (.int 0)))) .anil)))))
  (.ret (.ix (.call (ι 39) (.acons (.var 0) (.acons (.var 1) .anil))) (.var 2)))))⟩
abbrev dep_step_quotient : List Nat := [0, 1, 2, 3, 4, 5, 6, 8, 9, 11, 13, 14, 15, 16, 17, 21, 22, 38, 39, 40, 41]
abbrev i_longs_in : Nat := 42
def d_longs_in (ι : Nat → Nat) : Def := ⟨1, 9,
  (.seq (.par [(1, true), (2, true), (3, false)] (.acons (.lst .anil) (.acons (.lst .anil) (.acons (.b1 .list (.var 0)) .anil))))
  (.seq (.whl (.cmp .ne (.var 3) (.lst .anil))
   (.seq (.asg (.nm 4) (.lc (.nm 7) (.itR1 (.b1 .len (.var 3))) (.acons (.cmp .ne (.ix (.ix (.var 3) (.var 7)) (.cst (.int 0))) (.cst (.int 0))) .anil) (.var 7)))
   (.seq (.ifs (.cmp .eq (.var 4) (.lst .anil))
    (.ret (.tup (.acons (.tup (.acons (.b1 .tuple (.bor 1)) (.acons (.b1 .tuple (.bor 2)) .anil))) (.acons (.cst .none) .anil))))
    .skip)
   (.seq (.asg (.nm 5) (.bop .add (.ix (.var 4) (.cst (.int 0))) (.cst (.int 1))))
   (.seq (.ifs (.cmp .gt (.bop .mul (.cst (.int 2)) (.var 5)) (.b1 .len (.var 3)))
    (.ret (.tup (.acons (.tup (.acons (.b1 .tuple (.bor 1)) (.acons (.b1 .tuple (.bor 2)) .anil))) (.acons (.var 5) .anil))))
    .skip)
   (.seq (.asg (.nm 6) (.call (ι 35) (.acons (.sl (.var 3) (.acons (.ix (.var 4) (.cst (.int 0))) .nop) .nop) .anil)))
   (.seq (.app 1 (.call (ι 13) (.acons (.rev (.sl (.var 6) .nop (.acons (.bop .add (.var 5) (.cst (.int 1))) .nop))) .anil)))
   (.seq (.app 2 (.ix (.var 3) (.ix (.var 4) (.cst (.int 0)))))
   (.asg (.nm 3) (.lc (.nm 8) (.itS (.sl (.var 6) (.acons (.bop .add (.var 5) (.cst (.int 1))) .nop) .nop)) .anil (.call (ι 11) (.acons (.var 8) .anil))))))))))))
  (.ret (.tup (.acons (.tup (.acons (.b1 .tuple (.bor 1)) (.acons (.b1 .tuple (.bor 2)) .anil))) (.acons (.cst .none) .anil))))))⟩
abbrev dep_longs_in : List Nat := [6, 7, 9, 10, 11, 12, 13, 35, 42]
abbrev i_long_steps_of : Nat := 43
def d_long_steps_of (ι : Nat → Nat) : Def := ⟨1, 1,
  (.seq (.expr (.call (ι 20) (.acons (.var 0) .anil)))
  (.ret (.ix (.call (ι 42) (.acons (.var 0) .anil)) (.cst (.int 0)))))⟩
abbrev dep_long_steps_of : List Nat := [0, 3, 4, 6, 7, 9, 10, 11, 12, 13, 19, 20, 35, 42, 43]
abbrev i_need_depth : Nat := 44
def d_need_depth (ι : Nat → Nat) : Def := ⟨3, 3,
  (.seq (.expr (.call (ι 22) (.acons (.var 0) .anil)))
  (.expr (.call (ι 2) (.acons (.var 1) (.acons (.cst (.int 0)) (.acons (.bop .sub (.b1 .len (.ix (.var 0) (.cst (.int 0)))) (.var 2)) .anil))))))⟩
abbrev dep_need_depth : List Nat := [0, 1, 2, 3, 4, 21, 22, 44]
abbrev i_ruled : Nat := 45
def d_ruled (ι : Nat → Nat) : Def := ⟨2, 2,
  (.seq (.expr (.call (ι 44) (.acons (.var 0) (.acons (.var 1) (.acons (.cst (.int 0)) .anil)))))
  (.ret (.ix (.call (ι 29) (.acons (.var 0) (.acons (.var 1) .anil))) (.var 1))))⟩
abbrev dep_ruled : List Nat := [0, 1, 2, 3, 4, 6, 8, 9, 13, 14, 15, 16, 17, 21, 22, 29, 44, 45]
abbrev i_reduced : Nat := 46
def d_reduced (ι : Nat → Nat) : Def := ⟨1, 10,
  (.seq (.frz 0)
  (.seq (.par [(0, true), (1, true)] (.acons (.lc (.nm 7) (.itS (.var 0)) .anil (.b1 .list (.var 7))) (.acons (.lst .anil) .anil)))
  (.seq (.forS (.nm 2) (.itR1 (.ite (.cmp .ne (.bor 0) (.lst .anil)) (.b1 .len (.ix (.bor 0) (.cst (.int 0)))) (.cst (.int 0))))
   (.seq (.asg (.nm 3) (.lc (.nm 5) (.itR2 (.b1 .len (.bor 1)) (.b1 .len (.bor 0))) (.acons (.cmp .ne (.ix (.ix (.ix (.bor 0) (.var 5)) (.var 2)) (.cst (.int 0))) (.cst (.int 0))) .anil) (.var 5)))
   (.ifs (.cmp .ne (.var 3) (.lst .anil))
    (.seq (.asg (.nm 4) (.b1 .len (.bor 1)))
    (.seq (.swp 0 (.var 4) (.ix (.var 3) (.cst (.int 0))) (.ix (.bor 0) (.ix (.var 3) (.cst (.int 0)))) (.ix (.bor 0) (.var 4)))
    (.seq (.seti 0 (.var 4) (.lc (.nm 8) (.itS (.ix (.bor 0) (.var 4))) .anil (.call (ι 10) (.acons (.var 8) (.acons (.ix (.ix (.bor 0) (.var 4)) (.var 2)) .anil)))))
    (.seq (.forS (.nm 5) (.itR1 (.b1 .len (.bor 0)))
     (.seq (.asg (.nm 6) (.ix (.ix (.bor 0) (.var 5)) (.var 2)))
     (.ifs (.band (.cmp .ne (.var 5) (.var 4)) (.cmp .ne (.ix (.var 6) (.cst (.int 0))) (.cst (.int 0))))
      (.seti 0 (.var 5) (.lc (.acons (.nm 8) (.acons (.nm 9) .anil)) (.itZ (.ix (.bor 0) (.var 5)) (.ix (.bor 0) (.var 4))) .anil (.call (ι 8) (.acons (.var 8) (.acons (.call (ι 9) (.acons (.var 6) (.acons (.var 9) .anil))) .anil)))))
      .skip)))
    (.app 1 (.var 2))))))
    .skip)))
  (.seq (.frz 0)
  (.seq (.frz 1)
  (.ret (.tup (.acons (.var 0) (.acons (.var 1) .anil)))))))))⟩
abbrev dep_reduced : List Nat := [6, 8, 9, 10, 46]
abbrev i_upright_in : Nat := 47
def d_upright_in (ι : Nat → Nat) : Def := ⟨2, 6,
  (.seq (.asg (.nm 2) (.lc (.nm 4) (.itR1 (.var 1)) .anil (.bop .add (.sl (.var 0) (.acons (.var 4) .nop) (.acons (.bop .add (.var 4) (.var 1)) .nop)) (.tup (.acons (.call (ι 11) (.acons (.ix (.var 0) (.bop .add (.var 4) (.var 1))) .anil)) .anil)))))
  (.seq (.asg (.acons (.nm 2) (.acons (.nm 3) .anil)) (.call (ι 46) (.acons (.var 2) .anil)))
  (.ret (.ite (.cmp .eq (.var 3) (.lr (.var 1))) (.bop .add (.b1 .tuple (.lc (.nm 5) (.itS (.var 2)) .anil (.ix (.var 5) (.var 1)))) (.tup (.acons (.cst (.tuple [(.int 1), (.int 1)])) .anil))) (.cst .none)))))⟩
abbrev dep_upright_in : List Nat := [6, 8, 9, 10, 11, 46, 47]
abbrev i_need_many : Nat := 48
def d_need_many (ι : Nat → Nat) : Def := ⟨2, 2,
  (.ifs (.cmp .lt (.b1 .len (.var 0)) (.var 1))
   .fail
   .skip)⟩
abbrev dep_need_many : List Nat := [48]
abbrev i_need_upright : Nat := 49
def d_need_upright (ι : Nat → Nat) : Def := ⟨2, 3,
  (.seq (.expr (.call (ι 20) (.acons (.var 0) .anil)))
  (.seq (.expr (.call (ι 2) (.acons (.var 1) (.acons (.cst (.int 0)) (.acons (.cst (.int 12)) .anil)))))
  (.seq (.expr (.call (ι 48) (.acons (.var 0) (.acons (.bop .mul (.cst (.int 2)) (.var 1)) .anil))))
  (.seq (.asg (.nm 2) (.call (ι 47) (.acons (.var 0) (.acons (.var 1) .anil))))
  (.seq (.ifs (.cmp .isN (.var 2) (.cst .none))
   .fail
   .skip)
  (.ret (.var 2)))))))⟩
abbrev dep_need_upright : List Nat := [0, 1, 2, 3, 4, 6, 8, 9, 10, 11, 19, 20, 46, 47, 48, 49]
abbrev i_upright_of : Nat := 50
def d_upright_of (ι : Nat → Nat) : Def := ⟨2, 2,
  (.ret (.call (ι 49) (.acons (.var 0) (.acons (.var 1) .anil))))⟩
abbrev dep_upright_of : List Nat := [0, 1, 2, 3, 4, 6, 8, 9, 10, 11, 19, 20, 46, 47, 48, 49, 50]
abbrev i_has_table : Nat := 51
def d_has_table (ι : Nat → Nat) : Def := ⟨3, 3,
  (.ret (.borr (.cmp .eq (.var 2) (.cst (.int 0))) (.cmp .le (.bop .sub (.bop .add (.var 1) (.bop .mul (.cst (.int 2)) (.var 2))) (.cst (.int 1))) (.b1 .len (.var 0)))))⟩
abbrev dep_has_table : List Nat := [51]
abbrev i_all_determinants : Nat := 52
def d_all_determinants (ι : Nat → Nat) : Def := ⟨2, 4,
  (.seq (.expr (.call (ι 20) (.acons (.var 0) .anil)))
  (.seq (.expr (.call (ι 2) (.acons (.var 1) (.acons (.cst (.int 0)) (.acons (.cst (.int 23)) .anil)))))
  (.seq (.asgO 2 (.lst (.acons (.cst (.tuple [(.int 1), (.int 1)])) .anil)))
  (.seq (.forS (.nm 3) (.itR2 (.cst (.int 1)) (.bop .add (.cst (.int 12)) (.cst (.int 1))))
   (.ifs (.call (ι 51) (.acons (.var 0) (.acons (.var 1) (.acons (.var 3) .anil))))
    (.app 2 (.call (ι 24) (.acons (.call (ι 25) (.acons (.var 0) (.acons (.var 3) (.acons (.var 1) .anil)))) .anil)))
    .skip))
  (.ret (.b1 .tuple (.bor 2)))))))⟩
abbrev dep_all_determinants : List Nat := [0, 1, 2, 3, 4, 6, 8, 9, 10, 11, 19, 20, 24, 25, 51, 52]
abbrev i_told_in : Nat := 53
def d_told_in (ι : Nat → Nat) : Def := ⟨2, 5,
  (.seq (.asg (.nm 2) (.cst (.tuple [(.int 0), (.int 1)])))
  (.seq (.forS (.acons (.nm 3) (.acons (.nm 4) .anil)) (.itZ (.var 0) (.rev (.var 1)))
   (.asg (.nm 2) (.call (ι 7) (.acons (.var 2) (.acons (.call (ι 9) (.acons (.var 3) (.acons (.var 4) .anil))) .anil)))))
  (.ret (.var 2))))⟩
abbrev dep_told_in : List Nat := [6, 7, 9, 53]
abbrev i_grown_in : Nat := 54
def d_grown_in (ι : Nat → Nat) : Def := ⟨1, 16,
  (.seq (.par [(1, false), (2, false), (3, false), (4, false)] (.acons (.tup .anil) (.acons (.tup .anil) (.acons (.cst (.tuple [(.int 1), (.int 1)])) (.acons (.cst (.int 1)) .anil)))))
  (.seq (.asgO 5 (.lst (.acons (.var 1) .anil)))
  (.seq (.forS (.acons (.nm 6) (.acons (.nm 7) .anil)) (.itE (.var 0))
   (.seq (.asg (.nm 8) (.call (ι 8) (.acons (.var 7) (.acons (.call (ι 53) (.acons (.var 1) (.acons (.sl (.var 0) .nop (.acons (.var 6) .nop)) .anil))) .anil))))
   (.seq (.ifs (.cmp .eq (.ix (.var 8) (.cst (.int 0))) (.cst (.int 0)))
    (.asg (.nm 4) (.bop .add (.var 4) (.cst (.int 1))))
    (.seq (.par [(9, false), (10, false)] (.acons (.call (ι 10) (.acons (.var 8) (.acons (.var 3) .anil))) (.acons (.b2 .max (.b1 .len (.var 1)) (.bop .sub (.bop .add (.var 6) (.cst (.int 1))) (.b1 .len (.var 1)))) .anil)))
    (.seq (.asg (.nm 11) (.bop .add (.bop .add (.bop .mul (.tup (.acons (.cst (.tuple [(.int 0), (.int 1)])) .anil)) (.bop .sub (.var 4) (.cst (.int 1)))) (.tup (.acons (.var 9) .anil))) (.b1 .tuple (.lc (.nm 7) (.itS (.var 2)) .anil (.call (ι 9) (.acons (.call (ι 11) (.acons (.var 9) .anil)) (.acons (.var 7) .anil)))))))
    (.seq (.asg (.nm 12) (.bop .add (.var 1) (.bop .mul (.tup (.acons (.cst (.tuple [(.int 0), (.int 1)])) .anil)) (.bop .sub (.var 10) (.b1 .len (.var 1))))))
    (.seq (.asg (.nm 13) (.b1 .tuple (.lc (.acons (.nm 14) (.acons (.nm 15) .anil)) (.itZ (.var 12) (.bop .add (.var 11) (.bop .mul (.tup (.acons (.cst (.tuple [(.int 0), (.int 1)])) .anil)) (.bop .sub (.var 10) (.b1 .len (.var 11)))))) .anil (.call (ι 7) (.acons (.var 14) (.acons (.var 15) .anil))))))
    (.seq (.ifs (.cmp .gt (.var 10) (.b1 .len (.var 1)))
     (.par [(2, false), (3, false), (4, false)] (.acons (.var 1) (.acons (.var 8) (.acons (.cst (.int 1)) .anil))))
     (.asg (.nm 4) (.bop .add (.var 4) (.cst (.int 1)))))
    (.asg (.nm 1) (.var 13))))))))
   (.app 5 (.var 1)))))
  (.seq (.frz 5)
  (.ret (.var 5))))))⟩
abbrev dep_grown_in : List Nat := [6, 7, 8, 9, 10, 11, 53, 54]
abbrev i_least_in : Nat := 55
def d_least_in (ι : Nat → Nat) : Def := ⟨1, 1,
  (.ret (.ix (.call (ι 54) (.acons (.var 0) .anil)) (.neg (.cst (.int 1)))))⟩
abbrev dep_least_in : List Nat := [6, 7, 8, 9, 10, 11, 53, 54, 55]
abbrev i_rule_length : Nat := 56
def d_rule_length (ι : Nat → Nat) : Def := ⟨1, 1,
  (.seq (.expr (.call (ι 20) (.acons (.var 0) .anil)))
  (.ret (.b1 .len (.call (ι 55) (.acons (.var 0) .anil)))))⟩
abbrev dep_rule_length : List Nat := [0, 3, 4, 6, 7, 8, 9, 10, 11, 19, 20, 53, 54, 55, 56]
abbrev i_led_to : Nat := 57
def d_led_to (ι : Nat → Nat) : Def := ⟨4, 5,
  (.seq (.asg (.nm 4) (.ite (.chn .lt .le (.cst (.int 0)) (.var 3) (.b1 .len (.var 1))) (.ix (.var 0) (.bop .sub (.var 3) (.cst (.int 1)))) (.cst (.tuple [(.int 0), (.int 1)]))))
  (.seq (.ifs (.cmp .lt (.var 3) (.b1 .len (.var 1)))
   (.asg (.nm 4) (.call (ι 7) (.acons (.var 4) (.acons (.call (ι 9) (.acons (.ix (.var 0) (.var 3)) (.acons (.ix (.var 1) (.var 3)) .anil))) .anil))))
   .skip)
  (.seq (.ifs (.band (.cmp .lt (.var 3) (.b1 .len (.var 2))) (.cmp .lt (.bop .add (.var 3) (.cst (.int 1))) (.b1 .len (.var 0))))
   (.asg (.nm 4) (.call (ι 7) (.acons (.var 4) (.acons (.call (ι 9) (.acons (.ix (.var 0) (.bop .add (.var 3) (.cst (.int 1)))) (.acons (.ix (.var 2) (.var 3)) .anil))) .anil))))
   .skip)
  (.ret (.var 4)))))⟩
abbrev dep_led_to : List Nat := [6, 7, 9, 57]
abbrev i_triangle_in : Nat := 58
def d_triangle_in (ι : Nat → Nat) : Def := ⟨2, 8,
  (.seq (.asg (.acons (.nm 2) (.acons (.nm 3) .anil)) (.var 0))
  (.seq (.par [(4, false), (5, true)] (.acons (.bop .add (.tup (.acons (.cst (.tuple [(.int 1), (.int 1)])) .anil)) (.bop .mul (.tup (.acons (.cst (.tuple [(.int 0), (.int 1)])) .anil)) (.bop .sub (.var 1) (.cst (.int 1))))) (.acons (.lst .anil) .anil)))
  (.seq (.forS (.nm 6) (.itR1 (.var 1))
   (.seq (.app 5 (.var 4))
   (.asg (.nm 4) (.b1 .tuple (.lc (.nm 7) (.itR1 (.var 1)) .anil (.call (ι 57) (.acons (.var 4) (.acons (.var 2) (.acons (.var 3) (.acons (.var 7) .anil))))))))))
  (.ret (.b1 .tuple (.bor 5))))))⟩
abbrev dep_triangle_in : List Nat := [6, 7, 9, 57, 58]
abbrev i_unit_in : Nat := 59
def d_unit_in (ι : Nat → Nat) : Def := ⟨1, 3,
  (.ret (.b1 .tuple (.lc (.nm 2) (.itR1 (.var 0)) .anil (.b1 .tuple (.lc (.nm 1) (.itR1 (.var 0)) .anil (.ite (.cmp .eq (.var 1) (.var 2)) (.cst (.tuple [(.int 1), (.int 1)])) (.cst (.tuple [(.int 0), (.int 1)]))))))))⟩
abbrev dep_unit_in : List Nat := [59]
abbrev i_cut_in : Nat := 60
def d_cut_in (ι : Nat → Nat) : Def := ⟨1, 11,
  (.seq (.par [(1, true), (2, true)] (.acons (.lc (.nm 8) (.itS (.var 0)) .anil (.b1 .list (.var 8))) (.acons (.lc (.nm 8) (.itS (.call (ι 59) (.acons (.b1 .len (.var 0)) .anil))) .anil (.mkb (.var 8))) .anil)))
  (.seq (.forS (.nm 3) (.itR1 (.b1 .len (.bor 1)))
   (.seq (.ifs (.cmp .eq (.ix (.ix (.ix (.bor 1) (.var 3)) (.var 3)) (.cst (.int 0))) (.cst (.int 0)))
    (.ret (.cst .none))
    .skip)
   (.forS (.nm 4) (.itR2 (.bop .add (.var 3) (.cst (.int 1))) (.b1 .len (.bor 1)))
    (.seq (.asg (.nm 5) (.call (ι 10) (.acons (.ix (.ix (.bor 1) (.var 4)) (.var 3)) (.acons (.ix (.ix (.bor 1) (.var 3)) (.var 3)) .anil))))
    (.seq (.setl (.ix (.bor 2) (.var 4)) (.var 3) (.var 5))
    (.seti 1 (.var 4) (.lc (.acons (.nm 9) (.acons (.nm 10) .anil)) (.itZ (.ix (.bor 1) (.var 4)) (.ix (.bor 1) (.var 3))) .anil (.call (ι 8) (.acons (.var 9) (.acons (.call (ι 9) (.acons (.var 5) (.acons (.var 10) .anil))) .anil))))))))))
  (.seq (.asg (.nm 6) (.b1 .tuple (.lc (.nm 3) (.itR1 (.b1 .len (.bor 1))) .anil (.ix (.ix (.bor 1) (.var 3)) (.var 3)))))
  (.seq (.asg (.nm 7) (.b1 .tuple (.lc (.nm 3) (.itR1 (.b1 .len (.bor 1))) .anil (.b1 .tuple (.lc (.nm 9) (.itS (.ix (.bor 1) (.var 3))) .anil (.call (ι 10) (.acons (.var 9) (.acons (.ix (.ix (.bor 1) (.var 3)) (.var 3)) .anil))))))))
  (.seq (.frz 2)
  (.ret (.tup (.acons (.b1 .tuple (.lc (.nm 8) (.itS (.var 2)) .anil (.tl (.var 8)))) (.acons (.var 6) (.acons (.var 7) .anil))))))))))⟩
abbrev dep_cut_in : List Nat := [6, 8, 9, 10, 59, 60]
abbrev i_need_levels : Nat := 61
def d_need_levels (ι : Nat → Nat) : Def := ⟨2, 2,
  (.seq (.expr (.call (ι 20) (.acons (.var 0) .anil)))
  (.seq (.expr (.call (ι 2) (.acons (.var 1) (.acons (.cst (.int 1)) (.acons (.cst (.int 12)) .anil)))))
  (.expr (.call (ι 27) (.acons (.var 0) (.acons (.var 1) .anil))))))⟩
abbrev dep_need_levels : List Nat := [0, 1, 2, 3, 4, 6, 8, 9, 10, 11, 19, 20, 24, 25, 26, 27, 61]
abbrev i_triangle_of_row : Nat := 62
def d_triangle_of_row (ι : Nat → Nat) : Def := ⟨2, 2,
  (.seq (.expr (.call (ι 61) (.acons (.var 0) (.acons (.var 1) .anil))))
  (.ret (.call (ι 58) (.acons (.call (ι 30) (.acons (.var 0) (.acons (.var 1) .anil))) (.acons (.var 1) .anil)))))⟩
abbrev dep_triangle_of_row : List Nat := [0, 1, 2, 3, 4, 6, 7, 8, 9, 10, 11, 12, 13, 14, 15, 16, 17, 18, 19, 20, 23, 24, 25, 26, 27, 30, 57, 58, 61, 62]
abbrev i_middle_of_row : Nat := 63
def d_middle_of_row (ι : Nat → Nat) : Def := ⟨2, 2,
  (.seq (.expr (.call (ι 61) (.acons (.var 0) (.acons (.var 1) .anil))))
  (.ret (.ix (.call (ι 60) (.acons (.call (ι 25) (.acons (.var 0) (.acons (.var 1) (.acons (.cst (.int 0)) .anil)))) .anil)) (.cst (.int 1)))))⟩
abbrev dep_middle_of_row : List Nat := [0, 1, 2, 3, 4, 6, 8, 9, 10, 11, 19, 20, 24, 25, 26, 27, 59, 60, 61, 63]
abbrev i__law_cup : Nat := 64
def d__law_cup (ι : Nat → Nat) : Def := ⟨1, 2,
  (.seq (.asg (.nm 1) (.b1 .abs (.ix (.bop .add (.b1 .list (.var 0)) (.lst (.acons (.cst (.int 0)) .anil))) (.cst (.int 0)))))
  (.ret (.mkl (.acons (.ite (.cmp .ge (.var 1) (.bop .pow (.cst (.int 10)) (.cst (.int 18)))) (.bop .fdiv (.var 1) (.cst (.int 89))) (.cst (.int 0))) (.acons (.bop .add (.bop .mod (.b1 .int (.bop .add (.bop .add (.bop .mul (.var 1) (.cst (.int 307))) (.cst (.int 3907))) (.bop .mul (.cst (.int 97)) (.cst (.int 91))))) (.cst (.int 2077503217))) (.cst (.int 179))) .anil)))))⟩
abbrev dep__law_cup : List Nat := [64]
abbrev i__law_roll : Nat := 65
def d__law_roll (ι : Nat → Nat) : Def := ⟨2, 4,
  (.seq (.ifs (.cmp .gt (.ix (.var 0) (.cst (.int 0))) (.cst (.int 0)))
   (.seq (.asg (.nm 2) (.bop .mod (.b1 .int (.ix (.var 0) (.cst (.int 0)))) (.var 1)))
   (.seq (.seti 0 (.cst (.int 0)) (.bop .fdiv (.ix (.var 0) (.cst (.int 0))) (.var 1)))
   (.ret (.var 2))))
   .skip)
  (.seq (.seti 0 (.cst (.int 1)) (.bop .mod (.b1 .int (.bop .add (.bop .mul (.ix (.var 0) (.cst (.int 1))) (.cst (.int 31013))) (.cst (.int 8017)))) (.cst (.int 2147483563))))
  (.seq (.asg (.nm 3) (.bop .mod (.b1 .int (.bop .mul (.ix (.var 0) (.cst (.int 1))) (.bop .add (.ix (.var 0) (.cst (.int 1))) (.cst (.int 239))))) (.cst (.int 2147483579))))
  (.ret (.bop .mod (.b1 .int (.bop .fdiv (.var 3) (.cst (.int 829)))) (.var 1))))))⟩
abbrev dep__law_roll : List Nat := [65]
abbrev i__law_some : Nat := 66
def d__law_some (ι : Nat → Nat) : Def := ⟨2, 2,
  (.ret (.ix (.var 1) (.call (ι 65) (.acons (.var 0) (.acons (.b1 .len (.var 1)) .anil)))))⟩
abbrev dep__law_some : List Nat := [65, 66]
abbrev i__law_sort : Nat := 67
def d__law_sort (ι : Nat → Nat) : Def := ⟨1, 1,
  (.seq (.ifs (.borr (.cmp .isN (.var 0) (.cst .none)) (.b1 .isBool (.var 0)))
   (.ret (.ite (.cmp .isN (.var 0) (.cst .none)) (.cst (.int 0)) (.cst (.int 1))))
   .skip)
  (.seq (.ifs (.borr (.b1 .isInt (.var 0)) (.b1 .isStr (.var 0)))
   (.ret (.ite (.b1 .isInt (.var 0)) (.cst (.int 2)) (.cst (.int 3))))
   .skip)
  (.ret (.ite (.b1 .isTup (.var 0)) (.cst (.int 4)) (.ite (.b1 .isLst (.var 0)) (.cst (.int 5)) (.cst (.int 6)))))))⟩
abbrev dep__law_sort : List Nat := [67]
abbrev i__law_like : Nat := 68
def d__law_like (ι : Nat → Nat) : Def := ⟨2, 5,
  (.seq (.asg (.nm 2) (.call (ι 67) (.acons (.var 1) .anil)))
  (.seq (.ifs (.borr (.cmp .ne (.call (ι 67) (.acons (.var 0) .anil)) (.var 2)) (.cmp .eq (.var 2) (.cst (.int 6))))
   (.ret (.cst (.bool false)))
   .skip)
  (.seq (.ifs (.cmp .inn (.var 2) (.tup (.acons (.cst (.int 4)) (.acons (.cst (.int 5)) .anil))))
   (.ret (.band (.cmp .eq (.b1 .len (.var 0)) (.b1 .len (.var 1))) (.cmp .eq (.lc (.acons (.nm 3) (.acons (.nm 4) .anil)) (.itZ (.var 0) (.var 1)) (.acons (.notv (.call (ι 68) (.acons (.var 3) (.acons (.var 4) .anil)))) .anil) (.cst (.int 1))) (.lst .anil))))
   .skip)
  (.ret (.cmp .eq (.var 0) (.var 1))))))⟩
abbrev dep__law_like : List Nat := [67, 68]
abbrev i__law_shared : Nat := 69
def d__law_shared (ι : Nat → Nat) : Def := ⟨2, 3,
  (.seq (.par [(0, false), (1, false)] (.acons (.b1 .abs (.var 0)) (.acons (.b1 .abs (.var 1)) .anil)))
  (.seq (.forS (.nm 2) (.itR1 (.cst (.int 9000)))
   (.seq (.ifs (.cmp .eq (.var 1) (.cst (.int 0)))
    (.ret (.var 0))
    .skip)
   (.par [(0, false), (1, false)] (.acons (.var 1) (.acons (.bop .mod (.b1 .int (.var 0)) (.var 1)) .anil)))))
  (.ret (.cst (.int 1)))))⟩
abbrev dep__law_shared : List Nat := [69]
abbrev i__law_lowest : Nat := 70
def d__law_lowest (ι : Nat → Nat) : Def := ⟨2, 3,
  (.seq (.asg (.nm 2) (.ite (.cmp .gt (.var 1) (.cst (.int 0))) (.call (ι 69) (.acons (.var 0) (.acons (.var 1) .anil))) (.neg (.call (ι 69) (.acons (.var 0) (.acons (.var 1) .anil))))))
  (.ret (.tup (.acons (.bop .fdiv (.var 0) (.var 2)) (.acons (.bop .fdiv (.var 1) (.var 2)) .anil)))))⟩
abbrev dep__law_lowest : List Nat := [69, 70]
abbrev i__law_plus : Nat := 71
def d__law_plus (ι : Nat → Nat) : Def := ⟨2, 2,
  (.ret (.call (ι 70) (.acons (.bop .add (.bop .mul (.ix (.var 0) (.cst (.int 0))) (.ix (.var 1) (.cst (.int 1)))) (.bop .mul (.ix (.var 1) (.cst (.int 0))) (.ix (.var 0) (.cst (.int 1))))) (.acons (.bop .mul (.ix (.var 0) (.cst (.int 1))) (.ix (.var 1) (.cst (.int 1)))) .anil))))⟩
abbrev dep__law_plus : List Nat := [69, 70, 71]
abbrev i__law_times : Nat := 72
def d__law_times (ι : Nat → Nat) : Def := ⟨2, 2,
  (.ret (.call (ι 70) (.acons (.bop .mul (.ix (.var 0) (.cst (.int 0))) (.ix (.var 1) (.cst (.int 0)))) (.acons (.bop .mul (.ix (.var 0) (.cst (.int 1))) (.ix (.var 1) (.cst (.int 1)))) .anil))))⟩
abbrev dep__law_times : List Nat := [69, 70, 72]
abbrev i__law_less : Nat := 73
def d__law_less (ι : Nat → Nat) : Def := ⟨2, 2,
  (.ret (.call (ι 70) (.acons (.bop .sub (.bop .mul (.ix (.var 0) (.cst (.int 0))) (.ix (.var 1) (.cst (.int 1)))) (.bop .mul (.ix (.var 1) (.cst (.int 0))) (.ix (.var 0) (.cst (.int 1))))) (.acons (.bop .mul (.ix (.var 0) (.cst (.int 1))) (.ix (.var 1) (.cst (.int 1)))) .anil))))⟩
abbrev dep__law_less : List Nat := [69, 70, 73]
abbrev i__law_over : Nat := 74
def d__law_over (ι : Nat → Nat) : Def := ⟨2, 2,
  (.ret (.call (ι 70) (.acons (.bop .mul (.ix (.var 0) (.cst (.int 0))) (.ix (.var 1) (.cst (.int 1)))) (.acons (.bop .mul (.ix (.var 0) (.cst (.int 1))) (.ix (.var 1) (.cst (.int 0)))) .anil))))⟩
abbrev dep__law_over : List Nat := [69, 70, 74]
abbrev i__law_total : Nat := 75
def d__law_total (ι : Nat → Nat) : Def := ⟨1, 3,
  (.seq (.asg (.nm 1) (.tup (.acons (.cst (.int 0)) (.acons (.cst (.int 1)) .anil))))
  (.seq (.forS (.nm 2) (.itS (.var 0))
   (.asg (.nm 1) (.call (ι 71) (.acons (.var 1) (.acons (.var 2) .anil)))))
  (.ret (.var 1))))⟩
abbrev dep__law_total : List Nat := [69, 70, 71, 75]
abbrev i__law_fraction : Nat := 76
def d__law_fraction (ι : Nat → Nat) : Def := ⟨1, 1,
  (.ret (.call (ι 70) (.acons (.call (ι 66) (.acons (.var 0) (.acons (.lst (.acons (.cst (.int 0)) (.acons (.cst (.int 1)) (.acons (.cst (.int 1)) (.acons (.neg (.cst (.int 1))) (.acons (.cst (.int 2)) (.acons (.neg (.cst (.int 2))) (.acons (.cst (.int 3)) (.acons (.neg (.cst (.int 3))) (.acons (.cst (.int 5)) (.acons (.cst (.int 7)) .anil))))))))))) .anil))) (.acons (.call (ι 66) (.acons (.var 0) (.acons (.lst (.acons (.cst (.int 1)) (.acons (.cst (.int 1)) (.acons (.cst (.int 1)) (.acons (.cst (.int 2)) (.acons (.cst (.int 3)) (.acons (.cst (.int 4)) .anil))))))) .anil))) .anil))))⟩
abbrev dep__law_fraction : List Nat := [65, 66, 69, 70, 76]
abbrev i__law_down : Nat := 77
def d__law_down (ι : Nat → Nat) : Def := ⟨1, 1,
  (.ret (.call (ι 70) (.acons (.call (ι 66) (.acons (.var 0) (.acons (.lst (.acons (.cst (.int 1)) (.acons (.cst (.int 1)) (.acons (.cst (.int 1)) (.acons (.neg (.cst (.int 1))) (.acons (.cst (.int 2)) (.acons (.cst (.int 3)) (.acons (.neg (.cst (.int 2))) (.acons (.cst (.int 5)) .anil))))))))) .anil))) (.acons (.call (ι 66) (.acons (.var 0) (.acons (.lst (.acons (.cst (.int 1)) (.acons (.cst (.int 1)) (.acons (.cst (.int 2)) (.acons (.cst (.int 3)) .anil))))) .anil))) .anil))))⟩
abbrev dep__law_down : List Nat := [65, 66, 69, 70, 77]
abbrev i__law_steps : Nat := 78
def d__law_steps (ι : Nat → Nat) : Def := ⟨2, 3,
  (.ret (.tup (.acons (.b1 .tuple (.lc (.nm 2) (.itR1 (.var 1)) .anil (.call (ι 76) (.acons (.var 0) .anil)))) (.acons (.b1 .tuple (.lc (.nm 2) (.itR1 (.bop .sub (.var 1) (.cst (.int 1)))) .anil (.call (ι 77) (.acons (.var 0) .anil)))) .anil))))⟩
abbrev dep__law_steps : List Nat := [65, 66, 69, 70, 76, 77, 78]
abbrev i__law_lean : Nat := 79
def d__law_lean (ι : Nat → Nat) : Def := ⟨1, 4,
  (.seq (.asg (.nm 1) (.b1 .len (.lc (.nm 2) (.itR1 (.b1 .len (.var 0))) (.acons (.cmp .ne (.lc (.nm 3) (.itS (.sl (.var 0) (.acons (.var 2) .nop) .nop)) (.acons (.cmp .ne (.ix (.var 3) (.cst (.int 0))) (.cst (.int 0))) .anil) (.var 3)) (.lst .anil)) .anil) (.cst (.int 1)))))
  (.ret (.b1 .tuple (.sl (.var 0) .nop (.acons (.var 1) .nop)))))⟩
abbrev dep__law_lean : List Nat := [79]
abbrev i__law_sum : Nat := 80
def d__law_sum (ι : Nat → Nat) : Def := ⟨2, 7,
  (.seq (.asg (.nm 2) (.b2 .max (.b1 .len (.var 0)) (.b1 .len (.var 1))))
  (.seq (.par [(3, false), (4, false)] (.acons (.bop .add (.b1 .list (.var 0)) (.bop .mul (.lst (.acons (.tup (.acons (.cst (.int 0)) (.acons (.cst (.int 1)) .anil))) .anil)) (.bop .sub (.var 2) (.b1 .len (.var 0))))) (.acons (.bop .add (.b1 .list (.var 1)) (.bop .mul (.lst (.acons (.tup (.acons (.cst (.int 0)) (.acons (.cst (.int 1)) .anil))) .anil)) (.bop .sub (.var 2) (.b1 .len (.var 1))))) .anil)))
  (.ret (.call (ι 79) (.acons (.lc (.acons (.nm 5) (.acons (.nm 6) .anil)) (.itZ (.var 3) (.var 4)) .anil (.call (ι 71) (.acons (.var 5) (.acons (.var 6) .anil)))) .anil)))))⟩
abbrev dep__law_sum : List Nat := [69, 70, 71, 79, 80]
abbrev i__law_scaled : Nat := 81
def d__law_scaled (ι : Nat → Nat) : Def := ⟨2, 3,
  (.ret (.call (ι 79) (.acons (.lc (.nm 2) (.itS (.var 0)) .anil (.call (ι 72) (.acons (.var 2) (.acons (.var 1) .anil)))) .anil)))⟩
abbrev dep__law_scaled : List Nat := [69, 70, 72, 79, 81]
abbrev i__law_product : Nat := 82
def d__law_product (ι : Nat → Nat) : Def := ⟨2, 7,
  (.seq (.asgO 2 (.bop .mul (.lst (.acons (.tup (.acons (.cst (.int 0)) (.acons (.cst (.int 1)) .anil))) .anil)) (.bop .add (.b1 .len (.var 0)) (.b1 .len (.var 1)))))
  (.seq (.forS (.acons (.nm 3) (.acons (.nm 4) .anil)) (.itE (.var 0))
   (.forS (.acons (.nm 5) (.acons (.nm 6) .anil)) (.itE (.var 1))
    (.seti 2 (.bop .add (.var 3) (.var 5)) (.call (ι 71) (.acons (.ix (.bor 2) (.bop .add (.var 3) (.var 5))) (.acons (.call (ι 72) (.acons (.var 4) (.acons (.var 6) .anil))) .anil))))))
  (.seq (.frz 2)
  (.ret (.call (ι 79) (.acons (.var 2) .anil))))))⟩
abbrev dep__law_product : List Nat := [69, 70, 71, 72, 79, 82]
abbrev i__law_determinant : Nat := 83
def d__law_determinant (ι : Nat → Nat) : Def := ⟨1, 12,
  (.seq (.par [(1, false), (2, false)] (.acons (.lc (.nm 7) (.itS (.var 0)) .anil (.b1 .list (.var 7))) (.acons (.tup (.acons (.cst (.int 1)) (.acons (.cst (.int 1)) .anil))) .anil)))
  (.seq (.forS (.nm 3) (.itR1 (.b1 .len (.var 0)))
   (.seq (.asg (.nm 4) (.lc (.nm 9) (.itR1 (.b1 .len (.var 1))) (.acons (.cmp .ne (.ix (.ix (.ix (.var 1) (.var 9)) (.cst (.int 0))) (.cst (.int 0))) (.cst (.int 0))) .anil) (.var 9)))
   (.seq (.ifs (.cmp .eq (.var 4) (.lst .anil))
    (.ret (.tup (.acons (.cst (.int 0)) (.acons (.cst (.int 1)) .anil))))
    .skip)
   (.seq (.asg (.nm 5) (.ix (.var 1) (.ix (.var 4) (.cst (.int 0)))))
   (.seq (.asg (.nm 2) (.call (ι 72) (.acons (.var 2) (.acons (.ite (.cmp .eq (.bop .mod (.b1 .int (.ix (.var 4) (.cst (.int 0)))) (.cst (.int 2))) (.cst (.int 0))) (.ix (.var 5) (.cst (.int 0))) (.tup (.acons (.neg (.ix (.ix (.var 5) (.cst (.int 0))) (.cst (.int 0)))) (.acons (.ix (.ix (.var 5) (.cst (.int 0))) (.cst (.int 1))) .anil)))) .anil))))
   (.seq (.asgO 6 (.lst .anil))
   (.seq (.forS (.nm 7) (.itS (.bop .add (.sl (.var 1) .nop (.acons (.ix (.var 4) (.cst (.int 0))) .nop)) (.sl (.var 1) (.acons (.bop .add (.ix (.var 4) (.cst (.int 0))) (.cst (.int 1))) .nop) .nop)))
    (.seq (.asg (.nm 8) (.call (ι 74) (.acons (.ix (.var 7) (.cst (.int 0))) (.acons (.ix (.var 5) (.cst (.int 0))) .anil))))
    (.app 6 (.lc (.acons (.nm 10) (.acons (.nm 11) .anil)) (.itZ (.sl (.var 7) (.acons (.cst (.int 1)) .nop) .nop) (.sl (.var 5) (.acons (.cst (.int 1)) .nop) .nop)) .anil (.call (ι 73) (.acons (.var 10) (.acons (.call (ι 72) (.acons (.var 8) (.acons (.var 11) .anil))) .anil)))))))
   (.seq (.frz 6)
   (.asg (.nm 1) (.var 6))))))))))
  (.ret (.var 2))))⟩
abbrev dep__law_determinant : List Nat := [69, 70, 72, 73, 74, 83]
abbrev i__law_shifted : Nat := 84
def d__law_shifted (ι : Nat → Nat) : Def := ⟨3, 4,
  (.ret (.lc (.nm 3) (.itR1 (.var 1)) .anil (.b1 .list (.sl (.var 0) (.acons (.bop .add (.var 3) (.var 2)) .nop) (.acons (.bop .add (.bop .add (.var 3) (.var 2)) (.var 1)) .nop)))))⟩
abbrev dep__law_shifted : List Nat := [84]
abbrev i__law_ways : Nat := 85
def d__law_ways (ι : Nat → Nat) : Def := ⟨4, 10,
  (.seq (.asg (.nm 4) (.lst (.acons (.tup (.acons (.tup .anil) (.acons (.var 1) .anil))) .anil)))
  (.seq (.forS (.nm 5) (.itR3 (.var 0) (.cst (.int 0)) (.neg (.cst (.int 1))))
   (.seq (.asg (.nm 6) (.lst .anil))
   (.seq (.forS (.acons (.nm 7) (.acons (.nm 8) .anil)) (.itS (.var 4))
    (.asg (.nm 6) (.bop .add (.var 6) (.lc (.nm 9) (.itS (.tup (.acons (.neg (.cst (.int 1))) (.acons (.cst (.int 0)) (.acons (.cst (.int 1)) .anil))))) (.acons (.band (.chn .le .le (.cst (.int 0)) (.bop .add (.var 8) (.var 9)) (.var 3)) (.cmp .lt (.b1 .abs (.bop .sub (.bop .add (.var 8) (.var 9)) (.var 2))) (.var 5))) .anil) (.tup (.acons (.bop .add (.var 7) (.tup (.acons (.var 9) .anil))) (.acons (.bop .add (.var 8) (.var 9)) .anil)))))))
   (.asg (.nm 4) (.var 6)))))
  (.ret (.lc (.acons (.nm 7) (.acons (.nm 8) .anil)) (.itS (.var 4)) (.acons (.cmp .eq (.var 8) (.var 2)) .anil) (.var 7)))))⟩
abbrev dep__law_ways : List Nat := [85]
abbrev i__law_weight : Nat := 86
def d__law_weight (ι : Nat → Nat) : Def := ⟨3, 6,
  (.seq (.par [(3, false), (4, false)] (.acons (.tup (.acons (.cst (.int 1)) (.acons (.cst (.int 1)) .anil))) (.acons (.var 1) .anil)))
  (.seq (.forS (.nm 5) (.itS (.var 2))
   (.seq (.ifs (.cmp .lt (.var 5) (.cst (.int 1)))
    (.asg (.nm 3) (.call (ι 72) (.acons (.var 3) (.acons (.ite (.cmp .eq (.var 5) (.cst (.int 0))) (.ix (.ix (.var 0) (.cst (.int 0))) (.var 4)) (.ix (.ix (.var 0) (.cst (.int 1))) (.bop .sub (.var 4) (.cst (.int 1))))) .anil))))
    .skip)
   (.asg (.nm 4) (.bop .add (.var 4) (.var 5)))))
  (.ret (.var 3))))⟩
abbrev dep__law_weight : List Nat := [69, 70, 72, 86]
abbrev i__law_moments : Nat := 87
def d__law_moments (ι : Nat → Nat) : Def := ⟨3, 11,
  (.seq (.asg (.acons (.nm 3) (.acons (.nm 4) .anil)) (.var 1))
  (.seq (.par [(5, true), (6, false)] (.acons (.lst .anil) (.acons (.bop .add (.lst (.acons (.var 0) .anil)) (.bop .mul (.lst (.acons (.tup (.acons (.cst (.int 0)) (.acons (.cst (.int 1)) .anil))) .anil)) (.b1 .len (.var 3)))) .anil)))
  (.seq (.forS (.nm 7) (.itR1 (.var 2))
   (.seq (.app 5 (.ix (.var 6) (.cst (.int 0))))
   (.seq (.asgO 8 (.lst .anil))
   (.seq (.forS (.nm 9) (.itR1 (.b1 .len (.var 3)))
    (.seq (.asg (.nm 10) (.call (ι 72) (.acons (.ix (.var 6) (.var 9)) (.acons (.ix (.var 3) (.var 9)) .anil))))
    (.seq (.asg (.nm 10) (.ite (.cmp .gt (.var 9) (.cst (.int 0))) (.call (ι 71) (.acons (.var 10) (.acons (.ix (.var 6) (.bop .sub (.var 9) (.cst (.int 1)))) .anil))) (.var 10)))
    (.app 8 (.ite (.cmp .lt (.bop .add (.var 9) (.cst (.int 1))) (.b1 .len (.var 3))) (.call (ι 71) (.acons (.var 10) (.acons (.call (ι 72) (.acons (.ix (.var 6) (.bop .add (.var 9) (.cst (.int 1)))) (.acons (.ix (.var 4) (.var 9)) .anil))) .anil))) (.var 10))))))
   (.asg (.nm 6) (.bop .add (.bor 8) (.lst (.acons (.tup (.acons (.cst (.int 0)) (.acons (.cst (.int 1)) .anil))) .anil))))))))
  (.ret (.b1 .tuple (.bor 5))))))⟩
abbrev dep__law_moments : List Nat := [69, 70, 71, 72, 87]
abbrev i__law_rule : Nat := 88
def d__law_rule (ι : Nat → Nat) : Def := ⟨2, 7,
  (.seq (.asg (.acons (.nm 2) (.acons (.nm 3) .anil)) (.var 0))
  (.seq (.asgO 4 (.lst (.acons (.tup (.acons (.tup (.acons (.cst (.int 1)) (.acons (.cst (.int 1)) .anil))) .anil)) .anil)))
  (.seq (.forS (.nm 5) (.itR1 (.var 1))
   (.seq (.asg (.nm 6) (.call (ι 80) (.acons (.bop .add (.tup (.acons (.tup (.acons (.cst (.int 0)) (.acons (.cst (.int 1)) .anil))) .anil)) (.ix (.bor 4) (.var 5))) (.acons (.call (ι 81) (.acons (.ix (.bor 4) (.var 5)) (.acons (.tup (.acons (.neg (.ix (.ix (.var 2) (.var 5)) (.cst (.int 0)))) (.acons (.ix (.ix (.var 2) (.var 5)) (.cst (.int 1))) .anil))) .anil))) .anil))))
   (.app 4 (.ite (.cmp .gt (.var 5) (.cst (.int 0))) (.call (ι 80) (.acons (.var 6) (.acons (.call (ι 81) (.acons (.ix (.bor 4) (.bop .sub (.var 5) (.cst (.int 1)))) (.acons (.tup (.acons (.neg (.ix (.ix (.var 3) (.bop .sub (.var 5) (.cst (.int 1)))) (.cst (.int 0)))) (.acons (.ix (.ix (.var 3) (.bop .sub (.var 5) (.cst (.int 1)))) (.cst (.int 1))) .anil))) .anil))) .anil))) (.var 6)))))
  (.seq (.frz 4)
  (.ret (.var 4))))))⟩
abbrev dep__law_rule : List Nat := [69, 70, 71, 72, 79, 80, 81, 88]
abbrev i__law_triangle : Nat := 89
def d__law_triangle (ι : Nat → Nat) : Def := ⟨2, 7,
  (.seq (.asgO 2 (.lst .anil))
  (.seq (.forS (.nm 3) (.itR1 (.var 1))
   (.seq (.asg (.nm 4) (.lc (.nm 6) (.itR1 (.var 1)) .anil (.call (ι 75) (.acons (.lc (.nm 5) (.itS (.call (ι 85) (.acons (.var 3) (.acons (.cst (.int 0)) (.acons (.var 6) (.acons (.bop .sub (.var 1) (.cst (.int 1))) .anil)))))) .anil (.call (ι 86) (.acons (.var 0) (.acons (.cst (.int 0)) (.acons (.var 5) .anil))))) .anil))))
   (.app 2 (.b1 .tuple (.var 4)))))
  (.ret (.b1 .tuple (.bor 2)))))⟩
abbrev dep__law_triangle : List Nat := [69, 70, 71, 72, 75, 85, 86, 89]
abbrev i__law_quotient_right : Nat := 90
def d__law_quotient_right (ι : Nat → Nat) : Def := ⟨3, 5,
  (.seq (.asg (.nm 3) (.call (ι 41) (.acons (.var 0) (.acons (.var 1) (.acons (.b1 .len (.ix (.var 1) (.cst (.int 0)))) .anil)))))
  (.seq (.ifs (.borr (.cmp .ne (.call (ι 67) (.acons (.var 3) .anil)) (.cst (.int 4))) (.cmp .ne (.b1 .len (.var 3)) (.cst (.int 2))))
   (.ret (.cst (.bool false)))
   .skip)
  (.seq (.asg (.nm 4) (.bop .add (.b1 .list (.call (ι 82) (.acons (.ix (.var 3) (.cst (.int 1))) (.acons (.var 2) .anil)))) (.bop .mul (.lst (.acons (.tup (.acons (.cst (.int 0)) (.acons (.cst (.int 1)) .anil))) .anil)) (.b1 .len (.var 2)))))
  (.ret (.band (.call (ι 68) (.acons (.call (ι 79) (.acons (.sl (.var 4) .nop (.acons (.b1 .len (.var 2)) .nop)) .anil)) (.acons (.ix (.var 3) (.cst (.int 0))) .anil))) (.cmp .le (.b1 .len (.ix (.var 3) (.cst (.int 0)))) (.b1 .len (.ix (.var 1) (.cst (.int 0))))))))))⟩
abbrev dep__law_quotient_right : List Nat := [0, 1, 2, 3, 4, 5, 6, 8, 9, 11, 13, 14, 15, 16, 17, 21, 22, 38, 39, 40, 41, 67, 68, 69, 70, 71, 72, 79, 82, 90]
abbrev i__law_row_right : Nat := 91
def d__law_row_right (ι : Nat → Nat) : Def := ⟨2, 13,
  (.seq (.par [(2, false), (3, false)] (.acons (.b1 .len (.ix (.var 1) (.cst (.int 0)))) (.acons (.call (ι 87) (.acons (.var 0) (.acons (.var 1) (.acons (.bop .mul (.cst (.int 2)) (.b1 .len (.ix (.var 1) (.cst (.int 0))))) .anil)))) .anil)))
  (.seq (.asg (.nm 4) (.lst (.acons (.call (ι 33) (.acons (.var 0) (.acons (.var 1) .anil))) (.acons (.call (ι 34) (.acons (.var 3) .anil)) (.acons (.call (ι 37) (.acons (.var 3) .anil)) (.acons (.call (ι 56) (.acons (.var 3) .anil)) .anil))))))
  (.seq (.ifs (.borr (.notv (.call (ι 68) (.acons (.var 4) (.acons (.lst (.acons (.var 3) (.acons (.var 1) (.acons (.tup (.acons (.var 0) (.acons (.var 1) .anil))) (.acons (.var 2) .anil))))) .anil)))) (.notv (.call (ι 90) (.acons (.var 0) (.acons (.var 1) (.acons (.var 3) .anil))))))
   (.ret (.cst (.bool false)))
   .skip)
  (.seq (.asg (.nm 5) (.call (ι 88) (.acons (.var 1) (.acons (.var 2) .anil))))
  (.seq (.asg (.nm 4) (.bop .add (.lc (.nm 10) (.itR1 (.bop .add (.var 2) (.cst (.int 1)))) .anil (.call (ι 45) (.acons (.var 1) (.acons (.var 10) .anil)))) (.lc (.nm 10) (.itR1 (.bop .add (.var 2) (.cst (.int 1)))) .anil (.call (ι 50) (.acons (.var 3) (.acons (.var 10) .anil))))))
  (.seq (.ifs (.notv (.call (ι 68) (.acons (.var 4) (.acons (.bop .add (.var 5) (.var 5)) .anil))))
   (.ret (.cst (.bool false)))
   .skip)
  (.seq (.asg (.nm 6) (.b1 .tuple (.lc (.nm 11) (.itS (.ix (.var 1) (.cst (.int 0)))) .anil (.tup (.acons (.tup (.acons (.neg (.ix (.var 11) (.cst (.int 0)))) (.acons (.ix (.var 11) (.cst (.int 1))) .anil))) (.acons (.tup (.acons (.cst (.int 1)) (.acons (.cst (.int 1)) .anil))) .anil))))))
  (.seq (.asgO 7 (.lst (.acons (.var 0) .anil)))
  (.seq (.forS (.nm 8) (.itS (.ix (.var 1) (.cst (.int 1))))
   (.app 7 (.call (ι 72) (.acons (.ix (.bor 7) (.neg (.cst (.int 1)))) (.acons (.var 8) .anil)))))
  (.seq (.asg (.nm 4) (.lst (.acons (.call (ι 43) (.acons (.var 3) .anil)) (.acons (.call (ι 52) (.acons (.var 3) (.acons (.cst (.int 0)) .anil))) (.acons (.call (ι 62) (.acons (.var 3) (.acons (.var 2) .anil))) (.acons (.call (ι 63) (.acons (.var 3) (.acons (.var 2) .anil))) .anil))))))
  (.seq (.asg (.nm 9) (.lst (.acons (.tup (.acons (.var 6) (.acons (.bop .add (.tup (.acons (.var 0) .anil)) (.ix (.var 1) (.cst (.int 1)))) .anil))) (.acons (.b1 .tuple (.lc (.nm 12) (.itR1 (.bop .add (.var 2) (.cst (.int 1)))) .anil (.call (ι 83) (.acons (.call (ι 84) (.acons (.var 3) (.acons (.var 12) (.acons (.cst (.int 0)) .anil)))) .anil)))) .anil))))
  (.ret (.call (ι 68) (.acons (.var 4) (.acons (.bop .add (.var 9) (.lst (.acons (.call (ι 89) (.acons (.var 1) (.acons (.var 2) .anil))) (.acons (.b1 .tuple (.bor 7)) .anil)))) .anil)))))))))))))))⟩
abbrev dep__law_row_right : List Nat := [0, 1, 2, 3, 4, 5, 6, 7, 8, 9, 10, 11, 12, 13, 14, 15, 16, 17, 18, 19, 20, 21, 22, 23, 24, 25, 26, 27, 28, 29, 30, 31, 32, 33, 34, 35, 36, 37, 38, 39, 40, 41, 42, 43, 44, 45, 46, 47, 48, 49, 50, 51, 52, 53, 54, 55, 56, 57, 58, 59, 60, 61, 62, 63, 67, 68, 69, 70, 71, 72, 73, 74, 75, 79, 80, 81, 82, 83, 84, 85, 86, 87, 88, 89, 90, 91]
abbrev i__law_written_right : Nat := 92
def d__law_written_right (ι : Nat → Nat) : Def := ⟨0, 4,
  (.seq (.par [(0, false), (1, false)] (.acons (.tup (.acons (.tup (.acons (.tup (.acons (.cst (.int 1)) (.acons (.cst (.int 1)) .anil))) (.acons (.tup (.acons (.cst (.int 2)) (.acons (.cst (.int 1)) .anil))) .anil))) (.acons (.tup (.acons (.tup (.acons (.cst (.int 3)) (.acons (.cst (.int 1)) .anil))) .anil)) .anil))) (.acons (.tup (.acons (.tup (.acons (.cst (.int 1)) (.acons (.cst (.int 1)) .anil))) (.acons (.tup (.acons (.cst (.int 1)) (.acons (.cst (.int 1)) .anil))) (.acons (.tup (.acons (.cst (.int 4)) (.acons (.cst (.int 1)) .anil))) (.acons (.tup (.acons (.cst (.int 13)) (.acons (.cst (.int 1)) .anil))) .anil))))) .anil)))
  (.seq (.asg (.nm 2) (.lst (.acons (.call (ι 34) (.acons (.var 1) .anil)) (.acons (.call (ι 41) (.acons (.tup (.acons (.cst (.int 1)) (.acons (.cst (.int 1)) .anil))) (.acons (.var 0) (.acons (.cst (.int 2)) .anil)))) (.acons (.call (ι 50) (.acons (.var 1) (.acons (.cst (.int 1)) .anil))) (.acons (.call (ι 50) (.acons (.var 1) (.acons (.cst (.int 2)) .anil))) .anil))))))
  (.seq (.asg (.nm 3) (.tup (.acons (.tup (.acons (.tup (.acons (.cst (.int 1)) (.acons (.cst (.int 1)) .anil))) (.acons (.tup (.acons (.neg (.cst (.int 2))) (.acons (.cst (.int 1)) .anil))) .anil))) (.acons (.tup (.acons (.tup (.acons (.cst (.int 1)) (.acons (.cst (.int 1)) .anil))) (.acons (.tup (.acons (.neg (.cst (.int 3))) (.acons (.cst (.int 1)) .anil))) (.acons (.tup (.acons (.neg (.cst (.int 1))) (.acons (.cst (.int 1)) .anil))) .anil)))) .anil))))
  (.ret (.call (ι 68) (.acons (.var 2) (.acons (.lst (.acons (.var 0) (.acons (.var 3) (.acons (.tup (.acons (.tup (.acons (.neg (.cst (.int 1))) (.acons (.cst (.int 1)) .anil))) (.acons (.tup (.acons (.cst (.int 1)) (.acons (.cst (.int 1)) .anil))) .anil))) (.acons (.tup (.acons (.tup (.acons (.neg (.cst (.int 1))) (.acons (.cst (.int 1)) .anil))) (.acons (.tup (.acons (.neg (.cst (.int 3))) (.acons (.cst (.int 1)) .anil))) (.acons (.tup (.acons (.cst (.int 1)) (.acons (.cst (.int 1)) .anil))) .anil)))) .anil))))) .anil)))))))⟩
abbrev dep__law_written_right : List Nat := [0, 1, 2, 3, 4, 5, 6, 7, 8, 9, 10, 11, 12, 13, 14, 15, 16, 17, 18, 19, 20, 21, 22, 23, 24, 25, 26, 27, 30, 32, 34, 38, 39, 40, 41, 46, 47, 48, 49, 50, 67, 68, 92]
abbrev i_law : Nat := 93
def d_law (ι : Nat → Nat) : Def := ⟨1, 4,
  (.seq (.ifs (.notv (.call (ι 92) .anil))
   (.ret (.cst (.bool false)))
   .skip)
  (.seq (.asg (.nm 1) (.call (ι 64) (.acons (.var 0) .anil)))
  (.seq (.forS (.nm 2) (.itR1 (.cst (.int 4)))
   (.seq (.asg (.nm 3) (.call (ι 78) (.acons (.var 1) (.acons (.bop .add (.cst (.int 1)) (.call (ι 65) (.acons (.var 1) (.acons (.cst (.int 4)) .anil)))) .anil))))
   (.ifs (.notv (.call (ι 91) (.acons (.call (ι 77) (.acons (.var 1) .anil)) (.acons (.var 3) .anil))))
    (.ret (.cst (.bool false)))
    .skip)))
  (.ret (.cst (.bool true))))))⟩
abbrev dep_law : List Nat := [0, 1, 2, 3, 4, 5, 6, 7, 8, 9, 10, 11, 12, 13, 14, 15, 16, 17, 18, 19, 20, 21, 22, 23, 24, 25, 26, 27, 28, 29, 30, 31, 32, 33, 34, 35, 36, 37, 38, 39, 40, 41, 42, 43, 44, 45, 46, 47, 48, 49, 50, 51, 52, 53, 54, 55, 56, 57, 58, 59, 60, 61, 62, 63, 64, 65, 66, 67, 68, 69, 70, 71, 72, 73, 74, 75, 76, 77, 78, 79, 80, 81, 82, 83, 84, 85, 86, 87, 88, 89, 90, 91, 92, 93]
def bodies : List ((Nat → Nat) → Def) := [d_is_integer, d_is_number, d_need_number, d_is_tuple_of, d_fits_fraction, d_need_fraction, d_lowest, d_plus, d_minus, d_times, d_over, d_opposite, d_summed, d_lean, d_at_power, d_scaled, d_less, d_raised, d_multiplied, d_fits_row, d_need_row, d_fits_steps, d_need_steps, d_sum_in, d_determinant_in, d_table_in, d_is_full_in, d_need_full, d_moments_in, d_rule_in, d_steps_in, d_need_nonzero, d_need_whole_row, d_row_of_steps, d_steps_of_row, d_by_first, d_peeled_in, d_steps_by_peeling, d_behind, d_quotients_in, d_need_both, d_step_quotient, d_longs_in, d_long_steps_of, d_need_depth, d_ruled, d_reduced, d_upright_in, d_need_many, d_need_upright, d_upright_of, d_has_table, d_all_determinants, d_told_in, d_grown_in, d_least_in, d_rule_length, d_led_to, d_triangle_in, d_unit_in, d_cut_in, d_need_levels, d_triangle_of_row, d_middle_of_row, d__law_cup, d__law_roll, d__law_some, d__law_sort, d__law_like, d__law_shared, d__law_lowest, d__law_plus, d__law_times, d__law_less, d__law_over, d__law_total, d__law_fraction, d__law_down, d__law_steps, d__law_lean, d__law_sum, d__law_scaled, d__law_product, d__law_determinant, d__law_shifted, d__law_ways, d__law_weight, d__law_moments, d__law_rule, d__law_triangle, d__law_quotient_right, d__law_row_right, d__law_written_right, d_law]
end B

set_option linter.all false
/-! PyM, part 1: fractions: what lowest terms are. -/
namespace PyM
open PySem PyD
/-- a fraction as the program holds it -/
def enc (q : Rat) : PyD.D := .tuple [.int q.num, .int (q.den : Nat)]
theorem low_pos {a b : Int} (hb : 0 < b) : a.fdiv (Nat.gcd a.natAbs b.natAbs : Nat) = (Rat.divInt a b).num ∧ b.fdiv (Nat.gcd a.natAbs b.natAbs : Nat) = ((Rat.divInt a b).den : Nat) := by
  have hg : (0 : Int) ≤ ((Nat.gcd a.natAbs b.natAbs : Nat) : Int) := Int.natCast_nonneg _
  rw [Int.fdiv_eq_ediv_of_nonneg _ hg, Int.fdiv_eq_ediv_of_nonneg _ hg, Rat.num_divInt, Rat.den_divInt, if_neg (by omega), Int.sign_eq_one_of_pos hb, Int.one_mul]
  have e : b.gcd a = Nat.gcd a.natAbs b.natAbs := by rw [Int.gcd_comm]; rfl
  rw [e]
  refine ⟨rfl, ?_⟩
  rw [Int.natCast_ediv]
  congr 1
  omega
theorem low_neg {a b : Int} (hb : b < 0) : -(a.fdiv (Nat.gcd a.natAbs b.natAbs : Nat)) = (Rat.divInt a b).num ∧ -(b.fdiv (Nat.gcd a.natAbs b.natAbs : Nat)) = ((Rat.divInt a b).den : Nat) := by
  have hg : (0 : Int) ≤ ((Nat.gcd a.natAbs b.natAbs : Nat) : Int) := Int.natCast_nonneg _
  have d1 : ((Nat.gcd a.natAbs b.natAbs : Nat) : Int) ∣ a := Int.ofNat_dvd_left.mpr (Nat.gcd_dvd_left _ _)
  have d2 : ((Nat.gcd a.natAbs b.natAbs : Nat) : Int) ∣ b := Int.ofNat_dvd_left.mpr (Nat.gcd_dvd_right _ _)
  have e : b.gcd a = Nat.gcd a.natAbs b.natAbs := by rw [Int.gcd_comm]; rfl
  rw [Int.fdiv_eq_ediv_of_nonneg _ hg, Int.fdiv_eq_ediv_of_nonneg _ hg, Rat.num_divInt, Rat.den_divInt, if_neg (by omega), Int.sign_eq_neg_one_of_neg hb, e]
  constructor
  · rw [← Int.neg_ediv_of_dvd d1]; congr 1; omega
  · rw [← Int.neg_ediv_of_dvd d2, Int.natCast_ediv]
    congr 1
    omega
theorem add_divInt {a b : Rat} : Rat.divInt (a.num * b.den + b.num * a.den) (a.den * b.den) = a + b := by
  rw [Rat.add_def, Rat.normalize_eq_mkRat, ← Rat.divInt_ofNat]
  congr 1
theorem sub_divInt {a b : Rat} : Rat.divInt (a.num * b.den - b.num * a.den) (a.den * b.den) = a - b := by
  rw [Rat.sub_def, Rat.normalize_eq_mkRat, ← Rat.divInt_ofNat]
  congr 1
theorem mul_divInt {a b : Rat} : Rat.divInt (a.num * b.num) (a.den * b.den) = a * b := by
  rw [Rat.mul_def, Rat.normalize_eq_mkRat, ← Rat.divInt_ofNat]
  congr 1
theorem div_divInt {a b : Rat} (hb : b ≠ 0) : Rat.divInt (a.num * b.den) (a.den * b.num) = a / b := by
  have h1 : ((a.den : Nat) : Int) ≠ 0 := by have := a.den_nz; omega
  have h2 : b.num ≠ 0 := fun h => hb (by rw [← Rat.num_divInt_den b, h, Rat.zero_divInt])
  rw [Rat.div_def, Rat.inv_def]
  rw [show a * Rat.divInt b.den b.num = Rat.divInt a.num a.den * Rat.divInt b.den b.num by rw [Rat.num_divInt_den], Rat.divInt_mul_divInt]
theorem neg_enc {a : Rat} : enc (-a) = .tuple [.int (-a.num), .int (a.den : Nat)] := by
  unfold enc
  rw [Rat.neg_num, Rat.neg_den]
end PyM

set_option linter.all false
set_option maxRecDepth 100000
set_option exponentiation.threshold 20000
/-! PyE: the evaluator's equations, a tactic that walks a body, loops. -/
namespace PyM
open PySem PyD
abbrev W0 : Nat := 4000
abbrev CallF := Nat → List PyD.D → Store → Option (PyD.D × Store)
section
variable {C : CallF} {W : Nat} {S : Store} {ρ : PyD.Env} {x : Slot} {d : PyD.D} {i j k : Int} {m n : Nat} {xs ys : List PyD.D} {a b c e tg it ifs as r : T} {o o1 o2 : Cop} {s s' : Sn}
theorem bnd_ok {α β : Type} {a : α} {f : α → Store → Option (β × Store)} : bnd (some (a, S)) f = f a S := (rfl)
theorem bnd_no {α β : Type} {f : α → Store → Option (β × Store)} : bnd (none : Option (α × Store)) f = none := (rfl)
theorem get0 : PyD.get (.val d :: ρ) 0 = some d := (rfl)
theorem getS : PyD.get (x :: ρ) (n + 1) = PyD.get ρ n := (rfl)
theorem getB0 : PyD.getB (.val d :: ρ) 0 = some d := (rfl)
theorem getBo : PyD.getB (.own xs :: ρ) 0 = some (.list xs) := (rfl)
theorem getBS : PyD.getB (x :: ρ) (n + 1) = PyD.getB ρ n := (rfl)
/-- a comprehension's turn -/
def lcF (C : CallF) (tg ifs e : T) (ρ : PyD.Env) (d : PyD.D) (S : Store) : Option (List PyD.D × Store) := match setTg tg d (PyD.wipe ρ (tgNames tg)) with
  | some ρ' => bnd (evQ C ifs ρ' S) fun b S => if b then (if isB e then none else bnd (ev C e ρ' S) fun y S => some ([y], S)) else some ([], S)
  | none => none
/-- a loop's turn -/
def fsF (C : CallF) (W : Nat) (tg : T) (b : Sn) (d : PyD.D) (ρ : PyD.Env) (S : Store) : Option (Res × Store) := match setTg tg d ρ with
  | some ρ => ex C W b ρ S
  | none => none
theorem lcF_eq : lcF C tg ifs e ρ d S = match setTg tg d (PyD.wipe ρ (tgNames tg)) with
  | some ρ' => bnd (evQ C ifs ρ' S) fun b S => if b then (if isB e then none else bnd (ev C e ρ' S) fun y S => some ([y], S)) else some ([], S)
  | none => none := (rfl)
theorem fsF_eq {b : Sn} : fsF C W tg b d ρ S = match setTg tg d ρ with
  | some ρ => ex C W b ρ S
  | none => none := (rfl)
theorem ev_cst : ev C (.cst d) ρ S = some (d, S) := (rfl)
theorem ev_var : ev C (.var n) ρ S = (PyD.get ρ n).map (·, S) := (rfl)
theorem ev_bor : ev C (.bor n) ρ S = (PyD.getB ρ n).map (·, S) := (rfl)
theorem ev_bop {o : Bop} : ev C (.bop o a b) ρ S = bnd (ev C a ρ S) fun x S => bnd (ev C b ρ S) fun y S => (opB o x y).map (·, S) := (rfl)
theorem ev_neg : ev C (.neg a) ρ S = bnd (ev C a ρ S) fun x S => (match x with | .int i => some (.int (-i), S) | _ => none) := (rfl)
theorem ev_notv : ev C (.notv a) ρ S = bnd (ev C a ρ S) fun x S => (match x with | .bool b => some (.bool (!b), S) | _ => none) := (rfl)
theorem ev_band : ev C (.band a b) ρ S = bnd (ev C a ρ S) fun x S => (match x with | .bool true => (if isB b then none else ev C b ρ S) | .bool false => some (.bool false, S) | _ => none) := (rfl)
theorem ev_borr : ev C (.borr a b) ρ S = bnd (ev C a ρ S) fun x S => (match x with | .bool false => (if isB b then none else ev C b ρ S) | .bool true => some (.bool true, S) | _ => none) := (rfl)
theorem ev_cmp : ev C (.cmp o a b) ρ S = bnd (ev C a ρ S) fun x S => bnd (ev C b ρ S) fun y S => (opC o x y).map fun c => (.bool c, S) := (rfl)
theorem ev_chn : ev C (.chn o1 o2 a b c) ρ S = bnd (ev C a ρ S) fun x S => bnd (ev C b ρ S) fun y S => (match opC o1 x y with
    | some true => bnd (ev C c ρ S) fun z S => (opC o2 y z).map fun c => (.bool c, S)
    | some false => some (.bool false, S)
    | none => none) := (rfl)
theorem ev_ite : ev C (.ite c a b) ρ S = bnd (evT C c ρ S) fun t S => if t then (if isB a then none else ev C a ρ S) else (if isB b then none else ev C b ρ S) := (rfl)
theorem ev_call : ev C (.call n as) ρ S = bnd (evA C as ρ S) fun ds S => C n ds S := (rfl)
theorem ev_b1 {o : B1} : ev C (.b1 o a) ρ S = bnd (ev C a ρ S) fun x S => (op1 o x).map (·, S) := (rfl)
theorem ev_b2 {o : B2} : ev C (.b2 o a c) ρ S = bnd (ev C a ρ S) fun x S => bnd (ev C c ρ S) fun y S => (op2 o x y).map (·, S) := (rfl)
theorem ev_min3 : ev C (.min3 a b c) ρ S = bnd (ev C a ρ S) fun x S => bnd (ev C b ρ S) fun y S => bnd (ev C c ρ S) fun z S => (match x, y, z with
    | .int i, .int j, .int k => some (.int (minL i [j, k]), S)
    | _, _, _ => none) := (rfl)
theorem ev_tup : ev C (.tup as) ρ S = bnd (evA C as ρ S) fun ds S => (lim ds).map fun ds => (.tuple ds, S) := (rfl)
theorem ev_lst : ev C (.lst as) ρ S = bnd (evA C as ρ S) fun ds S => (lim ds).map fun ds => (.list ds, S) := (rfl)
theorem ev_mkl : ev C (.mkl as) ρ S = bnd (evA C as ρ S) fun ds S => (lim ds).map fun ds => (locD S.length, S ++ [ds]) := (rfl)
/-- an item -/
def ixF (x y : PyD.D) (S : Store) : Option (PyD.D × Store) := match x, y with
    | .dict [(.int n, .none)], .int i => (match S[n.toNat]? with
      | some xs => if n < 0 then none else (atD xs i).map (·, S)
      | none => none)
    | x, y => (ixD x y).map (·, S)
theorem ev_ix : ev C (.ix a b) ρ S = bnd (ev C a ρ S) fun x S => bnd (ev C b ρ S) fun y S => ixF x y S := (rfl)
theorem ixF_L : ixF (.list xs) (.int i) S = (atD xs i).map (·, S) := (rfl)
theorem ixF_T : ixF (.tuple xs) (.int i) S = (atD xs i).map (·, S) := (rfl)
theorem ixF_loc : ixF (locD 0) (.int i) (xs :: S) = (atD xs i).map (·, xs :: S) := (rfl)
theorem ev_sl {lo hi : T} : ev C (.sl a lo hi) ρ S = bnd (ev C a ρ S) fun x S => bnd (evO C lo ρ S) fun l S => bnd (evO C hi ρ S) fun h S => (slD x l h).map (·, S) := (rfl)
theorem ev_rev : ev C (.rev a) ρ S = bnd (ev C a ρ S) fun x S => (revD x).map (·, S) := (rfl)
theorem ev_lr : ev C (.lr a) ρ S = bnd (ev C a ρ S) fun x S => (match x with
    | .int j => if j ≤ 100000 ∧ 0 ≤ j then some (.list (rngD 0 j), S) else none
    | _ => none) := (rfl)
theorem ev_lc : ev C (.lc tg it ifs e) ρ S = bnd (evI C it ρ S) fun ds S => bnd (loopC (lcF C tg ifs e ρ) ds S) fun ys S => (lim ys).map fun ys => (.list ys, S) := (rfl)
theorem evA_nil : evA C .anil ρ S = some ([], S) := (rfl)
theorem evA_cons : evA C (.acons a r) ρ S = if isB a then none else bnd (ev C a ρ S) fun x S => bnd (evA C r ρ S) fun xs S => some (x :: xs, S) := (rfl)
theorem evO_nop : evO C .nop ρ S = some (none, S) := (rfl)
theorem evO_cons : evO C (.acons a r) ρ S = bnd (ev C a ρ S) fun x S => (match x with | .int i => some (some i, S) | _ => none) := (rfl)
theorem evT_band : evT C (.band a b) ρ S = bnd (evT C a ρ S) fun t S => if t then evT C b ρ S else some (false, S) := (rfl)
theorem evT_borr : evT C (.borr a b) ρ S = bnd (evT C a ρ S) fun t S => if t then some (true, S) else evT C b ρ S := (rfl)
theorem evT_notv : evT C (.notv a) ρ S = bnd (evT C a ρ S) fun t S => some (!t, S) := (rfl)
theorem evT_cmp : evT C (.cmp o a b) ρ S = bnd (ev C a ρ S) fun x S => bnd (ev C b ρ S) fun y S => (opC o x y).map (·, S) := (rfl)
theorem evT_chn : evT C (.chn o1 o2 a b c) ρ S = bnd (ev C a ρ S) fun x S => bnd (ev C b ρ S) fun y S => (match opC o1 x y with
    | some true => bnd (ev C c ρ S) fun z S => (opC o2 y z).map (·, S)
    | some false => some (false, S)
    | none => none) := (rfl)
theorem evT_call : evT C (.call n as) ρ S = bnd (evA C as ρ S) fun ds S => bnd (C n ds S) fun x S => (match x with | .bool b => some (b, S) | _ => none) := (rfl)
theorem evT_b1 {o : B1} : evT C (.b1 o a) ρ S = bnd (ev C a ρ S) fun x S => (match op1 o x with | some (.bool b) => some (b, S) | _ => none) := (rfl)
theorem evT_var : evT C (.var n) ρ S = (match PyD.get ρ n with | some (.bool b) => some (b, S) | _ => none) := (rfl)
theorem evQ_nil : evQ C .anil ρ S = some (true, S) := (rfl)
theorem evQ_cons : evQ C (.acons a .anil) ρ S = evT C a ρ S := (rfl)
theorem evI_S : evI C (.itS a) ρ S = if isB a then none else bnd (ev C a ρ S) fun x S => (seqD x).map (·, S) := (rfl)
theorem evI_R1 : evI C (.itR1 a) ρ S = bnd (ev C a ρ S) fun x S => (match x with | .int j => if rngOk j then some (rngD 0 j, S) else none | _ => none) := (rfl)
theorem evI_R2 : evI C (.itR2 a b) ρ S = bnd (ev C a ρ S) fun x S => bnd (ev C b ρ S) fun y S => (match x, y with | .int i, .int j => if rngOk i && rngOk j then some (rngD i j, S) else none | _, _ => none) := (rfl)
theorem evI_R3 : evI C (.itR3 a b c) ρ S = bnd (ev C a ρ S) fun x S => bnd (ev C b ρ S) fun y S => bnd (ev C c ρ S) fun z S => (match x, y, z with | .int i, .int j, .int (-1) => if rngOk i && rngOk j then some (rngDown i j, S) else none | _, _, _ => none) := (rfl)
theorem evI_Z : evI C (.itZ a b) ρ S = if isB a || isB b then none else bnd (ev C a ρ S) fun x S => bnd (ev C b ρ S) fun y S => (match seqD x, seqD y with | some xs, some ys => some (zipD xs ys, S) | _, _ => none) := (rfl)
theorem evI_E : evI C (.itE a) ρ S = if isB a then none else bnd (ev C a ρ S) fun x S => (seqD x).map fun xs => (enumD xs, S) := (rfl)
theorem ex_skip : ex C W .skip ρ S = some (.next ρ, S) := (rfl)
theorem ex_seq : ex C W (.seq s s') ρ S = bnd (ex C W s ρ S) fun r S => (match r with
    | .next ρ => ex C W s' ρ S
    | .ret d => some (.ret d, S)) := (rfl)
theorem ex_asg : ex C W (.asg tg e) ρ S = if isB e then none else bnd (ev C e ρ S) fun x S => (setTg tg x ρ).map fun ρ => (.next ρ, S) := (rfl)
theorem ex_asgO : ex C W (.asgO n e) ρ S = bnd (ev C e ρ S) fun x S => (match x with | .list xs => some (.next (ρ.set n (.own xs)), S) | _ => none) := (rfl)
theorem ex_par {ts : List (Nat × Bool)} : ex C W (.par ts as) ρ S = bnd (evA C as ρ S) fun ds S => (setPar ts ds ρ).map fun ρ => (.next ρ, S) := (rfl)
/-- storing an item of a list -/
def setiF (ρ : PyD.Env) (S : Store) (i : Nat) (x y : PyD.D) : Option (Res × Store) := match ρ[i]?, y with
    | some (.own xs), .int k => (match L2.ixN xs.length k with
      | some j => some (.next (ρ.set i (.own (xs.set j x))), S)
      | none => none)
    | some (.val (.dict [(.int n, .none)])), .int k => if n < 0 then none else (match S[n.toNat]? with
      | some xs => (match L2.ixN xs.length k with
        | some j => some (.next ρ, S.set n.toNat (xs.set j x))
        | none => none)
      | none => none)
    | _, _ => none
theorem ex_seti {ix : T} : ex C W (.seti n ix e) ρ S = if isB e then none else bnd (ev C e ρ S) fun x S => bnd (ev C ix ρ S) fun y S => setiF ρ S n x y := (rfl)
theorem setiF_own {x : PyD.D} (h : ρ[n]? = some (.own xs)) (h2 : L2.ixN xs.length k = some m) : setiF ρ S n x (.int k) = some (.next (ρ.set n (.own (xs.set m x))), S) := by
  unfold setiF
  rw [h]
  show (match L2.ixN xs.length k with | some j => some (Res.next (ρ.set n (.own (xs.set j x))), S) | none => none) = _
  rw [h2]
theorem setiF_loc {x : PyD.D} (h : ρ[n]? = some (.val (locD 0))) (h2 : L2.ixN xs.length k = some m) : setiF ρ (xs :: S) n x (.int k) = some (.next ρ, xs.set m x :: S) := by
  unfold setiF
  rw [h]
  show (match L2.ixN xs.length k with | some j => some (Res.next ρ, (xs :: S).set 0 (xs.set j x)) | none => none) = _
  rw [h2]
  rfl
theorem setiF_c0 {a b x : PyD.D} : setiF (.val (locD 0) :: ρ) ([a, b] :: S) 0 x (.int 0) = some (.next (.val (locD 0) :: ρ), [x, b] :: S) := setiF_loc (xs := [a, b]) (n := 0) (k := 0) (m := 0) rfl rfl
theorem setiF_c1 {a b x : PyD.D} : setiF (.val (locD 0) :: ρ) ([a, b] :: S) 0 x (.int 1) = some (.next (.val (locD 0) :: ρ), [a, x] :: S) := setiF_loc (xs := [a, b]) (n := 0) (k := 1) (m := 1) rfl rfl
def appF (ρ : PyD.Env) (S : Store) (i : Nat) (x : PyD.D) : Option (Res × Store) := match ρ[i]? with
    | some (.own xs) => if xs.length < LIM then some (.next (ρ.set i (.own (xs ++ [x]))), S) else none
    | _ => none
theorem ex_app : ex C W (.app n e) ρ S = if isB e then none else bnd (ev C e ρ S) fun x S => appF ρ S n x := (rfl)
theorem appF_own {x : PyD.D} (h : ρ[n]? = some (.own xs)) (h2 : xs.length < LIM) : appF ρ S n x = some (.next (ρ.set n (.own (xs ++ [x]))), S) := by
  unfold appF
  rw [h]
  exact if_pos h2
/-- two items set, one behind the other -/
def swp2F (ρ : PyD.Env) (i : Nat) (xs : List PyD.D) (y : PyD.D) (k2 : PyD.D) (S : Store) : Option (Res × Store) := match k2 with
        | .int l => (match L2.ixN xs.length l with
          | some m => some (.next (ρ.set i (.own (xs.set m y))), S)
          | none => none)
        | _ => none
def swpF (C : CallF) (ix2 : T) (ρ : PyD.Env) (S : Store) (i : Nat) (x y k1 : PyD.D) : Option (Res × Store) := match ρ[i]?, k1 with
    | some (.own xs), .int k => (match L2.ixN xs.length k with
      | some j => bnd (ev C ix2 (ρ.set i (.own (xs.set j x))) S) fun k2 S => swp2F (ρ.set i (.own (xs.set j x))) i (xs.set j x) y k2 S
      | none => none)
    | _, _ => none
theorem swpF_own {ix2 : T} {x y : PyD.D} (h : ρ[n]? = some (.own xs)) (h2 : L2.ixN xs.length k = some m) : swpF C ix2 ρ S n x y (.int k) = bnd (ev C ix2 (ρ.set n (.own (xs.set m x))) S) fun k2 S => swp2F (ρ.set n (.own (xs.set m x))) n (xs.set m x) y k2 S := by
  unfold swpF
  rw [h]
  show (match L2.ixN xs.length k with
      | some j => bnd (ev C ix2 (ρ.set n (.own (xs.set j x))) S) fun k2 S => swp2F (ρ.set n (.own (xs.set j x))) n (xs.set j x) y k2 S
      | none => none) = _
  rw [h2]
theorem swp2F_int {y : PyD.D} (h2 : L2.ixN xs.length k = some m) : swp2F ρ n xs y (.int k) S = some (.next (ρ.set n (.own (xs.set m y))), S) := by
  show (match L2.ixN xs.length k with
          | some m => some (Res.next (ρ.set n (.own (xs.set m y))), S)
          | none => none) = _
  rw [h2]
theorem ex_swp {ix1 ix2 : T} : ex C W (.swp n ix1 ix2 a b) ρ S = if isB a || isB b then none else bnd (ev C a ρ S) fun x S => bnd (ev C b ρ S) fun y S => bnd (ev C ix1 ρ S) fun k1 S => swpF C ix2 ρ S n x y k1 := by
  show (if isB a || isB b then none else bnd (ev C a ρ S) fun x S => bnd (ev C b ρ S) fun y S => bnd (ev C ix1 ρ S) fun k1 S => (match ρ[n]?, k1 with
    | some (.own xs), .int k => (match L2.ixN xs.length k with
      | some j => bnd (ev C ix2 (ρ.set n (.own (xs.set j x))) S) fun k2 S => (match k2 with
        | .int l => (match L2.ixN xs.length l with
          | some m => some (Res.next (ρ.set n (.own ((xs.set j x).set m y))), S)
          | none => none)
        | _ => none)
      | none => none)
    | _, _ => none)) = _
  congr 1
  congr 1
  funext x S
  congr 1
  funext y S
  congr 1
  funext k1 S
  unfold swpF
  split
  · split
    · congr 1
      funext k2 S
      unfold swp2F
      split
      · rw [List.length_set]
        split
        · rw [List.set_set]
        · rfl
      · rfl
    · rfl
  · rfl
theorem ex_ext : ex C W (.ext n e) ρ S = if isB e then none else bnd (ev C e ρ S) fun x S => (match ρ[n]?, x with
    | some (.own xs), .list ys => if (xs ++ ys).length < LIM then some (.next (ρ.set n (.own (xs ++ ys))), S) else none
    | _, _ => none) := (rfl)
theorem ex_ifs : ex C W (.ifs c s s') ρ S = bnd (evT C c ρ S) fun t S => if t then ex C W s ρ S else ex C W s' ρ S := (rfl)
theorem ex_forS : ex C W (.forS tg it s) ρ S = bnd (evI C it ρ S) fun ds S => loopF (fsF C W tg s) ds ρ S := (rfl)
theorem ex_whl : ex C W (.whl c s) ρ S = loopW (evT C c) (ex C W s) W ρ S := (rfl)
theorem ex_ret : ex C W (.ret e) ρ S = if isB e then none else bnd (ev C e ρ S) fun x S => some (.ret x, S) := (rfl)
theorem ex_expr : ex C W (.expr e) ρ S = bnd (ev C e ρ S) fun _ S => some (.next ρ, S) := (rfl)
def frzF (ρ : PyD.Env) (S : Store) (i : Nat) : Option (Res × Store) := match ρ[i]? with
    | some (.own xs) => some (.next (ρ.set i (.val (.list xs))), S)
    | some (.val d) => some (.next ρ, S)
    | _ => none
theorem ex_frz : ex C W (.frz n) ρ S = frzF ρ S n := (rfl)
theorem frzF_own (h : ρ[n]? = some (.own xs)) : frzF ρ S n = some (.next (ρ.set n (.val (.list xs))), S) := by
  unfold frzF; rw [h]
theorem frzF_val (h : ρ[n]? = some (.val d)) : frzF ρ S n = some (.next ρ, S) := by
  unfold frzF; rw [h]
theorem setiF_o0 {v : PyD.D} (h2 : L2.ixN ys.length k = some m) : setiF (.own ys :: ρ) S 0 v (.int k) = some (.next (.own (ys.set m v) :: ρ), S) := setiF_own (n := 0) rfl h2
theorem appF_o0 {v : PyD.D} (h2 : ys.length < LIM) : appF (.own ys :: ρ) S 0 v = some (.next (.own (ys ++ [v]) :: ρ), S) := appF_own (n := 0) rfl h2
theorem frzF_o0 : frzF (.own ys :: ρ) S 0 = some (.next (.val (.list ys) :: ρ), S) := frzF_own (n := 0) rfl
theorem frzF_v0 : frzF (.val d :: ρ) S 0 = some (.next (.val d :: ρ), S) := frzF_val (n := 0) rfl
theorem setiF_o1 {x0 : Slot} {v : PyD.D} (h2 : L2.ixN ys.length k = some m) : setiF (x0 :: .own ys :: ρ) S 1 v (.int k) = some (.next (x0 :: .own (ys.set m v) :: ρ), S) := setiF_own (n := 1) rfl h2
theorem appF_o1 {x0 : Slot} {v : PyD.D} (h2 : ys.length < LIM) : appF (x0 :: .own ys :: ρ) S 1 v = some (.next (x0 :: .own (ys ++ [v]) :: ρ), S) := appF_own (n := 1) rfl h2
theorem frzF_o1 {x0 : Slot} : frzF (x0 :: .own ys :: ρ) S 1 = some (.next (x0 :: .val (.list ys) :: ρ), S) := frzF_own (n := 1) rfl
theorem frzF_v1 {x0 : Slot} : frzF (x0 :: .val d :: ρ) S 1 = some (.next (x0 :: .val d :: ρ), S) := frzF_val (n := 1) rfl
theorem setiF_o2 {x0 x1 : Slot} {v : PyD.D} (h2 : L2.ixN ys.length k = some m) : setiF (x0 :: x1 :: .own ys :: ρ) S 2 v (.int k) = some (.next (x0 :: x1 :: .own (ys.set m v) :: ρ), S) := setiF_own (n := 2) rfl h2
theorem appF_o2 {x0 x1 : Slot} {v : PyD.D} (h2 : ys.length < LIM) : appF (x0 :: x1 :: .own ys :: ρ) S 2 v = some (.next (x0 :: x1 :: .own (ys ++ [v]) :: ρ), S) := appF_own (n := 2) rfl h2
theorem frzF_o2 {x0 x1 : Slot} : frzF (x0 :: x1 :: .own ys :: ρ) S 2 = some (.next (x0 :: x1 :: .val (.list ys) :: ρ), S) := frzF_own (n := 2) rfl
theorem frzF_v2 {x0 x1 : Slot} : frzF (x0 :: x1 :: .val d :: ρ) S 2 = some (.next (x0 :: x1 :: .val d :: ρ), S) := frzF_val (n := 2) rfl
theorem setiF_o3 {x0 x1 x2 : Slot} {v : PyD.D} (h2 : L2.ixN ys.length k = some m) : setiF (x0 :: x1 :: x2 :: .own ys :: ρ) S 3 v (.int k) = some (.next (x0 :: x1 :: x2 :: .own (ys.set m v) :: ρ), S) := setiF_own (n := 3) rfl h2
theorem appF_o3 {x0 x1 x2 : Slot} {v : PyD.D} (h2 : ys.length < LIM) : appF (x0 :: x1 :: x2 :: .own ys :: ρ) S 3 v = some (.next (x0 :: x1 :: x2 :: .own (ys ++ [v]) :: ρ), S) := appF_own (n := 3) rfl h2
theorem frzF_o3 {x0 x1 x2 : Slot} : frzF (x0 :: x1 :: x2 :: .own ys :: ρ) S 3 = some (.next (x0 :: x1 :: x2 :: .val (.list ys) :: ρ), S) := frzF_own (n := 3) rfl
theorem frzF_v3 {x0 x1 x2 : Slot} : frzF (x0 :: x1 :: x2 :: .val d :: ρ) S 3 = some (.next (x0 :: x1 :: x2 :: .val d :: ρ), S) := frzF_val (n := 3) rfl
theorem setiF_o4 {x0 x1 x2 x3 : Slot} {v : PyD.D} (h2 : L2.ixN ys.length k = some m) : setiF (x0 :: x1 :: x2 :: x3 :: .own ys :: ρ) S 4 v (.int k) = some (.next (x0 :: x1 :: x2 :: x3 :: .own (ys.set m v) :: ρ), S) := setiF_own (n := 4) rfl h2
theorem appF_o4 {x0 x1 x2 x3 : Slot} {v : PyD.D} (h2 : ys.length < LIM) : appF (x0 :: x1 :: x2 :: x3 :: .own ys :: ρ) S 4 v = some (.next (x0 :: x1 :: x2 :: x3 :: .own (ys ++ [v]) :: ρ), S) := appF_own (n := 4) rfl h2
theorem frzF_o4 {x0 x1 x2 x3 : Slot} : frzF (x0 :: x1 :: x2 :: x3 :: .own ys :: ρ) S 4 = some (.next (x0 :: x1 :: x2 :: x3 :: .val (.list ys) :: ρ), S) := frzF_own (n := 4) rfl
theorem frzF_v4 {x0 x1 x2 x3 : Slot} : frzF (x0 :: x1 :: x2 :: x3 :: .val d :: ρ) S 4 = some (.next (x0 :: x1 :: x2 :: x3 :: .val d :: ρ), S) := frzF_val (n := 4) rfl
theorem setiF_o5 {x0 x1 x2 x3 x4 : Slot} {v : PyD.D} (h2 : L2.ixN ys.length k = some m) : setiF (x0 :: x1 :: x2 :: x3 :: x4 :: .own ys :: ρ) S 5 v (.int k) = some (.next (x0 :: x1 :: x2 :: x3 :: x4 :: .own (ys.set m v) :: ρ), S) := setiF_own (n := 5) rfl h2
theorem appF_o5 {x0 x1 x2 x3 x4 : Slot} {v : PyD.D} (h2 : ys.length < LIM) : appF (x0 :: x1 :: x2 :: x3 :: x4 :: .own ys :: ρ) S 5 v = some (.next (x0 :: x1 :: x2 :: x3 :: x4 :: .own (ys ++ [v]) :: ρ), S) := appF_own (n := 5) rfl h2
theorem frzF_o5 {x0 x1 x2 x3 x4 : Slot} : frzF (x0 :: x1 :: x2 :: x3 :: x4 :: .own ys :: ρ) S 5 = some (.next (x0 :: x1 :: x2 :: x3 :: x4 :: .val (.list ys) :: ρ), S) := frzF_own (n := 5) rfl
theorem frzF_v5 {x0 x1 x2 x3 x4 : Slot} : frzF (x0 :: x1 :: x2 :: x3 :: x4 :: .val d :: ρ) S 5 = some (.next (x0 :: x1 :: x2 :: x3 :: x4 :: .val d :: ρ), S) := frzF_val (n := 5) rfl
theorem setiF_o6 {x0 x1 x2 x3 x4 x5 : Slot} {v : PyD.D} (h2 : L2.ixN ys.length k = some m) : setiF (x0 :: x1 :: x2 :: x3 :: x4 :: x5 :: .own ys :: ρ) S 6 v (.int k) = some (.next (x0 :: x1 :: x2 :: x3 :: x4 :: x5 :: .own (ys.set m v) :: ρ), S) := setiF_own (n := 6) rfl h2
theorem appF_o6 {x0 x1 x2 x3 x4 x5 : Slot} {v : PyD.D} (h2 : ys.length < LIM) : appF (x0 :: x1 :: x2 :: x3 :: x4 :: x5 :: .own ys :: ρ) S 6 v = some (.next (x0 :: x1 :: x2 :: x3 :: x4 :: x5 :: .own (ys ++ [v]) :: ρ), S) := appF_own (n := 6) rfl h2
theorem frzF_o6 {x0 x1 x2 x3 x4 x5 : Slot} : frzF (x0 :: x1 :: x2 :: x3 :: x4 :: x5 :: .own ys :: ρ) S 6 = some (.next (x0 :: x1 :: x2 :: x3 :: x4 :: x5 :: .val (.list ys) :: ρ), S) := frzF_own (n := 6) rfl
theorem frzF_v6 {x0 x1 x2 x3 x4 x5 : Slot} : frzF (x0 :: x1 :: x2 :: x3 :: x4 :: x5 :: .val d :: ρ) S 6 = some (.next (x0 :: x1 :: x2 :: x3 :: x4 :: x5 :: .val d :: ρ), S) := frzF_val (n := 6) rfl
theorem setiF_o7 {x0 x1 x2 x3 x4 x5 x6 : Slot} {v : PyD.D} (h2 : L2.ixN ys.length k = some m) : setiF (x0 :: x1 :: x2 :: x3 :: x4 :: x5 :: x6 :: .own ys :: ρ) S 7 v (.int k) = some (.next (x0 :: x1 :: x2 :: x3 :: x4 :: x5 :: x6 :: .own (ys.set m v) :: ρ), S) := setiF_own (n := 7) rfl h2
theorem appF_o7 {x0 x1 x2 x3 x4 x5 x6 : Slot} {v : PyD.D} (h2 : ys.length < LIM) : appF (x0 :: x1 :: x2 :: x3 :: x4 :: x5 :: x6 :: .own ys :: ρ) S 7 v = some (.next (x0 :: x1 :: x2 :: x3 :: x4 :: x5 :: x6 :: .own (ys ++ [v]) :: ρ), S) := appF_own (n := 7) rfl h2
theorem frzF_o7 {x0 x1 x2 x3 x4 x5 x6 : Slot} : frzF (x0 :: x1 :: x2 :: x3 :: x4 :: x5 :: x6 :: .own ys :: ρ) S 7 = some (.next (x0 :: x1 :: x2 :: x3 :: x4 :: x5 :: x6 :: .val (.list ys) :: ρ), S) := frzF_own (n := 7) rfl
theorem frzF_v7 {x0 x1 x2 x3 x4 x5 x6 : Slot} : frzF (x0 :: x1 :: x2 :: x3 :: x4 :: x5 :: x6 :: .val d :: ρ) S 7 = some (.next (x0 :: x1 :: x2 :: x3 :: x4 :: x5 :: x6 :: .val d :: ρ), S) := frzF_val (n := 7) rfl
theorem setiF_o8 {x0 x1 x2 x3 x4 x5 x6 x7 : Slot} {v : PyD.D} (h2 : L2.ixN ys.length k = some m) : setiF (x0 :: x1 :: x2 :: x3 :: x4 :: x5 :: x6 :: x7 :: .own ys :: ρ) S 8 v (.int k) = some (.next (x0 :: x1 :: x2 :: x3 :: x4 :: x5 :: x6 :: x7 :: .own (ys.set m v) :: ρ), S) := setiF_own (n := 8) rfl h2
theorem appF_o8 {x0 x1 x2 x3 x4 x5 x6 x7 : Slot} {v : PyD.D} (h2 : ys.length < LIM) : appF (x0 :: x1 :: x2 :: x3 :: x4 :: x5 :: x6 :: x7 :: .own ys :: ρ) S 8 v = some (.next (x0 :: x1 :: x2 :: x3 :: x4 :: x5 :: x6 :: x7 :: .own (ys ++ [v]) :: ρ), S) := appF_own (n := 8) rfl h2
theorem frzF_o8 {x0 x1 x2 x3 x4 x5 x6 x7 : Slot} : frzF (x0 :: x1 :: x2 :: x3 :: x4 :: x5 :: x6 :: x7 :: .own ys :: ρ) S 8 = some (.next (x0 :: x1 :: x2 :: x3 :: x4 :: x5 :: x6 :: x7 :: .val (.list ys) :: ρ), S) := frzF_own (n := 8) rfl
theorem frzF_v8 {x0 x1 x2 x3 x4 x5 x6 x7 : Slot} : frzF (x0 :: x1 :: x2 :: x3 :: x4 :: x5 :: x6 :: x7 :: .val d :: ρ) S 8 = some (.next (x0 :: x1 :: x2 :: x3 :: x4 :: x5 :: x6 :: x7 :: .val d :: ρ), S) := frzF_val (n := 8) rfl
theorem setiF_o9 {x0 x1 x2 x3 x4 x5 x6 x7 x8 : Slot} {v : PyD.D} (h2 : L2.ixN ys.length k = some m) : setiF (x0 :: x1 :: x2 :: x3 :: x4 :: x5 :: x6 :: x7 :: x8 :: .own ys :: ρ) S 9 v (.int k) = some (.next (x0 :: x1 :: x2 :: x3 :: x4 :: x5 :: x6 :: x7 :: x8 :: .own (ys.set m v) :: ρ), S) := setiF_own (n := 9) rfl h2
theorem appF_o9 {x0 x1 x2 x3 x4 x5 x6 x7 x8 : Slot} {v : PyD.D} (h2 : ys.length < LIM) : appF (x0 :: x1 :: x2 :: x3 :: x4 :: x5 :: x6 :: x7 :: x8 :: .own ys :: ρ) S 9 v = some (.next (x0 :: x1 :: x2 :: x3 :: x4 :: x5 :: x6 :: x7 :: x8 :: .own (ys ++ [v]) :: ρ), S) := appF_own (n := 9) rfl h2
theorem frzF_o9 {x0 x1 x2 x3 x4 x5 x6 x7 x8 : Slot} : frzF (x0 :: x1 :: x2 :: x3 :: x4 :: x5 :: x6 :: x7 :: x8 :: .own ys :: ρ) S 9 = some (.next (x0 :: x1 :: x2 :: x3 :: x4 :: x5 :: x6 :: x7 :: x8 :: .val (.list ys) :: ρ), S) := frzF_own (n := 9) rfl
theorem frzF_v9 {x0 x1 x2 x3 x4 x5 x6 x7 x8 : Slot} : frzF (x0 :: x1 :: x2 :: x3 :: x4 :: x5 :: x6 :: x7 :: x8 :: .val d :: ρ) S 9 = some (.next (x0 :: x1 :: x2 :: x3 :: x4 :: x5 :: x6 :: x7 :: x8 :: .val d :: ρ), S) := frzF_val (n := 9) rfl
theorem setiF_o10 {x0 x1 x2 x3 x4 x5 x6 x7 x8 x9 : Slot} {v : PyD.D} (h2 : L2.ixN ys.length k = some m) : setiF (x0 :: x1 :: x2 :: x3 :: x4 :: x5 :: x6 :: x7 :: x8 :: x9 :: .own ys :: ρ) S 10 v (.int k) = some (.next (x0 :: x1 :: x2 :: x3 :: x4 :: x5 :: x6 :: x7 :: x8 :: x9 :: .own (ys.set m v) :: ρ), S) := setiF_own (n := 10) rfl h2
theorem appF_o10 {x0 x1 x2 x3 x4 x5 x6 x7 x8 x9 : Slot} {v : PyD.D} (h2 : ys.length < LIM) : appF (x0 :: x1 :: x2 :: x3 :: x4 :: x5 :: x6 :: x7 :: x8 :: x9 :: .own ys :: ρ) S 10 v = some (.next (x0 :: x1 :: x2 :: x3 :: x4 :: x5 :: x6 :: x7 :: x8 :: x9 :: .own (ys ++ [v]) :: ρ), S) := appF_own (n := 10) rfl h2
theorem frzF_o10 {x0 x1 x2 x3 x4 x5 x6 x7 x8 x9 : Slot} : frzF (x0 :: x1 :: x2 :: x3 :: x4 :: x5 :: x6 :: x7 :: x8 :: x9 :: .own ys :: ρ) S 10 = some (.next (x0 :: x1 :: x2 :: x3 :: x4 :: x5 :: x6 :: x7 :: x8 :: x9 :: .val (.list ys) :: ρ), S) := frzF_own (n := 10) rfl
theorem frzF_v10 {x0 x1 x2 x3 x4 x5 x6 x7 x8 x9 : Slot} : frzF (x0 :: x1 :: x2 :: x3 :: x4 :: x5 :: x6 :: x7 :: x8 :: x9 :: .val d :: ρ) S 10 = some (.next (x0 :: x1 :: x2 :: x3 :: x4 :: x5 :: x6 :: x7 :: x8 :: x9 :: .val d :: ρ), S) := frzF_val (n := 10) rfl
/-- the slots -/
theorem sg0 {z : Slot} : (x :: ρ)[0]? = some x := (rfl)
theorem sgS : (x :: ρ)[n + 1]? = ρ[n]? := (rfl)
theorem ss0 {z : Slot} : List.set (x :: ρ) 0 z = z :: ρ := (rfl)
theorem ssS {z : Slot} : List.set (x :: ρ) (n + 1) z = x :: List.set ρ n z := (rfl)
theorem setTg_nm : setTg (.nm n) d ρ = some (ρ.set n (.val d)) := by rw [setTg]
theorem setTg_tup : setTg (.acons a r) (.tuple xs) ρ = setTgs (.acons a r) xs ρ := (rfl)
theorem setTgs_nil : setTgs .anil [] ρ = some ρ := (rfl)
theorem setTgs_cons : setTgs (.acons a r) (d :: xs) ρ = match setTg a d ρ with
    | some ρ' => setTgs r xs ρ'
    | none => none := (rfl)
theorem tgN_nm : tgNames (.nm n) = [n] := (rfl)
theorem tgN_cons : tgNames (.acons a r) = tgNames a ++ tgNames r := (rfl)
theorem tgN_nil : tgNames .anil = [] := (rfl)
theorem wipe_nil : PyD.wipe ρ [] = ρ := (rfl)
theorem wipe_cons {vs : List Nat} : PyD.wipe ρ (n :: vs) = (PyD.wipe ρ vs).set n .no := (rfl)
theorem par_nil : setPar [] [] ρ = some ρ := (rfl)
theorem par_f {r : List (Nat × Bool)} : setPar ((n, false) :: r) (d :: xs) ρ = setPar r xs (ρ.set n (.val d)) := (rfl)
theorem par_t {r : List (Nat × Bool)} : setPar ((n, true) :: r) (.list ys :: xs) ρ = setPar r xs (ρ.set n (.own ys)) := (rfl)
theorem isB_cst : isB (.cst d) = false := (rfl)
theorem isB_var : isB (.var n) = false := (rfl)
theorem isB_bop {o : Bop} : isB (.bop o a b) = false := (rfl)
theorem isB_neg : isB (.neg a) = false := (rfl)
theorem isB_notv : isB (.notv a) = false := (rfl)
theorem isB_band : isB (.band a b) = false := (rfl)
theorem isB_borr : isB (.borr a b) = false := (rfl)
theorem isB_cmp : isB (.cmp o a b) = false := (rfl)
theorem isB_chn : isB (.chn o1 o2 a b c) = false := (rfl)
theorem isB_ite : isB (.ite a b c) = false := (rfl)
theorem isB_call : isB (.call n a) = false := (rfl)
theorem isB_b1 {o : B1} : isB (.b1 o a) = false := (rfl)
theorem isB_b2 {o : B2} : isB (.b2 o a b) = false := (rfl)
theorem isB_min3 : isB (.min3 a b c) = false := (rfl)
theorem isB_tup : isB (.tup a) = false := (rfl)
theorem isB_lst : isB (.lst a) = false := (rfl)
theorem isB_ix : isB (.ix a b) = false := (rfl)
theorem isB_sl : isB (.sl a b c) = false := (rfl)
theorem isB_rev : isB (.rev a) = false := (rfl)
theorem isB_lr : isB (.lr a) = false := (rfl)
theorem isB_lc : isB (.lc tg it ifs e) = false := (rfl)
theorem isB_tl : isB (.tl a) = false := (rfl)
theorem isB_mkl : isB (.mkl a) = false := (rfl)
theorem op_add : opB .add (.int i) (.int j) = some (.int (i + j)) := (rfl)
theorem op_addL : opB .add (.list xs) (.list ys) = (lim (xs ++ ys)).map .list := (rfl)
theorem op_addT : opB .add (.tuple xs) (.tuple ys) = (lim (xs ++ ys)).map .tuple := (rfl)
theorem op_sub : opB .sub (.int i) (.int j) = some (.int (i - j)) := (rfl)
theorem op_mul : opB .mul (.int i) (.int j) = if mulOk i j then some (.int (i * j)) else none := (rfl)
theorem op_mulL : opB .mul (.list xs) (.int i) = (repD xs i).map .list := (rfl)
theorem op_mulT : opB .mul (.tuple xs) (.int i) = (repD xs i).map .tuple := (rfl)
theorem op_fdiv : opB .fdiv (.int i) (.int j) = if divOk j then some (.int (i.fdiv j)) else none := (rfl)
theorem op_mod : opB .mod (.int i) (.int j) = if j ≠ 0 then some (.int (i.fmod j)) else none := (rfl)
theorem op_pow : opB .pow (.int i) (.int j) = if powOk i j then some (.int (i ^ j.toNat)) else none := (rfl)
theorem c_lt : opC .lt (.int i) (.int j) = some (decide (i < j)) := (rfl)
theorem c_le : opC .le (.int i) (.int j) = some (decide (i ≤ j)) := (rfl)
theorem c_gt : opC .gt (.int i) (.int j) = some (decide (j < i)) := (rfl)
theorem c_ge : opC .ge (.int i) (.int j) = some (decide (j ≤ i)) := (rfl)
theorem c_eqi : opC .eq (.int i) (.int j) = some (decide (i = j)) := by
  show eqD (.int i) (.int j) = _
  simp [eqD, SeqAt.shaped, PyData.eqv, PyData.canLay0, PyData.depth, Bool.beq_eq_decide_eq]
theorem c_nei : opC .ne (.int i) (.int j) = some (!decide (i = j)) := by
  show (opC .eq (.int i) (.int j)).map not = _
  rw [c_eqi]; rfl
theorem c_isN : opC .isN d .none = some (match d with | .none => true | _ => false) := (rfl)
theorem c_notN : opC .notN d .none = some (match d with | .none => false | _ => true) := (rfl)
theorem ix_L : ixD (.list xs) (.int i) = atD xs i := (rfl)
theorem ix_T : ixD (.tuple xs) (.int i) = atD xs i := (rfl)
theorem sl_L {lo hi : Option Int} : slD (.list xs) lo hi = some (.list (cutD xs lo hi)) := (rfl)
theorem sl_T {lo hi : Option Int} : slD (.tuple xs) lo hi = some (.tuple (cutD xs lo hi)) := (rfl)
theorem rev_L : revD (.list xs) = some (.list xs.reverse) := (rfl)
theorem rev_T : revD (.tuple xs) = some (.tuple xs.reverse) := (rfl)
theorem seq_L : seqD (.list xs) = some xs := (rfl)
theorem seq_T : seqD (.tuple xs) = some xs := (rfl)
theorem o2_gcd : op2 .gcd (.int i) (.int j) = some (.int ((Nat.gcd i.natAbs j.natAbs : Nat) : Int)) := (rfl)
theorem o2_max : op2 .max (.int i) (.int j) = some (.int (if j > i then j else i)) := (rfl)
theorem o2_min : op2 .min (.int i) (.int j) = some (.int (if j < i then j else i)) := (rfl)
theorem o1_lenL : op1 .len (.list xs) = some (.int xs.length) := (rfl)
theorem o1_lenT : op1 .len (.tuple xs) = some (.int xs.length) := (rfl)
theorem o1_abs : op1 .abs (.int i) = some (.int (i.natAbs : Nat)) := by
  show some (PyData.int (if i < 0 then -i else i)) = _
  congr 2
  split <;> omega
theorem o1_int : op1 .int (.int i) = some (.int i) := (rfl)
theorem o1_listL : op1 .list (.list xs) = some (.list xs) := (rfl)
theorem o1_listT : op1 .list (.tuple xs) = some (.list xs) := (rfl)
theorem o1_listS : op1 .list (scrD xs) = some (.list xs) := (rfl)
theorem o1_tupL : op1 .tuple (.list xs) = some (.tuple xs) := (rfl)
theorem o1_tupT : op1 .tuple (.tuple xs) = some (.tuple xs) := (rfl)
theorem o1_isTupT : op1 .isTup (.tuple xs) = some (.bool true) := (rfl)
theorem o1_isTupL : op1 .isTup (.list xs) = some (.bool false) := (rfl)
theorem o1_isTupI : op1 .isTup (.int i) = some (.bool false) := (rfl)
theorem o1_isIntI : op1 .isInt (.int i) = some (.bool true) := (rfl)
theorem o1_isIntT : op1 .isInt (.tuple xs) = some (.bool false) := (rfl)
theorem o1_isIntL : op1 .isInt (.list xs) = some (.bool false) := (rfl)
theorem o1_isBoolI : op1 .isBool (.int i) = some (.bool false) := (rfl)
theorem o1_isBoolT : op1 .isBool (.tuple xs) = some (.bool false) := (rfl)
theorem o1_isBoolL : op1 .isBool (.list xs) = some (.bool false) := (rfl)
theorem lim_n0 : lim [] = some [] := (rfl)
theorem lim_n1 {a : PyD.D} : lim [a] = some [a] := (rfl)
theorem lim_n2 {a b : PyD.D} : lim [a, b] = some [a, b] := (rfl)
theorem lim_n3 {a b c : PyD.D} : lim [a, b, c] = some [a, b, c] := (rfl)
theorem lim_n4 {a b c d : PyD.D} : lim [a, b, c, d] = some [a, b, c, d] := (rfl)
theorem lim_n5 {a b c d e : PyD.D} : lim [a, b, c, d, e] = some [a, b, c, d, e] := (rfl)
theorem lim_n6 {a b c d e f : PyD.D} : lim [a, b, c, d, e, f] = some [a, b, c, d, e, f] := (rfl)
theorem lim_n7 {a b c d e f g : PyD.D} : lim [a, b, c, d, e, f, g] = some [a, b, c, d, e, f, g] := (rfl)
theorem lim_n8 {a b c d e f g h : PyD.D} : lim [a, b, c, d, e, f, g, h] = some [a, b, c, d, e, f, g, h] := (rfl)
theorem lim_ok (h : xs.length ≤ 100000) : lim xs = some xs := if_pos h
theorem at0 {x : PyD.D} : atD (x :: xs) 0 = some x := by
  unfold atD L2.atI L2.ixN
  rw [if_pos (by decide), if_pos (by simp only [List.length_cons]; omega)]
  rfl
theorem at1 {x y : PyD.D} : atD (x :: y :: xs) 1 = some y := by
  unfold atD L2.atI L2.ixN
  rw [if_pos (by decide), if_pos (by simp only [List.length_cons]; omega)]
  rfl
theorem ixN0 : L2.ixN (n + 1) 0 = some 0 := by
  unfold L2.ixN
  rw [if_pos (by decide), if_pos (by omega)]
  rfl
theorem ixN1 : L2.ixN (n + 2) 1 = some 1 := by
  unfold L2.ixN
  rw [if_pos (by decide), if_pos (by omega)]
  rfl
theorem ixN_nat (h : m < n) : L2.ixN n ((m : Nat) : Int) = some m := by
  unfold L2.ixN
  rw [if_pos (by omega), if_pos (by omega)]
  simp
theorem ixN_lt (h0 : 0 ≤ i) (h : i < (n : Int)) : L2.ixN n i = some i.toNat := by
  have := ixN_nat (n := n) (m := i.toNat) (by omega)
  rwa [Int.toNat_of_nonneg h0] at this
theorem at_ok {d : PyD.D} (h : xs[m]? = some d) : atD xs ((m : Nat) : Int) = some d := by
  have hl : m < xs.length := by
    rw [List.getElem?_eq_some_iff] at h
    exact h.1
  unfold atD L2.atI
  rw [ixN_nat hl]
  exact h
end
/-- a call's end -/
def fin (r : Option (Res × Store)) : Option (PyD.D × Store) := bnd r fun r S => (match r with
    | .next _ => some (.none, S)
    | .ret x => some (x, S))
theorem fin_ret {d : PyD.D} {S : Store} : fin (some (.ret d, S)) = some (d, S) := (rfl)
theorem fin_next {ρ : PyD.Env} {S : Store} : fin (some (.next ρ, S)) = some (.none, S) := (rfl)
/-- the numbers' defs are there -/
def Has (P : List Def) (ι : Nat → Nat) (l : List Nat) : Prop := ∀ n ∈ l, P[ι n]? = (B.bodies[n]?).map fun d => d ι
theorem Has.sub {P : List Def} {ι : Nat → Nat} {l l' : List Nat} (H : Has P ι l) (h : (l'.all fun x => l.contains x) = true) : Has P ι l' := fun n hn => H n (by
  have := List.all_eq_true.mp h n hn
  simpa using this)
/-- a call (never looked into) -/
@[irreducible] def callN (P : List Def) (W k f : Nat) (ds : List PyD.D) (S : Store) : Option (PyD.D × Store) := PyD.callN P W k f ds S
theorem callN_eq : callN = PyD.callN := by
  funext P W k f ds S
  unfold callN
  rfl
/-- a call's first step -/
theorem Has.go {P : List Def} {ι : Nat → Nat} {l : List Nat} (H : Has P ι l) {n : Nat} {d : (Nat → Nat) → Def} (hd : B.bodies[n]? = some d) (hm : l.contains n = true) {k : Nat} {as : List PyD.D} {S : Store} (hl : as.length = (d ι).np) :
    callN P W0 (k + 1) (ι n) as S = fin (ex (callN P W0 k) W0 (d ι).body (as.map .val ++ List.replicate ((d ι).ns - as.length) .no) S) := by
  rw [callN_eq]
  have := H n (by simpa using hm)
  rw [hd] at this
  show (match P[ι n]? with | some d => evDef (PyD.callN P W0 k) W0 d as S | none => none) = _
  rw [this]
  show evDef (PyD.callN P W0 k) W0 (d ι) as S = _
  unfold evDef
  rw [if_pos hl]
  rfl
/-! ### loops -/
theorem loopC_map {f : PyD.D → Store → Option (List PyD.D × Store)} {g : PyD.D → List PyD.D} {S : Store} : ∀ {ds : List PyD.D}, (∀ d ∈ ds, f d S = some (g d, S)) → loopC f ds S = some (ds.flatMap g, S)
  | [], _ => rfl
  | d :: ds, h => by
    rw [loopC, h d (by simp)]
    show bnd (loopC f ds S) _ = _
    rw [loopC_map fun x hx => h x (by simp [hx])]
    rfl
theorem loopC_enc {α : Type} {f : PyD.D → Store → Option (List PyD.D × Store)} {e : α → PyD.D} {g : α → PyD.D} {S : Store} : ∀ {xs : List α}, (∀ x ∈ xs, f (e x) S = some ([g x], S)) → loopC f (xs.map e) S = some (xs.map g, S)
  | [], _ => rfl
  | x :: xs, h => by
    rw [List.map_cons, loopC, h x (by simp)]
    show bnd (loopC f (xs.map e) S) _ = _
    rw [loopC_enc fun x hx => h x (by simp [hx])]
    rfl
theorem loopF_inv {f : PyD.D → PyD.Env → Store → Option (Res × Store)} {S : Store} : ∀ {ds : List PyD.D} {Inv : Nat → PyD.Env → Prop} {ρ : PyD.Env}, Inv 0 ρ → (∀ i ρ (h : i < ds.length), Inv i ρ → ∃ ρ', f (ds[i]'h) ρ S = some (.next ρ', S) ∧ Inv (i + 1) ρ') → ∃ ρ', loopF f ds ρ S = some (.next ρ', S) ∧ Inv ds.length ρ'
  | [], Inv, ρ, h0, _ => ⟨ρ, rfl, h0⟩
  | d :: ds, Inv, ρ, h0, h => by
    obtain ⟨ρ1, e1, h1⟩ := h 0 ρ (by simp) h0
    obtain ⟨ρ2, e2, h2⟩ := loopF_inv (f := f) (S := S) (ds := ds) (Inv := fun i ρ => Inv (i + 1) ρ) h1 fun i ρ hi hI => h (i + 1) ρ (by simpa using hi) hI
    refine ⟨ρ2, ?_, by simpa using h2⟩
    rw [loopF]
    simp only [List.getElem_cons_zero] at e1
    rw [e1]
    exact e2
theorem rng_len {j : Nat} : (rngD 0 (j : Nat)).length = j := by
  unfold rngD
  simp
theorem rng_at {j i : Nat} (h : i < (rngD 0 (j : Nat)).length) : (rngD 0 (j : Nat))[i]'h = .int (i : Nat) := by
  unfold rngD
  simp
theorem rng_eq {j : Nat} : rngD 0 (j : Nat) = (List.range j).map fun i => .int ((i : Nat) : Int) := by
  unfold rngD
  simp
theorem rng2_eq {a b : Nat} (h : a ≤ b) : rngD (a : Nat) (b : Nat) = (List.range (b - a)).map fun i => .int ((a + i : Nat) : Int) := by
  unfold rngD
  rw [show ((b : Nat) : Int) - ((a : Nat) : Int) = ((b - a : Nat) : Int) by omega]
  simp
theorem rng_ok {n : Nat} (h : n < 2 ^ 60) : rngOk ((n : Nat) : Int) = true := by
  unfold rngOk
  rw [Bool.and_eq_true]
  exact ⟨decide_eq_true (by omega), decide_eq_true (by omega)⟩
end PyM

set_option linter.all false
set_option maxRecDepth 100000
set_option exponentiation.threshold 20000
/-! PyN, part 2: calls by canonical numbers; sizes; the fractions' defs. -/
namespace PyM
local macro_rules | `(tactic| dsimp? [$ls,*]) => `(tactic| simp only [bnd_ok, bnd_no, get0, getS, getB0, getBo, getBS, ev_cst, ev_var, ev_bor, ev_bop, ev_neg, ev_notv, ev_band, ev_borr, ev_cmp, ev_chn, ev_ite, ev_call, ev_b1, ev_b2, ev_min3, ev_tup, ev_lst, ev_mkl, ev_ix, ev_sl, ev_rev, ev_lr, ev_lc, evA_nil, evA_cons, evO_nop, evO_cons, evT_band, evT_borr, evT_notv, evT_cmp, evT_chn, evT_call, evT_b1, evT_var, evQ_nil, evQ_cons, evI_S, evI_R1, evI_R2, evI_R3, evI_Z, evI_E, ex_skip, ex_seq, ex_asg, ex_asgO, ex_par, ex_seti, ex_swp, ex_app, ex_ext, ex_ifs, ex_forS, ex_ret, ex_expr, ex_frz, sg0, sgS, ss0, ssS, setTg_nm, setTg_tup, setTgs_nil, setTgs_cons, tgN_nm, tgN_cons, tgN_nil, wipe_nil, wipe_cons, par_nil, par_f, par_t, isB_cst, isB_var, isB_bop, isB_neg, isB_notv, isB_band, isB_borr, isB_cmp, isB_chn, isB_ite, isB_call, isB_b1, isB_b2, isB_min3, isB_tup, isB_lst, isB_ix, isB_sl, isB_rev, isB_lr, isB_lc, isB_tl, isB_mkl, op_add, op_addL, op_addT, op_sub, op_mul, op_mulL, op_mulT, op_fdiv, op_mod, c_lt, c_le, c_gt, c_ge, c_eqi, c_nei, ixF_L, ixF_T, ixF_loc, setiF_c0, setiF_c1, frzF_o0, frzF_v0, frzF_o1, frzF_v1, frzF_o2, frzF_v2, frzF_o3, frzF_v3, frzF_o4, frzF_v4, frzF_o5, frzF_v5, frzF_o6, frzF_v6, frzF_o7, frzF_v7, frzF_o8, frzF_v8, frzF_o9, frzF_v9, frzF_o10, frzF_v10,  sl_L, sl_T, rev_L, rev_T, seq_L, seq_T, o2_gcd, o2_max, o2_min, o1_lenL, o1_lenT, o1_abs, o1_int, o1_listL, o1_listT, o1_listS, o1_tupL, o1_tupT, o1_isTupT, o1_isTupL, o1_isTupI, o1_isIntI, o1_isIntT, o1_isIntL, o1_isBoolI, o1_isBoolT, o1_isBoolL, lim_n0, lim_n1, lim_n2, lim_n3, lim_n4, lim_n5, lim_n6, lim_n7, lim_n8, at0, at1, lcF_eq, fsF_eq, fin_ret, fin_next, Option.map_some, Option.map_none, List.map_cons, List.map_nil, List.length_cons, List.length_nil, List.replicate, List.cons_append, List.nil_append, List.append_nil, Nat.reduceAdd, Nat.reduceSub, Nat.reduceLT, Nat.reduceLeDiff, Bool.or_false, Bool.or_true, Bool.and_true, Bool.true_and, Bool.false_and, Bool.and_false, Bool.false_or, Bool.true_or, Bool.false_eq_true, Bool.not_true, Bool.not_false, if_true, if_false, reduceIte, decide_true, decide_false, Int.reduceEq, Int.reduceNe, Int.reduceLT, Int.reduceLE, Int.reduceNeg, ne_eq, not_false_eq_true, not_true_eq_false, $ls,*])
open PySem PyD B
theorem divOk_of {j : Int} (h0 : j ≠ 0) (h : j.natAbs < 2 ^ 8999) : divOk j = true := by
  unfold divOk
  rw [Bool.and_eq_true]
  refine ⟨decide_eq_true h0, decide_eq_true ?_⟩
  have : j.natAbs.log2 < 8999 := (Nat.log2_lt (by omega)).mpr h
  omega
/-- a fraction of no great size -/
def sm (q : Rat) : Prop := q.num.natAbs < 2 ^ 2000 ∧ q.den < 2 ^ 2000
theorem log2_mul_ok {i j : Int} (hi : i.natAbs < 2 ^ 4002) (hj : j.natAbs < 2 ^ 4002) : mulOk i j = true := by
  unfold mulOk
  rw [Bool.or_eq_true]
  refine .inl (decide_eq_true ?_)
  have key : ∀ n : Nat, n < 2 ^ 4002 → n.log2 < 4002 := fun n h => by
    by_cases c : n = 0
    · subst c; simp
    · exact (Nat.log2_lt c).mpr h
  have := key _ hi
  have := key _ hj
  omega
theorem pow_lt' {a b : Nat} (ha : a < 2 ^ 2000) (hb : b < 2 ^ 2000) : a * b < 2 ^ 4000 := by
  have h : a * b ≤ (2 ^ 2000 - 1) * (2 ^ 2000 - 1) := Nat.mul_le_mul (by omega) (by omega)
  have e : (2 : Nat) ^ 4000 = 2 ^ 2000 * 2 ^ 2000 := by rw [← Nat.pow_add]
  rw [e]
  refine Nat.lt_of_le_of_lt h ?_
  exact Nat.mul_lt_mul_of_lt_of_le (by omega) (by omega) (by omega)
theorem sm_mul {a b : Rat} (ha : sm a) (hb : sm b) : mulOk a.num b.num = true ∧ mulOk a.num b.den = true ∧ mulOk a.den b.den = true ∧ mulOk a.den b.num = true ∧ mulOk b.num a.den = true := by
  have w : (2 : Nat) ^ 2000 ≤ 2 ^ 4002 := Nat.pow_le_pow_right (by omega) (by omega)
  obtain ⟨a1, a2⟩ := ha
  obtain ⟨b1, b2⟩ := hb
  refine ⟨log2_mul_ok ?_ ?_, log2_mul_ok ?_ ?_, log2_mul_ok ?_ ?_, log2_mul_ok ?_ ?_, log2_mul_ok ?_ ?_⟩ <;> first | omega | (rw [Int.natAbs_natCast]; omega)
theorem den_ok {a b : Rat} (ha : sm a) (hb : sm b) : ((a.den : Nat) : Int) * ((b.den : Nat) : Int) ≠ 0 ∧ (((a.den : Nat) : Int) * ((b.den : Nat) : Int)).natAbs < 2 ^ 4000 := by
  have := a.den_pos; have := b.den_pos
  refine ⟨Int.mul_ne_zero (by omega) (by omega), ?_⟩
  rw [Int.natAbs_mul, Int.natAbs_natCast, Int.natAbs_natCast]
  exact pow_lt' ha.2 hb.2
theorem num_ne {b : Rat} (h : b ≠ 0) : b.num ≠ 0 := fun z => h (by rw [← Rat.num_divInt_den b, z, Rat.zero_divInt])
theorem over_ok {a b : Rat} (ha : sm a) (hb : sm b) (h0 : b ≠ 0) : ((a.den : Nat) : Int) * b.num ≠ 0 ∧ (((a.den : Nat) : Int) * b.num).natAbs < 2 ^ 4000 := by
  have := a.den_pos
  refine ⟨Int.mul_ne_zero (by omega) (num_ne h0), ?_⟩
  rw [Int.natAbs_mul, Int.natAbs_natCast]
  exact pow_lt' ha.2 hb.1
theorem big : (2 : Nat) ^ 4000 ≤ 2 ^ 8999 := Nat.pow_le_pow_right (by omega) (by omega)
theorem big2 : (2 : Nat) ^ 4000 ≤ 2 ^ 4400 := Nat.pow_le_pow_right (by omega) (by omega)
variable {P : List Def} {ι : Nat → Nat} {n : Nat} {S : Store}
theorem cl_lowest (H : Has P ι dep_lowest) (hn : 1 ≤ n) {a b : Int} (hb : b ≠ 0) (h : b.natAbs < 2 ^ 8999) : callN P W0 n (ι i_lowest) [.int a, .int b] S = some (enc (Rat.divInt a b), S) := by
  obtain ⟨k, rfl⟩ : ∃ k, n = k + 1 := ⟨n - 1, by omega⟩
  rw [H.go (d := d_lowest) rfl rfl rfl]
  have hg0 : Nat.gcd a.natAbs b.natAbs ≠ 0 := by
    intro z
    exact hb (by have := Nat.eq_zero_of_gcd_eq_zero_right z; omega)
  have hg1 : Nat.gcd a.natAbs b.natAbs ≤ b.natAbs := Nat.gcd_le_right _ (by omega)
  have hd : divOk ((Nat.gcd a.natAbs b.natAbs : Nat) : Int) = true := divOk_of (by omega) (by omega)
  by_cases hp : 0 < b
  · obtain ⟨e1, e2⟩ := low_pos (a := a) hp
    have e3 : 0 < b.fdiv ((Nat.gcd a.natAbs b.natAbs : Nat) : Int) := by rw [e2]; have := (Rat.divInt a b).den_pos; omega
    dsimp? [d_lowest, hd, e3]
    unfold enc
    rw [e1, e2]
  · have hn : b < 0 := by omega
    obtain ⟨e1, e2⟩ := low_neg (a := a) hn
    have e3 : ¬ 0 < b.fdiv ((Nat.gcd a.natAbs b.natAbs : Nat) : Int) := by have := (Rat.divInt a b).den_pos; omega
    dsimp? [d_lowest, hd, e3]
    unfold enc
    rw [e1, e2]
theorem cl_plus (H : Has P ι dep_plus) (hn : 2 ≤ n) {a b : Rat} (ha : sm a) (hb : sm b) : callN P W0 n (ι i_plus) [enc a, enc b] S = some (enc (a + b), S) := by
  obtain ⟨k, rfl⟩ : ∃ k, n = k + 1 := ⟨n - 1, by omega⟩
  rw [H.go (d := d_plus) rfl rfl rfl]
  obtain ⟨m1, m2, m3, m4, m5⟩ := sm_mul ha hb
  obtain ⟨hd, hs⟩ := den_ok ha hb
  have hl := cl_lowest (H.sub (l' := dep_lowest) rfl) (n := k) (by omega) (S := S) (a := a.num * b.den + b.num * a.den) hd (Nat.lt_of_lt_of_le hs big)
  rw [add_divInt] at hl
  unfold enc at hl ⊢
  dsimp? [d_plus, m1, m2, m3, m4, m5, hl]
theorem cl_minus (H : Has P ι dep_minus) (hn : 2 ≤ n) {a b : Rat} (ha : sm a) (hb : sm b) : callN P W0 n (ι i_minus) [enc a, enc b] S = some (enc (a - b), S) := by
  obtain ⟨k, rfl⟩ : ∃ k, n = k + 1 := ⟨n - 1, by omega⟩
  rw [H.go (d := d_minus) rfl rfl rfl]
  obtain ⟨m1, m2, m3, m4, m5⟩ := sm_mul ha hb
  obtain ⟨hd, hs⟩ := den_ok ha hb
  have hl := cl_lowest (H.sub (l' := dep_lowest) rfl) (n := k) (by omega) (S := S) (a := a.num * b.den - b.num * a.den) hd (Nat.lt_of_lt_of_le hs big)
  rw [sub_divInt] at hl
  unfold enc at hl ⊢
  dsimp? [d_minus, m1, m2, m3, m4, m5, hl]
theorem cl_times (H : Has P ι dep_times) (hn : 2 ≤ n) {a b : Rat} (ha : sm a) (hb : sm b) : callN P W0 n (ι i_times) [enc a, enc b] S = some (enc (a * b), S) := by
  obtain ⟨k, rfl⟩ : ∃ k, n = k + 1 := ⟨n - 1, by omega⟩
  rw [H.go (d := d_times) rfl rfl rfl]
  obtain ⟨m1, m2, m3, m4, m5⟩ := sm_mul ha hb
  obtain ⟨hd, hs⟩ := den_ok ha hb
  have hl := cl_lowest (H.sub (l' := dep_lowest) rfl) (n := k) (by omega) (S := S) (a := a.num * b.num) hd (Nat.lt_of_lt_of_le hs big)
  rw [mul_divInt] at hl
  unfold enc at hl ⊢
  dsimp? [d_times, m1, m2, m3, m4, m5, hl]
theorem cl_over (H : Has P ι dep_over) (hn : 2 ≤ n) {a b : Rat} (ha : sm a) (hb : sm b) (h0 : b ≠ 0) : callN P W0 n (ι i_over) [enc a, enc b] S = some (enc (a / b), S) := by
  obtain ⟨k, rfl⟩ : ∃ k, n = k + 1 := ⟨n - 1, by omega⟩
  rw [H.go (d := d_over) rfl rfl rfl]
  obtain ⟨m1, m2, m3, m4, m5⟩ := sm_mul ha hb
  obtain ⟨hd, hs⟩ := over_ok ha hb h0
  have hl := cl_lowest (H.sub (l' := dep_lowest) rfl) (n := k) (by omega) (S := S) (a := a.num * b.den) hd (Nat.lt_of_lt_of_le hs big)
  rw [div_divInt h0] at hl
  unfold enc at hl ⊢
  dsimp? [d_over, m1, m2, m3, m4, m5, hl]
theorem cl_opposite (H : Has P ι dep_opposite) (hn : 1 ≤ n) {a : Rat} : callN P W0 n (ι i_opposite) [enc a] S = some (enc (-a), S) := by
  obtain ⟨k, rfl⟩ : ∃ k, n = k + 1 := ⟨n - 1, by omega⟩
  rw [H.go (d := d_opposite) rfl rfl rfl]
  rw [neg_enc]
  unfold enc
  dsimp? [d_opposite]
end PyM

set_option linter.all false
set_option maxRecDepth 100000
set_option exponentiation.threshold 20000
/-! PyN, part 3: the law's own fractions. -/
namespace PyM
local macro_rules | `(tactic| dsimp? [$ls,*]) => `(tactic| simp only [bnd_ok, bnd_no, get0, getS, getB0, getBo, getBS, ev_cst, ev_var, ev_bor, ev_bop, ev_neg, ev_notv, ev_band, ev_borr, ev_cmp, ev_chn, ev_ite, ev_call, ev_b1, ev_b2, ev_min3, ev_tup, ev_lst, ev_mkl, ev_ix, ev_sl, ev_rev, ev_lr, ev_lc, evA_nil, evA_cons, evO_nop, evO_cons, evT_band, evT_borr, evT_notv, evT_cmp, evT_chn, evT_call, evT_b1, evT_var, evQ_nil, evQ_cons, evI_S, evI_R1, evI_R2, evI_R3, evI_Z, evI_E, ex_skip, ex_seq, ex_asg, ex_asgO, ex_par, ex_seti, ex_swp, ex_app, ex_ext, ex_ifs, ex_forS, ex_ret, ex_expr, ex_frz, sg0, sgS, ss0, ssS, setTg_nm, setTg_tup, setTgs_nil, setTgs_cons, tgN_nm, tgN_cons, tgN_nil, wipe_nil, wipe_cons, par_nil, par_f, par_t, isB_cst, isB_var, isB_bop, isB_neg, isB_notv, isB_band, isB_borr, isB_cmp, isB_chn, isB_ite, isB_call, isB_b1, isB_b2, isB_min3, isB_tup, isB_lst, isB_ix, isB_sl, isB_rev, isB_lr, isB_lc, isB_tl, isB_mkl, op_add, op_addL, op_addT, op_sub, op_mul, op_mulL, op_mulT, op_fdiv, op_mod, c_lt, c_le, c_gt, c_ge, c_eqi, c_nei, ixF_L, ixF_T, ixF_loc, setiF_c0, setiF_c1, frzF_o0, frzF_v0, frzF_o1, frzF_v1, frzF_o2, frzF_v2, frzF_o3, frzF_v3, frzF_o4, frzF_v4, frzF_o5, frzF_v5, frzF_o6, frzF_v6, frzF_o7, frzF_v7, frzF_o8, frzF_v8, frzF_o9, frzF_v9, frzF_o10, frzF_v10,  sl_L, sl_T, rev_L, rev_T, seq_L, seq_T, o2_gcd, o2_max, o2_min, o1_lenL, o1_lenT, o1_abs, o1_int, o1_listL, o1_listT, o1_listS, o1_tupL, o1_tupT, o1_isTupT, o1_isTupL, o1_isTupI, o1_isIntI, o1_isIntT, o1_isIntL, o1_isBoolI, o1_isBoolT, o1_isBoolL, lim_n0, lim_n1, lim_n2, lim_n3, lim_n4, lim_n5, lim_n6, lim_n7, lim_n8, at0, at1, lcF_eq, fsF_eq, fin_ret, fin_next, Option.map_some, Option.map_none, List.map_cons, List.map_nil, List.length_cons, List.length_nil, List.replicate, List.cons_append, List.nil_append, List.append_nil, Nat.reduceAdd, Nat.reduceSub, Nat.reduceLT, Nat.reduceLeDiff, Bool.or_false, Bool.or_true, Bool.and_true, Bool.true_and, Bool.false_and, Bool.and_false, Bool.false_or, Bool.true_or, Bool.false_eq_true, Bool.not_true, Bool.not_false, if_true, if_false, reduceIte, decide_true, decide_false, Int.reduceEq, Int.reduceNe, Int.reduceLT, Int.reduceLE, Int.reduceNeg, ne_eq, not_false_eq_true, not_true_eq_false, $ls,*])
open PySem PyD B
variable {P : List Def} {ι : Nat → Nat} {n : Nat} {S : Store}
theorem half {a b : Nat} (hb : 0 < b) (h : 0 < a % b) : b % (a % b) * 2 < b := by
  have h1 : a % b < b := Nat.mod_lt _ hb
  have h2 : b % (a % b) < a % b := Nat.mod_lt _ h
  have h3 : a % b * (b / (a % b)) + b % (a % b) = b := Nat.div_add_mod b (a % b)
  have h4 : 1 ≤ b / (a % b) := (Nat.one_le_div_iff h).mpr (by omega)
  have h5 : a % b ≤ a % b * (b / (a % b)) := Nat.le_mul_of_pos_right _ h4
  omega
theorem loop_sh {f : PyD.D → PyD.Env → Store → Option (Res × Store)} {S : Store} (hf : ∀ d (a b : Nat) z, f d [.val (.int a), .val (.int b), z] S = if b = 0 then some (.ret (.int a), S) else some (.next [.val (.int b), .val (.int ((a % b : Nat) : Int)), .val d], S)) :
    ∀ (m : Nat) (ds : List PyD.D) (a b : Nat) z, b < 2 ^ m → 2 * m + 1 ≤ ds.length → loopF f ds [.val (.int a), .val (.int b), z] S = some (.ret (.int ((Nat.gcd a b : Nat) : Int)), S)
  | 0, [], a, b, z, hb, hl => by simp at hl
  | 0, d :: ds, a, b, z, hb, hl => by
    have : b = 0 := by simpa using hb
    subst this
    rw [loopF, hf]
    simp [bnd_ok]
  | m + 1, ds, a, b, z, hb, hl => by
    rcases ds with _ | ⟨d, _ | ⟨d2, ds⟩⟩
    · simp at hl
    · simp at hl
    rw [loopF, hf]
    by_cases c : b = 0
    · subst c; simp [bnd_ok]
    rw [if_neg c]
    show loopF f (d2 :: ds) [.val (.int b), .val (.int ((a % b : Nat) : Int)), .val d] S = _
    rw [loopF, hf]
    by_cases c2 : a % b = 0
    · rw [if_pos c2]
      show some (Res.ret (.int (b : Int)), S) = _
      rw [Nat.gcd_comm, Nat.gcd_rec, c2, Nat.gcd_zero_left]
    · rw [if_neg c2]
      have h := half (a := a) (by omega) (Nat.pos_of_ne_zero c2)
      have ih := loop_sh hf m ds (a % b) (b % (a % b)) (.val d2) (by rw [Nat.pow_succ] at hb; omega) (by simp at hl; omega)
      show loopF f ds [.val (.int ((a % b : Nat) : Int)), .val (.int ((b % (a % b) : Nat) : Int)), .val d2] S = _
      rw [ih]
      have e : Nat.gcd (a % b) (b % (a % b)) = Nat.gcd a b := by
        rw [Nat.gcd_comm (a % b), ← Nat.gcd_rec, ← Nat.gcd_rec, Nat.gcd_comm]
      rw [e]
theorem fmod_nat {a b : Nat} : (a : Int).fmod (b : Int) = ((a % b : Nat) : Int) := by
  rw [Int.fmod_eq_emod_of_nonneg _ (Int.natCast_nonneg _)]
  rfl
theorem cl_shared (H : Has P ι dep__law_shared) (hn : 1 ≤ n) {a b : Int} (hb : b.natAbs < 2 ^ 4400) : callN P W0 n (ι i__law_shared) [.int a, .int b] S = some ((.int ((Nat.gcd a.natAbs b.natAbs : Nat) : Int)), S) := by
  obtain ⟨k, rfl⟩ : ∃ k, n = k + 1 := ⟨n - 1, by omega⟩
  rw [H.go (d := d__law_shared) rfl rfl rfl]
  have hr : rngOk 9000 = true := by decide
  dsimp? [d__law_shared, hr]
  rw [loop_sh (S := S) ?_ 4400 _ a.natAbs b.natAbs .no hb (by rw [show (9000 : Int) = ((9000 : Nat) : Int) from rfl, rng_len]; omega)]
  · dsimp? []
  · intro d a b z
    by_cases c : b = 0
    · subst c; dsimp? [Int.natCast_zero]
    · have c' : ((b : Nat) : Int) ≠ 0 := by omega
      dsimp? [c, c', fmod_nat]
theorem low_neg' {a b : Int} (hb : b < 0) : a.fdiv (-((Nat.gcd a.natAbs b.natAbs : Nat) : Int)) = (Rat.divInt a b).num ∧ b.fdiv (-((Nat.gcd a.natAbs b.natAbs : Nat) : Int)) = ((Rat.divInt a b).den : Nat) := by
  obtain ⟨e1, e2⟩ := low_neg (a := a) hb
  have hg : ((Nat.gcd a.natAbs b.natAbs : Nat) : Int) ≠ 0 := by
    intro z
    have : Nat.gcd a.natAbs b.natAbs = 0 := by omega
    have := Nat.eq_zero_of_gcd_eq_zero_right this
    omega
  have key : ∀ x : Int, ((Nat.gcd a.natAbs b.natAbs : Nat) : Int) ∣ x → x.fdiv (-((Nat.gcd a.natAbs b.natAbs : Nat) : Int)) = -(x.fdiv ((Nat.gcd a.natAbs b.natAbs : Nat) : Int)) := by
    intro x ⟨c, hc⟩
    rw [hc, Int.mul_fdiv_cancel_left _ hg]
    rw [show ((Nat.gcd a.natAbs b.natAbs : Nat) : Int) * c = (-((Nat.gcd a.natAbs b.natAbs : Nat) : Int)) * (-c) by rw [Int.neg_mul_neg], Int.mul_fdiv_cancel_left _ (by omega)]
  rw [key a (Int.ofNat_dvd_left.mpr (Nat.gcd_dvd_left _ _)), key b (Int.ofNat_dvd_left.mpr (Nat.gcd_dvd_right _ _))]
  exact ⟨e1, e2⟩
theorem cl_llow (H : Has P ι dep__law_lowest) (hn : 2 ≤ n) {a b : Int} (hb : b ≠ 0) (h : b.natAbs < 2 ^ 4400) : callN P W0 n (ι i__law_lowest) [.int a, .int b] S = some ((enc (Rat.divInt a b)), S) := by
  obtain ⟨k, rfl⟩ : ∃ k, n = k + 1 := ⟨n - 1, by omega⟩
  rw [H.go (d := d__law_lowest) rfl rfl rfl]
  have hg0 : Nat.gcd a.natAbs b.natAbs ≠ 0 := by
    intro z
    exact hb (by have := Nat.eq_zero_of_gcd_eq_zero_right z; omega)
  have hg1 : Nat.gcd a.natAbs b.natAbs ≤ b.natAbs := Nat.gcd_le_right _ (by omega)
  have w : (2 : Nat) ^ 4400 ≤ 2 ^ 8999 := Nat.pow_le_pow_right (by omega) (by omega)
  have hd : divOk ((Nat.gcd a.natAbs b.natAbs : Nat) : Int) = true := divOk_of (by omega) (by omega)
  have hd2 : divOk (-((Nat.gcd a.natAbs b.natAbs : Nat) : Int)) = true := divOk_of (by omega) (by omega)
  have hs := cl_shared (H.sub (l' := dep__law_shared) rfl) (n := k) (by omega) (S := S) (a := a) (b := b) h
  by_cases hp : 0 < b
  · obtain ⟨e1, e2⟩ := low_pos (a := a) hp
    dsimp? [d__law_lowest, hp, hs, hd]
    unfold enc
    rw [e1, e2]
  · have hn : b < 0 := by omega
    obtain ⟨e1, e2⟩ := low_neg' (a := a) hn
    dsimp? [d__law_lowest, hp, hs, hd2]
    unfold enc
    rw [e1, e2]
theorem cl_lplus (H : Has P ι dep__law_plus) (hn : 3 ≤ n) {a b : Rat} (ha : sm a) (hb : sm b) : callN P W0 n (ι i__law_plus) [enc a, enc b] S = some ((enc (a + b)), S) := by
  obtain ⟨k, rfl⟩ : ∃ k, n = k + 1 := ⟨n - 1, by omega⟩
  rw [H.go (d := d__law_plus) rfl rfl rfl]
  obtain ⟨m1, m2, m3, m4, m5⟩ := sm_mul ha hb
  obtain ⟨hd, hs⟩ := den_ok ha hb
  have hl := cl_llow (H.sub (l' := dep__law_lowest) rfl) (n := k) (by omega) (S := S) (a := a.num * b.den + b.num * a.den) hd (Nat.lt_of_lt_of_le hs big2)
  rw [add_divInt] at hl
  unfold enc at hl ⊢
  dsimp? [d__law_plus, m1, m2, m3, m4, m5, hl]
theorem cl_lless (H : Has P ι dep__law_less) (hn : 3 ≤ n) {a b : Rat} (ha : sm a) (hb : sm b) : callN P W0 n (ι i__law_less) [enc a, enc b] S = some ((enc (a - b)), S) := by
  obtain ⟨k, rfl⟩ : ∃ k, n = k + 1 := ⟨n - 1, by omega⟩
  rw [H.go (d := d__law_less) rfl rfl rfl]
  obtain ⟨m1, m2, m3, m4, m5⟩ := sm_mul ha hb
  obtain ⟨hd, hs⟩ := den_ok ha hb
  have hl := cl_llow (H.sub (l' := dep__law_lowest) rfl) (n := k) (by omega) (S := S) (a := a.num * b.den - b.num * a.den) hd (Nat.lt_of_lt_of_le hs big2)
  rw [sub_divInt] at hl
  unfold enc at hl ⊢
  dsimp? [d__law_less, m1, m2, m3, m4, m5, hl]
theorem cl_ltimes (H : Has P ι dep__law_times) (hn : 3 ≤ n) {a b : Rat} (ha : sm a) (hb : sm b) : callN P W0 n (ι i__law_times) [enc a, enc b] S = some ((enc (a * b)), S) := by
  obtain ⟨k, rfl⟩ : ∃ k, n = k + 1 := ⟨n - 1, by omega⟩
  rw [H.go (d := d__law_times) rfl rfl rfl]
  obtain ⟨m1, m2, m3, m4, m5⟩ := sm_mul ha hb
  obtain ⟨hd, hs⟩ := den_ok ha hb
  have hl := cl_llow (H.sub (l' := dep__law_lowest) rfl) (n := k) (by omega) (S := S) (a := a.num * b.num) hd (Nat.lt_of_lt_of_le hs big2)
  rw [mul_divInt] at hl
  unfold enc at hl ⊢
  dsimp? [d__law_times, m1, m2, m3, m4, m5, hl]
theorem cl_lover (H : Has P ι dep__law_over) (hn : 3 ≤ n) {a b : Rat} (ha : sm a) (hb : sm b) (h0 : b ≠ 0) : callN P W0 n (ι i__law_over) [enc a, enc b] S = some ((enc (a / b)), S) := by
  obtain ⟨k, rfl⟩ : ∃ k, n = k + 1 := ⟨n - 1, by omega⟩
  rw [H.go (d := d__law_over) rfl rfl rfl]
  obtain ⟨m1, m2, m3, m4, m5⟩ := sm_mul ha hb
  obtain ⟨hd, hs⟩ := over_ok ha hb h0
  have hl := cl_llow (H.sub (l' := dep__law_lowest) rfl) (n := k) (by omega) (S := S) (a := a.num * b.den) hd (Nat.lt_of_lt_of_le hs big2)
  rw [div_divInt h0] at hl
  unfold enc at hl ⊢
  dsimp? [d__law_over, m1, m2, m3, m4, m5, hl]
end PyM

set_option linter.all false
set_option maxRecDepth 100000
set_option exponentiation.threshold 20000
/-! PyN, part 4: the law's draws. -/
namespace PyM
local macro_rules | `(tactic| dsimp? [$ls,*]) => `(tactic| simp only [bnd_ok, bnd_no, get0, getS, getB0, getBo, getBS, ev_cst, ev_var, ev_bor, ev_bop, ev_neg, ev_notv, ev_band, ev_borr, ev_cmp, ev_chn, ev_ite, ev_call, ev_b1, ev_b2, ev_min3, ev_tup, ev_lst, ev_mkl, ev_ix, ev_sl, ev_rev, ev_lr, ev_lc, evA_nil, evA_cons, evO_nop, evO_cons, evT_band, evT_borr, evT_notv, evT_cmp, evT_chn, evT_call, evT_b1, evT_var, evQ_nil, evQ_cons, evI_S, evI_R1, evI_R2, evI_R3, evI_Z, evI_E, ex_skip, ex_seq, ex_asg, ex_asgO, ex_par, ex_seti, ex_swp, ex_app, ex_ext, ex_ifs, ex_forS, ex_ret, ex_expr, ex_frz, sg0, sgS, ss0, ssS, setTg_nm, setTg_tup, setTgs_nil, setTgs_cons, tgN_nm, tgN_cons, tgN_nil, wipe_nil, wipe_cons, par_nil, par_f, par_t, isB_cst, isB_var, isB_bop, isB_neg, isB_notv, isB_band, isB_borr, isB_cmp, isB_chn, isB_ite, isB_call, isB_b1, isB_b2, isB_min3, isB_tup, isB_lst, isB_ix, isB_sl, isB_rev, isB_lr, isB_lc, isB_tl, isB_mkl, op_add, op_addL, op_addT, op_sub, op_mul, op_mulL, op_mulT, op_fdiv, op_mod, c_lt, c_le, c_gt, c_ge, c_eqi, c_nei, ixF_L, ixF_T, ixF_loc, setiF_c0, setiF_c1, frzF_o0, frzF_v0, frzF_o1, frzF_v1, frzF_o2, frzF_v2, frzF_o3, frzF_v3, frzF_o4, frzF_v4, frzF_o5, frzF_v5, frzF_o6, frzF_v6, frzF_o7, frzF_v7, frzF_o8, frzF_v8, frzF_o9, frzF_v9, frzF_o10, frzF_v10,  sl_L, sl_T, rev_L, rev_T, seq_L, seq_T, o2_gcd, o2_max, o2_min, o1_lenL, o1_lenT, o1_abs, o1_int, o1_listL, o1_listT, o1_listS, o1_tupL, o1_tupT, o1_isTupT, o1_isTupL, o1_isTupI, o1_isIntI, o1_isIntT, o1_isIntL, o1_isBoolI, o1_isBoolT, o1_isBoolL, lim_n0, lim_n1, lim_n2, lim_n3, lim_n4, lim_n5, lim_n6, lim_n7, lim_n8, at0, at1, lcF_eq, fsF_eq, fin_ret, fin_next, Option.map_some, Option.map_none, List.map_cons, List.map_nil, List.length_cons, List.length_nil, List.replicate, List.cons_append, List.nil_append, List.append_nil, Nat.reduceAdd, Nat.reduceSub, Nat.reduceLT, Nat.reduceLeDiff, Bool.or_false, Bool.or_true, Bool.and_true, Bool.true_and, Bool.false_and, Bool.and_false, Bool.false_or, Bool.true_or, Bool.false_eq_true, Bool.not_true, Bool.not_false, if_true, if_false, reduceIte, decide_true, decide_false, Int.reduceEq, Int.reduceNe, Int.reduceLT, Int.reduceLE, Int.reduceNeg, ne_eq, not_false_eq_true, not_true_eq_false, $ls,*])
open PySem PyD B
variable {P : List Def} {ι : Nat → Nat} {n : Nat} {S : Store}
abbrev cupS (a b : Int) (X : Store) : Store := [.int a, .int b] :: X
structure CupOk (a b : Int) : Prop where
  a0 : 0 ≤ a
  b0 : 0 ≤ b
  b1 : b < 2 ^ 32
theorem mulS {i j : Int} (h : j.natAbs < 2 ^ 64) : mulOk i j = true := by
  unfold mulOk
  rw [Bool.or_eq_true, Bool.or_eq_true]
  exact .inr (.inr (decide_eq_true h))
theorem fmod_rng {i j : Int} (h : 0 < j) : 0 ≤ i.fmod j ∧ i.fmod j < j := ⟨Int.fmod_nonneg_of_pos _ h, Int.fmod_lt_of_pos _ h⟩
theorem cl_roll (H : Has P ι dep__law_roll) {a b : Int} (ok : CupOk a b) (many : Nat) (h0 : 0 < many) (h1 : many < 2 ^ 60) : ∃ (r : Nat) (a' b' : Int), r < many ∧ CupOk a' b' ∧ ∀ {n} {X : Store}, 1 ≤ n → callN P W0 n (ι i__law_roll) [locD 0, .int (many : Nat)] (cupS a b X) = some (.int (r : Nat), cupS a' b' X) := by
  have hm : ((many : Nat) : Int) ≠ 0 := by omega
  have hd : divOk ((many : Nat) : Int) = true := divOk_of hm (by
    rw [Int.natAbs_natCast]
    exact Nat.lt_of_lt_of_le h1 (Nat.pow_le_pow_right (by omega) (by omega)))
  by_cases hp : 0 < a
  · obtain ⟨q1, q2⟩ := fmod_rng (i := a) (j := ((many : Nat) : Int)) (by omega)
    refine ⟨(a.fmod many).toNat, a.fdiv many, b, by omega, ⟨Int.fdiv_nonneg ok.a0 (by omega), ok.b0, ok.b1⟩, ?_⟩
    intro n X hn
    obtain ⟨k, rfl⟩ : ∃ k, n = k + 1 := ⟨n - 1, by omega⟩
    rw [H.go (d := d__law_roll) rfl rfl rfl, Int.toNat_of_nonneg q1]
    have hz : ¬ many = 0 := by omega
    dsimp? [d__law_roll, hp, hd, hm, cupS]
  · have ha : a = 0 := by have := ok.a0; omega
    subst ha
    obtain ⟨c1, c2⟩ := fmod_rng (i := b * 31013 + 8017) (j := 2147483563) (by decide)
    generalize hc : (b * 31013 + 8017).fmod 2147483563 = c at c1 c2
    obtain ⟨q1, q2⟩ := fmod_rng (i := ((c * (c + 239)).fmod 2147483579).fdiv 829) (j := ((many : Nat) : Int)) (by omega)
    refine ⟨((((c * (c + 239)).fmod 2147483579).fdiv 829).fmod many).toNat, 0, c, by omega, ⟨by omega, c1, by omega⟩, ?_⟩
    intro n X hn
    obtain ⟨k, rfl⟩ : ∃ k, n = k + 1 := ⟨n - 1, by omega⟩
    rw [H.go (d := d__law_roll) rfl rfl rfl, Int.toNat_of_nonneg q1]
    have hz : ¬ many = 0 := by omega
    have m1 : mulOk b 31013 = true := mulS (by decide)
    have m2 : mulOk c (c + 239) = true := mulS (by omega)
    have d1 : divOk 829 = true := divOk_of (by decide) (Nat.lt_of_lt_of_le (show (829 : Int).natAbs < 2 ^ 10 by decide) (Nat.pow_le_pow_right (by omega) (by omega)))
    dsimp? [d__law_roll, hm, m1, hc, m2, d1, cupS]
theorem at_nat {xs : List PyD.D} {r : Nat} (h : r < xs.length) : atD xs (r : Nat) = some (xs[r]'h) := by
  unfold atD L2.atI L2.ixN
  rw [if_pos (by omega), if_pos (by omega)]
  exact List.getElem?_eq_getElem h
theorem cl_some (H : Has P ι dep__law_some) {a b : Int} (ok : CupOk a b) (xs : List PyD.D) (h0 : 0 < xs.length) (h1 : xs.length < 2 ^ 60) : ∃ (d : PyD.D) (a' b' : Int), d ∈ xs ∧ CupOk a' b' ∧ ∀ {n} {X : Store}, 2 ≤ n → callN P W0 n (ι i__law_some) [locD 0, .list xs] (cupS a b X) = some (d, cupS a' b' X) := by
  obtain ⟨r, a', b', hr, ok', h⟩ := cl_roll (H.sub rfl) ok xs.length h0 h1
  refine ⟨xs[r]'hr, a', b', List.getElem_mem hr, ok', ?_⟩
  intro n X hn
  obtain ⟨k, rfl⟩ : ∃ k, n = k + 1 := ⟨n - 1, by omega⟩
  rw [H.go (d := d__law_some) rfl rfl rfl]
  have hc := h (n := k) (X := X) (by omega)
  dsimp? [d__law_some, hc, at_nat hr]
def isFr (q : Rat) : Prop := ∃ n d : Int, n ∈ ([0, 1, -1, 2, -2, 3, -3, 5, 7] : List Int) ∧ d ∈ ([1, 2, 3, 4] : List Int) ∧ q = Rat.divInt n d
def isDn (q : Rat) : Prop := ∃ n d : Int, n ∈ ([1, -1, 2, 3, -2, 5] : List Int) ∧ d ∈ ([1, 2, 3] : List Int) ∧ q = Rat.divInt n d
theorem cl_fraction (H : Has P ι dep__law_fraction) {a b : Int} (ok : CupOk a b) : ∃ (q : Rat) (a' b' : Int), isFr q ∧ CupOk a' b' ∧ ∀ {n} {X : Store}, 3 ≤ n → callN P W0 n (ι i__law_fraction) [locD 0] (cupS a b X) = some (enc q, cupS a' b' X) := by
  obtain ⟨d1, a1, b1, m1, ok1, h1⟩ := cl_some (H.sub rfl) ok [.int 0, .int 1, .int 1, .int (-1), .int 2, .int (-2), .int 3, .int (-3), .int 5, .int 7] (by decide) (by decide)
  obtain ⟨d2, a2, b2, m2, ok2, h2⟩ := cl_some (H.sub rfl) ok1 [.int 1, .int 1, .int 1, .int 2, .int 3, .int 4] (by decide) (by decide)
  obtain ⟨n, rfl, hn⟩ : ∃ n : Int, d1 = .int n ∧ n ∈ ([0, 1, -1, 2, -2, 3, -3, 5, 7] : List Int) := by
    simp only [List.mem_cons, List.not_mem_nil, or_false] at m1
    rcases m1 with h | h | h | h | h | h | h | h | h | h <;> exact ⟨_, h, by decide⟩
  obtain ⟨d, rfl, hd⟩ : ∃ n : Int, d2 = .int n ∧ n ∈ ([1, 2, 3, 4] : List Int) := by
    simp only [List.mem_cons, List.not_mem_nil, or_false] at m2
    rcases m2 with h | h | h | h | h | h <;> exact ⟨_, h, by decide⟩
  have hb : d ≠ 0 ∧ d.natAbs < 2 ^ 4400 := by
    have hw : (2 : Nat) ^ 10 ≤ 2 ^ 4400 := Nat.pow_le_pow_right (by omega) (by omega)
    simp only [List.mem_cons, List.not_mem_nil, or_false] at hd
    rcases hd with h | h | h | h <;> subst h <;> exact ⟨by decide, Nat.lt_of_lt_of_le (by decide) hw⟩
  refine ⟨Rat.divInt n d, a2, b2, ⟨n, d, hn, hd, rfl⟩, ok2, ?_⟩
  intro n X hn
  obtain ⟨k, rfl⟩ : ∃ k, n = k + 1 := ⟨n - 1, by omega⟩
  rw [H.go (d := d__law_fraction) rfl rfl rfl]
  have c3 := fun x => cl_llow (H.sub rfl) (n := k) (by omega) (a := x) (S := cupS a2 b2 X) hb.1 hb.2
  have c1 := h1 (n := k) (X := X) (by omega)
  have c2 := h2 (n := k) (X := X) (by omega)
  have hL : ∀ xs : List PyD.D, xs.length ≤ 100000 → lim xs = some xs := fun xs h => if_pos h
  dsimp? [d__law_fraction, Int.reduceNeg, hL, Nat.reduceLeDiff, c1, c2, c3]
theorem cl_down (H : Has P ι dep__law_down) {a b : Int} (ok : CupOk a b) : ∃ (q : Rat) (a' b' : Int), isDn q ∧ CupOk a' b' ∧ ∀ {n} {X : Store}, 3 ≤ n → callN P W0 n (ι i__law_down) [locD 0] (cupS a b X) = some (enc q, cupS a' b' X) := by
  obtain ⟨d1, a1, b1, m1, ok1, h1⟩ := cl_some (H.sub rfl) ok [.int 1, .int 1, .int 1, .int (-1), .int 2, .int 3, .int (-2), .int 5] (by decide) (by decide)
  obtain ⟨d2, a2, b2, m2, ok2, h2⟩ := cl_some (H.sub rfl) ok1 [.int 1, .int 1, .int 2, .int 3] (by decide) (by decide)
  obtain ⟨n, rfl, hn⟩ : ∃ n : Int, d1 = .int n ∧ n ∈ ([1, -1, 2, 3, -2, 5] : List Int) := by
    simp only [List.mem_cons, List.not_mem_nil, or_false] at m1
    rcases m1 with h | h | h | h | h | h | h | h <;> exact ⟨_, h, by decide⟩
  obtain ⟨d, rfl, hd⟩ : ∃ n : Int, d2 = .int n ∧ n ∈ ([1, 2, 3] : List Int) := by
    simp only [List.mem_cons, List.not_mem_nil, or_false] at m2
    rcases m2 with h | h | h | h <;> exact ⟨_, h, by decide⟩
  have hb : d ≠ 0 ∧ d.natAbs < 2 ^ 4400 := by
    have hw : (2 : Nat) ^ 10 ≤ 2 ^ 4400 := Nat.pow_le_pow_right (by omega) (by omega)
    simp only [List.mem_cons, List.not_mem_nil, or_false] at hd
    rcases hd with h | h | h <;> subst h <;> exact ⟨by decide, Nat.lt_of_lt_of_le (by decide) hw⟩
  refine ⟨Rat.divInt n d, a2, b2, ⟨n, d, hn, hd, rfl⟩, ok2, ?_⟩
  intro n X hn
  obtain ⟨k, rfl⟩ : ∃ k, n = k + 1 := ⟨n - 1, by omega⟩
  rw [H.go (d := d__law_down) rfl rfl rfl]
  have c3 := fun x => cl_llow (H.sub rfl) (n := k) (by omega) (a := x) (S := cupS a2 b2 X) hb.1 hb.2
  have c1 := h1 (n := k) (X := X) (by omega)
  have c2 := h2 (n := k) (X := X) (by omega)
  have hL : ∀ xs : List PyD.D, xs.length ≤ 100000 → lim xs = some xs := fun xs h => if_pos h
  dsimp? [d__law_down, Int.reduceNeg, hL, Nat.reduceLeDiff, c1, c2, c3]
/-- a comprehension that draws at every turn (k the depth) -/
theorem loop_draw {f : Nat → PyD.D → Store → Option (List PyD.D × Store)} {Q : Rat → Prop} {c : Nat} (hf : ∀ a b, CupOk a b → ∃ (q : Rat) (a' b' : Int), Q q ∧ CupOk a' b' ∧ ∀ k d (X : Store), c ≤ k → f k d (cupS a b X) = some ([enc q], cupS a' b' X)) :
    ∀ (ds : List PyD.D) a b, CupOk a b → ∃ (qs : List Rat) (a' b' : Int), (∀ q ∈ qs, Q q) ∧ qs.length = ds.length ∧ CupOk a' b' ∧ ∀ k (X : Store), c ≤ k → loopC (f k) ds (cupS a b X) = some (qs.map enc, cupS a' b' X)
  | [], a, b, ok => ⟨[], a, b, by simp, rfl, ok, fun _ _ _ => rfl⟩
  | d :: ds, a, b, ok => by
    obtain ⟨q, a1, b1, h1, ok1, e1⟩ := hf a b ok
    obtain ⟨qs, a2, b2, h2, hl, ok2, e2⟩ := loop_draw hf ds a1 b1 ok1
    refine ⟨q :: qs, a2, b2, fun x hx => ?_, by simp [hl], ok2, fun k X hk => ?_⟩
    · rcases List.mem_cons.mp hx with h | h
      · rw [h]; exact h1
      · exact h2 x h
    · rw [loopC, e1 k d X hk]
      show bnd (loopC (f k) ds (cupS a1 b1 X)) _ = _
      rw [e2 k X hk]
      rfl
def encL (qs : List Rat) : PyD.D := .tuple (qs.map enc)
def encS (as bs : List Rat) : PyD.D := .tuple [encL as, encL bs]
/-- a list of n draws of the def i, as a comprehension -/
theorem ev_draws {Q : Rat → Prop} {i c v t : Nat} (hd : ∀ {a b : Int}, CupOk a b → ∃ (q : Rat) (a' b' : Int), Q q ∧ CupOk a' b' ∧ ∀ {n} {X : Store}, c ≤ n → callN P W0 n i [locD 0] (cupS a b X) = some (enc q, cupS a' b' X))
    {ρ : PyD.Env} {m : Nat} (hm : m < 100) {a b : Int} (ok : CupOk a b) (hv : ∀ d, PyD.get ((ρ.set t .no).set t (.val d)) v = some (locD 0)) :
    ∃ (qs : List Rat) (a' b' : Int), (∀ q ∈ qs, Q q) ∧ qs.length = m ∧ CupOk a' b' ∧ ∀ k (X : Store), c ≤ k → loopC (lcF (callN P W0 k) (.nm t) .anil (.call i (.acons (.var v) .anil)) ρ) (rngD 0 (m : Nat)) (cupS a b X) = some (qs.map enc, cupS a' b' X) := by
  obtain ⟨qs, a', b', h1, h2, h3, h4⟩ := loop_draw (Q := Q) (c := c) (f := fun k => lcF (callN P W0 k) (.nm t) .anil (.call i (.acons (.var v) .anil)) ρ) (fun a b ok => by
    obtain ⟨q, a', b', e1, e2, e3⟩ := hd ok
    refine ⟨q, a', b', e1, e2, fun k d X hk => ?_⟩
    dsimp? [hv, e3 hk]) (rngD 0 (m : Nat)) a b ok
  exact ⟨qs, a', b', h1, by rw [h2, rng_len], h3, h4⟩
theorem cl_steps (H : Has P ι dep__law_steps) {a b : Int} (ok : CupOk a b) (n : Nat) (h0 : 0 < n) (h1 : n < 100) : ∃ (as bs : List Rat) (a' b' : Int), (∀ q ∈ as, isFr q) ∧ as.length = n ∧ (∀ q ∈ bs, isDn q) ∧ bs.length = n - 1 ∧ CupOk a' b' ∧ ∀ {k} {X : Store}, 4 ≤ k → callN P W0 k (ι i__law_steps) [locD 0, .int (n : Nat)] (cupS a b X) = some (encS as bs, cupS a' b' X) := by
  obtain ⟨as, a1, b1, p1, l1, ok1, e1⟩ := ev_draws (Q := isFr) (i := ι i__law_fraction) (c := 3) (fun {a b} ok => cl_fraction (H.sub rfl) ok) (t := 2) (v := 0) (ρ := [.val (locD 0), .val (.int (n : Nat)), .no]) h1 ok (fun d => rfl)
  obtain ⟨bs, a2, b2, p2, l2, ok2, e2⟩ := ev_draws (Q := isDn) (i := ι i__law_down) (c := 3) (fun {a b} ok => cl_down (H.sub rfl) ok) (t := 2) (v := 0) (ρ := [.val (locD 0), .val (.int (n : Nat)), .no]) (m := n - 1) (by omega) ok1 (fun d => rfl)
  refine ⟨as, bs, a2, b2, p1, l1, p2, l2, ok2, ?_⟩
  intro k X hk
  obtain ⟨k, rfl⟩ : ∃ m, k = m + 1 := ⟨k - 1, by omega⟩
  rw [H.go (d := d__law_steps) rfl rfl rfl]
  have f1 := e1 k X (by omega)
  have f2 := e2 k X (by omega)
  have e : ((n : Nat) : Int) - 1 = ((n - 1 : Nat) : Int) := by omega
  have g1 : lim (as.map enc) = some (as.map enc) := lim_ok (by rw [List.length_map]; omega)
  have g2 : lim (bs.map enc) = some (bs.map enc) := lim_ok (by rw [List.length_map]; omega)
  dsimp? [-lcF_eq, d__law_steps, rng_ok (show n < 2 ^ 60 by omega), rng_ok (show n - 1 < 2 ^ 60 by omega), e, f1, f2, g1, g2, encS, encL]
end PyM

set_option linter.all false
set_option maxRecDepth 100000
set_option exponentiation.threshold 20000
/-! PyN, part 5: plain data, sizes, sums, polynomials. -/
namespace PyM
local macro_rules | `(tactic| dsimp? [$ls,*]) => `(tactic| simp only [bnd_ok, bnd_no, get0, getS, getB0, getBo, getBS, ev_cst, ev_var, ev_bor, ev_bop, ev_neg, ev_notv, ev_band, ev_borr, ev_cmp, ev_chn, ev_ite, ev_call, ev_b1, ev_b2, ev_min3, ev_tup, ev_lst, ev_mkl, ev_ix, ev_sl, ev_rev, ev_lr, ev_lc, evA_nil, evA_cons, evO_nop, evO_cons, evT_band, evT_borr, evT_notv, evT_cmp, evT_chn, evT_call, evT_b1, evT_var, evQ_nil, evQ_cons, evI_S, evI_R1, evI_R2, evI_R3, evI_Z, evI_E, ex_skip, ex_seq, ex_asg, ex_asgO, ex_par, ex_seti, ex_swp, ex_app, ex_ext, ex_ifs, ex_forS, ex_ret, ex_expr, ex_frz, sg0, sgS, ss0, ssS, setTg_nm, setTg_tup, setTgs_nil, setTgs_cons, tgN_nm, tgN_cons, tgN_nil, wipe_nil, wipe_cons, par_nil, par_f, par_t, isB_cst, isB_var, isB_bop, isB_neg, isB_notv, isB_band, isB_borr, isB_cmp, isB_chn, isB_ite, isB_call, isB_b1, isB_b2, isB_min3, isB_tup, isB_lst, isB_ix, isB_sl, isB_rev, isB_lr, isB_lc, isB_tl, isB_mkl, op_add, op_addL, op_addT, op_sub, op_mul, op_mulL, op_mulT, op_fdiv, op_mod, c_lt, c_le, c_gt, c_ge, c_eqi, c_nei, ixF_L, ixF_T, ixF_loc, setiF_c0, setiF_c1, frzF_o0, frzF_v0, frzF_o1, frzF_v1, frzF_o2, frzF_v2, frzF_o3, frzF_v3, frzF_o4, frzF_v4, frzF_o5, frzF_v5, frzF_o6, frzF_v6, frzF_o7, frzF_v7, frzF_o8, frzF_v8, frzF_o9, frzF_v9, frzF_o10, frzF_v10,  sl_L, sl_T, rev_L, rev_T, seq_L, seq_T, o2_gcd, o2_max, o2_min, o1_lenL, o1_lenT, o1_abs, o1_int, o1_listL, o1_listT, o1_listS, o1_tupL, o1_tupT, o1_isTupT, o1_isTupL, o1_isTupI, o1_isIntI, o1_isIntT, o1_isIntL, o1_isBoolI, o1_isBoolT, o1_isBoolL, lim_n0, lim_n1, lim_n2, lim_n3, lim_n4, lim_n5, lim_n6, lim_n7, lim_n8, at0, at1, lcF_eq, fsF_eq, fin_ret, fin_next, Option.map_some, Option.map_none, List.map_cons, List.map_nil, List.length_cons, List.length_nil, List.replicate, List.cons_append, List.nil_append, List.append_nil, Nat.reduceAdd, Nat.reduceSub, Nat.reduceLT, Nat.reduceLeDiff, Bool.or_false, Bool.or_true, Bool.and_true, Bool.true_and, Bool.false_and, Bool.and_false, Bool.false_or, Bool.true_or, Bool.false_eq_true, Bool.not_true, Bool.not_false, if_true, if_false, reduceIte, decide_true, decide_false, Int.reduceEq, Int.reduceNe, Int.reduceLT, Int.reduceLE, Int.reduceNeg, ne_eq, not_false_eq_true, not_true_eq_false, $ls,*])
open PySem PyD B
variable {P : List Def} {ι : Nat → Nat} {n : Nat} {S : Store}
/-- plain data of no great depth -/
inductive Pl : Nat → PyD.D → Prop
  | int {k : Nat} {i : Int} : Pl k (.int i)
  | bool {k : Nat} {b : Bool} : Pl k (.bool b)
  | none {k : Nat} : Pl k .none
  | tup {k : Nat} {ds : List PyD.D} : (∀ d ∈ ds, Pl k d) → Pl (k + 1) (.tuple ds)
  | lst {k : Nat} {ds : List PyD.D} : (∀ d ∈ ds, Pl k d) → Pl (k + 1) (.list ds)
theorem lay_all {ds : List PyD.D} (h : ∀ d ∈ ds, PyData.canLay0 d = true) : PyData.canLayAll0 ds = true := by
  induction ds with
  | nil => simp [PyData.canLayAll0]
  | cons d ds ih =>
    simp [PyData.canLayAll0, h d (by simp), ih fun x hx => h x (by simp [hx])]
theorem depth_all {k : Nat} {ds : List PyD.D} (h : ∀ d ∈ ds, PyData.depth d ≤ k) : PyData.depthAll ds ≤ k := by
  induction ds with
  | nil => simp [PyData.depthAll]
  | cons d ds ih =>
    have h1 := h d (by simp)
    have h2 := ih fun x hx => h x (by simp [hx])
    simp only [PyData.depthAll]
    omega
theorem eqv_all {ds : List PyD.D} (h : ∀ d ∈ ds, PyData.eqv d d = true) : PyData.eqvAll ds ds = true := by
  induction ds with
  | nil => simp [PyData.eqvAll]
  | cons d ds ih =>
    simp [PyData.eqvAll, h d (by simp), ih fun x hx => h x (by simp [hx])]
theorem Pl.facts {k : Nat} {d : PyD.D} (h : Pl k d) : PyData.canLay0 d = true ∧ PyData.depth d ≤ k + 1 ∧ PyData.eqv d d = true := by
  induction h with
  | int => simp [PyData.canLay0, PyData.depth, PyData.eqv]
  | bool => simp [PyData.canLay0, PyData.depth, PyData.eqv]
  | none => simp [PyData.canLay0, PyData.depth, PyData.eqv]
  | @tup k ds _ ih =>
    have := lay_all fun d hd => (ih d hd).1
    have h2 := depth_all (k := k + 1) fun d hd => (ih d hd).2.1
    have h3 := eqv_all fun d hd => (ih d hd).2.2
    simp [PyData.canLay0, PyData.depth, PyData.eqv, this, h3]
    omega
  | @lst k ds _ ih =>
    have := lay_all fun d hd => (ih d hd).1
    have h2 := depth_all (k := k + 1) fun d hd => (ih d hd).2.1
    have h3 := eqv_all fun d hd => (ih d hd).2.2
    simp [PyData.canLay0, PyData.depth, PyData.eqv, this, h3]
    omega
theorem Pl.mono {k k' : Nat} {d : PyD.D} (h : Pl k d) (hk : k ≤ k') : Pl k' d := by
  induction h generalizing k' with
  | int => exact .int
  | bool => exact .bool
  | none => exact .none
  | @tup k ds _ ih =>
    obtain ⟨m, rfl⟩ : ∃ m, k' = m + 1 := ⟨k' - 1, by omega⟩
    exact .tup fun d hd => ih d hd (by omega)
  | @lst k ds _ ih =>
    obtain ⟨m, rfl⟩ : ∃ m, k' = m + 1 := ⟨k' - 1, by omega⟩
    exact .lst fun d hd => ih d hd (by omega)
theorem Pl.shaped {k : Nat} {d : PyD.D} (h : Pl k d) (hk : k ≤ 60) : SeqAt.shaped d = true := by
  obtain ⟨h1, h2, _⟩ := h.facts
  unfold SeqAt.shaped
  rw [h1, Bool.true_and]
  exact decide_eq_true (by omega)
theorem pl_enc {k : Nat} {q : Rat} : Pl (k + 1) (enc q) := .tup fun d hd => by
  simp only [List.mem_cons, List.not_mem_nil, or_false] at hd
  rcases hd with h | h <;> subst h <;> exact .int
theorem pl_encL {k : Nat} {qs : List Rat} : Pl (k + 2) (encL qs) := .tup fun d hd => by
  obtain ⟨q, _, rfl⟩ := List.mem_map.mp hd
  exact pl_enc
theorem eq_nilL {k : Nat} {xs : List PyD.D} (h : ∀ d ∈ xs, Pl k d) (hk : k ≤ 50) : opC .eq (.list xs) (.list []) = some xs.isEmpty := by
  show eqD (.list xs) (.list []) = _
  unfold eqD
  rw [(Pl.lst h).shaped (by omega), (Pl.lst (k := 0) (ds := []) (by simp)).shaped (by omega)]
  cases xs <;> rfl
theorem eq_nilT {k : Nat} {xs : List PyD.D} (h : ∀ d ∈ xs, Pl k d) (hk : k ≤ 50) : opC .eq (.tuple xs) (.tuple []) = some xs.isEmpty := by
  show eqD (.tuple xs) (.tuple []) = _
  unfold eqD
  rw [(Pl.tup h).shaped (by omega), (Pl.tup (k := 0) (ds := []) (by simp)).shaped (by omega)]
  cases xs <;> rfl
theorem ne_nilL {k : Nat} {xs : List PyD.D} (h : ∀ d ∈ xs, Pl k d) (hk : k ≤ 50) : opC .ne (.list xs) (.list []) = some (!xs.isEmpty) := by
  show (opC .eq (.list xs) (.list [])).map not = _
  rw [eq_nilL h hk]; rfl
theorem ne_nilT {k : Nat} {xs : List PyD.D} (h : ∀ d ∈ xs, Pl k d) (hk : k ≤ 50) : opC .ne (.tuple xs) (.tuple []) = some (!xs.isEmpty) := by
  show (opC .eq (.tuple xs) (.tuple [])).map not = _
  rw [eq_nilT h hk]; rfl
/-! ### parts of fractions -/
theorem ix_num {q : Rat} : ixF (enc q) (.int 0) S = some (.int q.num, S) := by
  unfold enc
  rw [ixF_T, at0]; rfl
theorem ix_den {q : Rat} : ixF (enc q) (.int 1) S = some (.int (q.den : Nat), S) := by
  unfold enc
  rw [ixF_T, at1]; rfl
theorem num0 {q : Rat} : (q.num = 0) = (q = 0) := propext Rat.num_eq_zero
theorem enc_zero : enc 0 = .tuple [.int 0, .int 1] := rfl
theorem enc_one : enc 1 = .tuple [.int 1, .int 1] := rfl
theorem atE {xs : List Rat} {m : Nat} {q : Rat} (h : xs[m]? = some q) : atD (xs.map enc) ((m : Nat) : Int) = some (enc q) := at_ok (by rw [List.getElem?_map, h]; rfl)
/-! ### sizes: a number of N parts of the size k -/
def Sz (k N : Nat) (q : Rat) : Prop := ∃ z : Int, q = Rat.divInt z ((60 ^ k : Nat) : Int) ∧ z.natAbs ≤ N * 3600 ^ k
theorem pow_ne {k : Nat} : ((60 ^ k : Nat) : Int) ≠ 0 := by
  have : 0 < 60 ^ k := Nat.pow_pos (by omega)
  omega
theorem Sz.zero {k N : Nat} : Sz k N 0 := ⟨0, by rw [Rat.zero_divInt], by simp⟩
theorem Sz.more {k N N' : Nat} {q : Rat} (h : Sz k N q) (hn : N ≤ N') : Sz k N' q := by
  obtain ⟨z, e, b⟩ := h
  exact ⟨z, e, Nat.le_trans b (Nat.mul_le_mul_right _ hn)⟩
theorem Sz.up {k N : Nat} {q : Rat} (h : Sz k N q) (hN : N ≤ 60) : Sz (k + 1) 1 q := by
  obtain ⟨z, e, b⟩ := h
  refine ⟨z * (60 : Nat), ?_, ?_⟩
  · rw [Nat.pow_succ, Int.natCast_mul, Rat.divInt_mul_right (by decide)]
    exact e
  · rw [Int.natAbs_mul, Int.natAbs_natCast, Nat.pow_succ, Nat.one_mul]
    have : N * 3600 ^ k ≤ 60 * 3600 ^ k := Nat.mul_le_mul_right _ hN
    omega
theorem Sz.mono {k k' : Nat} {q : Rat} (h : Sz k 1 q) (hk : k ≤ k') : Sz k' 1 q := by
  obtain ⟨d, rfl⟩ : ∃ d, k' = k + d := ⟨k' - k, by omega⟩
  clear hk
  induction d with
  | zero => exact h
  | succ d ih => exact ih.up (by omega)
theorem Sz.neg {k N : Nat} {q : Rat} (h : Sz k N q) : Sz k N (-q) := by
  obtain ⟨z, e, b⟩ := h
  exact ⟨-z, by rw [e, Rat.neg_divInt], by rw [Int.natAbs_neg]; exact b⟩
theorem Sz.add {k N M : Nat} {q r : Rat} (h : Sz k N q) (h' : Sz k M r) : Sz k (N + M) (q + r) := by
  obtain ⟨z, e, b⟩ := h
  obtain ⟨y, e', b'⟩ := h'
  refine ⟨z + y, ?_, ?_⟩
  · rw [e, e', Rat.divInt_add_divInt _ _ pow_ne pow_ne, ← Int.add_mul, Rat.divInt_mul_right pow_ne]
  · rw [Nat.add_mul]
    omega
theorem Sz.sub {k N M : Nat} {q r : Rat} (h : Sz k N q) (h' : Sz k M r) : Sz k (N + M) (q - r) := by
  rw [Rat.sub_eq_add_neg]
  exact h.add h'.neg
theorem Sz.mul {k l N M : Nat} {q r : Rat} (h : Sz k N q) (h' : Sz l M r) : Sz (k + l) (N * M) (q * r) := by
  obtain ⟨z, e, b⟩ := h
  obtain ⟨y, e', b'⟩ := h'
  refine ⟨z * y, ?_, ?_⟩
  · rw [e, e', Rat.divInt_mul_divInt, Nat.pow_add, Int.natCast_mul]
  · rw [Int.natAbs_mul, Nat.pow_add]
    have := Nat.mul_le_mul b b'
    rw [show N * 3600 ^ k * (M * 3600 ^ l) = N * M * (3600 ^ k * 3600 ^ l) by
      rw [Nat.mul_assoc, Nat.mul_assoc, ← Nat.mul_assoc (3600 ^ k), Nat.mul_comm (3600 ^ k) M, Nat.mul_assoc]] at this
    exact this
theorem Sz.mul1 {k l : Nat} {q r : Rat} (h : Sz k 1 q) (h' : Sz l 1 r) : Sz (k + l) 1 (q * r) := h.mul h'
theorem Sz.one : Sz 0 1 1 := ⟨1, rfl, by decide⟩
theorem Sz.sm {k N : Nat} {q : Rat} (h : Sz k N q) (hk : k ≤ 160) (hN : N ≤ 3600) : sm q := by
  obtain ⟨z, e, b⟩ := h
  have hp : (0 : Int) < ((60 ^ k : Nat) : Int) := Int.natCast_pos.mpr (Nat.pow_pos (by omega))
  obtain ⟨e1, e2⟩ := low_pos (a := z) hp
  rw [← e] at e1 e2
  have hg : 0 < Nat.gcd z.natAbs ((60 ^ k : Nat) : Int).natAbs := by
    refine Nat.pos_of_ne_zero fun z => ?_
    have := Nat.eq_zero_of_gcd_eq_zero_right z
    rw [Int.natAbs_natCast] at this
    have h2 : 0 < 60 ^ k := Nat.pow_pos (by omega)
    omega
  have hb : (3600 : Nat) * 3600 ^ k < 2 ^ 2000 := by
    rw [← Nat.pow_succ']
    have : (3600 : Nat) ^ (k + 1) ≤ 3600 ^ 161 := Nat.pow_le_pow_right (by omega) (by omega)
    exact Nat.lt_of_le_of_lt this (by decide)
  have hb2 : (60 : Nat) ^ k < 2 ^ 2000 := by
    have : (60 : Nat) ^ k ≤ 60 ^ 160 := Nat.pow_le_pow_right (by omega) hk
    exact Nat.lt_of_le_of_lt this (by decide)
  constructor
  · rw [← e1, Int.fdiv_eq_ediv_of_nonneg _ (Int.natCast_nonneg _), Int.natAbs_ediv_of_dvd (Int.ofNat_dvd_left.mpr (Nat.gcd_dvd_left _ _)), Int.natAbs_natCast]
    have : N * 3600 ^ k ≤ 3600 * 3600 ^ k := Nat.mul_le_mul_right _ hN
    exact Nat.lt_of_le_of_lt (Nat.div_le_self _ _) (by omega)
  · have : (q.den : Int) ≤ ((60 ^ k : Nat) : Int) := by
      rw [← e2, Int.fdiv_eq_ediv_of_nonneg _ (Int.natCast_nonneg _)]
      exact Int.ediv_le_self _ (Int.le_of_lt hp)
    omega
theorem isFr.sz {q : Rat} (h : isFr q) : Sz 1 1 q := by
  obtain ⟨n, d, hn, hd, rfl⟩ := h
  simp only [List.mem_cons, List.not_mem_nil, or_false] at hn hd
  rcases hd with rfl | rfl | rfl | rfl
  · exact ⟨n * 60, by rw [show ((60 ^ 1 : Nat) : Int) = 1 * 60 from rfl, Rat.divInt_mul_right (by decide)], by rcases hn with rfl | rfl | rfl | rfl | rfl | rfl | rfl | rfl | rfl <;> decide⟩
  · exact ⟨n * 30, by rw [show ((60 ^ 1 : Nat) : Int) = 2 * 30 from rfl, Rat.divInt_mul_right (by decide)], by rcases hn with rfl | rfl | rfl | rfl | rfl | rfl | rfl | rfl | rfl <;> decide⟩
  · exact ⟨n * 20, by rw [show ((60 ^ 1 : Nat) : Int) = 3 * 20 from rfl, Rat.divInt_mul_right (by decide)], by rcases hn with rfl | rfl | rfl | rfl | rfl | rfl | rfl | rfl | rfl <;> decide⟩
  · exact ⟨n * 15, by rw [show ((60 ^ 1 : Nat) : Int) = 4 * 15 from rfl, Rat.divInt_mul_right (by decide)], by rcases hn with rfl | rfl | rfl | rfl | rfl | rfl | rfl | rfl | rfl <;> decide⟩
theorem isDn.fr {q : Rat} (h : isDn q) : isFr q := by
  obtain ⟨n, d, hn, hd, rfl⟩ := h
  simp only [List.mem_cons, List.not_mem_nil, or_false] at hn hd
  exact ⟨n, d, by rcases hn with rfl | rfl | rfl | rfl | rfl | rfl <;> decide, by rcases hd with rfl | rfl | rfl <;> decide, rfl⟩
theorem isDn.ne {q : Rat} (h : isDn q) : q ≠ 0 := by
  obtain ⟨n, d, hn, hd, rfl⟩ := h
  simp only [List.mem_cons, List.not_mem_nil, or_false] at hn hd
  rcases hn with rfl | rfl | rfl | rfl | rfl | rfl <;> rcases hd with rfl | rfl | rfl <;> decide
theorem isDn.sz {q : Rat} (h : isDn q) : Sz 1 1 q := h.fr.sz
end PyM

set_option linter.all false
set_option maxRecDepth 100000
set_option exponentiation.threshold 20000
/-! PyN, part 6: sums, polynomials. -/
namespace PyM
local macro_rules | `(tactic| dsimp? [$ls,*]) => `(tactic| simp only [bnd_ok, bnd_no, get0, getS, getB0, getBo, getBS, ev_cst, ev_var, ev_bor, ev_bop, ev_neg, ev_notv, ev_band, ev_borr, ev_cmp, ev_chn, ev_ite, ev_call, ev_b1, ev_b2, ev_min3, ev_tup, ev_lst, ev_mkl, ev_ix, ev_sl, ev_rev, ev_lr, ev_lc, evA_nil, evA_cons, evO_nop, evO_cons, evT_band, evT_borr, evT_notv, evT_cmp, evT_chn, evT_call, evT_b1, evT_var, evQ_nil, evQ_cons, evI_S, evI_R1, evI_R2, evI_R3, evI_Z, evI_E, ex_skip, ex_seq, ex_asg, ex_asgO, ex_par, ex_seti, ex_swp, ex_app, ex_ext, ex_ifs, ex_forS, ex_ret, ex_expr, ex_frz, sg0, sgS, ss0, ssS, setTg_nm, setTg_tup, setTgs_nil, setTgs_cons, tgN_nm, tgN_cons, tgN_nil, wipe_nil, wipe_cons, par_nil, par_f, par_t, isB_cst, isB_var, isB_bop, isB_neg, isB_notv, isB_band, isB_borr, isB_cmp, isB_chn, isB_ite, isB_call, isB_b1, isB_b2, isB_min3, isB_tup, isB_lst, isB_ix, isB_sl, isB_rev, isB_lr, isB_lc, isB_tl, isB_mkl, op_add, op_addL, op_addT, op_sub, op_mul, op_mulL, op_mulT, op_fdiv, op_mod, c_lt, c_le, c_gt, c_ge, c_eqi, c_nei, ixF_L, ixF_T, ixF_loc, setiF_c0, setiF_c1, frzF_o0, frzF_v0, frzF_o1, frzF_v1, frzF_o2, frzF_v2, frzF_o3, frzF_v3, frzF_o4, frzF_v4, frzF_o5, frzF_v5, frzF_o6, frzF_v6, frzF_o7, frzF_v7, frzF_o8, frzF_v8, frzF_o9, frzF_v9, frzF_o10, frzF_v10,  sl_L, sl_T, rev_L, rev_T, seq_L, seq_T, o2_gcd, o2_max, o2_min, o1_lenL, o1_lenT, o1_abs, o1_int, o1_listL, o1_listT, o1_listS, o1_tupL, o1_tupT, o1_isTupT, o1_isTupL, o1_isTupI, o1_isIntI, o1_isIntT, o1_isIntL, o1_isBoolI, o1_isBoolT, o1_isBoolL, lim_n0, lim_n1, lim_n2, lim_n3, lim_n4, lim_n5, lim_n6, lim_n7, lim_n8, at0, at1, lcF_eq, fsF_eq, fin_ret, fin_next, Option.map_some, Option.map_none, List.map_cons, List.map_nil, List.length_cons, List.length_nil, List.replicate, List.cons_append, List.nil_append, List.append_nil, Nat.reduceAdd, Nat.reduceSub, Nat.reduceLT, Nat.reduceLeDiff, Bool.or_false, Bool.or_true, Bool.and_true, Bool.true_and, Bool.false_and, Bool.and_false, Bool.false_or, Bool.true_or, Bool.false_eq_true, Bool.not_true, Bool.not_false, if_true, if_false, reduceIte, decide_true, decide_false, Int.reduceEq, Int.reduceNe, Int.reduceLT, Int.reduceLE, Int.reduceNeg, ne_eq, not_false_eq_true, not_true_eq_false, $ls,*])
open PySem PyD B
variable {P : List Def} {ι : Nat → Nat} {n : Nat} {S : Store}
def lsum (xs : List Rat) : Rat := xs.foldl (· + ·) 0
theorem loop_sum {f : PyD.D → PyD.Env → Store → Option (Res × Store)} {mk : Rat → Slot → PyD.Env} {k : Nat} (hf : ∀ acc x z N, Sz k N acc → N ≤ 3000 → Sz k 1 x → f (enc x) (mk acc z) S = some (.next (mk (acc + x) (.val (enc x))), S)) :
    ∀ (xs : List Rat) acc z N, Sz k N acc → N + xs.length ≤ 3000 → (∀ x ∈ xs, Sz k 1 x) → ∃ z', loopF f (xs.map enc) (mk acc z) S = some (.next (mk (xs.foldl (· + ·) acc) z'), S)
  | [], acc, z, N, _, _, _ => ⟨z, rfl⟩
  | x :: xs, acc, z, N, h0, hl, hx => by
    simp only [List.length_cons] at hl
    obtain ⟨z', e⟩ := loop_sum hf xs (acc + x) (.val (enc x)) (N + 1) (h0.add (hx x (by simp))) (by omega) fun y hy => hx y (by simp [hy])
    refine ⟨z', ?_⟩
    rw [List.map_cons, loopF, hf acc x z N h0 (by omega) (hx x (by simp))]
    exact e
theorem cl_summed (H : Has P ι dep_summed) (hn : 3 ≤ n) {xs : List Rat} {k : Nat} (h : ∀ x ∈ xs, Sz k 1 x) (hl : xs.length ≤ 3000) (hk : k ≤ 150) : callN P W0 n (ι i_summed) [.list (xs.map enc)] S = some (enc (lsum xs), S) := by
  obtain ⟨m, rfl⟩ : ∃ m, n = m + 1 := ⟨n - 1, by omega⟩
  rw [H.go (d := d_summed) rfl rfl rfl]
  obtain ⟨z', e⟩ := loop_sum (S := S) (k := k) (f := fsF (callN P W0 m) W0 (.nm 2) (.asg (.nm 1) (.call (ι i_plus) (.acons (.var 1) (.acons (.var 2) .anil))))) (mk := fun a z => [.val (.list (xs.map enc)), .val (enc a), z]) (by
    intro acc x z N h1 h2 h3
    dsimp? [cl_plus (H.sub (l' := dep_plus) rfl) (n := m) (by omega) (h1.sm (by omega) (by omega)) (h3.sm (by omega) (by omega))]) xs 0 .no 0 Sz.zero (by omega) h
  rw [enc_zero] at e
  dsimp? [d_summed, -fsF_eq]
  rw [e]
  dsimp? [lsum]
theorem cl_total (H : Has P ι dep__law_total) (hn : 4 ≤ n) {xs : List Rat} {k : Nat} (h : ∀ x ∈ xs, Sz k 1 x) (hl : xs.length ≤ 3000) (hk : k ≤ 150) : callN P W0 n (ι i__law_total) [.list (xs.map enc)] S = some (enc (lsum xs), S) := by
  obtain ⟨m, rfl⟩ : ∃ m, n = m + 1 := ⟨n - 1, by omega⟩
  rw [H.go (d := d__law_total) rfl rfl rfl]
  obtain ⟨z', e⟩ := loop_sum (S := S) (k := k) (f := fsF (callN P W0 m) W0 (.nm 2) (.asg (.nm 1) (.call (ι i__law_plus) (.acons (.var 1) (.acons (.var 2) .anil))))) (mk := fun a z => [.val (.list (xs.map enc)), .val (enc a), z]) (by
    intro acc x z N h1 h2 h3
    dsimp? [cl_lplus (H.sub (l' := dep__law_plus) rfl) (n := m) (by omega) (h1.sm (by omega) (by omega)) (h3.sm (by omega) (by omega))]) xs 0 .no 0 Sz.zero (by omega) h
  rw [enc_zero] at e
  dsimp? [d__law_total, -fsF_eq]
  rw [e]
  dsimp? [lsum]
/-- the length without the 0 at the end -/
def lnN (xs : List Rat) : Nat → Nat
  | 0 => 0
  | m + 1 => if xs.getD m 0 = 0 then lnN xs m else m + 1
def leanL (xs : List Rat) : List Rat := xs.take (lnN xs xs.length)
theorem lnN_le (xs : List Rat) : ∀ m, lnN xs m ≤ m
  | 0 => Nat.le_refl _
  | m + 1 => by
    rw [lnN]
    have := lnN_le xs m
    split <;> omega
theorem lnN_zero (xs : List Rat) : ∀ m i, lnN xs m ≤ i → i < m → xs.getD i 0 = 0
  | 0, i, _, h => by omega
  | m + 1, i, h1, h2 => by
    rw [lnN] at h1
    split at h1
    · by_cases c : i = m
      · subst c; assumption
      · exact lnN_zero xs m i h1 (by omega)
    · omega
theorem lnN_last (xs : List Rat) : ∀ m, lnN xs m ≠ 0 → xs.getD (lnN xs m - 1) 0 ≠ 0
  | 0, h => by simp [lnN] at h
  | m + 1, h => by
    rw [lnN] at h ⊢
    split
    · rename_i c
      rw [if_pos c] at h
      exact lnN_last xs m h
    · rename_i c
      exact c
theorem leanL_len {xs : List Rat} : (leanL xs).length = lnN xs xs.length := by
  unfold leanL
  rw [List.length_take]
  have := lnN_le xs xs.length
  omega
theorem leanL_at {xs : List Rat} {i : Nat} : (leanL xs).getD i 0 = xs.getD i 0 := by
  unfold leanL
  by_cases c : i < lnN xs xs.length
  · simp [List.getD_eq_getElem?_getD, List.getElem?_take, c]
  · by_cases c2 : i < xs.length
    · rw [lnN_zero xs _ i (by omega) c2]
      simp [List.getD_eq_getElem?_getD, List.getElem?_take, c]
    · rw [List.getD_eq_getElem?_getD, List.getD_eq_getElem?_getD, List.getElem?_eq_none (by omega : xs.length ≤ i), List.getElem?_take, if_neg c]
theorem leanL_mem {xs : List Rat} {q : Rat} (h : q ∈ leanL xs) : q ∈ xs := List.mem_of_mem_take h
/-- a polynomial is its numbers -/
theorem lean_ext {xs ys : List Rat} (h : ∀ i, xs.getD i 0 = ys.getD i 0) : leanL xs = leanL ys := by
  have key : ∀ xs ys : List Rat, (∀ i, xs.getD i 0 = ys.getD i 0) → lnN xs xs.length ≤ lnN ys ys.length := by
    intro xs ys h
    refine Nat.le_of_not_lt fun c => ?_
    have h1 := lnN_last xs xs.length (by omega)
    rw [h] at h1
    have h2 := lnN_le ys ys.length
    by_cases c2 : lnN xs xs.length - 1 < ys.length
    · exact h1 (lnN_zero ys _ _ (by omega) c2)
    · exact h1 (by rw [List.getD_eq_getElem?_getD, List.getElem?_eq_none (by omega)]; rfl)
  have e : lnN xs xs.length = lnN ys ys.length := Nat.le_antisymm (key xs ys h) (key ys xs fun i => (h i).symm)
  refine List.ext_getElem (by rw [leanL_len, leanL_len, e]) fun i h1 h2 => ?_
  have a1 := leanL_at (xs := xs) (i := i)
  have a2 := leanL_at (xs := ys) (i := i)
  rw [h i, ← a2] at a1
  simpa [List.getD_eq_getElem?_getD, List.getElem?_eq_getElem h1, List.getElem?_eq_getElem h2] using a1
theorem lean_id {xs : List Rat} (h : xs.length = 0 ∨ xs.getD (xs.length - 1) 0 ≠ 0) : leanL xs = xs := by
  unfold leanL
  have : lnN xs xs.length = xs.length := by
    rcases h with h | h
    · rw [h]; rfl
    · cases hl : xs.length with
      | zero => rfl
      | succ m =>
        rw [lnN, if_neg]
        rw [hl] at h
        exact h
  rw [this, List.take_length]
theorem lean_lean {xs : List Rat} : leanL (leanL xs) = leanL xs := lean_ext fun i => leanL_at
theorem cutT {xs : List Rat} {m : Nat} (h : m ≤ xs.length) : cutD (xs.map enc) none (some (m : Nat)) = (xs.take m).map enc := by
  unfold cutD HT.sIx
  have hm : ¬ ((m : Nat) : Int) < 0 := by omega
  simp only [hm, if_false, List.length_map, List.drop_zero, Nat.sub_zero, Nat.zero_le, Nat.min_eq_left, Int.toNat_natCast, Nat.min_eq_left h, List.map_take]
theorem lean_loop {C : CallF} {d : PyD.D} {xs : List Rat} (hd : d = .list (xs.map enc) ∨ d = .tuple (xs.map enc)) {c : T} {b : Sn}
    (hc : c = .band (.cmp .gt (.var 1) (.cst (.int 0))) (.cmp .eq (.ix (.ix (.var 0) (.bop .sub (.var 1) (.cst (.int 1)))) (.cst (.int 0))) (.cst (.int 0)))) (hb : b = .asg (.nm 1) (.bop .sub (.var 1) (.cst (.int 1)))) :
    ∀ m fuel, m ≤ xs.length → m < fuel → loopW (evT C c) (ex C W0 b) fuel [.val d, .val (.int (m : Nat))] S = some (.next [.val d, .val (.int (lnN xs m : Nat))], S)
  | 0, 0, _, h => by omega
  | m + 1, 0, _, h => by omega
  | 0, fuel + 1, _, _ => by
    subst hc hb
    rw [loopW]
    dsimp? [Int.natCast_zero, lnN]
  | m + 1, fuel + 1, hm, hf => by
    have e1 : ((m + 1 : Nat) : Int) - 1 = ((m : Nat) : Int) := by omega
    have hq : xs[m]? = some (xs.getD m 0) := by
      rw [List.getD_eq_getElem?_getD, List.getElem?_eq_getElem (by omega)]; rfl
    have hix : ixF d (.int (m : Nat)) S = some (enc (xs.getD m 0), S) := by
      rcases hd with h | h <;> subst h
      · rw [ixF_L, atE hq]; rfl
      · rw [ixF_T, atE hq]; rfl
    have ih := lean_loop (C := C) hd hc hb m fuel (by omega) (by omega)
    subst hc hb
    rw [loopW]
    have hp : (0 : Int) < ((m + 1 : Nat) : Int) := by omega
    by_cases c : xs.getD m 0 = 0
    · dsimp? [hp, e1, hix, ix_num, num0, c]
      rw [ih, lnN, if_pos c]
    · dsimp? [hp, e1, hix, ix_num, num0, c]
      rw [lnN, if_neg c]
theorem cl_lean (H : Has P ι dep_lean) (hn : 1 ≤ n) {d : PyD.D} {xs : List Rat} (hd : d = .list (xs.map enc) ∨ d = .tuple (xs.map enc)) (hl : xs.length ≤ 1000) : callN P W0 n (ι i_lean) [d] S = some (encL (leanL xs), S) := by
  obtain ⟨m, rfl⟩ : ∃ m, n = m + 1 := ⟨n - 1, by omega⟩
  rw [H.go (d := d_lean) rfl rfl rfl]
  have h1 : op1 .len d = some (.int (xs.length : Nat)) := by
    rcases hd with h | h <;> subst h
    · rw [o1_lenL, List.length_map]
    · rw [o1_lenT, List.length_map]
  have h2 : ∀ m ≤ xs.length, bnd ((slD d none (some ((m : Nat) : Int))).map (·, S)) (fun x S => (op1 .tuple x).map (·, S)) = some (encL (xs.take m), S) := by
    intro m hm
    rcases hd with h | h <;> subst h
    · rw [sl_L, cutT hm]; rfl
    · rw [sl_T, cutT hm]; rfl
  have h3 := lean_loop (C := callN P W0 m) (S := S) hd rfl rfl xs.length W0 (Nat.le_refl _) (by show _ < 4000; omega)
  dsimp? [d_lean, h1, ex_whl, h3, h2 _ (lnN_le xs xs.length)]
  rfl
theorem cl_at_power (H : Has P ι dep_at_power) (hn : 1 ≤ n) {xs : List Rat} {i : Nat} : callN P W0 n (ι i_at_power) [encL xs, .int (i : Nat)] S = some (enc (xs.getD i 0), S) := by
  obtain ⟨m, rfl⟩ : ∃ m, n = m + 1 := ⟨n - 1, by omega⟩
  rw [H.go (d := d_at_power) rfl rfl rfl]
  unfold encL
  by_cases c : i < xs.length
  · have hq : xs[i]? = some (xs.getD i 0) := by
      rw [List.getD_eq_getElem?_getD, List.getElem?_eq_getElem (by omega)]; rfl
    have : ((i : Nat) : Int) < ((xs.length : Nat) : Int) := by omega
    dsimp? [d_at_power, List.length_map, this, atE hq]
  · have : ¬ ((i : Nat) : Int) < ((xs.length : Nat) : Int) := by omega
    dsimp? [d_at_power, List.length_map, this]
    rw [List.getD_eq_getElem?_getD, List.getElem?_eq_none (by omega)]
    rfl
theorem lim_map {xs : List Rat} (h : xs.length ≤ 1000) : lim (xs.map enc) = some (xs.map enc) := lim_ok (by rw [List.length_map]; omega)
theorem cl_scaled (H : Has P ι dep_scaled) (hn : 3 ≤ n) {xs : List Rat} {c : Rat} (h : ∀ x ∈ xs, sm x) (hc : sm c) (hl : xs.length ≤ 100) : callN P W0 n (ι i_scaled) [encL xs, enc c] S = some (encL (leanL (xs.map (· * c))), S) := by
  obtain ⟨m, rfl⟩ : ∃ m, n = m + 1 := ⟨n - 1, by omega⟩
  rw [H.go (d := d_scaled) rfl rfl rfl]
  have e : loopC (lcF (callN P W0 m) (.nm 2) .anil (.call (ι i_times) (.acons (.var 2) (.acons (.var 1) .anil))) [.val (encL xs), .val (enc c), .no]) (xs.map enc) S = some ((xs.map (· * c)).map enc, S) := by
    rw [loopC_enc (g := fun x => enc (x * c)) fun x hx => by dsimp? [cl_times (H.sub (l' := dep_times) rfl) (n := m) (by omega) (h x hx) hc], List.map_map]
    rfl
  unfold encL at e
  have e2 := cl_lean (H.sub (l' := dep_lean) rfl) (n := m) (S := S) (by omega) (xs := xs.map (· * c)) (.inl rfl) (by rw [List.length_map]; omega)
  unfold encL at e2 ⊢
  dsimp? [d_scaled, -lcF_eq, e, lim_map (xs := xs.map (· * c)) (by rw [List.length_map]; omega), e2]
/-- numbers of two polynomials less one another -/
def subL (xs ys : List Rat) : List Rat := (List.range (max xs.length ys.length)).map fun i => xs.getD i 0 - ys.getD i 0
theorem subL_at {xs ys : List Rat} {i : Nat} : (subL xs ys).getD i 0 = xs.getD i 0 - ys.getD i 0 := by
  unfold subL
  by_cases c : i < max xs.length ys.length
  · simp [List.getD_eq_getElem?_getD, c]
  · rw [List.getD_eq_getElem?_getD, List.getD_eq_getElem?_getD, List.getD_eq_getElem?_getD, List.getElem?_eq_none (by simp; omega), List.getElem?_eq_none (by omega), List.getElem?_eq_none (by omega)]
    simp only [Option.getD_none]; grind
theorem sm_zero : sm 0 := ⟨by decide, by decide⟩
theorem sm_at {xs : List Rat} (h : ∀ x ∈ xs, sm x) {i : Nat} : sm (xs.getD i 0) := by
  rw [List.getD_eq_getElem?_getD]
  by_cases c : i < xs.length
  · rw [List.getElem?_eq_getElem c]
    exact h _ (List.getElem_mem c)
  · rw [List.getElem?_eq_none (by omega)]
    exact sm_zero
theorem max_nat {a b : Nat} : (if ((b : Nat) : Int) > ((a : Nat) : Int) then ((b : Nat) : Int) else ((a : Nat) : Int)) = ((max a b : Nat) : Int) := by
  split <;> omega
theorem cl_less (H : Has P ι dep_less) (hn : 3 ≤ n) {xs ys : List Rat} (h : ∀ x ∈ xs, sm x) (h' : ∀ x ∈ ys, sm x) (hl : xs.length ≤ 100) (hl' : ys.length ≤ 100) : callN P W0 n (ι i_less) [encL xs, encL ys] S = some (encL (leanL (subL xs ys)), S) := by
  obtain ⟨m, rfl⟩ : ∃ m, n = m + 1 := ⟨n - 1, by omega⟩
  rw [H.go (d := d_less) rfl rfl rfl]
  have e : loopC (lcF (callN P W0 m) (.nm 2) .anil (.call (ι i_minus) (.acons (.call (ι i_at_power) (.acons (.var 0) (.acons (.var 2) .anil))) (.acons (.call (ι i_at_power) (.acons (.var 1) (.acons (.var 2) .anil))) .anil))) [.val (encL xs), .val (encL ys), .no]) (rngD 0 ((max xs.length ys.length : Nat) : Int)) S = some ((subL xs ys).map enc, S) := by
    rw [rng_eq, loopC_enc (g := fun i => enc (xs.getD i 0 - ys.getD i 0)) fun i hi => by
      dsimp? [cl_at_power (H.sub (l' := dep_at_power) rfl) (n := m) (by omega), cl_minus (H.sub (l' := dep_minus) rfl) (n := m) (by omega) (sm_at h) (sm_at h')]]
    unfold subL
    rw [List.map_map]
    rfl
  have hlen : (subL xs ys).length ≤ 1000 := by unfold subL; simp; omega
  have e2 := cl_lean (H.sub (l' := dep_lean) rfl) (n := m) (S := S) (by omega) (xs := subL xs ys) (.inl rfl) hlen
  unfold encL at e e2 ⊢
  dsimp? [d_less, -lcF_eq, List.length_map, max_nat, rng_ok (show max xs.length ys.length < 2 ^ 60 by omega), e, lim_map hlen, e2]
theorem rep_T {k : Nat} {xs : List PyD.D} (h : k ≤ 1000) (h2 : xs.length ≤ 1000) : repD xs (k : Nat) = some (List.replicate k xs).flatten := by
  unfold repD
  rw [if_pos ⟨by omega, h2, by omega⟩]
  simp
theorem flat_one {α : Type} {k : Nat} {x : α} : (List.replicate k [x]).flatten = List.replicate k x := by
  induction k with
  | zero => rfl
  | succ k ih => rw [List.replicate_succ, List.flatten_cons, ih]; rfl
/-- a polynomial times x so many times -/
def upL (xs : List Rat) (k : Nat) : List Rat := if xs = [] then [] else List.replicate k 0 ++ xs
theorem cl_raised (H : Has P ι dep_raised) (hn : 1 ≤ n) {xs : List Rat} {k : Nat} (hk : k ≤ 100) (hl : xs.length ≤ 1000) : callN P W0 n (ι i_raised) [encL xs, .int (k : Nat)] S = some (encL (upL xs k), S) := by
  obtain ⟨m, rfl⟩ : ∃ m, n = m + 1 := ⟨n - 1, by omega⟩
  rw [H.go (d := d_raised) rfl rfl rfl]
  have e := ne_nilT (k := 1) (xs := xs.map enc) (fun d hd => by obtain ⟨q, _, rfl⟩ := List.mem_map.mp hd; exact pl_enc) (by omega)
  unfold encL upL
  by_cases c : xs = []
  · subst c
    simp only [List.map_nil, List.isEmpty_nil] at e
    dsimp? [d_raised, e]
  · have c2 : (xs.map enc).isEmpty = false := by
      cases xs with
      | nil => exact absurd rfl c
      | cons x xs => rfl
    rw [c2] at e
    have e2 : lim (List.replicate k (PyData.tuple [.int 0, .int 1]) ++ xs.map enc) = some (List.replicate k (PyData.tuple [.int 0, .int 1]) ++ xs.map enc) := lim_ok (by simp; omega)
    dsimp? [d_raised, e, rep_T (k := k) (xs := [_]) (by omega) (show 1 ≤ 1000 by omega), flat_one, e2, c]
    rw [List.map_append, List.map_replicate, enc_zero]
end PyM

set_option linter.all false
set_option maxRecDepth 100000
set_option exponentiation.threshold 20000
/-! PyN, part 7: products of polynomials, sums by rows. -/
namespace PyM
local macro_rules | `(tactic| dsimp? [$ls,*]) => `(tactic| simp only [bnd_ok, bnd_no, get0, getS, getB0, getBo, getBS, ev_cst, ev_var, ev_bor, ev_bop, ev_neg, ev_notv, ev_band, ev_borr, ev_cmp, ev_chn, ev_ite, ev_call, ev_b1, ev_b2, ev_min3, ev_tup, ev_lst, ev_mkl, ev_ix, ev_sl, ev_rev, ev_lr, ev_lc, evA_nil, evA_cons, evO_nop, evO_cons, evT_band, evT_borr, evT_notv, evT_cmp, evT_chn, evT_call, evT_b1, evT_var, evQ_nil, evQ_cons, evI_S, evI_R1, evI_R2, evI_R3, evI_Z, evI_E, ex_skip, ex_seq, ex_asg, ex_asgO, ex_par, ex_seti, ex_swp, ex_app, ex_ext, ex_ifs, ex_forS, ex_ret, ex_expr, ex_frz, sg0, sgS, ss0, ssS, setTg_nm, setTg_tup, setTgs_nil, setTgs_cons, tgN_nm, tgN_cons, tgN_nil, wipe_nil, wipe_cons, par_nil, par_f, par_t, isB_cst, isB_var, isB_bop, isB_neg, isB_notv, isB_band, isB_borr, isB_cmp, isB_chn, isB_ite, isB_call, isB_b1, isB_b2, isB_min3, isB_tup, isB_lst, isB_ix, isB_sl, isB_rev, isB_lr, isB_lc, isB_tl, isB_mkl, op_add, op_addL, op_addT, op_sub, op_mul, op_mulL, op_mulT, op_fdiv, op_mod, c_lt, c_le, c_gt, c_ge, c_eqi, c_nei, ixF_L, ixF_T, ixF_loc, setiF_c0, setiF_c1, frzF_o0, frzF_v0, frzF_o1, frzF_v1, frzF_o2, frzF_v2, frzF_o3, frzF_v3, frzF_o4, frzF_v4, frzF_o5, frzF_v5, frzF_o6, frzF_v6, frzF_o7, frzF_v7, frzF_o8, frzF_v8, frzF_o9, frzF_v9, frzF_o10, frzF_v10,  sl_L, sl_T, rev_L, rev_T, seq_L, seq_T, o2_gcd, o2_max, o2_min, o1_lenL, o1_lenT, o1_abs, o1_int, o1_listL, o1_listT, o1_listS, o1_tupL, o1_tupT, o1_isTupT, o1_isTupL, o1_isTupI, o1_isIntI, o1_isIntT, o1_isIntL, o1_isBoolI, o1_isBoolT, o1_isBoolL, lim_n0, lim_n1, lim_n2, lim_n3, lim_n4, lim_n5, lim_n6, lim_n7, lim_n8, at0, at1, lcF_eq, fsF_eq, fin_ret, fin_next, Option.map_some, Option.map_none, List.map_cons, List.map_nil, List.length_cons, List.length_nil, List.replicate, List.cons_append, List.nil_append, List.append_nil, Nat.reduceAdd, Nat.reduceSub, Nat.reduceLT, Nat.reduceLeDiff, Bool.or_false, Bool.or_true, Bool.and_true, Bool.true_and, Bool.false_and, Bool.and_false, Bool.false_or, Bool.true_or, Bool.false_eq_true, Bool.not_true, Bool.not_false, if_true, if_false, reduceIte, decide_true, decide_false, Int.reduceEq, Int.reduceNe, Int.reduceLT, Int.reduceLE, Int.reduceNeg, ne_eq, not_false_eq_true, not_true_eq_false, $ls,*])
open PySem PyD B Mo
variable {P : List Def} {ι : Nat → Nat} {n : Nat} {S : Store}
def innerL (zs : List Rat) (at_ : Nat) (x : Rat) : List Rat → Nat → List Rat
  | [], _ => zs
  | y :: ys, s => innerL (zs.set (at_ + s) (zs.getD (at_ + s) 0 + x * y)) at_ x ys (s + 1)
def outerL (ys : List Rat) (zs : List Rat) : List Rat → Nat → List Rat
  | [], _ => zs
  | x :: xs, a => outerL ys (innerL zs a x ys 0) xs (a + 1)
def mulL (xs ys : List Rat) : List Rat := outerL ys (List.replicate (xs.length + ys.length) 0) xs 0
theorem inner_len {at_ : Nat} {x : Rat} : ∀ {ys zs : List Rat} {s : Nat}, (innerL zs at_ x ys s).length = zs.length
  | [], zs, s => rfl
  | y :: ys, zs, s => by rw [innerL, inner_len, List.length_set]
theorem outer_len {ys : List Rat} : ∀ {xs zs : List Rat} {a : Nat}, (outerL ys zs xs a).length = zs.length
  | [], zs, a => rfl
  | x :: xs, zs, a => by rw [outerL, outer_len, inner_len]
theorem set_at {zs : List Rat} {i j : Nat} {v : Rat} (h : i < zs.length) : (zs.set i v).getD j 0 = if j = i then v else zs.getD j 0 := by
  rw [List.getD_eq_getElem?_getD, List.getD_eq_getElem?_getD, List.getElem?_set]
  by_cases c : j = i
  · subst c; simp [h]
  · rw [if_neg (fun e => c e.symm), if_neg c]
theorem inner_at {at_ : Nat} {x : Rat} : ∀ {ys zs : List Rat} {s i : Nat}, at_ + s + ys.length ≤ zs.length → (innerL zs at_ x ys s).getD i 0 = zs.getD i 0 + (if at_ + s ≤ i then x * ys.getD (i - (at_ + s)) 0 else 0)
  | [], zs, s, i, _ => by
    rw [innerL]; simp only [List.getD_nil]; grind
  | y :: ys, zs, s, i, h => by
    simp only [List.length_cons] at h
    rw [innerL, inner_at (by rw [List.length_set]; omega), set_at (by omega)]
    by_cases c : i = at_ + s
    · subst c
      rw [if_pos rfl, if_neg (by omega), if_pos (Nat.le_refl _), Nat.sub_self, List.getD_cons_zero]; grind
    · rw [if_neg c]
      by_cases c2 : at_ + s ≤ i
      · rw [if_pos (by omega), if_pos c2]
        obtain ⟨d, hd⟩ : ∃ d, i - (at_ + s) = d + 1 := ⟨i - (at_ + s) - 1, by omega⟩
        rw [hd, List.getD_cons_succ, show i - (at_ + (s + 1)) = d by omega]
      · rw [if_neg (by omega), if_neg c2]
theorem outer_at {ys : List Rat} : ∀ {xs zs : List Rat} {a i : Nat}, a + xs.length + ys.length ≤ zs.length → (outerL ys zs xs a).getD i 0 = zs.getD i 0 + Sg xs.length fun j => if a + j ≤ i then xs.getD j 0 * ys.getD (i - (a + j)) 0 else 0
  | [], zs, a, i, _ => by rw [outerL]; simp only [List.length_nil, Sg]; grind
  | x :: xs, zs, a, i, h => by
    simp only [List.length_cons] at h
    rw [outerL, outer_at (by rw [inner_len]; omega), inner_at (by omega), List.length_cons, Sg_head]
    simp only [List.getD_cons_zero, List.getD_cons_succ, Nat.add_zero]
    rw [Sg_congr (g := fun j => if a + (j + 1) ≤ i then xs.getD j 0 * ys.getD (i - (a + (j + 1))) 0 else 0) fun j _ => by rw [show a + 1 + j = a + (j + 1) by omega]]
    grind
theorem getD_rep {m i : Nat} : (List.replicate m (0 : Rat)).getD i 0 = 0 := by
  rw [List.getD_eq_getElem?_getD, List.getElem?_replicate]
  split <;> rfl
theorem getD_out {xs : List Rat} {i : Nat} (h : xs.length ≤ i) : xs.getD i 0 = 0 := by
  rw [List.getD_eq_getElem?_getD, List.getElem?_eq_none h]; rfl
theorem mulL_at {xs ys : List Rat} {i : Nat} : (mulL xs ys).getD i 0 = cv (fun j => xs.getD j 0) (fun j => ys.getD j 0) i := by
  unfold mulL cv
  rw [outer_at (by rw [List.length_replicate]; omega), getD_rep]
  simp only [Nat.zero_add]
  by_cases c : xs.length ≤ i + 1
  · rw [Sg_more (n := xs.length) (m := i + 1) c fun j h1 h2 => by rw [getD_out h1]; grind, Sg_congr (g := fun j => xs.getD j 0 * ys.getD (i - j) 0) fun j hj => if_pos (by omega)]
    grind
  · rw [Sg_more (n := i + 1) (m := xs.length) (by omega) fun j h1 h2 => if_neg (by omega), Sg_congr (g := fun j => xs.getD j 0 * ys.getD (i - j) 0) fun j hj => if_pos (by omega)]
    grind
theorem mulL_len {xs ys : List Rat} : (mulL xs ys).length = xs.length + ys.length := by
  unfold mulL
  rw [outer_len, List.length_replicate]
/-- what enumerate walks -/
def eD : List PyD.D → Nat → List PyD.D
  | [], _ => []
  | d :: ds, i => .tuple [.int (i : Nat), d] :: eD ds (i + 1)
theorem enum_eq {xs : List PyD.D} : enumD xs = eD xs 0 := by
  have key : ∀ (xs : List PyD.D) i, ((xs.zipIdx i).map fun p => PyData.tuple [.int (p.2 : Nat), p.1]) = eD xs i := by
    intro xs
    induction xs with
    | nil => intro i; rfl
    | cons x xs ih => intro i; rw [List.zipIdx_cons, List.map_cons, ih]; rfl
  exact key xs 0
abbrev inB (ip it : Nat) : Sn := .seti 2 (.bop .add (.var 3) (.var 5)) (.call ip (.acons (.ix (.bor 2) (.bop .add (.var 3) (.var 5))) (.acons (.call it (.acons (.var 4) (.acons (.var 6) .anil))) .anil)))
abbrev tg56 : T := .acons (.nm 5) (.acons (.nm 6) .anil)
abbrev tg34 : T := .acons (.nm 3) (.acons (.nm 4) .anil)
theorem getq {xs : List Rat} {m : Nat} (h : m < xs.length) : xs[m]? = some (xs.getD m 0) := by
  rw [List.getD_eq_getElem?_getD, List.getElem?_eq_getElem h]; rfl
section
variable {C : CallF} {ip it : Nat} (hp : ∀ a b, sm a → sm b → C ip [enc a, enc b] S = some (enc (a + b), S)) (ht : ∀ a b, sm a → sm b → C it [enc a, enc b] S = some (enc (a * b), S))
include hp ht
theorem mul_inner {v0 v1 : Slot} {at_ k l : Nat} {x : Rat} (hx : Sz k 1 x) (hk : k + l ≤ 150) (ha : at_ ≤ 60) : ∀ (ys zs : List Rat) (s : Nat) (z5 z6 : Slot), at_ + s + ys.length ≤ zs.length → (∀ y ∈ ys, Sz l 1 y) → (∀ i, Sz (k + l) (if i < at_ + s then at_ + 1 else at_) (zs.getD i 0)) →
    ∃ z5' z6', loopF (fsF C W0 tg56 (inB ip it)) (eD (ys.map enc) s) [v0, v1, .own (zs.map enc), .val (.int (at_ : Nat)), .val (enc x), z5, z6] S = some (.next [v0, v1, .own ((innerL zs at_ x ys s).map enc), .val (.int (at_ : Nat)), .val (enc x), z5', z6'], S) ∧ ∀ i, Sz (k + l) (at_ + 1) ((innerL zs at_ x ys s).getD i 0)
  | [], zs, s, z5, z6, _, _, hz => ⟨z5, z6, rfl, fun i => (hz i).more (by split <;> omega)⟩
  | y :: ys, zs, s, z5, z6, hl, hy, hz => by
    simp only [List.length_cons] at hl
    have e1 : ((at_ : Nat) : Int) + ((s : Nat) : Int) = ((at_ + s : Nat) : Int) := by omega
    have y1 := hy y (by simp)
    have zz : Sz (k + l) at_ (zs.getD (at_ + s) 0) := by have := hz (at_ + s); rwa [if_neg (by omega)] at this
    have a1 := ht x y (hx.sm (by omega) (by omega)) (y1.sm (by omega) (by omega))
    have a2 := hp (zs.getD (at_ + s) 0) (x * y) (zz.sm (by omega) (by omega)) ((hx.mul y1).sm (by omega) (by omega))
    obtain ⟨z5', z6', e, r⟩ := mul_inner hx hk ha ys (zs.set (at_ + s) (zs.getD (at_ + s) 0 + x * y)) (s + 1) (.val (.int (s : Nat))) (.val (enc y)) (by rw [List.length_set]; omega) (fun w hw => hy w (by simp [hw])) (fun i => by
      rw [set_at (by omega)]
      by_cases c : i = at_ + s
      · rw [if_pos c, if_pos (by omega)]
        exact zz.add (hx.mul y1)
      · rw [if_neg c]
        have := hz i
        by_cases c2 : i < at_ + s
        · rw [if_pos c2] at this; rw [if_pos (by omega)]; exact this
        · rw [if_neg c2] at this; rw [if_neg (by omega)]; exact this)
    refine ⟨z5', z6', ?_, r⟩
    rw [List.map_cons, eD, loopF]
    dsimp? [e1, atE (getq (show at_ + s < zs.length by omega)), a1, a2, setiF_o2 (ixN_nat (n := (zs.map enc).length) (m := at_ + s) (by rw [List.length_map]; omega))]
    rw [List.map_set] at e
    exact e
theorem mul_outer {ys : List Rat} {k l : Nat} (hk : k + l ≤ 150) (hy : ∀ y ∈ ys, Sz l 1 y) : ∀ (xs zs : List Rat) (a : Nat) (v0 z3 z4 z5 z6 : Slot), a + xs.length + ys.length ≤ zs.length → a + xs.length ≤ 60 → (∀ x ∈ xs, Sz k 1 x) → (∀ i, Sz (k + l) a (zs.getD i 0)) →
    ∃ z3' z4' z5' z6', loopF (fsF C W0 tg34 (.forS tg56 (.itE (.var 1)) (inB ip it))) (eD (xs.map enc) a) [v0, .val (encL ys), .own (zs.map enc), z3, z4, z5, z6] S = some (.next [v0, .val (encL ys), .own ((outerL ys zs xs a).map enc), z3', z4', z5', z6'], S) ∧ ∀ i, Sz (k + l) (a + xs.length) ((outerL ys zs xs a).getD i 0)
  | [], zs, a, v0, z3, z4, z5, z6, _, _, _, hz => ⟨z3, z4, z5, z6, rfl, hz⟩
  | x :: xs, zs, a, v0, z3, z4, z5, z6, hl, hl2, hx, hz => by
    simp only [List.length_cons] at hl hl2
    obtain ⟨z5', z6', e, r⟩ := mul_inner hp ht (at_ := a) (v0 := v0) (v1 := .val (encL ys)) (hx x (by simp)) hk (by omega) ys zs 0 z5 z6 (by omega) hy (fun i => (hz i).more (by split <;> omega))
    obtain ⟨y3, y4, y5, y6, e', r'⟩ := mul_outer hk hy xs (innerL zs a x ys 0) (a + 1) v0 (.val (.int (a : Nat))) (.val (enc x)) z5' z6' (by rw [inner_len]; omega) (by omega) (fun w hw => hx w (by simp [hw])) r
    refine ⟨y3, y4, y5, y6, ?_, by rw [List.length_cons, show a + (xs.length + 1) = a + 1 + xs.length by omega]; exact r'⟩
    rw [List.map_cons, eD, loopF]
    unfold encL at e e' ⊢
    rw [fsF_eq]
    dsimp? [enum_eq, -fsF_eq]
    rw [e]
    dsimp? [-fsF_eq]
    exact e'
end
theorem rep_enc {m : Nat} : (List.replicate m (PyData.tuple [.int 0, .int 1])) = (List.replicate m (0 : Rat)).map enc := by
  rw [List.map_replicate, enc_zero]
theorem mulL_sz {xs ys : List Rat} {k l : Nat} (h : ∀ x ∈ xs, Sz k 1 x) (h' : ∀ y ∈ ys, Sz l 1 y) (hl : xs.length ≤ 60) : ∀ i, Sz (k + l) xs.length ((mulL xs ys).getD i 0) := by
  have key : ∀ (n i : Nat), Sz (k + l) n (Sg n fun j => if j ≤ i then xs.getD j 0 * ys.getD (i - j) 0 else 0) := by
    intro n i
    induction n with
    | zero => exact Sz.zero
    | succ n ih =>
      refine ih.add ?_
      have g : ∀ (zs : List Rat) (k : Nat), (∀ x ∈ zs, Sz k 1 x) → ∀ j, Sz k 1 (zs.getD j 0) := by
        intro zs k hz j
        by_cases c : j < zs.length
        · rw [List.getD_eq_getElem?_getD, List.getElem?_eq_getElem c]; exact hz _ (List.getElem_mem c)
        · rw [getD_out (by omega)]; exact Sz.zero
      show Sz (k + l) 1 (if n ≤ i then _ else _)
      split
      · exact (g xs k h n).mul (g ys l h' (i - n))
      · exact Sz.zero
  intro i
  unfold mulL
  rw [outer_at (by rw [List.length_replicate]; omega), getD_rep, Rat.zero_add]
  simp only [Nat.zero_add]
  exact key xs.length i
theorem cl_multiplied (H : Has P ι dep_multiplied) (hn : 3 ≤ n) {xs ys : List Rat} {k l : Nat} (h : ∀ x ∈ xs, Sz k 1 x) (h' : ∀ y ∈ ys, Sz l 1 y) (hk : k + l ≤ 150) (hl : xs.length ≤ 60) (hl' : ys.length ≤ 100) : callN P W0 n (ι i_multiplied) [encL xs, encL ys] S = some (encL (leanL (mulL xs ys)), S) := by
  obtain ⟨m, rfl⟩ : ∃ m, n = m + 1 := ⟨n - 1, by omega⟩
  rw [H.go (d := d_multiplied) rfl rfl rfl]
  obtain ⟨z3, z4, z5, z6, e, _⟩ := mul_outer (S := S) (C := callN P W0 m) (fun a b ha hb => cl_plus (H.sub (l' := dep_plus) rfl) (n := m) (by omega) ha hb) (fun a b ha hb => cl_times (H.sub (l' := dep_times) rfl) (n := m) (by omega) ha hb) hk h' xs (List.replicate (xs.length + ys.length) 0) 0 (.val (encL xs)) .no .no .no .no (by rw [List.length_replicate]; omega) (by omega) h (fun i => by rw [getD_rep]; exact Sz.zero)
  have e2 := cl_lean (H.sub (l' := dep_lean) rfl) (n := m) (S := S) (by omega) (xs := mulL xs ys) (.inl rfl) (by rw [mulL_len]; omega)
  unfold mulL at e2 ⊢
  have e3 : ((xs.length : Nat) : Int) + ((ys.length : Nat) : Int) = ((xs.length + ys.length : Nat) : Int) := by omega
  unfold encL at e e2 ⊢
  dsimp? [d_multiplied, -fsF_eq, List.length_map, e3, rep_T (k := xs.length + ys.length) (xs := [_]) (by omega) (show 1 ≤ 1000 by omega), flat_one, rep_enc, enum_eq]
  rw [e]
  dsimp? [e2]
/-- a sum by a row -/
def dotL (xs ys : List Rat) : Rat := lsum ((xs.zip ys).map fun p => p.1 * p.2)
theorem zip_enc {xs ys : List Rat} : zipD (xs.map enc) (ys.map enc) = (xs.zip ys).map fun p => .tuple [enc p.1, enc p.2] := by
  unfold zipD
  rw [List.zip_map, List.map_map]
  rfl
theorem cl_sum_in (H : Has P ι dep_sum_in) (hn : 4 ≤ n) {row xs : List Rat} {k l : Nat} (h : ∀ x ∈ row, Sz k 1 x) (h' : ∀ y ∈ xs, Sz l 1 y) (hk : k + l ≤ 150) (hl : xs.length ≤ 60) : callN P W0 n (ι i_sum_in) [encL row, encL xs] S = some (enc (dotL xs row), S) := by
  obtain ⟨m, rfl⟩ : ∃ m, n = m + 1 := ⟨n - 1, by omega⟩
  rw [H.go (d := d_sum_in) rfl rfl rfl]
  have hm : ∀ p ∈ xs.zip row, Sz l 1 p.1 ∧ Sz k 1 p.2 := fun p hp => ⟨h' _ (List.of_mem_zip hp).1, h _ (List.of_mem_zip hp).2⟩
  have e : loopC (lcF (callN P W0 m) (.acons (.nm 2) (.acons (.nm 3) .anil)) .anil (.call (ι i_times) (.acons (.var 2) (.acons (.var 3) .anil))) [.val (encL row), .val (encL xs), .no, .no]) ((xs.zip row).map fun p => .tuple [enc p.1, enc p.2]) S = some (((xs.zip row).map fun p => p.1 * p.2).map enc, S) := by
    rw [loopC_enc (g := fun p : Rat × Rat => enc (p.1 * p.2)) fun p hp => by
      have := hm p hp
      dsimp? [cl_times (H.sub (l' := dep_times) rfl) (n := m) (by omega) (this.1.sm (by omega) (by omega)) (this.2.sm (by omega) (by omega))], List.map_map]
    rfl
  have hlen : ((xs.zip row).map fun p => p.1 * p.2).length ≤ 60 := by simp; omega
  have e2 := cl_summed (H.sub (l' := dep_summed) rfl) (n := m) (S := S) (by omega) (xs := (xs.zip row).map fun p => p.1 * p.2) (k := l + k) (fun x hx => by
    obtain ⟨p, hp, rfl⟩ := List.mem_map.mp hx
    exact (hm p hp).1.mul1 (hm p hp).2) (by omega) (by omega)
  unfold encL at e ⊢
  dsimp? [d_sum_in, -lcF_eq, zip_enc, e, lim_map (xs := (xs.zip row).map fun p => p.1 * p.2) (by omega), e2]
  rfl
end PyM

set_option linter.all false
set_option maxRecDepth 100000
set_option exponentiation.threshold 20000
/-! PyN, part 8: the law's polynomials; likeness. -/
namespace PyM
local macro_rules | `(tactic| dsimp? [$ls,*]) => `(tactic| simp only [bnd_ok, bnd_no, get0, getS, getB0, getBo, getBS, ev_cst, ev_var, ev_bor, ev_bop, ev_neg, ev_notv, ev_band, ev_borr, ev_cmp, ev_chn, ev_ite, ev_call, ev_b1, ev_b2, ev_min3, ev_tup, ev_lst, ev_mkl, ev_ix, ev_sl, ev_rev, ev_lr, ev_lc, evA_nil, evA_cons, evO_nop, evO_cons, evT_band, evT_borr, evT_notv, evT_cmp, evT_chn, evT_call, evT_b1, evT_var, evQ_nil, evQ_cons, evI_S, evI_R1, evI_R2, evI_R3, evI_Z, evI_E, ex_skip, ex_seq, ex_asg, ex_asgO, ex_par, ex_seti, ex_swp, ex_app, ex_ext, ex_ifs, ex_forS, ex_ret, ex_expr, ex_frz, sg0, sgS, ss0, ssS, setTg_nm, setTg_tup, setTgs_nil, setTgs_cons, tgN_nm, tgN_cons, tgN_nil, wipe_nil, wipe_cons, par_nil, par_f, par_t, isB_cst, isB_var, isB_bop, isB_neg, isB_notv, isB_band, isB_borr, isB_cmp, isB_chn, isB_ite, isB_call, isB_b1, isB_b2, isB_min3, isB_tup, isB_lst, isB_ix, isB_sl, isB_rev, isB_lr, isB_lc, isB_tl, isB_mkl, op_add, op_addL, op_addT, op_sub, op_mul, op_mulL, op_mulT, op_fdiv, op_mod, c_lt, c_le, c_gt, c_ge, c_eqi, c_nei, ixF_L, ixF_T, ixF_loc, setiF_c0, setiF_c1, frzF_o0, frzF_v0, frzF_o1, frzF_v1, frzF_o2, frzF_v2, frzF_o3, frzF_v3, frzF_o4, frzF_v4, frzF_o5, frzF_v5, frzF_o6, frzF_v6, frzF_o7, frzF_v7, frzF_o8, frzF_v8, frzF_o9, frzF_v9, frzF_o10, frzF_v10,  sl_L, sl_T, rev_L, rev_T, seq_L, seq_T, o2_gcd, o2_max, o2_min, o1_lenL, o1_lenT, o1_abs, o1_int, o1_listL, o1_listT, o1_listS, o1_tupL, o1_tupT, o1_isTupT, o1_isTupL, o1_isTupI, o1_isIntI, o1_isIntT, o1_isIntL, o1_isBoolI, o1_isBoolT, o1_isBoolL, lim_n0, lim_n1, lim_n2, lim_n3, lim_n4, lim_n5, lim_n6, lim_n7, lim_n8, at0, at1, lcF_eq, fsF_eq, fin_ret, fin_next, Option.map_some, Option.map_none, List.map_cons, List.map_nil, List.length_cons, List.length_nil, List.replicate, List.cons_append, List.nil_append, List.append_nil, Nat.reduceAdd, Nat.reduceSub, Nat.reduceLT, Nat.reduceLeDiff, Bool.or_false, Bool.or_true, Bool.and_true, Bool.true_and, Bool.false_and, Bool.and_false, Bool.false_or, Bool.true_or, Bool.false_eq_true, Bool.not_true, Bool.not_false, if_true, if_false, reduceIte, decide_true, decide_false, Int.reduceEq, Int.reduceNe, Int.reduceLT, Int.reduceLE, Int.reduceNeg, ne_eq, not_false_eq_true, not_true_eq_false, $ls,*])
open PySem PyD B Mo
variable {P : List Def} {ι : Nat → Nat} {n : Nat} {S : Store}
theorem loopC_filter {α : Type} {f : PyD.D → Store → Option (List PyD.D × Store)} {e : α → PyD.D} {p : α → Bool} {g : α → PyD.D} {S : Store} : ∀ {xs : List α}, (∀ x ∈ xs, f (e x) S = some (if p x then [g x] else [], S)) → loopC f (xs.map e) S = some ((xs.filter p).map g, S)
  | [], _ => rfl
  | x :: xs, h => by
    rw [List.map_cons, loopC, h x (by simp)]
    show bnd (loopC f (xs.map e) S) _ = _
    rw [loopC_filter fun x hx => h x (by simp [hx]), List.filter_cons]
    cases p x <;> rfl
theorem lnN_tail {xs : List Rat} {a : Nat} (ha : a ≤ xs.length) : (!((xs.drop a).filter fun q => decide (q ≠ 0)).isEmpty) = decide (a < lnN xs xs.length) := by
  by_cases c : a < lnN xs xs.length
  · rw [decide_eq_true c]
    have h1 := lnN_last xs xs.length (by omega)
    have h2 := lnN_le xs xs.length
    have h3 : xs.getD (lnN xs xs.length - 1) 0 ∈ xs.drop a := by
      rw [List.getD_eq_getElem?_getD, List.getElem?_eq_getElem (by omega)]
      rw [List.mem_iff_getElem]
      refine ⟨lnN xs xs.length - 1 - a, by rw [List.length_drop]; omega, ?_⟩
      rw [List.getElem_drop]
      simp only [Option.getD_some]
      congr 1
      omega
    have h4 : xs.getD (lnN xs xs.length - 1) 0 ∈ (xs.drop a).filter fun q => decide (q ≠ 0) := List.mem_filter.mpr ⟨h3, decide_eq_true h1⟩
    cases hh : (xs.drop a).filter fun q => decide (q ≠ 0) with
    | nil => rw [hh] at h4; exact absurd h4 (by simp)
    | cons => rfl
  · rw [decide_eq_false c]
    have : (xs.drop a).filter (fun q => decide (q ≠ 0)) = [] := by
      rw [List.filter_eq_nil_iff]
      intro q hq
      obtain ⟨i, hi, rfl⟩ := List.mem_iff_getElem.mp hq
      rw [List.length_drop] at hi
      have := lnN_zero xs xs.length (a + i) (by omega) (by omega)
      rw [List.getD_eq_getElem?_getD, List.getElem?_eq_getElem (by omega)] at this
      simp only [List.getElem_drop]
      simpa using this
    rw [this]; rfl
theorem count_lt {c : Nat} : ∀ {n : Nat}, c ≤ n → ((List.range n).filter fun a => decide (a < c)).length = c := by
  intro n h
  induction n with
  | zero => have : c = 0 := by omega
            subst this; rfl
  | succ n ih =>
    rw [List.range_succ, List.filter_append, List.length_append]
    by_cases e : c = n + 1
    · subst e
      have : ((List.range n).filter fun a => decide (a < n + 1)) = List.range n := List.filter_eq_self.mpr fun a ha => decide_eq_true (by have := List.mem_range.mp ha; omega)
      rw [this, List.length_range]
      simp
    · rw [ih (by omega)]
      simp; omega
theorem dropT {xs : List Rat} {m : Nat} (h : m ≤ xs.length) : cutD (xs.map enc) (some (m : Nat)) none = (xs.drop m).map enc := by
  unfold cutD HT.sIx
  have hm : ¬ ((m : Nat) : Int) < 0 := by omega
  simp only [hm, if_false, List.length_map, Int.toNat_natCast, Nat.min_eq_left h, List.map_drop]
  rw [List.take_of_length_le (by simp)]
theorem pl_ints {k : Nat} {d : PyD.D} {xs : List Int} (h : d ∈ xs.map PyData.int) : Pl k d := by
  obtain ⟨i, _, rfl⟩ := List.mem_map.mp h
  exact .int
theorem cl_llean (H : Has P ι dep__law_lean) (hn : 1 ≤ n) {xs : List Rat} (hl : xs.length ≤ 1000) : callN P W0 n (ι i__law_lean) [.list (xs.map enc)] S = some (encL (leanL xs), S) := by
  obtain ⟨m, rfl⟩ : ∃ m, n = m + 1 := ⟨n - 1, by omega⟩
  rw [H.go (d := d__law_lean) rfl rfl rfl]
  have e : loopC (lcF (callN P W0 m) (.nm 2) (.acons (.cmp .ne (.lc (.nm 3) (.itS (.sl (.var 0) (.acons (.var 2) .nop) .nop)) (.acons (.cmp .ne (.ix (.var 3) (.cst (.int 0))) (.cst (.int 0))) .anil) (.var 3)) (.lst .anil)) .anil) (.cst (.int 1)) [.val (.list (xs.map enc)), .no, .no, .no]) (rngD 0 ((xs.length : Nat) : Int)) S = some (((List.range xs.length).filter fun a => decide (a < lnN xs xs.length)).map fun _ => .int 1, S) := by
    rw [rng_eq]
    refine loopC_filter (g := fun _ => .int 1) fun a ha => ?_
    have ha' : a ≤ xs.length := by have := List.mem_range.mp ha; omega
    have e1 : ∀ z, loopC (lcF (callN P W0 m) (.nm 3) (.acons (.cmp .ne (.ix (.var 3) (.cst (.int 0))) (.cst (.int 0))) .anil) (.var 3) [.val (.list (xs.map enc)), .no, .val (.int (a : Nat)), z]) ((xs.drop a).map enc) S = some (((xs.drop a).filter fun q => decide (q ≠ 0)).map enc, S) := fun z => by
      refine loopC_filter (g := enc) fun q hq => ?_
      by_cases c : q = 0
      · dsimp? [ix_num, num0, c]
      · dsimp? [ix_num, num0, c]
    have e2 : lim (((xs.drop a).filter fun q => decide (q ≠ 0)).map enc) = some (((xs.drop a).filter fun q => decide (q ≠ 0)).map enc) := lim_map (by
      have := List.length_filter_le (fun q => decide (q ≠ 0)) (xs.drop a)
      rw [List.length_drop] at this
      omega)
    have e3 := ne_nilL (k := 1) (xs := ((xs.drop a).filter fun q => decide (q ≠ 0)).map enc) (fun d hd => by obtain ⟨q, _, rfl⟩ := List.mem_map.mp hd; exact pl_enc) (by omega)
    rw [List.isEmpty_map, lnN_tail ha'] at e3
    rw [lcF_eq]
    simp only [decide_not] at e1 e2 e3
    by_cases c : a < lnN xs xs.length
    · rw [decide_eq_true c] at e3
      dsimp? [-lcF_eq, dropT ha', e1, e2, e3, c]
    · rw [decide_eq_false c] at e3
      dsimp? [-lcF_eq, dropT ha', e1, e2, e3, c]
  have e2 : lim (((List.range xs.length).filter fun a => decide (a < lnN xs xs.length)).map fun _ => PyData.int 1) = some _ := lim_ok (by
    rw [List.length_map, count_lt (lnN_le xs _)]
    have := lnN_le xs xs.length
    omega)
  dsimp? [d__law_lean, -lcF_eq, List.length_map, rng_ok (show xs.length < 2 ^ 60 by omega), e, e2, count_lt (lnN_le xs xs.length), cutT (lnN_le xs xs.length)]
  rfl
theorem cl_lscaled (H : Has P ι dep__law_scaled) (hn : 4 ≤ n) {xs : List Rat} {c : Rat} (h : ∀ x ∈ xs, sm x) (hc : sm c) (hl : xs.length ≤ 100) : callN P W0 n (ι i__law_scaled) [encL xs, enc c] S = some (encL (leanL (xs.map (· * c))), S) := by
  obtain ⟨m, rfl⟩ : ∃ m, n = m + 1 := ⟨n - 1, by omega⟩
  rw [H.go (d := d__law_scaled) rfl rfl rfl]
  have e : loopC (lcF (callN P W0 m) (.nm 2) .anil (.call (ι i__law_times) (.acons (.var 2) (.acons (.var 1) .anil))) [.val (encL xs), .val (enc c), .no]) (xs.map enc) S = some ((xs.map (· * c)).map enc, S) := by
    rw [loopC_enc (g := fun x => enc (x * c)) fun x hx => by dsimp? [cl_ltimes (H.sub (l' := dep__law_times) rfl) (n := m) (by omega) (h x hx) hc], List.map_map]
    rfl
  unfold encL at e
  have e2 := cl_llean (H.sub (l' := dep__law_lean) rfl) (n := m) (S := S) (by omega) (xs := xs.map (· * c)) (by rw [List.length_map]; omega)
  unfold encL at e2 ⊢
  dsimp? [d__law_scaled, -lcF_eq, e, lim_map (xs := xs.map (· * c)) (by rw [List.length_map]; omega), e2]
def padL (xs : List Rat) (m : Nat) : List Rat := xs ++ List.replicate (m - xs.length) 0
def addL (xs ys : List Rat) : List Rat := ((padL xs (max xs.length ys.length)).zip (padL ys (max xs.length ys.length))).map fun p => p.1 + p.2
theorem padL_len {xs : List Rat} {m : Nat} (h : xs.length ≤ m) : (padL xs m).length = m := by
  unfold padL
  simp; omega
theorem padL_at {xs : List Rat} {m i : Nat} : (padL xs m).getD i 0 = xs.getD i 0 := by
  unfold padL
  rw [List.getD_eq_getElem?_getD, List.getD_eq_getElem?_getD, List.getElem?_append]
  split
  · rfl
  · rename_i c
    rw [List.getElem?_eq_none (by omega : xs.length ≤ i), List.getElem?_replicate]
    split <;> rfl
theorem padL_mem {xs : List Rat} {m : Nat} {Q : Rat → Prop} (h : ∀ x ∈ xs, Q x) (h0 : Q 0) : ∀ x ∈ padL xs m, Q x := by
  intro x hx
  unfold padL at hx
  rcases List.mem_append.mp hx with h1 | h1
  · exact h x h1
  · rw [(List.mem_replicate.mp h1).2]; exact h0
theorem addL_at {xs ys : List Rat} {i : Nat} : (addL xs ys).getD i 0 = xs.getD i 0 + ys.getD i 0 := by
  unfold addL
  have l1 := padL_len (xs := xs) (m := max xs.length ys.length) (by omega)
  have l2 := padL_len (xs := ys) (m := max xs.length ys.length) (by omega)
  rw [← padL_at (xs := xs) (m := max xs.length ys.length) (i := i), ← padL_at (xs := ys) (m := max xs.length ys.length) (i := i)]
  generalize padL xs (max xs.length ys.length) = A at *
  generalize padL ys (max xs.length ys.length) = B at *
  by_cases c : i < max xs.length ys.length
  · have hA : A[i]? = some (A[i]'(by omega)) := List.getElem?_eq_getElem _
    have hB : B[i]? = some (B[i]'(by omega)) := List.getElem?_eq_getElem _
    have hz : (A.zip B)[i]? = some (A[i]'(by omega), B[i]'(by omega)) := List.getElem?_zip_eq_some.mpr ⟨hA, hB⟩
    rw [List.getD_eq_getElem?_getD, List.getD_eq_getElem?_getD, List.getD_eq_getElem?_getD, List.getElem?_map, hz, hA, hB]
    rfl
  · rw [getD_out (by simp; omega), getD_out (by omega), getD_out (by omega)]; grind
theorem addL_len {xs ys : List Rat} : (addL xs ys).length = max xs.length ys.length := by
  unfold addL
  rw [List.length_map, List.length_zip, padL_len (by omega), padL_len (by omega)]
  omega
theorem cl_lsum (H : Has P ι dep__law_sum) (hn : 4 ≤ n) {xs ys : List Rat} (h : ∀ x ∈ xs, sm x) (h' : ∀ x ∈ ys, sm x) (hl : xs.length ≤ 100) (hl' : ys.length ≤ 100) : callN P W0 n (ι i__law_sum) [encL xs, encL ys] S = some (encL (leanL (addL xs ys)), S) := by
  obtain ⟨m, rfl⟩ : ∃ m, n = m + 1 := ⟨n - 1, by omega⟩
  rw [H.go (d := d__law_sum) rfl rfl rfl]
  have e : ∀ A B : List Rat, (∀ x ∈ A, sm x) → (∀ x ∈ B, sm x) → ∀ v, loopC (lcF (callN P W0 m) (.acons (.nm 5) (.acons (.nm 6) .anil)) .anil (.call (ι i__law_plus) (.acons (.var 5) (.acons (.var 6) .anil))) [.val (encL xs), .val (encL ys), v, .val (.list (A.map enc)), .val (.list (B.map enc)), .no, .no]) ((A.zip B).map fun p => .tuple [enc p.1, enc p.2]) S = some (((A.zip B).map fun p => p.1 + p.2).map enc, S) := by
    intro A B hA hB v
    rw [loopC_enc (g := fun p : Rat × Rat => enc (p.1 + p.2)) fun p hp => by
      dsimp? [cl_lplus (H.sub (l' := dep__law_plus) rfl) (n := m) (by omega) (hA _ (List.of_mem_zip hp).1) (hB _ (List.of_mem_zip hp).2)], List.map_map]
    rfl
  have hlen : (addL xs ys).length ≤ 1000 := by rw [addL_len]; omega
  have e2 := cl_llean (H.sub (l' := dep__law_lean) rfl) (n := m) (S := S) (by omega) (xs := addL xs ys) hlen
  have e4 := e (padL xs (max xs.length ys.length)) (padL ys (max xs.length ys.length)) (padL_mem h sm_zero) (padL_mem h' sm_zero)
  have s1 : ((max xs.length ys.length : Nat) : Int) - ((xs.length : Nat) : Int) = ((max xs.length ys.length - xs.length : Nat) : Int) := by omega
  have s2 : ((max xs.length ys.length : Nat) : Int) - ((ys.length : Nat) : Int) = ((max xs.length ys.length - ys.length : Nat) : Int) := by omega
  have p1 : xs.map enc ++ (List.replicate (max xs.length ys.length - xs.length) (0 : Rat)).map enc = (padL xs (max xs.length ys.length)).map enc := by unfold padL; rw [List.map_append]
  have p2 : ys.map enc ++ (List.replicate (max xs.length ys.length - ys.length) (0 : Rat)).map enc = (padL ys (max xs.length ys.length)).map enc := by unfold padL; rw [List.map_append]
  have q1 := lim_map (xs := padL xs (max xs.length ys.length)) (by rw [padL_len (by omega)]; omega)
  have q2 := lim_map (xs := padL ys (max xs.length ys.length)) (by rw [padL_len (by omega)]; omega)
  have q3 := lim_map hlen
  unfold addL at e2 q3 ⊢
  unfold encL at e4 e2 ⊢
  dsimp? [d__law_sum, -lcF_eq, List.length_map, max_nat, s1, s2, rep_T (k := max xs.length ys.length - xs.length) (xs := [_]) (by omega) (show 1 ≤ 1000 by omega), rep_T (k := max xs.length ys.length - ys.length) (xs := [_]) (by omega) (show 1 ≤ 1000 by omega), flat_one, rep_enc, p1, p2, q1, q2, zip_enc, e4, q3, e2]
theorem cl_lproduct (H : Has P ι dep__law_product) (hn : 4 ≤ n) {xs ys : List Rat} {k l : Nat} (h : ∀ x ∈ xs, Sz k 1 x) (h' : ∀ y ∈ ys, Sz l 1 y) (hk : k + l ≤ 150) (hl : xs.length ≤ 60) (hl' : ys.length ≤ 100) : callN P W0 n (ι i__law_product) [encL xs, encL ys] S = some (encL (leanL (mulL xs ys)), S) := by
  obtain ⟨m, rfl⟩ : ∃ m, n = m + 1 := ⟨n - 1, by omega⟩
  rw [H.go (d := d__law_product) rfl rfl rfl]
  obtain ⟨z3, z4, z5, z6, e, _⟩ := mul_outer (S := S) (C := callN P W0 m) (fun a b ha hb => cl_lplus (H.sub (l' := dep__law_plus) rfl) (n := m) (by omega) ha hb) (fun a b ha hb => cl_ltimes (H.sub (l' := dep__law_times) rfl) (n := m) (by omega) ha hb) hk h' xs (List.replicate (xs.length + ys.length) 0) 0 (.val (encL xs)) .no .no .no .no (by rw [List.length_replicate]; omega) (by omega) h (fun i => by rw [getD_rep]; exact Sz.zero)
  have e2 := cl_llean (H.sub (l' := dep__law_lean) rfl) (n := m) (S := S) (by omega) (xs := mulL xs ys) (by rw [mulL_len]; omega)
  unfold mulL at e2 ⊢
  have e3 : ((xs.length : Nat) : Int) + ((ys.length : Nat) : Int) = ((xs.length + ys.length : Nat) : Int) := by omega
  unfold encL at e e2 ⊢
  dsimp? [d__law_product, -fsF_eq, List.length_map, e3, rep_T (k := xs.length + ys.length) (xs := [_]) (by omega) (show 1 ≤ 1000 by omega), flat_one, rep_enc, enum_eq]
  rw [e]
  dsimp? [e2]
/-! ### likeness -/
def sortN : PyD.D → Int
  | .none => 0
  | .bool _ => 1
  | .int _ => 2
  | .str _ => 3
  | .tuple _ => 4
  | .list _ => 5
  | .dict _ => 6
theorem cl_sort (H : Has P ι dep__law_sort) (hn : 1 ≤ n) {k : Nat} {d : PyD.D} (h : Pl k d) : callN P W0 n (ι i__law_sort) [d] S = some (.int (sortN d), S) := by
  obtain ⟨m, rfl⟩ : ∃ m, n = m + 1 := ⟨n - 1, by omega⟩
  rw [H.go (d := d__law_sort) rfl rfl rfl]
  cases h with
  | int => rfl
  | bool => rfl
  | none => rfl
  | tup => rfl
  | lst => rfl
theorem zip_self {ds : List PyD.D} : zipD ds ds = ds.map fun d => .tuple [d, d] := by
  unfold zipD
  induction ds with
  | nil => rfl
  | cons d ds ih => rw [List.zip_cons_cons, List.map_cons, ih, List.map_cons]
theorem cl_like (H : Has P ι dep__law_like) : ∀ {k n : Nat} {d : PyD.D}, k + 2 ≤ n → Pl k d → callN P W0 n (ι i__law_like) [d, d] S = some (.bool true, S) := by
  intro k n d hn hd
  induction hd generalizing n with
  | @int k i =>
    obtain ⟨m, rfl⟩ : ∃ m, n = m + 1 := ⟨n - 1, by omega⟩
    rw [H.go (d := d__law_like) rfl rfl rfl]
    dsimp? [d__law_like, cl_sort (H.sub (l' := dep__law_sort) rfl) (n := m) (by omega) (Pl.int (k := 0)), sortN, show opC .inn (.int 2) (.tuple [.int 4, .int 5]) = some false from rfl]
  | @bool k b =>
    obtain ⟨m, rfl⟩ : ∃ m, n = m + 1 := ⟨n - 1, by omega⟩
    rw [H.go (d := d__law_like) rfl rfl rfl]
    have e : opC .eq (.bool b) (.bool b) = some true := by cases b <;> rfl
    dsimp? [d__law_like, cl_sort (H.sub (l' := dep__law_sort) rfl) (n := m) (by omega) (Pl.bool (k := 0)), sortN, show opC .inn (.int 1) (.tuple [.int 4, .int 5]) = some false from rfl, e]
  | @none k =>
    obtain ⟨m, rfl⟩ : ∃ m, n = m + 1 := ⟨n - 1, by omega⟩
    rw [H.go (d := d__law_like) rfl rfl rfl]
    dsimp? [d__law_like, cl_sort (H.sub (l' := dep__law_sort) rfl) (n := m) (by omega) (Pl.none (k := 0)), sortN, show opC .inn (.int 0) (.tuple [.int 4, .int 5]) = some false from rfl, show opC .eq .none .none = some true from rfl]
  | @tup k ds hds ih =>
    obtain ⟨m, rfl⟩ : ∃ m, n = m + 1 := ⟨n - 1, by omega⟩
    rw [H.go (d := d__law_like) rfl rfl rfl]
    have e : loopC (lcF (callN P W0 m) (.acons (.nm 3) (.acons (.nm 4) .anil)) (.acons (.notv (.call (ι i__law_like) (.acons (.var 3) (.acons (.var 4) .anil)))) .anil) (.cst (.int 1)) [.val (.tuple ds), .val (.tuple ds), .val (.int 4), .no, .no]) (ds.map fun d => .tuple [d, d]) S = some ([], S) := by
      rw [loopC_filter (p := fun _ => false) (g := fun _ => .int 1) fun d hd => by
        dsimp? [ih d hd (n := m) (by omega)]]
      simp
    dsimp? [d__law_like, -lcF_eq, cl_sort (H.sub (l' := dep__law_sort) rfl) (n := m) (by omega) (Pl.tup hds), sortN, show opC .inn (.int 4) (.tuple [.int 4, .int 5]) = some true from rfl, zip_self, e, show opC .eq (.list []) (.list []) = some true from rfl]
  | @lst k ds hds ih =>
    obtain ⟨m, rfl⟩ : ∃ m, n = m + 1 := ⟨n - 1, by omega⟩
    rw [H.go (d := d__law_like) rfl rfl rfl]
    have e : loopC (lcF (callN P W0 m) (.acons (.nm 3) (.acons (.nm 4) .anil)) (.acons (.notv (.call (ι i__law_like) (.acons (.var 3) (.acons (.var 4) .anil)))) .anil) (.cst (.int 1)) [.val (.list ds), .val (.list ds), .val (.int 5), .no, .no]) (ds.map fun d => .tuple [d, d]) S = some ([], S) := by
      rw [loopC_filter (p := fun _ => false) (g := fun _ => .int 1) fun d hd => by
        dsimp? [ih d hd (n := m) (by omega)]]
      simp
    dsimp? [d__law_like, -lcF_eq, cl_sort (H.sub (l' := dep__law_sort) rfl) (n := m) (by omega) (Pl.lst hds), sortN, show opC .inn (.int 5) (.tuple [.int 4, .int 5]) = some true from rfl, zip_self, e, show opC .eq (.list []) (.list []) = some true from rfl]
end PyM

set_option linter.all false
set_option maxRecDepth 100000
set_option exponentiation.threshold 20000
/-! PyN, part 9: what comes of a part (rules for loops); the checks of fractions, rows, steps. -/
namespace PyM
local macro_rules | `(tactic| dsimp? [$ls,*]) => `(tactic| simp only [bnd_ok, bnd_no, get0, getS, getB0, getBo, getBS, ev_cst, ev_var, ev_bor, ev_bop, ev_neg, ev_notv, ev_band, ev_borr, ev_cmp, ev_chn, ev_ite, ev_call, ev_b1, ev_b2, ev_min3, ev_tup, ev_lst, ev_mkl, ev_ix, ev_sl, ev_rev, ev_lr, ev_lc, evA_nil, evA_cons, evO_nop, evO_cons, evT_band, evT_borr, evT_notv, evT_cmp, evT_chn, evT_call, evT_b1, evT_var, evQ_nil, evQ_cons, evI_S, evI_R1, evI_R2, evI_R3, evI_Z, evI_E, ex_skip, ex_seq, ex_asg, ex_asgO, ex_par, ex_seti, ex_swp, ex_app, ex_ext, ex_ifs, ex_forS, ex_ret, ex_expr, ex_frz, sg0, sgS, ss0, ssS, setTg_nm, setTg_tup, setTgs_nil, setTgs_cons, tgN_nm, tgN_cons, tgN_nil, wipe_nil, wipe_cons, par_nil, par_f, par_t, isB_cst, isB_var, isB_bop, isB_neg, isB_notv, isB_band, isB_borr, isB_cmp, isB_chn, isB_ite, isB_call, isB_b1, isB_b2, isB_min3, isB_tup, isB_lst, isB_ix, isB_sl, isB_rev, isB_lr, isB_lc, isB_tl, isB_mkl, op_add, op_addL, op_addT, op_sub, op_mul, op_mulL, op_mulT, op_fdiv, op_mod, c_lt, c_le, c_gt, c_ge, c_eqi, c_nei, ixF_L, ixF_T, ixF_loc, setiF_c0, setiF_c1, frzF_o0, frzF_v0, frzF_o1, frzF_v1, frzF_o2, frzF_v2, frzF_o3, frzF_v3, frzF_o4, frzF_v4, frzF_o5, frzF_v5, frzF_o6, frzF_v6, frzF_o7, frzF_v7, frzF_o8, frzF_v8, frzF_o9, frzF_v9, frzF_o10, frzF_v10,  sl_L, sl_T, rev_L, rev_T, seq_L, seq_T, o2_gcd, o2_max, o2_min, o1_lenL, o1_lenT, o1_abs, o1_int, o1_listL, o1_listT, o1_listS, o1_tupL, o1_tupT, o1_isTupT, o1_isTupL, o1_isTupI, o1_isIntI, o1_isIntT, o1_isIntL, o1_isBoolI, o1_isBoolT, o1_isBoolL, lim_n0, lim_n1, lim_n2, lim_n3, lim_n4, lim_n5, lim_n6, lim_n7, lim_n8, at0, at1, lcF_eq, fsF_eq, fin_ret, fin_next, Option.map_some, Option.map_none, List.map_cons, List.map_nil, List.length_cons, List.length_nil, List.replicate, List.cons_append, List.nil_append, List.append_nil, Nat.reduceAdd, Nat.reduceSub, Nat.reduceLT, Nat.reduceLeDiff, Bool.or_false, Bool.or_true, Bool.and_true, Bool.true_and, Bool.false_and, Bool.and_false, Bool.false_or, Bool.true_or, Bool.false_eq_true, Bool.not_true, Bool.not_false, if_true, if_false, reduceIte, decide_true, decide_false, Int.reduceEq, Int.reduceNe, Int.reduceLT, Int.reduceLE, Int.reduceNeg, ne_eq, not_false_eq_true, not_true_eq_false, $ls,*])
open PySem PyD B Mo
variable {P : List Def} {ι : Nat → Nat} {n : Nat} {S : Store}
/-- something comes, and it is so -/
def Yl {α : Type} (r : Option (α × Store)) (Q : α → Store → Prop) : Prop := ∃ a S, r = some (a, S) ∧ Q a S
theorem Yl.ok {α : Type} {a : α} {S : Store} {Q : α → Store → Prop} (h : Q a S) : Yl (some (a, S)) Q := ⟨a, S, rfl, h⟩
theorem Yl.bind {α β : Type} {x : Option (α × Store)} {K : α → Store → Option (β × Store)} {Q : β → Store → Prop} (h : Yl x fun a S => Yl (K a S) Q) : Yl (bnd x K) Q := by
  obtain ⟨a, S, e, b, S', e', q⟩ := h
  exact ⟨b, S', by rw [e]; exact e', q⟩
theorem Yl.imp {α : Type} {r : Option (α × Store)} {Q Q' : α → Store → Prop} (h : Yl r Q) (hq : ∀ a S, Q a S → Q' a S) : Yl r Q' := by
  obtain ⟨a, S, e, q⟩ := h
  exact ⟨a, S, e, hq a S q⟩
/-- a call's value and store by its body -/
theorem Yl.fin {r : Option (Res × Store)} {d : PyD.D} {S : Store} (h : Yl r fun a S' => (a = .ret d ∨ ∃ ρ, a = .next ρ ∧ d = .none) ∧ S' = S) : PyM.fin r = some (d, S) := by
  obtain ⟨a, S', e, h1, rfl⟩ := h
  rw [e]
  rcases h1 with rfl | ⟨ρ, rfl, rfl⟩ <;> rfl
theorem Yl.finE {r : Option (Res × Store)} {d : PyD.D} {Q : Store → Prop} (h : Yl r fun a S' => (a = .ret d ∨ ∃ ρ, a = .next ρ ∧ d = .none) ∧ Q S') : ∃ S', PyM.fin r = some (d, S') ∧ Q S' := by
  obtain ⟨a, S', e, h1, q⟩ := h
  refine ⟨S', ?_, q⟩
  rw [e]
  rcases h1 with rfl | ⟨ρ, rfl, rfl⟩ <;> rfl
theorem Yl.ret {d : PyD.D} {S : Store} : Yl (some (Res.ret d, S)) fun a S' => (a = .ret d ∨ ∃ ρ, a = .next ρ ∧ d = .none) ∧ S' = S := ⟨_, _, rfl, .inl rfl, rfl⟩
theorem Yl.nxt {ρ : PyD.Env} {S : Store} : Yl (some (Res.next ρ, S)) fun a S' => (a = .ret PyData.none ∨ ∃ ρ, a = .next ρ ∧ PyData.none = PyData.none) ∧ S' = S := ⟨_, _, rfl, .inr ⟨ρ, rfl, rfl⟩, rfl⟩
/-- a loop that ends, by an invariant -/
theorem Yl.loop {f : PyD.D → PyD.Env → Store → Option (Res × Store)} : ∀ {ds : List PyD.D} {Inv : Nat → PyD.Env → Store → Prop} {ρ : PyD.Env} {S : Store}, Inv 0 ρ S → (∀ i ρ S (h : i < ds.length), Inv i ρ S → Yl (f (ds[i]'h) ρ S) fun r S' => ∃ ρ', r = .next ρ' ∧ Inv (i + 1) ρ' S') → Yl (loopF f ds ρ S) fun r S' => ∃ ρ', r = .next ρ' ∧ Inv ds.length ρ' S'
  | [], Inv, ρ, S, h0, _ => ⟨_, _, rfl, ρ, rfl, h0⟩
  | d :: ds, Inv, ρ, S, h0, h => by
    obtain ⟨r, S1, e1, ρ1, rfl, h1⟩ := h 0 ρ S (by simp) h0
    have := Yl.loop (f := f) (ds := ds) (Inv := fun i ρ => Inv (i + 1) ρ) h1 fun i ρ S hi hI => h (i + 1) ρ S (by simpa using hi) hI
    simp only [List.getElem_cons_zero] at e1
    rw [loopF, e1]
    rw [bnd_ok]
    simpa using this
theorem Yl.bloop {f : PyD.D → PyD.Env → Store → Option (Res × Store)} {ds : List PyD.D} {β : Type} {K : Res → Store → Option (β × Store)} {Q : β → Store → Prop} (Inv : Nat → PyD.Env → Store → Prop) {ρ : PyD.Env} {S : Store} (h0 : Inv 0 ρ S) (h : ∀ i ρ S (h : i < ds.length), Inv i ρ S → Yl (f (ds[i]'h) ρ S) fun r S' => ∃ ρ', r = .next ρ' ∧ Inv (i + 1) ρ' S') (hk : ∀ ρ S, Inv ds.length ρ S → Yl (K (.next ρ) S) Q) : Yl (bnd (loopF f ds ρ S) K) Q :=
  (Yl.loop h0 h).imp (by rintro a S ⟨ρ, rfl, hI⟩; exact hk ρ S hI) |>.bind
/-- a loop over numbers -/
theorem Yl.rng {f : PyD.D → PyD.Env → Store → Option (Res × Store)} {m : Nat} {β : Type} {K : Res → Store → Option (β × Store)} {Q : β → Store → Prop} (Inv : Nat → PyD.Env → Store → Prop) {ρ : PyD.Env} {S : Store} (h0 : Inv 0 ρ S) (h : ∀ i ρ S, i < m → Inv i ρ S → Yl (f (.int (i : Nat)) ρ S) fun r S' => ∃ ρ', r = .next ρ' ∧ Inv (i + 1) ρ' S') (hk : ∀ ρ S, Inv m ρ S → Yl (K (.next ρ) S) Q) : Yl (bnd (loopF f (rngD 0 (m : Nat)) ρ S) K) Q := by
  refine Yl.bloop Inv h0 (fun i ρ S hi hI => ?_) (by rw [rng_len]; exact hk)
  rw [rng_at hi]
  rw [rng_len] at hi
  exact h i ρ S hi hI
/-- a loop over numbers from a first one on -/
theorem Yl.rng2 {f : PyD.D → PyD.Env → Store → Option (Res × Store)} {a b : Nat} {β : Type} {K : Res → Store → Option (β × Store)} {Q : β → Store → Prop} (Inv : Nat → PyD.Env → Store → Prop) {ρ : PyD.Env} {S : Store} (hab : a ≤ b) (h0 : Inv a ρ S) (h : ∀ i ρ S, a ≤ i → i < b → Inv i ρ S → Yl (f (.int (i : Nat)) ρ S) fun r S' => ∃ ρ', r = .next ρ' ∧ Inv (i + 1) ρ' S') (hk : ∀ ρ S, Inv b ρ S → Yl (K (.next ρ) S) Q) : Yl (bnd (loopF f (rngD (a : Nat) (b : Nat)) ρ S) K) Q := by
  have hlen : (rngD (a : Nat) (b : Nat)).length = b - a := by rw [rng2_eq hab]; simp
  refine Yl.bloop (fun i => Inv (a + i)) h0 (fun i ρ S hi hI => ?_) (by rw [hlen, show a + (b - a) = b by omega]; exact hk)
  have e : (rngD (a : Nat) (b : Nat))[i]'hi = .int ((a + i : Nat) : Int) := by
    simp only [rng2_eq hab]
    simp
  rw [e]
  rw [hlen] at hi
  exact h (a + i) ρ S (by omega) (by omega) hI
/-- a loop over fractions (or anything that is mapped) -/
theorem Yl.lst {α : Type} {e : α → PyD.D} {f : PyD.D → PyD.Env → Store → Option (Res × Store)} {xs : List α} {β : Type} {K : Res → Store → Option (β × Store)} {Q : β → Store → Prop} (Inv : Nat → PyD.Env → Store → Prop) {ρ : PyD.Env} {S : Store} (h0 : Inv 0 ρ S) (h : ∀ i ρ S (hi : i < xs.length), Inv i ρ S → Yl (f (e (xs[i]'hi)) ρ S) fun r S' => ∃ ρ', r = .next ρ' ∧ Inv (i + 1) ρ' S') (hk : ∀ ρ S, Inv xs.length ρ S → Yl (K (.next ρ) S) Q) : Yl (bnd (loopF f (xs.map e) ρ S) K) Q := by
  refine Yl.bloop Inv h0 (fun i ρ S hi hI => ?_) (by rw [List.length_map]; exact hk)
  rw [List.getElem_map]
  exact h i ρ S (by rw [List.length_map] at hi; exact hi) hI
theorem Yl.unb {α : Type} {x : Option (α × Store)} {Q : α → Store → Prop} (h : Yl (bnd x fun r S => some (r, S)) Q) : Yl x Q := by
  obtain ⟨a, S, e, q⟩ := h
  rcases x with _ | ⟨y, T⟩
  · cases e
  · exact ⟨a, S, e, q⟩
theorem Yl.stay {Inv : PyD.Env → Store → Prop} {ρ : PyD.Env} {S : Store} (h : Inv ρ S) : Yl (some (Res.next ρ, S)) fun r S' => ∃ ρ', r = .next ρ' ∧ Inv ρ' S' := ⟨_, _, rfl, ρ, rfl, h⟩
theorem loopC_nil {f : PyD.D → Store → Option (List PyD.D × Store)} : loopC f [] S = some ([], S) := rfl
theorem loopC_cons {f : PyD.D → Store → Option (List PyD.D × Store)} {d : PyD.D} {ds : List PyD.D} : loopC f (d :: ds) S = bnd (f d S) fun y S => bnd (loopC f ds S) fun ys S => some (y ++ ys, S) := (rfl)
theorem loopF_nil {f : PyD.D → PyD.Env → Store → Option (Res × Store)} {ρ : PyD.Env} : loopF f [] ρ S = some (.next ρ, S) := (rfl)
theorem loopF_cons {f : PyD.D → PyD.Env → Store → Option (Res × Store)} {d : PyD.D} {ds : List PyD.D} {ρ : PyD.Env} : loopF f (d :: ds) ρ S = bnd (f d ρ S) fun r S => (match r with
    | .next ρ => loopF f ds ρ S
    | .ret d => some (.ret d, S)) := (rfl)
/-! ### checks -/
theorem allB {α : Type} {g : α → Bool} : ∀ {xs : List α}, allBool (xs.map fun x => .bool (g x)) = some (xs.map g)
  | [] => rfl
  | x :: xs => by rw [List.map_cons, allBool, allB]; rfl
theorem o1_all {α : Type} {g : α → Bool} {xs : List α} : op1 .all (.list (xs.map fun x => .bool (g x))) = some (.bool (xs.all g)) := by
  show (allBool _).map _ = _
  rw [allB]
  simp only [Option.map_some, List.all_map]
  rfl
theorem cl_is_integer (H : Has P ι dep_is_integer) (hn : 1 ≤ n) {i : Int} : callN P W0 n (ι i_is_integer) [.int i] S = some (.bool true, S) := by
  obtain ⟨m, rfl⟩ : ∃ m, n = m + 1 := ⟨n - 1, by omega⟩
  rw [H.go (d := d_is_integer) rfl rfl rfl]
  dsimp? [d_is_integer]
theorem cl_is_number (H : Has P ι dep_is_number) (hn : 2 ≤ n) {i lo hi : Int} : callN P W0 n (ι i_is_number) [.int i, .int lo, .int hi] S = some (.bool (decide (lo ≤ i) && decide (i ≤ hi)), S) := by
  obtain ⟨m, rfl⟩ : ∃ m, n = m + 1 := ⟨n - 1, by omega⟩
  rw [H.go (d := d_is_number) rfl rfl rfl]
  by_cases c : lo ≤ i
  · dsimp? [d_is_number, cl_is_integer (H.sub (l' := dep_is_integer) rfl) (n := m) (by omega), c]
  · dsimp? [d_is_number, cl_is_integer (H.sub (l' := dep_is_integer) rfl) (n := m) (by omega), c]
theorem cl_need_number (H : Has P ι dep_need_number) (hn : 3 ≤ n) {i lo hi : Int} (h1 : lo ≤ i) (h2 : i ≤ hi) : callN P W0 n (ι i_need_number) [.int i, .int lo, .int hi] S = some (.none, S) := by
  obtain ⟨m, rfl⟩ : ∃ m, n = m + 1 := ⟨n - 1, by omega⟩
  rw [H.go (d := d_need_number) rfl rfl rfl]
  dsimp? [d_need_number, cl_is_number (H.sub (l' := dep_is_number) rfl) (n := m) (by omega), h1, h2]
theorem cl_is_tuple_of (H : Has P ι dep_is_tuple_of) (hn : 1 ≤ n) {xs : List PyD.D} {lo hi : Int} : callN P W0 n (ι i_is_tuple_of) [.tuple xs, .int lo, .int hi] S = some (.bool (decide (lo ≤ ((xs.length : Nat) : Int)) && decide (((xs.length : Nat) : Int) ≤ hi)), S) := by
  obtain ⟨m, rfl⟩ : ∃ m, n = m + 1 := ⟨n - 1, by omega⟩
  rw [H.go (d := d_is_tuple_of) rfl rfl rfl]
  by_cases c : lo ≤ ((xs.length : Nat) : Int)
  · dsimp? [d_is_tuple_of, c]
  · dsimp? [d_is_tuple_of, c]
theorem cl_fits_fraction (H : Has P ι dep_fits_fraction) (hn : 2 ≤ n) {q : Rat} : callN P W0 n (ι i_fits_fraction) [enc q] S = some (.bool true, S) := by
  obtain ⟨m, rfl⟩ : ∃ m, n = m + 1 := ⟨n - 1, by omega⟩
  rw [H.go (d := d_fits_fraction) rfl rfl rfl]
  have h1 : (1 : Int) ≤ ((q.den : Nat) : Int) := by have := q.den_pos; omega
  have h2 : ((Nat.gcd q.num.natAbs ((q.den : Nat) : Int).natAbs : Nat) : Int) = 1 := by
    rw [Int.natAbs_natCast]
    have := q.reduced
    rw [Nat.coprime_iff_gcd_eq_one] at this
    omega
  unfold enc
  dsimp? [d_fits_fraction, -lcF_eq, cl_is_tuple_of (H.sub (l' := dep_is_tuple_of) rfl) (n := m) (by omega), show (2 : Int) ≤ ((0 + 1 + 1 : Nat) : Int) from by decide, show ((0 + 1 + 1 : Nat) : Int) ≤ (2 : Int) from by decide, loopC_nil, loopC_cons]
  have e : ∀ i : Int, lcF (callN P W0 m) (.nm 1) .anil (.call (ι 0) (.acons (.var 1) .anil)) [.val (.tuple [.int q.num, .int (q.den : Nat)]), .no] (.int i) S = some ([.bool true], S) := fun i => by
    dsimp? [cl_is_integer (H.sub (l' := dep_is_integer) rfl) (n := m) (by omega)]
  dsimp? [-lcF_eq, e, show op1 .all (.list [.bool true, .bool true]) = some (.bool true) from rfl, h1, h2]
theorem cl_need_fraction (H : Has P ι dep_need_fraction) (hn : 3 ≤ n) {q : Rat} : callN P W0 n (ι i_need_fraction) [enc q] S = some (.none, S) := by
  obtain ⟨m, rfl⟩ : ∃ m, n = m + 1 := ⟨n - 1, by omega⟩
  rw [H.go (d := d_need_fraction) rfl rfl rfl]
  dsimp? [d_need_fraction, cl_fits_fraction (H.sub (l' := dep_fits_fraction) rfl) (n := m) (by omega)]
theorem cl_need_nonzero (H : Has P ι dep_need_nonzero) (hn : 4 ≤ n) {q : Rat} (h : q ≠ 0) : callN P W0 n (ι i_need_nonzero) [enc q] S = some (.none, S) := by
  obtain ⟨m, rfl⟩ : ∃ m, n = m + 1 := ⟨n - 1, by omega⟩
  rw [H.go (d := d_need_nonzero) rfl rfl rfl]
  dsimp? [d_need_nonzero, cl_need_fraction (H.sub (l' := dep_need_fraction) rfl) (n := m) (by omega), ix_num, num0, h]
theorem all_true {α : Type} {xs : List α} : (xs.all fun _ => true) = true := by simp
theorem fits_all {C : CallF} {i v : Nat} {ρ : PyD.Env} {xs : List Rat} (hC : ∀ q, C i [enc q] S = some (.bool true, S)) (hv : ∀ d, PyD.get ((ρ.set v .no).set v (.val d)) v = some d) : loopC (lcF C (.nm v) .anil (.call i (.acons (.var v) .anil)) ρ) (xs.map enc) S = some (xs.map fun _ => .bool true, S) := by
  rw [loopC_enc (g := fun _ => .bool true) fun x hx => by dsimp? [hv, hC]]
theorem cl_fits_row (H : Has P ι dep_fits_row) (hn : 3 ≤ n) {xs : List Rat} (h1 : 1 ≤ xs.length) (h2 : xs.length ≤ 24) : callN P W0 n (ι i_fits_row) [encL xs] S = some (.bool true, S) := by
  obtain ⟨m, rfl⟩ : ∃ m, n = m + 1 := ⟨n - 1, by omega⟩
  rw [H.go (d := d_fits_row) rfl rfl rfl]
  have e := fits_all (S := S) (C := callN P W0 m) (i := ι i_fits_fraction) (v := 1) (ρ := [.val (encL xs), .no]) (xs := xs) (fun q => cl_fits_fraction (H.sub (l' := dep_fits_fraction) rfl) (by omega)) (fun d => rfl)
  have d1 : (1 : Int) ≤ ((xs.length : Nat) : Int) := by omega
  have d2 : ((xs.length : Nat) : Int) ≤ (24 : Int) := by omega
  have l1 : lim (xs.map fun _ => PyData.bool true) = some (xs.map fun _ => PyData.bool true) := lim_ok (by rw [List.length_map]; omega)
  unfold encL at e ⊢
  dsimp? [d_fits_row, -lcF_eq, cl_is_tuple_of (H.sub (l' := dep_is_tuple_of) rfl) (n := m) (by omega), List.length_map, d1, d2, e, l1, o1_all, all_true]
theorem cl_need_row (H : Has P ι dep_need_row) (hn : 4 ≤ n) {xs : List Rat} (h1 : 1 ≤ xs.length) (h2 : xs.length ≤ 24) : callN P W0 n (ι i_need_row) [encL xs] S = some (.none, S) := by
  obtain ⟨m, rfl⟩ : ∃ m, n = m + 1 := ⟨n - 1, by omega⟩
  rw [H.go (d := d_need_row) rfl rfl rfl]
  dsimp? [d_need_row, cl_fits_row (H.sub (l' := dep_fits_row) rfl) (n := m) (by omega) h1 h2]
theorem cl_fits_steps (H : Has P ι dep_fits_steps) (hn : 3 ≤ n) {as bs : List Rat} (h1 : 1 ≤ as.length) (h2 : as.length ≤ 12) (hb : bs.length = as.length - 1) (h0 : ∀ q ∈ bs, q ≠ 0) : callN P W0 n (ι i_fits_steps) [encS as bs] S = some (.bool true, S) := by
  obtain ⟨m, rfl⟩ : ∃ m, n = m + 1 := ⟨n - 1, by omega⟩
  rw [H.go (d := d_fits_steps) rfl rfl rfl]
  have e1 := fits_all (S := S) (C := callN P W0 m) (i := ι i_fits_fraction) (v := 3) (ρ := [.val (encS as bs), .val (encL as), .val (encL bs), .no]) (xs := as) (fun q => cl_fits_fraction (H.sub (l' := dep_fits_fraction) rfl) (by omega)) (fun d => rfl)
  have e2 : loopC (lcF (callN P W0 m) (.nm 3) .anil (.band (.call (ι i_fits_fraction) (.acons (.var 3) .anil)) (.cmp .ne (.ix (.var 3) (.cst (.int 0))) (.cst (.int 0)))) [.val (encS as bs), .val (encL as), .val (encL bs), .no]) (bs.map enc) S = some (bs.map fun _ => .bool true, S) := by
    rw [loopC_enc (g := fun _ => .bool true) fun x hx => by
      dsimp? [cl_fits_fraction (H.sub (l' := dep_fits_fraction) rfl) (n := m) (by omega), ix_num, num0, h0 x hx]]
  have d1 : (1 : Int) ≤ ((as.length : Nat) : Int) := by omega
  have d2 : ((as.length : Nat) : Int) ≤ (12 : Int) := by omega
  have d3 : ((as.length : Nat) : Int) - 1 ≤ ((bs.length : Nat) : Int) := by omega
  have d4 : ((bs.length : Nat) : Int) ≤ ((as.length : Nat) : Int) - 1 := by omega
  have l1 : lim (as.map fun _ => PyData.bool true) = some (as.map fun _ => PyData.bool true) := lim_ok (by rw [List.length_map]; omega)
  have l2 : lim (bs.map fun _ => PyData.bool true) = some (bs.map fun _ => PyData.bool true) := lim_ok (by rw [List.length_map]; omega)
  unfold encS encL at e1 e2 ⊢
  dsimp? [d_fits_steps, -lcF_eq, cl_is_tuple_of (H.sub (l' := dep_is_tuple_of) rfl) (n := m) (by omega), List.length_map, show (2 : Int) ≤ ((0 + 1 + 1 : Nat) : Int) from by decide, show ((0 + 1 + 1 : Nat) : Int) ≤ (2 : Int) from by decide, d1, d2, d3, d4, e1, e2, l1, l2, o1_all, all_true]
theorem cl_need_steps (H : Has P ι dep_need_steps) (hn : 4 ≤ n) {as bs : List Rat} (h1 : 1 ≤ as.length) (h2 : as.length ≤ 12) (hb : bs.length = as.length - 1) (h0 : ∀ q ∈ bs, q ≠ 0) : callN P W0 n (ι i_need_steps) [encS as bs] S = some (.none, S) := by
  obtain ⟨m, rfl⟩ : ∃ m, n = m + 1 := ⟨n - 1, by omega⟩
  rw [H.go (d := d_need_steps) rfl rfl rfl]
  dsimp? [d_need_steps, cl_fits_steps (H.sub (l' := dep_fits_steps) rfl) (n := m) (by omega) h1 h2 hb h0]
end PyM

set_option linter.all false
set_option maxRecDepth 100000
set_option exponentiation.threshold 20000
/-! PyN, part 10: rows of steps. -/
namespace PyM
local macro_rules | `(tactic| dsimp? [$ls,*]) => `(tactic| simp only [bnd_ok, bnd_no, get0, getS, getB0, getBo, getBS, ev_cst, ev_var, ev_bor, ev_bop, ev_neg, ev_notv, ev_band, ev_borr, ev_cmp, ev_chn, ev_ite, ev_call, ev_b1, ev_b2, ev_min3, ev_tup, ev_lst, ev_mkl, ev_ix, ev_sl, ev_rev, ev_lr, ev_lc, evA_nil, evA_cons, evO_nop, evO_cons, evT_band, evT_borr, evT_notv, evT_cmp, evT_chn, evT_call, evT_b1, evT_var, evQ_nil, evQ_cons, evI_S, evI_R1, evI_R2, evI_R3, evI_Z, evI_E, ex_skip, ex_seq, ex_asg, ex_asgO, ex_par, ex_seti, ex_swp, ex_app, ex_ext, ex_ifs, ex_forS, ex_ret, ex_expr, ex_frz, sg0, sgS, ss0, ssS, setTg_nm, setTg_tup, setTgs_nil, setTgs_cons, tgN_nm, tgN_cons, tgN_nil, wipe_nil, wipe_cons, par_nil, par_f, par_t, isB_cst, isB_var, isB_bop, isB_neg, isB_notv, isB_band, isB_borr, isB_cmp, isB_chn, isB_ite, isB_call, isB_b1, isB_b2, isB_min3, isB_tup, isB_lst, isB_ix, isB_sl, isB_rev, isB_lr, isB_lc, isB_tl, isB_mkl, op_add, op_addL, op_addT, op_sub, op_mul, op_mulL, op_mulT, op_fdiv, op_mod, c_lt, c_le, c_gt, c_ge, c_eqi, c_nei, ixF_L, ixF_T, ixF_loc, setiF_c0, setiF_c1, frzF_o0, frzF_v0, frzF_o1, frzF_v1, frzF_o2, frzF_v2, frzF_o3, frzF_v3, frzF_o4, frzF_v4, frzF_o5, frzF_v5, frzF_o6, frzF_v6, frzF_o7, frzF_v7, frzF_o8, frzF_v8, frzF_o9, frzF_v9, frzF_o10, frzF_v10,  sl_L, sl_T, rev_L, rev_T, seq_L, seq_T, o2_gcd, o2_max, o2_min, o1_lenL, o1_lenT, o1_abs, o1_int, o1_listL, o1_listT, o1_listS, o1_tupL, o1_tupT, o1_isTupT, o1_isTupL, o1_isTupI, o1_isIntI, o1_isIntT, o1_isIntL, o1_isBoolI, o1_isBoolT, o1_isBoolL, lim_n0, lim_n1, lim_n2, lim_n3, lim_n4, lim_n5, lim_n6, lim_n7, lim_n8, at0, at1, lcF_eq, fsF_eq, fin_ret, fin_next, Option.map_some, Option.map_none, List.map_cons, List.map_nil, List.length_cons, List.length_nil, List.replicate, List.cons_append, List.nil_append, List.append_nil, Nat.reduceAdd, Nat.reduceSub, Nat.reduceLT, Nat.reduceLeDiff, Bool.or_false, Bool.or_true, Bool.and_true, Bool.true_and, Bool.false_and, Bool.and_false, Bool.false_or, Bool.true_or, Bool.false_eq_true, Bool.not_true, Bool.not_false, if_true, if_false, reduceIte, decide_true, decide_false, Int.reduceEq, Int.reduceNe, Int.reduceLT, Int.reduceLE, Int.reduceNeg, ne_eq, not_false_eq_true, not_true_eq_false, $ls,*])
open PySem PyD B Mo
variable {P : List Def} {ι : Nat → Nat} {n : Nat} {S : Store}
def fa (xs : List Rat) (k : Nat) : Rat := xs.getD k 0
/-- a first moment and steps of a size -/
structure StOk (s : Nat) (f : Rat) (as bs : List Rat) : Prop where
  hs : s ≤ 3
  hf : Sz s 1 f
  ha : ∀ x ∈ as, Sz s 1 x
  hb : ∀ x ∈ bs, Sz s 1 x
  hl : bs.length = as.length - 1
  h1 : 1 ≤ as.length
  h12 : as.length ≤ 12
  f0 : f ≠ 0
  b0 : ∀ x ∈ bs, x ≠ 0
theorem sz_fa {s : Nat} {xs : List Rat} (h : ∀ x ∈ xs, Sz s 1 x) {k : Nat} : Sz s 1 (fa xs k) := by
  unfold fa
  by_cases c : k < xs.length
  · rw [List.getD_eq_getElem?_getD, List.getElem?_eq_getElem c]; exact h _ (List.getElem_mem c)
  · rw [getD_out (by omega)]; exact Sz.zero
theorem sh_sz {s : Nat} {f : Nat → Rat} (h : ∀ k, Sz s 1 (f k)) {k : Nat} : Sz s 1 (sh f k) := by
  cases k with
  | zero => exact Sz.zero
  | succ k => exact h k
theorem L_sz {s : Nat} {a b : Nat → Rat} (ha : ∀ k, Sz s 1 (a k)) (hb : ∀ k, Sz s 1 (b k)) : ∀ {t k : Nat}, Sz ((s + 1) * t) 1 (L a b t k)
  | 0, k => by
    rw [L]
    split
    · exact Sz.one
    · exact Sz.zero
  | t + 1, k => by
    have ih := fun k => L_sz ha hb (t := t) (k := k)
    rw [L]
    have h1 : Sz (s + (s + 1) * t) 1 (sh (L a b t) k) := (sh_sz ih).mono (by omega)
    have h2 := (ha k).mul1 (ih k)
    have h3 := (hb k).mul1 (ih (k + 1))
    have := ((h1.add h2).add h3).up (by omega)
    rw [show (s + 1) * (t + 1) = s + (s + 1) * t + 1 by rw [Nat.mul_succ]; omega]
    exact this
/-- a row of steps; the sums at all levels -/
def momL (f : Rat) (as bs : List Rat) (m : Nat) : List Rat := (List.range m).map fun t => f * L (fa as) (fa bs) t 0
def hereL (f : Rat) (as bs : List Rat) (t m : Nat) : List Rat := (List.range m).map fun l => f * L (fa as) (fa bs) t l
theorem momL_len {f : Rat} {as bs : List Rat} {m : Nat} : (momL f as bs m).length = m := by simp [momL]
theorem hereL_len {f : Rat} {as bs : List Rat} {t m : Nat} : (hereL f as bs t m).length = m := by simp [hereL]
theorem momL_succ {f : Rat} {as bs : List Rat} {m : Nat} : momL f as bs (m + 1) = momL f as bs m ++ [f * L (fa as) (fa bs) m 0] := by
  unfold momL
  rw [List.range_succ, List.map_append]; rfl
theorem hereL_succ {f : Rat} {as bs : List Rat} {t m : Nat} : hereL f as bs t (m + 1) = hereL f as bs t m ++ [f * L (fa as) (fa bs) t m] := by
  unfold hereL
  rw [List.range_succ, List.map_append]; rfl
theorem at_map {g : Nat → Rat} {m i : Nat} (h : i < m) : atD (((List.range m).map g).map enc) ((i : Nat) : Int) = some (enc (g i)) := atE (by
  rw [List.getElem?_map, List.getElem?_range h]; rfl)
theorem at_hereL {f : Rat} {as bs : List Rat} {t m i : Nat} (h : i < m) : atD ((hereL f as bs t m).map enc) ((i : Nat) : Int) = some (enc (f * L (fa as) (fa bs) t i)) := at_map h
theorem at_momL {f : Rat} {as bs : List Rat} {m i : Nat} (h : i < m) : atD ((momL f as bs m).map enc) ((i : Nat) : Int) = some (enc (f * L (fa as) (fa bs) i 0)) := at_map h
theorem at_fa {xs : List Rat} {i : Nat} (h : i < xs.length) : atD (xs.map enc) ((i : Nat) : Int) = some (enc (fa xs i)) := atE (getq h)
theorem hereL_zero {f : Rat} {as bs : List Rat} {m : Nat} : hereL f as bs 0 (m + 1) = f :: List.replicate m 0 := by
  unfold hereL
  refine List.ext_getElem (by simp) fun i h1 h2 => ?_
  simp only [List.getElem_map, List.getElem_range]
  cases i with
  | zero => rw [L, if_pos rfl]; simp
  | succ i => rw [L, if_neg (by omega)]; simp
theorem fa_out {xs : List Rat} {i : Nat} (h : xs.length ≤ i) : fa xs i = 0 := getD_out h
theorem LIM_ok {xs : List PyD.D} (h : xs.length ≤ 1000) : xs.length < LIM := by
  show xs.length < 100000
  omega
/-- one level's new sum -/
theorem L_next {f : Rat} {a b : Nat → Rat} {t l : Nat} : f * L a b t l * a l + sh (fun k => f * L a b t k) l + f * L a b t (l + 1) * b l = f * L a b (t + 1) l := by
  rw [L]
  cases l with
  | zero => simp only [sh]; grind
  | succ l => simp only [sh]; grind
theorem mom_sz {s : Nat} {f : Rat} {as bs : List Rat} (ok : StOk s f as bs) {t l : Nat} : Sz ((s + 1) * t + s) 1 (f * L (fa as) (fa bs) t l) := by
  rw [Nat.add_comm]
  exact ok.hf.mul1 (L_sz (fun k => sz_fa ok.ha) fun k => sz_fa ok.hb)
theorem mom_sm {s : Nat} {f : Rat} {as bs : List Rat} (ok : StOk s f as bs) {t l : Nat} (ht : t ≤ 26) : sm (f * L (fa as) (fa bs) t l) ∧ sm (f * L (fa as) (fa bs) t l * fa as l) ∧ sm (f * L (fa as) (fa bs) t l * fa as l + sh (fun k => f * L (fa as) (fa bs) t k) l) ∧ sm (f * L (fa as) (fa bs) t (l + 1) * fa bs l) ∧ sm (sh (fun k => f * L (fa as) (fa bs) t k) l) := by
  have hs := ok.hs
  have b1 : (s + 1) * t ≤ 4 * 26 := Nat.mul_le_mul (by omega) ht
  have h1 := mom_sz ok (t := t) (l := l)
  have h2 := h1.mul1 (sz_fa ok.ha (k := l))
  have h4 := (mom_sz ok (t := t) (l := l + 1)).mul1 (sz_fa ok.hb (k := l))
  have h3 : Sz ((s + 1) * t + s + s) 1 (sh (fun k => f * L (fa as) (fa bs) t k) l) := (sh_sz fun k => mom_sz ok (t := t) (l := k)).mono (by omega)
  exact ⟨h1.sm (by omega) (by omega), h2.sm (by omega) (by omega), (h2.add h3).sm (by omega) (by omega), h4.sm (by omega) (by omega), h3.sm (by omega) (by omega)⟩
theorem cl_moments_in (H : Has P ι dep_moments_in) (hn : 3 ≤ n) {s : Nat} {f : Rat} {as bs : List Rat} (ok : StOk s f as bs) {m : Nat} (hm : m ≤ 25) : callN P W0 n (ι i_moments_in) [enc f, encS as bs, .int (m : Nat)] S = some (encL (momL f as bs m), S) := by
  obtain ⟨k, rfl⟩ : ∃ k, n = k + 1 := ⟨n - 1, by omega⟩
  rw [H.go (d := d_moments_in) rfl rfl rfl]
  have pl : ∀ {a b : Rat}, sm a → sm b → ∀ {S}, callN P W0 k (ι i_plus) [enc a, enc b] S = some (enc (a + b), S) := fun {a b} ha hb {S} => cl_plus (H.sub (l' := dep_plus) rfl) (by omega) ha hb
  have ti : ∀ {a b : Rat}, sm a → sm b → ∀ {S}, callN P W0 k (ι i_times) [enc a, enc b] S = some (enc (a * b), S) := fun {a b} ha hb {S} => cl_times (H.sub (l' := dep_times) rfl) (by omega) ha hb
  have h1 := ok.h1; have h12 := ok.h12; have hl := ok.hl
  have s1 : ((as.length : Nat) : Int) - 1 = ((as.length - 1 : Nat) : Int) := by omega
  have hz : enc f :: (List.replicate (as.length - 1) (0 : Rat)).map enc = (hereL f as bs 0 as.length).map enc := by
    obtain ⟨q, hq⟩ : ∃ q, as.length = q + 1 := ⟨as.length - 1, by omega⟩
    rw [hq, hereL_zero]; simp
  have hz2 : lim ((hereL f as bs 0 as.length).map enc) = some ((hereL f as bs 0 as.length).map enc) := lim_map (by rw [hereL_len]; omega)
  apply Yl.fin
  unfold encS encL
  dsimp? [d_moments_in, -fsF_eq, List.length_map, s1, rep_T (k := as.length - 1) (xs := [_]) (by omega) (show 1 ≤ 1000 by omega), flat_one, rep_enc, hz, hz2, rng_ok (show m < 2 ^ 60 by omega)]
  refine Yl.rng (fun i ρ S' => S' = S ∧ ∃ z7 z8 z9 z10, ρ = [.val (enc f), .val (.tuple [.tuple (as.map enc), .tuple (bs.map enc)]), .val (.int (m : Nat)), .val (.tuple (as.map enc)), .val (.tuple (bs.map enc)), .own ((momL f as bs i).map enc), .val (.tuple ((hereL f as bs i as.length).map enc)), z7, z8, z9, z10]) ⟨rfl, _, _, _, _, rfl⟩ ?_ ?_
  · rintro i ρ S' hi ⟨rfl, z7, z8, z9, z10, rfl⟩
    have g1 : ((momL f as bs i).map enc).length < LIM := LIM_ok (by rw [List.length_map, momL_len]; omega)
    rw [fsF_eq]
    have a00 : atD ((hereL f as bs i as.length).map enc) 0 = some (enc (f * L (fa as) (fa bs) i 0)) := at_hereL (show 0 < as.length by omega)
    dsimp? [-fsF_eq, appF_o5 g1, a00, List.length_map, rng_ok (show as.length < 2 ^ 60 by omega)]
    refine Yl.rng (fun l ρ S'' => S'' = S' ∧ ∃ z9 z10, ρ = [.val (enc f), .val (.tuple [.tuple (as.map enc), .tuple (bs.map enc)]), .val (.int (m : Nat)), .val (.tuple (as.map enc)), .val (.tuple (bs.map enc)), .own ((momL f as bs i).map enc ++ [enc (f * L (fa as) (fa bs) i 0)]), .val (.tuple ((hereL f as bs i as.length).map enc)), .val (.int (i : Nat)), .own ((hereL f as bs (i + 1) l).map enc), z9, z10]) ⟨rfl, _, _, rfl⟩ ?_ ?_
    · rintro l ρ S'' hl' ⟨rfl, z9, z10, rfl⟩
      obtain ⟨q1, q2, q3, q4, q5⟩ := mom_sm ok (t := i) (l := l) (by omega)
      obtain ⟨r1, _⟩ := mom_sm ok (t := i) (l := l + 1) (by omega)
      have g2 : ((hereL f as bs (i + 1) l).map enc).length < LIM := LIM_ok (by rw [List.length_map, hereL_len]; omega)
      have e1 : ((l : Nat) : Int) + 1 = ((l + 1 : Nat) : Int) := by omega
      have fin1 : ∀ v, v = f * L (fa as) (fa bs) (i + 1) l → (hereL f as bs (i + 1) l).map enc ++ [enc v] = (hereL f as bs (i + 1) (l + 1)).map enc := by
        intro v hv
        rw [hereL_succ, List.map_append, hv]; rfl
      have key := L_next (f := f) (a := fa as) (b := fa bs) (t := i) (l := l)
      have szb : sm (fa bs l) := (sz_fa ok.hb (k := l)).sm (by have := ok.hs; omega) (by omega)
      have sza : sm (fa as l) := (sz_fa ok.ha (k := l)).sm (by have := ok.hs; omega) (by omega)
      rw [fsF_eq]
      have c0 : (l < bs.length ∧ ((l : Nat) : Int) < ((bs.length : Nat) : Int)) ∨ (¬ l < bs.length ∧ ¬ ((l : Nat) : Int) < ((bs.length : Nat) : Int)) := by omega
      cases l with
      | zero =>
        simp only [sh] at key q3 q5
        rw [Rat.add_zero] at key q3
        have a0 : atD ((hereL f as bs i as.length).map enc) 0 = some (enc (f * L (fa as) (fa bs) i 0)) := at_hereL hl'
        have a1 : atD (as.map enc) 0 = some (enc (fa as 0)) := at_fa hl'
        rcases c0 with ⟨c, c'⟩ | ⟨c, c'⟩
        · have a2 : atD (bs.map enc) 0 = some (enc (fa bs 0)) := at_fa c
          have a3 : atD ((hereL f as bs i as.length).map enc) (0 + 1) = some (enc (f * L (fa as) (fa bs) i (0 + 1))) := at_hereL (show 0 + 1 < as.length by omega)
          rw [Int.natCast_zero] at c'
          dsimp? [a0, a1, a2, a3, ti q1 sza, Int.natCast_zero, appF_o8 g2, List.length_map, c', ti r1 szb, pl q3 q4]
          refine Yl.stay ?_
          exact ⟨rfl, _, _, by rw [fin1 _ key]⟩
        · rw [fa_out (show bs.length ≤ 0 by omega), Rat.mul_zero, Rat.add_zero] at key
          rw [Int.natCast_zero] at c'
          dsimp? [a0, a1, ti q1 sza, Int.natCast_zero, appF_o8 g2, List.length_map, c']
          refine Yl.stay ?_
          exact ⟨rfl, _, _, by rw [fin1 _ key]⟩
      | succ l =>
        simp only [sh] at key q3 q5
        have e2 : ((l + 1 : Nat) : Int) - 1 = ((l : Nat) : Int) := by omega
        have e3 : (0 : Int) < ((l + 1 : Nat) : Int) := by omega
        rcases c0 with ⟨c, c'⟩ | ⟨c, c'⟩
        · dsimp? [at_hereL hl', at_fa hl', ti q1 sza, e3, e2, at_hereL (show l < as.length by omega), pl q2 q5, appF_o8 g2, List.length_map, c', e1, at_hereL (show l + 1 + 1 < as.length by omega), at_fa c, ti r1 szb, pl q3 q4]
          refine Yl.stay ?_
          exact ⟨rfl, _, _, by rw [fin1 _ key]⟩
        · rw [fa_out (show bs.length ≤ l + 1 by omega), Rat.mul_zero, Rat.add_zero] at key
          dsimp? [at_hereL hl', at_fa hl', ti q1 sza, e3, e2, at_hereL (show l < as.length by omega), pl q2 q5, appF_o8 g2, List.length_map, c']
          refine Yl.stay ?_
          exact ⟨rfl, _, _, by rw [fin1 _ key]⟩
    · rintro ρ S'' ⟨rfl, z9, z10, rfl⟩
      dsimp? []
      refine Yl.stay ?_
      exact ⟨rfl, _, _, _, _, by rw [momL_succ, List.map_append]; rfl⟩
  · rintro ρ S' ⟨rfl, z7, z8, z9, z10, rfl⟩
    dsimp? []
    exact Yl.ret
end PyM

set_option linter.all false
set_option maxRecDepth 100000
set_option exponentiation.threshold 20000
/-! PyN, part 11: the law's rows of steps; row_of_steps. -/
namespace PyM
local macro_rules | `(tactic| dsimp? [$ls,*]) => `(tactic| simp only [bnd_ok, bnd_no, get0, getS, getB0, getBo, getBS, ev_cst, ev_var, ev_bor, ev_bop, ev_neg, ev_notv, ev_band, ev_borr, ev_cmp, ev_chn, ev_ite, ev_call, ev_b1, ev_b2, ev_min3, ev_tup, ev_lst, ev_mkl, ev_ix, ev_sl, ev_rev, ev_lr, ev_lc, evA_nil, evA_cons, evO_nop, evO_cons, evT_band, evT_borr, evT_notv, evT_cmp, evT_chn, evT_call, evT_b1, evT_var, evQ_nil, evQ_cons, evI_S, evI_R1, evI_R2, evI_R3, evI_Z, evI_E, ex_skip, ex_seq, ex_asg, ex_asgO, ex_par, ex_seti, ex_swp, ex_app, ex_ext, ex_ifs, ex_forS, ex_ret, ex_expr, ex_frz, sg0, sgS, ss0, ssS, setTg_nm, setTg_tup, setTgs_nil, setTgs_cons, tgN_nm, tgN_cons, tgN_nil, wipe_nil, wipe_cons, par_nil, par_f, par_t, isB_cst, isB_var, isB_bop, isB_neg, isB_notv, isB_band, isB_borr, isB_cmp, isB_chn, isB_ite, isB_call, isB_b1, isB_b2, isB_min3, isB_tup, isB_lst, isB_ix, isB_sl, isB_rev, isB_lr, isB_lc, isB_tl, isB_mkl, op_add, op_addL, op_addT, op_sub, op_mul, op_mulL, op_mulT, op_fdiv, op_mod, c_lt, c_le, c_gt, c_ge, c_eqi, c_nei, ixF_L, ixF_T, ixF_loc, setiF_c0, setiF_c1, frzF_o0, frzF_v0, frzF_o1, frzF_v1, frzF_o2, frzF_v2, frzF_o3, frzF_v3, frzF_o4, frzF_v4, frzF_o5, frzF_v5, frzF_o6, frzF_v6, frzF_o7, frzF_v7, frzF_o8, frzF_v8, frzF_o9, frzF_v9, frzF_o10, frzF_v10,  sl_L, sl_T, rev_L, rev_T, seq_L, seq_T, o2_gcd, o2_max, o2_min, o1_lenL, o1_lenT, o1_abs, o1_int, o1_listL, o1_listT, o1_listS, o1_tupL, o1_tupT, o1_isTupT, o1_isTupL, o1_isTupI, o1_isIntI, o1_isIntT, o1_isIntL, o1_isBoolI, o1_isBoolT, o1_isBoolL, lim_n0, lim_n1, lim_n2, lim_n3, lim_n4, lim_n5, lim_n6, lim_n7, lim_n8, at0, at1, lcF_eq, fsF_eq, fin_ret, fin_next, Option.map_some, Option.map_none, List.map_cons, List.map_nil, List.length_cons, List.length_nil, List.replicate, List.cons_append, List.nil_append, List.append_nil, Nat.reduceAdd, Nat.reduceSub, Nat.reduceLT, Nat.reduceLeDiff, Bool.or_false, Bool.or_true, Bool.and_true, Bool.true_and, Bool.false_and, Bool.and_false, Bool.false_or, Bool.true_or, Bool.false_eq_true, Bool.not_true, Bool.not_false, if_true, if_false, reduceIte, decide_true, decide_false, Int.reduceEq, Int.reduceNe, Int.reduceLT, Int.reduceLE, Int.reduceNeg, ne_eq, not_false_eq_true, not_true_eq_false, $ls,*])
open PySem PyD B Mo
variable {P : List Def} {ι : Nat → Nat} {n : Nat} {S : Store}
theorem enc0s : PyData.tuple [.int 0, .int 1] = enc 0 := rfl
theorem enc1s : PyData.tuple [.int 1, .int 1] = enc 1 := rfl
theorem at_here1 {f : Rat} {as bs : List Rat} {t m i : Nat} (h : i < m) : atD ((hereL f as bs t m).map enc ++ [enc 0]) ((i : Nat) : Int) = some (enc (f * L (fa as) (fa bs) t i)) := by
  refine at_ok ?_
  rw [List.getElem?_append_left (by rw [List.length_map, hereL_len]; exact h)]
  unfold hereL
  rw [List.getElem?_map, List.getElem?_map, List.getElem?_range h]; rfl
theorem cl_lmoments (H : Has P ι dep__law_moments) (hn : 4 ≤ n) {s : Nat} {f : Rat} {as bs : List Rat} (ok : StOk s f as bs) {m : Nat} (hm : m ≤ 25) : callN P W0 n (ι i__law_moments) [enc f, encS as bs, .int (m : Nat)] S = some (encL (momL f as bs m), S) := by
  obtain ⟨k, rfl⟩ : ∃ k, n = k + 1 := ⟨n - 1, by omega⟩
  rw [H.go (d := d__law_moments) rfl rfl rfl]
  have pl : ∀ {a b : Rat}, sm a → sm b → ∀ {S}, callN P W0 k (ι i__law_plus) [enc a, enc b] S = some (enc (a + b), S) := fun {a b} ha hb {S} => cl_lplus (H.sub (l' := dep__law_plus) rfl) (by omega) ha hb
  have ti : ∀ {a b : Rat}, sm a → sm b → ∀ {S}, callN P W0 k (ι i__law_times) [enc a, enc b] S = some (enc (a * b), S) := fun {a b} ha hb {S} => cl_ltimes (H.sub (l' := dep__law_times) rfl) (by omega) ha hb
  have h1 := ok.h1; have h12 := ok.h12; have hl := ok.hl
  have hz : enc f :: (List.replicate as.length (0 : Rat)).map enc = (hereL f as bs 0 as.length).map enc ++ [enc 0] := by
    obtain ⟨q, hq⟩ : ∃ q, as.length = q + 1 := ⟨as.length - 1, by omega⟩
    rw [hq, hereL_zero, List.replicate_succ']; simp
  have hz2 : lim ((hereL f as bs 0 as.length).map enc ++ [enc 0]) = some ((hereL f as bs 0 as.length).map enc ++ [enc 0]) := lim_ok (by simp [hereL_len]; omega)
  apply Yl.fin
  unfold encS encL
  dsimp? [d__law_moments, -fsF_eq, List.length_map, rep_T (k := as.length) (xs := [_]) (by omega) (show 1 ≤ 1000 by omega), flat_one, rep_enc, hz, hz2, rng_ok (show m < 2 ^ 60 by omega)]
  refine Yl.rng (fun i ρ S' => S' = S ∧ ∃ z7 z8 z9 z10, ρ = [.val (enc f), .val (.tuple [.tuple (as.map enc), .tuple (bs.map enc)]), .val (.int (m : Nat)), .val (.tuple (as.map enc)), .val (.tuple (bs.map enc)), .own ((momL f as bs i).map enc), .val (.list ((hereL f as bs i as.length).map enc ++ [enc 0])), z7, z8, z9, z10]) ⟨rfl, _, _, _, _, rfl⟩ ?_ ?_
  · rintro i ρ S' hi ⟨rfl, z7, z8, z9, z10, rfl⟩
    have g1 : ((momL f as bs i).map enc).length < LIM := LIM_ok (by rw [List.length_map, momL_len]; omega)
    rw [fsF_eq]
    have a00 : atD ((hereL f as bs i as.length).map enc ++ [enc 0]) 0 = some (enc (f * L (fa as) (fa bs) i 0)) := at_here1 (show 0 < as.length by omega)
    dsimp? [-fsF_eq, appF_o5 g1, a00, List.length_map, rng_ok (show as.length < 2 ^ 60 by omega)]
    refine Yl.rng (fun l ρ S'' => S'' = S' ∧ ∃ z9 z10, ρ = [.val (enc f), .val (.tuple [.tuple (as.map enc), .tuple (bs.map enc)]), .val (.int (m : Nat)), .val (.tuple (as.map enc)), .val (.tuple (bs.map enc)), .own ((momL f as bs i).map enc ++ [enc (f * L (fa as) (fa bs) i 0)]), .val (.list ((hereL f as bs i as.length).map enc ++ [enc 0])), .val (.int (i : Nat)), .own ((hereL f as bs (i + 1) l).map enc), z9, z10]) ⟨rfl, _, _, rfl⟩ ?_ ?_
    · rintro l ρ S'' hl' ⟨rfl, z9, z10, rfl⟩
      obtain ⟨q1, q2, q3, q4, q5⟩ := mom_sm ok (t := i) (l := l) (by omega)
      obtain ⟨r1, _⟩ := mom_sm ok (t := i) (l := l + 1) (by omega)
      have g2 : ((hereL f as bs (i + 1) l).map enc).length < LIM := LIM_ok (by rw [List.length_map, hereL_len]; omega)
      have e1 : ((l : Nat) : Int) + 1 = ((l + 1 : Nat) : Int) := by omega
      have fin1 : ∀ v, v = f * L (fa as) (fa bs) (i + 1) l → (hereL f as bs (i + 1) l).map enc ++ [enc v] = (hereL f as bs (i + 1) (l + 1)).map enc := by
        intro v hv
        rw [hereL_succ, List.map_append, hv]; rfl
      have key := L_next (f := f) (a := fa as) (b := fa bs) (t := i) (l := l)
      have szb : sm (fa bs l) := (sz_fa ok.hb (k := l)).sm (by have := ok.hs; omega) (by omega)
      have sza : sm (fa as l) := (sz_fa ok.ha (k := l)).sm (by have := ok.hs; omega) (by omega)
      rw [fsF_eq]
      have c0 : (l < bs.length ∧ ((l : Nat) : Int) + 1 < ((as.length : Nat) : Int)) ∨ (¬ l < bs.length ∧ ¬ ((l : Nat) : Int) + 1 < ((as.length : Nat) : Int)) := by omega
      cases l with
      | zero =>
        simp only [sh] at key q3 q5
        rw [Rat.add_zero] at key q3
        have a0 : atD ((hereL f as bs i as.length).map enc ++ [enc 0]) 0 = some (enc (f * L (fa as) (fa bs) i 0)) := at_here1 hl'
        have a1 : atD (as.map enc) 0 = some (enc (fa as 0)) := at_fa hl'
        rcases c0 with ⟨c, c'⟩ | ⟨c, c'⟩
        · have a2 : atD (bs.map enc) 0 = some (enc (fa bs 0)) := at_fa c
          have a3 : atD ((hereL f as bs i as.length).map enc ++ [enc 0]) (0 + 1) = some (enc (f * L (fa as) (fa bs) i (0 + 1))) := at_here1 (show 0 + 1 < as.length by omega)
          rw [Int.natCast_zero] at c'
          dsimp? [a0, a1, a2, a3, ti q1 sza, Int.natCast_zero, appF_o8 g2, List.length_map, c', ti r1 szb, pl q3 q4]
          refine Yl.stay ?_
          exact ⟨rfl, _, _, by rw [fin1 _ key]⟩
        · rw [fa_out (show bs.length ≤ 0 by omega), Rat.mul_zero, Rat.add_zero] at key
          rw [Int.natCast_zero] at c'
          dsimp? [a0, a1, ti q1 sza, Int.natCast_zero, appF_o8 g2, List.length_map, c']
          refine Yl.stay ?_
          exact ⟨rfl, _, _, by rw [fin1 _ key]⟩
      | succ l =>
        simp only [sh] at key q3 q5
        have e2 : ((l + 1 : Nat) : Int) - 1 = ((l : Nat) : Int) := by omega
        have e3 : (0 : Int) < ((l + 1 : Nat) : Int) := by omega
        rw [e1] at c0
        rcases c0 with ⟨c, c'⟩ | ⟨c, c'⟩
        · dsimp? [at_here1 hl', at_fa hl', ti q1 sza, e3, e2, at_here1 (show l < as.length by omega), pl q2 q5, appF_o8 g2, List.length_map, e1, c', at_here1 (show l + 1 + 1 < as.length by omega), at_fa c, ti r1 szb, pl q3 q4]
          refine Yl.stay ?_
          exact ⟨rfl, _, _, by rw [fin1 _ key]⟩
        · rw [fa_out (show bs.length ≤ l + 1 by omega), Rat.mul_zero, Rat.add_zero] at key
          dsimp? [at_here1 hl', at_fa hl', ti q1 sza, e3, e2, at_here1 (show l < as.length by omega), pl q2 q5, appF_o8 g2, List.length_map, e1, c']
          refine Yl.stay ?_
          exact ⟨rfl, _, _, by rw [fin1 _ key]⟩
    · rintro ρ S'' ⟨rfl, z9, z10, rfl⟩
      have g3 : lim ((hereL f as bs (i + 1) as.length).map enc ++ [enc 0]) = some ((hereL f as bs (i + 1) as.length).map enc ++ [enc 0]) := lim_ok (by simp [hereL_len]; omega)
      dsimp? [enc0s, g3]
      refine Yl.stay ?_
      exact ⟨rfl, _, _, _, _, by rw [momL_succ, List.map_append]; rfl⟩
  · rintro ρ S' ⟨rfl, z7, z8, z9, z10, rfl⟩
    dsimp? []
    exact Yl.ret
theorem cl_row_of_steps (H : Has P ι dep_row_of_steps) (hn : 5 ≤ n) {s : Nat} {f : Rat} {as bs : List Rat} (ok : StOk s f as bs) : callN P W0 n (ι i_row_of_steps) [enc f, encS as bs] S = some (encL (momL f as bs (2 * as.length)), S) := by
  obtain ⟨k, rfl⟩ : ∃ k, n = k + 1 := ⟨n - 1, by omega⟩
  rw [H.go (d := d_row_of_steps) rfl rfl rfl]
  have h1 := ok.h1; have h12 := ok.h12; have hl := ok.hl
  have e1 := cl_need_nonzero (S := S) (H.sub (l' := dep_need_nonzero) rfl) (n := k) (by omega) ok.f0
  have e2 := cl_need_steps (S := S) (H.sub (l' := dep_need_steps) rfl) (n := k) (by omega) h1 h12 hl ok.b0
  have e3 := cl_moments_in (S := S) (H.sub (l' := dep_moments_in) rfl) (n := k) (by omega) ok (m := 2 * as.length) (by omega)
  have c1 : (2 : Int) * ((as.length : Nat) : Int) = ((2 * as.length : Nat) : Int) := by omega
  have m1 : mulOk 2 ((as.length : Nat) : Int) = true := mulS (by rw [Int.natAbs_natCast]; omega)
  unfold encS encL at e2 e3 ⊢
  dsimp? [d_row_of_steps, e1, e2, List.length_map, m1, c1, e3]
end PyM

set_option linter.all false
set_option maxRecDepth 100000
set_option exponentiation.threshold 20000
/-! PyN, part 12: the polynomials of the rule. -/
namespace PyM
local macro_rules | `(tactic| dsimp? [$ls,*]) => `(tactic| simp only [bnd_ok, bnd_no, get0, getS, getB0, getBo, getBS, ev_cst, ev_var, ev_bor, ev_bop, ev_neg, ev_notv, ev_band, ev_borr, ev_cmp, ev_chn, ev_ite, ev_call, ev_b1, ev_b2, ev_min3, ev_tup, ev_lst, ev_mkl, ev_ix, ev_sl, ev_rev, ev_lr, ev_lc, evA_nil, evA_cons, evO_nop, evO_cons, evT_band, evT_borr, evT_notv, evT_cmp, evT_chn, evT_call, evT_b1, evT_var, evQ_nil, evQ_cons, evI_S, evI_R1, evI_R2, evI_R3, evI_Z, evI_E, ex_skip, ex_seq, ex_asg, ex_asgO, ex_par, ex_seti, ex_swp, ex_app, ex_ext, ex_ifs, ex_forS, ex_ret, ex_expr, ex_frz, sg0, sgS, ss0, ssS, setTg_nm, setTg_tup, setTgs_nil, setTgs_cons, tgN_nm, tgN_cons, tgN_nil, wipe_nil, wipe_cons, par_nil, par_f, par_t, isB_cst, isB_var, isB_bop, isB_neg, isB_notv, isB_band, isB_borr, isB_cmp, isB_chn, isB_ite, isB_call, isB_b1, isB_b2, isB_min3, isB_tup, isB_lst, isB_ix, isB_sl, isB_rev, isB_lr, isB_lc, isB_tl, isB_mkl, op_add, op_addL, op_addT, op_sub, op_mul, op_mulL, op_mulT, op_fdiv, op_mod, c_lt, c_le, c_gt, c_ge, c_eqi, c_nei, ixF_L, ixF_T, ixF_loc, setiF_c0, setiF_c1, frzF_o0, frzF_v0, frzF_o1, frzF_v1, frzF_o2, frzF_v2, frzF_o3, frzF_v3, frzF_o4, frzF_v4, frzF_o5, frzF_v5, frzF_o6, frzF_v6, frzF_o7, frzF_v7, frzF_o8, frzF_v8, frzF_o9, frzF_v9, frzF_o10, frzF_v10,  sl_L, sl_T, rev_L, rev_T, seq_L, seq_T, o2_gcd, o2_max, o2_min, o1_lenL, o1_lenT, o1_abs, o1_int, o1_listL, o1_listT, o1_listS, o1_tupL, o1_tupT, o1_isTupT, o1_isTupL, o1_isTupI, o1_isIntI, o1_isIntT, o1_isIntL, o1_isBoolI, o1_isBoolT, o1_isBoolL, lim_n0, lim_n1, lim_n2, lim_n3, lim_n4, lim_n5, lim_n6, lim_n7, lim_n8, at0, at1, lcF_eq, fsF_eq, fin_ret, fin_next, Option.map_some, Option.map_none, List.map_cons, List.map_nil, List.length_cons, List.length_nil, List.replicate, List.cons_append, List.nil_append, List.append_nil, Nat.reduceAdd, Nat.reduceSub, Nat.reduceLT, Nat.reduceLeDiff, Bool.or_false, Bool.or_true, Bool.and_true, Bool.true_and, Bool.false_and, Bool.and_false, Bool.false_or, Bool.true_or, Bool.false_eq_true, Bool.not_true, Bool.not_false, if_true, if_false, reduceIte, decide_true, decide_false, Int.reduceEq, Int.reduceNe, Int.reduceLT, Int.reduceLE, Int.reduceNeg, ne_eq, not_false_eq_true, not_true_eq_false, $ls,*])
open PySem PyD B Mo
variable {P : List Def} {ι : Nat → Nat} {n : Nat} {S : Store}
theorem sm_mem {xs : List Rat} {Q : Rat → Prop} (h : ∀ i, Q (xs.getD i 0)) : ∀ x ∈ xs, Q x := by
  intro x hx
  obtain ⟨i, hi, rfl⟩ := List.mem_iff_getElem.mp hx
  have := h i
  rw [List.getD_eq_getElem?_getD, List.getElem?_eq_getElem hi] at this
  exact this
theorem p_sz {s : Nat} {a b : Nat → Rat} (ha : ∀ k, Sz s 1 (a k)) (hb : ∀ k, Sz s 1 (b k)) : ∀ {k i : Nat}, Sz ((s + 1) * k) 1 (p a b k i)
  | 0, i => by
    rw [p]
    split
    · exact Sz.one
    · exact Sz.zero
  | 1, i => by
    have ih := fun i => p_sz ha hb (k := 0) (i := i)
    rw [p_one]
    have h1 : Sz s 1 (sh (p a b 0) i) := (sh_sz ih).mono (by omega)
    have h2 := (ha 0).mul1 (ih i)
    have := (h1.sub h2).up (by omega)
    rw [show (s + 1) * 1 = s + 1 by omega]
    exact this
  | k + 2, i => by
    have ih := fun i => p_sz ha hb (k := k + 1) (i := i)
    have ih2 := fun i => p_sz ha hb (k := k) (i := i)
    rw [p_two]
    have h1 : Sz (s + (s + 1) * (k + 1)) 1 (sh (p a b (k + 1)) i) := (sh_sz ih).mono (by omega)
    have h2 := (ha (k + 1)).mul1 (ih i)
    have h3 : Sz (s + (s + 1) * (k + 1)) 1 (b k * p a b k i) := ((hb k).mul1 (ih2 i)).mono (by rw [Nat.mul_succ]; omega)
    have := ((h1.sub h2).sub h3).up (by omega)
    rw [show (s + 1) * (k + 2) = s + (s + 1) * (k + 1) + 1 by rw [Nat.mul_succ (s + 1) (k + 1)]; omega]
    exact this
def polyL (a b : Nat → Rat) (k : Nat) : List Rat := (List.range (k + 1)).map (p a b k)
theorem polyL_len {a b : Nat → Rat} {k : Nat} : (polyL a b k).length = k + 1 := by simp [polyL]
theorem map_at {g : Nat → Rat} {m i : Nat} : ((List.range m).map g).getD i 0 = if i < m then g i else 0 := by
  rw [List.getD_eq_getElem?_getD, List.getElem?_map]
  by_cases c : i < m
  · rw [List.getElem?_range c, if_pos c]; rfl
  · rw [List.getElem?_eq_none (by simp; omega), if_neg c]; rfl
theorem polyL_at {a b : Nat → Rat} {k i : Nat} : (polyL a b k).getD i 0 = p a b k i := by
  unfold polyL
  rw [map_at]
  split
  · rfl
  · exact (p_gt a b (by omega)).symm
theorem poly_lean {a b : Nat → Rat} {k : Nat} : leanL (polyL a b k) = polyL a b k := lean_id (.inr (by
  rw [polyL_len, polyL_at, Nat.add_sub_cancel, p_diag]
  decide))
theorem lean_poly {a b : Nat → Rat} {k : Nat} {xs : List Rat} (h : ∀ i, xs.getD i 0 = p a b k i) : leanL xs = polyL a b k := by
  rw [← poly_lean]
  exact lean_ext fun i => by rw [h, polyL_at]
theorem upL_at {xs : List Rat} {i : Nat} : (upL xs 1).getD i 0 = sh (fun j => xs.getD j 0) i := by
  unfold upL
  split
  · rename_i c
    subst c
    cases i <;> rfl
  · cases i with
    | zero => rfl
    | succ i => rfl
theorem scaled_at {xs : List Rat} {c : Rat} {i : Nat} : (xs.map (· * c)).getD i 0 = xs.getD i 0 * c := by
  rw [List.getD_eq_getElem?_getD, List.getD_eq_getElem?_getD, List.getElem?_map]
  by_cases h : i < xs.length
  · rw [List.getElem?_eq_getElem h]; rfl
  · rw [List.getElem?_eq_none (by omega)]; simp
def ruleD (as bs : List Rat) (m : Nat) : List PyD.D := (List.range m).map fun k => encL (polyL (fa as) (fa bs) k)
theorem ruleD_len {as bs : List Rat} {m : Nat} : (ruleD as bs m).length = m := by simp [ruleD]
theorem ruleD_succ {as bs : List Rat} {m : Nat} : ruleD as bs (m + 1) = ruleD as bs m ++ [encL (polyL (fa as) (fa bs) m)] := by
  unfold ruleD
  rw [List.range_succ, List.map_append]; rfl
theorem at_ruleD {as bs : List Rat} {m i : Nat} (h : i < m) : atD (ruleD as bs m) ((i : Nat) : Int) = some (encL (polyL (fa as) (fa bs) i)) := at_ok (by
  unfold ruleD
  rw [List.getElem?_map, List.getElem?_range h]; rfl)
/-- what holds of steps, for the polynomials (no first moment) -/
structure PsOk (s : Nat) (as bs : List Rat) : Prop where
  hs : s ≤ 3
  ha : ∀ x ∈ as, Sz s 1 x
  hb : ∀ x ∈ bs, Sz s 1 x
  hl : bs.length = as.length - 1
  h12 : as.length ≤ 12
theorem StOk.ps {s : Nat} {f : Rat} {as bs : List Rat} (ok : StOk s f as bs) : PsOk s as bs := ⟨ok.hs, ok.ha, ok.hb, ok.hl, ok.h12⟩
theorem poly_sz {s : Nat} {as bs : List Rat} (ok : PsOk s as bs) {k i : Nat} : Sz ((s + 1) * k) 1 (p (fa as) (fa bs) k i) := p_sz (fun k => sz_fa ok.ha) (fun k => sz_fa ok.hb)
theorem poly_sz' {s : Nat} {as bs : List Rat} (ok : PsOk s as bs) {k i : Nat} (hk : k ≤ 13) : Sz 56 1 (p (fa as) (fa bs) k i) := (poly_sz ok).mono (by
  have := ok.hs
  have : (s + 1) * k ≤ 4 * 13 := Nat.mul_le_mul (by omega) hk
  omega)
theorem fa_sz' {s : Nat} {as bs : List Rat} (ok : PsOk s as bs) {i : Nat} : Sz 4 1 (fa as i) ∧ Sz 4 1 (fa bs i) := ⟨(sz_fa ok.ha).mono (by have := ok.hs; omega), (sz_fa ok.hb).mono (by have := ok.hs; omega)⟩
theorem cl_rule_in (H : Has P ι dep_rule_in) (hn : 4 ≤ n) {s : Nat} {as bs : List Rat} (ok : PsOk s as bs) {m : Nat} (hm : m ≤ as.length) : callN P W0 n (ι i_rule_in) [encS as bs, .int (m : Nat)] S = some (.list (ruleD as bs (m + 1)), S) := by
  obtain ⟨k, rfl⟩ : ∃ k, n = k + 1 := ⟨n - 1, by omega⟩
  rw [H.go (d := d_rule_in) rfl rfl rfl]
  have h12 := ok.h12; have hl := ok.hl
  apply Yl.fin
  unfold encS
  have z0 : ruleD as bs 1 = [encL [1]] := rfl
  dsimp? [d_rule_in, -fsF_eq, rng_ok (show m < 2 ^ 60 by omega), enc1s]
  refine Yl.rng (fun i ρ S' => S' = S ∧ ∃ z5 z6, ρ = [.val (.tuple [encL as, encL bs]), .val (.int (m : Nat)), .val (encL as), .val (encL bs), .own (ruleD as bs (i + 1)), z5, z6]) ⟨rfl, _, _, rfl⟩ ?_ ?_
  · rintro i ρ S' hi ⟨rfl, z5, z6, rfl⟩
    have g1 : (ruleD as bs (i + 1)).length < LIM := LIM_ok (by rw [ruleD_len]; omega)
    have sa := (fa_sz' ok (i := i)).1.sm (by omega) (by omega)
    have sp : ∀ j, sm (p (fa as) (fa bs) i j) := fun j => (poly_sz' ok (by omega)).sm (by omega) (by omega)
    have e1 := cl_raised (S := S') (H.sub (l' := dep_raised) rfl) (n := k) (by omega) (xs := polyL (fa as) (fa bs) i) (k := 1) (by omega) (by rw [polyL_len]; omega)
    have e2 := cl_scaled (S := S') (H.sub (l' := dep_scaled) rfl) (n := k) (by omega) (xs := polyL (fa as) (fa bs) i) (c := fa as i) (sm_mem fun j => by rw [polyL_at]; exact sp j) sa (by rw [polyL_len]; omega)
    have l1 : (leanL ((polyL (fa as) (fa bs) i).map (· * fa as i))).length ≤ 100 := by
      rw [leanL_len]
      exact Nat.le_trans (lnN_le _ _) (by rw [List.length_map, polyL_len]; omega)
    have e3 := cl_less (S := S') (H.sub (l' := dep_less) rfl) (n := k) (by omega) (xs := upL (polyL (fa as) (fa bs) i) 1) (ys := leanL ((polyL (fa as) (fa bs) i).map (· * fa as i))) (sm_mem fun j => by
      rw [upL_at]
      cases j with
      | zero => exact sm_zero
      | succ j => simp only [sh, polyL_at]; exact sp j) (sm_mem fun j => by
      rw [leanL_at, scaled_at, polyL_at]
      exact ((poly_sz' ok (by omega)).mul1 (fa_sz' ok).1).sm (by omega) (by omega)) (by unfold upL; split <;> simp [polyL_len]; omega) l1
    have c3 : ∀ j, (subL (upL (polyL (fa as) (fa bs) i) 1) (leanL ((polyL (fa as) (fa bs) i).map (· * fa as i)))).getD j 0 = sh (p (fa as) (fa bs) i) j - fa as i * p (fa as) (fa bs) i j := by
      intro j
      rw [subL_at, upL_at, leanL_at, scaled_at, polyL_at, Rat.mul_comm]
      simp only [polyL_at]
    rw [fsF_eq]
    cases i with
    | zero =>
      have f1 : leanL (subL (upL (polyL (fa as) (fa bs) 0) 1) (leanL ((polyL (fa as) (fa bs) 0).map (· * fa as 0)))) = polyL (fa as) (fa bs) 1 := lean_poly fun j => by rw [c3, p_one]
      rw [f1] at e3
      have a0 : atD (ruleD as bs (0 + 1)) 0 = some (encL (polyL (fa as) (fa bs) 0)) := at_ruleD (i := 0) (by omega)
      have hp : 0 < as.length := Nat.lt_of_lt_of_le hi hm
      have a1 : atD (as.map enc) 0 = some (enc (fa as 0)) := at_fa hp
      unfold encL at a0 e1 e2 e3 ⊢
      rw [show ((1 : Nat) : Int) = 1 from rfl] at e1
      dsimp? [Int.natCast_zero, a0, a1, e1, e2, e3, appF_o4 g1]
      refine Yl.stay ?_
      exact ⟨rfl, _, _, by rw [ruleD_succ]; rfl⟩
    | succ i =>
      have sb := (fa_sz' ok (i := i)).2.sm (by omega) (by omega)
      have sp' : ∀ j, sm (p (fa as) (fa bs) i j) := fun j => (poly_sz' ok (by omega)).sm (by omega) (by omega)
      have e4 := cl_scaled (S := S') (H.sub (l' := dep_scaled) rfl) (n := k) (by omega) (xs := polyL (fa as) (fa bs) i) (c := fa bs i) (sm_mem fun j => by rw [polyL_at]; exact sp' j) sb (by rw [polyL_len]; omega)
      have l2 : (leanL ((polyL (fa as) (fa bs) i).map (· * fa bs i))).length ≤ 100 := by
        rw [leanL_len]
        exact Nat.le_trans (lnN_le _ _) (by rw [List.length_map, polyL_len]; omega)
      have l3 : (leanL (subL (upL (polyL (fa as) (fa bs) (i + 1)) 1) (leanL ((polyL (fa as) (fa bs) (i + 1)).map (· * fa as (i + 1)))))).length ≤ 100 := by
        rw [leanL_len]
        refine Nat.le_trans (lnN_le _ _) ?_
        unfold subL
        rw [List.length_map, List.length_range, leanL_len]
        have q1 := lnN_le ((polyL (fa as) (fa bs) (i + 1)).map (· * fa as (i + 1))) ((polyL (fa as) (fa bs) (i + 1)).map (· * fa as (i + 1))).length
        rw [List.length_map, polyL_len] at q1
        have q2 : (upL (polyL (fa as) (fa bs) (i + 1)) 1).length ≤ i + 3 := by unfold upL; split <;> simp [polyL_len]
        rw [List.length_map, polyL_len]
        omega
      have e5 := cl_less (S := S') (H.sub (l' := dep_less) rfl) (n := k) (by omega) (xs := leanL (subL (upL (polyL (fa as) (fa bs) (i + 1)) 1) (leanL ((polyL (fa as) (fa bs) (i + 1)).map (· * fa as (i + 1)))))) (ys := leanL ((polyL (fa as) (fa bs) i).map (· * fa bs i))) (sm_mem fun j => by
        rw [leanL_at, c3]
        have h1 : Sz 60 1 (sh (p (fa as) (fa bs) (i + 1)) j) := (sh_sz fun k => poly_sz' ok (by omega)).mono (by omega)
        exact (h1.sub ((fa_sz' ok).1.mul1 (poly_sz' ok (by omega)))).sm (by omega) (by omega)) (sm_mem fun j => by
        rw [leanL_at, scaled_at, polyL_at]
        exact ((poly_sz' ok (by omega)).mul1 (fa_sz' ok).2).sm (by omega) (by omega)) l3 l2
      have f1 : leanL (subL (leanL (subL (upL (polyL (fa as) (fa bs) (i + 1)) 1) (leanL ((polyL (fa as) (fa bs) (i + 1)).map (· * fa as (i + 1)))))) (leanL ((polyL (fa as) (fa bs) i).map (· * fa bs i)))) = polyL (fa as) (fa bs) (i + 2) := lean_poly fun j => by
        rw [subL_at, leanL_at, leanL_at, c3, scaled_at, polyL_at, p_two, Rat.mul_comm (p (fa as) (fa bs) i j)]
      rw [f1] at e5
      have a0 := at_ruleD (as := as) (bs := bs) (m := i + 1 + 1) (i := i + 1) (by omega)
      have a2 := at_ruleD (as := as) (bs := bs) (m := i + 1 + 1) (i := i) (by omega)
      have a1 := at_fa (xs := as) (i := i + 1) (by omega)
      have a3 := at_fa (xs := bs) (i := i) (by omega)
      have n1 : ((i + 1 : Nat) : Int) - 1 = ((i : Nat) : Int) := by omega
      have n2 : (0 : Int) < ((i + 1 : Nat) : Int) := by omega
      unfold encL at a0 a2 e1 e2 e3 e4 e5 ⊢
      rw [show ((1 : Nat) : Int) = 1 from rfl] at e1
      dsimp? [a0, a1, a2, a3, n1, n2, e1, e2, e3, e4, e5, appF_o4 g1]
      refine Yl.stay ?_
      exact ⟨rfl, _, _, by rw [ruleD_succ (m := i + 1 + 1)]; rfl⟩
  · rintro ρ S' ⟨rfl, z5, z6, rfl⟩
    dsimp? []
    exact Yl.ret
end PyM

set_option linter.all false
set_option maxRecDepth 100000
set_option exponentiation.threshold 20000
/-! PyN, part 13: the law's polynomials of the rule; ruled. -/
namespace PyM
local macro_rules | `(tactic| dsimp? [$ls,*]) => `(tactic| simp only [bnd_ok, bnd_no, get0, getS, getB0, getBo, getBS, ev_cst, ev_var, ev_bor, ev_bop, ev_neg, ev_notv, ev_band, ev_borr, ev_cmp, ev_chn, ev_ite, ev_call, ev_b1, ev_b2, ev_min3, ev_tup, ev_lst, ev_mkl, ev_ix, ev_sl, ev_rev, ev_lr, ev_lc, evA_nil, evA_cons, evO_nop, evO_cons, evT_band, evT_borr, evT_notv, evT_cmp, evT_chn, evT_call, evT_b1, evT_var, evQ_nil, evQ_cons, evI_S, evI_R1, evI_R2, evI_R3, evI_Z, evI_E, ex_skip, ex_seq, ex_asg, ex_asgO, ex_par, ex_seti, ex_swp, ex_app, ex_ext, ex_ifs, ex_forS, ex_ret, ex_expr, ex_frz, sg0, sgS, ss0, ssS, setTg_nm, setTg_tup, setTgs_nil, setTgs_cons, tgN_nm, tgN_cons, tgN_nil, wipe_nil, wipe_cons, par_nil, par_f, par_t, isB_cst, isB_var, isB_bop, isB_neg, isB_notv, isB_band, isB_borr, isB_cmp, isB_chn, isB_ite, isB_call, isB_b1, isB_b2, isB_min3, isB_tup, isB_lst, isB_ix, isB_sl, isB_rev, isB_lr, isB_lc, isB_tl, isB_mkl, op_add, op_addL, op_addT, op_sub, op_mul, op_mulL, op_mulT, op_fdiv, op_mod, c_lt, c_le, c_gt, c_ge, c_eqi, c_nei, ixF_L, ixF_T, ixF_loc, setiF_c0, setiF_c1, frzF_o0, frzF_v0, frzF_o1, frzF_v1, frzF_o2, frzF_v2, frzF_o3, frzF_v3, frzF_o4, frzF_v4, frzF_o5, frzF_v5, frzF_o6, frzF_v6, frzF_o7, frzF_v7, frzF_o8, frzF_v8, frzF_o9, frzF_v9, frzF_o10, frzF_v10,  sl_L, sl_T, rev_L, rev_T, seq_L, seq_T, o2_gcd, o2_max, o2_min, o1_lenL, o1_lenT, o1_abs, o1_int, o1_listL, o1_listT, o1_listS, o1_tupL, o1_tupT, o1_isTupT, o1_isTupL, o1_isTupI, o1_isIntI, o1_isIntT, o1_isIntL, o1_isBoolI, o1_isBoolT, o1_isBoolL, lim_n0, lim_n1, lim_n2, lim_n3, lim_n4, lim_n5, lim_n6, lim_n7, lim_n8, at0, at1, lcF_eq, fsF_eq, fin_ret, fin_next, Option.map_some, Option.map_none, List.map_cons, List.map_nil, List.length_cons, List.length_nil, List.replicate, List.cons_append, List.nil_append, List.append_nil, Nat.reduceAdd, Nat.reduceSub, Nat.reduceLT, Nat.reduceLeDiff, Bool.or_false, Bool.or_true, Bool.and_true, Bool.true_and, Bool.false_and, Bool.and_false, Bool.false_or, Bool.true_or, Bool.false_eq_true, Bool.not_true, Bool.not_false, if_true, if_false, reduceIte, decide_true, decide_false, Int.reduceEq, Int.reduceNe, Int.reduceLT, Int.reduceLE, Int.reduceNeg, ne_eq, not_false_eq_true, not_true_eq_false, $ls,*])
open PySem PyD B Mo
variable {P : List Def} {ι : Nat → Nat} {n : Nat} {S : Store}
theorem leanL_le {xs : List Rat} {m : Nat} (h : xs.length ≤ m) : (leanL xs).length ≤ m := by
  rw [leanL_len]
  exact Nat.le_trans (lnN_le _ _) h
theorem neg_enc' {a : Rat} : PyData.tuple [.int (-a.num), .int (a.den : Nat)] = enc (-a) := neg_enc.symm
theorem cl_lrule (H : Has P ι dep__law_rule) (hn : 5 ≤ n) {s : Nat} {as bs : List Rat} (ok : PsOk s as bs) {m : Nat} (hm : m ≤ as.length) : callN P W0 n (ι i__law_rule) [encS as bs, .int (m : Nat)] S = some (.list (ruleD as bs (m + 1)), S) := by
  obtain ⟨k, rfl⟩ : ∃ k, n = k + 1 := ⟨n - 1, by omega⟩
  rw [H.go (d := d__law_rule) rfl rfl rfl]
  have h12 := ok.h12; have hl := ok.hl
  apply Yl.fin
  unfold encS
  have z0 : ruleD as bs 1 = [encL [1]] := rfl
  dsimp? [d__law_rule, -fsF_eq, rng_ok (show m < 2 ^ 60 by omega), enc1s]
  refine Yl.rng (fun i ρ S' => S' = S ∧ ∃ z5 z6, ρ = [.val (.tuple [encL as, encL bs]), .val (.int (m : Nat)), .val (encL as), .val (encL bs), .own (ruleD as bs (i + 1)), z5, z6]) ⟨rfl, _, _, rfl⟩ ?_ ?_
  · rintro i ρ S' hi ⟨rfl, z5, z6, rfl⟩
    have g1 : (ruleD as bs (i + 1)).length < LIM := LIM_ok (by rw [ruleD_len]; omega)
    have sa := ((fa_sz' ok (i := i)).1.neg).sm (by omega) (by omega)
    have sp : ∀ j, sm (p (fa as) (fa bs) i j) := fun j => (poly_sz' ok (by omega)).sm (by omega) (by omega)
    have e2 := cl_lscaled (S := S') (H.sub (l' := dep__law_scaled) rfl) (n := k) (by omega) (xs := polyL (fa as) (fa bs) i) (c := -fa as i) (sm_mem fun j => by rw [polyL_at]; exact sp j) sa (by rw [polyL_len]; omega)
    have l1 : (leanL ((polyL (fa as) (fa bs) i).map (· * -fa as i))).length ≤ 20 := leanL_le (by rw [List.length_map, polyL_len]; omega)
    have hsh : ∀ j, ((0 : Rat) :: polyL (fa as) (fa bs) i).getD j 0 = sh (p (fa as) (fa bs) i) j := by
      intro j
      cases j with
      | zero => rfl
      | succ j => rw [List.getD_cons_succ, polyL_at]; rfl
    have e3 := cl_lsum (S := S') (H.sub (l' := dep__law_sum) rfl) (n := k) (by omega) (xs := 0 :: polyL (fa as) (fa bs) i) (ys := leanL ((polyL (fa as) (fa bs) i).map (· * -fa as i))) (sm_mem fun j => by
      rw [hsh]
      cases j with
      | zero => exact sm_zero
      | succ j => exact sp j) (sm_mem fun j => by
      rw [leanL_at, scaled_at, polyL_at]
      exact ((poly_sz' ok (by omega)).mul1 (fa_sz' ok).1.neg).sm (by omega) (by omega)) (by simp [polyL_len]; omega) (by omega)
    have c3 : ∀ j, (addL (0 :: polyL (fa as) (fa bs) i) (leanL ((polyL (fa as) (fa bs) i).map (· * -fa as i)))).getD j 0 = sh (p (fa as) (fa bs) i) j - fa as i * p (fa as) (fa bs) i j := by
      intro j
      rw [addL_at, hsh, leanL_at, scaled_at, polyL_at]; grind
    have q1 : lim (enc 0 :: (polyL (fa as) (fa bs) i).map enc) = some (enc 0 :: (polyL (fa as) (fa bs) i).map enc) := lim_ok (by simp [polyL_len]; omega)
    rw [fsF_eq]
    cases i with
    | zero =>
      have f1 : leanL (addL (0 :: polyL (fa as) (fa bs) 0) (leanL ((polyL (fa as) (fa bs) 0).map (· * -fa as 0)))) = polyL (fa as) (fa bs) 1 := lean_poly fun j => by rw [c3, p_one]
      rw [f1] at e3
      have a0 : atD (ruleD as bs (0 + 1)) 0 = some (encL (polyL (fa as) (fa bs) 0)) := at_ruleD (i := 0) (by omega)
      have hp : 0 < as.length := Nat.lt_of_lt_of_le hi hm
      have a1 : atD (as.map enc) 0 = some (enc (fa as 0)) := at_fa hp
      unfold encL at a0 e2 e3 ⊢
      rw [List.map_cons] at e3
      dsimp? [Int.natCast_zero, a0, a1, ix_num, ix_den, neg_enc', enc0s, e2, q1, e3, appF_o4 g1]
      refine Yl.stay ?_
      exact ⟨rfl, _, _, by rw [ruleD_succ]; rfl⟩
    | succ i =>
      have sb := ((fa_sz' ok (i := i)).2.neg).sm (by omega) (by omega)
      have sp' : ∀ j, sm (p (fa as) (fa bs) i j) := fun j => (poly_sz' ok (by omega)).sm (by omega) (by omega)
      have e4 := cl_lscaled (S := S') (H.sub (l' := dep__law_scaled) rfl) (n := k) (by omega) (xs := polyL (fa as) (fa bs) i) (c := -fa bs i) (sm_mem fun j => by rw [polyL_at]; exact sp' j) sb (by rw [polyL_len]; omega)
      have l2 : (leanL ((polyL (fa as) (fa bs) i).map (· * -fa bs i))).length ≤ 100 := leanL_le (by rw [List.length_map, polyL_len]; omega)
      have l3 : (leanL (addL (0 :: polyL (fa as) (fa bs) (i + 1)) (leanL ((polyL (fa as) (fa bs) (i + 1)).map (· * -fa as (i + 1)))))).length ≤ 100 := leanL_le (by
        rw [addL_len, List.length_cons, polyL_len]
        omega)
      have e5 := cl_lsum (S := S') (H.sub (l' := dep__law_sum) rfl) (n := k) (by omega) (xs := leanL (addL (0 :: polyL (fa as) (fa bs) (i + 1)) (leanL ((polyL (fa as) (fa bs) (i + 1)).map (· * -fa as (i + 1)))))) (ys := leanL ((polyL (fa as) (fa bs) i).map (· * -fa bs i))) (sm_mem fun j => by
        rw [leanL_at, c3]
        have h1 : Sz 60 1 (sh (p (fa as) (fa bs) (i + 1)) j) := (sh_sz fun k => poly_sz' ok (by omega)).mono (by omega)
        exact (h1.sub ((fa_sz' ok).1.mul1 (poly_sz' ok (by omega)))).sm (by omega) (by omega)) (sm_mem fun j => by
        rw [leanL_at, scaled_at, polyL_at]
        exact ((poly_sz' ok (by omega)).mul1 (fa_sz' ok).2.neg).sm (by omega) (by omega)) l3 l2
      have f1 : leanL (addL (leanL (addL (0 :: polyL (fa as) (fa bs) (i + 1)) (leanL ((polyL (fa as) (fa bs) (i + 1)).map (· * -fa as (i + 1)))))) (leanL ((polyL (fa as) (fa bs) i).map (· * -fa bs i)))) = polyL (fa as) (fa bs) (i + 2) := lean_poly fun j => by
        rw [addL_at, leanL_at, leanL_at, c3, scaled_at, polyL_at, p_two]; grind
      rw [f1] at e5
      have a0 := at_ruleD (as := as) (bs := bs) (m := i + 1 + 1) (i := i + 1) (by omega)
      have a2 := at_ruleD (as := as) (bs := bs) (m := i + 1 + 1) (i := i) (by omega)
      have a1 := at_fa (xs := as) (i := i + 1) (by omega)
      have a3 := at_fa (xs := bs) (i := i) (by omega)
      have n1 : ((i + 1 : Nat) : Int) - 1 = ((i : Nat) : Int) := by omega
      have n2 : (0 : Int) < ((i + 1 : Nat) : Int) := by omega
      unfold encL at a0 a2 e2 e3 e4 e5 ⊢
      rw [List.map_cons] at e3
      dsimp? [a0, a1, a2, a3, n1, n2, ix_num, ix_den, neg_enc', enc0s, e2, q1, e3, e4, e5, appF_o4 g1]
      refine Yl.stay ?_
      exact ⟨rfl, _, _, by rw [ruleD_succ (m := i + 1 + 1)]; rfl⟩
  · rintro ρ S' ⟨rfl, z5, z6, rfl⟩
    dsimp? []
    exact Yl.ret
theorem cl_need_depth (H : Has P ι dep_need_depth) (hn : 5 ≤ n) {as bs : List Rat} (h1 : 1 ≤ as.length) (h2 : as.length ≤ 12) (hb : bs.length = as.length - 1) (h0 : ∀ q ∈ bs, q ≠ 0) {k l : Nat} (hk : k + l ≤ as.length) : callN P W0 n (ι i_need_depth) [encS as bs, .int (k : Nat), .int (l : Nat)] S = some (.none, S) := by
  obtain ⟨m, rfl⟩ : ∃ m, n = m + 1 := ⟨n - 1, by omega⟩
  rw [H.go (d := d_need_depth) rfl rfl rfl]
  have e2 := cl_need_steps (S := S) (H.sub (l' := dep_need_steps) rfl) (n := m) (by omega) h1 h2 hb h0
  have e3 := cl_need_number (S := S) (H.sub (l' := dep_need_number) rfl) (n := m) (by omega) (i := (k : Nat)) (lo := 0) (hi := ((as.length : Nat) : Int) - (l : Nat)) (by omega) (by omega)
  unfold encS encL at e2 ⊢
  dsimp? [d_need_depth, e2, List.length_map, e3]
theorem cl_ruled (H : Has P ι dep_ruled) (hn : 6 ≤ n) {s : Nat} {f : Rat} {as bs : List Rat} (ok : StOk s f as bs) {k : Nat} (hk : k ≤ as.length) : callN P W0 n (ι i_ruled) [encS as bs, .int (k : Nat)] S = some (encL (polyL (fa as) (fa bs) k), S) := by
  obtain ⟨m, rfl⟩ : ∃ m, n = m + 1 := ⟨n - 1, by omega⟩
  rw [H.go (d := d_ruled) rfl rfl rfl]
  have e1 := cl_need_depth (S := S) (H.sub (l' := dep_need_depth) rfl) (n := m) (by omega) ok.h1 ok.h12 ok.hl ok.b0 (k := k) (l := 0) (by omega)
  have e2 := cl_rule_in (S := S) (H.sub (l' := dep_rule_in) rfl) (n := m) (by omega) ok.ps hk
  rw [show ((0 : Nat) : Int) = 0 from rfl] at e1
  dsimp? [d_ruled, e1, e2, at_ruleD (show k < k + 1 by omega)]
end PyM

set_option linter.all false
set_option maxRecDepth 100000
set_option exponentiation.threshold 20000
/-! PyN, part 14: steps of a row. -/
namespace PyM
local macro_rules | `(tactic| dsimp? [$ls,*]) => `(tactic| simp only [bnd_ok, bnd_no, get0, getS, getB0, getBo, getBS, ev_cst, ev_var, ev_bor, ev_bop, ev_neg, ev_notv, ev_band, ev_borr, ev_cmp, ev_chn, ev_ite, ev_call, ev_b1, ev_b2, ev_min3, ev_tup, ev_lst, ev_mkl, ev_ix, ev_sl, ev_rev, ev_lr, ev_lc, evA_nil, evA_cons, evO_nop, evO_cons, evT_band, evT_borr, evT_notv, evT_cmp, evT_chn, evT_call, evT_b1, evT_var, evQ_nil, evQ_cons, evI_S, evI_R1, evI_R2, evI_R3, evI_Z, evI_E, ex_skip, ex_seq, ex_asg, ex_asgO, ex_par, ex_seti, ex_swp, ex_app, ex_ext, ex_ifs, ex_forS, ex_ret, ex_expr, ex_frz, sg0, sgS, ss0, ssS, setTg_nm, setTg_tup, setTgs_nil, setTgs_cons, tgN_nm, tgN_cons, tgN_nil, wipe_nil, wipe_cons, par_nil, par_f, par_t, isB_cst, isB_var, isB_bop, isB_neg, isB_notv, isB_band, isB_borr, isB_cmp, isB_chn, isB_ite, isB_call, isB_b1, isB_b2, isB_min3, isB_tup, isB_lst, isB_ix, isB_sl, isB_rev, isB_lr, isB_lc, isB_tl, isB_mkl, op_add, op_addL, op_addT, op_sub, op_mul, op_mulL, op_mulT, op_fdiv, op_mod, c_lt, c_le, c_gt, c_ge, c_eqi, c_nei, ixF_L, ixF_T, ixF_loc, setiF_c0, setiF_c1, frzF_o0, frzF_v0, frzF_o1, frzF_v1, frzF_o2, frzF_v2, frzF_o3, frzF_v3, frzF_o4, frzF_v4, frzF_o5, frzF_v5, frzF_o6, frzF_v6, frzF_o7, frzF_v7, frzF_o8, frzF_v8, frzF_o9, frzF_v9, frzF_o10, frzF_v10,  sl_L, sl_T, rev_L, rev_T, seq_L, seq_T, o2_gcd, o2_max, o2_min, o1_lenL, o1_lenT, o1_abs, o1_int, o1_listL, o1_listT, o1_listS, o1_tupL, o1_tupT, o1_isTupT, o1_isTupL, o1_isTupI, o1_isIntI, o1_isIntT, o1_isIntL, o1_isBoolI, o1_isBoolT, o1_isBoolL, lim_n0, lim_n1, lim_n2, lim_n3, lim_n4, lim_n5, lim_n6, lim_n7, lim_n8, at0, at1, lcF_eq, fsF_eq, fin_ret, fin_next, Option.map_some, Option.map_none, List.map_cons, List.map_nil, List.length_cons, List.length_nil, List.replicate, List.cons_append, List.nil_append, List.append_nil, Nat.reduceAdd, Nat.reduceSub, Nat.reduceLT, Nat.reduceLeDiff, Bool.or_false, Bool.or_true, Bool.and_true, Bool.true_and, Bool.false_and, Bool.and_false, Bool.false_or, Bool.true_or, Bool.false_eq_true, Bool.not_true, Bool.not_false, if_true, if_false, reduceIte, decide_true, decide_false, Int.reduceEq, Int.reduceNe, Int.reduceLT, Int.reduceLE, Int.reduceNeg, ne_eq, not_false_eq_true, not_true_eq_false, $ls,*])
open PySem PyD B Mo
variable {P : List Def} {ι : Nat → Nat} {n : Nat} {S : Store}
theorem at_last {xs : List PyD.D} {x : PyD.D} : atD (xs ++ [x]) (-1) = some x := by
  have h : L2.ixN (xs ++ [x]).length (-1) = some xs.length := by
    unfold L2.ixN
    rw [if_neg (by decide), if_pos (by rw [List.length_append, List.length_singleton]; omega), List.length_append, List.length_singleton]
    congr 1
    omega
  unfold atD L2.atI
  rw [h]
  simp
theorem foldl_add {xs : List Rat} : ∀ {a : Rat}, xs.foldl (· + ·) a = a + Sg xs.length fun i => xs.getD i 0 := by
  induction xs with
  | nil => intro a; simp only [List.foldl_nil, List.length_nil, Sg]; grind
  | cons x xs ih =>
    intro a
    rw [List.foldl_cons, ih, List.length_cons, Sg_head]
    simp only [List.getD_cons_zero, List.getD_cons_succ]; grind
theorem lsum_eq {xs : List Rat} : lsum xs = Sg xs.length fun i => xs.getD i 0 := by
  unfold lsum
  rw [foldl_add]; grind
theorem dotL_eq {xs row : List Rat} (h : xs.length ≤ row.length) {N : Nat} (hN : xs.length ≤ N) : dotL xs row = Sg N fun i => xs.getD i 0 * row.getD i 0 := by
  unfold dotL
  have hl : ((xs.zip row).map fun p => p.1 * p.2).length = xs.length := by simp; omega
  rw [lsum_eq, hl, Sg_more (n := xs.length) (m := N) hN fun i h1 h2 => by rw [getD_out h1]; grind]
  refine Sg_congr fun i hi => ?_
  have hz : (xs.zip row)[i]? = some (xs[i]'hi, row[i]'(by omega)) := List.getElem?_zip_eq_some.mpr ⟨List.getElem?_eq_getElem _, List.getElem?_eq_getElem _⟩
  rw [List.getD_eq_getElem?_getD, List.getD_eq_getElem?_getD, List.getD_eq_getElem?_getD, List.getElem?_map, hz, List.getElem?_eq_getElem hi, List.getElem?_eq_getElem (show i < row.length by omega)]
  rfl
theorem momL_at {f : Rat} {as bs : List Rat} {m i : Nat} (h : i < m) : (momL f as bs m).getD i 0 = f * L (fa as) (fa bs) i 0 := by
  unfold momL
  rw [map_at, if_pos h]
theorem dot_mom {f : Rat} {as bs xs : List Rat} {M N : Nat} (h : xs.length ≤ M) (hN : xs.length ≤ N) : dotL xs (momL f as bs M) = f * Sg N fun i => xs.getD i 0 * L (fa as) (fa bs) i 0 := by
  rw [dotL_eq (by rw [momL_len]; exact h) (Nat.le_refl _), ← Sg_mul, Sg_more (n := xs.length) (m := N) hN fun i h1 h2 => by rw [getD_out h1]; grind]
  refine Sg_congr fun i hi => ?_
  rw [momL_at (by omega)]; grind
/-- the square of a polynomial of the rule -/
def sqL (as bs : List Rat) (k : Nat) : List Rat := leanL (mulL (polyL (fa as) (fa bs) k) (polyL (fa as) (fa bs) k))
theorem sqL_at {as bs : List Rat} {k i : Nat} : (sqL as bs k).getD i 0 = cv (p (fa as) (fa bs) k) (p (fa as) (fa bs) k) i := by
  unfold sqL
  rw [leanL_at, mulL_at]
  simp only [polyL_at]
theorem cv_top {a b : Nat → Rat} {k i : Nat} (h : 2 * k < i) : cv (p a b k) (p a b k) i = 0 := by
  unfold cv
  refine Sg_zero fun j hj => ?_
  by_cases c : k < j
  · rw [p_gt a b c]; grind
  · rw [p_gt a b (show k < i - j by omega)]; grind
theorem sqL_len {as bs : List Rat} {k : Nat} : (sqL as bs k).length ≤ 2 * k + 1 := by
  refine Nat.le_of_not_lt fun c => ?_
  have h1 : leanL (sqL as bs k) = sqL as bs k := lean_lean
  have h2 := lnN_last (sqL as bs k) (sqL as bs k).length
  have h3 : lnN (sqL as bs k) (sqL as bs k).length = (sqL as bs k).length := by rw [← leanL_len, h1]
  rw [h3] at h2
  exact h2 (by omega) (by rw [sqL_at, cv_top (by omega)])
theorem momL_sz {s : Nat} {f : Rat} {as bs : List Rat} (ok : StOk s f as bs) {M : Nat} (hM : M ≤ 24) : ∀ x ∈ momL f as bs M, Sz ((s + 1) * 24 + s) 1 x := by
  intro x hx
  unfold momL at hx
  obtain ⟨t, ht, rfl⟩ := List.mem_map.mp hx
  have ht := List.mem_range.mp ht
  exact (mom_sz ok (t := t) (l := 0)).mono (by
    have : (s + 1) * t ≤ (s + 1) * 24 := Nat.mul_le_mul_left _ (by omega)
    omega)
theorem sqL_sz {s : Nat} {as bs : List Rat} (ok : PsOk s as bs) {k : Nat} (hk : k ≤ 12) : ∀ i, Sz ((s + 1) * 24 + 1) 1 ((sqL as bs k).getD i 0) := by
  intro i
  unfold sqL
  rw [leanL_at]
  have h := mulL_sz (k := (s + 1) * k) (l := (s + 1) * k) (xs := polyL (fa as) (fa bs) k) (ys := polyL (fa as) (fa bs) k) (sm_mem fun i => by rw [polyL_at]; exact poly_sz ok) (sm_mem fun i => by rw [polyL_at]; exact poly_sz ok) (by rw [polyL_len]; omega) i
  rw [polyL_len] at h
  refine (h.up (by omega)).mono ?_
  have : (s + 1) * k ≤ (s + 1) * 12 := Nat.mul_le_mul_left _ hk
  omega
theorem cl_steps_in (H : Has P ι dep_steps_in) (hn : 5 ≤ n) {s : Nat} {f : Rat} {as bs : List Rat} (ok : StOk s f as bs) (hs1 : s ≤ 1) {M lv : Nat} (hM : M ≤ 24) (hlv : lv ≤ as.length) (hlM : 2 * lv ≤ M) : callN P W0 n (ι i_steps_in) [encL (momL f as bs M), .int (lv : Nat)] S = some (encS (as.take lv) (bs.take (lv - 1)), S) := by
  obtain ⟨k, rfl⟩ : ∃ k, n = k + 1 := ⟨n - 1, by omega⟩
  rw [H.go (d := d_steps_in) rfl rfl rfl]
  have h1 := ok.h1; have h12 := ok.h12; have hl := ok.hl
  have hb : (s + 1) * 24 ≤ 48 := by
    have : (s + 1) * 24 ≤ 2 * 24 := Nat.mul_le_mul_right _ (by omega)
    omega
  apply Yl.fin
  dsimp? [d_steps_in, -fsF_eq, rng_ok (show lv < 2 ^ 60 by omega), enc1s]
  refine Yl.rng (fun i ρ S' => S' = S ∧ ∃ z7 z8 z9 z10, ρ = [.val (encL (momL f as bs M)), .val (.int (lv : Nat)), .val (encL (polyL (fa as) (fa bs) i)), .val (encL (if i = 0 then [] else polyL (fa as) (fa bs) (i - 1))), .val (enc (if i = 0 then 1 else f * Dn (fa bs) (i - 1))), .own ((as.take i).map enc), .own ((bs.take (i - 1)).map enc), z7, z8, z9, z10]) ⟨rfl, _, _, _, _, rfl⟩ ?_ ?_
  · rintro i ρ S' hi ⟨rfl, z7, z8, z9, z10, rfl⟩
    have i12 : i ≤ 12 := by omega
    have sp : ∀ j, sm (p (fa as) (fa bs) i j) := fun j => (poly_sz' ok.ps (by omega)).sm (by omega) (by omega)
    have spz : ∀ x ∈ polyL (fa as) (fa bs) i, Sz ((s + 1) * 12) 1 x := sm_mem fun j => by
      rw [polyL_at]
      exact (poly_sz ok.ps).mono (Nat.mul_le_mul_left _ i12)
    have bne : ∀ j, j < i → fa bs j ≠ 0 := fun j hj => by
      unfold fa
      rw [List.getD_eq_getElem?_getD, List.getElem?_eq_getElem (by omega)]
      exact ok.b0 _ (List.getElem_mem _)
    have dne := D_ne (b := fa bs) (k := i) bne
    have fne := ok.f0
    have sq0 : f * Dn (fa bs) i ≠ 0 := by
      intro z
      rcases Rat.mul_eq_zero.mp z with z | z
      · exact fne z
      · exact dne z
    -- the square and its sum
    have e1 := cl_multiplied (S := S') (H.sub (l' := dep_multiplied) rfl) (n := k) (by omega) spz spz (by omega) (by rw [polyL_len]; omega) (by rw [polyL_len]; omega)
    have rowz := momL_sz ok hM
    have sqz : ∀ x ∈ sqL as bs i, Sz ((s + 1) * 24 + 1) 1 x := sm_mem (sqL_sz ok.ps i12)
    have hsl := sqL_len (as := as) (bs := bs) (k := i)
    have e2 := cl_sum_in (S := S') (H.sub (l' := dep_sum_in) rfl) (n := k) (by omega) rowz sqz (by omega) (by omega)
    have v2 : dotL (sqL as bs i) (momL f as bs M) = f * Dn (fa bs) i := by
      rw [dot_mom (N := 2 * i + 1) (by omega) hsl, Sg_congr fun j _ => by rw [sqL_at], PP _ _ (by omega)]
      simp only [dl]; grind
    rw [v2] at e2
    have e3 := cl_raised (S := S') (H.sub (l' := dep_raised) rfl) (n := k) (by omega) (xs := sqL as bs i) (k := 1) (by omega) (by omega)
    have upl : (upL (sqL as bs i) 1).length ≤ 2 * i + 2 := by unfold upL; split <;> (simp; try omega)
    have upz : ∀ x ∈ upL (sqL as bs i) 1, Sz ((s + 1) * 24 + 1) 1 x := sm_mem fun j => by
      rw [upL_at]
      exact sh_sz (sqL_sz ok.ps i12)
    have e4 := cl_sum_in (S := S') (H.sub (l' := dep_sum_in) rfl) (n := k) (by omega) rowz upz (by omega) (by omega)
    have v4 : dotL (upL (sqL as bs i) 1) (momL f as bs M) = f * (Dn (fa bs) i * fa as i) := by
      rw [dot_mom (N := 2 * i + 2) (by omega) upl, Sg_congr fun j _ => by rw [upL_at, show (fun j => (sqL as bs i).getD j 0) = cv (p (fa as) (fa bs) i) (p (fa as) (fa bs) i) from funext fun j => sqL_at], xPP _ _ (by omega)]
    rw [v4] at e4
    have szD : ∀ j, Sz (s * j) 1 (Dn (fa bs) j) := by
      intro j
      induction j with
      | zero => rw [Dn]; exact Sz.one
      | succ j ih => rw [Dn, Nat.mul_succ]; exact ih.mul1 (sz_fa ok.hb)
    have sD : ∀ j, j ≤ 12 → sm (f * Dn (fa bs) j) := fun j hj => (ok.hf.mul1 (szD j)).sm (by
      have : s * j ≤ 1 * 12 := Nat.mul_le_mul hs1 hj
      omega) (by omega)
    have sX : sm (f * (Dn (fa bs) i * fa as i)) := (ok.hf.mul1 ((szD i).mul1 (sz_fa ok.ha))).sm (by
      have : s * i ≤ 1 * 12 := Nat.mul_le_mul hs1 i12
      omega) (by omega)
    have e5 := cl_over (S := S') (H.sub (l' := dep_over) rfl) (n := k) (by omega) sX (sD i i12) sq0
    have v5 : f * (Dn (fa bs) i * fa as i) / (f * Dn (fa bs) i) = fa as i := by
      rw [show f * (Dn (fa bs) i * fa as i) = fa as i * (f * Dn (fa bs) i) by grind]
      exact Rat.mul_div_cancel sq0
    rw [v5] at e5
    have sa := (fa_sz' ok.ps (i := i)).1.sm (by omega) (by omega)
    have e6 := cl_raised (S := S') (H.sub (l' := dep_raised) rfl) (n := k) (by omega) (xs := polyL (fa as) (fa bs) i) (k := 1) (by omega) (by rw [polyL_len]; omega)
    have e7 := cl_scaled (S := S') (H.sub (l' := dep_scaled) rfl) (n := k) (by omega) (xs := polyL (fa as) (fa bs) i) (c := fa as i) (sm_mem fun j => by rw [polyL_at]; exact sp j) sa (by rw [polyL_len]; omega)
    have l1 : (leanL ((polyL (fa as) (fa bs) i).map (· * fa as i))).length ≤ 20 := leanL_le (by rw [List.length_map, polyL_len]; omega)
    have l0 : (upL (polyL (fa as) (fa bs) i) 1).length ≤ 20 := by unfold upL; split <;> (simp [polyL_len]; try omega)
    have e8 := cl_less (S := S') (H.sub (l' := dep_less) rfl) (n := k) (by omega) (xs := upL (polyL (fa as) (fa bs) i) 1) (ys := leanL ((polyL (fa as) (fa bs) i).map (· * fa as i))) (sm_mem fun j => by
      rw [upL_at]
      cases j with
      | zero => exact sm_zero
      | succ j => simp only [sh, polyL_at]; exact sp j) (sm_mem fun j => by
      rw [leanL_at, scaled_at, polyL_at]
      exact ((poly_sz' ok.ps (by omega)).mul1 (fa_sz' ok.ps).1).sm (by omega) (by omega)) (by omega) (by omega)
    have c8 : ∀ j, (subL (upL (polyL (fa as) (fa bs) i) 1) (leanL ((polyL (fa as) (fa bs) i).map (· * fa as i)))).getD j 0 = sh (p (fa as) (fa bs) i) j - fa as i * p (fa as) (fa bs) i j := by
      intro j
      rw [subL_at, upL_at, leanL_at, scaled_at, polyL_at, Rat.mul_comm]
      simp only [polyL_at]
    have ga : ((as.take i).map enc).length < LIM := LIM_ok (by rw [List.length_map, List.length_take]; omega)
    have ta : (as.take i).map enc ++ [enc (fa as i)] = (as.take (i + 1)).map enc := by
      rw [List.take_add_one, List.map_append, getq (show i < as.length by omega)]; rfl
    unfold sqL at e2 e3 e4
    rw [fsF_eq]
    cases i with
    | zero =>
      have f1 : leanL (subL (upL (polyL (fa as) (fa bs) 0) 1) (leanL ((polyL (fa as) (fa bs) 0).map (· * fa as 0)))) = polyL (fa as) (fa bs) 1 := lean_poly fun j => by rw [c8, p_one]
      rw [f1] at e8
      rw [show ((1 : Nat) : Int) = 1 from rfl] at e3 e6
      dsimp? [Int.natCast_zero, e1, e2, e3, e4, e5, e6, e7, e8, appF_o5 ga]
      refine Yl.stay ?_
      exact ⟨rfl, _, _, _, _, by rw [ta]; rfl⟩
    | succ i =>
      have sb := (fa_sz' ok.ps (i := i)).2.sm (by omega) (by omega)
      have sp' : ∀ j, sm (p (fa as) (fa bs) i j) := fun j => (poly_sz' ok.ps (by omega)).sm (by omega) (by omega)
      have gb : ((bs.take i).map enc).length < LIM := LIM_ok (by rw [List.length_map, List.length_take]; omega)
      have tb : (bs.take i).map enc ++ [enc (fa bs i)] = (bs.take (i + 1)).map enc := by
        rw [List.take_add_one, List.map_append, getq (show i < bs.length by omega)]; rfl
      have d0 : f * Dn (fa bs) i ≠ 0 := by
        intro z
        rcases Rat.mul_eq_zero.mp z with z | z
        · exact fne z
        · exact D_ne (b := fa bs) (k := i) (fun j hj => bne j (by omega)) z
      have e9 := cl_over (S := S') (H.sub (l' := dep_over) rfl) (n := k) (by omega) (sD (i + 1) i12) (sD i (by omega)) d0
      have v9 : f * Dn (fa bs) (i + 1) / (f * Dn (fa bs) i) = fa bs i := by
        rw [show f * Dn (fa bs) (i + 1) = fa bs i * (f * Dn (fa bs) i) by rw [Dn]; grind]
        exact Rat.mul_div_cancel d0
      rw [v9] at e9
      have e10 := cl_scaled (S := S') (H.sub (l' := dep_scaled) rfl) (n := k) (by omega) (xs := polyL (fa as) (fa bs) i) (c := fa bs i) (sm_mem fun j => by rw [polyL_at]; exact sp' j) sb (by rw [polyL_len]; omega)
      have l2 : (leanL ((polyL (fa as) (fa bs) i).map (· * fa bs i))).length ≤ 100 := leanL_le (by rw [List.length_map, polyL_len]; omega)
      have l3 : (leanL (subL (upL (polyL (fa as) (fa bs) (i + 1)) 1) (leanL ((polyL (fa as) (fa bs) (i + 1)).map (· * fa as (i + 1)))))).length ≤ 100 := leanL_le (by
        unfold subL
        rw [List.length_map, List.length_range]
        omega)
      have e11 := cl_less (S := S') (H.sub (l' := dep_less) rfl) (n := k) (by omega) (xs := leanL (subL (upL (polyL (fa as) (fa bs) (i + 1)) 1) (leanL ((polyL (fa as) (fa bs) (i + 1)).map (· * fa as (i + 1)))))) (ys := leanL ((polyL (fa as) (fa bs) i).map (· * fa bs i))) (sm_mem fun j => by
        rw [leanL_at, c8]
        have h1 : Sz 60 1 (sh (p (fa as) (fa bs) (i + 1)) j) := (sh_sz fun k => poly_sz' ok.ps (by omega)).mono (by omega)
        exact (h1.sub ((fa_sz' ok.ps).1.mul1 (poly_sz' ok.ps (by omega)))).sm (by omega) (by omega)) (sm_mem fun j => by
        rw [leanL_at, scaled_at, polyL_at]
        exact ((poly_sz' ok.ps (by omega)).mul1 (fa_sz' ok.ps).2).sm (by omega) (by omega)) l3 l2
      have f1 : leanL (subL (leanL (subL (upL (polyL (fa as) (fa bs) (i + 1)) 1) (leanL ((polyL (fa as) (fa bs) (i + 1)).map (· * fa as (i + 1)))))) (leanL ((polyL (fa as) (fa bs) i).map (· * fa bs i)))) = polyL (fa as) (fa bs) (i + 2) := lean_poly fun j => by
        rw [subL_at, leanL_at, leanL_at, c8, scaled_at, polyL_at, p_two, Rat.mul_comm (p (fa as) (fa bs) i j)]
      rw [f1] at e11
      have n1 : (0 : Int) < ((i + 1 : Nat) : Int) := by omega
      have n2 : atD ((bs.take i).map enc ++ [enc (fa bs i)]) (-1) = some (enc (fa bs i)) := by
        exact at_last
      rw [show ((1 : Nat) : Int) = 1 from rfl] at e3 e6
      have k1 : ¬ (i + 1 = 0) := by omega
      have k2 : i + 1 - 1 = i := by omega
      dsimp? [k1, k2, n1, n2, e1, e2, e3, e4, e5, e6, e7, e8, e9, e10, e11, appF_o5 ga, appF_o6 gb]
      refine Yl.stay ?_
      exact ⟨rfl, _, _, _, _, by rw [ta, tb]; rfl⟩
  · rintro ρ S' ⟨rfl, z7, z8, z9, z10, rfl⟩
    dsimp? []
    exact Yl.ret
end PyM

set_option linter.all false
set_option maxRecDepth 100000
set_option exponentiation.threshold 20000
/-! PyN, part 15: the tables of a row, their determinants. -/
namespace PyM
local macro_rules | `(tactic| dsimp? [$ls,*]) => `(tactic| simp only [bnd_ok, bnd_no, get0, getS, getB0, getBo, getBS, ev_cst, ev_var, ev_bor, ev_bop, ev_neg, ev_notv, ev_band, ev_borr, ev_cmp, ev_chn, ev_ite, ev_call, ev_b1, ev_b2, ev_min3, ev_tup, ev_lst, ev_mkl, ev_ix, ev_sl, ev_rev, ev_lr, ev_lc, evA_nil, evA_cons, evO_nop, evO_cons, evT_band, evT_borr, evT_notv, evT_cmp, evT_chn, evT_call, evT_b1, evT_var, evQ_nil, evQ_cons, evI_S, evI_R1, evI_R2, evI_R3, evI_Z, evI_E, ex_skip, ex_seq, ex_asg, ex_asgO, ex_par, ex_seti, ex_swp, ex_app, ex_ext, ex_ifs, ex_forS, ex_ret, ex_expr, ex_frz, sg0, sgS, ss0, ssS, setTg_nm, setTg_tup, setTgs_nil, setTgs_cons, tgN_nm, tgN_cons, tgN_nil, wipe_nil, wipe_cons, par_nil, par_f, par_t, isB_cst, isB_var, isB_bop, isB_neg, isB_notv, isB_band, isB_borr, isB_cmp, isB_chn, isB_ite, isB_call, isB_b1, isB_b2, isB_min3, isB_tup, isB_lst, isB_ix, isB_sl, isB_rev, isB_lr, isB_lc, isB_tl, isB_mkl, op_add, op_addL, op_addT, op_sub, op_mul, op_mulL, op_mulT, op_fdiv, op_mod, c_lt, c_le, c_gt, c_ge, c_eqi, c_nei, ixF_L, ixF_T, ixF_loc, setiF_c0, setiF_c1, frzF_o0, frzF_v0, frzF_o1, frzF_v1, frzF_o2, frzF_v2, frzF_o3, frzF_v3, frzF_o4, frzF_v4, frzF_o5, frzF_v5, frzF_o6, frzF_v6, frzF_o7, frzF_v7, frzF_o8, frzF_v8, frzF_o9, frzF_v9, frzF_o10, frzF_v10,  sl_L, sl_T, rev_L, rev_T, seq_L, seq_T, o2_gcd, o2_max, o2_min, o1_lenL, o1_lenT, o1_abs, o1_int, o1_listL, o1_listT, o1_listS, o1_tupL, o1_tupT, o1_isTupT, o1_isTupL, o1_isTupI, o1_isIntI, o1_isIntT, o1_isIntL, o1_isBoolI, o1_isBoolT, o1_isBoolL, lim_n0, lim_n1, lim_n2, lim_n3, lim_n4, lim_n5, lim_n6, lim_n7, lim_n8, at0, at1, lcF_eq, fsF_eq, fin_ret, fin_next, Option.map_some, Option.map_none, List.map_cons, List.map_nil, List.length_cons, List.length_nil, List.replicate, List.cons_append, List.nil_append, List.append_nil, Nat.reduceAdd, Nat.reduceSub, Nat.reduceLT, Nat.reduceLeDiff, Bool.or_false, Bool.or_true, Bool.and_true, Bool.true_and, Bool.false_and, Bool.and_false, Bool.false_or, Bool.true_or, Bool.false_eq_true, Bool.not_true, Bool.not_false, if_true, if_false, reduceIte, decide_true, decide_false, Int.reduceEq, Int.reduceNe, Int.reduceLT, Int.reduceLE, Int.reduceNeg, ne_eq, not_false_eq_true, not_true_eq_false, $ls,*])
open PySem PyD B Mo
variable {P : List Def} {ι : Nat → Nat} {n : Nat} {S : Store}
/-- the rows of a table, g(i) eliminations behind -/
def rowE (f : Rat) (a b : Nat → Rat) (w s i : Nat) : List Rat := (List.range w).map fun j => f * E a b s i j
def tabE (f : Rat) (a b : Nat → Rat) (w : Nat) (g : Nat → Nat) : List PyD.D := (List.range w).map fun i => .list ((rowE f a b w (g i) i).map enc)
theorem rowE_len {f : Rat} {a b : Nat → Rat} {w s i : Nat} : (rowE f a b w s i).length = w := by simp [rowE]
theorem tabE_len {f : Rat} {a b : Nat → Rat} {w : Nat} {g : Nat → Nat} : (tabE f a b w g).length = w := by simp [tabE]
theorem at_tabE {f : Rat} {a b : Nat → Rat} {w i : Nat} {g : Nat → Nat} (h : i < w) : atD (tabE f a b w g) ((i : Nat) : Int) = some (.list ((rowE f a b w (g i) i).map enc)) := at_ok (by
  unfold tabE
  rw [List.getElem?_map, List.getElem?_range h]; rfl)
theorem at_rowE {f : Rat} {a b : Nat → Rat} {w s i j : Nat} (h : j < w) : atD ((rowE f a b w s i).map enc) ((j : Nat) : Int) = some (enc (f * E a b s i j)) := at_map h
theorem tabE_congr {f : Rat} {a b : Nat → Rat} {w : Nat} {g g' : Nat → Nat} (h : ∀ i, i < w → g i = g' i) : tabE f a b w g = tabE f a b w g' := by
  unfold tabE
  refine List.map_congr_left fun i hi => ?_
  rw [h i (List.mem_range.mp hi)]
theorem tabE_set {f : Rat} {a b : Nat → Rat} {w i s : Nat} {g : Nat → Nat} (h : i < w) : (tabE f a b w g).set i (.list ((rowE f a b w s i).map enc)) = tabE f a b w (fun k => if k = i then s else g k) := by
  refine List.ext_getElem? fun k => ?_
  rw [List.getElem?_set, tabE_len, if_pos h]
  unfold tabE
  rw [List.getElem?_map, List.getElem?_map]
  by_cases hk : k < w
  · rw [List.getElem?_range hk]
    by_cases c : i = k
    · subst c; simp
    · rw [if_neg c]
      simp only [Option.map_some]
      rw [if_neg (fun e => c e.symm)]
  · rw [List.getElem?_eq_none (by simp; omega), if_neg (by omega)]
    rfl
/-- sizes -/
theorem Dn_sz {s : Nat} {b : Nat → Rat} (h : ∀ k, Sz s 1 (b k)) : ∀ {k}, Sz (s * k) 1 (Dn b k)
  | 0 => by rw [Dn]; exact Sz.one
  | k + 1 => by rw [Dn, Nat.mul_succ]; exact (Dn_sz h).mul1 (h k)
structure TbOk (f : Rat) (a b : Nat → Rat) (w : Nat) : Prop where
  hw : w ≤ 12
  hf : Sz 1 1 f
  ha : ∀ k, Sz 1 1 (a k)
  hb : ∀ k, Sz 1 1 (b k)
  f0 : f ≠ 0
  b0 : ∀ k, k + 1 < w → b k ≠ 0
theorem TbOk.d0 {f : Rat} {a b : Nat → Rat} {w : Nat} (ok : TbOk f a b w) {k : Nat} (hk : k < w) : f * Dn b k ≠ 0 := by
  intro z
  rcases Rat.mul_eq_zero.mp z with z | z
  · exact ok.f0 z
  · exact D_ne (b := b) (k := k) (fun i hi => ok.b0 i (by omega)) z
theorem E_sz {f : Rat} {a b : Nat → Rat} {w : Nat} (ok : TbOk f a b w) {i j : Nat} (hi : i < 12) (hj : j < 12) : ∀ {s : Nat}, s ≤ 12 → Sz 56 (s + 1) (E a b s i j)
  | 0, _ => by
    rw [E]
    exact (L_sz ok.ha ok.hb).mono (by omega)
  | s + 1, hs => by
    rw [E]
    have h1 := E_sz ok hi hj (s := s) (by omega)
    have h2 : Sz 56 1 (L a b i s * (Dn b s * L a b j s)) := ((L_sz ok.ha ok.hb).mul1 ((Dn_sz ok.hb).mul1 (L_sz ok.ha ok.hb))).mono (by omega)
    exact h1.sub h2
theorem E_sm {f : Rat} {a b : Nat → Rat} {w : Nat} (ok : TbOk f a b w) {i j s : Nat} (hi : i < 12) (hj : j < 12) (hs : s ≤ 12) : sm (f * E a b s i j) ∧ sm (L a b i s) ∧ sm (L a b i s * (f * E a b s i j)) := by
  have h1 := ok.hf.mul (E_sz ok hi hj hs)
  have h2 : Sz 24 1 (L a b i s) := (L_sz ok.ha ok.hb).mono (by omega)
  exact ⟨h1.sm (by omega) (by omega), h2.sm (by omega) (by omega), (h2.mul h1).sm (by omega) (by omega)⟩
/-- the product of the sizes -/
def detP (f : Rat) (b : Nat → Rat) : Nat → Rat
  | 0 => 1
  | k + 1 => detP f b k * (f * Dn b k)
theorem detP_sz {f : Rat} {a b : Nat → Rat} {w : Nat} (ok : TbOk f a b w) : ∀ {k : Nat}, k ≤ 12 → Sz 84 1 (detP f b k) := by
  have key : ∀ k : Nat, k ≤ 12 → Sz (k * (k + 1) / 2) 1 (detP f b k) := by
    intro k
    induction k with
    | zero => intro _; rw [detP]; exact Sz.one
    | succ k ih =>
      intro hk
      rw [detP]
      have := (ih (by omega)).mul1 (ok.hf.mul1 (Dn_sz ok.hb (k := k)))
      refine this.mono ?_
      have : (k + 1) * (k + 1 + 1) = k * (k + 1) + 2 * (k + 1) := by rw [← Nat.add_mul, Nat.mul_comm]
      omega
  intro k hk
  refine (key k hk).mono ?_
  have : k * (k + 1) ≤ 12 * 13 := Nat.mul_le_mul (by omega) (by omega)
  omega
theorem detP_ne {f : Rat} {a b : Nat → Rat} {w : Nat} (ok : TbOk f a b w) : ∀ {k : Nat}, k ≤ w → detP f b k ≠ 0
  | 0, _ => by rw [detP]; decide
  | k + 1, h => by
    rw [detP]
    intro z
    rcases Rat.mul_eq_zero.mp z with z | z
    · exact detP_ne ok (by omega) z
    · exact ok.d0 (by omega) z
/-- one elimination -/
theorem E_by {f : Rat} {a b : Nat → Rat} {w : Nat} (ok : TbOk f a b w) {s i : Nat} (hs : s < w) : f * E a b s i s / (f * E a b s s s) = L a b i s := by
  rw [E_row, L_diag, E_col, show f * (L a b i s * Dn b s) = L a b i s * (f * Dn b s) by grind, show f * (Dn b s * 1) = f * Dn b s by grind]
  exact Rat.mul_div_cancel (ok.d0 hs)
theorem E_step {f : Rat} {a b : Nat → Rat} {s i j : Nat} : f * E a b s i j - L a b i s * (f * E a b s s j) = f * E a b (s + 1) i j := by
  rw [E_row, E]; grind
theorem row_step {f : Rat} {a b : Nat → Rat} {w s i : Nat} : ((rowE f a b w s i).zip (rowE f a b w s s)).map (fun p => p.1 - L a b i s * p.2) = rowE f a b w (s + 1) i := by
  unfold rowE
  rw [List.zip_map', List.map_map]
  exact List.map_congr_left fun j hj => E_step
theorem row_zero {f : Rat} {a b : Nat → Rat} {w s i : Nat} (h : L a b i s = 0) : rowE f a b w s i = rowE f a b w (s + 1) i := by
  unfold rowE
  refine List.map_congr_left fun j hj => ?_
  rw [E, h]; grind
/-- the table of a row as the program makes it -/
def tabT (f : Rat) (a b : Nat → Rat) (w : Nat) : List PyD.D := (List.range w).map fun i => encL (rowE f a b w 0 i)
theorem cut_row {f : Rat} {as bs : List Rat} {M w i : Nat} (h : i + w ≤ M) : cutD ((momL f as bs M).map enc) (some ((i : Nat) : Int)) (some ((i + w : Nat) : Int)) = (rowE f (fa as) (fa bs) w 0 i).map enc := by
  unfold cutD HT.sIx
  have h1 : ¬ ((i : Nat) : Int) < 0 := by omega
  have h2 : ¬ ((i + w : Nat) : Int) < 0 := by omega
  simp only [h1, h2, if_false, List.length_map, momL_len, Int.toNat_natCast, Nat.min_eq_left (show i ≤ M by omega), Nat.min_eq_left h]
  rw [← List.map_drop, ← List.map_take, show i + w - i = w by omega]
  congr 1
  unfold momL rowE
  refine List.ext_getElem (by simp; omega) fun k h3 h4 => ?_
  simp only [List.getElem_take, List.getElem_drop, List.getElem_map, List.getElem_range, E]
theorem cl_table_in (H : Has P ι dep_table_in) (hn : 1 ≤ n) {f : Rat} {as bs : List Rat} {M w : Nat} (hM : M ≤ 24) (hw : 2 * w ≤ M + 1) : callN P W0 n (ι i_table_in) [encL (momL f as bs M), .int (w : Nat), .int 0] S = some (.tuple (tabT f (fa as) (fa bs) w), S) := by
  obtain ⟨m, rfl⟩ : ∃ m, n = m + 1 := ⟨n - 1, by omega⟩
  rw [H.go (d := d_table_in) rfl rfl rfl]
  have e : loopC (lcF (callN P W0 m) (.nm 3) .anil (.b1 .tuple (.sl (.var 0) (.acons (.bop .add (.var 3) (.var 2)) .nop) (.acons (.bop .add (.bop .add (.var 3) (.var 2)) (.var 1)) .nop))) [.val (.tuple ((momL f as bs M).map enc)), .val (.int (w : Nat)), .val (.int 0), .no]) (rngD 0 (w : Nat)) S = some (tabT f (fa as) (fa bs) w, S) := by
    rw [rng_eq]
    unfold tabT
    refine loopC_enc fun i hi => ?_
    have hi := List.mem_range.mp hi
    have n1 : ((i : Nat) : Int) + 0 = ((i : Nat) : Int) := by omega
    have n2 : ((i : Nat) : Int) + ((w : Nat) : Int) = ((i + w : Nat) : Int) := by omega
    dsimp? [n1, n2, cut_row (show i + w ≤ M by omega), encL]
  have hl : lim (tabT f (fa as) (fa bs) w) = some (tabT f (fa as) (fa bs) w) := lim_ok (by simp [tabT]; omega)
  unfold encL
  dsimp? [d_table_in, -lcF_eq, rng_ok (show w < 2 ^ 60 by omega), e, hl]
theorem filter_head {α : Type} {p : α → Bool} {x : α} {xs : List α} (h : p x = true) : (x :: xs).filter p = x :: xs.filter p := by
  rw [List.filter_cons, if_pos h]
theorem cl_determinant_in (H : Has P ι dep_determinant_in) (hn : 3 ≤ n) {f : Rat} {a b : Nat → Rat} {w : Nat} (ok : TbOk f a b w) : callN P W0 n (ι i_determinant_in) [.tuple (tabT f a b w)] S = some (enc (detP f b w), S) := by
  obtain ⟨k, rfl⟩ : ∃ k, n = k + 1 := ⟨n - 1, by omega⟩
  rw [H.go (d := d_determinant_in) rfl rfl rfl]
  have hw := ok.hw
  have e0 : loopC (lcF (callN P W0 k) (.nm 8) .anil (.b1 .list (.var 8)) [.val (.tuple (tabT f a b w)), .no, .no, .no, .no, .no, .no, .no, .no, .no, .no]) (tabT f a b w) S = some (tabE f a b w (fun i => 0), S) := by
    have : ∀ ds, loopC (lcF (callN P W0 k) (.nm 8) .anil (.b1 .list (.var 8)) [.val (.tuple ds), .no, .no, .no, .no, .no, .no, .no, .no, .no, .no]) (tabT f a b w) S = some (tabE f a b w (fun i => 0), S) := fun ds => by
      unfold tabT tabE
      refine loopC_enc fun i hi => ?_
      dsimp? [encL]
    exact this _
  have hl : lim (tabE f a b w (fun i => 0)) = some (tabE f a b w (fun i => 0)) := lim_ok (by rw [tabE_len]; omega)
  have ti : ∀ {x y : Rat}, sm x → sm y → ∀ {S}, callN P W0 k (ι i_times) [enc x, enc y] S = some (enc (x * y), S) := fun {x y} hx hy {S} => cl_times (H.sub (l' := dep_times) rfl) (by omega) hx hy
  have mi : ∀ {x y : Rat}, sm x → sm y → ∀ {S}, callN P W0 k (ι i_minus) [enc x, enc y] S = some (enc (x - y), S) := fun {x y} hx hy {S} => cl_minus (H.sub (l' := dep_minus) rfl) (by omega) hx hy
  have ov : ∀ {x y : Rat}, sm x → sm y → y ≠ 0 → ∀ {S}, callN P W0 k (ι i_over) [enc x, enc y] S = some (enc (x / y), S) := fun {x y} hx hy h0 {S} => cl_over (H.sub (l' := dep_over) rfl) (by omega) hx hy h0
  apply Yl.fin
  dsimp? [d_determinant_in, -lcF_eq, -fsF_eq, e0, hl, tabE_len, rng_ok (show w < 2 ^ 60 by omega), enc1s]
  refine Yl.rng (fun i ρ S' => S' = S ∧ ∃ z3 z4 z5 z6 z7 z8 z9 z10, ρ = [.val (.tuple (tabT f a b w)), .own (tabE f a b w (fun r => min i r)), .val (enc (detP f b i)), z3, z4, z5, z6, z7, z8, z9, z10]) ⟨rfl, .no, .no, .no, .no, .no, .no, .no, .no, by rw [tabE_congr (g' := fun r => min 0 r) fun i hi => by omega]; rfl⟩ ?_ ?_
  · rintro i ρ S' hi ⟨rfl, z3, z4, z5, z6, z7, z8, z9, z10, rfl⟩
    have piv : f * E a b i i i ≠ 0 := by
      rw [E_row, L_diag, show f * (Dn b i * 1) = f * Dn b i by grind]
      exact ok.d0 hi
    have sEi := fun j (hj : j < w) => E_sm ok (i := i) (j := j) (s := i) (by omega) (by omega) (by omega)
    -- the spots
    obtain ⟨rest, hsp⟩ : ∃ rest : List Int, ∀ z4 z5 z6 z7 z8 z9 z10, loopC (lcF (callN P W0 k) (.nm 6) (.acons (.cmp .ne (.ix (.ix (.ix (.bor 1) (.var 6)) (.var 3)) (.cst (.int 0))) (.cst (.int 0))) .anil) (.var 6) [.val (.tuple (tabT f a b w)), .own (tabE f a b w (fun r => min i r)), .val (enc (detP f b i)), .val (.int (i : Nat)), z4, z5, z6, z7, z8, z9, z10]) (rngD (i : Nat) (w : Nat)) S' = some (((i : Int) :: rest).map .int, S') ∧ rest.length ≤ 12 := by
      refine ⟨(((List.range (w - i - 1)).map (· + 1)).filter fun j => decide (f * E a b (min i (i + j)) (i + j) i ≠ 0)).map fun j => ((i + j : Nat) : Int), fun z4 z5 z6 z7 z8 z9 z10 => ⟨?_, ?_⟩⟩
      · rw [rng2_eq (by omega)]
        rw [loopC_filter (p := fun j => decide (f * E a b (min i (i + j)) (i + j) i ≠ 0)) (g := fun j => .int ((i + j : Nat) : Int)) fun j hj => by
          have hj := List.mem_range.mp hj
          by_cases c : f * E a b (min i (i + j)) (i + j) i = 0
          · dsimp? [at_tabE (show i + j < w by omega), at_rowE hi, ix_num, num0, c]
          · dsimp? [at_tabE (show i + j < w by omega), at_rowE hi, ix_num, num0, c]]
        have hr : List.range (w - i) = 0 :: (List.range (w - i - 1)).map (· + 1) := by
          rw [show w - i = (w - i - 1) + 1 by omega, List.range_succ_eq_map]
          rfl
        rw [hr, filter_head (by rw [show min i (i + 0) = i by omega]; exact decide_eq_true piv)]
        simp only [List.map_cons, List.map_map, Nat.add_zero]
        rfl
      · rw [List.length_map]
        refine Nat.le_trans (List.length_filter_le _ _) ?_
        simp; omega
    rw [fsF_eq]
    have hll : ∀ z4 z5 z6 z7 z8 z9 z10 : Slot, lim (((i : Int) :: rest).map PyData.int) = some (((i : Int) :: rest).map PyData.int) := fun z4 z5 z6 z7 z8 z9 z10 => lim_ok (by
      have := (hsp z4 z5 z6 z7 z8 z9 z10).2
      simp; omega)
    have hll := hll .no .no .no .no .no .no .no
    have hne := eq_nilL (k := 0) (xs := ((i : Int) :: rest).map PyData.int) (fun d hd => pl_ints hd) (by omega)
    have hsp1 := fun z4 z5 z6 z7 z8 z9 z10 => (hsp z4 z5 z6 z7 z8 z9 z10).1
    simp only [List.map_cons, List.isEmpty_cons] at hll hne hsp1
    have md := (detP_sz ok (k := i) (by omega)).sm (by omega) (by omega)
    have piv2 : f * E a b i i i = f * Dn b i := by rw [E_row, L_diag]; grind
    have mp := (sEi i hi).1
    have piv' := piv
    rw [piv2] at mp piv'
    dsimp? [-lcF_eq, -fsF_eq, tabE_len, rng_ok (show i < 2 ^ 60 by omega), rng_ok (show w < 2 ^ 60 by omega), hsp1, hll, hne, at_tabE hi, show min i i = i by omega, at_rowE hi, piv2, ti md mp, show ((i : Nat) : Int) + 1 = ((i + 1 : Nat) : Int) by omega, rng_ok (show i + 1 < 2 ^ 60 by omega)]
    apply Yl.unb
    refine Yl.rng2 (fun q ρ S'' => S'' = S' ∧ ∃ z6 z7 z8 z9 z10, ρ = [.val (.tuple (tabT f a b w)), .own (tabE f a b w (fun r => if r < q then min (i + 1) r else min i r)), .val (enc (detP f b (i + 1))), .val (.int (i : Nat)), .val (.list (.int (i : Nat) :: rest.map .int)), .val (.list ((rowE f a b w i i).map enc)), z6, z7, z8, z9, z10]) (by omega) ⟨rfl, _, _, _, _, _, by rw [tabE_congr (g := fun r => min i r) (g' := fun r => if r < i + 1 then min (i + 1) r else min i r) fun r hr => by split <;> omega]; rfl⟩ ?_ ?_
    · rintro q ρ S'' hq1 hq2 ⟨rfl, z6, z7, z8, z9, z10, rfl⟩
      obtain ⟨s1, s2, _⟩ := E_sm ok (i := q) (j := i) (s := i) (by omega) (by omega) (by omega)
      have by1 : callN P W0 k (ι i_over) [enc (f * E a b i q i), enc (f * Dn b i)] S'' = some (enc (L a b q i), S'') := by
        rw [ov s1 mp piv', ← piv2, E_by ok hi]
      have hg : ∀ r, r < w → (if r < q + 1 then min (i + 1) r else min i r) = (if r = q then i + 1 else if r < q then min (i + 1) r else min i r) := fun r hr => by
        split <;> split <;> (try split) <;> omega
      have hgq : (if q < q then min (i + 1) q else min i q) = i := by rw [if_neg (by omega)]; omega
      rw [fsF_eq]
      by_cases c : L a b q i = 0
      · dsimp? [-lcF_eq, -fsF_eq, at_tabE hq2, hgq, at_rowE hi, at_rowE hq2, by1, piv2, ix_num, num0, c]
        refine Yl.stay ?_
        have hrow : (tabE f a b w fun r => if r < q + 1 then min (i + 1) r else min i r) = tabE f a b w fun r => if r < q then min (i + 1) r else min i r := by
          rw [tabE_congr hg, ← tabE_set hq2, ← row_zero c, tabE_set hq2]
          exact tabE_congr fun r hr => by split <;> (try split) <;> omega
        exact ⟨rfl, _, _, _, _, _, by rw [hrow]⟩
      · have e1 : ∀ z9 z10, loopC (lcF (callN P W0 k) (.acons (.nm 9) (.acons (.nm 10) .anil)) .anil (.call (ι i_minus) (.acons (.var 9) (.acons (.call (ι i_times) (.acons (.var 7) (.acons (.var 10) .anil))) .anil))) [.val (.tuple (tabT f a b w)), .own (tabE f a b w (fun r => if r < q then min (i + 1) r else min i r)), .val (enc (detP f b (i + 1))), .val (.int (i : Nat)), .val (.list (.int (i : Nat) :: rest.map .int)), .val (.list ((rowE f a b w i i).map enc)), .val (.int (q : Nat)), .val (enc (L a b q i)), z8, z9, z10]) (((rowE f a b w i q).zip (rowE f a b w i i)).map fun p => .tuple [enc p.1, enc p.2]) S'' = some ((rowE f a b w (i + 1) q).map enc, S'') := by
          intro z9 z10
          rw [← row_step, loopC_enc (g := fun p : Rat × Rat => enc (p.1 - L a b q i * p.2)) fun p hp => by
            unfold rowE at hp
            rw [List.zip_map'] at hp
            obtain ⟨j, hj, rfl⟩ := List.mem_map.mp hp
            have hj := List.mem_range.mp hj
            have u1 := (E_sm ok (i := q) (j := j) (s := i) (by omega) (by omega) (by omega)).1
            have u2 := E_sm ok (i := i) (j := j) (s := i) (by omega) (by omega) (by omega)
            have u3 : sm (L a b q i * (f * E a b i i j)) := (Sz.mul (k := 24) (N := 1) ((L_sz ok.ha ok.hb).mono (by omega)) (ok.hf.mul (E_sz ok (s := i) (by omega) (by omega) (by omega)))).sm (by omega) (by omega)
            dsimp? [ti s2 u2.1, mi u1 u3]]
          rw [List.map_map]
          rfl
        have hlr : lim ((rowE f a b w (i + 1) q).map enc) = some ((rowE f a b w (i + 1) q).map enc) := lim_map (by rw [rowE_len]; omega)
        dsimp? [-lcF_eq, -fsF_eq, at_tabE hq2, hgq, at_rowE hi, at_rowE hq2, by1, piv2, ix_num, num0, c, zip_enc, e1, hlr, setiF_o1 (ixN_nat (n := (tabE f a b w fun r => if r < q then min (i + 1) r else min i r).length) (m := q) (by rw [tabE_len]; exact hq2)), tabE_set hq2]
        refine Yl.stay ?_
        exact ⟨rfl, _, _, _, _, _, by rw [tabE_congr hg]⟩
    · rintro ρ S'' ⟨rfl, z6, z7, z8, z9, z10, rfl⟩
      refine Yl.stay ?_
      exact ⟨rfl, _, _, _, _, _, _, _, _, by rw [tabE_congr (g := fun r => if r < w then min (i + 1) r else min i r) (g' := fun r => min (i + 1) r) fun r hr => if_pos hr]⟩
  · rintro ρ S' ⟨rfl, z3, z4, z5, z6, z7, z8, z9, z10, rfl⟩
    dsimp? []
    exact Yl.ret
end PyM

set_option linter.all false
set_option maxRecDepth 100000
set_option exponentiation.threshold 20000
/-! PyN, part 16: full rows, steps of rows, all determinants. -/
namespace PyM
local macro_rules | `(tactic| dsimp? [$ls,*]) => `(tactic| simp only [bnd_ok, bnd_no, get0, getS, getB0, getBo, getBS, ev_cst, ev_var, ev_bor, ev_bop, ev_neg, ev_notv, ev_band, ev_borr, ev_cmp, ev_chn, ev_ite, ev_call, ev_b1, ev_b2, ev_min3, ev_tup, ev_lst, ev_mkl, ev_ix, ev_sl, ev_rev, ev_lr, ev_lc, evA_nil, evA_cons, evO_nop, evO_cons, evT_band, evT_borr, evT_notv, evT_cmp, evT_chn, evT_call, evT_b1, evT_var, evQ_nil, evQ_cons, evI_S, evI_R1, evI_R2, evI_R3, evI_Z, evI_E, ex_skip, ex_seq, ex_asg, ex_asgO, ex_par, ex_seti, ex_swp, ex_app, ex_ext, ex_ifs, ex_forS, ex_ret, ex_expr, ex_frz, sg0, sgS, ss0, ssS, setTg_nm, setTg_tup, setTgs_nil, setTgs_cons, tgN_nm, tgN_cons, tgN_nil, wipe_nil, wipe_cons, par_nil, par_f, par_t, isB_cst, isB_var, isB_bop, isB_neg, isB_notv, isB_band, isB_borr, isB_cmp, isB_chn, isB_ite, isB_call, isB_b1, isB_b2, isB_min3, isB_tup, isB_lst, isB_ix, isB_sl, isB_rev, isB_lr, isB_lc, isB_tl, isB_mkl, op_add, op_addL, op_addT, op_sub, op_mul, op_mulL, op_mulT, op_fdiv, op_mod, c_lt, c_le, c_gt, c_ge, c_eqi, c_nei, ixF_L, ixF_T, ixF_loc, setiF_c0, setiF_c1, frzF_o0, frzF_v0, frzF_o1, frzF_v1, frzF_o2, frzF_v2, frzF_o3, frzF_v3, frzF_o4, frzF_v4, frzF_o5, frzF_v5, frzF_o6, frzF_v6, frzF_o7, frzF_v7, frzF_o8, frzF_v8, frzF_o9, frzF_v9, frzF_o10, frzF_v10,  sl_L, sl_T, rev_L, rev_T, seq_L, seq_T, o2_gcd, o2_max, o2_min, o1_lenL, o1_lenT, o1_abs, o1_int, o1_listL, o1_listT, o1_listS, o1_tupL, o1_tupT, o1_isTupT, o1_isTupL, o1_isTupI, o1_isIntI, o1_isIntT, o1_isIntL, o1_isBoolI, o1_isBoolT, o1_isBoolL, lim_n0, lim_n1, lim_n2, lim_n3, lim_n4, lim_n5, lim_n6, lim_n7, lim_n8, at0, at1, lcF_eq, fsF_eq, fin_ret, fin_next, Option.map_some, Option.map_none, List.map_cons, List.map_nil, List.length_cons, List.length_nil, List.replicate, List.cons_append, List.nil_append, List.append_nil, Nat.reduceAdd, Nat.reduceSub, Nat.reduceLT, Nat.reduceLeDiff, Bool.or_false, Bool.or_true, Bool.and_true, Bool.true_and, Bool.false_and, Bool.and_false, Bool.false_or, Bool.true_or, Bool.false_eq_true, Bool.not_true, Bool.not_false, if_true, if_false, reduceIte, decide_true, decide_false, Int.reduceEq, Int.reduceNe, Int.reduceLT, Int.reduceLE, Int.reduceNeg, ne_eq, not_false_eq_true, not_true_eq_false, $ls,*])
open PySem PyD B Mo
variable {P : List Def} {ι : Nat → Nat} {n : Nat} {S : Store}
theorem StOk.tb {s : Nat} {f : Rat} {as bs : List Rat} (ok : StOk s f as bs) (hs1 : s ≤ 1) {w : Nat} (hw : w ≤ as.length) : TbOk f (fa as) (fa bs) w where
  hw := by have := ok.h12; omega
  hf := ok.hf.mono hs1
  ha := fun k => (sz_fa ok.ha).mono hs1
  hb := fun k => (sz_fa ok.hb).mono hs1
  f0 := ok.f0
  b0 := fun k hk => by
    have := ok.hl
    unfold fa
    rw [List.getD_eq_getElem?_getD, List.getElem?_eq_getElem (by omega)]
    exact ok.b0 _ (List.getElem_mem _)
theorem cl_is_full_in (H : Has P ι dep_is_full_in) (hn : 4 ≤ n) {s : Nat} {f : Rat} {as bs : List Rat} (ok : StOk s f as bs) (hs1 : s ≤ 1) {M lv : Nat} (hM : M ≤ 24) (hlv : lv ≤ as.length) (hlM : 2 * lv ≤ M) : callN P W0 n (ι i_is_full_in) [encL (momL f as bs M), .int (lv : Nat)] S = some (.bool true, S) := by
  obtain ⟨m, rfl⟩ : ∃ m, n = m + 1 := ⟨n - 1, by omega⟩
  rw [H.go (d := d_is_full_in) rfl rfl rfl]
  have e : loopC (lcF (callN P W0 m) (.nm 2) .anil (.cmp .ne (.ix (.call (ι i_determinant_in) (.acons (.call (ι i_table_in) (.acons (.var 0) (.acons (.var 2) (.acons (.cst (.int 0)) .anil)))) .anil)) (.cst (.int 0))) (.cst (.int 0))) [.val (encL (momL f as bs M)), .val (.int (lv : Nat)), .no]) (rngD ((1 : Nat) : Int) ((lv + 1 : Nat) : Int)) S = some ((List.range lv).map (fun _ => .bool true), S) := by
    rw [rng2_eq (by omega), show lv + 1 - 1 = lv by omega]
    refine loopC_enc fun i hi => ?_
    have hi := List.mem_range.mp hi
    have e1 := cl_table_in (H.sub (l' := dep_table_in) rfl) (n := m) (S := S) (by omega) (f := f) (as := as) (bs := bs) hM (w := 1 + i) (by omega)
    have e2 := cl_determinant_in (H.sub (l' := dep_determinant_in) rfl) (n := m) (S := S) (by omega) (ok.tb hs1 (w := 1 + i) (by omega))
    have e3 := detP_ne (ok.tb hs1 (w := 1 + i) (by omega)) (k := 1 + i) (by omega)
    dsimp? [e1, e2, ix_num, num0, e3]
  have h0 : ¬ ((M : Nat) : Int) < 2 * ((lv : Nat) : Int) := by omega
  have c1 : (2 : Int) * ((lv : Nat) : Int) = ((2 * lv : Nat) : Int) := by omega
  have m1 : mulOk 2 ((lv : Nat) : Int) = true := mulS (by rw [Int.natAbs_natCast]; omega)
  have hl : lim ((List.range lv).map fun _ => PyData.bool true) = some ((List.range lv).map fun _ => PyData.bool true) := lim_ok (by simp; omega)
  rw [show ((1 : Nat) : Int) = 1 from rfl] at e
  unfold encL at e ⊢
  dsimp? [d_is_full_in, -lcF_eq, List.length_map, momL_len, m1, h0, show ((lv : Nat) : Int) + 1 = ((lv + 1 : Nat) : Int) by omega, rng_ok (show lv + 1 < 2 ^ 60 by have := ok.h12; omega), show rngOk 1 = true from rfl, e, hl, o1_all, all_true]
theorem cl_need_full (H : Has P ι dep_need_full) (hn : 5 ≤ n) {s : Nat} {f : Rat} {as bs : List Rat} (ok : StOk s f as bs) (hs1 : s ≤ 1) {M lv : Nat} (hM : M ≤ 24) (hlv : lv ≤ as.length) (hlM : 2 * lv ≤ M) : callN P W0 n (ι i_need_full) [encL (momL f as bs M), .int (lv : Nat)] S = some (.none, S) := by
  obtain ⟨m, rfl⟩ : ∃ m, n = m + 1 := ⟨n - 1, by omega⟩
  rw [H.go (d := d_need_full) rfl rfl rfl]
  dsimp? [d_need_full, cl_is_full_in (H.sub (l' := dep_is_full_in) rfl) (n := m) (by omega) ok hs1 hM hlv hlM]
theorem even_mod {m : Nat} : ((2 * m : Nat) : Int).fmod 2 = 0 := by
  rw [Int.fmod_eq_emod_of_nonneg _ (by omega)]; omega
theorem even_div {m : Nat} : ((2 * m : Nat) : Int).fdiv 2 = ((m : Nat) : Int) := by
  rw [Int.fdiv_eq_ediv_of_nonneg _ (by omega)]; omega
theorem div2 : divOk 2 = true := divOk_of (by decide) (Nat.lt_of_lt_of_le (show (2 : Int).natAbs < 2 ^ 10 by decide) (Nat.pow_le_pow_right (by omega) (by omega)))
theorem cl_need_whole_row (H : Has P ι dep_need_whole_row) (hn : 6 ≤ n) {s : Nat} {f : Rat} {as bs : List Rat} (ok : StOk s f as bs) (hs1 : s ≤ 1) {most : Nat} (hm : 2 * as.length ≤ most) : callN P W0 n (ι i_need_whole_row) [encL (momL f as bs (2 * as.length)), .int (most : Nat)] S = some (.none, S) := by
  obtain ⟨m, rfl⟩ : ∃ m, n = m + 1 := ⟨n - 1, by omega⟩
  rw [H.go (d := d_need_whole_row) rfl rfl rfl]
  have h1 := ok.h1; have h12 := ok.h12
  have e1 := cl_need_row (H.sub (l' := dep_need_row) rfl) (n := m) (S := S) (by omega) (xs := momL f as bs (2 * as.length)) (by rw [momL_len]; omega) (by rw [momL_len]; omega)
  have e2 := cl_need_full (H.sub (l' := dep_need_full) rfl) (n := m) (S := S) (by omega) ok hs1 (M := 2 * as.length) (lv := as.length) (by omega) (by omega) (by omega)
  have h0 : ¬ ((most : Nat) : Int) < ((2 * as.length : Nat) : Int) := by omega
  unfold encL at e1 e2 ⊢
  dsimp? [d_need_whole_row, e1, List.length_map, momL_len, even_mod, h0, div2, even_div, e2]
theorem cl_steps_of_row (H : Has P ι dep_steps_of_row) (hn : 7 ≤ n) {s : Nat} {f : Rat} {as bs : List Rat} (ok : StOk s f as bs) (hs1 : s ≤ 1) : callN P W0 n (ι i_steps_of_row) [encL (momL f as bs (2 * as.length))] S = some (encS as bs, S) := by
  obtain ⟨m, rfl⟩ : ∃ m, n = m + 1 := ⟨n - 1, by omega⟩
  rw [H.go (d := d_steps_of_row) rfl rfl rfl]
  have h1 := ok.h1; have h12 := ok.h12; have hl := ok.hl
  have e1 := cl_need_whole_row (H.sub (l' := dep_need_whole_row) rfl) (n := m) (S := S) (by omega) ok hs1 (most := 24) (by omega)
  have e2 := cl_steps_in (H.sub (l' := dep_steps_in) rfl) (n := m) (S := S) (by omega) ok hs1 (M := 2 * as.length) (lv := as.length) (by omega) (by omega) (by omega)
  rw [List.take_length, List.take_of_length_le (by omega)] at e2
  rw [show ((24 : Nat) : Int) = 24 from rfl] at e1
  unfold encL at e1 e2 ⊢
  dsimp? [d_steps_of_row, e1, List.length_map, momL_len, div2, even_div, e2]
theorem cl_has_table (H : Has P ι dep_has_table) (hn : 1 ≤ n) {xs : List Rat} {sh k : Nat} (hk : 1 ≤ k) (hk2 : k < 1000) : callN P W0 n (ι i_has_table) [encL xs, .int (sh : Nat), .int (k : Nat)] S = some (.bool (decide (sh + 2 * k ≤ xs.length + 1)), S) := by
  obtain ⟨m, rfl⟩ : ∃ m, n = m + 1 := ⟨n - 1, by omega⟩
  rw [H.go (d := d_has_table) rfl rfl rfl]
  have h0 : ¬ ((k : Nat) : Int) = 0 := by omega
  have m1 : mulOk 2 ((k : Nat) : Int) = true := mulS (by rw [Int.natAbs_natCast]; omega)
  have h1 : (((sh : Nat) : Int) + 2 * ((k : Nat) : Int) - 1 ≤ ((xs.length : Nat) : Int)) = (sh + 2 * k ≤ xs.length + 1) := propext (by omega)
  unfold encL
  dsimp? [d_has_table, h0, m1, List.length_map, h1]
theorem cl_all_determinants (H : Has P ι dep_all_determinants) (hn : 5 ≤ n) {s : Nat} {f : Rat} {as bs : List Rat} (ok : StOk s f as bs) (hs1 : s ≤ 1) : callN P W0 n (ι i_all_determinants) [encL (momL f as bs (2 * as.length)), .int 0] S = some (.tuple ((List.range (as.length + 1)).map fun k => enc (detP f (fa bs) k)), S) := by
  obtain ⟨k, rfl⟩ : ∃ k, n = k + 1 := ⟨n - 1, by omega⟩
  rw [H.go (d := d_all_determinants) rfl rfl rfl]
  have h1 := ok.h1; have h12 := ok.h12; have hl := ok.hl
  have e1 := cl_need_row (H.sub (l' := dep_need_row) rfl) (n := k) (S := S) (by omega) (xs := momL f as bs (2 * as.length)) (by rw [momL_len]; omega) (by rw [momL_len]; omega)
  have e2 := cl_need_number (H.sub (l' := dep_need_number) rfl) (n := k) (S := S) (by omega) (i := 0) (lo := 0) (hi := 23) (by omega) (by omega)
  apply Yl.fin
  dsimp? [d_all_determinants, -fsF_eq, e1, e2, enc1s, show rngOk 1 = true from rfl, show rngOk (12 + 1) = true from rfl]
  rw [show (rngD 1 (12 + 1)) = rngD ((1 : Nat) : Int) ((13 : Nat) : Int) from rfl]
  refine Yl.rng2 (fun q ρ S' => S' = S ∧ ∃ z3, ρ = [.val (encL (momL f as bs (2 * as.length))), .val (.int 0), .own ((List.range (min q (as.length + 1))).map fun k => enc (detP f (fa bs) k)), z3]) (by omega) ⟨rfl, .no, by rw [show min 1 (as.length + 1) = 1 by omega]; rfl⟩ ?_ ?_
  · rintro q ρ S' hq1 hq2 ⟨rfl, z3, rfl⟩
    have e3 := cl_has_table (H.sub (l' := dep_has_table) rfl) (n := k) (S := S') (by omega) (xs := momL f as bs (2 * as.length)) (sh := 0) (k := q) (by omega) (by omega)
    rw [momL_len, show ((0 : Nat) : Int) = 0 from rfl] at e3
    rw [fsF_eq]
    by_cases c : q ≤ as.length
    · have e4 := cl_table_in (H.sub (l' := dep_table_in) rfl) (n := k) (S := S') (by omega) (f := f) (as := as) (bs := bs) (M := 2 * as.length) (by omega) (w := q) (by omega)
      have e5 := cl_determinant_in (H.sub (l' := dep_determinant_in) rfl) (n := k) (S := S') (by omega) (ok.tb hs1 (w := q) c)
      rw [decide_eq_true (show 0 + 2 * q ≤ 2 * as.length + 1 by omega)] at e3
      have g : ((List.range (min q (as.length + 1))).map fun k => enc (detP f (fa bs) k)).length < LIM := LIM_ok (by simp; omega)
      dsimp? [e3, e4, e5, appF_o2 g]
      refine Yl.stay ?_
      refine ⟨rfl, .val (.int (q : Nat)), ?_⟩
      rw [show min (q + 1) (as.length + 1) = q + 1 by omega, show min q (as.length + 1) = q by omega, List.range_succ, List.map_append]
      rfl
    · rw [decide_eq_false (show ¬ 0 + 2 * q ≤ 2 * as.length + 1 by omega)] at e3
      dsimp? [e3]
      refine Yl.stay ?_
      refine ⟨rfl, .val (.int (q : Nat)), ?_⟩
      rw [show min (q + 1) (as.length + 1) = min q (as.length + 1) by omega]
  · rintro ρ S' ⟨rfl, z3, rfl⟩
    rw [show min 13 (as.length + 1) = as.length + 1 by omega]
    dsimp? []
    exact Yl.ret
end PyM

set_option linter.all false
set_option maxRecDepth 100000
set_option exponentiation.threshold 20000
/-! PyN, part 17: the law's determinants. -/
namespace PyM
local macro_rules | `(tactic| dsimp? [$ls,*]) => `(tactic| simp only [bnd_ok, bnd_no, get0, getS, getB0, getBo, getBS, ev_cst, ev_var, ev_bor, ev_bop, ev_neg, ev_notv, ev_band, ev_borr, ev_cmp, ev_chn, ev_ite, ev_call, ev_b1, ev_b2, ev_min3, ev_tup, ev_lst, ev_mkl, ev_ix, ev_sl, ev_rev, ev_lr, ev_lc, evA_nil, evA_cons, evO_nop, evO_cons, evT_band, evT_borr, evT_notv, evT_cmp, evT_chn, evT_call, evT_b1, evT_var, evQ_nil, evQ_cons, evI_S, evI_R1, evI_R2, evI_R3, evI_Z, evI_E, ex_skip, ex_seq, ex_asg, ex_asgO, ex_par, ex_seti, ex_swp, ex_app, ex_ext, ex_ifs, ex_forS, ex_ret, ex_expr, ex_frz, sg0, sgS, ss0, ssS, setTg_nm, setTg_tup, setTgs_nil, setTgs_cons, tgN_nm, tgN_cons, tgN_nil, wipe_nil, wipe_cons, par_nil, par_f, par_t, isB_cst, isB_var, isB_bop, isB_neg, isB_notv, isB_band, isB_borr, isB_cmp, isB_chn, isB_ite, isB_call, isB_b1, isB_b2, isB_min3, isB_tup, isB_lst, isB_ix, isB_sl, isB_rev, isB_lr, isB_lc, isB_tl, isB_mkl, op_add, op_addL, op_addT, op_sub, op_mul, op_mulL, op_mulT, op_fdiv, op_mod, c_lt, c_le, c_gt, c_ge, c_eqi, c_nei, ixF_L, ixF_T, ixF_loc, setiF_c0, setiF_c1, frzF_o0, frzF_v0, frzF_o1, frzF_v1, frzF_o2, frzF_v2, frzF_o3, frzF_v3, frzF_o4, frzF_v4, frzF_o5, frzF_v5, frzF_o6, frzF_v6, frzF_o7, frzF_v7, frzF_o8, frzF_v8, frzF_o9, frzF_v9, frzF_o10, frzF_v10,  sl_L, sl_T, rev_L, rev_T, seq_L, seq_T, o2_gcd, o2_max, o2_min, o1_lenL, o1_lenT, o1_abs, o1_int, o1_listL, o1_listT, o1_listS, o1_tupL, o1_tupT, o1_isTupT, o1_isTupL, o1_isTupI, o1_isIntI, o1_isIntT, o1_isIntL, o1_isBoolI, o1_isBoolT, o1_isBoolL, lim_n0, lim_n1, lim_n2, lim_n3, lim_n4, lim_n5, lim_n6, lim_n7, lim_n8, at0, at1, lcF_eq, fsF_eq, fin_ret, fin_next, Option.map_some, Option.map_none, List.map_cons, List.map_nil, List.length_cons, List.length_nil, List.replicate, List.cons_append, List.nil_append, List.append_nil, Nat.reduceAdd, Nat.reduceSub, Nat.reduceLT, Nat.reduceLeDiff, Bool.or_false, Bool.or_true, Bool.and_true, Bool.true_and, Bool.false_and, Bool.and_false, Bool.false_or, Bool.true_or, Bool.false_eq_true, Bool.not_true, Bool.not_false, if_true, if_false, reduceIte, decide_true, decide_false, Int.reduceEq, Int.reduceNe, Int.reduceLT, Int.reduceLE, Int.reduceNeg, ne_eq, not_false_eq_true, not_true_eq_false, $ls,*])
open PySem PyD B Mo
variable {P : List Def} {ι : Nat → Nat} {n : Nat} {S : Store}
theorem cl_lshifted (H : Has P ι dep__law_shifted) (hn : 1 ≤ n) {f : Rat} {as bs : List Rat} {M w : Nat} (hM : M ≤ 24) (hw : 2 * w ≤ M + 1) : callN P W0 n (ι i__law_shifted) [encL (momL f as bs M), .int (w : Nat), .int 0] S = some (.list (tabE f (fa as) (fa bs) w fun _ => 0), S) := by
  obtain ⟨m, rfl⟩ : ∃ m, n = m + 1 := ⟨n - 1, by omega⟩
  rw [H.go (d := d__law_shifted) rfl rfl rfl]
  have e : loopC (lcF (callN P W0 m) (.nm 3) .anil (.b1 .list (.sl (.var 0) (.acons (.bop .add (.var 3) (.var 2)) .nop) (.acons (.bop .add (.bop .add (.var 3) (.var 2)) (.var 1)) .nop))) [.val (.tuple ((momL f as bs M).map enc)), .val (.int (w : Nat)), .val (.int 0), .no]) (rngD 0 (w : Nat)) S = some (tabE f (fa as) (fa bs) w (fun _ => 0), S) := by
    rw [rng_eq]
    unfold tabE
    refine loopC_enc fun i hi => ?_
    have hi := List.mem_range.mp hi
    have n1 : ((i : Nat) : Int) + 0 = ((i : Nat) : Int) := by omega
    have n2 : ((i : Nat) : Int) + ((w : Nat) : Int) = ((i + w : Nat) : Int) := by omega
    dsimp? [n1, n2, cut_row (show i + w ≤ M by omega)]
  have hl : lim (tabE f (fa as) (fa bs) w (fun _ => 0)) = some (tabE f (fa as) (fa bs) w (fun _ => 0)) := lim_ok (by rw [tabE_len]; omega)
  unfold encL
  dsimp? [d__law_shifted, -lcF_eq, rng_ok (show w < 2 ^ 60 by omega), e, hl]
def rowR (f : Rat) (a b : Nat → Rat) (t m i : Nat) : List Rat := (List.range m).map fun j => f * E a b t (t + i) (t + j)
def tabR (f : Rat) (a b : Nat → Rat) (t m : Nat) : List PyD.D := (List.range m).map fun i => .list ((rowR f a b t m i).map enc)
theorem rowR_cons {f : Rat} {a b : Nat → Rat} {t m i : Nat} : rowR f a b t (m + 1) i = f * E a b t (t + i) t :: (List.range m).map fun j => f * E a b t (t + i) (t + (j + 1)) := by
  unfold rowR
  rw [List.range_succ_eq_map, List.map_cons, List.map_map]
  rfl
theorem tabR_cons {f : Rat} {a b : Nat → Rat} {t m : Nat} : tabR f a b t (m + 1) = .list ((rowR f a b t (m + 1) 0).map enc) :: (List.range m).map fun i => .list ((rowR f a b t (m + 1) (i + 1)).map enc) := by
  unfold tabR
  rw [List.range_succ_eq_map, List.map_cons, List.map_map]
  rfl
theorem tabR_len {f : Rat} {a b : Nat → Rat} {t m : Nat} : (tabR f a b t m).length = m := by simp [tabR]
theorem cut_none {xs : List PyD.D} : cutD xs none (some 0) = [] := by
  unfold cutD HT.sIx
  simp
theorem cut_tail {x : PyD.D} {xs : List PyD.D} : cutD (x :: xs) (some (0 + 1)) none = xs := by
  unfold cutD HT.sIx
  simp
theorem cut_tail1 {x : PyD.D} {xs : List PyD.D} : cutD (x :: xs) (some 1) none = xs := by
  unfold cutD HT.sIx
  simp
theorem cl_ldeterminant (H : Has P ι dep__law_determinant) (hn : 4 ≤ n) {f : Rat} {a b : Nat → Rat} {w : Nat} (ok : TbOk f a b w) : callN P W0 n (ι i__law_determinant) [.list (tabE f a b w fun _ => 0)] S = some (enc (detP f b w), S) := by
  obtain ⟨k, rfl⟩ : ∃ k, n = k + 1 := ⟨n - 1, by omega⟩
  rw [H.go (d := d__law_determinant) rfl rfl rfl]
  have hw := ok.hw
  have t0 : tabE f a b w (fun _ => 0) = tabR f a b 0 w := by
    unfold tabE tabR rowE rowR
    simp only [Nat.zero_add]
  have e0 : loopC (lcF (callN P W0 k) (.nm 7) .anil (.b1 .list (.var 7)) [.val (.list (tabR f a b 0 w)), .no, .no, .no, .no, .no, .no, .no, .no, .no, .no, .no]) (tabR f a b 0 w) S = some (tabR f a b 0 w, S) := by
    have : ∀ ds, loopC (lcF (callN P W0 k) (.nm 7) .anil (.b1 .list (.var 7)) [.val (.list ds), .no, .no, .no, .no, .no, .no, .no, .no, .no, .no, .no]) (tabR f a b 0 w) S = some (tabR f a b 0 w, S) := fun ds => by
      unfold tabR
      refine loopC_enc fun i hi => ?_
      dsimp? []
    exact this _
  have hl : ∀ t, lim (tabR f a b t (w - t)) = some (tabR f a b t (w - t)) := fun t => lim_ok (by rw [tabR_len]; omega)
  have hl0 := hl 0
  rw [Nat.sub_zero] at hl0
  have ti : ∀ {x y : Rat}, sm x → sm y → ∀ {S}, callN P W0 k (ι i__law_times) [enc x, enc y] S = some (enc (x * y), S) := fun {x y} hx hy {S} => cl_ltimes (H.sub (l' := dep__law_times) rfl) (by omega) hx hy
  have mi : ∀ {x y : Rat}, sm x → sm y → ∀ {S}, callN P W0 k (ι i__law_less) [enc x, enc y] S = some (enc (x - y), S) := fun {x y} hx hy {S} => cl_lless (H.sub (l' := dep__law_less) rfl) (by omega) hx hy
  have ov : ∀ {x y : Rat}, sm x → sm y → y ≠ 0 → ∀ {S}, callN P W0 k (ι i__law_over) [enc x, enc y] S = some (enc (x / y), S) := fun {x y} hx hy h0 {S} => cl_lover (H.sub (l' := dep__law_over) rfl) (by omega) hx hy h0
  apply Yl.fin
  rw [t0]
  dsimp? [d__law_determinant, -lcF_eq, -fsF_eq, e0, hl0, tabR_len, rng_ok (show w < 2 ^ 60 by omega), enc1s]
  refine Yl.rng (fun i ρ S' => S' = S ∧ ∃ z3 z4 z5 z6 z7 z8 z9 z10 z11, ρ = [.val (.list (tabR f a b 0 w)), .val (.list (tabR f a b i (w - i))), .val (enc (detP f b i)), z3, z4, z5, z6, z7, z8, z9, z10, z11]) ⟨rfl, .no, .no, .no, .no, .no, .no, .no, .no, .no, rfl⟩ ?_ ?_
  · rintro i ρ S' hi ⟨rfl, z3, z4, z5, z6, z7, z8, z9, z10, z11, rfl⟩
    obtain ⟨m, hm⟩ : ∃ m, w - i = m + 1 := ⟨w - i - 1, by omega⟩
    have piv : f * E a b i i i ≠ 0 := by
      rw [E_row, L_diag, show f * (Dn b i * 1) = f * Dn b i by grind]
      exact ok.d0 hi
    rw [hm]
    have hrow : ∀ q, q < m + 1 → (tabR f a b i (m + 1))[q]? = some (.list ((rowR f a b i (m + 1) q).map enc)) := fun q hq => by
      unfold tabR
      rw [List.getElem?_map, List.getElem?_range hq]; rfl
    have hr0 : ∀ q, atD ((rowR f a b i (m + 1) q).map enc) 0 = some (enc (f * E a b i (i + q) i)) := fun q => by
      rw [rowR_cons, List.map_cons, at0]
    obtain ⟨rest, hsp⟩ : ∃ rest : List Int, ∀ z4 z5 z6 z7 z8 z9 z10 z11, loopC (lcF (callN P W0 k) (.nm 9) (.acons (.cmp .ne (.ix (.ix (.ix (.var 1) (.var 9)) (.cst (.int 0))) (.cst (.int 0))) (.cst (.int 0))) .anil) (.var 9) [.val (.list (tabR f a b 0 w)), .val (.list (tabR f a b i (m + 1))), .val (enc (detP f b i)), .val (.int (i : Nat)), z4, z5, z6, z7, z8, z9, z10, z11]) (rngD 0 ((m + 1 : Nat) : Int)) S' = some (((0 : Int) :: rest).map .int, S') ∧ rest.length ≤ 12 := by
      refine ⟨(((List.range m).map (· + 1)).filter fun j => decide (f * E a b i (i + j) i ≠ 0)).map fun j => ((j : Nat) : Int), fun z4 z5 z6 z7 z8 z9 z10 z11 => ⟨?_, ?_⟩⟩
      · rw [rng_eq]
        rw [loopC_filter (p := fun j => decide (f * E a b i (i + j) i ≠ 0)) (g := fun j => .int ((j : Nat) : Int)) fun j hj => by
          have hj := List.mem_range.mp hj
          by_cases c : f * E a b i (i + j) i = 0
          · dsimp? [at_ok (hrow j hj), hr0, ix_num, num0, c]
          · dsimp? [at_ok (hrow j hj), hr0, ix_num, num0, c]]
        rw [List.range_succ_eq_map, show List.map Nat.succ (List.range m) = (List.range m).map (· + 1) from rfl, filter_head (by rw [Nat.add_zero]; exact decide_eq_true piv)]
        simp only [List.map_cons, List.map_map]
        rfl
      · rw [List.length_map]
        refine Nat.le_trans (List.length_filter_le _ _) ?_
        simp; omega
    have hll : lim (((0 : Int) :: rest).map PyData.int) = some (((0 : Int) :: rest).map PyData.int) := lim_ok (by
      have := (hsp .no .no .no .no .no .no .no .no).2
      simp; omega)
    have hne := eq_nilL (k := 0) (xs := ((0 : Int) :: rest).map PyData.int) (fun d hd => pl_ints hd) (by omega)
    have hsp1 := fun z4 z5 z6 z7 z8 z9 z10 z11 => (hsp z4 z5 z6 z7 z8 z9 z10 z11).1
    simp only [List.map_cons, List.isEmpty_cons] at hll hne hsp1
    have md := (detP_sz ok (k := i) (by omega)).sm (by omega) (by omega)
    have piv2 : f * E a b i i i = f * Dn b i := by rw [E_row, L_diag]; grind
    have mp := (E_sm ok (i := i) (j := i) (s := i) (by omega) (by omega) (by omega)).1
    have piv' := piv
    rw [piv2] at mp piv'
    have ha0 : atD (tabR f a b i (m + 1)) 0 = some (.list ((rowR f a b i (m + 1) 0).map enc)) := at_ok (m := 0) (hrow 0 (by omega))
    have hz := hr0 0
    rw [show i + 0 = i from rfl, piv2] at hz
    have hlt : lim ((List.range m).map fun i' => PyData.list ((rowR f a b i (m + 1) (i' + 1)).map enc)) = some ((List.range m).map fun i' => PyData.list ((rowR f a b i (m + 1) (i' + 1)).map enc)) := lim_ok (by simp; omega)
    have hct : cutD (tabR f a b i (m + 1)) (some (0 + 1)) none = (List.range m).map fun i' => PyData.list ((rowR f a b i (m + 1) (i' + 1)).map enc) := by rw [tabR_cons, cut_tail]
    rw [fsF_eq]
    dsimp? [-lcF_eq, -fsF_eq, tabR_len, rng_ok (show m + 1 < 2 ^ 60 by omega), hsp1, hll, hne, ha0, hz, ti md mp, show (0 : Int).fmod 2 = 0 from rfl, cut_none, hct, hlt]
    refine Yl.lst (fun q ρ S'' => S'' = S' ∧ ∃ z7 z8 z9 z10 z11, ρ = [.val (.list (tabR f a b 0 w)), .val (.list (tabR f a b i (m + 1))), .val (enc (detP f b (i + 1))), .val (.int (i : Nat)), .val (.list (.int 0 :: rest.map .int)), .val (.list ((rowR f a b i (m + 1) 0).map enc)), .own ((List.range q).map fun i' => PyData.list ((rowR f a b (i + 1) m i').map enc)), z7, z8, z9, z10, z11]) ⟨rfl, _, _, _, _, _, rfl⟩ ?_ ?_
    · rintro q ρ S'' hq ⟨rfl, z7, z8, z9, z10, z11, rfl⟩
      rw [List.length_range] at hq
      simp only [List.getElem_range]
      have hi12 : i + (q + 1) < 12 := by omega
      obtain ⟨s1, s2, _⟩ := E_sm ok (i := i + (q + 1)) (j := i) (s := i) (by omega) (by omega) (by omega)
      have by1 : callN P W0 k (ι i__law_over) [enc (f * E a b i (i + (q + 1)) i), enc (f * Dn b i)] S'' = some (enc (L a b (i + (q + 1)) i), S'') := by
        rw [ov s1 mp piv', ← piv2, E_by ok hi]
      have e1 : ∀ z9 z10 z11, loopC (lcF (callN P W0 k) (.acons (.nm 10) (.acons (.nm 11) .anil)) .anil (.call (ι i__law_less) (.acons (.var 10) (.acons (.call (ι i__law_times) (.acons (.var 8) (.acons (.var 11) .anil))) .anil))) [.val (.list (tabR f a b 0 w)), .val (.list (tabR f a b i (m + 1))), .val (enc (detP f b (i + 1))), .val (.int (i : Nat)), .val (.list (.int 0 :: rest.map .int)), .val (.list ((rowR f a b i (m + 1) 0).map enc)), .own ((List.range q).map fun i' => PyData.list ((rowR f a b (i + 1) m i').map enc)), .val (.list ((rowR f a b i (m + 1) (q + 1)).map enc)), .val (enc (L a b (i + (q + 1)) i)), z9, z10, z11]) (((List.range m).map fun j => (j)).map fun j => .tuple [enc (f * E a b i (i + (q + 1)) (i + (j + 1))), enc (f * E a b i i (i + (j + 1)))]) S'' = some ((rowR f a b (i + 1) m q).map enc, S'') := by
        intro z9 z10 z11
        rw [List.map_id', loopC_enc (g := fun j => enc (f * E a b i (i + (q + 1)) (i + (j + 1)) - L a b (i + (q + 1)) i * (f * E a b i i (i + (j + 1))))) fun j hj => by
          have hj := List.mem_range.mp hj
          have u1 := (E_sm ok (i := i + (q + 1)) (j := i + (j + 1)) (s := i) (by omega) (by omega) (by omega)).1
          have u2 := E_sm ok (i := i) (j := i + (j + 1)) (s := i) (by omega) (by omega) (by omega)
          have u3 : sm (L a b (i + (q + 1)) i * (f * E a b i i (i + (j + 1)))) := (Sz.mul (k := 24) (N := 1) ((L_sz ok.ha ok.hb).mono (by omega)) (ok.hf.mul (E_sz ok (s := i) (by omega) (by omega) (by omega)))).sm (by omega) (by omega)
          dsimp? [ti s2 u2.1, mi u1 u3]]
        unfold rowR
        rw [List.map_map]
        have hf : ∀ j, enc (f * E a b i (i + (q + 1)) (i + (j + 1)) - L a b (i + (q + 1)) i * (f * E a b i i (i + (j + 1)))) = enc (f * E a b (i + 1) (i + 1 + q) (i + 1 + j)) := fun j => by
          rw [E_step, show i + (q + 1) = i + 1 + q by omega, show i + (j + 1) = i + 1 + j by omega]
        rw [List.map_congr_left fun j _ => hf j]
        rfl
      have hzip : zipD (cutD ((rowR f a b i (m + 1) (q + 1)).map enc) (some 1) none) (cutD ((rowR f a b i (m + 1) 0).map enc) (some 1) none) = ((List.range m).map fun j => (j)).map fun j => .tuple [enc (f * E a b i (i + (q + 1)) (i + (j + 1))), enc (f * E a b i i (i + (j + 1)))] := by
        rw [rowR_cons, rowR_cons, List.map_cons, List.map_cons, cut_tail1, cut_tail1, zip_enc, List.zip_map', List.map_map, List.map_id']
        rfl
      have hlr : lim ((rowR f a b (i + 1) m q).map enc) = some ((rowR f a b (i + 1) m q).map enc) := lim_map (by simp [rowR]; omega)
      have g : ((List.range q).map fun i' => PyData.list ((rowR f a b (i + 1) m i').map enc)).length < LIM := LIM_ok (by simp; omega)
      rw [fsF_eq]
      dsimp? [-lcF_eq, -fsF_eq, hr0 (q + 1), hz, by1, hzip, e1, hlr, appF_o6 g]
      refine Yl.stay ?_
      exact ⟨rfl, _, _, _, _, _, by rw [List.range_succ, List.map_append]; rfl⟩
    · rintro ρ S'' ⟨rfl, z7, z8, z9, z10, z11, rfl⟩
      rw [List.length_range]
      dsimp? []
      refine Yl.stay ?_
      exact ⟨rfl, _, _, _, _, _, _, _, _, _, by rw [show w - (i + 1) = m by omega]; rfl⟩
  · rintro ρ S' ⟨rfl, z3, z4, z5, z6, z7, z8, z9, z10, z11, rfl⟩
    dsimp? []
    exact Yl.ret
end PyM

set_option linter.all false
set_option maxRecDepth 100000
set_option exponentiation.threshold 20000
/-! PyN, part 18: peeled rows, long steps. -/
namespace PyM
local macro_rules | `(tactic| dsimp? [$ls,*]) => `(tactic| simp only [bnd_ok, bnd_no, get0, getS, getB0, getBo, getBS, ev_cst, ev_var, ev_bor, ev_bop, ev_neg, ev_notv, ev_band, ev_borr, ev_cmp, ev_chn, ev_ite, ev_call, ev_b1, ev_b2, ev_min3, ev_tup, ev_lst, ev_mkl, ev_ix, ev_sl, ev_rev, ev_lr, ev_lc, evA_nil, evA_cons, evO_nop, evO_cons, evT_band, evT_borr, evT_notv, evT_cmp, evT_chn, evT_call, evT_b1, evT_var, evQ_nil, evQ_cons, evI_S, evI_R1, evI_R2, evI_R3, evI_Z, evI_E, ex_skip, ex_seq, ex_asg, ex_asgO, ex_par, ex_seti, ex_swp, ex_app, ex_ext, ex_ifs, ex_forS, ex_ret, ex_expr, ex_frz, sg0, sgS, ss0, ssS, setTg_nm, setTg_tup, setTgs_nil, setTgs_cons, tgN_nm, tgN_cons, tgN_nil, wipe_nil, wipe_cons, par_nil, par_f, par_t, isB_cst, isB_var, isB_bop, isB_neg, isB_notv, isB_band, isB_borr, isB_cmp, isB_chn, isB_ite, isB_call, isB_b1, isB_b2, isB_min3, isB_tup, isB_lst, isB_ix, isB_sl, isB_rev, isB_lr, isB_lc, isB_tl, isB_mkl, op_add, op_addL, op_addT, op_sub, op_mul, op_mulL, op_mulT, op_fdiv, op_mod, c_lt, c_le, c_gt, c_ge, c_eqi, c_nei, ixF_L, ixF_T, ixF_loc, setiF_c0, setiF_c1, frzF_o0, frzF_v0, frzF_o1, frzF_v1, frzF_o2, frzF_v2, frzF_o3, frzF_v3, frzF_o4, frzF_v4, frzF_o5, frzF_v5, frzF_o6, frzF_v6, frzF_o7, frzF_v7, frzF_o8, frzF_v8, frzF_o9, frzF_v9, frzF_o10, frzF_v10,  sl_L, sl_T, rev_L, rev_T, seq_L, seq_T, o2_gcd, o2_max, o2_min, o1_lenL, o1_lenT, o1_abs, o1_int, o1_listL, o1_listT, o1_listS, o1_tupL, o1_tupT, o1_isTupT, o1_isTupL, o1_isTupI, o1_isIntI, o1_isIntT, o1_isIntL, o1_isBoolI, o1_isBoolT, o1_isBoolL, lim_n0, lim_n1, lim_n2, lim_n3, lim_n4, lim_n5, lim_n6, lim_n7, lim_n8, at0, at1, lcF_eq, fsF_eq, fin_ret, fin_next, Option.map_some, Option.map_none, List.map_cons, List.map_nil, List.length_cons, List.length_nil, List.replicate, List.cons_append, List.nil_append, List.append_nil, Nat.reduceAdd, Nat.reduceSub, Nat.reduceLT, Nat.reduceLeDiff, Bool.or_false, Bool.or_true, Bool.and_true, Bool.true_and, Bool.false_and, Bool.and_false, Bool.false_or, Bool.true_or, Bool.false_eq_true, Bool.not_true, Bool.not_false, if_true, if_false, reduceIte, decide_true, decide_false, Int.reduceEq, Int.reduceNe, Int.reduceLT, Int.reduceLE, Int.reduceNeg, ne_eq, not_false_eq_true, not_true_eq_false, $ls,*])
open PySem PyD B Mo
variable {P : List Def} {ι : Nat → Nat} {n : Nat} {S : Store}
theorem lsum_range {m : Nat} {g : Nat → Rat} : lsum ((List.range m).map g) = Sg m g := by
  rw [lsum_eq, List.length_map, List.length_range]
  exact Sg_congr fun i hi => by rw [map_at, if_pos hi]
theorem range_snoc {α : Type} {g : Nat → α} {q : Nat} : (List.range q).map g ++ [g q] = (List.range (q + 1)).map g := by
  rw [List.range_succ, List.map_append]; rfl
theorem cl_by_first (H : Has P ι dep_by_first) (hn : 4 ≤ n) {F g : Nat → Rat} {m : Nat} (hm1 : 1 ≤ m) (hm : m ≤ 24) {d : PyD.D} (hd : d = .list (((List.range m).map F).map enc) ∨ d = .tuple (((List.range m).map F).map enc)) (F0 : F 0 ≠ 0) (g0 : g 0 = 1)
    (rel : ∀ t, t + 1 < m → (Sg (t + 1) fun s => F (s + 1) * g (t - s)) = -(F 0 * g (t + 1))) {k l : Nat} (hF : ∀ i, i < m → Sz k 1 (F i)) (hg : ∀ i, i < m → Sz l 1 (g i)) (hkl : k + l ≤ 140) : callN P W0 n (ι i_by_first) [d] S = some (.list (((List.range m).map g).map enc), S) := by
  obtain ⟨c, rfl⟩ : ∃ c, n = c + 1 := ⟨n - 1, by omega⟩
  rw [H.go (d := d_by_first) rfl rfl rfl]
  have h1 : op1 .len d = some (.int (m : Nat)) := by
    rcases hd with h | h <;> subst h
    · rw [o1_lenL]; simp
    · rw [o1_lenT]; simp
  have h2 : ∀ i, i < m → ∀ S, ixF d (.int (i : Nat)) S = some (enc (F i), S) := by
    intro i hi S
    rcases hd with h | h <;> subst h
    · rw [ixF_L, at_map hi]; rfl
    · rw [ixF_T, at_map hi]; rfl
  have h3 : ∀ S, ixF d (.int 0) S = some (enc (F 0), S) := h2 0 (by omega)
  apply Yl.fin
  dsimp? [d_by_first, -fsF_eq, h1, rng_ok (show m < 2 ^ 60 by omega), show rngOk 1 = true from rfl, enc1s]
  rw [show rngD 1 (m : Nat) = rngD ((1 : Nat) : Int) (m : Nat) from rfl]
  refine Yl.rng2 (fun q ρ S' => S' = S ∧ ∃ z2 z3 z4, ρ = [.val d, .own (((List.range q).map g).map enc), z2, z3, z4]) hm1 ⟨rfl, .no, .no, .no, by rw [show List.range 1 = [0] from rfl, List.map_singleton, List.map_singleton, g0]⟩ ?_ ?_
  · rintro q ρ S' hq1 hq2 ⟨rfl, z2, z3, z4, rfl⟩
    obtain ⟨t, rfl⟩ : ∃ t, q = t + 1 := ⟨q - 1, by omega⟩
    have e1 : ∀ z3 z4, loopC (lcF (callN P W0 c) (.nm 4) .anil (.call (ι i_times) (.acons (.ix (.var 0) (.var 4)) (.acons (.ix (.bor 1) (.bop .sub (.var 2) (.var 4))) .anil))) [.val d, .own (((List.range (t + 1)).map g).map enc), .val (.int ((t + 1 : Nat) : Int)), z3, z4]) (rngD ((1 : Nat) : Int) ((t + 1 + 1 : Nat) : Int)) S' = some (((List.range (t + 1)).map fun s => F (s + 1) * g (t - s)).map enc, S') := by
      intro z3 z4
      rw [rng2_eq (by omega), show t + 1 + 1 - 1 = t + 1 by omega, loopC_enc (g := fun s => enc (F (s + 1) * g (t - s))) fun s hs => by
        have hs := List.mem_range.mp hs
        have n1 : ((t + 1 : Nat) : Int) - ((s + 1 : Nat) : Int) = ((t - s : Nat) : Int) := by omega
        have u := cl_times (H.sub (l' := dep_times) rfl) (n := c) (by omega) ((hF (s + 1) (by omega)).sm (by omega) (by omega)) ((hg (t - s) (by omega)).sm (by omega) (by omega)) (S := S')
        dsimp? [h2 (s + 1) (by omega), n1, at_map (g := g) (show t - s < t + 1 by omega), show 1 + s = s + 1 by omega, u]]
      rw [List.map_map]
      rfl
    have e2 : lim (((List.range (t + 1)).map fun s => F (s + 1) * g (t - s)).map enc) = some (((List.range (t + 1)).map fun s => F (s + 1) * g (t - s)).map enc) := lim_map (by simp; omega)
    have e3 := cl_summed (H.sub (l' := dep_summed) rfl) (n := c) (by omega) (xs := (List.range (t + 1)).map fun s => F (s + 1) * g (t - s)) (k := k + l) (fun x hx => by
      obtain ⟨s, hs, rfl⟩ := List.mem_map.mp hx
      have hs := List.mem_range.mp hs
      exact (hF _ (by omega)).mul1 (hg _ (by omega))) (by simp; omega) (by omega) (S := S')
    rw [lsum_range, rel t hq2] at e3
    have e4 := cl_over (H.sub (l' := dep_over) rfl) (n := c) (by omega) (((hF 0 (by omega)).mul1 (hg (t + 1) hq2)).neg.sm (by omega) (by omega)) ((hF 0 (by omega)).sm (by omega) (by omega)) F0 (S := S')
    rw [show -(F 0 * g (t + 1)) / F 0 = -g (t + 1) by
      rw [show -(F 0 * g (t + 1)) = -g (t + 1) * F 0 by grind]
      exact Rat.mul_div_cancel F0] at e4
    have e5 := cl_opposite (H.sub (l' := dep_opposite) rfl) (n := c) (by omega) (a := -g (t + 1)) (S := S')
    rw [Rat.neg_neg] at e5
    have gl : (((List.range (t + 1)).map g).map enc).length < LIM := LIM_ok (by simp; omega)
    rw [show ((1 : Nat) : Int) = 1 from rfl] at e1
    rw [fsF_eq]
    dsimp? [-lcF_eq, show rngOk 1 = true from rfl, show ((t + 1 : Nat) : Int) + 1 = ((t + 1 + 1 : Nat) : Int) by omega, rng_ok (show t + 1 + 1 < 2 ^ 60 by omega), e1, e2, e3, h3, e4, e5, appF_o1 gl]
    refine Yl.stay ?_
    exact ⟨rfl, _, _, _, by rw [← range_snoc (q := t + 1), List.map_append]; rfl⟩
  · rintro ρ S' ⟨rfl, z2, z3, z4, rfl⟩
    dsimp? []
    exact Yl.ret
/-- the row from a level on -/
def cL (f : Rat) (b : Nat → Rat) : Nat → Rat
  | 0 => f
  | l + 1 => b l
def innerRow (f : Rat) (a b : Nat → Rat) (l m : Nat) : List Rat := (List.range m).map fun t => cL f b l * L (sf a l) (sf b l) t 0
theorem inner_zero {f : Rat} {as bs : List Rat} {m : Nat} : innerRow f (fa as) (fa bs) 0 m = momL f as bs m := by
  unfold innerRow momL cL
  rw [sf_zero, sf_zero]
/-- sizes of one level -/
structure LvOk (f : Rat) (a b : Nat → Rat) (l : Nat) : Prop where
  hf : Sz 1 1 f
  ha : ∀ k, Sz 1 1 (a k)
  hb : ∀ k, Sz 1 1 (b k)
  c0 : cL f b l ≠ 0
theorem LvOk.csz {f : Rat} {a b : Nat → Rat} {l : Nat} (ok : LvOk f a b l) : Sz 1 1 (cL f b l) := by
  cases l with
  | zero => exact ok.hf
  | succ l => exact ok.hb l
theorem LvOk.Fsz {f : Rat} {a b : Nat → Rat} {l : Nat} (ok : LvOk f a b l) {t : Nat} (ht : t < 24) : Sz 50 1 (cL f b l * L (sf a l) (sf b l) t 0) := (ok.csz.mul1 (L_sz (fun k => ok.ha _) fun k => ok.hb _)).mono (by omega)
theorem LvOk.gsz {f : Rat} {a b : Nat → Rat} {l : Nat} (ok : LvOk f a b l) {t : Nat} (ht : t < 24) : Sz 50 1 (gser (sf a l) (sf b l) t) := by
  match t with
  | 0 => exact Sz.one.mono (by omega)
  | 1 => exact (ok.ha _).neg.mono (by omega)
  | t + 2 =>
    rw [gser, sf_sf, sf_sf]
    exact ((ok.hb _).mul1 (L_sz (fun k => ok.ha _) fun k => ok.hb _)).neg.mono (by omega)
/-- the series of a level -/
def serRow (a b : Nat → Rat) (l m : Nat) : List Rat := (List.range m).map (gser (sf a l) (sf b l))
theorem cl_by_first_lv (H : Has P ι dep_by_first) (hn : 4 ≤ n) {f : Rat} {a b : Nat → Rat} {l m : Nat} (ok : LvOk f a b l) (hm1 : 1 ≤ m) (hm : m ≤ 24) {d : PyD.D} (hd : d = .list ((innerRow f a b l m).map enc) ∨ d = .tuple ((innerRow f a b l m).map enc)) : callN P W0 n (ι i_by_first) [d] S = some (.list ((serRow a b l m).map enc), S) :=
  cl_by_first H hn (F := fun t => cL f b l * L (sf a l) (sf b l) t 0) (g := gser (sf a l) (sf b l)) hm1 hm hd (by
    show cL f b l * L (sf a l) (sf b l) 0 0 ≠ 0
    rw [show L (sf a l) (sf b l) 0 0 = 1 from rfl, Rat.mul_one]
    exact ok.c0) rfl (fun t ht => gser_rel _ _ _) (fun i hi => ok.Fsz (by omega)) (fun i hi => ok.gsz (by omega)) (by omega)
/-- behind the first two of the series: the next level's row -/
theorem ser_tail {f : Rat} {a b : Nat → Rat} {l m : Nat} : (serRow a b l (m + 2)).drop 2 = (innerRow f a b (l + 1) m).map (fun x => -x) := by
  unfold serRow innerRow
  refine List.ext_getElem (by simp) fun t h1 h2 => ?_
  simp only [List.getElem_drop, List.getElem_map, List.getElem_range]
  rw [show 2 + t = t + 2 by omega, gser, sf_sf, sf_sf]
  rfl
theorem opp_loop {C : CallF} {i v : Nat} {ρ : PyD.Env} {xs : List Rat} (hC : ∀ q, C i [enc q] S = some (enc (-q), S)) (hv : ∀ d, PyD.get ((ρ.set v .no).set v (.val d)) v = some d) : loopC (lcF C (.nm v) .anil (.call i (.acons (.var v) .anil)) ρ) (xs.map enc) S = some ((xs.map fun x => -x).map enc, S) := by
  rw [loopC_enc (g := fun q => enc (-q)) fun x hx => by dsimp? [hv, hC], List.map_map]
  rfl
theorem neg_neg_map {xs : List Rat} : (xs.map fun x => -x).map (fun x => -x) = xs := by
  rw [List.map_map]
  conv => rhs; rw [← List.map_id xs]
  exact List.map_congr_left fun x _ => by simp
theorem cut2 {xs : List Rat} {m : Nat} (h : xs.length = m + 2) : cutD (xs.map enc) (some 2) none = (xs.drop 2).map enc := dropT (m := 2) (by omega)
theorem cl_peeled_in (H : Has P ι dep_peeled_in) (hn : 5 ≤ n) {f : Rat} {a b : Nat → Rat} {l m : Nat} (ok : LvOk f a b l) (hm : m + 2 ≤ 24) : callN P W0 n (ι i_peeled_in) [encL (innerRow f a b l (m + 2))] S = some (.tuple [enc (cL f b l), enc (a l), encL (innerRow f a b (l + 1) m)], S) := by
  obtain ⟨c, rfl⟩ : ∃ c, n = c + 1 := ⟨n - 1, by omega⟩
  rw [H.go (d := d_peeled_in) rfl rfl rfl]
  have e1 := cl_by_first_lv (H.sub (l' := dep_by_first) rfl) (n := c) (by omega) ok (m := m + 2) (by omega) hm (.inr rfl) (S := S)
  have a0 : atD ((innerRow f a b l (m + 2)).map enc) 0 = some (enc (cL f b l)) := by
    have : atD ((innerRow f a b l (m + 2)).map enc) ((0 : Nat) : Int) = some (enc (cL f b l * L (sf a l) (sf b l) 0 0)) := at_map (by omega)
    rw [show L (sf a l) (sf b l) 0 0 = 1 from rfl, Rat.mul_one] at this
    exact this
  have a1 : atD ((serRow a b l (m + 2)).map enc) 1 = some (enc (-a l)) := by
    have : atD ((serRow a b l (m + 2)).map enc) ((1 : Nat) : Int) = some (enc (gser (sf a l) (sf b l) 1)) := at_map (by omega)
    exact this
  have e2 := cl_opposite (H.sub (l' := dep_opposite) rfl) (n := c) (by omega) (a := -a l) (S := S)
  rw [Rat.neg_neg] at e2
  have e3 := opp_loop (S := S) (C := callN P W0 c) (i := ι i_opposite) (v := 2) (ρ := [.val (encL (innerRow f a b l (m + 2))), .val (.list ((serRow a b l (m + 2)).map enc)), .no]) (xs := (serRow a b l (m + 2)).drop 2) (fun q => cl_opposite (H.sub (l' := dep_opposite) rfl) (by omega)) (fun d => rfl)
  rw [ser_tail (f := f), neg_neg_map] at e3
  have e4 : lim ((innerRow f a b (l + 1) m).map enc) = some ((innerRow f a b (l + 1) m).map enc) := lim_map (by simp [innerRow]; omega)
  have e5 : cutD ((serRow a b l (m + 2)).map enc) (some 2) none = ((innerRow f a b (l + 1) m).map (fun x => -x)).map enc := by rw [cut2 (m := m) (by simp [serRow]), ser_tail (f := f)]
  unfold encL at e3 ⊢
  dsimp? [d_peeled_in, -lcF_eq, e1, a0, a1, e2, e5, e3, e4]
theorem StOk.lv {s : Nat} {f : Rat} {as bs : List Rat} (ok : StOk s f as bs) (hs1 : s ≤ 1) {l : Nat} (hl : l < as.length) : LvOk f (fa as) (fa bs) l where
  hf := ok.hf.mono hs1
  ha := fun k => (sz_fa ok.ha).mono hs1
  hb := fun k => (sz_fa ok.hb).mono hs1
  c0 := by
    cases l with
    | zero => exact ok.f0
    | succ l =>
      have := ok.hl
      show fa bs l ≠ 0
      unfold fa
      rw [List.getD_eq_getElem?_getD, List.getElem?_eq_getElem (by omega)]
      exact ok.b0 _ (List.getElem_mem _)
theorem take_snoc {xs : List Rat} {i : Nat} (h : i < xs.length) : (xs.take i).map enc ++ [enc (fa xs i)] = (xs.take (i + 1)).map enc := by
  rw [List.take_add_one, List.map_append, getq h]; rfl
theorem cl_steps_by_peeling (H : Has P ι dep_steps_by_peeling) (hn : 6 ≤ n) {s : Nat} {f : Rat} {as bs : List Rat} (ok : StOk s f as bs) (hs1 : s ≤ 1) : callN P W0 n (ι i_steps_by_peeling) [encL (momL f as bs (2 * as.length))] S = some (.tuple [enc f, encS as bs], S) := by
  obtain ⟨c, rfl⟩ : ∃ c, n = c + 1 := ⟨n - 1, by omega⟩
  rw [H.go (d := d_steps_by_peeling) rfl rfl rfl]
  have h1 := ok.h1; have h12 := ok.h12; have hl := ok.hl
  have e1 := cl_need_row (H.sub (l' := dep_need_row) rfl) (n := c) (S := S) (by omega) (xs := momL f as bs (2 * as.length)) (by rw [momL_len]; omega) (by rw [momL_len]; omega)
  have e2 := cl_need_full (H.sub (l' := dep_need_full) rfl) (n := c) (S := S) (by omega) ok hs1 (M := 2 * as.length) (lv := as.length) (by omega) (by omega) (by omega)
  apply Yl.fin
  unfold encL at e1 e2 ⊢
  dsimp? [d_steps_by_peeling, -fsF_eq, e1, List.length_map, momL_len, even_mod, div2, even_div, e2, rng_ok (show as.length < 2 ^ 60 by omega)]
  refine Yl.rng (fun i ρ S' => S' = S ∧ ∃ z4 z5 z6 z7, ρ = [.val (.tuple ((momL f as bs (2 * as.length)).map enc)), .own ((as.take i).map enc), .own ((bs.take i).map enc), .val (encL (innerRow f (fa as) (fa bs) i (2 * (as.length - i)))), z4, z5, z6, z7]) ⟨rfl, .no, .no, .no, .no, by rw [inner_zero]; rfl⟩ ?_ ?_
  · rintro i ρ S' hi ⟨rfl, z4, z5, z6, z7, rfl⟩
    obtain ⟨m, hm⟩ : ∃ m, as.length - i = m + 1 := ⟨as.length - i - 1, by omega⟩
    have e3 := cl_peeled_in (H.sub (l' := dep_peeled_in) rfl) (n := c) (S := S') (by omega) (ok.lv hs1 hi) (m := 2 * m) (by omega)
    have ga : ((as.take i).map enc).length < LIM := LIM_ok (by simp; omega)
    have gb : ((bs.take i).map enc).length < LIM := LIM_ok (by simp; omega)
    rw [hm, show 2 * (m + 1) = 2 * m + 2 by omega]
    rw [fsF_eq]
    have hne := ne_nilT (k := 1) (xs := (innerRow f (fa as) (fa bs) (i + 1) (2 * m)).map enc) (fun d hd => by obtain ⟨q, _, rfl⟩ := List.mem_map.mp hd; exact pl_enc) (by omega)
    have hm2 : 2 * (as.length - (i + 1)) = 2 * m := by omega
    rw [hm2]
    unfold encL at e3 ⊢
    cases m with
    | zero =>
      have hz : ((innerRow f (fa as) (fa bs) (i + 1) (2 * 0)).map enc).isEmpty = true := rfl
      rw [hz] at hne
      dsimp? [e3, appF_o1 ga, hne]
      refine Yl.stay ?_
      exact ⟨rfl, _, _, _, _, by rw [← take_snoc hi, List.take_of_length_le (show bs.length ≤ i by omega), List.take_of_length_le (show bs.length ≤ i + 1 by omega)]⟩
    | succ m =>
      have hz : ((innerRow f (fa as) (fa bs) (i + 1) (2 * (m + 1))).map enc).isEmpty = false := by
        rw [show 2 * (m + 1) = (2 * m + 1) + 1 by omega]
        unfold innerRow
        rw [List.range_succ_eq_map]; rfl
      rw [hz] at hne
      have a0 : atD ((innerRow f (fa as) (fa bs) (i + 1) (2 * (m + 1))).map enc) 0 = some (enc (fa bs i)) := by
        have : atD ((innerRow f (fa as) (fa bs) (i + 1) (2 * (m + 1))).map enc) ((0 : Nat) : Int) = some (enc (fa bs i * L (sf (fa as) (i + 1)) (sf (fa bs) (i + 1)) 0 0)) := at_map (by omega)
        rw [show L (sf (fa as) (i + 1)) (sf (fa bs) (i + 1)) 0 0 = 1 from rfl, Rat.mul_one] at this
        exact this
      dsimp? [e3, appF_o1 ga, hne, a0, appF_o2 gb]
      refine Yl.stay ?_
      exact ⟨rfl, _, _, _, _, by rw [← take_snoc hi, ← take_snoc (show i < bs.length by omega)]⟩
  · rintro ρ S' ⟨rfl, z4, z5, z6, z7, rfl⟩
    have a0 : atD ((momL f as bs (2 * as.length)).map enc) 0 = some (enc f) := by
      have : atD ((momL f as bs (2 * as.length)).map enc) ((0 : Nat) : Int) = some (enc (f * L (fa as) (fa bs) 0 0)) := at_momL (by omega)
      rw [show L (fa as) (fa bs) 0 0 = 1 from rfl, Rat.mul_one] at this
      exact this
    rw [List.take_length, List.take_of_length_le (by omega)]
    dsimp? [a0]
    exact Yl.ret
end PyM

set_option linter.all false
set_option maxRecDepth 100000
set_option exponentiation.threshold 20000
/-! PyN, part 19: long steps. -/
namespace PyM
local macro_rules | `(tactic| dsimp? [$ls,*]) => `(tactic| simp only [bnd_ok, bnd_no, get0, getS, getB0, getBo, getBS, ev_cst, ev_var, ev_bor, ev_bop, ev_neg, ev_notv, ev_band, ev_borr, ev_cmp, ev_chn, ev_ite, ev_call, ev_b1, ev_b2, ev_min3, ev_tup, ev_lst, ev_mkl, ev_ix, ev_sl, ev_rev, ev_lr, ev_lc, evA_nil, evA_cons, evO_nop, evO_cons, evT_band, evT_borr, evT_notv, evT_cmp, evT_chn, evT_call, evT_b1, evT_var, evQ_nil, evQ_cons, evI_S, evI_R1, evI_R2, evI_R3, evI_Z, evI_E, ex_skip, ex_seq, ex_asg, ex_asgO, ex_par, ex_seti, ex_swp, ex_app, ex_ext, ex_ifs, ex_forS, ex_ret, ex_expr, ex_frz, sg0, sgS, ss0, ssS, setTg_nm, setTg_tup, setTgs_nil, setTgs_cons, tgN_nm, tgN_cons, tgN_nil, wipe_nil, wipe_cons, par_nil, par_f, par_t, isB_cst, isB_var, isB_bop, isB_neg, isB_notv, isB_band, isB_borr, isB_cmp, isB_chn, isB_ite, isB_call, isB_b1, isB_b2, isB_min3, isB_tup, isB_lst, isB_ix, isB_sl, isB_rev, isB_lr, isB_lc, isB_tl, isB_mkl, op_add, op_addL, op_addT, op_sub, op_mul, op_mulL, op_mulT, op_fdiv, op_mod, c_lt, c_le, c_gt, c_ge, c_eqi, c_nei, ixF_L, ixF_T, ixF_loc, setiF_c0, setiF_c1, frzF_o0, frzF_v0, frzF_o1, frzF_v1, frzF_o2, frzF_v2, frzF_o3, frzF_v3, frzF_o4, frzF_v4, frzF_o5, frzF_v5, frzF_o6, frzF_v6, frzF_o7, frzF_v7, frzF_o8, frzF_v8, frzF_o9, frzF_v9, frzF_o10, frzF_v10,  sl_L, sl_T, rev_L, rev_T, seq_L, seq_T, o2_gcd, o2_max, o2_min, o1_lenL, o1_lenT, o1_abs, o1_int, o1_listL, o1_listT, o1_listS, o1_tupL, o1_tupT, o1_isTupT, o1_isTupL, o1_isTupI, o1_isIntI, o1_isIntT, o1_isIntL, o1_isBoolI, o1_isBoolT, o1_isBoolL, lim_n0, lim_n1, lim_n2, lim_n3, lim_n4, lim_n5, lim_n6, lim_n7, lim_n8, at0, at1, lcF_eq, fsF_eq, fin_ret, fin_next, Option.map_some, Option.map_none, List.map_cons, List.map_nil, List.length_cons, List.length_nil, List.replicate, List.cons_append, List.nil_append, List.append_nil, Nat.reduceAdd, Nat.reduceSub, Nat.reduceLT, Nat.reduceLeDiff, Bool.or_false, Bool.or_true, Bool.and_true, Bool.true_and, Bool.false_and, Bool.and_false, Bool.false_or, Bool.true_or, Bool.false_eq_true, Bool.not_true, Bool.not_false, if_true, if_false, reduceIte, decide_true, decide_false, Int.reduceEq, Int.reduceNe, Int.reduceLT, Int.reduceLE, Int.reduceNeg, ne_eq, not_false_eq_true, not_true_eq_false, $ls,*])
open PySem PyD B Mo
variable {P : List Def} {ι : Nat → Nat} {n : Nat} {S : Store}
/-- a while loop, by an invariant -/
theorem Yl.whl {c : PyD.Env → Store → Option (Bool × Store)} {f : PyD.Env → Store → Option (Res × Store)} {β : Type} {K : Res → Store → Option (β × Store)} {Q : β → Store → Prop} (Inv : Nat → PyD.Env → Store → Prop) (hc : ∀ i ρ S, Inv (i + 1) ρ S → c ρ S = some (true, S) ∧ Yl (f ρ S) fun r S' => ∃ ρ', r = .next ρ' ∧ Inv i ρ' S') (h0 : ∀ ρ S, Inv 0 ρ S → c ρ S = some (false, S)) (hk : ∀ ρ S, Inv 0 ρ S → Yl (K (.next ρ) S) Q) : ∀ {N W : Nat} {ρ : PyD.Env} {S : Store}, Inv N ρ S → N < W → Yl (bnd (loopW c f W ρ S) K) Q
  | 0, 0, _, _, _, h => by omega
  | N + 1, 0, _, _, _, h => by omega
  | 0, W + 1, ρ, S, hI, _ => by
    rw [loopW, h0 ρ S hI]
    dsimp? []
    exact hk ρ S hI
  | N + 1, W + 1, ρ, S, hI, hW => by
    obtain ⟨e, r, S1, e1, ρ1, rfl, h1⟩ := hc N ρ S hI
    rw [loopW, e]
    dsimp? [e1]
    exact Yl.whl Inv hc h0 hk h1 (by omega)
theorem cut_all {xs : List PyD.D} : cutD xs (some 0) none = xs := by
  unfold cutD HT.sIx
  simp
def partsD (a : Nat → Rat) (m : Nat) : List PyD.D := (List.range m).map fun l => encL [-a l, 1]
def wtsL (f : Rat) (b : Nat → Rat) (m : Nat) : List Rat := (List.range m).map (cL f b)
theorem partsD_all {as : List Rat} : partsD (fa as) as.length = as.map fun a => encL [-a, 1] := by
  unfold partsD
  refine List.ext_getElem (by simp) fun i h1 h2 => ?_
  simp only [List.getElem_map, List.getElem_range]
  rw [List.length_map] at h2
  unfold fa
  rw [List.getD_eq_getElem?_getD, List.getElem?_eq_getElem h2]; rfl
theorem wtsL_all {f : Rat} {bs : List Rat} {m : Nat} (h : bs.length + 1 = m) : wtsL f (fa bs) m = f :: bs := by
  unfold wtsL
  refine List.ext_getElem (by simp; omega) fun i h1 h2 => ?_
  simp only [List.getElem_map, List.getElem_range]
  cases i with
  | zero => rfl
  | succ i =>
    simp only [List.getElem_cons_succ, cL]
    simp only [List.length_cons] at h2
    unfold fa
    rw [List.getD_eq_getElem?_getD, List.getElem?_eq_getElem (by omega)]; rfl
theorem cl_longs_in (H : Has P ι dep_longs_in) (hn : 5 ≤ n) {s : Nat} {f : Rat} {as bs : List Rat} (ok : StOk s f as bs) (hs1 : s ≤ 1) : callN P W0 n (ι i_longs_in) [encL (momL f as bs (2 * as.length))] S = some (.tuple [.tuple [.tuple (as.map fun a => encL [-a, 1]), encL (f :: bs)], .none], S) := by
  obtain ⟨c, rfl⟩ : ∃ c, n = c + 1 := ⟨n - 1, by omega⟩
  rw [H.go (d := d_longs_in) rfl rfl rfl]
  have h1 := ok.h1; have h12 := ok.h12; have hl := ok.hl
  apply Yl.fin
  unfold encL
  dsimp? [d_longs_in, -lcF_eq, -fsF_eq, ex_whl]
  refine Yl.whl (fun r ρ S' => S' = S ∧ r ≤ as.length ∧ ∃ z4 z5 z6 z7 z8, ρ = [.val (.tuple ((momL f as bs (2 * as.length)).map enc)), .own (partsD (fa as) (as.length - r)), .own ((wtsL f (fa bs) (as.length - r)).map enc), .val (.list ((innerRow f (fa as) (fa bs) (as.length - r) (2 * r)).map enc)), z4, z5, z6, z7, z8]) ?_ ?_ ?_ (N := as.length) ⟨rfl, Nat.le_refl _, .no, .no, .no, .no, .no, by rw [Nat.sub_self, inner_zero]; rfl⟩ (by show _ < 4000; omega)
  · rintro r ρ S' ⟨rfl, hr, z4, z5, z6, z7, z8, rfl⟩
    generalize hl' : as.length - (r + 1) = l
    have hll : l < as.length := by omega
    have lv := ok.lv hs1 hll
    have hlen : (innerRow f (fa as) (fa bs) l (2 * (r + 1))).length = 2 * (r + 1) := by simp [innerRow]
    have hcons : innerRow f (fa as) (fa bs) l (2 * (r + 1)) = cL f (fa bs) l :: (List.range (2 * r + 1)).map fun t => cL f (fa bs) l * L (sf (fa as) l) (sf (fa bs) l) (t + 1) 0 := by
      unfold innerRow
      rw [show 2 * (r + 1) = (2 * r + 1) + 1 by omega, List.range_succ_eq_map, List.map_cons, List.map_map, show L (sf (fa as) l) (sf (fa bs) l) 0 0 = 1 from rfl, Rat.mul_one]
      rfl
    have hne := ne_nilL (k := 1) (xs := (innerRow f (fa as) (fa bs) l (2 * (r + 1))).map enc) (fun d hd => by obtain ⟨q, _, rfl⟩ := List.mem_map.mp hd; exact pl_enc) (by omega)
    have hz : ((innerRow f (fa as) (fa bs) l (2 * (r + 1))).map enc).isEmpty = false := by rw [hcons]; rfl
    rw [hz] at hne
    refine ⟨by dsimp? [hne], ?_⟩
    -- the spots
    obtain ⟨rest, hsp⟩ : ∃ rest : List Int, ∀ z4 z5 z6 z7 z8, loopC (lcF (callN P W0 c) (.nm 7) (.acons (.cmp .ne (.ix (.ix (.var 3) (.var 7)) (.cst (.int 0))) (.cst (.int 0))) .anil) (.var 7) [.val (.tuple ((momL f as bs (2 * as.length)).map enc)), .own (partsD (fa as) l), .own ((wtsL f (fa bs) l).map enc), .val (.list ((innerRow f (fa as) (fa bs) l (2 * (r + 1))).map enc)), z4, z5, z6, z7, z8]) (rngD 0 ((2 * (r + 1) : Nat) : Int)) S' = some (((0 : Int) :: rest).map .int, S') ∧ rest.length ≤ 24 := by
      refine ⟨(((List.range (2 * r + 1)).map (· + 1)).filter fun j => decide ((innerRow f (fa as) (fa bs) l (2 * (r + 1))).getD j 0 ≠ 0)).map fun j => ((j : Nat) : Int), fun z4 z5 z6 z7 z8 => ⟨?_, ?_⟩⟩
      · rw [rng_eq]
        rw [loopC_filter (p := fun j => decide ((innerRow f (fa as) (fa bs) l (2 * (r + 1))).getD j 0 ≠ 0)) (g := fun j => .int ((j : Nat) : Int)) fun j hj => by
          have hj := List.mem_range.mp hj
          by_cases c : (innerRow f (fa as) (fa bs) l (2 * (r + 1))).getD j 0 = 0
          · dsimp? [atE (getq (show j < (innerRow f (fa as) (fa bs) l (2 * (r + 1))).length by omega)), ix_num, num0, c]
          · dsimp? [atE (getq (show j < (innerRow f (fa as) (fa bs) l (2 * (r + 1))).length by omega)), ix_num, num0, c]]
        rw [show 2 * (r + 1) = (2 * r + 1) + 1 by omega, List.range_succ_eq_map, show List.map Nat.succ (List.range (2 * r + 1)) = (List.range (2 * r + 1)).map (· + 1) from rfl, filter_head (by
          rw [show 2 * r + 1 + 1 = 2 * (r + 1) by omega, hcons, List.getD_cons_zero]
          exact decide_eq_true lv.c0)]
        simp only [List.map_cons, List.map_map]
        rfl
      · rw [List.length_map]
        refine Nat.le_trans (List.length_filter_le _ _) ?_
        simp; omega
    have hll2 : lim (((0 : Int) :: rest).map PyData.int) = some (((0 : Int) :: rest).map PyData.int) := lim_ok (by
      have := (hsp .no .no .no .no .no).2
      simp; omega)
    have hne2 := eq_nilL (k := 0) (xs := ((0 : Int) :: rest).map PyData.int) (fun d hd => pl_ints hd) (by omega)
    have hsp1 := fun z4 z5 z6 z7 z8 => (hsp z4 z5 z6 z7 z8).1
    simp only [List.map_cons, List.isEmpty_cons] at hll2 hne2 hsp1
    have hgt : ¬ (((2 * (r + 1) : Nat) : Int) < 2 * 1) := by omega
    have e1 := cl_by_first_lv (H.sub (l' := dep_by_first) rfl) (n := c) (by omega) lv (m := 2 * (r + 1)) (by omega) (by omega) (.inl rfl) (S := S')
    have hser : serRow (fa as) (fa bs) l (2 * (r + 1)) = 1 :: -fa as l :: (serRow (fa as) (fa bs) l (2 * (r + 1))).drop 2 := by
      unfold serRow
      rw [show 2 * (r + 1) = 2 * r + 1 + 1 by omega, List.range_succ_eq_map, List.map_cons, List.range_succ_eq_map]
      rfl
    have hrev : cutD ((serRow (fa as) (fa bs) l (2 * (r + 1))).map enc) none (some 2) = [enc 1, enc (-fa as l)] := by
      rw [hser]
      rfl
    have e2 := cl_lean (H.sub (l' := dep_lean) rfl) (n := c) (by omega) (S := S') (d := .list [enc (-fa as l), enc 1]) (xs := [-fa as l, 1]) (.inl rfl) (by simp)
    rw [lean_id (.inr (by show (1 : Rat) ≠ 0; decide))] at e2
    have e3 := opp_loop (S := S') (C := callN P W0 c) (i := ι i_opposite) (v := 8) (xs := (serRow (fa as) (fa bs) l (2 * (r + 1))).drop 2) (fun q => cl_opposite (H.sub (l' := dep_opposite) rfl) (by omega)) (ρ := [.val (.tuple ((momL f as bs (2 * as.length)).map enc)), .own (partsD (fa as) l ++ [encL [-fa as l, 1]]), .own ((wtsL f (fa bs) l).map enc ++ [enc (cL f (fa bs) l)]), .val (.list ((innerRow f (fa as) (fa bs) l (2 * (r + 1))).map enc)), .val (.list (.int 0 :: rest.map .int)), .val (.int 1), .val (.list ((serRow (fa as) (fa bs) l (2 * (r + 1))).map enc)), z7, z8]) (fun d => rfl)
    have hdr : (serRow (fa as) (fa bs) l (2 * (r + 1))).drop 2 = (innerRow f (fa as) (fa bs) (l + 1) (2 * r)).map fun x => -x := by
      rw [show 2 * (r + 1) = 2 * r + 2 by omega]
      exact ser_tail
    have e4 : cutD ((serRow (fa as) (fa bs) l (2 * (r + 1))).map enc) (some 2) none = ((serRow (fa as) (fa bs) l (2 * (r + 1))).drop 2).map enc := cut2 (m := 2 * r) (by simp [serRow]; omega)
    have e5 : lim ((innerRow f (fa as) (fa bs) (l + 1) (2 * r)).map enc) = some ((innerRow f (fa as) (fa bs) (l + 1) (2 * r)).map enc) := lim_map (by simp [innerRow]; omega)
    rw [hdr, neg_neg_map] at e3
    rw [hdr] at e4
    have a0 : atD ((innerRow f (fa as) (fa bs) l (2 * (r + 1))).map enc) 0 = some (enc (cL f (fa bs) l)) := by rw [hcons, List.map_cons, at0]
    have gp : (partsD (fa as) l).length < LIM := LIM_ok (by simp [partsD]; omega)
    have gw : ((wtsL f (fa bs) l).map enc).length < LIM := LIM_ok (by simp [wtsL]; omega)
    have m1 : mulOk 2 1 = true := mulS (by decide)
    unfold encL at e2 e3
    simp only [List.map_cons, List.map_nil] at e2 e3
    dsimp? [-lcF_eq, -fsF_eq, List.length_map, hlen, rng_ok (show 2 * (r + 1) < 2 ^ 60 by omega), hsp1, hll2, hne2, show (0 : Int) + 1 = 1 from rfl, m1, hgt, cut_all, e1, show (1 : Int) + 1 = 2 from rfl, hrev, List.reverse_cons, List.reverse_nil, e2, appF_o1 gp, a0, appF_o2 gw, e4, e3, e5]
    refine Yl.stay ?_
    have hp : partsD (fa as) (l + 1) = partsD (fa as) l ++ [PyData.tuple [enc (-fa as l), enc 1]] := by
      unfold partsD
      rw [← range_snoc (q := l)]; rfl
    have hw : (wtsL f (fa bs) (l + 1)).map enc = (wtsL f (fa bs) l).map enc ++ [enc (cL f (fa bs) l)] := by
      unfold wtsL
      rw [← range_snoc (q := l), List.map_append]; rfl
    rw [show as.length - r = l + 1 by omega]
    exact ⟨rfl, by omega, _, _, _, _, _, by rw [hp, hw]⟩
  · rintro ρ S' ⟨rfl, _, z4, z5, z6, z7, z8, rfl⟩
    have : opC .ne (.list ((innerRow f (fa as) (fa bs) (as.length - 0) (2 * 0)).map enc)) (.list []) = some false := rfl
    dsimp? [this]
  · rintro ρ S' ⟨rfl, _, z4, z5, z6, z7, z8, rfl⟩
    rw [Nat.sub_zero, partsD_all, wtsL_all (by omega)]
    dsimp? []
    exact Yl.ret
theorem cl_long_steps_of (H : Has P ι dep_long_steps_of) (hn : 6 ≤ n) {s : Nat} {f : Rat} {as bs : List Rat} (ok : StOk s f as bs) (hs1 : s ≤ 1) : callN P W0 n (ι i_long_steps_of) [encL (momL f as bs (2 * as.length))] S = some (.tuple [.tuple (as.map fun a => encL [-a, 1]), encL (f :: bs)], S) := by
  obtain ⟨c, rfl⟩ : ∃ c, n = c + 1 := ⟨n - 1, by omega⟩
  rw [H.go (d := d_long_steps_of) rfl rfl rfl]
  have h1 := ok.h1; have h12 := ok.h12
  have e1 := cl_need_row (H.sub (l' := dep_need_row) rfl) (n := c) (S := S) (by omega) (xs := momL f as bs (2 * as.length)) (by rw [momL_len]; omega) (by rw [momL_len]; omega)
  have e2 := cl_longs_in (H.sub (l' := dep_longs_in) rfl) (n := c) (S := S) (by omega) ok hs1
  dsimp? [d_long_steps_of, e1, e2]
end PyM

set_option linter.all false
set_option maxRecDepth 100000
set_option exponentiation.threshold 20000
/-! PyN, part 20: quotients of steps. -/
namespace PyM
local macro_rules | `(tactic| dsimp? [$ls,*]) => `(tactic| simp only [bnd_ok, bnd_no, get0, getS, getB0, getBo, getBS, ev_cst, ev_var, ev_bor, ev_bop, ev_neg, ev_notv, ev_band, ev_borr, ev_cmp, ev_chn, ev_ite, ev_call, ev_b1, ev_b2, ev_min3, ev_tup, ev_lst, ev_mkl, ev_ix, ev_sl, ev_rev, ev_lr, ev_lc, evA_nil, evA_cons, evO_nop, evO_cons, evT_band, evT_borr, evT_notv, evT_cmp, evT_chn, evT_call, evT_b1, evT_var, evQ_nil, evQ_cons, evI_S, evI_R1, evI_R2, evI_R3, evI_Z, evI_E, ex_skip, ex_seq, ex_asg, ex_asgO, ex_par, ex_seti, ex_swp, ex_app, ex_ext, ex_ifs, ex_forS, ex_ret, ex_expr, ex_frz, sg0, sgS, ss0, ssS, setTg_nm, setTg_tup, setTgs_nil, setTgs_cons, tgN_nm, tgN_cons, tgN_nil, wipe_nil, wipe_cons, par_nil, par_f, par_t, isB_cst, isB_var, isB_bop, isB_neg, isB_notv, isB_band, isB_borr, isB_cmp, isB_chn, isB_ite, isB_call, isB_b1, isB_b2, isB_min3, isB_tup, isB_lst, isB_ix, isB_sl, isB_rev, isB_lr, isB_lc, isB_tl, isB_mkl, op_add, op_addL, op_addT, op_sub, op_mul, op_mulL, op_mulT, op_fdiv, op_mod, c_lt, c_le, c_gt, c_ge, c_eqi, c_nei, ixF_L, ixF_T, ixF_loc, setiF_c0, setiF_c1, frzF_o0, frzF_v0, frzF_o1, frzF_v1, frzF_o2, frzF_v2, frzF_o3, frzF_v3, frzF_o4, frzF_v4, frzF_o5, frzF_v5, frzF_o6, frzF_v6, frzF_o7, frzF_v7, frzF_o8, frzF_v8, frzF_o9, frzF_v9, frzF_o10, frzF_v10,  sl_L, sl_T, rev_L, rev_T, seq_L, seq_T, o2_gcd, o2_max, o2_min, o1_lenL, o1_lenT, o1_abs, o1_int, o1_listL, o1_listT, o1_listS, o1_tupL, o1_tupT, o1_isTupT, o1_isTupL, o1_isTupI, o1_isIntI, o1_isIntT, o1_isIntL, o1_isBoolI, o1_isBoolT, o1_isBoolL, lim_n0, lim_n1, lim_n2, lim_n3, lim_n4, lim_n5, lim_n6, lim_n7, lim_n8, at0, at1, lcF_eq, fsF_eq, fin_ret, fin_next, Option.map_some, Option.map_none, List.map_cons, List.map_nil, List.length_cons, List.length_nil, List.replicate, List.cons_append, List.nil_append, List.append_nil, Nat.reduceAdd, Nat.reduceSub, Nat.reduceLT, Nat.reduceLeDiff, Bool.or_false, Bool.or_true, Bool.and_true, Bool.true_and, Bool.false_and, Bool.and_false, Bool.false_or, Bool.true_or, Bool.false_eq_true, Bool.not_true, Bool.not_false, if_true, if_false, reduceIte, decide_true, decide_false, Int.reduceEq, Int.reduceNe, Int.reduceLT, Int.reduceLE, Int.reduceNeg, ne_eq, not_false_eq_true, not_true_eq_false, $ls,*])
open PySem PyD B Mo
variable {P : List Def} {ι : Nat → Nat} {n : Nat} {S : Store}
/-- the polynomial of some numbers, 0 from m on -/
def cn (g : Nat → Rat) (m : Nat) : List Rat := leanL ((List.range m).map g)
theorem cn_at {g : Nat → Rat} {m : Nat} (h : ∀ i, m ≤ i → g i = 0) {i : Nat} : (cn g m).getD i 0 = g i := by
  unfold cn
  rw [leanL_at, map_at]
  split
  · rfl
  · exact (h i (by omega)).symm
theorem lean_cn {g : Nat → Rat} {m : Nat} {xs : List Rat} (h : ∀ i, m ≤ i → g i = 0) (hx : ∀ i, xs.getD i 0 = g i) : leanL xs = cn g m := by
  unfold cn
  refine lean_ext fun i => ?_
  rw [hx, map_at]
  split
  · rfl
  · exact h i (by omega)
theorem cn_len {g : Nat → Rat} {m : Nat} : (cn g m).length ≤ m := leanL_le (by simp)
theorem upL2_at {xs : List Rat} {i : Nat} : (upL xs 2).getD i 0 = sh (sh (fun j => xs.getD j 0)) i := by
  unfold upL
  split
  · rename_i c
    subst c
    match i with
    | 0 => rfl
    | 1 => rfl
    | i + 2 => rfl
  · match i with
    | 0 => rfl
    | 1 => rfl
    | i + 2 => rfl
theorem upL_len {xs : List Rat} {k : Nat} : (upL xs k).length ≤ xs.length + k := by
  unfold upL
  split
  · rename_i c; subst c; simp
  · simp; omega
theorem subL_len {xs ys : List Rat} : (subL xs ys).length = max xs.length ys.length := by simp [subL]
theorem cl_behind (H : Has P ι dep_behind) (hn : 4 ≤ n) {xs ys : List Rat} {x y : Rat} {k : Nat} (hk : k ≤ 100) (hxs : ∀ i, Sz k 1 (xs.getD i 0)) (hys : ∀ i, Sz k 1 (ys.getD i 0)) (hx : Sz 4 1 x) (hy : Sz 4 1 y) (lx : xs.length ≤ 20) (ly : ys.length ≤ 20) {g : Nat → Rat} {m : Nat} (hg : ∀ i, m ≤ i → g i = 0)
    (e : ∀ i, g i = xs.getD i 0 - x * sh (fun j => xs.getD j 0) i - y * sh (sh (fun j => ys.getD j 0)) i) : callN P W0 n (ι i_behind) [encL xs, encL ys, enc x, enc y] S = some (encL (cn g m), S) := by
  obtain ⟨c, rfl⟩ : ∃ c, n = c + 1 := ⟨n - 1, by omega⟩
  rw [H.go (d := d_behind) rfl rfl rfl]
  have e1 := cl_scaled (S := S) (H.sub (l' := dep_scaled) rfl) (n := c) (by omega) (xs := xs) (c := x) (sm_mem fun i => (hxs i).sm (by omega) (by omega)) (hx.sm (by omega) (by omega)) (by omega)
  have l1 : (leanL (xs.map (· * x))).length ≤ 20 := leanL_le (by rw [List.length_map]; exact lx)
  have e2 := cl_raised (S := S) (H.sub (l' := dep_raised) rfl) (n := c) (by omega) (xs := leanL (xs.map (· * x))) (k := 1) (by omega) (by omega)
  have l2 := upL_len (xs := leanL (xs.map (· * x))) (k := 1)
  have z2 : ∀ i, Sz (k + 4) 1 ((upL (leanL (xs.map (· * x))) 1).getD i 0) := fun i => by
    rw [upL_at]
    exact sh_sz fun j => by rw [leanL_at, scaled_at]; exact (hxs j).mul1 hx
  have e3 := cl_less (S := S) (H.sub (l' := dep_less) rfl) (n := c) (by omega) (xs := xs) (ys := upL (leanL (xs.map (· * x))) 1) (sm_mem fun i => (hxs i).sm (by omega) (by omega)) (sm_mem fun i => (z2 i).sm (by omega) (by omega)) (by omega) (by omega)
  have l3 : (leanL (subL xs (upL (leanL (xs.map (· * x))) 1))).length ≤ 21 := leanL_le (by rw [subL_len]; omega)
  have e4 := cl_scaled (S := S) (H.sub (l' := dep_scaled) rfl) (n := c) (by omega) (xs := ys) (c := y) (sm_mem fun i => (hys i).sm (by omega) (by omega)) (hy.sm (by omega) (by omega)) (by omega)
  have l4 : (leanL (ys.map (· * y))).length ≤ 20 := leanL_le (by rw [List.length_map]; exact ly)
  have e5 := cl_raised (S := S) (H.sub (l' := dep_raised) rfl) (n := c) (by omega) (xs := leanL (ys.map (· * y))) (k := 2) (by omega) (by omega)
  have l5 := upL_len (xs := leanL (ys.map (· * y))) (k := 2)
  have z5 : ∀ i, Sz (k + 4) 1 ((upL (leanL (ys.map (· * y))) 2).getD i 0) := fun i => by
    rw [upL2_at]
    exact sh_sz fun j => sh_sz fun j => by rw [leanL_at, scaled_at]; exact (hys j).mul1 hy
  have e6 := cl_less (S := S) (H.sub (l' := dep_less) rfl) (n := c) (by omega) (xs := leanL (subL xs (upL (leanL (xs.map (· * x))) 1))) (ys := upL (leanL (ys.map (· * y))) 2) (sm_mem fun i => by
    rw [leanL_at, subL_at]
    exact (((hxs i).mono (show k ≤ k + 4 by omega)).sub (z2 i)).sm (by omega) (by omega)) (sm_mem fun i => (z5 i).sm (by omega) (by omega)) (by omega) (by omega)
  have f6 : leanL (subL (leanL (subL xs (upL (leanL (xs.map (· * x))) 1))) (upL (leanL (ys.map (· * y))) 2)) = cn g m := lean_cn hg fun i => by
    rw [subL_at, leanL_at, subL_at, upL_at, upL2_at, e]
    have a1 : (fun j => (leanL (xs.map (· * x))).getD j 0) = fun j => xs.getD j 0 * x := funext fun j => by rw [leanL_at, scaled_at]
    have a2 : (fun j => (leanL (ys.map (· * y))).getD j 0) = fun j => ys.getD j 0 * y := funext fun j => by rw [leanL_at, scaled_at]
    have s1 : ∀ (g : Nat → Rat) (x : Rat) i, sh (fun j => g j * x) i = x * sh g i := fun g x i => by cases i <;> simp only [sh] <;> grind
    rw [a1, a2, s1, show sh (fun j => ys.getD j 0 * y) = fun i => sh (fun j => ys.getD j 0) i * y from funext fun i => by rw [s1]; grind, s1]
  rw [f6] at e6
  rw [show ((1 : Nat) : Int) = 1 from rfl] at e2
  rw [show ((2 : Nat) : Int) = 2 from rfl] at e5
  dsimp? [d_behind, e1, e2, e3, e4, e5, e6]
theorem qB_sz {s : Nat} {a b : Nat → Rat} (ha : ∀ k, Sz s 1 (a k)) (hb : ∀ k, Sz s 1 (b k)) : ∀ {k i : Nat}, Sz ((s + 1) * k) 1 (qB a b k i)
  | 0, i => by
    show Sz _ 1 (if i = 0 then (1 : Rat) else 0)
    split
    · exact Sz.one
    · exact Sz.zero
  | 1, i => by
    show Sz _ 1 (if i = 0 then (1 : Rat) else if i = 1 then -a 0 else 0)
    split
    · exact Sz.one.mono (by omega)
    · split
      · exact (ha 0).neg.mono (by omega)
      · exact Sz.zero
  | k + 2, i => by
    have ih := fun i => qB_sz ha hb (k := k + 1) (i := i)
    have ih2 := fun i => qB_sz ha hb (k := k) (i := i)
    show Sz _ 1 (qB a b (k + 1) i - a (k + 1) * sh (qB a b (k + 1)) i - b k * sh (sh (qB a b k)) i)
    have h1 : Sz (s + (s + 1) * (k + 1)) 1 (qB a b (k + 1) i) := (ih i).mono (by omega)
    have h2 := (ha (k + 1)).mul1 (sh_sz ih (k := i))
    have h3 : Sz (s + (s + 1) * (k + 1)) 1 (b k * sh (sh (qB a b k)) i) := ((hb k).mul1 (sh_sz (fun j => sh_sz ih2 (k := j)) (k := i))).mono (by rw [Nat.mul_succ]; omega)
    have := ((h1.sub h2).sub h3).up (by omega)
    rw [show (s + 1) * (k + 2) = s + (s + 1) * (k + 1) + 1 by rw [Nat.mul_succ (s + 1) (k + 1)]; omega]
    exact this
theorem qA_sz {s : Nat} {f : Rat} {a b : Nat → Rat} (hf : Sz s 1 f) (ha : ∀ k, Sz s 1 (a k)) (hb : ∀ k, Sz s 1 (b k)) : ∀ {k i : Nat}, Sz ((s + 1) * k) 1 (qA a b f k i)
  | 0, i => Sz.zero
  | 1, i => by
    show Sz _ 1 (if i = 0 then f else 0)
    split
    · exact hf.mono (by omega)
    · exact Sz.zero
  | k + 2, i => by
    have ih := fun i => qA_sz hf ha hb (k := k + 1) (i := i)
    have ih2 := fun i => qA_sz hf ha hb (k := k) (i := i)
    show Sz _ 1 (qA a b f (k + 1) i - a (k + 1) * sh (qA a b f (k + 1)) i - b k * sh (sh (qA a b f k)) i)
    have h1 : Sz (s + (s + 1) * (k + 1)) 1 (qA a b f (k + 1) i) := (ih i).mono (by omega)
    have h2 := (ha (k + 1)).mul1 (sh_sz ih (k := i))
    have h3 : Sz (s + (s + 1) * (k + 1)) 1 (b k * sh (sh (qA a b f k)) i) := ((hb k).mul1 (sh_sz (fun j => sh_sz ih2 (k := j)) (k := i))).mono (by rw [Nat.mul_succ]; omega)
    have := ((h1.sub h2).sub h3).up (by omega)
    rw [show (s + 1) * (k + 2) = s + (s + 1) * (k + 1) + 1 by rw [Nat.mul_succ (s + 1) (k + 1)]; omega]
    exact this
def cA (f : Rat) (as bs : List Rat) (k : Nat) : List Rat := cn (qA (fa as) (fa bs) f k) k
def cB (as bs : List Rat) (k : Nat) : List Rat := cn (qB (fa as) (fa bs) k) (k + 1)
theorem cA_at {f : Rat} {as bs : List Rat} {k i : Nat} : (cA f as bs k).getD i 0 = qA (fa as) (fa bs) f k i := cn_at fun i hi => qA_gt _ _ hi
theorem cB_at {as bs : List Rat} {k i : Nat} : (cB as bs k).getD i 0 = qB (fa as) (fa bs) k i := cn_at fun i hi => qB_gt _ _ hi
theorem cA_len {f : Rat} {as bs : List Rat} {k : Nat} : (cA f as bs k).length ≤ k := cn_len
theorem cB_len {as bs : List Rat} {k : Nat} : (cB as bs k).length ≤ k + 1 := cn_len
def quoD (f : Rat) (as bs : List Rat) (m : Nat) : List PyD.D := (List.range m).map fun k => .tuple [encL (cA f as bs k), encL (cB as bs k)]
theorem at_neg {xs : List PyD.D} {m r : Nat} (h : xs.length = m + r) (hr : 0 < r) : atD xs (-((r : Nat) : Int)) = xs[m]? := by
  unfold atD L2.atI
  have : L2.ixN xs.length (-((r : Nat) : Int)) = some m := by
    unfold L2.ixN
    rw [if_neg (by omega), if_pos (by omega)]
    congr 1
    omega
  rw [this]
  rfl
theorem cl_quotients_in (H : Has P ι dep_quotients_in) (hn : 5 ≤ n) {s : Nat} {f : Rat} {as bs : List Rat} (ok : StOk s f as bs) : callN P W0 n (ι i_quotients_in) [enc f, encS as bs] S = some (.list (quoD f as bs (as.length + 1)), S) := by
  obtain ⟨c, rfl⟩ : ∃ c, n = c + 1 := ⟨n - 1, by omega⟩
  rw [H.go (d := d_quotients_in) rfl rfl rfl]
  have h1 := ok.h1; have h12 := ok.h12; have hl := ok.hl; have hs := ok.hs
  have a0 : atD (as.map enc) 0 = some (enc (fa as 0)) := by
    have hp : 0 < as.length := h1
    exact at_fa hp
  have e1 := cl_lean (H.sub (l' := dep_lean) rfl) (n := c) (by omega) (S := S) (d := .tuple [enc f]) (xs := [f]) (.inr rfl) (by simp)
  have e2 := cl_lean (H.sub (l' := dep_lean) rfl) (n := c) (by omega) (S := S) (d := .tuple [enc 1, enc (-fa as 0)]) (xs := [1, -fa as 0]) (.inr rfl) (by simp)
  have e3 := cl_opposite (H.sub (l' := dep_opposite) rfl) (n := c) (by omega) (S := S) (a := fa as 0)
  have f1 : leanL [f] = cA f as bs 1 := lean_cn (fun i hi => qA_gt _ _ hi) fun i => by
    cases i with
    | zero => rfl
    | succ i => rfl
  have f2 : leanL [1, -fa as 0] = cB as bs 1 := lean_cn (fun i hi => qB_gt _ _ hi) fun i => by
    match i with
    | 0 => rfl
    | 1 => rfl
    | i + 2 => rfl
  rw [f1] at e1
  rw [f2] at e2
  have q0 : cA f as bs 0 = [] := rfl
  have q1 : cB as bs 0 = [1] := by
    have : leanL [1] = cB as bs 0 := lean_cn (fun i hi => qB_gt _ _ hi) fun i => by
      cases i with
      | zero => rfl
      | succ i => rfl
    rw [← this]
    exact lean_id (.inr (by decide))
  have i0 : quoD f as bs 2 = [.tuple [.tuple [], .tuple [enc 1]], .tuple [encL (cA f as bs 1), encL (cB as bs 1)]] := by
    show [PyData.tuple [encL (cA f as bs 0), encL (cB as bs 0)], PyData.tuple [encL (cA f as bs 1), encL (cB as bs 1)]] = _
    rw [q0, q1]; rfl
  apply Yl.fin
  unfold encS
  rw [show encL as = .tuple (as.map enc) from rfl, show encL bs = .tuple (bs.map enc) from rfl]
  dsimp? [d_quotients_in, -lcF_eq, -fsF_eq, a0, enc1s, e3, e1, e2, List.length_map, show rngOk 1 = true from rfl, rng_ok (show as.length < 2 ^ 60 by omega)]
  rw [show rngD 1 (as.length : Nat) = rngD ((1 : Nat) : Int) (as.length : Nat) from rfl]
  refine Yl.rng2 (fun i ρ S' => S' = S ∧ ∃ z5 z6 z7 z8, ρ = [.val (enc f), .val (.tuple [.tuple (as.map enc), .tuple (bs.map enc)]), .val (.tuple (as.map enc)), .val (.tuple (bs.map enc)), .own (quoD f as bs (i + 1)), z5, z6, z7, z8]) h1 ⟨rfl, .no, .no, .no, .no, by rw [i0]⟩ ?_ ?_
  · rintro i ρ S' hi1 hi2 ⟨rfl, z5, z6, z7, z8, rfl⟩
    obtain ⟨k, rfl⟩ : ∃ k, i = k + 1 := ⟨i - 1, by omega⟩
    have x1 : atD (quoD f as bs (k + 1 + 1)) (-1) = some (.tuple [encL (cA f as bs (k + 1)), encL (cB as bs (k + 1))]) := by
      have := at_neg (xs := quoD f as bs (k + 1 + 1)) (m := k + 1) (r := 1) (by simp [quoD]) (by omega)
      rw [show -((1 : Nat) : Int) = -1 from rfl] at this
      rw [this]
      unfold quoD
      rw [List.getElem?_map, List.getElem?_range (by omega)]; rfl
    have x2 : atD (quoD f as bs (k + 1 + 1)) (-2) = some (.tuple [encL (cA f as bs k), encL (cB as bs k)]) := by
      have := at_neg (xs := quoD f as bs (k + 1 + 1)) (m := k) (r := 2) (by simp [quoD]) (by omega)
      rw [show -((2 : Nat) : Int) = -2 from rfl] at this
      rw [this]
      unfold quoD
      rw [List.getElem?_map, List.getElem?_range (by omega)]; rfl
    have szk : ∀ j, j ≤ 13 → (s + 1) * j ≤ 52 := fun j hj => by
      have : (s + 1) * j ≤ 4 * 13 := Nat.mul_le_mul (by omega) hj
      omega
    have hA : ∀ j, j ≤ 13 → ∀ i, Sz 60 1 ((cA f as bs j).getD i 0) := fun j hj i => by
      rw [cA_at]
      exact (qA_sz ok.hf (fun k => sz_fa ok.ha) fun k => sz_fa ok.hb).mono (by have := szk j hj; omega)
    have hB : ∀ j, j ≤ 13 → ∀ i, Sz 60 1 ((cB as bs j).getD i 0) := fun j hj i => by
      rw [cB_at]
      exact (qB_sz (fun k => sz_fa ok.ha) fun k => sz_fa ok.hb).mono (by have := szk j hj; omega)
    have sa : Sz 4 1 (fa as (k + 1)) := (sz_fa ok.ha).mono (by omega)
    have sb : Sz 4 1 (fa bs k) := (sz_fa ok.hb).mono (by omega)
    have b1 := cl_behind (S := S') (H.sub (l' := dep_behind) rfl) (n := c) (by omega) (xs := cA f as bs (k + 1)) (ys := cA f as bs k) (by omega) (hA _ (by omega)) (hA _ (by omega)) sa sb (by have := cA_len (f := f) (as := as) (bs := bs) (k := k + 1); omega) (by have := cA_len (f := f) (as := as) (bs := bs) (k := k); omega) (g := qA (fa as) (fa bs) f (k + 2)) (m := k + 2) (fun i hi => qA_gt _ _ hi) (fun i => by
      rw [cA_at, show (fun j => (cA f as bs (k + 1)).getD j 0) = qA (fa as) (fa bs) f (k + 1) from funext fun j => cA_at, show (fun j => (cA f as bs k).getD j 0) = qA (fa as) (fa bs) f k from funext fun j => cA_at]
      rfl)
    have b2 := cl_behind (S := S') (H.sub (l' := dep_behind) rfl) (n := c) (by omega) (xs := cB as bs (k + 1)) (ys := cB as bs k) (by omega) (hB _ (by omega)) (hB _ (by omega)) sa sb (by have := cB_len (as := as) (bs := bs) (k := k + 1); omega) (by have := cB_len (as := as) (bs := bs) (k := k); omega) (g := qB (fa as) (fa bs) (k + 2)) (m := k + 2 + 1) (fun i hi => qB_gt _ _ hi) (fun i => by
      rw [cB_at, show (fun j => (cB as bs (k + 1)).getD j 0) = qB (fa as) (fa bs) (k + 1) from funext fun j => cB_at, show (fun j => (cB as bs k).getD j 0) = qB (fa as) (fa bs) k from funext fun j => cB_at]
      rfl)
    have y1 := at_fa (xs := as) (i := k + 1) (by omega)
    have y2 := at_fa (xs := bs) (i := k) (by omega)
    have n1 : ((k + 1 : Nat) : Int) - 1 = ((k : Nat) : Int) := by omega
    have g1 : (quoD f as bs (k + 1 + 1)).length < LIM := LIM_ok (by simp [quoD]; omega)
    rw [fsF_eq]
    dsimp? [-fsF_eq, x1, x2, loopC_cons, loopC_nil, y1, y2, n1, b1, b2, appF_o4 g1]
    refine Yl.stay ?_
    have hq : quoD f as bs (k + 1 + 1 + 1) = quoD f as bs (k + 1 + 1) ++ [PyData.tuple [encL (cn (qA (fa as) (fa bs) f (k + 2)) (k + 2)), encL (cn (qB (fa as) (fa bs) (k + 2)) (k + 2 + 1))]] := by
      unfold quoD
      rw [← range_snoc (q := k + 1 + 1)]; rfl
    exact ⟨rfl, _, _, _, _, by rw [hq]⟩
  · rintro ρ S' ⟨rfl, z5, z6, z7, z8, rfl⟩
    dsimp? []
    exact Yl.ret
theorem cl_need_both (H : Has P ι dep_need_both) (hn : 5 ≤ n) {s : Nat} {f : Rat} {as bs : List Rat} (ok : StOk s f as bs) : callN P W0 n (ι i_need_both) [enc f, encS as bs] S = some (.none, S) := by
  obtain ⟨m, rfl⟩ : ∃ m, n = m + 1 := ⟨n - 1, by omega⟩
  rw [H.go (d := d_need_both) rfl rfl rfl]
  have e1 := cl_need_fraction (S := S) (H.sub (l' := dep_need_fraction) rfl) (n := m) (by omega) (q := f)
  have e2 := cl_need_steps (S := S) (H.sub (l' := dep_need_steps) rfl) (n := m) (by omega) ok.h1 ok.h12 ok.hl ok.b0
  dsimp? [d_need_both, e1, e2]
theorem cl_step_quotient (H : Has P ι dep_step_quotient) (hn : 6 ≤ n) {s : Nat} {f : Rat} {as bs : List Rat} (ok : StOk s f as bs) {k : Nat} (hk : k ≤ as.length) : callN P W0 n (ι i_step_quotient) [enc f, encS as bs, .int (k : Nat)] S = some (.tuple [encL (cA f as bs k), encL (cB as bs k)], S) := by
  obtain ⟨m, rfl⟩ : ∃ m, n = m + 1 := ⟨n - 1, by omega⟩
  rw [H.go (d := d_step_quotient) rfl rfl rfl]
  have e1 := cl_need_both (S := S) (H.sub (l' := dep_need_both) rfl) (n := m) (by omega) ok
  have e2 := cl_need_number (S := S) (H.sub (l' := dep_need_number) rfl) (n := m) (by omega) (i := (k : Nat)) (lo := 0) (hi := ((as.length : Nat) : Int)) (by omega) (by omega)
  have e3 := cl_quotients_in (S := S) (H.sub (l' := dep_quotients_in) rfl) (n := m) (by omega) ok
  have e4 : atD (quoD f as bs (as.length + 1)) ((k : Nat) : Int) = some (.tuple [encL (cA f as bs k), encL (cB as bs k)]) := at_ok (by
    unfold quoD
    rw [List.getElem?_map, List.getElem?_range (by omega)]; rfl)
  rw [show encS as bs = .tuple [.tuple (as.map enc), .tuple (bs.map enc)] from rfl] at e1 e3 ⊢
  dsimp? [d_step_quotient, e1, List.length_map, e2, e3, e4]
end PyM

set_option linter.all false
set_option maxRecDepth 100000
set_option exponentiation.threshold 20000
/-! PyN, part 21: the law's look at quotients (k91). -/
namespace PyM
local macro_rules | `(tactic| dsimp? [$ls,*]) => `(tactic| simp only [bnd_ok, bnd_no, get0, getS, getB0, getBo, getBS, ev_cst, ev_var, ev_bor, ev_bop, ev_neg, ev_notv, ev_band, ev_borr, ev_cmp, ev_chn, ev_ite, ev_call, ev_b1, ev_b2, ev_min3, ev_tup, ev_lst, ev_mkl, ev_ix, ev_sl, ev_rev, ev_lr, ev_lc, evA_nil, evA_cons, evO_nop, evO_cons, evT_band, evT_borr, evT_notv, evT_cmp, evT_chn, evT_call, evT_b1, evT_var, evQ_nil, evQ_cons, evI_S, evI_R1, evI_R2, evI_R3, evI_Z, evI_E, ex_skip, ex_seq, ex_asg, ex_asgO, ex_par, ex_seti, ex_swp, ex_app, ex_ext, ex_ifs, ex_forS, ex_ret, ex_expr, ex_frz, sg0, sgS, ss0, ssS, setTg_nm, setTg_tup, setTgs_nil, setTgs_cons, tgN_nm, tgN_cons, tgN_nil, wipe_nil, wipe_cons, par_nil, par_f, par_t, isB_cst, isB_var, isB_bop, isB_neg, isB_notv, isB_band, isB_borr, isB_cmp, isB_chn, isB_ite, isB_call, isB_b1, isB_b2, isB_min3, isB_tup, isB_lst, isB_ix, isB_sl, isB_rev, isB_lr, isB_lc, isB_tl, isB_mkl, op_add, op_addL, op_addT, op_sub, op_mul, op_mulL, op_mulT, op_fdiv, op_mod, c_lt, c_le, c_gt, c_ge, c_eqi, c_nei, ixF_L, ixF_T, ixF_loc, setiF_c0, setiF_c1, frzF_o0, frzF_v0, frzF_o1, frzF_v1, frzF_o2, frzF_v2, frzF_o3, frzF_v3, frzF_o4, frzF_v4, frzF_o5, frzF_v5, frzF_o6, frzF_v6, frzF_o7, frzF_v7, frzF_o8, frzF_v8, frzF_o9, frzF_v9, frzF_o10, frzF_v10,  sl_L, sl_T, rev_L, rev_T, seq_L, seq_T, o2_gcd, o2_max, o2_min, o1_lenL, o1_lenT, o1_abs, o1_int, o1_listL, o1_listT, o1_listS, o1_tupL, o1_tupT, o1_isTupT, o1_isTupL, o1_isTupI, o1_isIntI, o1_isIntT, o1_isIntL, o1_isBoolI, o1_isBoolT, o1_isBoolL, lim_n0, lim_n1, lim_n2, lim_n3, lim_n4, lim_n5, lim_n6, lim_n7, lim_n8, at0, at1, lcF_eq, fsF_eq, fin_ret, fin_next, Option.map_some, Option.map_none, List.map_cons, List.map_nil, List.length_cons, List.length_nil, List.replicate, List.cons_append, List.nil_append, List.append_nil, Nat.reduceAdd, Nat.reduceSub, Nat.reduceLT, Nat.reduceLeDiff, Bool.or_false, Bool.or_true, Bool.and_true, Bool.true_and, Bool.false_and, Bool.and_false, Bool.false_or, Bool.true_or, Bool.false_eq_true, Bool.not_true, Bool.not_false, if_true, if_false, reduceIte, decide_true, decide_false, Int.reduceEq, Int.reduceNe, Int.reduceLT, Int.reduceLE, Int.reduceNeg, ne_eq, not_false_eq_true, not_true_eq_false, $ls,*])
open PySem PyD B Mo
variable {P : List Def} {ι : Nat → Nat} {n : Nat} {S : Store}
theorem like_refl (H : Has P ι dep__law_like) {k : Nat} (hn : k + 2 ≤ n) {d d' : PyD.D} (h : Pl k d) (e : d' = d) : callN P W0 n (ι i__law_like) [d', d] S = some (.bool true, S) := by
  subst e
  exact cl_like H hn h
theorem cutT' {xs : List Rat} {m : Nat} (h : m ≤ xs.length) : cutD (xs.map enc) none (some ((m : Nat) : Int)) = (xs.take m).map enc := cutT h
theorem take_at {xs : List Rat} {m i : Nat} : (xs.take m).getD i 0 = if i < m then xs.getD i 0 else 0 := by
  rw [List.getD_eq_getElem?_getD, List.getD_eq_getElem?_getD, List.getElem?_take]
  split <;> rfl
theorem app_zero_at {xs : List Rat} {m i : Nat} : (xs ++ List.replicate m 0).getD i 0 = xs.getD i 0 := by
  rw [List.getD_eq_getElem?_getD, List.getD_eq_getElem?_getD, List.getElem?_append]
  split
  · rfl
  · rename_i c
    rw [List.getElem?_eq_none (by omega : xs.length ≤ i), List.getElem?_replicate]
    split <;> rfl
theorem cl_quotient_right (H : Has P ι dep__law_quotient_right) (hn : 7 ≤ n) {s : Nat} {f : Rat} {as bs : List Rat} (ok : StOk s f as bs) (hs1 : s ≤ 1) : callN P W0 n (ι i__law_quotient_right) [enc f, encS as bs, encL (momL f as bs (2 * as.length))] S = some (.bool true, S) := by
  obtain ⟨m, rfl⟩ : ∃ m, n = m + 1 := ⟨n - 1, by omega⟩
  rw [H.go (d := d__law_quotient_right) rfl rfl rfl]
  have h1 := ok.h1; have h12 := ok.h12; have hl := ok.hl
  have e1 := cl_step_quotient (S := S) (H.sub (l' := dep_step_quotient) rfl) (n := m) (by omega) ok (k := as.length) (Nat.le_refl _)
  have plq : Pl 3 (PyData.tuple [encL (cA f as bs as.length), encL (cB as bs as.length)]) := .tup fun d hd => by
    simp only [List.mem_cons, List.not_mem_nil, or_false] at hd
    rcases hd with h | h <;> subst h <;> exact pl_encL
  have e2 := cl_sort (S := S) (H.sub (l' := dep__law_sort) rfl) (n := m) (by omega) plq
  have szB : ∀ x ∈ cB as bs as.length, Sz 24 1 x := sm_mem fun i => by
    rw [cB_at]
    exact (qB_sz (s := 1) (fun k => (sz_fa ok.ha).mono hs1) fun k => (sz_fa ok.hb).mono hs1).mono (by omega)
  have szR : ∀ x ∈ momL f as bs (2 * as.length), Sz 50 1 x := fun x hx => (momL_sz ok (by omega) x hx).mono (by
    have : (s + 1) * 24 ≤ 2 * 24 := Nat.mul_le_mul_right _ (by omega)
    omega)
  have lB := cB_len (as := as) (bs := bs) (k := as.length)
  have e3 := cl_lproduct (S := S) (H.sub (l' := dep__law_product) rfl) (n := m) (by omega) szB szR (by omega) (by omega) (by rw [momL_len]; omega)
  generalize hp : leanL (mulL (cB as bs as.length) (momL f as bs (2 * as.length))) = prod at e3
  have lp : prod.length ≤ 50 := by
    rw [← hp]
    exact leanL_le (by rw [mulL_len, momL_len]; omega)
  have e4 := cl_llean (S := S) (H.sub (l' := dep__law_lean) rfl) (n := m) (by omega) (xs := (prod ++ List.replicate (2 * as.length) 0).take (2 * as.length)) (by simp; omega)
  have f4 : leanL ((prod ++ List.replicate (2 * as.length) 0).take (2 * as.length)) = cA f as bs as.length := lean_cn (fun i hi => qA_gt _ _ hi) fun i => by
    rw [take_at, app_zero_at]
    by_cases c : i < 2 * as.length
    · rw [if_pos c, ← hp, leanL_at, mulL_at]
      rw [← quot_row (fa as) (fa bs) (f := f) c]
      unfold cv
      refine Sg_congr fun j hj => ?_
      show (cB as bs as.length).getD j 0 * (momL f as bs (2 * as.length)).getD (i - j) 0 = _
      rw [cB_at, momL_at (by omega)]
    · rw [if_neg c]
      exact (qA_gt _ _ (by omega)).symm
  rw [f4] at e4
  have e5 := cl_like (S := S) (H.sub (l' := dep__law_like) rfl) (k := 2) (n := m) (by omega) (pl_encL (k := 0) (qs := cA f as bs as.length))
  have lA : ((((cA f as bs as.length).length : Nat) : Int) ≤ ((as.length : Nat) : Int)) = True := eq_true (by have := cA_len (f := f) (as := as) (bs := bs) (k := as.length); omega)
  have g1 : lim (prod.map enc ++ (List.replicate (2 * as.length) (0 : Rat)).map enc) = some ((prod ++ List.replicate (2 * as.length) 0).map enc) := by
    rw [← List.map_append]
    exact lim_map (by simp; omega)
  have g2 := cutT' (xs := prod ++ List.replicate (2 * as.length) 0) (m := 2 * as.length) (by simp)
  rw [show encS as bs = .tuple [.tuple (as.map enc), .tuple (bs.map enc)] from rfl] at e1 ⊢
  unfold encL at e1 e2 e3 e4 e5 ⊢
  dsimp? [d__law_quotient_right, List.length_map, e1, e2, sortN, show ¬ (((0 + 1 + 1 : Nat) : Int) ≠ 2) from by decide, show (((0 + 1 + 1 : Nat) : Int) = 2) from by decide, e3, momL_len, rep_T (k := 2 * as.length) (xs := [_]) (by omega) (show 1 ≤ 1000 by omega), flat_one, rep_enc, g1, g2, e4, e5, lA]
end PyM

set_option linter.all false
set_option maxRecDepth 100000
set_option exponentiation.threshold 20000
/-! PyN, part 22: rows led to steps, upright polynomials. -/
namespace PyM
local macro_rules | `(tactic| dsimp? [$ls,*]) => `(tactic| simp only [bnd_ok, bnd_no, get0, getS, getB0, getBo, getBS, ev_cst, ev_var, ev_bor, ev_bop, ev_neg, ev_notv, ev_band, ev_borr, ev_cmp, ev_chn, ev_ite, ev_call, ev_b1, ev_b2, ev_min3, ev_tup, ev_lst, ev_mkl, ev_ix, ev_sl, ev_rev, ev_lr, ev_lc, evA_nil, evA_cons, evO_nop, evO_cons, evT_band, evT_borr, evT_notv, evT_cmp, evT_chn, evT_call, evT_b1, evT_var, evQ_nil, evQ_cons, evI_S, evI_R1, evI_R2, evI_R3, evI_Z, evI_E, ex_skip, ex_seq, ex_asg, ex_asgO, ex_par, ex_seti, ex_swp, ex_app, ex_ext, ex_ifs, ex_forS, ex_ret, ex_expr, ex_frz, sg0, sgS, ss0, ssS, setTg_nm, setTg_tup, setTgs_nil, setTgs_cons, tgN_nm, tgN_cons, tgN_nil, wipe_nil, wipe_cons, par_nil, par_f, par_t, isB_cst, isB_var, isB_bop, isB_neg, isB_notv, isB_band, isB_borr, isB_cmp, isB_chn, isB_ite, isB_call, isB_b1, isB_b2, isB_min3, isB_tup, isB_lst, isB_ix, isB_sl, isB_rev, isB_lr, isB_lc, isB_tl, isB_mkl, op_add, op_addL, op_addT, op_sub, op_mul, op_mulL, op_mulT, op_fdiv, op_mod, c_lt, c_le, c_gt, c_ge, c_eqi, c_nei, ixF_L, ixF_T, ixF_loc, setiF_c0, setiF_c1, frzF_o0, frzF_v0, frzF_o1, frzF_v1, frzF_o2, frzF_v2, frzF_o3, frzF_v3, frzF_o4, frzF_v4, frzF_o5, frzF_v5, frzF_o6, frzF_v6, frzF_o7, frzF_v7, frzF_o8, frzF_v8, frzF_o9, frzF_v9, frzF_o10, frzF_v10,  sl_L, sl_T, rev_L, rev_T, seq_L, seq_T, o2_gcd, o2_max, o2_min, o1_lenL, o1_lenT, o1_abs, o1_int, o1_listL, o1_listT, o1_listS, o1_tupL, o1_tupT, o1_isTupT, o1_isTupL, o1_isTupI, o1_isIntI, o1_isIntT, o1_isIntL, o1_isBoolI, o1_isBoolT, o1_isBoolL, lim_n0, lim_n1, lim_n2, lim_n3, lim_n4, lim_n5, lim_n6, lim_n7, lim_n8, at0, at1, lcF_eq, fsF_eq, fin_ret, fin_next, Option.map_some, Option.map_none, List.map_cons, List.map_nil, List.length_cons, List.length_nil, List.replicate, List.cons_append, List.nil_append, List.append_nil, Nat.reduceAdd, Nat.reduceSub, Nat.reduceLT, Nat.reduceLeDiff, Bool.or_false, Bool.or_true, Bool.and_true, Bool.true_and, Bool.false_and, Bool.and_false, Bool.false_or, Bool.true_or, Bool.false_eq_true, Bool.not_true, Bool.not_false, if_true, if_false, reduceIte, decide_true, decide_false, Int.reduceEq, Int.reduceNe, Int.reduceLT, Int.reduceLE, Int.reduceNeg, ne_eq, not_false_eq_true, not_true_eq_false, $ls,*])
open PySem PyD B Mo
variable {P : List Def} {ι : Nat → Nat} {n : Nat} {S : Store}
theorem swpF_o0 {C : CallF} {ρ : PyD.Env} {xs : List PyD.D} {k : Int} {m : Nat} {ix2 : T} {x y : PyD.D} (h2 : L2.ixN xs.length k = some m) : swpF C ix2 (.own xs :: ρ) S 0 x y (.int k) = bnd (ev C ix2 (.own (xs.set m x) :: ρ) S) fun k2 S => swp2F (.own (xs.set m x) :: ρ) 0 (xs.set m x) y k2 S := swpF_own (n := 0) rfl h2
theorem swp2F_o0 {z : Slot} {ρ : PyD.Env} {xs : List PyD.D} {k : Int} {m : Nat} {y : PyD.D} (h2 : L2.ixN xs.length k = some m) : swp2F (z :: ρ) 0 xs y (.int k) S = some (.next (.own (xs.set m y) :: ρ), S) := swp2F_int (n := 0) h2
def sg (k j : Nat) : Rat := if j = k then -1 else 1
theorem sg_sz {k j : Nat} : Sz 0 1 (sg k j) := by
  unfold sg
  split
  · exact Sz.one.neg
  · exact Sz.one
/-- a table with one column more, its sign turned -/
def rowV (k : Nat) (w : Nat → Rat) : List Rat := (List.range (k + 1)).map fun j => sg k j * w j
def tabV (k : Nat) (v : Nat → Nat → Rat) : List PyD.D := (List.range k).map fun i => .list ((rowV k (v i)).map enc)
theorem rowV_len {k : Nat} {w : Nat → Rat} : (rowV k w).length = k + 1 := by simp [rowV]
theorem tabV_len {k : Nat} {v : Nat → Nat → Rat} : (tabV k v).length = k := by simp [tabV]
theorem tabV_at {k i : Nat} {v : Nat → Nat → Rat} (h : i < k) : (tabV k v)[i]? = some (.list ((rowV k (v i)).map enc)) := by
  unfold tabV
  rw [List.getElem?_map, List.getElem?_range h]; rfl
theorem at_tabV {k i : Nat} {v : Nat → Nat → Rat} (h : i < k) : atD (tabV k v) ((i : Nat) : Int) = some (.list ((rowV k (v i)).map enc)) := at_ok (tabV_at h)
theorem at_rowV {k j : Nat} {w : Nat → Rat} (h : j < k + 1) : atD ((rowV k w).map enc) ((j : Nat) : Int) = some (enc (sg k j * w j)) := at_map h
theorem rowV_congr {k : Nat} {w w' : Nat → Rat} (h : ∀ j, j < k + 1 → w j = w' j) : rowV k w = rowV k w' := by
  unfold rowV
  refine List.map_congr_left fun j hj => ?_
  rw [h j (List.mem_range.mp hj)]
theorem tabV_congr {k : Nat} {v v' : Nat → Nat → Rat} (h : ∀ i, i < k → ∀ j, j < k + 1 → v i j = v' i j) : tabV k v = tabV k v' := by
  unfold tabV
  refine List.map_congr_left fun i hi => ?_
  rw [rowV_congr (h i (List.mem_range.mp hi))]
theorem tabV_set {k q : Nat} {v : Nat → Nat → Rat} {w : Nat → Rat} (h : q < k) : (tabV k v).set q (.list ((rowV k w).map enc)) = tabV k (fun i => if i = q then w else v i) := by
  refine List.ext_getElem? fun i => ?_
  rw [List.getElem?_set, tabV_len, if_pos h]
  unfold tabV
  rw [List.getElem?_map, List.getElem?_map]
  by_cases hk : i < k
  · rw [List.getElem?_range hk]
    by_cases c : q = i
    · subst c; simp
    · rw [if_neg c]
      simp only [Option.map_some]
      rw [if_neg (fun e => c e.symm)]
  · rw [List.getElem?_eq_none (by simp; omega), if_neg (by omega)]
    rfl
section
variable (f : Rat) (a b : Nat → Rat)
/-- the table with s columns done -/
def V (s i j : Nat) : Rat := if i < s then U a b s i j else f * E a b s i j
/-- in the midst of the column s: the rows up to q done -/
def V2 (s q i j : Nat) : Rat := if i = s then L a b j s else if i < q then V f a b (s + 1) i j else V f a b s i j
end
theorem U_sz {f : Rat} {a b : Nat → Rat} {w : Nat} (ok : TbOk f a b w) {i j s : Nat} (hj : j ≤ 12) : Sz 48 s (U a b s i j) := by
  unfold U
  induction s with
  | zero => exact Sz.zero
  | succ s ih =>
    by_cases c : s ≤ 12
    · exact ih.add (((L_sz ok.ha ok.hb (t := j)).mul1 (p_sz ok.ha ok.hb)).mono (by omega))
    · rw [Sg, L_gt a b (show j < s by omega), show (0 : Rat) * p a b s i = 0 by grind, Rat.add_zero]
      exact ih.more (by omega)
theorem E_sz' {f : Rat} {a b : Nat → Rat} {w : Nat} (ok : TbOk f a b w) {i j : Nat} (hi : i < 12) (hj : j ≤ 12) : ∀ {s : Nat}, s ≤ 12 → Sz 60 (s + 1) (E a b s i j)
  | 0, _ => by
    rw [E]
    exact (L_sz ok.ha ok.hb).mono (by omega)
  | s + 1, hs => by
    rw [E]
    have h1 := E_sz' ok hi hj (s := s) (by omega)
    have h2 : Sz 60 1 (L a b i s * (Dn b s * L a b j s)) := ((L_sz ok.ha ok.hb).mul1 ((Dn_sz ok.hb).mul1 (L_sz ok.ha ok.hb))).mono (by omega)
    exact h1.sub h2
theorem V_sz {f : Rat} {a b : Nat → Rat} {w : Nat} (ok : TbOk f a b w) {i j s : Nat} (hi : i < 12) (hj : j ≤ 12) (hs : s ≤ 12) : Sz 62 1 (V f a b s i j) := by
  unfold V
  split
  · exact ((U_sz ok hj).up (by omega)).mono (by omega)
  · exact (ok.hf.mul (E_sz' ok hi hj hs)).up (by omega)
theorem V_col {f : Rat} {a b : Nat → Rat} {s j : Nat} : V f a b s s j = f * (Dn b s * L a b j s) := by
  unfold V
  rw [if_neg (by omega), E_row]
theorem V_step {f : Rat} {a b : Nat → Rat} {s i j : Nat} (h : i ≠ s) : V f a b s i j - V f a b s i s * L a b j s = V f a b (s + 1) i j := by
  unfold V
  by_cases c : i < s
  · rw [if_pos c, if_pos c, if_pos (by omega), U_step a b c]
  · rw [if_neg c, if_neg c, if_neg (by omega), E_col, E]; grind
theorem V_own {f : Rat} {a b : Nat → Rat} {s j : Nat} : V f a b (s + 1) s j = L a b j s := by
  unfold V
  rw [if_pos (by omega), U_new]
theorem rowV_zip {k : Nat} {w w' : Nat → Rat} {x : Rat} : ((rowV k w).zip (rowV k w')).map (fun p => p.1 - x * p.2) = rowV k fun j => w j - x * w' j := by
  unfold rowV
  rw [List.zip_map', List.map_map]
  refine List.map_congr_left fun j hj => ?_
  show sg k j * w j - x * (sg k j * w' j) = sg k j * (w j - x * w' j)
  grind
theorem V2_at {f : Rat} {a b : Nat → Rat} {s q : Nat} : V2 f a b s q s = fun j => L a b j s := funext fun j => by
  unfold V2
  rw [if_pos rfl]
theorem V2_own {f : Rat} {a b : Nat → Rat} {s q : Nat} (h : q ≠ s) : V2 f a b s q q = V f a b s q := funext fun j => by
  unfold V2
  rw [if_neg h, if_neg (by omega)]
theorem V2_next {f : Rat} {a b : Nat → Rat} {k s q : Nat} (h : q ≠ s) : tabV k (fun i => if i = q then (fun j => V f a b s q j - V f a b s q s * L a b j s) else V2 f a b s q i) = tabV k (V2 f a b s (q + 1)) := tabV_congr fun i hi j hj => by
  by_cases c : i = q
  · subst c
    rw [if_pos rfl, V_step h]
    unfold V2
    rw [if_neg h, if_pos (by omega)]
  · rw [if_neg c]
    unfold V2
    by_cases c2 : i = s
    · rw [if_pos c2, if_pos c2]
    · rw [if_neg c2, if_neg c2]
      by_cases c3 : i < q
      · rw [if_pos c3, if_pos (by omega)]
      · rw [if_neg c3, if_neg (by omega)]
theorem V2_same {f : Rat} {a b : Nat → Rat} {k s q : Nat} (h : q = s ∨ V f a b s q s = 0) : tabV k (V2 f a b s (q + 1)) = tabV k (V2 f a b s q) := by
  by_cases c : q = s
  · subst c
    refine tabV_congr fun i hi j hj => ?_
    unfold V2
    by_cases c2 : i = q
    · rw [if_pos c2, if_pos c2]
    · rw [if_neg c2, if_neg c2]
      by_cases c3 : i < q
      · rw [if_pos c3, if_pos (by omega)]
      · rw [if_neg c3, if_neg (by omega)]
  · have h0 : V f a b s q s = 0 := h.resolve_left c
    rw [← V2_next c]
    refine tabV_congr fun i hi j hj => ?_
    by_cases c2 : i = q
    · subst c2
      rw [if_pos rfl, h0, V2_own c]; grind
    · rw [if_neg c2]
theorem cl_reduced (H : Has P ι dep_reduced) (hn : 3 ≤ n) {f : Rat} {a b : Nat → Rat} {k : Nat} (ok : TbOk f a b k) : callN P W0 n (ι i_reduced) [.list ((List.range k).map fun i => .tuple ((rowV k (V f a b 0 i)).map enc))] S = some (.tuple [.list (tabV k (V f a b k)), .list (rngD 0 (k : Nat))], S) := by
  obtain ⟨c, rfl⟩ : ∃ c, n = c + 1 := ⟨n - 1, by omega⟩
  rw [H.go (d := d_reduced) rfl rfl rfl]
  have hw := ok.hw
  have ti : ∀ {x y : Rat}, sm x → sm y → ∀ {S}, callN P W0 c (ι i_times) [enc x, enc y] S = some (enc (x * y), S) := fun {x y} hx hy {S} => cl_times (H.sub (l' := dep_times) rfl) (by omega) hx hy
  have mi : ∀ {x y : Rat}, sm x → sm y → ∀ {S}, callN P W0 c (ι i_minus) [enc x, enc y] S = some (enc (x - y), S) := fun {x y} hx hy {S} => cl_minus (H.sub (l' := dep_minus) rfl) (by omega) hx hy
  have ov : ∀ {x y : Rat}, sm x → sm y → y ≠ 0 → ∀ {S}, callN P W0 c (ι i_over) [enc x, enc y] S = some (enc (x / y), S) := fun {x y} hx hy h0 {S} => cl_over (H.sub (l' := dep_over) rfl) (by omega) hx hy h0
  have e0 : loopC (lcF (callN P W0 c) (.nm 7) .anil (.b1 .list (.var 7)) [.val (.list ((List.range k).map fun i => .tuple ((rowV k (V f a b 0 i)).map enc))), .no, .no, .no, .no, .no, .no, .no, .no, .no]) ((List.range k).map fun i => .tuple ((rowV k (V f a b 0 i)).map enc)) S = some (tabV k (V f a b 0), S) := by
    have : ∀ ds, loopC (lcF (callN P W0 c) (.nm 7) .anil (.b1 .list (.var 7)) [.val (.list ds), .no, .no, .no, .no, .no, .no, .no, .no, .no]) ((List.range k).map fun i => .tuple ((rowV k (V f a b 0 i)).map enc)) S = some (tabV k (V f a b 0), S) := fun ds => by
      unfold tabV
      refine loopC_enc fun i hi => ?_
      dsimp? []
    exact this _
  have hl0 : lim (tabV k (V f a b 0)) = some (tabV k (V f a b 0)) := lim_ok (by rw [tabV_len]; omega)
  have hplT : ∀ d ∈ tabV k (V f a b 0), Pl 2 d := fun d hd => by
    unfold tabV at hd
    obtain ⟨i, _, rfl⟩ := List.mem_map.mp hd
    exact .lst fun d hd => by obtain ⟨q, _, rfl⟩ := List.mem_map.mp hd; exact pl_enc
  have hne0 := ne_nilL (k := 2) (xs := tabV k (V f a b 0)) hplT (by omega)
  -- how many columns
  have hcols : ∀ (C : CallF) z1 z2 z3 z4 z5 z6 z7 z8 z9, evI C (.itR1 (.ite (.cmp .ne (.bor 0) (.lst .anil)) (.b1 .len (.ix (.bor 0) (.cst (.int 0)))) (.cst (.int 0)))) [.own (tabV k (V f a b 0)), z1, z2, z3, z4, z5, z6, z7, z8, z9] S = some (rngD 0 ((if k = 0 then 0 else k + 1 : Nat) : Int), S) := by
    intro C z1 z2 z3 z4 z5 z6 z7 z8 z9
    by_cases hk : k = 0
    · subst hk
      have : opC .ne (.list (tabV 0 (V f a b 0))) (.list []) = some false := rfl
      dsimp? [this, show rngOk 0 = true from rfl]
      rfl
    · rw [if_neg hk]
      have hz : (tabV k (V f a b 0)).isEmpty = false := by
        obtain ⟨m, rfl⟩ : ∃ m, k = m + 1 := ⟨k - 1, by omega⟩
        unfold tabV
        rw [List.range_succ_eq_map]; rfl
      rw [hz] at hne0
      have a0 : atD (tabV k (V f a b 0)) 0 = some (.list ((rowV k (V f a b 0 0)).map enc)) := by
        have hp : 0 < k := by omega
        exact at_tabV hp
      dsimp? [hne0, a0, List.length_map, rowV_len, rng_ok (show k + 1 < 2 ^ 60 by omega)]
  have hcz : (if k = 0 then 0 else k + 1) ≤ k + 1 := by split <;> omega
  generalize hc : (if k = 0 then 0 else k + 1) = cols at hcols hcz
  apply Yl.fin
  dsimp? [d_reduced, -lcF_eq, -fsF_eq, -evI_R1, e0, hl0, hcols]
  refine Yl.rng (fun s ρ S' => S' = S ∧ ∃ z2 z3 z4 z5 z6 z7 z8 z9, ρ = [.own (tabV k (V f a b (min s k))), .own (rngD 0 ((min s k : Nat) : Int)), z2, z3, z4, z5, z6, z7, z8, z9]) ⟨rfl, .no, .no, .no, .no, .no, .no, .no, .no, by rw [show min 0 k = 0 by omega]; rfl⟩ ?_ ?_
  · rintro s ρ S' hs ⟨rfl, z2, z3, z4, z5, z6, z7, z8, z9, rfl⟩
    rw [fsF_eq]
    by_cases hsk : s = k
    · -- the last column: nothing
      subst hsk
      have hn0 : opC .ne (.list []) (.list []) = some false := rfl
      dsimp? [show min s s = s by omega, tabV_len, rng_len, rng_ok (show s < 2 ^ 60 by omega)]
      have hr : rngD ((s : Nat) : Int) ((s : Nat) : Int) = [] := by rw [rng2_eq (Nat.le_refl _)]; simp
      dsimp? [hr, loopC_nil, hn0]
      refine Yl.stay ?_
      exact ⟨rfl, _, _, _, _, _, _, _, _, by rw [show min (s + 1) s = s by omega]⟩
    · have hs2 : s < k := by omega
      have dne := ok.d0 hs2
      have piv : V f a b s s s = f * Dn b s := by rw [V_col, L_diag]; grind
      have hsg : sg k s = 1 := by unfold sg; rw [if_neg hsk]
      have szV := fun i (hi : i < k) j (hj : j < k + 1) => V_sz ok (i := i) (j := j) (s := s) (by omega) (by omega) (by omega)
      have smp : sm (f * Dn b s) := by
        rw [← piv]
        exact (szV s hs2 s (by omega)).sm (by omega) (by omega)
      rw [show min s k = s by omega]
      obtain ⟨rest, hsp⟩ : ∃ rest : List Int, ∀ z3 z4 z5 z6 z7 z8 z9, loopC (lcF (callN P W0 c) (.nm 5) (.acons (.cmp .ne (.ix (.ix (.ix (.bor 0) (.var 5)) (.var 2)) (.cst (.int 0))) (.cst (.int 0))) .anil) (.var 5) [.own (tabV k (V f a b s)), .own (rngD 0 ((s : Nat) : Int)), .val (.int (s : Nat)), z3, z4, z5, z6, z7, z8, z9]) (rngD (s : Nat) (k : Nat)) S' = some (((s : Int) :: rest).map .int, S') ∧ rest.length ≤ 12 := by
        refine ⟨(((List.range (k - s - 1)).map (· + 1)).filter fun j => decide (sg k s * V f a b s (s + j) s ≠ 0)).map fun j => ((s + j : Nat) : Int), fun z3 z4 z5 z6 z7 z8 z9 => ⟨?_, ?_⟩⟩
        · rw [rng2_eq (by omega)]
          rw [loopC_filter (p := fun j => decide (sg k s * V f a b s (s + j) s ≠ 0)) (g := fun j => .int ((s + j : Nat) : Int)) fun j hj => by
            have hj := List.mem_range.mp hj
            by_cases c : sg k s * V f a b s (s + j) s = 0
            · dsimp? [at_tabV (show s + j < k by omega), at_rowV (show s < k + 1 by omega), ix_num, num0, c]
            · dsimp? [at_tabV (show s + j < k by omega), at_rowV (show s < k + 1 by omega), ix_num, num0, c]]
          have hr : List.range (k - s) = 0 :: (List.range (k - s - 1)).map (· + 1) := by
            rw [show k - s = (k - s - 1) + 1 by omega, List.range_succ_eq_map]
            rfl
          rw [hr, filter_head (by rw [Nat.add_zero, hsg, piv, Rat.one_mul]; exact decide_eq_true dne)]
          simp only [List.map_cons, List.map_map, Nat.add_zero]
          rfl
        · rw [List.length_map]
          refine Nat.le_trans (List.length_filter_le _ _) ?_
          simp; omega
      have hll : lim (((s : Int) :: rest).map PyData.int) = some (((s : Int) :: rest).map PyData.int) := lim_ok (by
        have := (hsp .no .no .no .no .no .no .no).2
        simp; omega)
      have hne := ne_nilL (k := 0) (xs := ((s : Int) :: rest).map PyData.int) (fun d hd => pl_ints hd) (by omega)
      have hsp1 := fun z3 z4 z5 z6 z7 z8 z9 => (hsp z3 z4 z5 z6 z7 z8 z9).1
      simp only [List.map_cons, List.isEmpty_cons] at hll hne hsp1
      -- the row at the turn, divided
      have hsw : ((tabV k (V f a b s)).set s (.list ((rowV k (V f a b s s)).map enc))) = tabV k (V f a b s) := by
        rw [tabV_set hs2]
        exact tabV_congr fun i hi j hj => by
          by_cases c : i = s
          · subst c; rw [if_pos rfl]
          · rw [if_neg c]
      have hov : ∀ z5 z6 z7 z8 z9, loopC (lcF (callN P W0 c) (.nm 8) .anil (.call (ι i_over) (.acons (.var 8) (.acons (.ix (.ix (.bor 0) (.var 4)) (.var 2)) .anil))) [.own (tabV k (V f a b s)), .own (rngD 0 ((s : Nat) : Int)), .val (.int (s : Nat)), .val (.list (.int (s : Nat) :: rest.map .int)), .val (.int (s : Nat)), z5, z6, z7, z8, z9]) ((rowV k (V f a b s s)).map enc) S' = some ((rowV k (fun j => L a b j s)).map enc, S') := by
        intro z5 z6 z7 z8 z9
        have : rowV k (fun j => L a b j s) = (rowV k (V f a b s s)).map fun x => x / (f * Dn b s) := by
          unfold rowV
          rw [List.map_map]
          refine List.map_congr_left fun j hj => ?_
          show _ = sg k j * V f a b s s j / (f * Dn b s)
          rw [V_col, show sg k j * (f * (Dn b s * L a b j s)) = sg k j * L a b j s * (f * Dn b s) by grind]
          exact (Rat.mul_div_cancel dne).symm
        rw [this, List.map_map]
        refine loopC_enc fun x hx => ?_
        unfold rowV at hx
        obtain ⟨j, hj, rfl⟩ := List.mem_map.mp hx
        have hj := List.mem_range.mp hj
        have sx : sm (sg k j * V f a b s s j) := (sg_sz.mul1 (szV s hs2 j hj)).sm (by omega) (by omega)
        dsimp? [at_tabV hs2, at_rowV (show s < k + 1 by omega), hsg, piv, Rat.one_mul, ov sx smp dne]
        rfl
      have hlo : lim ((rowV k (fun j => L a b j s)).map enc) = some ((rowV k (fun j => L a b j s)).map enc) := lim_map (by rw [rowV_len]; omega)
      have hix : L2.ixN (tabV k (V f a b s)).length ((s : Nat) : Int) = some s := ixN_nat (by rw [tabV_len]; exact hs2)
      have h2 : tabV k (fun i => if i = s then (fun j => L a b j s) else V f a b s i) = tabV k (V2 f a b s 0) := tabV_congr fun i hi j hj => by
        unfold V2
        by_cases c : i = s
        · rw [if_pos c, if_pos c]
        · rw [if_neg c, if_neg c, if_neg (by omega)]
      have hpos : ((s : Nat) : Int) = ((s : Nat) : Int) := rfl
      dsimp? [-lcF_eq, -fsF_eq, tabV_len, rng_len, rng_ok (show s < 2 ^ 60 by omega), rng_ok (show k < 2 ^ 60 by omega), hsp1, hll, hne, at_tabV hs2, swpF_o0 hix, hsw, swp2F_o0 hix, hov, hlo, setiF_o0 hix, tabV_set hs2, h2]
      refine Yl.rng (fun q ρ S'' => S'' = S' ∧ ∃ z5 z6 z7 z8 z9, ρ = [.own (tabV k (V2 f a b s q)), .own (rngD 0 ((s : Nat) : Int)), .val (.int (s : Nat)), .val (.list (.int (s : Nat) :: rest.map .int)), .val (.int (s : Nat)), z5, z6, z7, z8, z9]) ⟨rfl, _, _, _, _, _, rfl⟩ ?_ ?_
      · rintro q ρ S'' hq ⟨rfl, z5, z6, z7, z8, z9, rfl⟩
        rw [fsF_eq]
        by_cases c1 : q = s
        · have hss := V2_same (f := f) (a := a) (b := b) (k := k) (s := s) (q := q) (.inl c1)
          subst c1
          dsimp? [at_tabV hq, at_rowV (show q < k + 1 by omega), show decide (((q : Nat) : Int) = ((q : Nat) : Int)) = true from decide_eq_true rfl]
          refine Yl.stay ?_
          exact ⟨rfl, _, _, _, _, _, by rw [hss]⟩
        · have hqs : ¬ ((q : Nat) : Int) = ((s : Nat) : Int) := by omega
          by_cases c2 : V f a b s q s = 0
          · have hss := V2_same (f := f) (a := a) (b := b) (k := k) (s := s) (q := q) (.inr c2)
            dsimp? [at_tabV hq, V2_own c1, at_rowV (show s < k + 1 by omega), hsg, Rat.one_mul, hqs, ix_num, num0, c2]
            refine Yl.stay ?_
            exact ⟨rfl, _, _, _, _, _, by rw [hss]⟩
          · have e1 : ∀ z8 z9, loopC (lcF (callN P W0 c) (.acons (.nm 8) (.acons (.nm 9) .anil)) .anil (.call (ι i_minus) (.acons (.var 8) (.acons (.call (ι i_times) (.acons (.var 6) (.acons (.var 9) .anil))) .anil))) [.own (tabV k (V2 f a b s q)), .own (rngD 0 ((s : Nat) : Int)), .val (.int (s : Nat)), .val (.list (.int (s : Nat) :: rest.map .int)), .val (.int (s : Nat)), .val (.int (q : Nat)), .val (enc (V f a b s q s)), z7, z8, z9]) (((rowV k (V f a b s q)).zip (rowV k fun j => L a b j s)).map fun p => .tuple [enc p.1, enc p.2]) S'' = some ((rowV k fun j => V f a b s q j - V f a b s q s * L a b j s).map enc, S'') := by
              intro z8 z9
              rw [← rowV_zip, loopC_enc (g := fun p : Rat × Rat => enc (p.1 - V f a b s q s * p.2)) fun p hp => by
                unfold rowV at hp
                rw [List.zip_map'] at hp
                obtain ⟨j, hj, rfl⟩ := List.mem_map.mp hp
                have hj := List.mem_range.mp hj
                have u1 := (sg_sz (k := k) (j := j)).mul1 (szV q hq j hj)
                have u2 := szV q hq s (by omega)
                have u3 : Sz (0 + 24) 1 (sg k j * L a b j s) := sg_sz.mul1 ((L_sz ok.ha ok.hb).mono (by omega))
                dsimp? [ti (u2.sm (by omega) (by omega)) (u3.sm (by omega) (by omega)), mi (u1.sm (by omega) (by omega)) ((u2.mul1 u3).sm (by omega) (by omega))]]
              rw [List.map_map]
              rfl
            have hlr : lim ((rowV k fun j => V f a b s q j - V f a b s q s * L a b j s).map enc) = some ((rowV k fun j => V f a b s q j - V f a b s q s * L a b j s).map enc) := lim_map (by rw [rowV_len]; omega)
            have hiq : L2.ixN (tabV k (V2 f a b s q)).length ((q : Nat) : Int) = some q := ixN_nat (by rw [tabV_len]; exact hq)
            dsimp? [-lcF_eq, -fsF_eq, at_tabV hq, at_tabV hs2, V2_own c1, V2_at, at_rowV (show s < k + 1 by omega), hsg, Rat.one_mul, hqs, ix_num, num0, c2, zip_enc, e1, hlr, setiF_o0 hiq, tabV_set hq, V2_next c1]
            refine Yl.stay ?_
            exact ⟨rfl, _, _, _, _, _, rfl⟩
      · rintro ρ S'' ⟨rfl, z5, z6, z7, z8, z9, rfl⟩
        have gh : (rngD 0 ((s : Nat) : Int)).length < LIM := LIM_ok (by rw [rng_len]; omega)
        have hend : tabV k (V2 f a b s k) = tabV k (V f a b (s + 1)) := tabV_congr fun i hi j hj => by
          unfold V2
          by_cases c : i = s
          · subst c; rw [if_pos rfl, V_own]
          · rw [if_neg c, if_pos hi]
        have hrn : rngD 0 ((s : Nat) : Int) ++ [.int (s : Nat)] = rngD 0 ((s + 1 : Nat) : Int) := by rw [rng_eq, rng_eq, range_snoc]
        dsimp? [appF_o1 gh, hend, hrn]
        refine Yl.stay ?_
        exact ⟨rfl, _, _, _, _, _, _, _, _, by rw [show min (s + 1) k = s + 1 by omega]⟩
  · rintro ρ S' ⟨rfl, z2, z3, z4, z5, z6, z7, z8, z9, rfl⟩
    have : min cols k = k := by
      rw [← hc]
      split <;> omega
    rw [this]
    dsimp? []
    exact Yl.ret
end PyM

set_option linter.all false
set_option maxRecDepth 100000
set_option exponentiation.threshold 20000
/-! PyN, part 23: upright polynomials. -/
namespace PyM
local macro_rules | `(tactic| dsimp? [$ls,*]) => `(tactic| simp only [bnd_ok, bnd_no, get0, getS, getB0, getBo, getBS, ev_cst, ev_var, ev_bor, ev_bop, ev_neg, ev_notv, ev_band, ev_borr, ev_cmp, ev_chn, ev_ite, ev_call, ev_b1, ev_b2, ev_min3, ev_tup, ev_lst, ev_mkl, ev_ix, ev_sl, ev_rev, ev_lr, ev_lc, evA_nil, evA_cons, evO_nop, evO_cons, evT_band, evT_borr, evT_notv, evT_cmp, evT_chn, evT_call, evT_b1, evT_var, evQ_nil, evQ_cons, evI_S, evI_R1, evI_R2, evI_R3, evI_Z, evI_E, ex_skip, ex_seq, ex_asg, ex_asgO, ex_par, ex_seti, ex_swp, ex_app, ex_ext, ex_ifs, ex_forS, ex_ret, ex_expr, ex_frz, sg0, sgS, ss0, ssS, setTg_nm, setTg_tup, setTgs_nil, setTgs_cons, tgN_nm, tgN_cons, tgN_nil, wipe_nil, wipe_cons, par_nil, par_f, par_t, isB_cst, isB_var, isB_bop, isB_neg, isB_notv, isB_band, isB_borr, isB_cmp, isB_chn, isB_ite, isB_call, isB_b1, isB_b2, isB_min3, isB_tup, isB_lst, isB_ix, isB_sl, isB_rev, isB_lr, isB_lc, isB_tl, isB_mkl, op_add, op_addL, op_addT, op_sub, op_mul, op_mulL, op_mulT, op_fdiv, op_mod, c_lt, c_le, c_gt, c_ge, c_eqi, c_nei, ixF_L, ixF_T, ixF_loc, setiF_c0, setiF_c1, frzF_o0, frzF_v0, frzF_o1, frzF_v1, frzF_o2, frzF_v2, frzF_o3, frzF_v3, frzF_o4, frzF_v4, frzF_o5, frzF_v5, frzF_o6, frzF_v6, frzF_o7, frzF_v7, frzF_o8, frzF_v8, frzF_o9, frzF_v9, frzF_o10, frzF_v10,  sl_L, sl_T, rev_L, rev_T, seq_L, seq_T, o2_gcd, o2_max, o2_min, o1_lenL, o1_lenT, o1_abs, o1_int, o1_listL, o1_listT, o1_listS, o1_tupL, o1_tupT, o1_isTupT, o1_isTupL, o1_isTupI, o1_isIntI, o1_isIntT, o1_isIntL, o1_isBoolI, o1_isBoolT, o1_isBoolL, lim_n0, lim_n1, lim_n2, lim_n3, lim_n4, lim_n5, lim_n6, lim_n7, lim_n8, at0, at1, lcF_eq, fsF_eq, fin_ret, fin_next, Option.map_some, Option.map_none, List.map_cons, List.map_nil, List.length_cons, List.length_nil, List.replicate, List.cons_append, List.nil_append, List.append_nil, Nat.reduceAdd, Nat.reduceSub, Nat.reduceLT, Nat.reduceLeDiff, Bool.or_false, Bool.or_true, Bool.and_true, Bool.true_and, Bool.false_and, Bool.and_false, Bool.false_or, Bool.true_or, Bool.false_eq_true, Bool.not_true, Bool.not_false, if_true, if_false, reduceIte, decide_true, decide_false, Int.reduceEq, Int.reduceNe, Int.reduceLT, Int.reduceLE, Int.reduceNeg, ne_eq, not_false_eq_true, not_true_eq_false, $ls,*])
open PySem PyD B Mo
variable {P : List Def} {ι : Nat → Nat} {n : Nat} {S : Store}
theorem eq_refl_pl {k : Nat} {d : PyD.D} (h : Pl k d) (hk : k ≤ 50) : opC .eq d d = some true := by
  show eqD d d = _
  unfold eqD
  rw [h.shaped (by omega)]
  show some (PyData.eqv d d) = _
  rw [h.facts.2.2]
theorem cl_upright_in (H : Has P ι dep_upright_in) (hn : 4 ≤ n) {s : Nat} {f : Rat} {as bs : List Rat} (ok : StOk s f as bs) (hs1 : s ≤ 1) {M k : Nat} (hM : M ≤ 24) (hk : k ≤ as.length) (hkM : 2 * k ≤ M) : callN P W0 n (ι i_upright_in) [encL (momL f as bs M), .int (k : Nat)] S = some (encL (polyL (fa as) (fa bs) k), S) := by
  obtain ⟨c, rfl⟩ : ∃ c, n = c + 1 := ⟨n - 1, by omega⟩
  rw [H.go (d := d_upright_in) rfl rfl rfl]
  have h12 := ok.h12
  have tb := ok.tb hs1 hk
  have e1 : loopC (lcF (callN P W0 c) (.nm 4) .anil (.bop .add (.sl (.var 0) (.acons (.var 4) .nop) (.acons (.bop .add (.var 4) (.var 1)) .nop)) (.tup (.acons (.call (ι i_opposite) (.acons (.ix (.var 0) (.bop .add (.var 4) (.var 1))) .anil)) .anil))) [.val (.tuple ((momL f as bs M).map enc)), .val (.int (k : Nat)), .no, .no, .no, .no]) (rngD 0 (k : Nat)) S = some ((List.range k).map fun i => .tuple ((rowV k (V f (fa as) (fa bs) 0 i)).map enc), S) := by
    rw [rng_eq]
    refine loopC_enc fun i hi => ?_
    have hi := List.mem_range.mp hi
    have n2 : ((i : Nat) : Int) + ((k : Nat) : Int) = ((i + k : Nat) : Int) := by omega
    have e2 := cl_opposite (H.sub (l' := dep_opposite) rfl) (n := c) (by omega) (a := f * L (fa as) (fa bs) (i + k) 0) (S := S)
    have hrow : (rowE f (fa as) (fa bs) k 0 i).map enc ++ [enc (-(f * L (fa as) (fa bs) (i + k) 0))] = (rowV k (V f (fa as) (fa bs) 0 i)).map enc := by
      unfold rowV rowE
      rw [← range_snoc (q := k), List.map_append]
      have e3 : List.map (fun j => f * E (fa as) (fa bs) 0 i j) (List.range k) = List.map (fun j => sg k j * V f (fa as) (fa bs) 0 i j) (List.range k) := List.map_congr_left fun j hj => by
        have hj := List.mem_range.mp hj
        unfold sg V
        rw [if_neg (by omega), if_neg (by omega), Rat.one_mul]
      have e4 : sg k k * V f (fa as) (fa bs) 0 i k = -(f * L (fa as) (fa bs) (i + k) 0) := by
        unfold sg V
        rw [if_pos rfl, if_neg (by omega), E]; grind
      rw [e3, e4]
      rfl
    have hlr : lim ((rowE f (fa as) (fa bs) k 0 i).map enc ++ [enc (-(f * L (fa as) (fa bs) (i + k) 0))]) = some ((rowE f (fa as) (fa bs) k 0 i).map enc ++ [enc (-(f * L (fa as) (fa bs) (i + k) 0))]) := lim_ok (by simp [rowE_len]; omega)
    rw [hrow] at hlr
    dsimp? [n2, cut_row (show i + k ≤ M by omega), at_momL (show i + k < M by omega), e2, hlr, hrow]
  have hl1 : lim ((List.range k).map fun i => PyData.tuple ((rowV k (V f (fa as) (fa bs) 0 i)).map enc)) = some ((List.range k).map fun i => PyData.tuple ((rowV k (V f (fa as) (fa bs) 0 i)).map enc)) := lim_ok (by simp; omega)
  have e2 := cl_reduced (H.sub (l' := dep_reduced) rfl) (n := c) (by omega) tb (S := S)
  have hpl : Pl 1 (.list (rngD 0 ((k : Nat) : Int))) := .lst fun d hd => by
    rw [rng_eq] at hd
    obtain ⟨i, _, rfl⟩ := List.mem_map.mp hd
    exact .int
  have e3 := eq_refl_pl hpl (by omega)
  have e4 : ∀ z3 z4 z5, loopC (lcF (callN P W0 c) (.nm 5) .anil (.ix (.var 5) (.var 1)) [.val (.tuple ((momL f as bs M).map enc)), .val (.int (k : Nat)), .val (.list (tabV k (V f (fa as) (fa bs) k))), z3, z4, z5]) (tabV k (V f (fa as) (fa bs) k)) S = some (((List.range k).map (p (fa as) (fa bs) k)).map enc, S) := by
    intro z3 z4 z5
    have hx : ∀ ds, loopC (lcF (callN P W0 c) (.nm 5) .anil (.ix (.var 5) (.var 1)) [.val (.tuple ((momL f as bs M).map enc)), .val (.int (k : Nat)), .val (.list ds), z3, z4, z5]) (tabV k (V f (fa as) (fa bs) k)) S = some ((List.range k).map fun i => enc (p (fa as) (fa bs) k i), S) := fun ds => by
      unfold tabV
      refine loopC_enc fun i hi => ?_
      have hi := List.mem_range.mp hi
      have hv : sg k k * V f (fa as) (fa bs) k i k = p (fa as) (fa bs) k i := by
        unfold sg V
        rw [if_pos rfl, if_pos hi, U_own _ _ hi]; grind
      dsimp? [at_rowV (show k < k + 1 by omega), hv]
    rw [hx, List.map_map]
    rfl
  have hl4 : lim (((List.range k).map (p (fa as) (fa bs) k)).map enc) = some (((List.range k).map (p (fa as) (fa bs) k)).map enc) := lim_map (by simp; omega)
  have hpoly : ((List.range k).map (p (fa as) (fa bs) k)).map enc ++ [enc 1] = (polyL (fa as) (fa bs) k).map enc := by
    unfold polyL
    rw [← range_snoc (q := k), List.map_append, p_diag]; rfl
  have hl5 : lim ((polyL (fa as) (fa bs) k).map enc) = some ((polyL (fa as) (fa bs) k).map enc) := lim_map (by rw [polyL_len]; omega)
  have hlr : (((k : Nat) : Int) ≤ 100000 ∧ (0 : Int) ≤ ((k : Nat) : Int)) = True := eq_true (by omega)
  unfold encL
  dsimp? [d_upright_in, -lcF_eq, rng_ok (show k < 2 ^ 60 by omega), e1, hl1, e2, hlr, e3, e4, hl4, enc1s, hpoly, hl5]
theorem cl_need_many (H : Has P ι dep_need_many) (hn : 1 ≤ n) {xs : List Rat} {k : Nat} (hk : k ≤ xs.length) : callN P W0 n (ι i_need_many) [encL xs, .int (k : Nat)] S = some (.none, S) := by
  obtain ⟨m, rfl⟩ : ∃ m, n = m + 1 := ⟨n - 1, by omega⟩
  rw [H.go (d := d_need_many) rfl rfl rfl]
  have : ¬ (((xs.length : Nat) : Int) < ((k : Nat) : Int)) := by omega
  unfold encL
  dsimp? [d_need_many, List.length_map, this]
theorem cl_need_upright (H : Has P ι dep_need_upright) (hn : 5 ≤ n) {s : Nat} {f : Rat} {as bs : List Rat} (ok : StOk s f as bs) (hs1 : s ≤ 1) {M k : Nat} (hM1 : 1 ≤ M) (hM : M ≤ 24) (hk : k ≤ as.length) (hkM : 2 * k ≤ M) : callN P W0 n (ι i_need_upright) [encL (momL f as bs M), .int (k : Nat)] S = some (encL (polyL (fa as) (fa bs) k), S) := by
  obtain ⟨m, rfl⟩ : ∃ m, n = m + 1 := ⟨n - 1, by omega⟩
  rw [H.go (d := d_need_upright) rfl rfl rfl]
  have h12 := ok.h12
  have e1 := cl_need_row (H.sub (l' := dep_need_row) rfl) (n := m) (S := S) (by omega) (xs := momL f as bs M) (by rw [momL_len]; omega) (by rw [momL_len]; omega)
  have e2 := cl_need_number (H.sub (l' := dep_need_number) rfl) (n := m) (S := S) (by omega) (i := (k : Nat)) (lo := 0) (hi := 12) (by omega) (by omega)
  have e3 := cl_need_many (H.sub (l' := dep_need_many) rfl) (n := m) (S := S) (by omega) (xs := momL f as bs M) (k := 2 * k) (by rw [momL_len]; omega)
  have e4 := cl_upright_in (H.sub (l' := dep_upright_in) rfl) (n := m) (S := S) (by omega) ok hs1 hM hk hkM
  have c1 : (2 : Int) * ((k : Nat) : Int) = ((2 * k : Nat) : Int) := by omega
  have m1 : mulOk 2 ((k : Nat) : Int) = true := mulS (by rw [Int.natAbs_natCast]; omega)
  have e5 : opC .isN (encL (polyL (fa as) (fa bs) k)) .none = some false := rfl
  dsimp? [d_need_upright, e1, e2, m1, c1, e3, e4, e5]
theorem cl_upright_of (H : Has P ι dep_upright_of) (hn : 6 ≤ n) {s : Nat} {f : Rat} {as bs : List Rat} (ok : StOk s f as bs) (hs1 : s ≤ 1) {M k : Nat} (hM1 : 1 ≤ M) (hM : M ≤ 24) (hk : k ≤ as.length) (hkM : 2 * k ≤ M) : callN P W0 n (ι i_upright_of) [encL (momL f as bs M), .int (k : Nat)] S = some (encL (polyL (fa as) (fa bs) k), S) := by
  obtain ⟨m, rfl⟩ : ∃ m, n = m + 1 := ⟨n - 1, by omega⟩
  rw [H.go (d := d_upright_of) rfl rfl rfl]
  have e1 := cl_need_upright (H.sub (l' := dep_need_upright) rfl) (n := m) (S := S) (by omega) ok hs1 hM1 hM hk hkM
  dsimp? [d_upright_of, e1]
end PyM

set_option linter.all false
set_option maxRecDepth 100000
set_option exponentiation.threshold 20000
/-! PyN, part 24: rules grown. -/
namespace PyM
local macro_rules | `(tactic| dsimp? [$ls,*]) => `(tactic| simp only [bnd_ok, bnd_no, get0, getS, getB0, getBo, getBS, ev_cst, ev_var, ev_bor, ev_bop, ev_neg, ev_notv, ev_band, ev_borr, ev_cmp, ev_chn, ev_ite, ev_call, ev_b1, ev_b2, ev_min3, ev_tup, ev_lst, ev_mkl, ev_ix, ev_sl, ev_rev, ev_lr, ev_lc, evA_nil, evA_cons, evO_nop, evO_cons, evT_band, evT_borr, evT_notv, evT_cmp, evT_chn, evT_call, evT_b1, evT_var, evQ_nil, evQ_cons, evI_S, evI_R1, evI_R2, evI_R3, evI_Z, evI_E, ex_skip, ex_seq, ex_asg, ex_asgO, ex_par, ex_seti, ex_swp, ex_app, ex_ext, ex_ifs, ex_forS, ex_ret, ex_expr, ex_frz, sg0, sgS, ss0, ssS, setTg_nm, setTg_tup, setTgs_nil, setTgs_cons, tgN_nm, tgN_cons, tgN_nil, wipe_nil, wipe_cons, par_nil, par_f, par_t, isB_cst, isB_var, isB_bop, isB_neg, isB_notv, isB_band, isB_borr, isB_cmp, isB_chn, isB_ite, isB_call, isB_b1, isB_b2, isB_min3, isB_tup, isB_lst, isB_ix, isB_sl, isB_rev, isB_lr, isB_lc, isB_tl, isB_mkl, op_add, op_addL, op_addT, op_sub, op_mul, op_mulL, op_mulT, op_fdiv, op_mod, c_lt, c_le, c_gt, c_ge, c_eqi, c_nei, ixF_L, ixF_T, ixF_loc, setiF_c0, setiF_c1, frzF_o0, frzF_v0, frzF_o1, frzF_v1, frzF_o2, frzF_v2, frzF_o3, frzF_v3, frzF_o4, frzF_v4, frzF_o5, frzF_v5, frzF_o6, frzF_v6, frzF_o7, frzF_v7, frzF_o8, frzF_v8, frzF_o9, frzF_v9, frzF_o10, frzF_v10,  sl_L, sl_T, rev_L, rev_T, seq_L, seq_T, o2_gcd, o2_max, o2_min, o1_lenL, o1_lenT, o1_abs, o1_int, o1_listL, o1_listT, o1_listS, o1_tupL, o1_tupT, o1_isTupT, o1_isTupL, o1_isTupI, o1_isIntI, o1_isIntT, o1_isIntL, o1_isBoolI, o1_isBoolT, o1_isBoolL, lim_n0, lim_n1, lim_n2, lim_n3, lim_n4, lim_n5, lim_n6, lim_n7, lim_n8, at0, at1, lcF_eq, fsF_eq, fin_ret, fin_next, Option.map_some, Option.map_none, List.map_cons, List.map_nil, List.length_cons, List.length_nil, List.replicate, List.cons_append, List.nil_append, List.append_nil, Nat.reduceAdd, Nat.reduceSub, Nat.reduceLT, Nat.reduceLeDiff, Bool.or_false, Bool.or_true, Bool.and_true, Bool.true_and, Bool.false_and, Bool.and_false, Bool.false_or, Bool.true_or, Bool.false_eq_true, Bool.not_true, Bool.not_false, if_true, if_false, reduceIte, decide_true, decide_false, Int.reduceEq, Int.reduceNe, Int.reduceLT, Int.reduceLE, Int.reduceNeg, ne_eq, not_false_eq_true, not_true_eq_false, $ls,*])
open PySem PyD B Mo
variable {P : List Def} {ι : Nat → Nat} {n : Nat} {S : Store}
/-- what a rule tells at a spot -/
def toldS (rule row : List Rat) (at_ : Nat) : Rat := Sg rule.length fun i => rule.getD i 0 * row.getD (at_ - 1 - i) 0
theorem cut_take {xs : List Rat} {m : Nat} (h : m ≤ xs.length) : cutD (xs.map enc) none (some ((m : Nat) : Int)) = (xs.take m).map enc := cutT h
theorem cl_told_in (H : Has P ι dep_told_in) (hn : 3 ≤ n) {rule row : List Rat} {at_ : Nat} {k l : Nat} (hr : ∀ x ∈ rule, Sz k 1 x) (hw : ∀ x ∈ row, Sz l 1 x) (hkl : k + l ≤ 150) (h1 : rule.length ≤ at_) (h2 : at_ ≤ row.length) (h3 : rule.length ≤ 60) : callN P W0 n (ι i_told_in) [encL rule, encL (row.take at_)] S = some (enc (toldS rule row at_), S) := by
  obtain ⟨c, rfl⟩ : ∃ c, n = c + 1 := ⟨n - 1, by omega⟩
  rw [H.go (d := d_told_in) rfl rfl rfl]
  have hz : zipD (rule.map enc) ((row.take at_).map enc).reverse = (List.range rule.length).map fun i => .tuple [enc (rule.getD i 0), enc (row.getD (at_ - 1 - i) 0)] := by
    unfold zipD
    refine List.ext_getElem (by simp; omega) fun i h4 h5 => ?_
    simp only [List.length_map, List.length_range] at h5
    simp only [List.getElem_map, List.getElem_zip, List.getElem_reverse, List.length_map, List.length_take, List.getElem_take, List.getElem_range]
    rw [List.getD_eq_getElem?_getD, List.getD_eq_getElem?_getD, List.getElem?_eq_getElem h5, List.getElem?_eq_getElem (show at_ - 1 - i < row.length by omega)]
    simp only [Option.getD_some]
    congr 3
    congr 1
    congr 1
    omega
  apply Yl.fin
  unfold encL
  dsimp? [d_told_in, -fsF_eq, hz, enc0s]
  refine Yl.lst (fun i ρ S' => S' = S ∧ ∃ z3 z4, ρ = [.val (.tuple (rule.map enc)), .val (.tuple ((row.take at_).map enc)), .val (enc (Sg i fun i => rule.getD i 0 * row.getD (at_ - 1 - i) 0)), z3, z4]) ⟨rfl, _, _, rfl⟩ ?_ ?_
  · rintro i ρ S' hi ⟨rfl, z3, z4, rfl⟩
    simp only [List.getElem_range]
    have g : ∀ (zs : List Rat) (k : Nat), (∀ x ∈ zs, Sz k 1 x) → ∀ j, Sz k 1 (zs.getD j 0) := by
      intro zs k hz j
      by_cases c : j < zs.length
      · rw [List.getD_eq_getElem?_getD, List.getElem?_eq_getElem c]; exact hz _ (List.getElem_mem c)
      · rw [getD_out (by omega)]; exact Sz.zero
    have sS : ∀ m, Sz (k + l) m (Sg m fun i => rule.getD i 0 * row.getD (at_ - 1 - i) 0) := by
      intro m
      induction m with
      | zero => exact Sz.zero
      | succ m ih => exact ih.add ((g rule k hr m).mul (g row l hw _))
    rw [List.length_range] at hi
    have ti := cl_times (H.sub (l' := dep_times) rfl) (n := c) (by omega) ((g rule k hr i).sm (by omega) (by omega)) ((g row l hw (at_ - 1 - i)).sm (by omega) (by omega)) (S := S')
    have pl := cl_plus (H.sub (l' := dep_plus) rfl) (n := c) (by omega) ((sS i).sm (by omega) (by omega)) (((g rule k hr i).mul (g row l hw (at_ - 1 - i))).sm (by omega) (by omega)) (S := S')
    rw [fsF_eq]
    dsimp? [ti, pl]
    refine Yl.stay ?_
    exact ⟨rfl, _, _, rfl⟩
  · rintro ρ S' ⟨rfl, z3, z4, rfl⟩
    rw [List.length_range]
    dsimp? []
    exact Yl.ret
structure Gr where
  rule : List Rat
  other : List Rat
  gap : Rat
  far : Nat
def mendM (g : Gr) (by_ : Rat) : List Rat := List.replicate (g.far - 1) 0 ++ by_ :: g.other.map fun x => -by_ * x
def mendL (g : Gr) (by_ : Rat) (long : Nat) : List Rat := ((g.rule ++ List.replicate (long - g.rule.length) 0).zip (mendM g by_ ++ List.replicate (long - (mendM g by_).length) 0)).map fun (p : Rat × Rat) => p.1 + p.2
def missS (row : List Rat) (at_ : Nat) (g : Gr) : Rat := row.getD at_ 0 - toldS g.rule row at_
def growS (row : List Rat) (at_ : Nat) (g : Gr) : Gr :=
  if missS row at_ g = 0 then ⟨g.rule, g.other, g.gap, g.far + 1⟩
  else if g.rule.length < max g.rule.length (at_ + 1 - g.rule.length) then ⟨mendL g (missS row at_ g / g.gap) (max g.rule.length (at_ + 1 - g.rule.length)), g.rule, missS row at_ g, 1⟩
  else ⟨mendL g (missS row at_ g / g.gap) (max g.rule.length (at_ + 1 - g.rule.length)), g.other, g.gap, g.far + 1⟩
/-- sizes of a state -/
structure GrOk (k : Nat) (row : List Rat) (at_ : Nat) (g : Gr) : Prop where
  hr : ∀ x ∈ g.rule, Sz k 1 x
  ho : ∀ x ∈ g.other, Sz k 1 x
  hg : Sz k 1 g.gap
  g0 : g.gap ≠ 0
  hb : Sz k 1 (missS row at_ g / g.gap)
  hm : Sz k 1 (missS row at_ g)
  f1 : 1 ≤ g.far
  lr : g.rule.length ≤ at_
  lf : g.far + g.other.length ≤ at_ + 1
  ll : g.far + g.other.length ≤ max g.rule.length (at_ + 1 - g.rule.length)
theorem mendM_len {g : Gr} {y : Rat} (h : 1 ≤ g.far) : (mendM g y).length = g.far + g.other.length := by
  unfold mendM
  simp; omega
theorem enum_map {m : Nat} {g : Nat → PyD.D} : enumD ((List.range m).map g) = (List.range m).map fun i => .tuple [.int ((i : Nat) : Int), g i] := by
  unfold enumD
  refine List.ext_getElem (by simp) fun i h1 h2 => ?_
  simp
theorem row_range {xs : List Rat} : xs.map enc = (List.range xs.length).map fun i => enc (xs.getD i 0) := by
  refine List.ext_getElem (by simp) fun i h1 h2 => ?_
  simp only [List.length_map, List.length_range] at h2
  simp only [List.getElem_map, List.getElem_range]
  rw [List.getD_eq_getElem?_getD, List.getElem?_eq_getElem h2]; rfl
theorem cl_grown_in (H : Has P ι dep_grown_in) (hn : 4 ≤ n) {row : List Rat} {st : Nat → Gr} {k l : Nat} (hst0 : st 0 = ⟨[], [], 1, 1⟩) (hst : ∀ i, i < row.length → st (i + 1) = growS row i (st i)) (ok : ∀ i, i < row.length → GrOk k row i (st i)) (hw : ∀ x ∈ row, Sz l 1 x) (hk : k ≤ 70) (hkl : k + l ≤ 150) (hlr : row.length ≤ 50) : callN P W0 n (ι i_grown_in) [encL row] S = some (.list ((List.range (row.length + 1)).map fun r => encL (st r).rule), S) := by
  obtain ⟨c, rfl⟩ : ∃ c, n = c + 1 := ⟨n - 1, by omega⟩
  rw [H.go (d := d_grown_in) rfl rfl rfl]
  have ti : ∀ {x y : Rat}, sm x → sm y → ∀ {S}, callN P W0 c (ι i_times) [enc x, enc y] S = some (enc (x * y), S) := fun {x y} hx hy {S} => cl_times (H.sub (l' := dep_times) rfl) (by omega) hx hy
  have pl : ∀ {x y : Rat}, sm x → sm y → ∀ {S}, callN P W0 c (ι i_plus) [enc x, enc y] S = some (enc (x + y), S) := fun {x y} hx hy {S} => cl_plus (H.sub (l' := dep_plus) rfl) (by omega) hx hy
  have mi : ∀ {x y : Rat}, sm x → sm y → ∀ {S}, callN P W0 c (ι i_minus) [enc x, enc y] S = some (enc (x - y), S) := fun {x y} hx hy {S} => cl_minus (H.sub (l' := dep_minus) rfl) (by omega) hx hy
  have ov : ∀ {x y : Rat}, sm x → sm y → y ≠ 0 → ∀ {S}, callN P W0 c (ι i_over) [enc x, enc y] S = some (enc (x / y), S) := fun {x y} hx hy h0 {S} => cl_over (H.sub (l' := dep_over) rfl) (by omega) hx hy h0
  have op : ∀ {x : Rat} {S}, callN P W0 c (ι i_opposite) [enc x] S = some (enc (-x), S) := fun {x S} => cl_opposite (H.sub (l' := dep_opposite) rfl) (by omega)
  apply Yl.fin
  unfold encL
  dsimp? [d_grown_in, -lcF_eq, -fsF_eq]
  rw [row_range, enum_map, ← row_range]
  refine Yl.lst (fun i ρ S' => S' = S ∧ ∃ z6 z7 z8 z9 z10 z11 z12 z13 z14 z15, ρ = [.val (.tuple (row.map enc)), .val (encL (st i).rule), .val (encL (st i).other), .val (enc (st i).gap), .val (.int ((st i).far : Nat)), .own ((List.range (i + 1)).map fun r => encL (st r).rule), z6, z7, z8, z9, z10, z11, z12, z13, z14, z15]) ⟨rfl, .no, .no, .no, .no, .no, .no, .no, .no, .no, .no, by
    simp only [Nat.zero_add, List.range_succ, List.range_zero, List.nil_append, List.map_cons, List.map_nil]
    rw [hst0]; rfl⟩ ?_ ?_
  · rintro i ρ S' hi ⟨rfl, z6, z7, z8, z9, z10, z11, z12, z13, z14, z15, rfl⟩
    rw [List.length_range] at hi
    simp only [List.getElem_range]
    have gok := ok i hi
    have hnext := hst i hi
    have e1 := cl_told_in (H.sub (l' := dep_told_in) rfl) (n := c) (by omega) gok.hr hw hkl gok.lr (by omega) (by have := gok.lr; omega) (S := S')
    have so : sm (row.getD i 0) := by
      rw [List.getD_eq_getElem?_getD, List.getElem?_eq_getElem hi]
      exact (hw _ (List.getElem_mem hi)).sm (by omega) (by omega)
    have g : ∀ (zs : List Rat) (k : Nat), (∀ x ∈ zs, Sz k 1 x) → ∀ j, Sz k 1 (zs.getD j 0) := by
      intro zs k hz j
      by_cases c : j < zs.length
      · rw [List.getD_eq_getElem?_getD, List.getElem?_eq_getElem c]; exact hz _ (List.getElem_mem c)
      · rw [getD_out (by omega)]; exact Sz.zero
    have sS : ∀ m, Sz (k + l) m (Sg m fun j => (st i).rule.getD j 0 * row.getD (i - 1 - j) 0) := by
      intro m
      induction m with
      | zero => exact Sz.zero
      | succ m ih => exact ih.add ((g (st i).rule k gok.hr m).mul (g row l hw _))
    have st1 : sm (toldS (st i).rule row i) := (sS _).sm (by omega) (by have := gok.lr; omega)
    have e2 : callN P W0 c (ι i_minus) [enc (row.getD i 0), enc (toldS (st i).rule row i)] S' = some (enc (missS row i (st i)), S') := mi so st1
    have gl : ((List.range (i + 1)).map fun r => encL (st r).rule).length < LIM := LIM_ok (by simp; omega)
    have hct := cut_take (xs := row) (m := i) (by omega)
    have e2' := e2
    unfold encL at e1
    rw [fsF_eq]
    have hfin : ∀ r, r = (st (i + 1)).rule → ((List.range (i + 1)).map fun r => encL (st r).rule) ++ [encL r] = (List.range (i + 1 + 1)).map fun r => encL (st r).rule := by
      intro r hr
      rw [hr, ← range_snoc (q := i + 1)]
    by_cases cm : missS row i (st i) = 0
    · have hn1 : st (i + 1) = ⟨(st i).rule, (st i).other, (st i).gap, (st i).far + 1⟩ := by
        rw [hnext]
        unfold growS
        rw [if_pos cm]
      have hff := hfin (st i).rule (by rw [hn1])
      have nf : (((st i).far : Nat) : Int) + 1 = (((st i).far + 1 : Nat) : Int) := by omega
      rw [cm] at e2
      unfold encL at hff ⊢
      rw [hn1]
      unfold encL at gl
      dsimp? [-lcF_eq, -fsF_eq, hct, e1, e2, ix_num, num0, appF_o5 gl, hff, nf]
      refine Yl.stay ?_
      exact ⟨rfl, _, _, _, _, _, _, _, _, _, _, rfl⟩
    · have lr := gok.lr
      have lf := gok.lf
      have ll := gok.ll
      have f1 := gok.f1
      generalize hby : missS row i (st i) / (st i).gap = y
      have hbz := gok.hb
      rw [hby] at hbz
      generalize hlong : max (st i).rule.length (i + 1 - (st i).rule.length) = long at ll
      have hlong2 : long ≤ i + 1 := by omega
      have hlong3 : (st i).rule.length ≤ long := by omega
      have smy := hbz.sm (by omega) (by omega)
      have smny := hbz.neg.sm (by omega) (by omega)
      have e3 : callN P W0 c (ι i_over) [enc (missS row i (st i)), enc (st i).gap] S' = some (enc y, S') := by
        rw [ov (gok.hm.sm (by omega) (by omega)) (gok.hg.sm (by omega) (by omega)) gok.g0, hby]
      have n1 : ((i : Nat) : Int) + 1 - (((st i).rule.length : Nat) : Int) = ((i + 1 - (st i).rule.length : Nat) : Int) := by omega
      have n2 : (((st i).far : Nat) : Int) - 1 = (((st i).far - 1 : Nat) : Int) := by omega
      have n3 : ((long : Nat) : Int) - (((st i).rule.length : Nat) : Int) = ((long - (st i).rule.length : Nat) : Int) := by omega
      have hml := mendM_len (g := st i) (y := y) f1
      have n4 : ((long : Nat) : Int) - (((mendM (st i) y).length : Nat) : Int) = ((long - (mendM (st i) y).length : Nat) : Int) := by omega
      have n5 : (((st i).far : Nat) : Int) + 1 = (((st i).far + 1 : Nat) : Int) := by omega
      have e4 : ∀ z7 z10 z11 z12 z13 z14 z15 z6 z8 z5, loopC (lcF (callN P W0 c) (.nm 7) .anil (.call (ι i_times) (.acons (.call (ι i_opposite) (.acons (.var 9) .anil)) (.acons (.var 7) .anil))) [.val (.tuple (row.map enc)), .val (.tuple ((st i).rule.map enc)), .val (.tuple ((st i).other.map enc)), .val (enc (st i).gap), .val (.int ((st i).far : Nat)), z5, z6, z7, z8, .val (enc y), z10, z11, z12, z13, z14, z15]) ((st i).other.map enc) S' = some (((st i).other.map fun x => -y * x).map enc, S') := by
        intro z7 z10 z11 z12 z13 z14 z15 z6 z8 z5
        rw [loopC_enc (g := fun x => enc (-y * x)) fun x hx => by
          dsimp? [op, ti smny ((gok.ho x hx).sm (by omega) (by omega))], List.map_map]
        rfl
      have l4 : lim (((st i).other.map fun x => -y * x).map enc) = some (((st i).other.map fun x => -y * x).map enc) := lim_map (by simp; omega)
      have l1 : lim ((List.replicate ((st i).far - 1) (0 : Rat)).map enc ++ [enc y]) = some ((List.replicate ((st i).far - 1) (0 : Rat)).map enc ++ [enc y]) := lim_ok (by simp; omega)
      have hmend : (List.replicate ((st i).far - 1) (0 : Rat)).map enc ++ [enc y] ++ ((st i).other.map fun x => -y * x).map enc = (mendM (st i) y).map enc := by
        unfold mendM
        simp
      have l2 : lim ((mendM (st i) y).map enc) = some ((mendM (st i) y).map enc) := lim_map (by omega)
      have hwide : (st i).rule.map enc ++ (List.replicate (long - (st i).rule.length) (0 : Rat)).map enc = ((st i).rule ++ List.replicate (long - (st i).rule.length) 0).map enc := by rw [List.map_append]
      have l3 : lim (((st i).rule ++ List.replicate (long - (st i).rule.length) 0).map enc) = some (((st i).rule ++ List.replicate (long - (st i).rule.length) 0).map enc) := lim_map (by simp; omega)
      have hwm : (mendM (st i) y).map enc ++ (List.replicate (long - (mendM (st i) y).length) (0 : Rat)).map enc = (mendM (st i) y ++ List.replicate (long - (mendM (st i) y).length) 0).map enc := by rw [List.map_append]
      have l5 : lim ((mendM (st i) y ++ List.replicate (long - (mendM (st i) y).length) 0).map enc) = some ((mendM (st i) y ++ List.replicate (long - (mendM (st i) y).length) 0).map enc) := lim_map (by simp; omega)
      have mz : ∀ x ∈ mendM (st i) y, Sz (k + k) 1 x := by
        intro x hx
        unfold mendM at hx
        rcases List.mem_append.mp hx with h | h
        · rw [(List.mem_replicate.mp h).2]; exact Sz.zero
        · rcases List.mem_cons.mp h with h | h
          · rw [h]; exact hbz.mono (by omega)
          · obtain ⟨w, hw', rfl⟩ := List.mem_map.mp h
            exact hbz.neg.mul1 (gok.ho w hw')
      have e5 : ∀ z5 z6 z7 z8 z10 z13 z14 z15 z1 z2 z3 z4 z9 z11 z12, loopC (lcF (callN P W0 c) (.acons (.nm 14) (.acons (.nm 15) .anil)) .anil (.call (ι i_plus) (.acons (.var 14) (.acons (.var 15) .anil))) [.val (.tuple (row.map enc)), z1, z2, z3, z4, z5, z6, z7, z8, z9, z10, z11, z12, z13, z14, z15]) ((((st i).rule ++ List.replicate (long - (st i).rule.length) 0).zip (mendM (st i) y ++ List.replicate (long - (mendM (st i) y).length) 0)).map fun (p : Rat × Rat) => .tuple [enc p.1, enc p.2]) S' = some ((mendL (st i) y long).map enc, S') := by
        intro z5 z6 z7 z8 z10 z13 z14 z15 z1 z2 z3 z4 z9 z11 z12
        unfold mendL
        rw [loopC_enc (g := fun p : Rat × Rat => enc (p.1 + p.2)) fun q hq => by
          have q1 := (List.of_mem_zip hq).1
          have q2 := (List.of_mem_zip hq).2
          have u1 : Sz k 1 q.1 := by
            rcases List.mem_append.mp q1 with h | h
            · exact gok.hr _ h
            · rw [(List.mem_replicate.mp h).2]; exact Sz.zero
          have u2 : Sz (k + k) 1 q.2 := by
            rcases List.mem_append.mp q2 with h | h
            · exact mz _ h
            · rw [(List.mem_replicate.mp h).2]; exact Sz.zero
          dsimp? [pl (u1.sm (by omega) (by omega)) (u2.sm (by omega) (by omega))], List.map_map]
        rfl
      have lml : (mendL (st i) y long).length = long := by
        unfold mendL
        simp; omega
      have l6 : lim ((mendL (st i) y long).map enc) = some ((mendL (st i) y long).map enc) := lim_map (by omega)
      by_cases cl : (st i).rule.length < long
      · have hn1 : st (i + 1) = ⟨mendL (st i) y long, (st i).rule, missS row i (st i), 1⟩ := by
          rw [hnext]
          unfold growS
          rw [if_neg cm, hlong, if_pos cl, hby]
        have hff := hfin (mendL (st i) y long) (by rw [hn1])
        have hlt : (((st i).rule.length : Nat) : Int) < ((long : Nat) : Int) := by omega
        unfold encL at hff ⊢
        rw [hn1]
        unfold encL at gl
        dsimp? [-lcF_eq, -fsF_eq, hct, e1, e2, ix_num, num0, cm, e3, List.length_map, n1, max_nat, hlong, n2, rep_T (k := (st i).far - 1) (xs := [_]) (by omega) (show 1 ≤ 1000 by omega), flat_one, rep_enc, l1, e4, l4, hmend, l2, n3, rep_T (k := long - (st i).rule.length) (xs := [_]) (by omega) (show 1 ≤ 1000 by omega), hwide, l3, n4, rep_T (k := long - (mendM (st i) y).length) (xs := [_]) (by omega) (show 1 ≤ 1000 by omega), hwm, l5, zip_enc, e5, l6, hlt, appF_o5 gl, hff]
        refine Yl.stay ?_
        exact ⟨rfl, _, _, _, _, _, _, _, _, _, _, rfl⟩
      · have hn1 : st (i + 1) = ⟨mendL (st i) y long, (st i).other, (st i).gap, (st i).far + 1⟩ := by
          rw [hnext]
          unfold growS
          rw [if_neg cm, hlong, if_neg cl, hby]
        have hff := hfin (mendL (st i) y long) (by rw [hn1])
        have hlt : ¬ (((st i).rule.length : Nat) : Int) < ((long : Nat) : Int) := by omega
        unfold encL at hff ⊢
        rw [hn1]
        unfold encL at gl
        dsimp? [-lcF_eq, -fsF_eq, hct, e1, e2, ix_num, num0, cm, e3, List.length_map, n1, max_nat, hlong, n2, rep_T (k := (st i).far - 1) (xs := [_]) (by omega) (show 1 ≤ 1000 by omega), flat_one, rep_enc, l1, e4, l4, hmend, l2, n3, rep_T (k := long - (st i).rule.length) (xs := [_]) (by omega) (show 1 ≤ 1000 by omega), hwide, l3, n4, rep_T (k := long - (mendM (st i) y).length) (xs := [_]) (by omega) (show 1 ≤ 1000 by omega), hwm, l5, zip_enc, e5, l6, hlt, n5, appF_o5 gl, hff]
        refine Yl.stay ?_
        exact ⟨rfl, _, _, _, _, _, _, _, _, _, _, rfl⟩
  · rintro ρ S' ⟨rfl, z6, z7, z8, z9, z10, z11, z12, z13, z14, z15, rfl⟩
    rw [List.length_range]
    dsimp? []
    exact Yl.ret
end PyM

set_option linter.all false
set_option maxRecDepth 100000
set_option exponentiation.threshold 20000
/-! PyN, part 25: the rule of a row of steps. -/
namespace PyM
local macro_rules | `(tactic| dsimp? [$ls,*]) => `(tactic| simp only [bnd_ok, bnd_no, get0, getS, getB0, getBo, getBS, ev_cst, ev_var, ev_bor, ev_bop, ev_neg, ev_notv, ev_band, ev_borr, ev_cmp, ev_chn, ev_ite, ev_call, ev_b1, ev_b2, ev_min3, ev_tup, ev_lst, ev_mkl, ev_ix, ev_sl, ev_rev, ev_lr, ev_lc, evA_nil, evA_cons, evO_nop, evO_cons, evT_band, evT_borr, evT_notv, evT_cmp, evT_chn, evT_call, evT_b1, evT_var, evQ_nil, evQ_cons, evI_S, evI_R1, evI_R2, evI_R3, evI_Z, evI_E, ex_skip, ex_seq, ex_asg, ex_asgO, ex_par, ex_seti, ex_swp, ex_app, ex_ext, ex_ifs, ex_forS, ex_ret, ex_expr, ex_frz, sg0, sgS, ss0, ssS, setTg_nm, setTg_tup, setTgs_nil, setTgs_cons, tgN_nm, tgN_cons, tgN_nil, wipe_nil, wipe_cons, par_nil, par_f, par_t, isB_cst, isB_var, isB_bop, isB_neg, isB_notv, isB_band, isB_borr, isB_cmp, isB_chn, isB_ite, isB_call, isB_b1, isB_b2, isB_min3, isB_tup, isB_lst, isB_ix, isB_sl, isB_rev, isB_lr, isB_lc, isB_tl, isB_mkl, op_add, op_addL, op_addT, op_sub, op_mul, op_mulL, op_mulT, op_fdiv, op_mod, c_lt, c_le, c_gt, c_ge, c_eqi, c_nei, ixF_L, ixF_T, ixF_loc, setiF_c0, setiF_c1, frzF_o0, frzF_v0, frzF_o1, frzF_v1, frzF_o2, frzF_v2, frzF_o3, frzF_v3, frzF_o4, frzF_v4, frzF_o5, frzF_v5, frzF_o6, frzF_v6, frzF_o7, frzF_v7, frzF_o8, frzF_v8, frzF_o9, frzF_v9, frzF_o10, frzF_v10,  sl_L, sl_T, rev_L, rev_T, seq_L, seq_T, o2_gcd, o2_max, o2_min, o1_lenL, o1_lenT, o1_abs, o1_int, o1_listL, o1_listT, o1_listS, o1_tupL, o1_tupT, o1_isTupT, o1_isTupL, o1_isTupI, o1_isIntI, o1_isIntT, o1_isIntL, o1_isBoolI, o1_isBoolT, o1_isBoolL, lim_n0, lim_n1, lim_n2, lim_n3, lim_n4, lim_n5, lim_n6, lim_n7, lim_n8, at0, at1, lcF_eq, fsF_eq, fin_ret, fin_next, Option.map_some, Option.map_none, List.map_cons, List.map_nil, List.length_cons, List.length_nil, List.replicate, List.cons_append, List.nil_append, List.append_nil, Nat.reduceAdd, Nat.reduceSub, Nat.reduceLT, Nat.reduceLeDiff, Bool.or_false, Bool.or_true, Bool.and_true, Bool.true_and, Bool.false_and, Bool.and_false, Bool.false_or, Bool.true_or, Bool.false_eq_true, Bool.not_true, Bool.not_false, if_true, if_false, reduceIte, decide_true, decide_false, Int.reduceEq, Int.reduceNe, Int.reduceLT, Int.reduceLE, Int.reduceNeg, ne_eq, not_false_eq_true, not_true_eq_false, $ls,*])
open PySem PyD B Mo
variable {P : List Def} {ι : Nat → Nat} {n : Nat} {S : Store}
def ruleOf (q : Nat → Rat) (m : Nat) : List Rat := (List.range m).map fun i => -q (m - 1 - i)
theorem ruleOf_len {q : Nat → Rat} {m : Nat} : (ruleOf q m).length = m := by simp [ruleOf]
theorem ruleOf_at {q : Nat → Rat} {m i : Nat} (h : i < m) : (ruleOf q m).getD i 0 = -q (m - 1 - i) := by
  unfold ruleOf
  rw [map_at, if_pos h]
theorem ext_getD {xs ys : List Rat} (hl : xs.length = ys.length) (h : ∀ i, i < xs.length → xs.getD i 0 = ys.getD i 0) : xs = ys := by
  refine List.ext_getElem hl fun i h1 h2 => ?_
  have := h i h1
  rw [List.getD_eq_getElem?_getD, List.getD_eq_getElem?_getD, List.getElem?_eq_getElem h1, List.getElem?_eq_getElem h2] at this
  exact this
theorem miss_of {f : Rat} {as bs : List Rat} {q : Nat → Rat} {m t M : Nat} {g : Gr} (hg : g.rule = ruleOf q m) (hq : q m = 1) (ht : t + m < M) : missS (momL f as bs M) (t + m) g = f * Sg (m + 1) fun i => q i * L (fa as) (fa bs) (t + i) 0 := by
  unfold missS toldS
  rw [hg, ruleOf_len, momL_at ht, Sg, hq]
  have e : (Sg m fun i => (ruleOf q m).getD i 0 * (momL f as bs M).getD (t + m - 1 - i) 0) = Sg m fun i => (fun j => -f * (q j * L (fa as) (fa bs) (t + j) 0)) (m - 1 - i) := Sg_congr fun i hi => by
    rw [ruleOf_at hi, momL_at (by omega), show t + m - 1 - i = t + (m - 1 - i) by omega]; grind
  rw [e, Sg_rev (g := fun j => -f * (q j * L (fa as) (fa bs) (t + j) 0)), Sg_mul]; grind
theorem mendL_at {g : Gr} {y : Rat} {long i : Nat} (h : i < long) (h1 : g.rule.length ≤ long) (h2 : (mendM g y).length ≤ long) : (mendL g y long).getD i 0 = g.rule.getD i 0 + (mendM g y).getD i 0 := by
  unfold mendL
  have l1 : (g.rule ++ List.replicate (long - g.rule.length) (0 : Rat)).length = long := by simp; omega
  have l2 : (mendM g y ++ List.replicate (long - (mendM g y).length) (0 : Rat)).length = long := by simp; omega
  rw [← app_zero_at (xs := g.rule) (m := long - g.rule.length), ← app_zero_at (xs := mendM g y) (m := long - (mendM g y).length)]
  generalize g.rule ++ List.replicate (long - g.rule.length) 0 = A at *
  generalize mendM g y ++ List.replicate (long - (mendM g y).length) 0 = B at *
  have hA : A[i]? = some (A[i]'(by omega)) := List.getElem?_eq_getElem _
  have hB : B[i]? = some (B[i]'(by omega)) := List.getElem?_eq_getElem _
  have hz : (A.zip B)[i]? = some (A[i]'(by omega), B[i]'(by omega)) := List.getElem?_zip_eq_some.mpr ⟨hA, hB⟩
  rw [List.getD_eq_getElem?_getD, List.getD_eq_getElem?_getD, List.getD_eq_getElem?_getD, List.getElem?_map, hz, hA, hB]
  rfl
theorem mendL_len {g : Gr} {y : Rat} {long : Nat} (h1 : g.rule.length ≤ long) (h2 : (mendM g y).length ≤ long) : (mendL g y long).length = long := by
  unfold mendL
  simp; omega
def stE (f : Rat) (as bs : List Rat) : Nat → Gr
  | 0 => ⟨[], [], 1, 1⟩
  | k + 1 => ⟨ruleOf (p (fa as) (fa bs) (k + 1)) (k + 1), ruleOf (p (fa as) (fa bs) k) k, f * Dn (fa bs) k, 2⟩
def stO (f : Rat) (as bs : List Rat) (k : Nat) : Gr := ⟨ruleOf (Qp (fa as) (fa bs) f k) (k + 1), ruleOf (p (fa as) (fa bs) k) k, f * Dn (fa bs) k, 1⟩
def stR (f : Rat) (as bs : List Rat) (r : Nat) : Gr := if r % 2 = 0 then stE f as bs (r / 2) else stO f as bs (r / 2)
theorem stE_rule {f : Rat} {as bs : List Rat} {k : Nat} : (stE f as bs k).rule = ruleOf (p (fa as) (fa bs) k) k := by
  cases k with
  | zero => rfl
  | succ k => rfl
theorem grow_even {s : Nat} {f : Rat} {as bs : List Rat} (ok : StOk s f as bs) (hs1 : s ≤ 1) {k M : Nat} (hk : k < as.length) (hM : 2 * k < M) : missS (momL f as bs M) (2 * k) (stE f as bs k) = f * Dn (fa bs) k ∧ missS (momL f as bs M) (2 * k) (stE f as bs k) / (stE f as bs k).gap = (if k = 0 then f else fa bs (k - 1)) ∧ growS (momL f as bs M) (2 * k) (stE f as bs k) = stO f as bs k := by
  have hm : missS (momL f as bs M) (2 * k) (stE f as bs k) = f * Dn (fa bs) k := by
    have := miss_of (f := f) (as := as) (bs := bs) (q := p (fa as) (fa bs) k) (m := k) (t := k) (M := M) (g := stE f as bs k) stE_rule (p_diag _ _) (by omega)
    rw [show k + k = 2 * k by omega] at this
    rw [this, xk, L_diag]; grind
  have d0 := (ok.tb hs1 (Nat.le_refl _)).d0 (k := k) hk
  have hlen : (stE f as bs k).rule.length = k := by rw [stE_rule, ruleOf_len]
  have hby : missS (momL f as bs M) (2 * k) (stE f as bs k) / (stE f as bs k).gap = (if k = 0 then f else fa bs (k - 1)) := by
    rw [hm]
    cases k with
    | zero =>
      show f * Dn (fa bs) 0 / 1 = f
      rw [Dn]; grind
    | succ k =>
      show f * Dn (fa bs) (k + 1) / (f * Dn (fa bs) k) = fa bs k
      have d1 := (ok.tb hs1 (Nat.le_refl _)).d0 (k := k) (by omega)
      rw [show f * Dn (fa bs) (k + 1) = fa bs k * (f * Dn (fa bs) k) by rw [Dn]; grind]
      exact Rat.mul_div_cancel d1
  refine ⟨hm, hby, ?_⟩
  unfold growS
  rw [if_neg (by rw [hm]; exact d0), hby, hlen, show max k (2 * k + 1 - k) = k + 1 by omega, if_pos (by omega), hm]
  have hrule : mendL (stE f as bs k) (if k = 0 then f else fa bs (k - 1)) (k + 1) = ruleOf (Qp (fa as) (fa bs) f k) (k + 1) := by
    cases k with
    | zero =>
      show [(0 : Rat) + f] = [-Qp (fa as) (fa bs) f 0 0]
      rw [Qp_zero]
      congr 1; grind
    | succ k =>
      rw [if_neg (by omega), show k + 1 - 1 = k by omega]
      have ml : (mendM (stE f as bs (k + 1)) (fa bs k)).length = k + 2 := by
        rw [mendM_len (by show 1 ≤ 2; omega)]
        show 2 + (ruleOf (p (fa as) (fa bs) k) k).length = k + 2
        rw [ruleOf_len]; omega
      refine ext_getD (by rw [mendL_len (by omega) (by omega), ruleOf_len]) fun i hi => ?_
      rw [mendL_len (by omega) (by omega)] at hi
      rw [mendL_at hi (by omega) (by omega), ruleOf_at hi, Qp_succ, show k + 1 + 1 - 1 - i = k + 1 - i by omega]
      have e1 : (stE f as bs (k + 1)).rule.getD i 0 = -sh (p (fa as) (fa bs) (k + 1)) (k + 1 - i) := by
        rw [stE_rule]
        by_cases c : i < k + 1
        · rw [ruleOf_at c, show k + 1 - i = (k + 1 - 1 - i) + 1 by omega]
          rfl
        · rw [getD_out (by rw [ruleOf_len]; omega), show k + 1 - i = 0 by omega]
          simp only [sh]; grind
      have e2 : (mendM (stE f as bs (k + 1)) (fa bs k)).getD i 0 = fa bs k * p (fa as) (fa bs) k (k + 1 - i) := by
        have hM : mendM (stE f as bs (k + 1)) (fa bs k) = 0 :: fa bs k :: (ruleOf (p (fa as) (fa bs) k) k).map fun x => -fa bs k * x := rfl
        rw [hM]
        match i with
        | 0 =>
          rw [List.getD_cons_zero, p_gt _ _ (by omega)]; grind
        | 1 =>
          rw [List.getD_cons_succ, List.getD_cons_zero, show k + 1 - 1 = k by omega, p_diag]; grind
        | i + 2 =>
          rw [List.getD_cons_succ, List.getD_cons_succ]
          have : ((ruleOf (p (fa as) (fa bs) k) k).map fun x => -fa bs k * x) = (List.range k).map fun j => -fa bs k * -p (fa as) (fa bs) k (k - 1 - j) := by
            unfold ruleOf
            rw [List.map_map]; rfl
          rw [this, map_at, if_pos (by omega), show k + 1 - (i + 2) = k - 1 - i by omega]; grind
      rw [e1, e2]; grind
  rw [hrule]
  unfold stO
  rw [stE_rule]
theorem grow_odd {s : Nat} {f : Rat} {as bs : List Rat} (ok : StOk s f as bs) (hs1 : s ≤ 1) {k M : Nat} (hk : k < as.length) (hM : 2 * k + 1 < M) : missS (momL f as bs M) (2 * k + 1) (stO f as bs k) = cC (fa as) f k * (f * Dn (fa bs) k) ∧ missS (momL f as bs M) (2 * k + 1) (stO f as bs k) / (stO f as bs k).gap = cC (fa as) f k ∧ growS (momL f as bs M) (2 * k + 1) (stO f as bs k) = stE f as bs (k + 1) := by
  have hm : missS (momL f as bs M) (2 * k + 1) (stO f as bs k) = cC (fa as) f k * (f * Dn (fa bs) k) := by
    have := miss_of (f := f) (as := as) (bs := bs) (q := Qp (fa as) (fa bs) f k) (m := k + 1) (t := k) (M := M) (g := stO f as bs k) rfl (Qp_top _ _) (by omega)
    rw [show k + (k + 1) = 2 * k + 1 by omega] at this
    rw [this, Qp_sum]; grind
  have d0 := (ok.tb hs1 (Nat.le_refl _)).d0 (k := k) hk
  have hlen : (stO f as bs k).rule.length = k + 1 := ruleOf_len
  have hby : missS (momL f as bs M) (2 * k + 1) (stO f as bs k) / (stO f as bs k).gap = cC (fa as) f k := by
    rw [hm]
    exact Rat.mul_div_cancel d0
  refine ⟨hm, hby, ?_⟩
  unfold growS
  by_cases c : cC (fa as) f k = 0
  · rw [if_pos (by rw [hm, c]; grind)]
    have : ruleOf (Qp (fa as) (fa bs) f k) (k + 1) = ruleOf (p (fa as) (fa bs) (k + 1)) (k + 1) := by
      unfold ruleOf Qp
      refine List.map_congr_left fun i hi => ?_
      rw [c]; grind
    unfold stO stE
    simp only
    rw [this]
  · rw [if_neg (by
      rw [hm]
      intro z
      rcases Rat.mul_eq_zero.mp z with z | z
      · exact c z
      · exact d0 z), hby, hlen, show max (k + 1) (2 * k + 1 + 1 - (k + 1)) = k + 1 by omega, if_neg (by omega)]
    have hrule : mendL (stO f as bs k) (cC (fa as) f k) (k + 1) = ruleOf (p (fa as) (fa bs) (k + 1)) (k + 1) := by
      have ml : (mendM (stO f as bs k) (cC (fa as) f k)).length = k + 1 := by
        rw [mendM_len (by show 1 ≤ 1; omega)]
        show 1 + (ruleOf (p (fa as) (fa bs) k) k).length = k + 1
        rw [ruleOf_len]; omega
      refine ext_getD (by rw [mendL_len (by omega) (by omega), ruleOf_len]) fun i hi => ?_
      rw [mendL_len (by omega) (by omega)] at hi
      rw [mendL_at hi (by omega) (by omega), ruleOf_at hi]
      have e1 : (stO f as bs k).rule.getD i 0 = -Qp (fa as) (fa bs) f k (k + 1 - 1 - i) := ruleOf_at hi
      have e2 : (mendM (stO f as bs k) (cC (fa as) f k)).getD i 0 = cC (fa as) f k * p (fa as) (fa bs) k (k + 1 - 1 - i) := by
        have hM : mendM (stO f as bs k) (cC (fa as) f k) = cC (fa as) f k :: (ruleOf (p (fa as) (fa bs) k) k).map fun x => -cC (fa as) f k * x := rfl
        rw [hM]
        match i with
        | 0 =>
          rw [List.getD_cons_zero, show k + 1 - 1 - 0 = k by omega, p_diag]; grind
        | i + 1 =>
          rw [List.getD_cons_succ]
          have : ((ruleOf (p (fa as) (fa bs) k) k).map fun x => -cC (fa as) f k * x) = (List.range k).map fun j => -cC (fa as) f k * -p (fa as) (fa bs) k (k - 1 - j) := by
            unfold ruleOf
            rw [List.map_map]; rfl
          rw [this, map_at, if_pos (by omega), show k + 1 - 1 - (i + 1) = k - 1 - i by omega]; grind
      rw [e1, e2]
      unfold Qp; grind
    rw [hrule]
    rfl
theorem ruleOf_sz {q : Nat → Rat} {m k : Nat} (h : ∀ i, Sz k 1 (q i)) : ∀ x ∈ ruleOf q m, Sz k 1 x := by
  intro x hx
  unfold ruleOf at hx
  obtain ⟨i, _, rfl⟩ := List.mem_map.mp hx
  exact (h _).neg
theorem cl_rule_list (H : Has P ι dep_grown_in) (hn : 4 ≤ n) {s : Nat} {f : Rat} {as bs : List Rat} (ok : StOk s f as bs) (hs1 : s ≤ 1) {M : Nat} (hM : M ≤ 2 * as.length) : callN P W0 n (ι i_grown_in) [encL (momL f as bs M)] S = some (.list ((List.range (M + 1)).map fun r => encL (stR f as bs r).rule), S) := by
  have h12 := ok.h12
  have ha : ∀ k, Sz 1 1 (fa as k) := fun k => (sz_fa ok.ha).mono hs1
  have hb : ∀ k, Sz 1 1 (fa bs k) := fun k => (sz_fa ok.hb).mono hs1
  have hf : Sz 1 1 f := ok.hf.mono hs1
  have tb := ok.tb hs1 (Nat.le_refl _)
  have pz : ∀ k, k ≤ 13 → ∀ i, Sz 28 1 (p (fa as) (fa bs) k i) := fun k hk i => (p_sz ha hb).mono (by omega)
  have cz : ∀ k, Sz 2 1 (cC (fa as) f k) := fun k => by
    unfold cC
    split
    · exact ((ha 0).sub hf).up (by omega)
    · exact (ha k).mono (by omega)
  have Qz : ∀ k, k ≤ 12 → ∀ i, Sz 40 1 (Qp (fa as) (fa bs) f k i) := fun k hk i => by
    unfold Qp
    have := (((pz (k + 1) (by omega) i).mono (show 28 ≤ 30 by omega)).add ((cz k).mul1 (pz k (by omega) i))).up (by omega)
    exact this.mono (by omega)
  have Dz : ∀ k, k ≤ 12 → Sz 40 1 (f * Dn (fa bs) k) := fun k hk => (hf.mul1 (Dn_sz hb)).mono (by omega)
  have h := cl_grown_in (S := S) H hn (row := momL f as bs M) (st := stR f as bs) (k := 40) (l := 50) rfl (fun i hi => by
    rw [momL_len] at hi
    unfold stR
    by_cases c : i % 2 = 0
    · obtain ⟨k, rfl⟩ : ∃ k, i = 2 * k := ⟨i / 2, by omega⟩
      rw [if_neg (by omega), if_pos c, show (2 * k + 1) / 2 = k by omega, show 2 * k / 2 = k by omega]
      exact (grow_even ok hs1 (by omega) hi).2.2.symm
    · obtain ⟨k, rfl⟩ : ∃ k, i = 2 * k + 1 := ⟨i / 2, by omega⟩
      rw [if_pos (by omega), if_neg c, show (2 * k + 1 + 1) / 2 = k + 1 by omega, show (2 * k + 1) / 2 = k by omega]
      exact (grow_odd ok hs1 (by omega) hi).2.2.symm) (fun i hi => by
    rw [momL_len] at hi
    unfold stR
    by_cases c : i % 2 = 0
    · obtain ⟨k, rfl⟩ : ∃ k, i = 2 * k := ⟨i / 2, by omega⟩
      rw [if_pos c, show 2 * k / 2 = k by omega]
      obtain ⟨m1, m2, _⟩ := grow_even ok hs1 (k := k) (by omega) hi
      have hbz : Sz 40 1 (if k = 0 then f else fa bs (k - 1)) := by
        split
        · exact hf.mono (by omega)
        · exact (hb _).mono (by omega)
      cases k with
      | zero =>
        refine ⟨fun x hx => (by cases hx), fun x hx => (by cases hx), Sz.one.mono (by omega), (by show (1 : Rat) ≠ 0; decide), (by rw [m2]; exact hbz), (by rw [m1]; exact Dz 0 (by omega)), Nat.le_refl _, Nat.zero_le _, Nat.le_refl _, ?_⟩
        show 1 + 0 ≤ max 0 1
        omega
      | succ k =>
        refine ⟨ruleOf_sz fun i => (pz (k + 1) (by omega) i).mono (by omega), ruleOf_sz fun i => (pz k (by omega) i).mono (by omega), Dz k (by omega), tb.d0 (by omega), by rw [m2]; exact hbz, by rw [m1]; exact Dz (k + 1) (by omega), by show 1 ≤ 2; omega, ?_, ?_, ?_⟩
        · show (ruleOf (p (fa as) (fa bs) (k + 1)) (k + 1)).length ≤ _
          rw [ruleOf_len]; omega
        · show 2 + (ruleOf (p (fa as) (fa bs) k) k).length ≤ _
          rw [ruleOf_len]; omega
        · show 2 + (ruleOf (p (fa as) (fa bs) k) k).length ≤ max (ruleOf (p (fa as) (fa bs) (k + 1)) (k + 1)).length (2 * (k + 1) + 1 - (ruleOf (p (fa as) (fa bs) (k + 1)) (k + 1)).length)
          rw [ruleOf_len, ruleOf_len]; omega
    · obtain ⟨k, rfl⟩ : ∃ k, i = 2 * k + 1 := ⟨i / 2, by omega⟩
      rw [if_neg c, show (2 * k + 1) / 2 = k by omega]
      obtain ⟨m1, m2, _⟩ := grow_odd ok hs1 (k := k) (by omega) hi
      refine ⟨ruleOf_sz fun i => Qz k (by omega) i, ruleOf_sz fun i => (pz k (by omega) i).mono (by omega), Dz k (by omega), tb.d0 (by omega), by rw [m2]; exact (cz k).mono (by omega), by rw [m1]; exact ((cz k).mul1 (hf.mul1 (Dn_sz hb))).mono (by omega), by show 1 ≤ 1; omega, ?_, ?_, ?_⟩
      · show (ruleOf (Qp (fa as) (fa bs) f k) (k + 1)).length ≤ _
        rw [ruleOf_len]; omega
      · show 1 + (ruleOf (p (fa as) (fa bs) k) k).length ≤ _
        rw [ruleOf_len]; omega
      · show 1 + (ruleOf (p (fa as) (fa bs) k) k).length ≤ max (ruleOf (Qp (fa as) (fa bs) f k) (k + 1)).length (2 * k + 1 + 1 - (ruleOf (Qp (fa as) (fa bs) f k) (k + 1)).length)
        rw [ruleOf_len, ruleOf_len]; omega) (fun x hx => (momL_sz ok (by omega) x hx).mono (by
    have : (s + 1) * 24 ≤ 2 * 24 := Nat.mul_le_mul_right _ (by omega)
    omega)) (by omega) (by omega) (by rw [momL_len]; omega)
  rw [momL_len] at h
  exact h
theorem cl_least_in (H : Has P ι dep_least_in) (hn : 5 ≤ n) {s : Nat} {f : Rat} {as bs : List Rat} (ok : StOk s f as bs) (hs1 : s ≤ 1) {M : Nat} (hM : M ≤ 2 * as.length) : callN P W0 n (ι i_least_in) [encL (momL f as bs M)] S = some (encL (stR f as bs M).rule, S) := by
  obtain ⟨c, rfl⟩ : ∃ c, n = c + 1 := ⟨n - 1, by omega⟩
  rw [H.go (d := d_least_in) rfl rfl rfl]
  have e1 := cl_rule_list (H.sub (l' := dep_grown_in) rfl) (n := c) (by omega) ok hs1 hM (S := S)
  rw [← range_snoc] at e1
  dsimp? [d_least_in, e1, at_last]
theorem cl_rule_length (H : Has P ι dep_rule_length) (hn : 6 ≤ n) {s : Nat} {f : Rat} {as bs : List Rat} (ok : StOk s f as bs) (hs1 : s ≤ 1) : callN P W0 n (ι i_rule_length) [encL (momL f as bs (2 * as.length))] S = some (.int (as.length : Nat), S) := by
  obtain ⟨c, rfl⟩ : ∃ c, n = c + 1 := ⟨n - 1, by omega⟩
  rw [H.go (d := d_rule_length) rfl rfl rfl]
  have h1 := ok.h1; have h12 := ok.h12
  have e1 := cl_need_row (H.sub (l' := dep_need_row) rfl) (n := c) (S := S) (by omega) (xs := momL f as bs (2 * as.length)) (by rw [momL_len]; omega) (by rw [momL_len]; omega)
  have e2 := cl_least_in (H.sub (l' := dep_least_in) rfl) (n := c) (by omega) ok hs1 (Nat.le_refl _) (S := S)
  have hr : (stR f as bs (2 * as.length)).rule.length = as.length := by
    unfold stR
    rw [if_pos (by omega), show 2 * as.length / 2 = as.length by omega, stE_rule, ruleOf_len]
  rw [show encL (stR f as bs (2 * as.length)).rule = .tuple ((stR f as bs (2 * as.length)).rule.map enc) from rfl] at e2
  dsimp? [d_rule_length, e1, e2, List.length_map, hr]
end PyM

set_option linter.all false
set_option maxRecDepth 100000
set_option exponentiation.threshold 20000
/-! PyN, part 26: way triangles. -/
namespace PyM
local macro_rules | `(tactic| dsimp? [$ls,*]) => `(tactic| simp only [bnd_ok, bnd_no, get0, getS, getB0, getBo, getBS, ev_cst, ev_var, ev_bor, ev_bop, ev_neg, ev_notv, ev_band, ev_borr, ev_cmp, ev_chn, ev_ite, ev_call, ev_b1, ev_b2, ev_min3, ev_tup, ev_lst, ev_mkl, ev_ix, ev_sl, ev_rev, ev_lr, ev_lc, evA_nil, evA_cons, evO_nop, evO_cons, evT_band, evT_borr, evT_notv, evT_cmp, evT_chn, evT_call, evT_b1, evT_var, evQ_nil, evQ_cons, evI_S, evI_R1, evI_R2, evI_R3, evI_Z, evI_E, ex_skip, ex_seq, ex_asg, ex_asgO, ex_par, ex_seti, ex_swp, ex_app, ex_ext, ex_ifs, ex_forS, ex_ret, ex_expr, ex_frz, sg0, sgS, ss0, ssS, setTg_nm, setTg_tup, setTgs_nil, setTgs_cons, tgN_nm, tgN_cons, tgN_nil, wipe_nil, wipe_cons, par_nil, par_f, par_t, isB_cst, isB_var, isB_bop, isB_neg, isB_notv, isB_band, isB_borr, isB_cmp, isB_chn, isB_ite, isB_call, isB_b1, isB_b2, isB_min3, isB_tup, isB_lst, isB_ix, isB_sl, isB_rev, isB_lr, isB_lc, isB_tl, isB_mkl, op_add, op_addL, op_addT, op_sub, op_mul, op_mulL, op_mulT, op_fdiv, op_mod, c_lt, c_le, c_gt, c_ge, c_eqi, c_nei, ixF_L, ixF_T, ixF_loc, setiF_c0, setiF_c1, frzF_o0, frzF_v0, frzF_o1, frzF_v1, frzF_o2, frzF_v2, frzF_o3, frzF_v3, frzF_o4, frzF_v4, frzF_o5, frzF_v5, frzF_o6, frzF_v6, frzF_o7, frzF_v7, frzF_o8, frzF_v8, frzF_o9, frzF_v9, frzF_o10, frzF_v10,  sl_L, sl_T, rev_L, rev_T, seq_L, seq_T, o2_gcd, o2_max, o2_min, o1_lenL, o1_lenT, o1_abs, o1_int, o1_listL, o1_listT, o1_listS, o1_tupL, o1_tupT, o1_isTupT, o1_isTupL, o1_isTupI, o1_isIntI, o1_isIntT, o1_isIntL, o1_isBoolI, o1_isBoolT, o1_isBoolL, lim_n0, lim_n1, lim_n2, lim_n3, lim_n4, lim_n5, lim_n6, lim_n7, lim_n8, at0, at1, lcF_eq, fsF_eq, fin_ret, fin_next, Option.map_some, Option.map_none, List.map_cons, List.map_nil, List.length_cons, List.length_nil, List.replicate, List.cons_append, List.nil_append, List.append_nil, Nat.reduceAdd, Nat.reduceSub, Nat.reduceLT, Nat.reduceLeDiff, Bool.or_false, Bool.or_true, Bool.and_true, Bool.true_and, Bool.false_and, Bool.and_false, Bool.false_or, Bool.true_or, Bool.false_eq_true, Bool.not_true, Bool.not_false, if_true, if_false, reduceIte, decide_true, decide_false, Int.reduceEq, Int.reduceNe, Int.reduceLT, Int.reduceLE, Int.reduceNeg, ne_eq, not_false_eq_true, not_true_eq_false, $ls,*])
open PySem PyD B Mo
variable {P : List Def} {ι : Nat → Nat} {n : Nat} {S : Store}
def triR (as bs : List Rat) (m t : Nat) : List Rat := (List.range m).map (L (fa as) (fa bs) t)
theorem triR_len {as bs : List Rat} {m t : Nat} : (triR as bs m t).length = m := by simp [triR]
theorem at_triR {as bs : List Rat} {m t i : Nat} (h : i < m) : atD ((triR as bs m t).map enc) ((i : Nat) : Int) = some (enc (L (fa as) (fa bs) t i)) := at_map h
theorem cl_led_to (H : Has P ι dep_led_to) (hn : 3 ≤ n) {s : Nat} {as bs : List Rat} (ok : PsOk s as bs) {m t l : Nat} (hm : m ≤ as.length + 1) (ht : t < m) (hl : l < m) (h1 : 1 ≤ as.length) : callN P W0 n (ι i_led_to) [encL (triR as bs m t), encL as, encL bs, .int (l : Nat)] S = some (enc (L (fa as) (fa bs) (t + 1) l), S) := by
  obtain ⟨c, rfl⟩ : ∃ c, n = c + 1 := ⟨n - 1, by omega⟩
  rw [H.go (d := d_led_to) rfl rfl rfl]
  have hs := ok.hs; have h12 := ok.h12; have hbl := ok.hl
  have szL : ∀ j, Sz 52 1 (L (fa as) (fa bs) t j) := fun j => (L_sz (fun k => sz_fa ok.ha) fun k => sz_fa ok.hb).mono (by
    have : (s + 1) * t ≤ 4 * 13 := Nat.mul_le_mul (by omega) (by omega)
    omega)
  have sza : Sz 4 1 (fa as l) := (fa_sz' ok).1
  have szb : Sz 4 1 (fa bs l) := (fa_sz' ok).2
  have szs : Sz 56 1 (sh (L (fa as) (fa bs) t) l) := (sh_sz szL).mono (by omega)
  have ti : ∀ {x y : Rat}, sm x → sm y → ∀ {S}, callN P W0 c (ι i_times) [enc x, enc y] S = some (enc (x * y), S) := fun {x y} hx hy {S} => cl_times (H.sub (l' := dep_times) rfl) (by omega) hx hy
  have pl : ∀ {x y : Rat}, sm x → sm y → ∀ {S}, callN P W0 c (ι i_plus) [enc x, enc y] S = some (enc (x + y), S) := fun {x y} hx hy {S} => cl_plus (H.sub (l' := dep_plus) rfl) (by omega) hx hy
  have t1 := ti (S := S) ((szL l).sm (by omega) (by omega)) (sza.sm (by omega) (by omega))
  have t2 := ti (S := S) ((szL (l + 1)).sm (by omega) (by omega)) (szb.sm (by omega) (by omega))
  have z1 := (szL l).mul1 sza
  have z2 := (szL (l + 1)).mul1 szb
  have p1 := pl (S := S) (szs.sm (by omega) (by omega)) (z1.sm (by omega) (by omega))
  have p2 := pl (S := S) ((szs.add z1).sm (by omega) (by omega)) (z2.sm (by omega) (by omega))
  have hL : L (fa as) (fa bs) (t + 1) l = sh (L (fa as) (fa bs) t) l + L (fa as) (fa bs) t l * fa as l + L (fa as) (fa bs) t (l + 1) * fa bs l := by
    rw [L]; grind
  -- the first part
  have first : ∀ z, ev (callN P W0 c) (.ite (.chn .lt .le (.cst (.int 0)) (.var 3) (.b1 .len (.var 1))) (.ix (.var 0) (.bop .sub (.var 3) (.cst (.int 1)))) (.cst (.tuple [.int 0, .int 1]))) [.val (.tuple ((triR as bs m t).map enc)), .val (.tuple (as.map enc)), .val (.tuple (bs.map enc)), .val (.int (l : Nat)), z] S = some (enc (sh (L (fa as) (fa bs) t) l), S) := by
    intro z
    cases l with
    | zero => dsimp? [Int.natCast_zero]; rfl
    | succ l =>
      have n1 : (0 : Int) < ((l + 1 : Nat) : Int) := by omega
      have n2 : ((l + 1 : Nat) : Int) ≤ ((as.length : Nat) : Int) := by omega
      have n3 : ((l + 1 : Nat) : Int) - 1 = ((l : Nat) : Int) := by omega
      dsimp? [n1, List.length_map, n2, n3, at_triR (show l < m by omega)]
      rfl
  have n5 : ((l : Nat) : Int) + 1 = ((l + 1 : Nat) : Int) := by omega
  unfold encL
  dsimp? [d_led_to, -ev_ite, first]
  by_cases ca : l < as.length
  · have c1 : ((l : Nat) : Int) < ((as.length : Nat) : Int) := by omega
    by_cases cb : l < bs.length ∧ l + 1 < m
    · have c2 : ((l : Nat) : Int) < ((bs.length : Nat) : Int) := by omega
      have c3 : ((l + 1 : Nat) : Int) < ((m : Nat) : Int) := by omega
      dsimp? [List.length_map, c1, at_triR hl, at_fa ca, t1, p1, c2, n5, triR_len, c3, at_triR cb.2, at_fa cb.1, t2, p2, hL]
    · have e0 : L (fa as) (fa bs) t (l + 1) * fa bs l = 0 := by
        by_cases c3 : l < bs.length
        · rw [L_gt _ _ (by omega)]; grind
        · rw [fa_out (by omega)]; grind
      rw [e0, Rat.add_zero] at hL
      by_cases c3 : l < bs.length
      · have c4 : ((l : Nat) : Int) < ((bs.length : Nat) : Int) := by omega
        have c5 : ¬ ((l + 1 : Nat) : Int) < ((m : Nat) : Int) := by omega
        dsimp? [List.length_map, c1, at_triR hl, at_fa ca, t1, p1, c4, n5, triR_len, c5, hL]
      · have c4 : ¬ ((l : Nat) : Int) < ((bs.length : Nat) : Int) := by omega
        dsimp? [List.length_map, c1, at_triR hl, at_fa ca, t1, p1, c4, hL]
  · have c1 : ¬ ((l : Nat) : Int) < ((as.length : Nat) : Int) := by omega
    have c4 : ¬ ((l : Nat) : Int) < ((bs.length : Nat) : Int) := by omega
    rw [fa_out (xs := as) (by omega), fa_out (xs := bs) (by omega), Rat.mul_zero, Rat.mul_zero, Rat.add_zero, Rat.add_zero] at hL
    dsimp? [List.length_map, c1, c4, hL]
def triD (as bs : List Rat) (m k : Nat) : List PyD.D := (List.range k).map fun t => encL (triR as bs m t)
theorem cl_triangle_in (H : Has P ι dep_triangle_in) (hn : 4 ≤ n) {s : Nat} {as bs : List Rat} (ok : PsOk s as bs) {m : Nat} (hm1 : 1 ≤ m) (hm : m ≤ as.length + 1) (h1 : 1 ≤ as.length) : callN P W0 n (ι i_triangle_in) [encS as bs, .int (m : Nat)] S = some (.tuple (triD as bs m m), S) := by
  obtain ⟨c, rfl⟩ : ∃ c, n = c + 1 := ⟨n - 1, by omega⟩
  rw [H.go (d := d_triangle_in) rfl rfl rfl]
  have h12 := ok.h12
  have s1 : ((m : Nat) : Int) - 1 = ((m - 1 : Nat) : Int) := by omega
  have hz : enc 1 :: (List.replicate (m - 1) (0 : Rat)).map enc = (triR as bs m 0).map enc := by
    obtain ⟨q, hq⟩ : ∃ q, m = q + 1 := ⟨m - 1, by omega⟩
    rw [hq]
    unfold triR
    rw [List.range_succ_eq_map, List.map_cons, List.map_cons, List.map_map, Nat.add_sub_cancel, show L (fa as) (fa bs) 0 0 = 1 from rfl]
    congr 1
    refine List.ext_getElem (by simp) fun i h3 h4 => ?_
    simp only [List.getElem_map, List.getElem_replicate, List.getElem_range]
    rfl
  have hz2 : lim ((triR as bs m 0).map enc) = some ((triR as bs m 0).map enc) := lim_map (by rw [triR_len]; omega)
  apply Yl.fin
  unfold encS
  dsimp? [d_triangle_in, -lcF_eq, -fsF_eq, enc1s, s1, rep_T (k := m - 1) (xs := [_]) (by omega) (show 1 ≤ 1000 by omega), flat_one, rep_enc, hz, hz2, rng_ok (show m < 2 ^ 60 by omega)]
  refine Yl.rng (fun i ρ S' => S' = S ∧ ∃ z6 z7, ρ = [.val (.tuple [encL as, encL bs]), .val (.int (m : Nat)), .val (encL as), .val (encL bs), .val (encL (triR as bs m i)), .own (triD as bs m i), z6, z7]) ⟨rfl, .no, .no, rfl⟩ ?_ ?_
  · rintro i ρ S' hi ⟨rfl, z6, z7, rfl⟩
    have e1 : loopC (lcF (callN P W0 c) (.nm 7) .anil (.call (ι i_led_to) (.acons (.var 4) (.acons (.var 2) (.acons (.var 3) (.acons (.var 7) .anil))))) [.val (.tuple [encL as, encL bs]), .val (.int (m : Nat)), .val (encL as), .val (encL bs), .val (encL (triR as bs m i)), .own (triD as bs m i ++ [encL (triR as bs m i)]), .val (.int (i : Nat)), z7]) (rngD 0 (m : Nat)) S' = some ((triR as bs m (i + 1)).map enc, S') := by
      rw [rng_eq, loopC_enc (g := fun l => enc (L (fa as) (fa bs) (i + 1) l)) fun l hl => by
        have hl := List.mem_range.mp hl
        dsimp? [cl_led_to (H.sub (l' := dep_led_to) rfl) (n := c) (by omega) ok hm hi hl h1]]
      unfold triR
      rw [List.map_map]
      rfl
    have e2 : lim ((triR as bs m (i + 1)).map enc) = some ((triR as bs m (i + 1)).map enc) := lim_map (by rw [triR_len]; omega)
    have g : (triD as bs m i).length < LIM := LIM_ok (by simp [triD]; omega)
    have hd : triD as bs m i ++ [encL (triR as bs m i)] = triD as bs m (i + 1) := range_snoc
    rw [fsF_eq]
    dsimp? [-lcF_eq, -fsF_eq, appF_o5 g, rng_ok (show m < 2 ^ 60 by omega), e1, e2]
    refine Yl.stay ?_
    exact ⟨rfl, _, _, by rw [hd]; rfl⟩
  · rintro ρ S' ⟨rfl, z6, z7, rfl⟩
    dsimp? []
    exact Yl.ret
theorem cl_need_levels (H : Has P ι dep_need_levels) (hn : 6 ≤ n) {s : Nat} {f : Rat} {as bs : List Rat} (ok : StOk s f as bs) (hs1 : s ≤ 1) {M lv : Nat} (hM : M ≤ 24) (h1 : 1 ≤ lv) (hlv : lv ≤ as.length) (hlM : 2 * lv ≤ M) : callN P W0 n (ι i_need_levels) [encL (momL f as bs M), .int (lv : Nat)] S = some (.none, S) := by
  obtain ⟨m, rfl⟩ : ∃ m, n = m + 1 := ⟨n - 1, by omega⟩
  rw [H.go (d := d_need_levels) rfl rfl rfl]
  have h12 := ok.h12
  have e1 := cl_need_row (H.sub (l' := dep_need_row) rfl) (n := m) (S := S) (by omega) (xs := momL f as bs M) (by rw [momL_len]; omega) (by rw [momL_len]; omega)
  have e2 := cl_need_number (H.sub (l' := dep_need_number) rfl) (n := m) (S := S) (by omega) (i := (lv : Nat)) (lo := 1) (hi := 12) (by omega) (by omega)
  have e3 := cl_need_full (H.sub (l' := dep_need_full) rfl) (n := m) (S := S) (by omega) ok hs1 hM hlv hlM
  dsimp? [d_need_levels, e1, e2, e3]
theorem cl_triangle_of_row (H : Has P ι dep_triangle_of_row) (hn : 7 ≤ n) {s : Nat} {f : Rat} {as bs : List Rat} (ok : StOk s f as bs) (hs1 : s ≤ 1) : callN P W0 n (ι i_triangle_of_row) [encL (momL f as bs (2 * as.length)), .int (as.length : Nat)] S = some (.tuple (triD as bs as.length as.length), S) := by
  obtain ⟨m, rfl⟩ : ∃ m, n = m + 1 := ⟨n - 1, by omega⟩
  rw [H.go (d := d_triangle_of_row) rfl rfl rfl]
  have h1 := ok.h1; have h12 := ok.h12; have hl := ok.hl
  have e1 := cl_need_levels (H.sub (l' := dep_need_levels) rfl) (n := m) (S := S) (by omega) ok hs1 (M := 2 * as.length) (lv := as.length) (by omega) h1 (Nat.le_refl _) (Nat.le_refl _)
  have e2 := cl_steps_in (H.sub (l' := dep_steps_in) rfl) (n := m) (S := S) (by omega) ok hs1 (M := 2 * as.length) (lv := as.length) (by omega) (by omega) (by omega)
  rw [List.take_length, List.take_of_length_le (by omega)] at e2
  have e3 := cl_triangle_in (H.sub (l' := dep_triangle_in) rfl) (n := m) (S := S) (by omega) ok.ps (m := as.length) h1 (by omega) h1
  dsimp? [d_triangle_of_row, e1, e2, e3]
end PyM

set_option linter.all false
set_option maxRecDepth 100000
set_option exponentiation.threshold 20000
/-! PyN, part 27: the law's ways. -/
namespace PyM
local macro_rules | `(tactic| dsimp? [$ls,*]) => `(tactic| simp only [bnd_ok, bnd_no, get0, getS, getB0, getBo, getBS, ev_cst, ev_var, ev_bor, ev_bop, ev_neg, ev_notv, ev_band, ev_borr, ev_cmp, ev_chn, ev_ite, ev_call, ev_b1, ev_b2, ev_min3, ev_tup, ev_lst, ev_mkl, ev_ix, ev_sl, ev_rev, ev_lr, ev_lc, evA_nil, evA_cons, evO_nop, evO_cons, evT_band, evT_borr, evT_notv, evT_cmp, evT_chn, evT_call, evT_b1, evT_var, evQ_nil, evQ_cons, evI_S, evI_R1, evI_R2, evI_R3, evI_Z, evI_E, ex_skip, ex_seq, ex_asg, ex_asgO, ex_par, ex_seti, ex_swp, ex_app, ex_ext, ex_ifs, ex_forS, ex_ret, ex_expr, ex_frz, sg0, sgS, ss0, ssS, setTg_nm, setTg_tup, setTgs_nil, setTgs_cons, tgN_nm, tgN_cons, tgN_nil, wipe_nil, wipe_cons, par_nil, par_f, par_t, isB_cst, isB_var, isB_bop, isB_neg, isB_notv, isB_band, isB_borr, isB_cmp, isB_chn, isB_ite, isB_call, isB_b1, isB_b2, isB_min3, isB_tup, isB_lst, isB_ix, isB_sl, isB_rev, isB_lr, isB_lc, isB_tl, isB_mkl, op_add, op_addL, op_addT, op_sub, op_mul, op_mulL, op_mulT, op_fdiv, op_mod, c_lt, c_le, c_gt, c_ge, c_eqi, c_nei, ixF_L, ixF_T, ixF_loc, setiF_c0, setiF_c1, frzF_o0, frzF_v0, frzF_o1, frzF_v1, frzF_o2, frzF_v2, frzF_o3, frzF_v3, frzF_o4, frzF_v4, frzF_o5, frzF_v5, frzF_o6, frzF_v6, frzF_o7, frzF_v7, frzF_o8, frzF_v8, frzF_o9, frzF_v9, frzF_o10, frzF_v10,  sl_L, sl_T, rev_L, rev_T, seq_L, seq_T, o2_gcd, o2_max, o2_min, o1_lenL, o1_lenT, o1_abs, o1_int, o1_listL, o1_listT, o1_listS, o1_tupL, o1_tupT, o1_isTupT, o1_isTupL, o1_isTupI, o1_isIntI, o1_isIntT, o1_isIntL, o1_isBoolI, o1_isBoolT, o1_isBoolL, lim_n0, lim_n1, lim_n2, lim_n3, lim_n4, lim_n5, lim_n6, lim_n7, lim_n8, at0, at1, lcF_eq, fsF_eq, fin_ret, fin_next, Option.map_some, Option.map_none, List.map_cons, List.map_nil, List.length_cons, List.length_nil, List.replicate, List.cons_append, List.nil_append, List.append_nil, Nat.reduceAdd, Nat.reduceSub, Nat.reduceLT, Nat.reduceLeDiff, Bool.or_false, Bool.or_true, Bool.and_true, Bool.true_and, Bool.false_and, Bool.and_false, Bool.false_or, Bool.true_or, Bool.false_eq_true, Bool.not_true, Bool.not_false, if_true, if_false, reduceIte, decide_true, decide_false, Int.reduceEq, Int.reduceNe, Int.reduceLT, Int.reduceLE, Int.reduceNeg, ne_eq, not_false_eq_true, not_true_eq_false, $ls,*])
open PySem PyD B Mo
variable {P : List Def} {ι : Nat → Nat} {n : Nat} {S : Store}
/-- a way's weight and level -/
def wst (a b : Nat → Rat) (s : Rat × Int) (m : Int) : Rat × Int := (if m < 1 then s.1 * (if m = 0 then a s.2.toNat else b (s.2 - 1).toNat) else s.1, s.2 + m)
def wtF (a b : Nat → Rat) (w : List Int) : Rat × Int := w.foldl (wst a b) (1, 0)
theorem wtF_snoc {a b : Nat → Rat} {w : List Int} {m : Int} : wtF a b (w ++ [m]) = wst a b (wtF a b w) m := by
  unfold wtF
  rw [List.foldl_append]; rfl
/-- a way that can be walked with n levels -/
def Good (a b : Nat → Rat) (n : Nat) (w : List Int) : Prop := ∀ i (h : i < w.length), 0 ≤ (wtF a b (w.take i)).2 ∧ (wtF a b (w.take i)).2 < n ∧ 0 ≤ (wtF a b (w.take i)).2 + w[i]'h ∧ (w[i]'h = -1 ∨ w[i]'h = 0 ∨ w[i]'h = 1)
theorem cl_weight (H : Has P ι dep__law_weight) (hn : 4 ≤ n) {s : Nat} {as bs : List Rat} (ok : PsOk s as bs) (hs1 : s ≤ 1) {w : List Int} (hg : Good (fa as) (fa bs) as.length w) (hl : w.length ≤ 30) : callN P W0 n (ι i__law_weight) [encS as bs, .int 0, .tuple (w.map .int)] S = some (enc (wtF (fa as) (fa bs) w).1, S) := by
  obtain ⟨c, rfl⟩ : ∃ c, n = c + 1 := ⟨n - 1, by omega⟩
  rw [H.go (d := d__law_weight) rfl rfl rfl]
  have hbl := ok.hl
  apply Yl.fin
  rw [show encS as bs = .tuple [.tuple (as.map enc), .tuple (bs.map enc)] from rfl]
  dsimp? [d__law_weight, -fsF_eq, enc1s]
  have szw : ∀ i, i ≤ w.length → Sz (s * i) 1 (wtF (fa as) (fa bs) (w.take i)).1 := by
    intro i hi
    induction i with
    | zero => exact Sz.one
    | succ i ih =>
      have e : w.take (i + 1) = w.take i ++ [w[i]'(by omega)] := by rw [List.take_add_one, List.getElem?_eq_getElem (by omega)]; rfl
      rw [e, wtF_snoc]
      unfold wst
      rw [Nat.mul_succ]
      simp only
      split
      · refine (ih (by omega)).mul1 ?_
        split
        · exact sz_fa ok.ha
        · exact sz_fa ok.hb
      · exact (ih (by omega)).mono (by omega)
  refine Yl.lst (fun i ρ S' => S' = S ∧ ∃ z5, ρ = [.val (.tuple [.tuple (as.map enc), .tuple (bs.map enc)]), .val (.int 0), .val (.tuple (w.map .int)), .val (enc (wtF (fa as) (fa bs) (w.take i)).1), .val (.int (wtF (fa as) (fa bs) (w.take i)).2), z5]) ⟨rfl, .no, rfl⟩ ?_ ?_
  · rintro i ρ S' hi ⟨rfl, z5, rfl⟩
    obtain ⟨g1, g2, g3, g4⟩ := hg i hi
    have e : w.take (i + 1) = w.take i ++ [w[i]'hi] := by rw [List.take_add_one, List.getElem?_eq_getElem hi]; rfl
    have sz := szw i (by omega)
    have hsi : s * i ≤ 1 * 30 := Nat.mul_le_mul hs1 (by omega)
    have smw := sz.sm (by omega) (by omega)
    rw [e, wtF_snoc]
    generalize hm : w[i]'hi = m at g3 g4
    generalize hq : wtF (fa as) (fa bs) (w.take i) = q at g1 g2 g3 smw
    obtain ⟨q1, q2⟩ := q
    simp only at g1 g2 g3 smw
    obtain ⟨l, rfl⟩ : ∃ l : Nat, q2 = l := ⟨q2.toNat, by omega⟩
    have ti : ∀ {y : Rat}, sm y → ∀ {S}, callN P W0 c (ι i__law_times) [enc q1, enc y] S = some (enc (q1 * y), S) := fun {y} hy {S} => cl_ltimes (H.sub (l' := dep__law_times) rfl) (by omega) smw hy
    have hs4 : s ≤ 160 := by omega
    rw [fsF_eq]
    rcases g4 with h | h | h
    · subst h
      obtain ⟨l', rfl⟩ : ∃ l', l = l' + 1 := ⟨l - 1, by omega⟩
      have n1 : ((l' + 1 : Nat) : Int) - 1 = ((l' : Nat) : Int) := by omega
      dsimp? [n1, at_fa (xs := bs) (show l' < bs.length by omega), ti ((sz_fa ok.hb (k := l')).sm hs4 (by omega))]
      refine Yl.stay ?_
      refine ⟨rfl, .val (.int (-1)), ?_⟩
      unfold wst
      simp only
      rw [if_pos (by decide), if_neg (by decide), n1]
      rfl
    · subst h
      dsimp? [at_fa (xs := as) (show l < as.length by omega), ti ((sz_fa ok.ha (k := l)).sm hs4 (by omega))]
      refine Yl.stay ?_
      refine ⟨rfl, .val (.int 0), ?_⟩
      unfold wst
      simp only
      rw [if_pos (by decide), if_pos trivial]
      rfl
    · subst h
      dsimp? []
      refine Yl.stay ?_
      refine ⟨rfl, .val (.int 1), ?_⟩
      unfold wst
      simp only
      rw [if_neg (by decide)]
  · rintro ρ S' ⟨rfl, z5, rfl⟩
    rw [List.take_length]
    dsimp? []
    exact Yl.ret
end PyM

set_option linter.all false
set_option maxRecDepth 100000
set_option exponentiation.threshold 20000
/-! PyN, part 28: the law's ways, all of them. -/
namespace PyM
local macro_rules | `(tactic| dsimp? [$ls,*]) => `(tactic| simp only [bnd_ok, bnd_no, get0, getS, getB0, getBo, getBS, ev_cst, ev_var, ev_bor, ev_bop, ev_neg, ev_notv, ev_band, ev_borr, ev_cmp, ev_chn, ev_ite, ev_call, ev_b1, ev_b2, ev_min3, ev_tup, ev_lst, ev_mkl, ev_ix, ev_sl, ev_rev, ev_lr, ev_lc, evA_nil, evA_cons, evO_nop, evO_cons, evT_band, evT_borr, evT_notv, evT_cmp, evT_chn, evT_call, evT_b1, evT_var, evQ_nil, evQ_cons, evI_S, evI_R1, evI_R2, evI_R3, evI_Z, evI_E, ex_skip, ex_seq, ex_asg, ex_asgO, ex_par, ex_seti, ex_swp, ex_app, ex_ext, ex_ifs, ex_forS, ex_ret, ex_expr, ex_frz, sg0, sgS, ss0, ssS, setTg_nm, setTg_tup, setTgs_nil, setTgs_cons, tgN_nm, tgN_cons, tgN_nil, wipe_nil, wipe_cons, par_nil, par_f, par_t, isB_cst, isB_var, isB_bop, isB_neg, isB_notv, isB_band, isB_borr, isB_cmp, isB_chn, isB_ite, isB_call, isB_b1, isB_b2, isB_min3, isB_tup, isB_lst, isB_ix, isB_sl, isB_rev, isB_lr, isB_lc, isB_tl, isB_mkl, op_add, op_addL, op_addT, op_sub, op_mul, op_mulL, op_mulT, op_fdiv, op_mod, c_lt, c_le, c_gt, c_ge, c_eqi, c_nei, ixF_L, ixF_T, ixF_loc, setiF_c0, setiF_c1, frzF_o0, frzF_v0, frzF_o1, frzF_v1, frzF_o2, frzF_v2, frzF_o3, frzF_v3, frzF_o4, frzF_v4, frzF_o5, frzF_v5, frzF_o6, frzF_v6, frzF_o7, frzF_v7, frzF_o8, frzF_v8, frzF_o9, frzF_v9, frzF_o10, frzF_v10,  sl_L, sl_T, rev_L, rev_T, seq_L, seq_T, o2_gcd, o2_max, o2_min, o1_lenL, o1_lenT, o1_abs, o1_int, o1_listL, o1_listT, o1_listS, o1_tupL, o1_tupT, o1_isTupT, o1_isTupL, o1_isTupI, o1_isIntI, o1_isIntT, o1_isIntL, o1_isBoolI, o1_isBoolT, o1_isBoolL, lim_n0, lim_n1, lim_n2, lim_n3, lim_n4, lim_n5, lim_n6, lim_n7, lim_n8, at0, at1, lcF_eq, fsF_eq, fin_ret, fin_next, Option.map_some, Option.map_none, List.map_cons, List.map_nil, List.length_cons, List.length_nil, List.replicate, List.cons_append, List.nil_append, List.append_nil, Nat.reduceAdd, Nat.reduceSub, Nat.reduceLT, Nat.reduceLeDiff, Bool.or_false, Bool.or_true, Bool.and_true, Bool.true_and, Bool.false_and, Bool.and_false, Bool.false_or, Bool.true_or, Bool.false_eq_true, Bool.not_true, Bool.not_false, if_true, if_false, reduceIte, decide_true, decide_false, Int.reduceEq, Int.reduceNe, Int.reduceLT, Int.reduceLE, Int.reduceNeg, ne_eq, not_false_eq_true, not_true_eq_false, $ls,*])
open PySem PyD B Mo
variable {P : List Def} {ι : Nat → Nat} {n : Nat} {S : Store}
def okW (left top end_ l m : Int) : Bool := decide (0 ≤ l + m) && decide (l + m ≤ top) && decide (((l + m - end_).natAbs : Int) < left)
def stepW (left top end_ : Int) (x : List Int × Int) : List (List Int × Int) := (([-1, 0, 1] : List Int).filter (okW left top end_ x.2)).map fun m => (x.1 ++ [m], x.2 + m)
def waysW (many : Nat) (top end_ : Int) : Nat → List (List Int × Int)
  | 0 => [([], 0)]
  | i + 1 => (waysW many top end_ i).flatMap (stepW ((many : Int) - (i : Nat)) top end_)
def encP (x : List Int × Int) : PyD.D := .tuple [.tuple (x.1.map .int), .int x.2]
theorem stepW_len {left top end_ : Int} {x : List Int × Int} : (stepW left top end_ x).length ≤ 3 := by
  unfold stepW
  rw [List.length_map]
  exact List.length_filter_le _ _
theorem flat_len {left top end_ : Int} : ∀ {xs : List (List Int × Int)}, (xs.flatMap (stepW left top end_)).length ≤ 3 * xs.length
  | [] => by simp
  | x :: xs => by
    rw [List.flatMap_cons, List.length_append, List.length_cons]
    have := flat_len (left := left) (top := top) (end_ := end_) (xs := xs)
    have := stepW_len (left := left) (top := top) (end_ := end_) (x := x)
    omega
theorem waysW_len {many : Nat} {top end_ : Int} : ∀ {i : Nat}, (waysW many top end_ i).length ≤ 3 ^ i
  | 0 => by simp [waysW]
  | i + 1 => by
    rw [waysW]
    refine Nat.le_trans flat_len ?_
    rw [Nat.pow_succ]
    have := waysW_len (many := many) (top := top) (end_ := end_) (i := i)
    omega
theorem ways_elts {many : Nat} {top end_ : Int} : ∀ {i : Nat}, ∀ x ∈ waysW many top end_ i, x.1.length = i
  | 0, x, h => by
    simp [waysW] at h
    rw [h]; rfl
  | i + 1, x, h => by
    rw [waysW, List.mem_flatMap] at h
    obtain ⟨y, hy, hx⟩ := h
    unfold stepW at hx
    obtain ⟨m, _, rfl⟩ := List.mem_map.mp hx
    show (y.1 ++ [m]).length = i + 1
    rw [List.length_append, ways_elts y hy]; rfl
theorem rngDown_eq {many : Nat} : rngDown ((many : Nat) : Int) 0 = (List.range many).map fun i => .int (((many : Nat) : Int) - ((i : Nat) : Int)) := by
  unfold rngDown
  rw [Int.sub_zero, Int.toNat_natCast]
theorem cl_ways (H : Has P ι dep__law_ways) (hn : 1 ≤ n) {many : Nat} {top end_ : Int} (hm : many ≤ 8) : callN P W0 n (ι i__law_ways) [.int (many : Nat), .int 0, .int end_, .int top] S = some (.list (((waysW many top end_ many).filter fun x => decide (x.2 = end_)).map fun x => .tuple (x.1.map .int)), S) := by
  obtain ⟨c, rfl⟩ : ∃ c, n = c + 1 := ⟨n - 1, by omega⟩
  rw [H.go (d := d__law_ways) rfl rfl rfl]
  have p8 : ∀ i, i ≤ 8 → 3 ^ i ≤ 6561 := fun i hi => Nat.le_trans (Nat.pow_le_pow_right (by omega) hi) (by decide)
  apply Yl.fin
  dsimp? [d__law_ways, -lcF_eq, -fsF_eq, rng_ok (show many < 2 ^ 60 by omega), show rngOk 0 = true from rfl, rngDown_eq]
  refine Yl.lst (fun i ρ S' => S' = S ∧ ∃ z5 z6 z7 z8 z9, ρ = [.val (.int (many : Nat)), .val (.int 0), .val (.int end_), .val (.int top), .val (.list ((waysW many top end_ i).map encP)), z5, z6, z7, z8, z9]) ⟨rfl, .no, .no, .no, .no, .no, rfl⟩ ?_ ?_
  · rintro i ρ S' hi ⟨rfl, z5, z6, z7, z8, z9, rfl⟩
    rw [List.length_range] at hi
    simp only [List.getElem_range]
    generalize hleft : ((many : Nat) : Int) - ((i : Nat) : Int) = left
    rw [fsF_eq]
    dsimp? [-lcF_eq, -fsF_eq]
    refine Yl.lst (fun q ρ S'' => S'' = S' ∧ ∃ z7 z8 z9, ρ = [.val (.int (many : Nat)), .val (.int 0), .val (.int end_), .val (.int top), .val (.list ((waysW many top end_ i).map encP)), .val (.int left), .val (.list ((((waysW many top end_ i).take q).flatMap (stepW left top end_)).map encP)), z7, z8, z9]) ⟨rfl, _, _, _, rfl⟩ ?_ ?_
    · rintro q ρ S'' hq ⟨rfl, z7, z8, z9, rfl⟩
      generalize hx : (waysW many top end_ i)[q]'hq = x
      have hxl : x.1.length = i := ways_elts x (by rw [← hx]; exact List.getElem_mem _)
      have hl1 := waysW_len (many := many) (top := top) (end_ := end_) (i := i)
      have hl2 := p8 i (by omega)
      have e1 : ∀ z9, loopC (lcF (callN P W0 c) (.nm 9) (.acons (.band (.chn .le .le (.cst (.int 0)) (.bop .add (.var 8) (.var 9)) (.var 3)) (.cmp .lt (.b1 .abs (.bop .sub (.bop .add (.var 8) (.var 9)) (.var 2))) (.var 5))) .anil) (.tup (.acons (.bop .add (.var 7) (.tup (.acons (.var 9) .anil))) (.acons (.bop .add (.var 8) (.var 9)) .anil))) [.val (.int (many : Nat)), .val (.int 0), .val (.int end_), .val (.int top), .val (.list ((waysW many top end_ i).map encP)), .val (.int left), .val (.list ((((waysW many top end_ i).take q).flatMap (stepW left top end_)).map encP)), .val (.tuple (x.1.map .int)), .val (.int x.2), z9]) (([-1, 0, 1] : List Int).map .int) S'' = some ((stepW left top end_ x).map encP, S'') := by
        intro z9
        unfold stepW
        rw [List.map_map]
        refine loopC_filter fun m hm => ?_
        have hlm : lim (x.1.map PyData.int ++ [.int m]) = some (x.1.map PyData.int ++ [.int m]) := lim_ok (by simp; omega)
        have hmm : x.1.map PyData.int ++ [.int m] = (x.1 ++ [m]).map .int := by rw [List.map_append]; rfl
        rw [hmm] at hlm
        by_cases c1 : 0 ≤ x.2 + m
        · by_cases c2 : x.2 + m ≤ top
          · by_cases c3 : ((x.2 + m - end_).natAbs : Int) < left
            · have : okW left top end_ x.2 m = true := by unfold okW; simp [c1, c2]; omega
              rw [this]
              dsimp? [c1, c2, c3, hmm, hlm]
              rfl
            · have : okW left top end_ x.2 m = false := by unfold okW; simp [c1, c2]; omega
              rw [this]
              dsimp? [c1, c2, c3]
          · have : okW left top end_ x.2 m = false := by unfold okW; simp [c1, c2]
            rw [this]
            dsimp? [c1, c2]
        · have : okW left top end_ x.2 m = false := by unfold okW; simp [c1]
          rw [this]
          dsimp? [c1]
      have hs3 := stepW_len (left := left) (top := top) (end_ := end_) (x := x)
      have l1 : lim ((stepW left top end_ x).map encP) = some ((stepW left top end_ x).map encP) := lim_ok (by rw [List.length_map]; omega)
      have hap : (((waysW many top end_ i).take q).flatMap (stepW left top end_)).map encP ++ (stepW left top end_ x).map encP = (((waysW many top end_ i).take (q + 1)).flatMap (stepW left top end_)).map encP := by
        rw [List.take_add_one, List.getElem?_eq_getElem hq, hx, List.flatMap_append, List.map_append]
        simp
      have l2 : lim ((((waysW many top end_ i).take (q + 1)).flatMap (stepW left top end_)).map encP) = some ((((waysW many top end_ i).take (q + 1)).flatMap (stepW left top end_)).map encP) := lim_ok (by
        rw [List.length_map]
        refine Nat.le_trans flat_len ?_
        rw [List.length_take]
        omega)
      have e1' := e1 z9
      rw [show ([-1, 0, 1] : List Int).map PyData.int = [.int (-1), .int 0, .int 1] from rfl] at e1'
      rw [fsF_eq, show encP x = .tuple [.tuple (x.1.map .int), .int x.2] from rfl]
      dsimp? [-lcF_eq, -fsF_eq, e1', l1, hap, l2]
      refine Yl.stay ?_
      exact ⟨rfl, _, _, _, rfl⟩
    · rintro ρ S'' ⟨rfl, z7, z8, z9, rfl⟩
      rw [List.take_length]
      dsimp? []
      refine Yl.stay ?_
      refine ⟨rfl, .val (.int left), .val (.list (((waysW many top end_ i).flatMap (stepW left top end_)).map encP)), z7, z8, z9, ?_⟩
      rw [waysW, hleft]
  · rintro ρ S' ⟨rfl, z5, z6, z7, z8, z9, rfl⟩
    rw [List.length_range]
    have hl1 := waysW_len (many := many) (top := top) (end_ := end_) (i := many)
    have hl2 := p8 many hm
    have e1 : loopC (lcF (callN P W0 c) (.acons (.nm 7) (.acons (.nm 8) .anil)) (.acons (.cmp .eq (.var 8) (.var 2)) .anil) (.var 7) [.val (.int (many : Nat)), .val (.int 0), .val (.int end_), .val (.int top), .val (.list ((waysW many top end_ many).map encP)), z5, z6, z7, z8, z9]) ((waysW many top end_ many).map encP) S' = some (((waysW many top end_ many).filter fun x => decide (x.2 = end_)).map fun x => .tuple (x.1.map .int), S') := by
      refine loopC_filter fun x hx => ?_
      rw [show encP x = .tuple [.tuple (x.1.map .int), .int x.2] from rfl]
      by_cases c : x.2 = end_
      · dsimp? [c, show decide (end_ = end_) = true from decide_eq_true rfl]
      · dsimp? [c]
    have l1 : lim (((waysW many top end_ many).filter fun x => decide (x.2 = end_)).map fun x => PyData.tuple (x.1.map .int)) = some (((waysW many top end_ many).filter fun x => decide (x.2 = end_)).map fun x => PyData.tuple (x.1.map .int)) := lim_ok (by
      rw [List.length_map]
      refine Nat.le_trans (List.length_filter_le _ _) ?_
      omega)
    dsimp? [-lcF_eq, e1, l1]
    exact Yl.ret
end PyM

set_option linter.all false
set_option maxRecDepth 100000
set_option exponentiation.threshold 20000
/-! PyN, part 29: sums of ways. -/
namespace PyM
local macro_rules | `(tactic| dsimp? [$ls,*]) => `(tactic| simp only [bnd_ok, bnd_no, get0, getS, getB0, getBo, getBS, ev_cst, ev_var, ev_bor, ev_bop, ev_neg, ev_notv, ev_band, ev_borr, ev_cmp, ev_chn, ev_ite, ev_call, ev_b1, ev_b2, ev_min3, ev_tup, ev_lst, ev_mkl, ev_ix, ev_sl, ev_rev, ev_lr, ev_lc, evA_nil, evA_cons, evO_nop, evO_cons, evT_band, evT_borr, evT_notv, evT_cmp, evT_chn, evT_call, evT_b1, evT_var, evQ_nil, evQ_cons, evI_S, evI_R1, evI_R2, evI_R3, evI_Z, evI_E, ex_skip, ex_seq, ex_asg, ex_asgO, ex_par, ex_seti, ex_swp, ex_app, ex_ext, ex_ifs, ex_forS, ex_ret, ex_expr, ex_frz, sg0, sgS, ss0, ssS, setTg_nm, setTg_tup, setTgs_nil, setTgs_cons, tgN_nm, tgN_cons, tgN_nil, wipe_nil, wipe_cons, par_nil, par_f, par_t, isB_cst, isB_var, isB_bop, isB_neg, isB_notv, isB_band, isB_borr, isB_cmp, isB_chn, isB_ite, isB_call, isB_b1, isB_b2, isB_min3, isB_tup, isB_lst, isB_ix, isB_sl, isB_rev, isB_lr, isB_lc, isB_tl, isB_mkl, op_add, op_addL, op_addT, op_sub, op_mul, op_mulL, op_mulT, op_fdiv, op_mod, c_lt, c_le, c_gt, c_ge, c_eqi, c_nei, ixF_L, ixF_T, ixF_loc, setiF_c0, setiF_c1, frzF_o0, frzF_v0, frzF_o1, frzF_v1, frzF_o2, frzF_v2, frzF_o3, frzF_v3, frzF_o4, frzF_v4, frzF_o5, frzF_v5, frzF_o6, frzF_v6, frzF_o7, frzF_v7, frzF_o8, frzF_v8, frzF_o9, frzF_v9, frzF_o10, frzF_v10,  sl_L, sl_T, rev_L, rev_T, seq_L, seq_T, o2_gcd, o2_max, o2_min, o1_lenL, o1_lenT, o1_abs, o1_int, o1_listL, o1_listT, o1_listS, o1_tupL, o1_tupT, o1_isTupT, o1_isTupL, o1_isTupI, o1_isIntI, o1_isIntT, o1_isIntL, o1_isBoolI, o1_isBoolT, o1_isBoolL, lim_n0, lim_n1, lim_n2, lim_n3, lim_n4, lim_n5, lim_n6, lim_n7, lim_n8, at0, at1, lcF_eq, fsF_eq, fin_ret, fin_next, Option.map_some, Option.map_none, List.map_cons, List.map_nil, List.length_cons, List.length_nil, List.replicate, List.cons_append, List.nil_append, List.append_nil, Nat.reduceAdd, Nat.reduceSub, Nat.reduceLT, Nat.reduceLeDiff, Bool.or_false, Bool.or_true, Bool.and_true, Bool.true_and, Bool.false_and, Bool.and_false, Bool.false_or, Bool.true_or, Bool.false_eq_true, Bool.not_true, Bool.not_false, if_true, if_false, reduceIte, decide_true, decide_false, Int.reduceEq, Int.reduceNe, Int.reduceLT, Int.reduceLE, Int.reduceNeg, ne_eq, not_false_eq_true, not_true_eq_false, $ls,*])
open PySem PyD B Mo
variable {P : List Def} {ι : Nat → Nat} {n : Nat} {S : Store}
def sB {α : Type} (g : α → Rat) : List α → Rat
  | [] => 0
  | x :: xs => g x + sB g xs
theorem sB_lsum {α : Type} {g : α → Rat} {xs : List α} : lsum (xs.map g) = sB g xs := by
  have key : ∀ (xs : List α) a, (xs.map g).foldl (· + ·) a = a + sB g xs := by
    intro xs
    induction xs with
    | nil => intro a; simp only [List.map_nil, List.foldl_nil, sB]; grind
    | cons x xs ih => intro a; rw [List.map_cons, List.foldl_cons, ih, sB]; grind
  unfold lsum
  rw [key]; grind
theorem sB_append {α : Type} {g : α → Rat} : ∀ {xs ys : List α}, sB g (xs ++ ys) = sB g xs + sB g ys
  | [], ys => by rw [List.nil_append, sB]; grind
  | x :: xs, ys => by rw [List.cons_append, sB, sB_append, sB]; grind
theorem sB_flat {α β : Type} {g : β → Rat} {f : α → List β} : ∀ {xs : List α}, sB g (xs.flatMap f) = sB (fun x => sB g (f x)) xs
  | [] => rfl
  | x :: xs => by rw [List.flatMap_cons, sB_append, sB_flat, sB]
theorem sB_congr {α : Type} {g g' : α → Rat} : ∀ {xs : List α}, (∀ x ∈ xs, g x = g' x) → sB g xs = sB g' xs
  | [], _ => rfl
  | x :: xs, h => by rw [sB, sB, h x (by simp), sB_congr fun y hy => h y (by simp [hy])]
theorem sB_add {α : Type} {g g' : α → Rat} : ∀ {xs : List α}, sB (fun x => g x + g' x) xs = sB g xs + sB g' xs
  | [] => by simp only [sB]; grind
  | x :: xs => by simp only [sB, sB_add]; grind
theorem sB_mul {α : Type} {g : α → Rat} {c : Rat} : ∀ {xs : List α}, sB (fun x => g x * c) xs = sB g xs * c
  | [] => by simp only [sB]; grind
  | x :: xs => by simp only [sB, sB_mul]; grind
theorem sB_zero {α : Type} {g : α → Rat} : ∀ {xs : List α}, (∀ x ∈ xs, g x = 0) → sB g xs = 0
  | [], _ => rfl
  | x :: xs, h => by rw [sB, h x (by simp), sB_zero fun y hy => h y (by simp [hy])]; grind
theorem sB_filter {α : Type} {g : α → Rat} {p : α → Bool} : ∀ {xs : List α}, sB g (xs.filter p) = sB (fun x => if p x then g x else 0) xs
  | [] => rfl
  | x :: xs => by
    rw [List.filter_cons, sB]
    cases p x with
    | true => rw [if_pos rfl, if_pos rfl, sB, sB_filter]
    | false => rw [if_neg (by decide), if_neg (by decide), sB_filter]; grind
/-- what holds of the ways on the way -/
theorem ways_inv {a b : Nat → Rat} {many N : Nat} {top end_ : Int} (ht : 0 ≤ top) : ∀ {i : Nat}, i ≤ N → ∀ x ∈ waysW many top end_ i, (wtF a b x.1).2 = x.2 ∧ 0 ≤ x.2 ∧ x.2 ≤ top ∧ x.2 ≤ i ∧ Good a b N x.1
  | 0, _, x, h => by
    simp [waysW] at h
    subst h
    refine ⟨rfl, Int.le_refl _, ht, Int.le_refl _, fun i h => ?_⟩
    simp at h
  | i + 1, hN, x, h => by
    rw [waysW, List.mem_flatMap] at h
    obtain ⟨y, hy, hx⟩ := h
    obtain ⟨h1, h2, h3, h4, h5⟩ := ways_inv (a := a) (b := b) (N := N) ht (by omega) y hy
    have hl := ways_elts y hy
    unfold stepW at hx
    obtain ⟨m, hm, rfl⟩ := List.mem_map.mp hx
    obtain ⟨hm1, hm2⟩ := List.mem_filter.mp hm
    unfold okW at hm2
    simp only [Bool.and_eq_true, decide_eq_true_eq] at hm2
    simp only [List.mem_cons, List.not_mem_nil, or_false] at hm1
    refine ⟨?_, hm2.1.1, hm2.1.2, ?_, fun j hj => ?_⟩
    · rw [wtF_snoc]
      show (wtF a b y.1).2 + m = y.2 + m
      rw [h1]
    · show y.2 + m ≤ _
      omega
    · simp only at hj ⊢
      rw [List.length_append, List.length_singleton] at hj
      by_cases c : j < y.1.length
      · rw [List.take_append_of_le_length (by omega), List.getElem_append_left c]
        exact h5 j c
      · have hj' : j = y.1.length := by omega
        subst hj'
        rw [List.take_append_of_le_length (Nat.le_refl _), List.take_length, h1]
        simp only [List.getElem_append_right (Nat.le_refl _), Nat.sub_self, List.getElem_cons_zero]
        exact ⟨h2, by omega, hm2.1.1, hm1⟩
def sumW (a b : Nat → Rat) (xs : List (List Int × Int)) (lev : Int) : Rat := sB (fun x => if x.2 = lev then (wtF a b x.1).1 else 0) xs
theorem step_sum {a b : Nat → Rat} {left top end_ : Int} {x : List Int × Int} (hx : (wtF a b x.1).2 = x.2) (h0 : 0 ≤ x.2) {lev : Nat} (hlev : ((lev : Nat) : Int) ≤ top ∧ ((((lev : Nat) : Int) - end_).natAbs : Int) < left) :
    sumW a b (stepW left top end_ x) lev = (if x.2 + 1 = lev then (wtF a b x.1).1 else 0) + (if x.2 = lev then (wtF a b x.1).1 else 0) * a lev + (if x.2 = lev + 1 then (wtF a b x.1).1 else 0) * b lev := by
  have key : ∀ (p : Int → Bool) (f : Int → List Int × Int) (g : List Int × Int → Rat), sB g ((([-1, 0, 1] : List Int).filter p).map f) = (if p (-1) then g (f (-1)) else 0) + (if p 0 then g (f 0) else 0) + (if p 1 then g (f 1) else 0) := by
    intro p f g
    simp only [List.filter_cons, List.filter_nil]
    cases p (-1) <;> cases p 0 <;> cases p 1 <;> simp [sB] <;> grind
  unfold sumW stepW
  rw [key]
  have t : ∀ m : Int, (if okW left top end_ x.2 m then (if x.2 + m = (lev : Int) then (wtF a b (x.1 ++ [m])).1 else 0) else 0) = if x.2 + m = (lev : Int) then (wtF a b (x.1 ++ [m])).1 else 0 := by
    intro m
    by_cases c : x.2 + m = (lev : Int)
    · have : okW left top end_ x.2 m = true := by
        unfold okW
        rw [c]
        simp [hlev.1]
        exact hlev.2
      rw [this, if_pos rfl]
    · rw [if_neg c]; simp
  simp only [t]
  rw [wtF_snoc, wtF_snoc, wtF_snoc]
  unfold wst
  simp only [hx]
  have e1 : (x.2 + 0 = (lev : Int)) = (x.2 = (lev : Int)) := by rw [Int.add_zero]
  have e2 : (x.2 + -1 = (lev : Int)) = (x.2 = (lev : Int) + 1) := propext (by omega)
  simp only [e1, e2, Int.reduceLT, Int.reduceNeg, Int.reduceEq, if_true, if_false, reduceIte]
  have f1 : (if x.2 = (lev : Int) then (wtF a b x.1).1 * a x.2.toNat else 0) = (if x.2 = (lev : Int) then (wtF a b x.1).1 else 0) * a lev := by
    by_cases c : x.2 = (lev : Int)
    · rw [if_pos c, if_pos c, c, Int.toNat_natCast]
    · rw [if_neg c, if_neg c]; grind
  have f2 : (if x.2 = (lev : Int) + 1 then (wtF a b x.1).1 * b (x.2 - 1).toNat else 0) = (if x.2 = (lev : Int) + 1 then (wtF a b x.1).1 else 0) * b lev := by
    by_cases c : x.2 = (lev : Int) + 1
    · rw [if_pos c, if_pos c, c, show ((lev : Int) + 1 - 1).toNat = lev by omega]
    · rw [if_neg c, if_neg c]; grind
  rw [f1, f2]; grind
theorem ways_sum {a b : Nat → Rat} {many : Nat} {top end_ : Int} (ht : 0 ≤ top) (hmt : (many : Int) ≤ top + 1) : ∀ {i : Nat}, i ≤ many → ∀ lev : Nat, ((lev : Nat) : Int) ≤ top → ((((lev : Nat) : Int) - end_).natAbs : Int) ≤ many - i → sumW a b (waysW many top end_ i) lev = L a b i lev
  | 0, _, lev, h1, h2 => by
    show (if (0 : Int) = lev then (1 : Rat) else 0) + 0 = if lev = 0 then 1 else 0
    by_cases c : lev = 0
    · subst c; rw [if_pos (show (0 : Int) = ((0 : Nat) : Int) from rfl), if_pos rfl]; grind
    · rw [if_neg (by omega), if_neg c]; grind
  | i + 1, hi, lev, h1, h2 => by
    have ih := fun l h1 h2 => ways_sum (a := a) (b := b) (many := many) (top := top) (end_ := end_) ht hmt (i := i) (by omega) l h1 h2
    have hinv := fun x hx => ways_inv (a := a) (b := b) (N := i) (many := many) (top := top) (end_ := end_) ht (Nat.le_refl i) x hx
    have e : sumW a b (waysW many top end_ (i + 1)) lev = sB (fun x => (if x.2 + 1 = (lev : Int) then (wtF a b x.1).1 else 0) + (if x.2 = (lev : Int) then (wtF a b x.1).1 else 0) * a lev + (if x.2 = (lev : Int) + 1 then (wtF a b x.1).1 else 0) * b lev) (waysW many top end_ i) := by
      unfold sumW
      rw [waysW, sB_flat]
      refine sB_congr fun x hx => ?_
      obtain ⟨i1, i2, _⟩ := hinv x hx
      exact step_sum i1 i2 ⟨h1, by omega⟩
    rw [e, sB_add, sB_add, sB_mul, sB_mul]
    have c2 : sB (fun x => if x.2 = (lev : Int) then (wtF a b x.1).1 else 0) (waysW many top end_ i) = L a b i lev := ih lev h1 (by omega)
    have c3 : sB (fun x => if x.2 = (lev : Int) + 1 then (wtF a b x.1).1 else 0) (waysW many top end_ i) = L a b i (lev + 1) := by
      by_cases c : (lev : Int) + 1 ≤ top
      · exact ih (lev + 1) (by omega) (by omega)
      · rw [L_gt a b (by omega)]
        exact sB_zero fun x hx => if_neg (by have := (hinv x hx).2.2.1; omega)
    have c1 : sB (fun x => if x.2 + 1 = (lev : Int) then (wtF a b x.1).1 else 0) (waysW many top end_ i) = sh (L a b i) lev := by
      cases lev with
      | zero => exact sB_zero fun x hx => if_neg (by have := (hinv x hx).2.1; omega)
      | succ l =>
        rw [sB_congr (g' := fun x => if x.2 = (l : Int) then (wtF a b x.1).1 else 0) fun x _ => by
          by_cases c : x.2 = (l : Int)
          · rw [if_pos c, if_pos (by omega)]
          · rw [if_neg c, if_neg (by omega)]]
        exact ih l (by omega) (by omega)
    rw [c1, c2, c3, L]; grind
/-- the ways' weights together -/
theorem ways_total {a b : Nat → Rat} {many e : Nat} {top : Int} (hmt : (many : Int) ≤ top + 1) (he : (e : Int) ≤ top) : lsum (((waysW many top e many).filter fun x => decide (x.2 = (e : Int))).map fun x => (wtF a b x.1).1) = L a b many e := by
  rw [sB_lsum, sB_filter]
  have := ways_sum (a := a) (b := b) (many := many) (top := top) (end_ := e) (by omega) hmt (Nat.le_refl many) e he (by omega)
  unfold sumW at this
  rw [← this]
  exact sB_congr fun x _ => by simp
end PyM

set_option linter.all false
set_option maxRecDepth 100000
set_option exponentiation.threshold 20000
/-! PyN, part 30: the law's triangle (k91). -/
namespace PyM
local macro_rules | `(tactic| dsimp? [$ls,*]) => `(tactic| simp only [bnd_ok, bnd_no, get0, getS, getB0, getBo, getBS, ev_cst, ev_var, ev_bor, ev_bop, ev_neg, ev_notv, ev_band, ev_borr, ev_cmp, ev_chn, ev_ite, ev_call, ev_b1, ev_b2, ev_min3, ev_tup, ev_lst, ev_mkl, ev_ix, ev_sl, ev_rev, ev_lr, ev_lc, evA_nil, evA_cons, evO_nop, evO_cons, evT_band, evT_borr, evT_notv, evT_cmp, evT_chn, evT_call, evT_b1, evT_var, evQ_nil, evQ_cons, evI_S, evI_R1, evI_R2, evI_R3, evI_Z, evI_E, ex_skip, ex_seq, ex_asg, ex_asgO, ex_par, ex_seti, ex_swp, ex_app, ex_ext, ex_ifs, ex_forS, ex_ret, ex_expr, ex_frz, sg0, sgS, ss0, ssS, setTg_nm, setTg_tup, setTgs_nil, setTgs_cons, tgN_nm, tgN_cons, tgN_nil, wipe_nil, wipe_cons, par_nil, par_f, par_t, isB_cst, isB_var, isB_bop, isB_neg, isB_notv, isB_band, isB_borr, isB_cmp, isB_chn, isB_ite, isB_call, isB_b1, isB_b2, isB_min3, isB_tup, isB_lst, isB_ix, isB_sl, isB_rev, isB_lr, isB_lc, isB_tl, isB_mkl, op_add, op_addL, op_addT, op_sub, op_mul, op_mulL, op_mulT, op_fdiv, op_mod, c_lt, c_le, c_gt, c_ge, c_eqi, c_nei, ixF_L, ixF_T, ixF_loc, setiF_c0, setiF_c1, frzF_o0, frzF_v0, frzF_o1, frzF_v1, frzF_o2, frzF_v2, frzF_o3, frzF_v3, frzF_o4, frzF_v4, frzF_o5, frzF_v5, frzF_o6, frzF_v6, frzF_o7, frzF_v7, frzF_o8, frzF_v8, frzF_o9, frzF_v9, frzF_o10, frzF_v10,  sl_L, sl_T, rev_L, rev_T, seq_L, seq_T, o2_gcd, o2_max, o2_min, o1_lenL, o1_lenT, o1_abs, o1_int, o1_listL, o1_listT, o1_listS, o1_tupL, o1_tupT, o1_isTupT, o1_isTupL, o1_isTupI, o1_isIntI, o1_isIntT, o1_isIntL, o1_isBoolI, o1_isBoolT, o1_isBoolL, lim_n0, lim_n1, lim_n2, lim_n3, lim_n4, lim_n5, lim_n6, lim_n7, lim_n8, at0, at1, lcF_eq, fsF_eq, fin_ret, fin_next, Option.map_some, Option.map_none, List.map_cons, List.map_nil, List.length_cons, List.length_nil, List.replicate, List.cons_append, List.nil_append, List.append_nil, Nat.reduceAdd, Nat.reduceSub, Nat.reduceLT, Nat.reduceLeDiff, Bool.or_false, Bool.or_true, Bool.and_true, Bool.true_and, Bool.false_and, Bool.and_false, Bool.false_or, Bool.true_or, Bool.false_eq_true, Bool.not_true, Bool.not_false, if_true, if_false, reduceIte, decide_true, decide_false, Int.reduceEq, Int.reduceNe, Int.reduceLT, Int.reduceLE, Int.reduceNeg, ne_eq, not_false_eq_true, not_true_eq_false, $ls,*])
open PySem PyD B Mo
variable {P : List Def} {ι : Nat → Nat} {n : Nat} {S : Store}
theorem wt_sz {s : Nat} {a b : Nat → Rat} (ha : ∀ k, Sz s 1 (a k)) (hb : ∀ k, Sz s 1 (b k)) {w : List Int} : Sz (s * w.length) 1 (wtF a b w).1 := by
  have key : ∀ i, i ≤ w.length → Sz (s * i) 1 (wtF a b (w.take i)).1 := by
    intro i hi
    induction i with
    | zero => exact Sz.one
    | succ i ih =>
      have e : w.take (i + 1) = w.take i ++ [w[i]'(by omega)] := by rw [List.take_add_one, List.getElem?_eq_getElem (by omega)]; rfl
      rw [e, wtF_snoc]
      unfold wst
      rw [Nat.mul_succ]
      simp only
      split
      · refine (ih (by omega)).mul1 ?_
        split
        · exact ha _
        · exact hb _
      · exact (ih (by omega)).mono (by omega)
  have := key w.length (Nat.le_refl _)
  rwa [List.take_length] at this
theorem ways_mem {many : Nat} {top end_ : Int} {x : List Int × Int} (h : x ∈ (waysW many top end_ many).filter fun x => decide (x.2 = end_)) : x ∈ waysW many top end_ many := (List.mem_filter.mp h).1
theorem cl_ltriangle (H : Has P ι dep__law_triangle) (hn : 5 ≤ n) {s : Nat} {as bs : List Rat} (ok : PsOk s as bs) (hs1 : s ≤ 1) {m : Nat} (h1 : 1 ≤ m) (hm : m ≤ as.length) (hm8 : m ≤ 8) : callN P W0 n (ι i__law_triangle) [encS as bs, .int (m : Nat)] S = some (.tuple (triD as bs m m), S) := by
  obtain ⟨c, rfl⟩ : ∃ c, n = c + 1 := ⟨n - 1, by omega⟩
  rw [H.go (d := d__law_triangle) rfl rfl rfl]
  have n1 : ((m : Nat) : Int) - 1 = ((m - 1 : Nat) : Int) := by omega
  apply Yl.fin
  dsimp? [d__law_triangle, -lcF_eq, -fsF_eq, rng_ok (show m < 2 ^ 60 by omega)]
  refine Yl.rng (fun i ρ S' => S' = S ∧ ∃ z3 z4 z5 z6, ρ = [.val (encS as bs), .val (.int (m : Nat)), .own (triD as bs m i), z3, z4, z5, z6]) ⟨rfl, .no, .no, .no, .no, rfl⟩ ?_ ?_
  · rintro i ρ S' hi ⟨rfl, z3, z4, z5, z6, rfl⟩
    have e1 : ∀ z4 z5, loopC (lcF (callN P W0 c) (.nm 6) .anil (.call (ι i__law_total) (.acons (.lc (.nm 5) (.itS (.call (ι i__law_ways) (.acons (.var 3) (.acons (.cst (.int 0)) (.acons (.var 6) (.acons (.bop .sub (.var 1) (.cst (.int 1))) .anil)))))) .anil (.call (ι i__law_weight) (.acons (.var 0) (.acons (.cst (.int 0)) (.acons (.var 5) .anil))))) .anil)) [.val (encS as bs), .val (.int (m : Nat)), .own (triD as bs m i), .val (.int (i : Nat)), z4, z5, z6]) (rngD 0 (m : Nat)) S' = some ((triR as bs m i).map enc, S') := by
      intro z4 z5
      rw [rng_eq, loopC_enc (g := fun l => enc (L (fa as) (fa bs) i l)) fun l hl => by
        have hl := List.mem_range.mp hl
        have e2 := cl_ways (H.sub (l' := dep__law_ways) rfl) (n := c) (by omega) (many := i) (top := ((m - 1 : Nat) : Int)) (end_ := ((l : Nat) : Int)) (by omega) (S := S')
        have hW := ways_total (a := fa as) (b := fa bs) (many := i) (e := l) (top := ((m - 1 : Nat) : Int)) (by omega) (by omega)
        generalize hWL : ((waysW i ((m - 1 : Nat) : Int) (l : Int) i).filter fun x => decide (x.2 = (l : Int))) = WL at e2 hW
        have hmem : ∀ x ∈ WL, x ∈ waysW i ((m - 1 : Nat) : Int) (l : Int) i := fun x hx => by
          rw [← hWL] at hx
          exact ways_mem hx
        have hWlen : WL.length ≤ 2187 := by
          rw [← hWL]
          refine Nat.le_trans (List.length_filter_le _ _) (Nat.le_trans waysW_len ?_)
          exact Nat.le_trans (Nat.pow_le_pow_right (by omega) (show i ≤ 7 by omega)) (by decide)
        have e3 : ∀ z4 z5, loopC (lcF (callN P W0 c) (.nm 5) .anil (.call (ι i__law_weight) (.acons (.var 0) (.acons (.cst (.int 0)) (.acons (.var 5) .anil)))) [.val (encS as bs), .val (.int (m : Nat)), .own (triD as bs m i), .val (.int (i : Nat)), z4, z5, .val (.int (l : Nat))]) (WL.map fun x => .tuple (x.1.map .int)) S' = some ((WL.map fun x => (wtF (fa as) (fa bs) x.1).1).map enc, S') := by
          intro z4 z5
          rw [loopC_enc (g := fun x : List Int × Int => enc (wtF (fa as) (fa bs) x.1).1) fun x hx => by
            have hx' := hmem x hx
            have inv := ways_inv (a := fa as) (b := fa bs) (N := as.length) (many := i) (top := ((m - 1 : Nat) : Int)) (end_ := (l : Int)) (by omega) (show i ≤ as.length by omega) x hx'
            have hlen := ways_elts x hx'
            have e4 := cl_weight (H.sub (l' := dep__law_weight) rfl) (n := c) (by omega) ok hs1 (w := x.1) inv.2.2.2.2 (by omega) (S := S')
            dsimp? [e4], List.map_map]
          rfl
        have l3 : lim ((WL.map fun x => (wtF (fa as) (fa bs) x.1).1).map enc) = some ((WL.map fun x => (wtF (fa as) (fa bs) x.1).1).map enc) := lim_ok (by rw [List.length_map, List.length_map]; omega)
        have e5 := cl_total (H.sub (l' := dep__law_total) rfl) (n := c) (by omega) (xs := WL.map fun x => (wtF (fa as) (fa bs) x.1).1) (k := 8) (fun y hy => by
          obtain ⟨x, hx, rfl⟩ := List.mem_map.mp hy
          have hlen := ways_elts x (hmem x hx)
          refine (wt_sz (s := 1) (fun k => (sz_fa ok.ha).mono hs1) fun k => (sz_fa ok.hb).mono hs1).mono ?_
          rw [hlen]; omega) (by rw [List.length_map]; omega) (by omega) (S := S')
        rw [hW] at e5
        rw [lcF_eq]
        dsimp? [-lcF_eq, n1, e2, e3, l3, e5]]
      unfold triR
      rw [List.map_map]
      rfl
    have l1 : lim ((triR as bs m i).map enc) = some ((triR as bs m i).map enc) := lim_map (by rw [triR_len]; omega)
    have g : (triD as bs m i).length < LIM := LIM_ok (by simp [triD]; omega)
    have hd : triD as bs m i ++ [.tuple ((triR as bs m i).map enc)] = triD as bs m (i + 1) := range_snoc
    rw [fsF_eq]
    dsimp? [-lcF_eq, -fsF_eq, rng_ok (show m < 2 ^ 60 by omega), e1, l1, appF_o2 g]
    refine Yl.stay ?_
    exact ⟨rfl, _, _, _, _, by rw [hd]⟩
  · rintro ρ S' ⟨rfl, z3, z4, z5, z6, rfl⟩
    dsimp? []
    exact Yl.ret
end PyM

set_option linter.all false
set_option maxRecDepth 100000
set_option exponentiation.threshold 20000
/-! PyN, part 31: cuts of tables of rows (what is across). -/
namespace PyM
local macro_rules | `(tactic| dsimp? [$ls,*]) => `(tactic| simp only [bnd_ok, bnd_no, get0, getS, getB0, getBo, getBS, ev_cst, ev_var, ev_bor, ev_bop, ev_neg, ev_notv, ev_band, ev_borr, ev_cmp, ev_chn, ev_ite, ev_call, ev_b1, ev_b2, ev_min3, ev_tup, ev_lst, ev_mkl, ev_ix, ev_sl, ev_rev, ev_lr, ev_lc, evA_nil, evA_cons, evO_nop, evO_cons, evT_band, evT_borr, evT_notv, evT_cmp, evT_chn, evT_call, evT_b1, evT_var, evQ_nil, evQ_cons, evI_S, evI_R1, evI_R2, evI_R3, evI_Z, evI_E, ex_skip, ex_seq, ex_asg, ex_asgO, ex_par, ex_seti, ex_swp, ex_app, ex_ext, ex_ifs, ex_forS, ex_ret, ex_expr, ex_frz, sg0, sgS, ss0, ssS, setTg_nm, setTg_tup, setTgs_nil, setTgs_cons, tgN_nm, tgN_cons, tgN_nil, wipe_nil, wipe_cons, par_nil, par_f, par_t, isB_cst, isB_var, isB_bop, isB_neg, isB_notv, isB_band, isB_borr, isB_cmp, isB_chn, isB_ite, isB_call, isB_b1, isB_b2, isB_min3, isB_tup, isB_lst, isB_ix, isB_sl, isB_rev, isB_lr, isB_lc, isB_tl, isB_mkl, op_add, op_addL, op_addT, op_sub, op_mul, op_mulL, op_mulT, op_fdiv, op_mod, c_lt, c_le, c_gt, c_ge, c_eqi, c_nei, ixF_L, ixF_T, ixF_loc, setiF_c0, setiF_c1, frzF_o0, frzF_v0, frzF_o1, frzF_v1, frzF_o2, frzF_v2, frzF_o3, frzF_v3, frzF_o4, frzF_v4, frzF_o5, frzF_v5, frzF_o6, frzF_v6, frzF_o7, frzF_v7, frzF_o8, frzF_v8, frzF_o9, frzF_v9, frzF_o10, frzF_v10,  sl_L, sl_T, rev_L, rev_T, seq_L, seq_T, o2_gcd, o2_max, o2_min, o1_lenL, o1_lenT, o1_abs, o1_int, o1_listL, o1_listT, o1_listS, o1_tupL, o1_tupT, o1_isTupT, o1_isTupL, o1_isTupI, o1_isIntI, o1_isIntT, o1_isIntL, o1_isBoolI, o1_isBoolT, o1_isBoolL, lim_n0, lim_n1, lim_n2, lim_n3, lim_n4, lim_n5, lim_n6, lim_n7, lim_n8, at0, at1, lcF_eq, fsF_eq, fin_ret, fin_next, Option.map_some, Option.map_none, List.map_cons, List.map_nil, List.length_cons, List.length_nil, List.replicate, List.cons_append, List.nil_append, List.append_nil, Nat.reduceAdd, Nat.reduceSub, Nat.reduceLT, Nat.reduceLeDiff, Bool.or_false, Bool.or_true, Bool.and_true, Bool.true_and, Bool.false_and, Bool.and_false, Bool.false_or, Bool.true_or, Bool.false_eq_true, Bool.not_true, Bool.not_false, if_true, if_false, reduceIte, decide_true, decide_false, Int.reduceEq, Int.reduceNe, Int.reduceLT, Int.reduceLE, Int.reduceNeg, ne_eq, not_false_eq_true, not_true_eq_false, $ls,*])
open PySem PyD B Mo
variable {P : List Def} {ι : Nat → Nat} {n : Nat} {S : Store}
/-! ### lists in the store -/
section
variable {C : CallF} {W : Nat} {ρ : PyD.Env} {a e ix : T} {xs : List PyD.D} {k : Int} {m : Nat} {d x : PyD.D}
theorem ev_mkb : ev C (.mkb a) ρ S = bnd (ev C a ρ S) fun x S => (seqD x).map fun xs => (locD S.length, S ++ [xs]) := (rfl)
def tlF (x : PyD.D) (S : Store) : Option (PyD.D × Store) := match x with
    | .dict [(.int n, .none)] => if n < 0 then none else (S[n.toNat]?).map fun xs => (.tuple xs, S)
    | _ => none
theorem ev_tl : ev C (.tl a) ρ S = bnd (ev C a ρ S) fun x S => tlF x S := (rfl)
theorem tlF_loc (h : S[m]? = some xs) : tlF (locD m) S = some (.tuple xs, S) := by
  unfold tlF locD
  show (if ((m : Nat) : Int) < 0 then none else (S[((m : Nat) : Int).toNat]?).map fun xs => (PyData.tuple xs, S)) = _
  rw [if_neg (by omega), Int.toNat_natCast, h]
  rfl
def setlF (ρ : PyD.Env) (l y x : PyD.D) (S : Store) : Option (Res × Store) := match l, y with
    | .dict [(.int n, .none)], .int k => if n < 0 then none else (match S[n.toNat]? with
      | some xs => (match L2.ixN xs.length k with
        | some j => some (.next ρ, S.set n.toNat (xs.set j x))
        | none => none)
      | none => none)
    | _, _ => none
theorem ex_setl : ex C W (.setl a ix e) ρ S = if isB e then none else bnd (ev C e ρ S) fun x S => bnd (ev C a ρ S) fun l S => bnd (ev C ix ρ S) fun y S => setlF ρ l y x S := (rfl)
theorem setlF_loc {r : Nat} (h : S[m]? = some xs) (h2 : L2.ixN xs.length k = some r) : setlF ρ (locD m) (.int k) x S = some (.next ρ, S.set m (xs.set r x)) := by
  show (if ((m : Nat) : Int) < 0 then none else (match S[((m : Nat) : Int).toNat]? with
      | some xs => (match L2.ixN xs.length k with
        | some j => some (Res.next ρ, S.set ((m : Nat) : Int).toNat (xs.set j x))
        | none => none)
      | none => none)) = _
  rw [if_neg (by omega), Int.toNat_natCast, h]
  show (match L2.ixN xs.length k with
        | some j => some (Res.next ρ, S.set m (xs.set j x))
        | none => none) = _
  rw [h2]
end
theorem Yl.finX {r : Option (Res × Store)} {Q : PyD.D → Store → Prop} (h : Yl r fun a S' => ∃ d, a = .ret d ∧ Q d S') : ∃ d S', PyM.fin r = some (d, S') ∧ Q d S' := by
  obtain ⟨a, S', e, d, rfl, q⟩ := h
  exact ⟨d, S', by rw [e]; rfl, q⟩
theorem loopC_mkb {C : CallF} {v : Nat} {ρ : PyD.Env} (hv : ∀ d, PyD.get ((ρ.set v .no).set v (.val d)) v = some d) : ∀ (xs : List (List PyD.D)) (S : Store), loopC (lcF C (.nm v) .anil (.mkb (.var v)) ρ) (xs.map .tuple) S = some ((List.range xs.length).map fun i => locD (S.length + i), S ++ xs)
  | [], S => by simp [loopC]
  | x :: xs, S => by
    rw [List.map_cons, loopC]
    have e : lcF C (.nm v) .anil (.mkb (.var v)) ρ (.tuple x) S = some ([locD S.length], S ++ [x]) := by
      rw [lcF_eq]
      dsimp? [hv, ev_mkb, show isB (.mkb (.var v)) = false from rfl]
    rw [e]
    dsimp? [-lcF_eq, loopC_mkb hv xs (S ++ [x])]
    rw [List.range_succ_eq_map, List.map_cons, List.map_map, List.length_append, List.append_assoc]
    congr 1
    congr 1
    congr 1
    refine List.map_congr_left fun i _ => ?_
    show locD (S.length + 1 + i) = locD (S.length + (i + 1))
    rw [show S.length + 1 + i = S.length + (i + 1) by omega]
def unitT (w : Nat) : List (List PyD.D) := (List.range w).map fun i => (List.range w).map fun j => enc (if j = i then 1 else 0)
theorem cl_unit_in (H : Has P ι dep_unit_in) (hn : 1 ≤ n) {w : Nat} (hw : w ≤ 100) : callN P W0 n (ι i_unit_in) [.int (w : Nat)] S = some (.tuple ((unitT w).map .tuple), S) := by
  obtain ⟨c, rfl⟩ : ∃ c, n = c + 1 := ⟨n - 1, by omega⟩
  rw [H.go (d := d_unit_in) rfl rfl rfl]
  have e1 : loopC (lcF (callN P W0 c) (.nm 2) .anil (.b1 .tuple (.lc (.nm 1) (.itR1 (.var 0)) .anil (.ite (.cmp .eq (.var 1) (.var 2)) (.cst (.tuple [.int 1, .int 1])) (.cst (.tuple [.int 0, .int 1]))))) [.val (.int (w : Nat)), .no, .no]) (rngD 0 (w : Nat)) S = some ((unitT w).map .tuple, S) := by
    unfold unitT
    rw [rng_eq, List.map_map]
    refine loopC_enc fun i hi => ?_
    have e2 : ∀ z, loopC (lcF (callN P W0 c) (.nm 1) .anil (.ite (.cmp .eq (.var 1) (.var 2)) (.cst (.tuple [.int 1, .int 1])) (.cst (.tuple [.int 0, .int 1]))) [.val (.int (w : Nat)), z, .val (.int (i : Nat))]) (rngD 0 (w : Nat)) S = some ((List.range w).map fun j => enc (if j = i then 1 else 0), S) := by
      intro z
      rw [rng_eq]
      refine loopC_enc fun j hj => ?_
      by_cases c : j = i
      · subst c
        dsimp? [show decide (((j : Nat) : Int) = ((j : Nat) : Int)) = true from decide_eq_true rfl]
        rfl
      · have c2 : ¬ ((j : Nat) : Int) = ((i : Nat) : Int) := by omega
        dsimp? [c, c2]
        rfl
    have l2 : lim ((List.range w).map fun j => enc (if j = i then 1 else 0)) = some ((List.range w).map fun j => enc (if j = i then 1 else 0)) := lim_ok (by simp; omega)
    rw [lcF_eq]
    dsimp? [-lcF_eq, rng_ok (show w < 2 ^ 60 by omega), e2, l2]
    rfl
  have l1 : lim ((unitT w).map PyData.tuple) = some ((unitT w).map PyData.tuple) := lim_ok (by simp [unitT]; omega)
  dsimp? [d_unit_in, -lcF_eq, rng_ok (show w < 2 ^ 60 by omega), e1, l1]
theorem cl_cut_in (H : Has P ι dep_cut_in) (hn : 3 ≤ n) {f : Rat} {a b : Nat → Rat} {w : Nat} (ok : TbOk f a b w) : ∃ A B X, callN P W0 n (ι i_cut_in) [.tuple (tabT f a b w)] S = some (.tuple [A, .tuple ((List.range w).map fun i => enc (f * Dn b i)), B], S ++ X) := by
  obtain ⟨k, rfl⟩ : ∃ k, n = k + 1 := ⟨n - 1, by omega⟩
  rw [H.go (d := d_cut_in) rfl rfl rfl]
  have hw := ok.hw
  have e0 : loopC (lcF (callN P W0 k) (.nm 8) .anil (.b1 .list (.var 8)) [.val (.tuple (tabT f a b w)), .no, .no, .no, .no, .no, .no, .no, .no, .no, .no]) (tabT f a b w) S = some (tabE f a b w (fun i => 0), S) := by
    have : ∀ ds, loopC (lcF (callN P W0 k) (.nm 8) .anil (.b1 .list (.var 8)) [.val (.tuple ds), .no, .no, .no, .no, .no, .no, .no, .no, .no, .no]) (tabT f a b w) S = some (tabE f a b w (fun i => 0), S) := fun ds => by
      unfold tabT tabE
      refine loopC_enc fun i hi => ?_
      dsimp? [encL]
    exact this _
  have hl : lim (tabE f a b w (fun i => 0)) = some (tabE f a b w (fun i => 0)) := lim_ok (by rw [tabE_len]; omega)
  have hlt : (tabT f a b w).length = w := by simp [tabT]
  have e1 := cl_unit_in (H.sub (l' := dep_unit_in) rfl) (n := k) (by omega) (w := w) (by omega) (S := S)
  have hul : (unitT w).length = w := by simp [unitT]
  have e2 := loopC_mkb (C := callN P W0 k) (v := 8) (ρ := [.val (.tuple (tabT f a b w)), .no, .no, .no, .no, .no, .no, .no, .no, .no, .no]) (fun d => rfl) (unitT w) S
  rw [hul] at e2
  have l2 : lim ((List.range w).map fun i => locD (S.length + i)) = some ((List.range w).map fun i => locD (S.length + i)) := lim_ok (by simp; omega)
  have ti : ∀ {x y : Rat}, sm x → sm y → ∀ {S}, callN P W0 k (ι i_times) [enc x, enc y] S = some (enc (x * y), S) := fun {x y} hx hy {S} => cl_times (H.sub (l' := dep_times) rfl) (by omega) hx hy
  have mi : ∀ {x y : Rat}, sm x → sm y → ∀ {S}, callN P W0 k (ι i_minus) [enc x, enc y] S = some (enc (x - y), S) := fun {x y} hx hy {S} => cl_minus (H.sub (l' := dep_minus) rfl) (by omega) hx hy
  have ov : ∀ {x y : Rat}, sm x → sm y → y ≠ 0 → ∀ {S}, callN P W0 k (ι i_over) [enc x, enc y] S = some (enc (x / y), S) := fun {x y} hx hy h0 {S} => cl_over (H.sub (l' := dep_over) rfl) (by omega) hx hy h0
  suffices h : ∃ d S', fin _ = some (d, S') ∧ ∃ A B X, d = .tuple [A, .tuple ((List.range w).map fun i => enc (f * Dn b i)), B] ∧ S' = S ++ X by
    obtain ⟨d, S', e, A, B, X, rfl, rfl⟩ := h
    exact ⟨A, B, X, e⟩
  apply Yl.finX
  dsimp? [d_cut_in, -lcF_eq, -fsF_eq, e0, hl, hlt, e1, e2, l2, tabE_len, rng_ok (show w < 2 ^ 60 by omega)]
  refine Yl.rng (fun i ρ S' => ∃ X : Store, (X.length = w ∧ ∀ x ∈ X, x.length = w) ∧ S' = S ++ X ∧ ∃ z3 z4 z5 z6 z7 z8 z9 z10, ρ = [.val (.tuple (tabT f a b w)), .own (tabE f a b w (fun r => min i r)), .own ((List.range w).map fun i => locD (S.length + i)), z3, z4, z5, z6, z7, z8, z9, z10]) ⟨unitT w, ⟨hul, fun x hx => by
    unfold unitT at hx
    obtain ⟨j, _, rfl⟩ := List.mem_map.mp hx
    simp⟩, rfl, .no, .no, .no, .no, .no, .no, .no, .no, by rw [tabE_congr (g' := fun r => min 0 r) fun i hi => by omega]⟩ ?_ ?_
  · rintro i ρ S' hi ⟨X, hX, rfl, z3, z4, z5, z6, z7, z8, z9, z10, rfl⟩
    have piv : f * E a b i i i ≠ 0 := by
      rw [E_row, L_diag, show f * (Dn b i * 1) = f * Dn b i by grind]
      exact ok.d0 hi
    have piv2 : f * E a b i i i = f * Dn b i := by rw [E_row, L_diag]; grind
    have mp := (E_sm ok (i := i) (j := i) (s := i) (by omega) (by omega) (by omega)).1
    have piv' := piv
    rw [piv2] at mp piv'
    rw [fsF_eq]
    dsimp? [-lcF_eq, -fsF_eq, at_tabE hi, show min i i = i by omega, at_rowE hi, piv2, ix_num, num0, piv', tabE_len, show ((i : Nat) : Int) + 1 = ((i + 1 : Nat) : Int) by omega, rng_ok (show i + 1 < 2 ^ 60 by omega), rng_ok (show w < 2 ^ 60 by omega)]
    apply Yl.unb
    refine Yl.rng2 (fun q ρ S'' => ∃ X : Store, (X.length = w ∧ ∀ x ∈ X, x.length = w) ∧ S'' = S ++ X ∧ ∃ z4 z5 z6 z7 z8 z9 z10, ρ = [.val (.tuple (tabT f a b w)), .own (tabE f a b w (fun r => if r < q then min (i + 1) r else min i r)), .own ((List.range w).map fun i => locD (S.length + i)), .val (.int (i : Nat)), z4, z5, z6, z7, z8, z9, z10]) (by omega) ⟨X, hX, rfl, _, _, _, _, _, _, _, by rw [tabE_congr (g := fun r => min i r) (g' := fun r => if r < i + 1 then min (i + 1) r else min i r) fun r hr => by split <;> omega]⟩ ?_ ?_
    · rintro q ρ S'' hq1 hq2 ⟨X, hX, rfl, z4, z5, z6, z7, z8, z9, z10, rfl⟩
      obtain ⟨s1, s2, _⟩ := E_sm ok (i := q) (j := i) (s := i) (by omega) (by omega) (by omega)
      have by1 : ∀ S, callN P W0 k (ι i_over) [enc (f * E a b i q i), enc (f * Dn b i)] S = some (enc (L a b q i), S) := fun S => by
        rw [ov s1 mp piv', ← piv2, E_by ok hi]
      have hg : ∀ r, r < w → (if r < q + 1 then min (i + 1) r else min i r) = (if r = q then i + 1 else if r < q then min (i + 1) r else min i r) := fun r hr => by
        split <;> split <;> (try split) <;> omega
      have hgq : (if q < q then min (i + 1) q else min i q) = i := by rw [if_neg (by omega)]; omega
      have hgi : (if i < q then min (i + 1) i else min i i) = i := by split <;> omega
      have xq : (S ++ X)[S.length + q]? = some (X[q]'(by omega)) := by
        rw [List.getElem?_append_right (by omega), show S.length + q - S.length = q by omega, List.getElem?_eq_getElem (by omega)]
      have xql : (X[q]'(by omega)).length = w := hX.2 _ (List.getElem_mem _)
      have hset : (S ++ X).set (S.length + q) ((X[q]'(by omega)).set i (enc (L a b q i))) = S ++ X.set q ((X[q]'(by omega)).set i (enc (L a b q i))) := by
        rw [List.set_append_right _ _ (by omega), show S.length + q - S.length = q by omega]
      have hX2 : (X.set q ((X[q]'(by omega)).set i (enc (L a b q i)))).length = w ∧ ∀ x ∈ X.set q ((X[q]'(by omega)).set i (enc (L a b q i))), x.length = w := by
        refine ⟨by rw [List.length_set]; exact hX.1, fun x hx => ?_⟩
        rcases List.mem_or_eq_of_mem_set hx with h | h
        · exact hX.2 x h
        · rw [h, List.length_set]; exact xql
      have hloc : atD ((List.range w).map fun i => locD (S.length + i)) ((q : Nat) : Int) = some (locD (S.length + q)) := at_ok (by rw [List.getElem?_map, List.getElem?_range hq2]; rfl)
      have hsl := setlF_loc (S := S ++ X) (ρ := [.val (.tuple (tabT f a b w)), .own (tabE f a b w (fun r => if r < q then min (i + 1) r else min i r)), .own ((List.range w).map fun i => locD (S.length + i)), .val (.int (i : Nat)), .val (.int (q : Nat)), .val (enc (L a b q i)), z6, z7, z8, z9, z10]) (x := enc (L a b q i)) (k := ((i : Nat) : Int)) xq (ixN_nat (m := i) (by rw [xql]; exact hi))
      rw [hset] at hsl
      generalize X.set q ((X[q]'(by omega)).set i (enc (L a b q i))) = X2 at hsl hX2
      have e1 : ∀ z9 z10 S0, loopC (lcF (callN P W0 k) (.acons (.nm 9) (.acons (.nm 10) .anil)) .anil (.call (ι i_minus) (.acons (.var 9) (.acons (.call (ι i_times) (.acons (.var 5) (.acons (.var 10) .anil))) .anil))) [.val (.tuple (tabT f a b w)), .own (tabE f a b w (fun r => if r < q then min (i + 1) r else min i r)), .own ((List.range w).map fun i => locD (S.length + i)), .val (.int (i : Nat)), .val (.int (q : Nat)), .val (enc (L a b q i)), z6, z7, z8, z9, z10]) (((rowE f a b w i q).zip (rowE f a b w i i)).map fun p => .tuple [enc p.1, enc p.2]) S0 = some ((rowE f a b w (i + 1) q).map enc, S0) := by
        intro z9 z10 S0
        rw [← row_step, loopC_enc (g := fun p : Rat × Rat => enc (p.1 - L a b q i * p.2)) fun p hp => by
          unfold rowE at hp
          rw [List.zip_map'] at hp
          obtain ⟨j, hj, rfl⟩ := List.mem_map.mp hp
          have hj := List.mem_range.mp hj
          have u1 := (E_sm ok (i := q) (j := j) (s := i) (by omega) (by omega) (by omega)).1
          have u2 := E_sm ok (i := i) (j := j) (s := i) (by omega) (by omega) (by omega)
          have u3 : sm (L a b q i * (f * E a b i i j)) := (Sz.mul (k := 24) (N := 1) ((L_sz ok.ha ok.hb).mono (by omega)) (ok.hf.mul (E_sz ok (s := i) (by omega) (by omega) (by omega)))).sm (by omega) (by omega)
          dsimp? [ti s2 u2.1, mi u1 u3]]
        rw [List.map_map]
        rfl
      have hlr : lim ((rowE f a b w (i + 1) q).map enc) = some ((rowE f a b w (i + 1) q).map enc) := lim_map (by rw [rowE_len]; omega)
      rw [fsF_eq]
      dsimp? [-lcF_eq, -fsF_eq, ex_setl, at_tabE hq2, at_tabE hi, hgq, hgi, at_rowE hi, piv2, by1, hloc, hsl, zip_enc, e1, hlr, setiF_o1 (ixN_nat (n := (tabE f a b w fun r => if r < q then min (i + 1) r else min i r).length) (m := q) (by rw [tabE_len]; exact hq2)), tabE_set hq2]
      refine Yl.stay ?_
      exact ⟨X2, hX2, rfl, _, _, _, _, _, _, _, by rw [tabE_congr hg]⟩
    · rintro ρ S'' ⟨X, hX, rfl, z4, z5, z6, z7, z8, z9, z10, rfl⟩
      refine Yl.stay ?_
      exact ⟨X, hX, rfl, _, _, _, _, _, _, _, _, by rw [tabE_congr (g := fun r => if r < w then min (i + 1) r else min i r) (g' := fun r => min (i + 1) r) fun r hr => if_pos hr]⟩
  · rintro ρ S' ⟨X, hX, rfl, z3, z4, z5, z6, z7, z8, z9, z10, rfl⟩
    have hdiag : ∀ r, r < w → min w r = r := fun r hr => by omega
    have piv2 : ∀ r, f * E a b r r r = f * Dn b r := fun r => by rw [E_row, L_diag]; grind
    have ea : ∀ z4 z5 z6 z7 z8 z9 z10 z3, loopC (lcF (callN P W0 k) (.nm 3) .anil (.ix (.ix (.bor 1) (.var 3)) (.var 3)) [.val (.tuple (tabT f a b w)), .own (tabE f a b w (fun r => min w r)), .own ((List.range w).map fun i => locD (S.length + i)), z3, z4, z5, z6, z7, z8, z9, z10]) (rngD 0 (w : Nat)) (S ++ X) = some ((List.range w).map (fun i => enc (f * Dn b i)), S ++ X) := by
      intro z4 z5 z6 z7 z8 z9 z10 z3
      rw [rng_eq]
      refine loopC_enc fun r hr => ?_
      have hr := List.mem_range.mp hr
      dsimp? [at_tabE hr, hdiag r hr, at_rowE hr, piv2]
    have la : lim ((List.range w).map fun i => enc (f * Dn b i)) = some ((List.range w).map fun i => enc (f * Dn b i)) := lim_ok (by simp; omega)
    have eb : ∀ z4 z5 z6 z7 z8 z9 z10 z3, loopC (lcF (callN P W0 k) (.nm 3) .anil (.b1 .tuple (.lc (.nm 9) (.itS (.ix (.bor 1) (.var 3))) .anil (.call (ι i_over) (.acons (.var 9) (.acons (.ix (.ix (.bor 1) (.var 3)) (.var 3)) .anil))))) [.val (.tuple (tabT f a b w)), .own (tabE f a b w (fun r => min w r)), .own ((List.range w).map fun i => locD (S.length + i)), z3, z4, z5, z6, z7, z8, z9, z10]) (rngD 0 (w : Nat)) (S ++ X) = some ((List.range w).map (fun r => encL ((rowE f a b w r r).map fun x => x / (f * Dn b r))), S ++ X) := by
      intro z4 z5 z6 z7 z8 z9 z10 z3
      rw [rng_eq]
      refine loopC_enc fun r hr => ?_
      have hr := List.mem_range.mp hr
      have mp := (E_sm ok (i := r) (j := r) (s := r) (by omega) (by omega) (by omega)).1
      rw [piv2] at mp
      have e3 : ∀ z9, loopC (lcF (callN P W0 k) (.nm 9) .anil (.call (ι i_over) (.acons (.var 9) (.acons (.ix (.ix (.bor 1) (.var 3)) (.var 3)) .anil))) [.val (.tuple (tabT f a b w)), .own (tabE f a b w (fun r => min w r)), .own ((List.range w).map fun i => locD (S.length + i)), .val (.int (r : Nat)), z4, z5, z6, z7, z8, z9, z10]) ((rowE f a b w r r).map enc) (S ++ X) = some (((rowE f a b w r r).map fun x => x / (f * Dn b r)).map enc, S ++ X) := by
        intro z9
        rw [List.map_map]
        refine loopC_enc fun x hx => ?_
        unfold rowE at hx
        obtain ⟨j, hj, rfl⟩ := List.mem_map.mp hx
        have hj := List.mem_range.mp hj
        have u1 := (E_sm ok (i := r) (j := j) (s := r) (by omega) (by omega) (by omega)).1
        dsimp? [at_tabE hr, hdiag r hr, at_rowE hr, piv2, ov u1 mp (ok.d0 hr)]
        rfl
      have l3 : lim (((rowE f a b w r r).map fun x => x / (f * Dn b r)).map enc) = some (((rowE f a b w r r).map fun x => x / (f * Dn b r)).map enc) := lim_map (by simp [rowE_len]; omega)
      rw [lcF_eq]
      dsimp? [-lcF_eq, at_tabE hr, hdiag r hr, e3, l3]
      rfl
    have lb : lim ((List.range w).map fun r => encL ((rowE f a b w r r).map fun x => x / (f * Dn b r))) = some ((List.range w).map fun r => encL ((rowE f a b w r r).map fun x => x / (f * Dn b r))) := lim_ok (by simp; omega)
    have ec : ∀ z4 z5 z6 z7 z8 z9 z10 z3, loopC (lcF (callN P W0 k) (.nm 8) .anil (.tl (.var 8)) [.val (.tuple (tabT f a b w)), .own (tabE f a b w (fun r => min w r)), .val (.list ((List.range w).map fun i => locD (S.length + i))), z3, z4, z5, z6, z7, z8, z9, z10]) ((List.range w).map fun i => locD (S.length + i)) (S ++ X) = some ((List.range w).map (fun i => .tuple (X.getD i [])), S ++ X) := by
      intro z4 z5 z6 z7 z8 z9 z10 z3
      refine loopC_enc fun r hr => ?_
      have hr := List.mem_range.mp hr
      have xr : (S ++ X)[S.length + r]? = some (X.getD r []) := by
        rw [List.getElem?_append_right (by omega), show S.length + r - S.length = r by omega, List.getD_eq_getElem?_getD, List.getElem?_eq_getElem (by omega)]; rfl
      dsimp? [ev_tl, tlF_loc xr]
    have lc : lim ((List.range w).map fun i => PyData.tuple (X.getD i [])) = some ((List.range w).map fun i => PyData.tuple (X.getD i [])) := lim_ok (by simp; omega)
    dsimp? [-lcF_eq, tabE_len, rng_ok (show w < 2 ^ 60 by omega), ea, la, eb, lb, ec, lc]
    exact Yl.ok ⟨_, rfl, _, _, X, rfl, rfl⟩
theorem cl_middle_of_row (H : Has P ι dep_middle_of_row) (hn : 7 ≤ n) {s : Nat} {f : Rat} {as bs : List Rat} (ok : StOk s f as bs) (hs1 : s ≤ 1) : ∃ X, callN P W0 n (ι i_middle_of_row) [encL (momL f as bs (2 * as.length)), .int (as.length : Nat)] S = some (.tuple ((List.range as.length).map fun i => enc (f * Dn (fa bs) i)), S ++ X) := by
  obtain ⟨m, rfl⟩ : ∃ m, n = m + 1 := ⟨n - 1, by omega⟩
  have h1 := ok.h1; have h12 := ok.h12
  obtain ⟨A, B, X, e3⟩ := cl_cut_in (H.sub (l' := dep_cut_in) rfl) (n := m) (S := S) (by omega) (ok.tb hs1 (Nat.le_refl _))
  refine ⟨X, ?_⟩
  rw [H.go (d := d_middle_of_row) rfl rfl rfl]
  have e1 := cl_need_levels (H.sub (l' := dep_need_levels) rfl) (n := m) (S := S) (by omega) ok hs1 (M := 2 * as.length) (lv := as.length) (by omega) h1 (Nat.le_refl _) (Nat.le_refl _)
  have e2 := cl_table_in (H.sub (l' := dep_table_in) rfl) (n := m) (S := S) (by omega) (f := f) (as := as) (bs := bs) (M := 2 * as.length) (by omega) (w := as.length) (by omega)
  dsimp? [d_middle_of_row, e1, e2, e3]
end PyM

set_option linter.all false
set_option maxRecDepth 100000
set_option exponentiation.threshold 20000
/-! PyN, part 32: the law k91: one row. -/
namespace PyM
local macro_rules | `(tactic| dsimp? [$ls,*]) => `(tactic| simp only [bnd_ok, bnd_no, get0, getS, getB0, getBo, getBS, ev_cst, ev_var, ev_bor, ev_bop, ev_neg, ev_notv, ev_band, ev_borr, ev_cmp, ev_chn, ev_ite, ev_call, ev_b1, ev_b2, ev_min3, ev_tup, ev_lst, ev_mkl, ev_ix, ev_sl, ev_rev, ev_lr, ev_lc, evA_nil, evA_cons, evO_nop, evO_cons, evT_band, evT_borr, evT_notv, evT_cmp, evT_chn, evT_call, evT_b1, evT_var, evQ_nil, evQ_cons, evI_S, evI_R1, evI_R2, evI_R3, evI_Z, evI_E, ex_skip, ex_seq, ex_asg, ex_asgO, ex_par, ex_seti, ex_swp, ex_app, ex_ext, ex_ifs, ex_forS, ex_ret, ex_expr, ex_frz, sg0, sgS, ss0, ssS, setTg_nm, setTg_tup, setTgs_nil, setTgs_cons, tgN_nm, tgN_cons, tgN_nil, wipe_nil, wipe_cons, par_nil, par_f, par_t, isB_cst, isB_var, isB_bop, isB_neg, isB_notv, isB_band, isB_borr, isB_cmp, isB_chn, isB_ite, isB_call, isB_b1, isB_b2, isB_min3, isB_tup, isB_lst, isB_ix, isB_sl, isB_rev, isB_lr, isB_lc, isB_tl, isB_mkl, op_add, op_addL, op_addT, op_sub, op_mul, op_mulL, op_mulT, op_fdiv, op_mod, c_lt, c_le, c_gt, c_ge, c_eqi, c_nei, ixF_L, ixF_T, ixF_loc, setiF_c0, setiF_c1, frzF_o0, frzF_v0, frzF_o1, frzF_v1, frzF_o2, frzF_v2, frzF_o3, frzF_v3, frzF_o4, frzF_v4, frzF_o5, frzF_v5, frzF_o6, frzF_v6, frzF_o7, frzF_v7, frzF_o8, frzF_v8, frzF_o9, frzF_v9, frzF_o10, frzF_v10,  sl_L, sl_T, rev_L, rev_T, seq_L, seq_T, o2_gcd, o2_max, o2_min, o1_lenL, o1_lenT, o1_abs, o1_int, o1_listL, o1_listT, o1_listS, o1_tupL, o1_tupT, o1_isTupT, o1_isTupL, o1_isTupI, o1_isIntI, o1_isIntT, o1_isIntL, o1_isBoolI, o1_isBoolT, o1_isBoolL, lim_n0, lim_n1, lim_n2, lim_n3, lim_n4, lim_n5, lim_n6, lim_n7, lim_n8, at0, at1, lcF_eq, fsF_eq, fin_ret, fin_next, Option.map_some, Option.map_none, List.map_cons, List.map_nil, List.length_cons, List.length_nil, List.replicate, List.cons_append, List.nil_append, List.append_nil, Nat.reduceAdd, Nat.reduceSub, Nat.reduceLT, Nat.reduceLeDiff, Bool.or_false, Bool.or_true, Bool.and_true, Bool.true_and, Bool.false_and, Bool.and_false, Bool.false_or, Bool.true_or, Bool.false_eq_true, Bool.not_true, Bool.not_false, if_true, if_false, reduceIte, decide_true, decide_false, Int.reduceEq, Int.reduceNe, Int.reduceLT, Int.reduceLE, Int.reduceNeg, ne_eq, not_false_eq_true, not_true_eq_false, $ls,*])
open PySem PyD B Mo
variable {P : List Def} {ι : Nat → Nat} {n : Nat} {S : Store}
theorem pl_encS {k : Nat} {as bs : List Rat} : Pl (k + 3) (encS as bs) := .tup fun d hd => by
  simp only [List.mem_cons, List.not_mem_nil, or_false] at hd
  rcases hd with h | h <;> subst h <;> exact pl_encL
theorem pl_list {k : Nat} {ds : List PyD.D} (h : ∀ d ∈ ds, Pl k d) : Pl (k + 1) (.list ds) := .lst h
theorem pl_ruleD {k m : Nat} {as bs : List Rat} : ∀ d ∈ ruleD as bs m, Pl (k + 2) d := fun d hd => by
  unfold ruleD at hd
  obtain ⟨i, _, rfl⟩ := List.mem_map.mp hd
  exact pl_encL
theorem pl_triD {k m j : Nat} {as bs : List Rat} : Pl (k + 3) (.tuple (triD as bs m j)) := .tup fun d hd => by
  unfold triD at hd
  obtain ⟨i, _, rfl⟩ := List.mem_map.mp hd
  exact pl_encL
theorem pl_encs {k : Nat} {xs : List Nat} {g : Nat → Rat} : Pl (k + 2) (.tuple (xs.map fun i => enc (g i))) := .tup fun d hd => by
  obtain ⟨i, _, rfl⟩ := List.mem_map.mp hd
  exact pl_enc
theorem cl_row_right (H : Has P ι dep__law_row_right) (hn : 9 ≤ n) {s : Nat} {f : Rat} {as bs : List Rat} (ok : StOk s f as bs) (hs1 : s ≤ 1) (h8 : as.length ≤ 8) : ∃ X, callN P W0 n (ι i__law_row_right) [enc f, encS as bs] S = some (.bool true, S ++ X) := by
  obtain ⟨c, rfl⟩ : ∃ c, n = c + 1 := ⟨n - 1, by omega⟩
  have h1 := ok.h1; have h12 := ok.h12; have hl := ok.hl
  obtain ⟨X, e13⟩ := cl_middle_of_row (H.sub (l' := dep_middle_of_row) rfl) (n := c) (S := S) (by omega) ok hs1
  refine ⟨X, ?_⟩
  rw [H.go (d := d__law_row_right) rfl rfl rfl]
  have e1 := cl_lmoments (H.sub (l' := dep__law_moments) rfl) (n := c) (S := S) (by omega) ok (m := 2 * as.length) (by omega)
  have e2 := cl_row_of_steps (H.sub (l' := dep_row_of_steps) rfl) (n := c) (S := S) (by omega) ok
  have e3 := cl_steps_of_row (H.sub (l' := dep_steps_of_row) rfl) (n := c) (S := S) (by omega) ok hs1
  have e4 := cl_steps_by_peeling (H.sub (l' := dep_steps_by_peeling) rfl) (n := c) (S := S) (by omega) ok hs1
  have e5 := cl_rule_length (H.sub (l' := dep_rule_length) rfl) (n := c) (S := S) (by omega) ok hs1
  have e6 := cl_like (H.sub (l' := dep__law_like) rfl) (n := c) (S := S) (k := 5) (d := .list [encL (momL f as bs (2 * as.length)), encS as bs, .tuple [enc f, encS as bs], .int (as.length : Nat)]) (by omega) (.lst fun d hd => by
    simp only [List.mem_cons, List.not_mem_nil, or_false] at hd
    rcases hd with h | h | h | h <;> subst h
    · exact pl_encL
    · exact pl_encS
    · exact .tup fun d hd => by
        simp only [List.mem_cons, List.not_mem_nil, or_false] at hd
        rcases hd with h | h <;> subst h
        · exact pl_enc
        · exact pl_encS
    · exact .int)
  have e7 := cl_quotient_right (H.sub (l' := dep__law_quotient_right) rfl) (n := c) (S := S) (by omega) ok hs1
  have e8 := cl_lrule (H.sub (l' := dep__law_rule) rfl) (n := c) (S := S) (by omega) ok.ps (m := as.length) (Nat.le_refl _)
  have e9 : ∀ z4 z5 z6 z7 z8 z9 z10 z11 z12, loopC (lcF (callN P W0 c) (.nm 10) .anil (.call (ι i_ruled) (.acons (.var 1) (.acons (.var 10) .anil))) [.val (enc f), .val (encS as bs), .val (.int (as.length : Nat)), .val (encL (momL f as bs (2 * as.length))), z4, z5, z6, z7, z8, z9, z10, z11, z12]) (rngD 0 ((as.length + 1 : Nat) : Int)) S = some (ruleD as bs (as.length + 1), S) := by
    intro z4 z5 z6 z7 z8 z9 z10 z11 z12
    unfold ruleD
    rw [rng_eq]
    refine loopC_enc fun i hi => ?_
    have hi := List.mem_range.mp hi
    dsimp? [cl_ruled (H.sub (l' := dep_ruled) rfl) (n := c) (S := S) (by omega) ok (k := i) (by omega)]
  have e10 : ∀ z4 z5 z6 z7 z8 z9 z10 z11 z12, loopC (lcF (callN P W0 c) (.nm 10) .anil (.call (ι i_upright_of) (.acons (.var 3) (.acons (.var 10) .anil))) [.val (enc f), .val (encS as bs), .val (.int (as.length : Nat)), .val (encL (momL f as bs (2 * as.length))), z4, z5, z6, z7, z8, z9, z10, z11, z12]) (rngD 0 ((as.length + 1 : Nat) : Int)) S = some (ruleD as bs (as.length + 1), S) := by
    intro z4 z5 z6 z7 z8 z9 z10 z11 z12
    unfold ruleD
    rw [rng_eq]
    refine loopC_enc fun i hi => ?_
    have hi := List.mem_range.mp hi
    dsimp? [cl_upright_of (H.sub (l' := dep_upright_of) rfl) (n := c) (S := S) (by omega) ok hs1 (M := 2 * as.length) (k := i) (by omega) (by omega) (by omega) (by omega)]
  have l9 : lim (ruleD as bs (as.length + 1)) = some (ruleD as bs (as.length + 1)) := lim_ok (by rw [ruleD_len]; omega)
  have l10 : lim (ruleD as bs (as.length + 1) ++ ruleD as bs (as.length + 1)) = some (ruleD as bs (as.length + 1) ++ ruleD as bs (as.length + 1)) := lim_ok (by rw [List.length_append, ruleD_len]; omega)
  have e11 := cl_like (H.sub (l' := dep__law_like) rfl) (n := c) (S := S) (k := 3) (d := .list (ruleD as bs (as.length + 1) ++ ruleD as bs (as.length + 1))) (by omega) (.lst fun d hd => by
    rcases List.mem_append.mp hd with h | h <;> exact pl_ruleD d h)
  -- the parts
  have e12 : ∀ z4 z5 z6 z7 z8 z9 z10 z11 z12, loopC (lcF (callN P W0 c) (.nm 11) .anil (.tup (.acons (.tup (.acons (.neg (.ix (.var 11) (.cst (.int 0)))) (.acons (.ix (.var 11) (.cst (.int 1))) .anil))) (.acons (.tup (.acons (.cst (.int 1)) (.acons (.cst (.int 1)) .anil))) .anil))) [.val (enc f), .val (.tuple [.tuple (as.map enc), .tuple (bs.map enc)]), .val (.int (as.length : Nat)), .val (.tuple ((momL f as bs (2 * as.length)).map enc)), z4, z5, z6, z7, z8, z9, z10, z11, z12]) (as.map enc) S = some (as.map fun a => encL [-a, 1], S) := by
    intro z4 z5 z6 z7 z8 z9 z10 z11 z12
    refine loopC_enc fun a ha => ?_
    dsimp? [ix_num, ix_den, neg_enc', enc1s]
    rfl
  have l12 : lim (as.map fun a => encL [-a, 1]) = some (as.map fun a => encL [-a, 1]) := lim_ok (by rw [List.length_map]; omega)
  have e14 := cl_long_steps_of (H.sub (l' := dep_long_steps_of) rfl) (n := c) (S := S) (by omega) ok hs1
  have e15 := cl_all_determinants (H.sub (l' := dep_all_determinants) rfl) (n := c) (S := S) (by omega) ok hs1
  have e16 := cl_triangle_of_row (H.sub (l' := dep_triangle_of_row) rfl) (n := c) (S := S) (by omega) ok hs1
  have e17 : ∀ z4 z5 z6 z7 z8 z9 z10 z11 z12, loopC (lcF (callN P W0 c) (.nm 12) .anil (.call (ι i__law_determinant) (.acons (.call (ι i__law_shifted) (.acons (.var 3) (.acons (.var 12) (.acons (.cst (.int 0)) .anil)))) .anil)) [.val (enc f), .val (.tuple [.tuple (as.map enc), .tuple (bs.map enc)]), .val (.int (as.length : Nat)), .val (.tuple ((momL f as bs (2 * as.length)).map enc)), z4, z5, z6, z7, z8, z9, z10, z11, z12]) (rngD 0 ((as.length + 1 : Nat) : Int)) (S ++ X) = some ((List.range (as.length + 1)).map fun k => enc (detP f (fa bs) k), S ++ X) := by
    intro z4 z5 z6 z7 z8 z9 z10 z11 z12
    rw [rng_eq]
    refine loopC_enc fun i hi => ?_
    have hi := List.mem_range.mp hi
    have q1 := cl_lshifted (H.sub (l' := dep__law_shifted) rfl) (n := c) (S := S ++ X) (by omega) (f := f) (as := as) (bs := bs) (M := 2 * as.length) (w := i) (by omega) (by omega)
    have q2 := cl_ldeterminant (H.sub (l' := dep__law_determinant) rfl) (n := c) (S := S ++ X) (by omega) (ok.tb hs1 (w := i) (by omega))
    unfold encL at q1
    dsimp? [q1, q2]
  have l17 : lim ((List.range (as.length + 1)).map fun k => enc (detP f (fa bs) k)) = some ((List.range (as.length + 1)).map fun k => enc (detP f (fa bs) k)) := lim_ok (by simp; omega)
  have e18 := cl_ltriangle (H.sub (l' := dep__law_triangle) rfl) (n := c) (S := S ++ X) (by omega) ok.ps hs1 (m := as.length) h1 (Nat.le_refl _) h8
  have e19 := cl_like (H.sub (l' := dep__law_like) rfl) (n := c) (S := S ++ X) (k := 5) (d := .list [.tuple [.tuple (as.map fun a => encL [-a, 1]), encL (f :: bs)], .tuple ((List.range (as.length + 1)).map fun k => enc (detP f (fa bs) k)), .tuple (triD as bs as.length as.length), .tuple ((List.range as.length).map fun i => enc (f * Dn (fa bs) i))]) (by omega) (.lst fun d hd => by
    simp only [List.mem_cons, List.not_mem_nil, or_false] at hd
    rcases hd with h | h | h | h <;> subst h
    · exact .tup fun d hd => by
        simp only [List.mem_cons, List.not_mem_nil, or_false] at hd
        rcases hd with h | h <;> subst h
        · exact .tup fun d hd => by
            obtain ⟨a, _, rfl⟩ := List.mem_map.mp hd
            exact pl_encL
        · exact pl_encL
    · exact pl_encs
    · exact pl_triD
    · exact pl_encs)
  have m1 : mulOk 2 ((as.length : Nat) : Int) = true := mulS (by rw [Int.natAbs_natCast]; omega)
  have c1 : (2 : Int) * ((as.length : Nat) : Int) = ((2 * as.length : Nat) : Int) := by omega
  have c2 : ((as.length : Nat) : Int) + 1 = ((as.length + 1 : Nat) : Int) := by omega
  have l20 : lim (enc f :: bs.map enc) = some (enc f :: bs.map enc) := lim_ok (by simp; omega)
  suffices h : ∃ S', fin _ = some (PyData.bool true, S') ∧ S' = S ++ X by
    obtain ⟨S', e, rfl⟩ := h
    exact e
  apply Yl.finE
  rw [show encS as bs = .tuple [.tuple (as.map enc), .tuple (bs.map enc)] from rfl] at *
  unfold encL at e1 e2 e3 e4 e5 e6 e7 e9 e10 e13 e14 e15 e16 e19
  dsimp? [d__law_row_right, -lcF_eq, -fsF_eq, List.length_map, m1, c1, e1, e2, e3, e4, e5, e6, e7, e8, c2, rng_ok (show as.length + 1 < 2 ^ 60 by omega), e9, e10, l9, l10, e11, e12, l12]
  refine Yl.lst (fun i ρ S' => S' = S ∧ ∃ z4 z5 z8 z9 z10 z11 z12, ρ = [.val (enc f), .val (.tuple [.tuple (as.map enc), .tuple (bs.map enc)]), .val (.int (as.length : Nat)), .val (.tuple ((momL f as bs (2 * as.length)).map enc)), z4, z5, .val (.tuple (as.map fun a => .tuple ([-a, 1].map enc))), .own ((List.range (i + 1)).map fun j => enc (f * Dn (fa bs) j)), z8, z9, z10, z11, z12]) ⟨rfl, _, _, .no, .no, .no, .no, .no, by
    rw [show List.range (0 + 1) = [0] from rfl, List.map_singleton, show f * Dn (fa bs) 0 = f by rw [Dn]; grind]
    rfl⟩ ?_ ?_
  · rintro i ρ S' hi ⟨rfl, z4, z5, z8, z9, z10, z11, z12, rfl⟩
    have hx : bs[i]'hi = fa bs i := by
      unfold fa
      rw [List.getD_eq_getElem?_getD, List.getElem?_eq_getElem hi]; rfl
    have u1 : sm (f * Dn (fa bs) i) := (ok.hf.mul1 (Dn_sz (fun k => sz_fa ok.hb) (k := i))).sm (by
      have : s * i ≤ 1 * 12 := Nat.mul_le_mul hs1 (by omega)
      omega) (by omega)
    have u2 : sm (fa bs i) := (sz_fa ok.hb).sm (by omega) (by omega)
    have t1 := cl_ltimes (H.sub (l' := dep__law_times) rfl) (n := c) (S := S') (by omega) u1 u2
    rw [show f * Dn (fa bs) i * fa bs i = f * Dn (fa bs) (i + 1) by rw [Dn]; grind] at t1
    have g : ((List.range (i + 1)).map fun j => enc (f * Dn (fa bs) j)).length < LIM := LIM_ok (by simp; omega)
    have la : atD ((List.range (i + 1)).map fun j => enc (f * Dn (fa bs) j)) (-1) = some (enc (f * Dn (fa bs) i)) := by
      rw [← range_snoc (q := i)]
      exact at_last
    have hs : ((List.range (i + 1)).map fun j => enc (f * Dn (fa bs) j)) ++ [enc (f * Dn (fa bs) (i + 1))] = (List.range (i + 1 + 1)).map fun j => enc (f * Dn (fa bs) j) := range_snoc
    rw [hx, fsF_eq]
    dsimp? [la, t1, appF_o7 g]
    refine Yl.stay ?_
    exact ⟨rfl, _, _, _, _, _, _, _, by rw [hs]⟩
  · rintro ρ S' ⟨rfl, z4, z5, z8, z9, z10, z11, z12, rfl⟩
    rw [show bs.length + 1 = as.length by omega]
    dsimp? [-lcF_eq, -fsF_eq, e14, e15, e16, e13, List.length_map, c2, rng_ok (show as.length + 1 < 2 ^ 60 by omega), e17, l17, l20, e18]
    rw [show (enc f :: bs.map enc) = (f :: bs).map enc from rfl]
    simp only [List.map_cons, List.map_nil] at e19
    rw [List.map_cons, e19]
    exact Yl.ok ⟨.inl rfl, rfl⟩
end PyM

set_option linter.all false
set_option maxRecDepth 100000
set_option exponentiation.threshold 20000
/-! PyN, part 33: the law k91. -/
namespace PyM
local macro_rules | `(tactic| dsimp? [$ls,*]) => `(tactic| simp only [bnd_ok, bnd_no, get0, getS, getB0, getBo, getBS, ev_cst, ev_var, ev_bor, ev_bop, ev_neg, ev_notv, ev_band, ev_borr, ev_cmp, ev_chn, ev_ite, ev_call, ev_b1, ev_b2, ev_min3, ev_tup, ev_lst, ev_mkl, ev_ix, ev_sl, ev_rev, ev_lr, ev_lc, evA_nil, evA_cons, evO_nop, evO_cons, evT_band, evT_borr, evT_notv, evT_cmp, evT_chn, evT_call, evT_b1, evT_var, evQ_nil, evQ_cons, evI_S, evI_R1, evI_R2, evI_R3, evI_Z, evI_E, ex_skip, ex_seq, ex_asg, ex_asgO, ex_par, ex_seti, ex_swp, ex_app, ex_ext, ex_ifs, ex_forS, ex_ret, ex_expr, ex_frz, sg0, sgS, ss0, ssS, setTg_nm, setTg_tup, setTgs_nil, setTgs_cons, tgN_nm, tgN_cons, tgN_nil, wipe_nil, wipe_cons, par_nil, par_f, par_t, isB_cst, isB_var, isB_bop, isB_neg, isB_notv, isB_band, isB_borr, isB_cmp, isB_chn, isB_ite, isB_call, isB_b1, isB_b2, isB_min3, isB_tup, isB_lst, isB_ix, isB_sl, isB_rev, isB_lr, isB_lc, isB_tl, isB_mkl, op_add, op_addL, op_addT, op_sub, op_mul, op_mulL, op_mulT, op_fdiv, op_mod, c_lt, c_le, c_gt, c_ge, c_eqi, c_nei, ixF_L, ixF_T, ixF_loc, setiF_c0, setiF_c1, frzF_o0, frzF_v0, frzF_o1, frzF_v1, frzF_o2, frzF_v2, frzF_o3, frzF_v3, frzF_o4, frzF_v4, frzF_o5, frzF_v5, frzF_o6, frzF_v6, frzF_o7, frzF_v7, frzF_o8, frzF_v8, frzF_o9, frzF_v9, frzF_o10, frzF_v10,  sl_L, sl_T, rev_L, rev_T, seq_L, seq_T, o2_gcd, o2_max, o2_min, o1_lenL, o1_lenT, o1_abs, o1_int, o1_listL, o1_listT, o1_listS, o1_tupL, o1_tupT, o1_isTupT, o1_isTupL, o1_isTupI, o1_isIntI, o1_isIntT, o1_isIntL, o1_isBoolI, o1_isBoolT, o1_isBoolL, lim_n0, lim_n1, lim_n2, lim_n3, lim_n4, lim_n5, lim_n6, lim_n7, lim_n8, at0, at1, lcF_eq, fsF_eq, fin_ret, fin_next, Option.map_some, Option.map_none, List.map_cons, List.map_nil, List.length_cons, List.length_nil, List.replicate, List.cons_append, List.nil_append, List.append_nil, Nat.reduceAdd, Nat.reduceSub, Nat.reduceLT, Nat.reduceLeDiff, Bool.or_false, Bool.or_true, Bool.and_true, Bool.true_and, Bool.false_and, Bool.and_false, Bool.false_or, Bool.true_or, Bool.false_eq_true, Bool.not_true, Bool.not_false, if_true, if_false, reduceIte, decide_true, decide_false, Int.reduceEq, Int.reduceNe, Int.reduceLT, Int.reduceLE, Int.reduceNeg, ne_eq, not_false_eq_true, not_true_eq_false, $ls,*])
open PySem PyD B Mo
variable {P : List Def} {ι : Nat → Nat} {n : Nat} {S : Store}
theorem cl_cup (H : Has P ι dep__law_cup) {ns : List Int} (hl : ns.length ≤ 63) : ∃ a b, CupOk a b ∧ ∀ {n}, 1 ≤ n → callN P W0 n (ι i__law_cup) [scrD (ns.map .int)] [] = some (locD 0, cupS a b []) := by
  have key : ∃ c : Int, atD (ns.map PyData.int ++ [.int 0]) 0 = some (.int c) := by
    cases ns with
    | nil => exact ⟨0, at0⟩
    | cons n ns => exact ⟨n, at0⟩
  obtain ⟨c, hc⟩ := key
  have hlen : lim (ns.map PyData.int ++ [PyData.int 0]) = some (ns.map PyData.int ++ [PyData.int 0]) := lim_ok (by simp; omega)
  obtain ⟨q1, q2⟩ := fmod_rng (i := ((c.natAbs : Nat) : Int) * 307 + 3907 + 97 * 91) (j := 2077503217) (by decide)
  have d1 : divOk 89 = true := divOk_of (by decide) (Nat.lt_of_lt_of_le (show (89 : Int).natAbs < 2 ^ 10 by decide) (Nat.pow_le_pow_right (by omega) (by omega)))
  have m1 : mulOk ((c.natAbs : Nat) : Int) 307 = true := mulS (by decide)
  have m2 : mulOk 97 91 = true := mulS (by decide)
  have hp : opB .pow (.int 10) (.int 18) = some (.int (10 ^ 18)) := by
    show (if powOk 10 18 then some (PyData.int (10 ^ (18 : Int).toNat)) else none) = _
    rw [if_pos (by decide)]
    rfl
  by_cases h : (10 : Int) ^ 18 ≤ ((c.natAbs : Nat) : Int)
  · refine ⟨((c.natAbs : Nat) : Int).fdiv 89, (((c.natAbs : Nat) : Int) * 307 + 3907 + 97 * 91).fmod 2077503217 + 179, ⟨Int.fdiv_nonneg (Int.natCast_nonneg _) (by decide), by omega, by omega⟩, ?_⟩
    intro n hn
    obtain ⟨k, rfl⟩ : ∃ k, n = k + 1 := ⟨n - 1, by omega⟩
    rw [H.go (d := d__law_cup) rfl rfl rfl]
    dsimp? [d__law_cup, hlen, hc, hp, m1, m2, d1, h, ev_mkl]
  · refine ⟨0, (((c.natAbs : Nat) : Int) * 307 + 3907 + 97 * 91).fmod 2077503217 + 179, ⟨by omega, by omega, by omega⟩, ?_⟩
    intro n hn
    obtain ⟨k, rfl⟩ : ∃ k, n = k + 1 := ⟨n - 1, by omega⟩
    rw [H.go (d := d__law_cup) rfl rfl rfl]
    dsimp? [d__law_cup, hlen, hc, hp, m1, m2, d1, h, ev_mkl]
theorem stOk_of {f : Rat} {as bs : List Rat} (hf : isDn f) (ha : ∀ q ∈ as, isFr q) (hb : ∀ q ∈ bs, isDn q) (h1 : 1 ≤ as.length) (h12 : as.length ≤ 12) (hl : bs.length = as.length - 1) : StOk 1 f as bs where
  hs := by omega
  hf := hf.sz
  ha := fun x hx => (ha x hx).sz
  hb := fun x hx => (hb x hx).sz
  hl := hl
  h1 := h1
  h12 := h12
  f0 := hf.ne
  b0 := fun x hx => (hb x hx).ne
theorem cl_written (H : Has P ι dep__law_written_right) (hn : 8 ≤ n) : callN P W0 n (ι i__law_written_right) [] S = some (.bool true, S) := by
  obtain ⟨c, rfl⟩ : ∃ c, n = c + 1 := ⟨n - 1, by omega⟩
  rw [H.go (d := d__law_written_right) rfl rfl rfl]
  have ok : StOk 1 1 [1, 2] [3] := ⟨by omega, Sz.one.mono (by omega), fun x hx => by
    simp only [List.mem_cons, List.not_mem_nil, or_false] at hx
    rcases hx with rfl | rfl
    · exact Sz.one.mono (by omega)
    · exact ⟨120, by rfl, by decide⟩, fun x hx => by
    simp only [List.mem_cons, List.not_mem_nil, or_false] at hx
    subst hx
    exact ⟨180, by rfl, by decide⟩, rfl, by decide, by decide, by decide, fun x hx => by
    simp only [List.mem_cons, List.not_mem_nil, or_false] at hx
    subst hx
    decide⟩
  have hrow : momL 1 [1, 2] [3] 4 = [1, 1, 4, 13] := by decide +kernel
  have e1 := cl_steps_of_row (H.sub (l' := dep_steps_of_row) rfl) (n := c) (S := S) (by omega) ok (by omega)
  have e2 := cl_step_quotient (H.sub (l' := dep_step_quotient) rfl) (n := c) (S := S) (by omega) ok (k := 2) (by decide)
  have e3 := cl_upright_of (H.sub (l' := dep_upright_of) rfl) (n := c) (S := S) (by omega) ok (by omega) (M := 4) (k := 1) (by omega) (by omega) (by decide) (by omega)
  have e4 := cl_upright_of (H.sub (l' := dep_upright_of) rfl) (n := c) (S := S) (by omega) ok (by omega) (M := 4) (k := 2) (by omega) (by omega) (by decide) (by omega)
  rw [show 2 * [(1 : Rat), 2].length = 4 from rfl] at e1
  rw [hrow] at e1 e3 e4
  have hA : cA 1 [1, 2] [3] 2 = [1, -2] := by decide +kernel
  have hB : cB [1, 2] [3] 2 = [1, -3, -1] := by decide +kernel
  have hp1 : polyL (fa [1, 2]) (fa [3]) 1 = [-1, 1] := by decide +kernel
  have hp2 : polyL (fa [1, 2]) (fa [3]) 2 = [-1, -3, 1] := by decide +kernel
  rw [hA, hB] at e2
  rw [hp1] at e3
  rw [hp2] at e4
  have r1 : encL [1, 1, 4, 13] = .tuple [.tuple [.int 1, .int 1], .tuple [.int 1, .int 1], .tuple [.int 4, .int 1], .tuple [.int 13, .int 1]] := rfl
  have r2 : encS [1, 2] [3] = .tuple [.tuple [.tuple [.int 1, .int 1], .tuple [.int 2, .int 1]], .tuple [.tuple [.int 3, .int 1]]] := rfl
  have r3 : enc 1 = .tuple [.int 1, .int 1] := rfl
  have r4 : PyData.tuple [encL [1, -2], encL [1, -3, -1]] = .tuple [.tuple [.tuple [.int 1, .int 1], .tuple [.int (-2), .int 1]], .tuple [.tuple [.int 1, .int 1], .tuple [.int (-3), .int 1], .tuple [.int (-1), .int 1]]] := rfl
  have r5 : encL [-1, 1] = .tuple [.tuple [.int (-1), .int 1], .tuple [.int 1, .int 1]] := rfl
  have r6 : encL [-1, -3, 1] = .tuple [.tuple [.int (-1), .int 1], .tuple [.int (-3), .int 1], .tuple [.int 1, .int 1]] := rfl
  have e5 := cl_like (H.sub (l' := dep__law_like) rfl) (n := c) (S := S) (k := 5) (d := .list [encS [1, 2] [3], .tuple [encL [1, -2], encL [1, -3, -1]], encL [-1, 1], encL [-1, -3, 1]]) (by omega) (.lst fun d hd => by
    simp only [List.mem_cons, List.not_mem_nil, or_false] at hd
    rcases hd with h | h | h | h <;> subst h
    · exact pl_encS
    · exact .tup fun d hd => by
        simp only [List.mem_cons, List.not_mem_nil, or_false] at hd
        rcases hd with h | h <;> subst h <;> exact pl_encL
    · exact pl_encL
    · exact pl_encL)
  rw [r1, r2] at e1
  rw [r2, r3, r4] at e2
  rw [r1, r5] at e3
  rw [r1, r6] at e4
  rw [r2, r4, r5, r6] at e5
  rw [show ((2 : Nat) : Int) = 2 from rfl] at e2 e4
  rw [show ((1 : Nat) : Int) = 1 from rfl] at e3
  dsimp? [d__law_written_right, e1, e2, e3, e4, e5]
theorem cl_law (H : Has P ι dep_law) (hn : 12 ≤ n) {ns : List Int} (hl : ns.length ≤ 63) : ∃ S', callN P W0 n (ι i_law) [scrD (ns.map .int)] [] = some (.bool true, S') := by
  obtain ⟨c, rfl⟩ : ∃ c, n = c + 1 := ⟨n - 1, by omega⟩
  rw [H.go (d := d_law) rfl rfl rfl]
  have e1 := cl_written (H.sub (l' := dep__law_written_right) rfl) (n := c) (S := []) (by omega)
  obtain ⟨a0, b0, ok0, hc⟩ := cl_cup (H.sub (l' := dep__law_cup) rfl) hl
  have e2 := hc (n := c) (by omega)
  suffices h : ∃ S', fin _ = some (PyData.bool true, S') ∧ True by
    obtain ⟨S', e, _⟩ := h
    exact ⟨S', e⟩
  apply Yl.finE
  dsimp? [d_law, -fsF_eq, e1, e2, show rngOk 4 = true from rfl]
  rw [show (rngD 0 4) = rngD 0 ((4 : Nat) : Int) from rfl]
  refine Yl.rng (fun i ρ S' => ∃ a b X z2 z3, CupOk a b ∧ S' = cupS a b X ∧ ρ = [.val (scrD (ns.map .int)), .val (locD 0), z2, z3]) ⟨a0, b0, [], .no, .no, ok0, rfl, rfl⟩ ?_ ?_
  · rintro i ρ S' hi ⟨a, b, X, z2, z3, ok, rfl, rfl⟩
    obtain ⟨r, a1, b1, hr, ok1, f1⟩ := cl_roll (H.sub (l' := dep__law_roll) rfl) ok 4 (by omega) (by omega)
    obtain ⟨as, bs, a2, b2, ha, hal, hb, hbl, ok2, f2⟩ := cl_steps (H.sub (l' := dep__law_steps) rfl) ok1 (1 + r) (by omega) (by omega)
    obtain ⟨f, a3, b3, hf, ok3, f3⟩ := cl_down (H.sub (l' := dep__law_down) rfl) ok2
    have g1 := f1 (n := c) (X := X) (by omega)
    have g2 := f2 (k := c) (X := X) (by omega)
    have g3 := f3 (n := c) (X := X) (by omega)
    obtain ⟨Y, g4⟩ := cl_row_right (H.sub (l' := dep__law_row_right) rfl) (n := c) (S := cupS a3 b3 X) (by omega) (stOk_of hf ha hb (by omega) (by omega) (by omega)) (by omega) (by omega)
    rw [show ((4 : Nat) : Int) = 4 from rfl] at g1
    have n1 : (1 : Int) + ((r : Nat) : Int) = ((1 + r : Nat) : Int) := by omega
    rw [fsF_eq]
    dsimp? [g1, n1, g2, g3, g4]
    refine Yl.stay ?_
    exact ⟨a3, b3, X ++ Y, _, _, ok3, rfl, rfl⟩
  · rintro ρ S' ⟨a, b, X, z2, z3, ok, rfl, rfl⟩
    dsimp? []
    exact Yl.ok ⟨.inl rfl, trivial⟩
end PyM

set_option maxRecDepth 100000
set_option linter.all false
namespace k91
open PySem PyD
def names : List (List String) := [["value"], ["value", "low", "high"], ["value", "low", "high"], ["value", "low", "high"], ["value", "part"], ["value"], ["top", "bottom", "shared"], ["one", "other"], ["one", "other"], ["one", "other"], ["one", "other"], ["one"], ["fractions", "found", "one"], ["numbers", "most"], ["one", "power"], ["one", "fraction", "own"], ["one", "other", "power"], ["one", "powers"], ["one", "other", "found", "at", "own", "spot", "number"], ["value", "own"], ["value"], ["value", "levels", "downs", "own"], ["value"], ["row", "one", "own", "number"], ["table", "rows", "found", "at", "spots", "head", "spot", "by", "row", "own", "far"], ["row", "wide", "shift", "one"], ["row", "levels", "wide"], ["row", "levels"], ["first", "steps", "many", "levels", "downs", "found", "here", "turn", "later", "level", "own"], ["steps", "many", "levels", "downs", "found", "at", "own"], ["row", "levels", "here", "last", "size", "found", "downs", "at", "squared", "own", "later"], ["value"], ["row", "most"], ["first", "steps"], ["row"], ["numbers", "found", "at", "total", "spot"], ["row", "series", "own"], ["row", "levels", "downs", "here", "turn", "first", "level", "inner"], ["last", "ahead", "level", "down", "found"], ["first", "steps", "levels", "downs", "found", "at", "one", "other", "side"], ["first", "steps"], ["first", "steps", "depth"], ["row", "parts", "weights", "here", "spots", "degree", "series", "at", "own"], ["row"], ["steps", "k", "less_by"], ["steps", "k"], ["rows", "heads", "column", "spots", "at", "spot", "by", "row", "own", "far"], ["row", "k", "rows", "heads", "at", "own"], ["row", "many"], ["row", "k", "found"], ["row", "k"], ["row", "shift", "many"], ["row", "shift", "found", "many"], ["rule", "numbers", "found", "own", "number"], ["row", "rule", "other", "gap", "far", "found", "at", "own", "miss", "by", "long", "mend", "wide", "mended", "one", "two"], ["row"], ["row"], ["steps", "size", "levels", "downs", "here", "found", "turn", "level"], ["here", "levels", "downs", "level", "found"], ["size", "one", "other"], ["table", "rows", "ahead", "at", "spot", "by", "across", "behind", "row", "own", "far"], ["row", "size"], ["row", "size"], ["row", "size"], ["script", "cell"], ["cup", "many", "found", "deep"], ["cup", "things"], ["value"], ["one", "other", "sort", "first", "second"], ["one", "other", "turn"], ["top", "bottom", "by"], ["one", "other"], ["one", "other"], ["one", "other"], ["one", "other"], ["fractions", "found", "own"], ["cup"], ["cup"], ["cup", "levels", "level"], ["numbers", "most", "at", "own"], ["one", "other", "most", "first", "second", "own", "far"], ["one", "by", "own"], ["one", "other", "found", "at", "own", "spot", "far"], ["table", "rows", "found", "turn", "spots", "head", "later", "row", "by", "spot", "own", "far"], ["row", "wide", "shift", "at"], ["many", "begin", "end", "top", "found", "left", "longer", "way", "level", "move"], ["steps", "begin", "way", "found", "level", "move"], ["first", "steps", "many", "levels", "downs", "found", "here", "turn", "later", "level", "own"], ["steps", "many", "levels", "downs", "found", "at", "later"], ["steps", "many", "rows", "moves", "sums", "way", "level"], ["first", "steps", "row", "quotient", "product"], ["first", "steps", "many", "row", "told", "rule", "parts", "sizes", "down", "due", "at", "level", "wide"], ["steps", "row", "told", "quotient"], ["script", "cup", "turn", "steps"]]
def fns : List String := ["is_integer", "is_number", "need_number", "is_tuple_of", "fits_fraction", "need_fraction", "lowest", "plus", "minus", "times", "over", "opposite", "summed", "lean", "at_power", "scaled", "less", "raised", "multiplied", "fits_row", "need_row", "fits_steps", "need_steps", "sum_in", "determinant_in", "table_in", "is_full_in", "need_full", "moments_in", "rule_in", "steps_in", "need_nonzero", "need_whole_row", "row_of_steps", "steps_of_row", "by_first", "peeled_in", "steps_by_peeling", "behind", "quotients_in", "need_both", "step_quotient", "longs_in", "long_steps_of", "need_depth", "ruled", "reduced", "upright_in", "need_many", "need_upright", "upright_of", "has_table", "all_determinants", "told_in", "grown_in", "least_in", "rule_length", "triangle_in", "led_to", "unit_in", "cut_in", "need_levels", "triangle_of_row", "middle_of_row", "_law_cup", "_law_roll", "_law_some", "_law_sort", "_law_like", "_law_shared", "_law_lowest", "_law_plus", "_law_times", "_law_less", "_law_over", "_law_total", "_law_fraction", "_law_down", "_law_steps", "_law_lean", "_law_sum", "_law_scaled", "_law_product", "_law_determinant", "_law_shifted", "_law_ways", "_law_weight", "_law_moments", "_law_rule", "_law_triangle", "_law_quotient_right", "_law_row_right", "_law_written_right", "law"]
def iot : List Nat := [0, 1, 2, 3, 4, 5, 6, 7, 8, 9, 10, 11, 12, 13, 14, 15, 16, 17, 18, 19, 20, 21, 22, 23, 24, 25, 26, 27, 28, 29, 30, 31, 32, 33, 34, 35, 36, 37, 38, 39, 40, 41, 42, 43, 44, 45, 46, 47, 48, 49, 50, 51, 52, 53, 54, 55, 56, 58, 57, 59, 60, 61, 62, 63, 64, 65, 66, 67, 68, 69, 70, 71, 72, 73, 74, 75, 76, 77, 78, 79, 80, 81, 82, 83, 84, 85, 86, 87, 88, 89, 90, 91, 92, 93]
def ι (n : Nat) : Nat := iot[n]?.getD 0
def P : List Def := [B.d_is_integer ι, B.d_is_number ι, B.d_need_number ι, B.d_is_tuple_of ι, B.d_fits_fraction ι, B.d_need_fraction ι, B.d_lowest ι, B.d_plus ι, B.d_minus ι, B.d_times ι, B.d_over ι, B.d_opposite ι, B.d_summed ι, B.d_lean ι, B.d_at_power ι, B.d_scaled ι, B.d_less ι, B.d_raised ι, B.d_multiplied ι, B.d_fits_row ι, B.d_need_row ι, B.d_fits_steps ι, B.d_need_steps ι, B.d_sum_in ι, B.d_determinant_in ι, B.d_table_in ι, B.d_is_full_in ι, B.d_need_full ι, B.d_moments_in ι, B.d_rule_in ι, B.d_steps_in ι, B.d_need_nonzero ι, B.d_need_whole_row ι, B.d_row_of_steps ι, B.d_steps_of_row ι, B.d_by_first ι, B.d_peeled_in ι, B.d_steps_by_peeling ι, B.d_behind ι, B.d_quotients_in ι, B.d_need_both ι, B.d_step_quotient ι, B.d_longs_in ι, B.d_long_steps_of ι, B.d_need_depth ι, B.d_ruled ι, B.d_reduced ι, B.d_upright_in ι, B.d_need_many ι, B.d_need_upright ι, B.d_upright_of ι, B.d_has_table ι, B.d_all_determinants ι, B.d_told_in ι, B.d_grown_in ι, B.d_least_in ι, B.d_rule_length ι, B.d_triangle_in ι, B.d_led_to ι, B.d_unit_in ι, B.d_cut_in ι, B.d_need_levels ι, B.d_triangle_of_row ι, B.d_middle_of_row ι, B.d__law_cup ι, B.d__law_roll ι, B.d__law_some ι, B.d__law_sort ι, B.d__law_like ι, B.d__law_shared ι, B.d__law_lowest ι, B.d__law_plus ι, B.d__law_times ι, B.d__law_less ι, B.d__law_over ι, B.d__law_total ι, B.d__law_fraction ι, B.d__law_down ι, B.d__law_steps ι, B.d__law_lean ι, B.d__law_sum ι, B.d__law_scaled ι, B.d__law_product ι, B.d__law_determinant ι, B.d__law_shifted ι, B.d__law_ways ι, B.d__law_weight ι, B.d__law_moments ι, B.d__law_rule ι, B.d__law_triangle ι, B.d__law_quotient_right ι, B.d__law_row_right ι, B.d__law_written_right ι, B.d_law ι]
abbrev all : List Nat := [0, 1, 2, 3, 4, 5, 6, 7, 8, 9, 10, 11, 12, 13, 14, 15, 16, 17, 18, 19, 20, 21, 22, 23, 24, 25, 26, 27, 28, 29, 30, 31, 32, 33, 34, 35, 36, 37, 38, 39, 40, 41, 42, 43, 44, 45, 46, 47, 48, 49, 50, 51, 52, 53, 54, 55, 56, 57, 58, 59, 60, 61, 62, 63, 64, 65, 66, 67, 68, 69, 70, 71, 72, 73, 74, 75, 76, 77, 78, 79, 80, 81, 82, 83, 84, 85, 86, 87, 88, 89, 90, 91, 92, 93]
end k91

set_option Elab.async false
set_option linter.all false
set_option maxRecDepth 100000
set_option maxHeartbeats 0
/-! The head of k91: from the plain law to the row. -/
namespace H91
open PySem PySem.Spec PyProof.Rows L2 PyD
abbrev LW : PySem.W.OpenLaw := PySem.Challenge.rw_momentstold_k91_whole_rows_told_every_wa
abbrev R : PySem.W.OpenRow := PySem.W.OpenLaw.row LW
def defOfS : Stmt → Option He.DefD
  | .FunctionDef n a b _ _ _ sc _ _ _ => some ⟨(n, none), n, n, a, b, sc, [], []⟩
  | _ => none
def fn : List He.DefD := R.prog.main.body.filterMap defOfS
def lawIx : Nat := R.prog.main.body.length - 1
def c0 : Cc := ⟨[], default, fun _ => true, fn.map (·.name), ["len", "range", "tuple", "list", "isinstance", "zip", "max", "min", "all", "abs", "int", "enumerate", "bool", "str"], [("NONE", .tuple [.int 0, .int 1]), ("ONE", .tuple [.int 1, .int 1]), ("MOST_LEVELS", .int 12), ("MOST_ROW", .int 24), ("MOST_SHIFT", .int 23), ("MOST_MANY", .int 12), ("MOST", .int 12)], true⟩
def Ns : List (List Str) := k91.names.map fun (l : List String) => l.map fun (s : String) => (Str.ofString s)
theorem defs_ok : defsB c0 Ns k91.P fn = true := by decide +kernel
abbrev hk : PySem.W.Hook := He.hookX 2 (faOf fn c0.fr) fn [] [] (exB c0.cs c0.gc)
def ob (s : PySem.W.SharedT) : He.AlX := He.obsX 2 (faOf fn c0.fr) fn [] [] (exB c0.cs c0.gc) (HandSHeadRun.getT s)
theorem ob_eq (s : PySem.W.SharedT) : ob s = hk.obs s.abs := He.obsX_eq (HandSHeadRun.getT_eq s)
def loose : List Str := (R.prog.boundNames.filter fun n => n != "law" && n != "__name__" && n != "gcd")
abbrev q : Program := PySem.W.view R.prog [0, lawIx]
/-- the run of the top, once for the looks, once for what is told of it (the memory of both at once is too much) -/
noncomputable def Top (w : World) : Option (Shared × PySem.W.SharedT) := HandSHeadRun.wholeF (fun p => HandSHeadRun.stepQ (HandSHeadRun.denQ HandSHeadRun.tabQ) p w) HandSHeadRun.fenceQ 14000 R.prog
theorem runA (w : World) : (Top w).map (fun x => (HandSHeadRun.looksF R.prog x.1.heap x.2.abs, HandSHeadRun.seenQ q loose (PySem.importedModules R.prog.main.body) (fun s => PySem.W.xlAt q [] s && PySem.W.recOk R.toRowW.records s) x.2.abs)) = some (true, PySem.W.openGood q loose) := by
  kernel_rfl
theorem runB (w : World) : (Top w).map (fun x => ob x.2) = some (hk.val w) := by
  kernel_rfl
theorem both {α β γ : Type} {X : Option α} {f : α → β} {g : α → γ} {b : β} {c : γ} (h1 : X.map f = some b) (h2 : X.map g = some c) : X.map (fun x => (f x, g x)) = some (b, c) := by
  cases X with
  | none => cases h1
  | some x =>
    rw [Option.map_some] at h1 h2 ⊢
    rw [Option.some.inj h1, Option.some.inj h2]
theorem run (w : World) : HandSHeadRun.RunEqI R q hk ob 14000 loose w := by
  have h := both (runA w) (runB w)
  unfold HandSHeadRun.RunEqI
  have e : ∀ {α β γ : Type} {X : Option α} {f1 : α → β} {f2 : α → γ} {δ : Type} {f3 : α → δ} {b1 : β} {b2 : γ} {b3 : δ}, X.map (fun x => ((f1 x, f2 x), f3 x)) = some ((b1, b2), b3) → X.map (fun x => (f1 x, f2 x, f3 x)) = some (b1, b2, b3) := by
    intro α β γ X f1 f2 δ f3 b1 b2 b3 h
    cases X with
    | none => cases h
    | some x =>
      rw [Option.map_some] at h ⊢
      have h := Option.some.inj h
      have h1 := congrArg (fun z => z.1.1) h
      have h2 := congrArg (fun z => z.1.2) h
      have h3 := congrArg (fun z => z.2) h
      simp only at h1 h2 h3
      rw [h1, h2, h3]
  exact e h
end H91

set_option Elab.async false
set_option linter.all false
set_option maxRecDepth 100000
set_option maxHeartbeats 0
open PySem PySem.W PySem.Calls PyProof.Rows
namespace H91
abbrev iLaw : Nat := 93
theorem fn_len : fn.length = k91.P.length := by decide +kernel
theorem fns_eq : c0.fns = fn.map (·.name) := rfl
theorem has_eq : (k91.all.map fun n => k91.P[k91.ι n]?) = k91.all.map fun n => (B.bodies[n]?).map fun d => d k91.ι := by rfl
theorem has : PyM.Has k91.P k91.ι k91.all := fun n hn => List.map_inj_left.mp has_eq n hn
theorem law_true (ns : List Int) (hl : ns.length ≤ 63) : ∃ S', PyD.callN k91.P 4000 40 iLaw [PyD.scrD (ns.map .int)] [] = some (.bool true, S') := by
  obtain ⟨S', e⟩ := PyM.cl_law (has.sub (l' := B.dep_law) rfl) (n := 40) (by omega) hl
  rw [PyM.callN_eq] at e
  exact ⟨S', e⟩
end H91
theorem PySem.Challenge.cw_momentstold_k91_whole_rows_told_every_wa_holds : PySem.Challenge.rw_momentstold_k91_whole_rows_told_every_wa.Holds := by
  show H91.LW.Holds
  w_on; o_law
  refine HandSHeadRun.head_imp (r := H91.R) (q := H91.q) (H := H91.hk) (ob := H91.ob) (M := 14000) (loose := H91.loose) (d := HandSHeadRun.topDef H91.R.prog H91.lawIx) (kwd := []) H91.ob_eq H91.run
    (by kernel_rfl) (by kernel_rfl) (by kernel_rfl) (by rfl) (by first | assumption | decide +kernel) (by decide +kernel) ⟨rfl, rfl, rfl, rfl, rfl, by decide +kernel⟩ ?hw ?hc
  case hw => w_witness2
  case hc =>
    refine L2.walk_ofE (l := H91.LW) (n := 63) (k := 40) (x := "script") (CX := L2.CX0) rfl (by decide) (by kernel_rfl) ⟨rfl, by decide, by decide⟩ ?F (fun _ _ _ _ z => z)
    intro w mg fa h' Y G hmg0
    obtain ⟨K, KX, c⟩ := Y
    have T := PyD.top_of c KX G H91.fns_eq
    have hdd : H91.fn[H91.iLaw]? = some ((H91.fn)[H91.iLaw]'(by rw [H91.fn_len]; decide +kernel)) := List.getElem?_eq_getElem _
    obtain ⟨fd, hb, hF⟩ := PyD.law_facts (prog := H91.LW.prog) (w := w) (W := 4000) (k := 40) T H91.defs_ok H91.fn_len H91.iLaw (d := B.d_law k91.ι) (by rfl) hdd (fa := fa) (by
      have e : (HandSHeadRun.topDef H91.R.prog H91.lawIx).name = ((H91.fn)[H91.iLaw]'(by rw [H91.fn_len]; decide +kernel)).name := by kernel_rfl
      rw [← e]
      exact hmg0) (by kernel_rfl)
    exact ⟨K, fd, _, KX, hb, fun H a ns hl _ hS => (by
      obtain ⟨S', e⟩ := H91.law_true ns hl
      exact PyD.law_sp e hS), hF⟩
