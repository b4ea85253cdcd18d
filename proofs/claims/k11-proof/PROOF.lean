import PyProof.Rows.All
import Wide.All
import OpenK.AllK
import Wide.FinOn
import HandS.ForMost
import HandS.ForExc
import HandS.Deep
import HandS.Wide
import HandS.Gcd
import HandS.Style
import HandS.TupAny
import HandS.TupMul
import HandS.Zip
import HandS.IsInst
import PySem.Challenge.RW_roundtexts_k11_whole_mirrored_rounding_a
set_option Elab.async false
set_option linter.all false
/-! Core, part A: plain data, cells, the core language and its evaluator -/
namespace Core
open PySem PySem.W
/-- a value: plain data (never changed), a list that is read alone (the script), or the place of a list that may change -/
inductive D where
  | p (x : PyData)
  | ro (xs : List PyData)
  | loc (n : Nat)
inductive Cell where
  | lst (xs : List D)
abbrev Store := List Cell
abbrev Loc := List (Option D)
inductive Res (α : Type) where
  | ok (a : α) (S : Store)
  | exc (c : Nat) (fs : List (Str × D)) (S : Store)
  | stuck
@[simp] def Res.bind {α β : Type} : Res α → (α → Store → Res β) → Res β
  | .ok a S, f => f a S
  | .exc c fs S, _ => .exc c fs S
  | .stuck, _ => .stuck
@[simp] def Res.ofO {α : Type} (S : Store) : Option α → Res α
  | some a => .ok a S
  | none => .stuck

inductive NT where
  | nm (i : Nat)
  | nil
  | cons (a r : NT)
inductive BOp where
  | add | sub | mul | fdiv | mod | pow | shl
inductive COp where
  | eq | ne | lt | le | gt | ge | isin | nin
inductive BF where
  | len | abs | max | min | int | tuple | list | all | any | gcd
inductive Ty where
  | int | bool | str | tuple | list | dict
inductive IK where
  | seq | rng1 | rng2 | zip | enum
mutual
inductive CE where
  | con (x : PyData)
  | var (i : Nat)
  | bin (o : BOp) (a b : CE)
  | neg (a : CE)
  | not (a : CE)
  | and (a b : CE)
  | or (a b : CE)
  | cmp (o : COp) (a b : CE)
  | isN (pos : Bool) (a : CE)
  | chain (o1 o2 : COp) (a b c : CE)
  | ite (c a b : CE)
  | call (f : Nat) (args : CL)
  | callk (f : Nat) (perm : List Nat) (args kws : CL)
  | bf (f : BF) (args : CL)
  | isi (a : CE) (tys : List Ty)
  | idx (a i : CE)
  | slcA (a : CE)
  | slcL (a lo : CE)
  | slcH (a hi : CE)
  | slcB (a lo hi : CE)
  | rev (a : CE)
  | tup (args : CL)
  | lst (args : CL)
  | mlst (args : CL)
  | madd (a b : CE)
  | lc (t : NT) (k : IK) (src : CL) (c e : CE) (own : List Nat)
  | mlc (t : NT) (k : IK) (src : CL) (c e : CE) (own : List Nat)
inductive CL where
  | nil
  | cons (a : CE) (r : CL)
end
inductive CS where
  | skip
  | seq (a b : CS)
  | expr (e : CE)
  | ret (e : CE)
  | asg (t : NT) (e : CE)
  | par (is : List Nat) (args : CL)
  | seti (o i e : CE)
  | append (o e : CE)
  | extend (o e : CE)
  | ite (c : CE) (a b : CS)
  | whl (c : CE) (b : CS)
  | for_ (t : NT) (k : IK) (src : CL) (b : CS)
  | stop

/-! ### what values are -/
@[simp] def allP : List D → Option (List PyData)
  | [] => some []
  | .p x :: r => (allP r).map (x :: ·)
  | _ :: _ => none
/-- the items of a list or a tuple -/
def elems (S : Store) : D → Option (List D)
  | .p (.list xs) => some (xs.map D.p)
  | .p (.tuple xs) => some (xs.map D.p)
  | .ro xs => some (xs.map D.p)
  | .loc n => match S[n]? with
    | some (.lst xs) => some xs
    | none => none
  | _ => none
/-- what a value is worth as plain data -/
def pureD (S : Store) : D → Option PyData
  | .p x => some x
  | .ro xs => some (.list xs)
  | .loc n => match S[n]? with
    | some (.lst xs) => (allP xs).map PyData.list
    | none => none
/-- .. that is no list to be read alone -/
def pureM (S : Store) : D → Option PyData
  | .p x => some x
  | .ro _ => none
  | .loc n => match S[n]? with
    | some (.lst xs) => (allP xs).map PyData.list
    | none => none
def fits (x : PyData) : Bool := x.canLay0 && decide (x.depth ≤ 64)

/-! ### operators -/
@[simp] def addP : PyData → PyData → Option PyData
  | .int i, .int j => some (.int (i + j))
  | .str x, .str y => if x.length + y.length ≤ sizeLine then some (.str (x ++ y)) else none
  | .list xs, .list ys => if xs.length + ys.length ≤ sizeLine then some (.list (xs ++ ys)) else none
  | .tuple xs, .tuple ys => if xs.length + ys.length ≤ sizeLine then some (.tuple (xs ++ ys)) else none
  | _, _ => none
def mulP : PyData → PyData → Option PyData
  | .int i, .int j => if i.natAbs.log2 + j.natAbs.log2 < 1000000 then some (.int (i * j)) else none
  | _, _ => none
def opB (S : Store) : BOp → D → D → Option PyData
  | .add, a, b => (pureM S a).bind fun x => (pureM S b).bind fun y => addP x y
  | .mul, a, b => (pureM S a).bind fun x => (pureM S b).bind fun y => mulP x y
  | .sub, .p (.int i), .p (.int j) => some (.int (i - j))
  | .fdiv, .p (.int i), .p (.int j) => if j ≠ 0 ∧ j.natAbs.log2 < 9000 then some (.int (i.fdiv j)) else none
  | .mod, .p (.int i), .p (.int j) => if j ≠ 0 then some (.int (i.fmod j)) else none
  | .pow, .p (.int i), .p (.int j) => if 0 ≤ j ∧ j ≤ 1000000 ∧ i.natAbs < 2 ^ 64 then some (.int (i ^ j.toNat)) else none
  | .shl, .p (.int i), .p (.int j) => if 0 ≤ j ∧ j ≤ 1000000 ∧ i.natAbs < 2 ^ 64 then some (.int (i * 2 ^ j.toNat)) else none
  | _, _, _ => none
def eqP (x y : PyData) : Option Bool := if fits x && fits y then some (PyData.eqv x y) else none
def inP (x : PyData) : PyData → Option Bool
  | .list ys => if fits x && fits (.list ys) then some (ys.any fun z => PyData.eqv z x) else none
  | .tuple ys => if fits x && fits (.tuple ys) then some (ys.any fun z => PyData.eqv z x) else none
  | .str y => match x with
    | .str z => some (!(Builtin.Str.occurrences y z 0 y.length 1).isEmpty)
    | _ => none
  | _ => none
@[simp] def ltP : PyData → PyData → Option Bool
  | .int i, .int j => some (decide (i < j))
  | .str x, .str y => some (decide (x.cps.toList < y.cps.toList))
  | _, _ => none
@[simp] def leI : PyData → PyData → Option Bool
  | .int i, .int j => some (decide (i ≤ j))
  | _, _ => none
@[simp] def cmpP (o : COp) (x y : PyData) : Option Bool := match o with
  | .eq => eqP x y
  | .ne => (eqP x y).map (!·)
  | .lt => ltP x y
  | .le => leI x y
  | .gt => match x, y with
    | .int i, .int j => some (decide (j < i))
    | _, _ => none
  | .ge => match x, y with
    | .int i, .int j => some (decide (j ≤ i))
    | _, _ => none
  | .isin => inP x y
  | .nin => (inP x y).map (!·)
@[simp] def opC (S : Store) (o : COp) (a b : D) : Option Bool := (pureD S a).bind fun x => (pureD S b).bind fun y => cmpP o x y
def isNone : D → Bool
  | .p .none => true
  | _ => false
@[simp] def truthD (S : Store) : D → Option Bool
  | .p (.bool b) => some b
  | _ => none
def isTy1 (S : Store) (d : D) : Ty → Bool
  | .int => match d with
    | .p (.int _) => true
    | .p (.bool _) => true
    | _ => false
  | .bool => match d with
    | .p (.bool _) => true
    | _ => false
  | .str => match d with
    | .p (.str _) => true
    | _ => false
  | .tuple => match d with
    | .p (.tuple _) => true
    | _ => false
  | .list => match d with
    | .p (.list _) => true
    | .ro _ => true
    | .loc _ => true
    | _ => false
  | .dict => match d with
    | .p (.dict _) => true
    | _ => false
def bools : List PyData → Option (List Bool)
  | [] => some []
  | .bool b :: r => (bools r).map (b :: ·)
  | _ => none
def fnB (S : Store) : BF → List D → Option PyData
  | .len, [d] => match d with
    | .p (.str x) => if x.length ≤ sizeLine then some (.int x.length) else none
    | _ => (elems S d).map fun xs => .int xs.length
  | .abs, [.p (.int i)] => some (.int (if i < 0 then -i else i))
  | .max, [.p (.int i), .p (.int j)] => some (.int (if j > i then j else i))
  | .min, [.p (.int i), .p (.int j)] => some (.int (if j < i then j else i))
  | .int, [.p (.int i)] => some (.int i)
  | .int, [.p (.bool b)] => some (.int (if b then 1 else 0))
  | .tuple, [d] => match pureD S d with
    | some (.list xs) => some (.tuple xs)
    | some (.tuple xs) => some (.tuple xs)
    | _ => none
  | .list, [d] => match pureD S d with
    | some (.list xs) => some (.list xs)
    | some (.tuple xs) => some (.list xs)
    | _ => none
  | .all, [d] => match pureD S d with
    | some (.list xs) => (bools xs).map fun bs => .bool (bs.all id)
    | _ => none
  | .any, [d] => match pureD S d with
    | some (.list xs) => (bools xs).map fun bs => .bool (bs.any id)
    | _ => none
  | .gcd, [.p (.int i), .p (.int j)] => some (.int ((Nat.gcd i.natAbs j.natAbs : Nat) : Int))
  | _, _ => none
def cutL {α : Type} (xs : List α) (lo hi : Option Int) : List α := (xs.drop (HT.sIx xs.length 0 lo)).take (HT.sIx xs.length xs.length hi - HT.sIx xs.length 0 lo)
/-- an item -/
def idxD (S : Store) (a i : D) : Option D := match i with
  | .p (.int k) => match a with
    | .p (.str x) => if x.length ≤ sizeLine then (L2.atI x.cps.toList k).map fun c => .p (.str ⟨#[c]⟩) else none
    | _ => (elems S a).bind fun xs => L2.atI xs k
  | _ => none
/-- a part of a list, a tuple, a text -/
@[simp] def part? : D → Option (Option Int)
  | .p (.int i) => some (some i)
  | _ => none
@[simp] def slcD (S : Store) (a : D) (lo hi : Option Int) : Option PyData := match pureD S a with
  | some (.list xs) => some (.list (cutL xs lo hi))
  | some (.tuple xs) => some (.tuple (cutL xs lo hi))
  | some (.str x) => if x.length ≤ sizeLine then some (.str (L2.cutS x lo hi)) else none
  | _ => none

/-! ### what a loop goes through -/
inductive Src where
  | lst (xs : List PyData)
  | loc (n : Nat)
  | rng (lo : Int) (k : Nat)
  | zip (a b : List PyData)
  | enum (a : List PyData)
  | enuml (n : Nat)
@[simp] def srcLen (S : Store) : Src → Option Nat
  | .lst xs => some xs.length
  | .loc n => (elems S (.loc n)).map (·.length)
  | .rng _ k => some k
  | .zip a b => some (min a.length b.length)
  | .enum a => some a.length
  | .enuml n => (elems S (.loc n)).map (·.length)
def srcAt (S : Store) : Src → Nat → Option D
  | .lst xs, i => (xs[i]?).map D.p
  | .loc n, i => (elems S (.loc n)).bind fun xs => xs[i]?
  | .rng lo k, i => if i < k then some (.p (.int (lo + i))) else none
  | .zip a b, i => match a[i]?, b[i]? with
    | some x, some y => some (.p (.tuple [x, y]))
    | _, _ => none
  | .enum a, i => (a[i]?).map fun x => .p (.tuple [.int i, x])
  | .enuml n, i => (elems S (.loc n)).bind fun xs => match xs[i]? with
    | some (.p x) => some (.p (.tuple [.int i, x]))
    | _ => none
def signs (x : Str) : List PyData := x.cps.toList.map fun c => .str ⟨#[c]⟩
@[simp] def srcSeq : List D → Option Src
  | [.p (.list xs)] => some (.lst xs)
  | [.p (.tuple xs)] => some (.lst xs)
  | [.p (.str x)] => if x.length ≤ sizeLine then some (.lst (signs x)) else none
  | [.ro xs] => some (.lst xs)
  | [.loc n] => some (.loc n)
  | _ => none
@[simp] def srcR1 : List D → Option Src
  | [.p (.int j)] => if -(2 ^ 62) ≤ j ∧ j < 2 ^ 24 then some (.rng 0 j.toNat) else none
  | _ => none
@[simp] def srcR2 : List D → Option Src
  | [.p (.int i), .p (.int j)] => if -(2 ^ 62) ≤ i ∧ i < 2 ^ 62 ∧ -(2 ^ 62) ≤ j ∧ j < 2 ^ 62 ∧ j - i < 2 ^ 24 then some (.rng i (j - i).toNat) else none
  | _ => none
@[simp] def srcZip : List D → Option Src
  | [.p (.tuple xs), .p (.tuple ys)] => some (.zip xs ys)
  | [.p (.list xs), .p (.list ys)] => some (.zip xs ys)
  | _ => none
@[simp] def srcEnum : List D → Option Src
  | [.p (.list xs)] => some (.enum xs)
  | [.loc n] => some (.enuml n)
  | _ => none
@[simp] def srcOf : IK → List D → Option Src
  | .seq => srcSeq
  | .rng1 => srcR1
  | .rng2 => srcR2
  | .zip => srcZip
  | .enum => srcEnum
@[simp] def bindNT : NT → D → Loc → Option Loc
  | .nm i, d, Γ => some (Γ.set i (some d))
  | .nil, .p (.tuple []), Γ => some Γ
  | .cons a r, .p (.tuple (x :: xs)), Γ => (bindNT a (.p x) Γ).bind fun Γ' => bindNT r (.p (.tuple xs)) Γ'
  | _, _, _ => none
@[simp] def wipeL (Γ : Loc) : List Nat → Loc
  | [] => Γ
  | v :: vs => (wipeL Γ vs).set v none
def lcGo (step : D → Store → Res (Option D)) (src : Src) : Nat → Nat → List D → Store → Res (List D)
  | 0, i, acc, S => if srcLen S src = some i then .ok acc S else .stuck
  | k + 1, i, acc, S => match srcAt S src i with
    | none => .stuck
    | some d => match step d S with
      | .ok (some y) S' => lcGo step src k (i + 1) (acc ++ [y]) S'
      | .ok none S' => lcGo step src k (i + 1) acc S'
      | _ => .stuck

/-- a turn of a comprehension -/
def stepG (ec ee : Loc → Store → Res D) (t : NT) (Γw : Loc) : D → Store → Res (Option D) := fun d S' => match bindNT t d Γw with
  | none => .stuck
  | some Γ' => (ec Γ' S').bind fun x S2 => match truthD S2 x with
    | some true => (ee Γ' S2).bind fun y S3 => .ok (some y) S3
    | some false => .ok none S2
    | none => .stuck

/-! ### expressions -/
abbrev Calls := Nat → List D → Store → Res D
def permL (perm : List Nat) (ds : List D) : Option (List D) := match perm with
  | [] => some []
  | i :: r => (ds[i]?).bind fun d => (permL r ds).map (d :: ·)
mutual
def evE (F : Calls) : CE → Loc → Store → Res D
  | .con x, _, S => .ok (.p x) S
  | .var i, Γ, S => match Γ[i]? with
    | some (some d) => .ok d S
    | _ => .stuck
  | .bin o a b, Γ, S => (evE F a Γ S).bind fun x S1 => (evE F b Γ S1).bind fun y S2 => Res.ofO S2 ((opB S2 o x y).map D.p)
  | .neg a, Γ, S => (evE F a Γ S).bind fun x S1 => match x with
    | .p (.int i) => .ok (.p (.int (-i))) S1
    | _ => .stuck
  | .not a, Γ, S => (evE F a Γ S).bind fun x S1 => Res.ofO S1 ((truthD S1 x).map fun b => .p (.bool (!b)))
  | .and a b, Γ, S => (evE F a Γ S).bind fun x S1 => match x with
    | .p (.bool true) => evE F b Γ S1
    | .p (.bool false) => .ok (.p (.bool false)) S1
    | _ => .stuck
  | .or a b, Γ, S => (evE F a Γ S).bind fun x S1 => match x with
    | .p (.bool true) => .ok (.p (.bool true)) S1
    | .p (.bool false) => evE F b Γ S1
    | _ => .stuck
  | .cmp o a b, Γ, S => (evE F a Γ S).bind fun x S1 => (evE F b Γ S1).bind fun y S2 => Res.ofO S2 ((opC S2 o x y).map fun b => .p (.bool b))
  | .isN k a, Γ, S => (evE F a Γ S).bind fun x S1 => .ok (.p (.bool (isNone x == k))) S1
  | .chain o1 o2 a b c, Γ, S => (evE F a Γ S).bind fun x S1 => (evE F b Γ S1).bind fun y S2 => match opC S2 o1 x y with
    | some true => (evE F c Γ S2).bind fun z S3 => Res.ofO S3 ((opC S3 o2 y z).map fun b => .p (.bool b))
    | some false => .ok (.p (.bool false)) S2
    | none => .stuck
  | .ite c a b, Γ, S => (evE F c Γ S).bind fun x S1 => match truthD S1 x with
    | some true => evE F a Γ S1
    | some false => evE F b Γ S1
    | none => .stuck
  | .call f args, Γ, S => (evL F args Γ S).bind fun ds S1 => F f ds S1
  | .callk f perm args kws, Γ, S => (evL F args Γ S).bind fun ds S1 => (evL F kws Γ S1).bind fun es S2 => match permL perm (ds ++ es) with
    | some gs => F f gs S2
    | none => .stuck
  | .bf f args, Γ, S => (evL F args Γ S).bind fun ds S1 => Res.ofO S1 ((fnB S1 f ds).map D.p)
  | .isi a tys, Γ, S => (evE F a Γ S).bind fun x S1 => .ok (.p (.bool (tys.any (isTy1 S1 x)))) S1
  | .idx a i, Γ, S => (evE F a Γ S).bind fun x S1 => (evE F i Γ S1).bind fun y S2 => Res.ofO S2 (idxD S2 x y)
  | .slcA a, Γ, S => (evE F a Γ S).bind fun x S1 => Res.ofO S1 ((slcD S1 x none none).map D.p)
  | .slcL a lo, Γ, S => (evE F a Γ S).bind fun x S1 => (evE F lo Γ S1).bind fun y S2 => Res.ofO S2 (((part? y).bind fun k => slcD S2 x k none).map D.p)
  | .slcH a hi, Γ, S => (evE F a Γ S).bind fun x S1 => (evE F hi Γ S1).bind fun y S2 => Res.ofO S2 (((part? y).bind fun k => slcD S2 x none k).map D.p)
  | .slcB a lo hi, Γ, S => (evE F a Γ S).bind fun x S1 => (evE F lo Γ S1).bind fun y S2 => match part? y with
    | none => .stuck
    | some k => (evE F hi Γ S2).bind fun z S3 => Res.ofO S3 (((part? z).bind fun m => slcD S3 x k m).map D.p)
  | .rev a, Γ, S => (evE F a Γ S).bind fun x S1 => match pureD S1 x with
    | some (.list xs) => .ok (.p (.list xs.reverse)) S1
    | _ => .stuck
  | .tup args, Γ, S => (evL F args Γ S).bind fun ds S1 => match allP ds with
    | some xs => if xs.length ≤ sizeLine then .ok (.p (.tuple xs)) S1 else .stuck
    | none => .stuck
  | .lst args, Γ, S => (evL F args Γ S).bind fun ds S1 => match allP ds with
    | some xs => if xs.length ≤ sizeLine then .ok (.p (.list xs)) S1 else .stuck
    | none => .stuck
  | .mlst args, Γ, S => (evL F args Γ S).bind fun ds S1 => if ds.length ≤ sizeLine then .ok (.loc S1.length) (S1 ++ [.lst ds]) else .stuck
  | .madd a b, Γ, S => (evE F a Γ S).bind fun x S1 => (evE F b Γ S1).bind fun y S2 => match pureM S2 x, pureM S2 y with
    | some (.list xs), some (.list ys) => if xs.length + ys.length ≤ sizeLine then .ok (.loc S2.length) (S2 ++ [.lst ((xs ++ ys).map D.p)]) else .stuck
    | _, _ => .stuck
  | .lc t k src c e own, Γ, S => (evL F src Γ S).bind fun ds S1 => match srcOf k ds with
    | none => .stuck
    | some r => match srcLen S1 r with
      | none => .stuck
      | some n => (lcGo (stepG (fun Γ' S' => evE F c Γ' S') (fun Γ' S' => evE F e Γ' S') t (wipeL Γ own)) r n 0 [] S1).bind fun acc S2 => match allP acc with
        | some xs => .ok (.p (.list xs)) S2
        | none => .stuck
  | .mlc t k src c e own, Γ, S => (evL F src Γ S).bind fun ds S1 => match srcOf k ds with
    | none => .stuck
    | some r => match srcLen S1 r with
      | none => .stuck
      | some n => (lcGo (stepG (fun Γ' S' => evE F c Γ' S') (fun Γ' S' => evE F e Γ' S') t (wipeL Γ own)) r n 0 [] S1).bind fun acc S2 => .ok (.loc S2.length) (S2 ++ [.lst acc])
def evL (F : Calls) : CL → Loc → Store → Res (List D)
  | .nil, _, S => .ok [] S
  | .cons a r, Γ, S => (evE F a Γ S).bind fun x S1 => (evL F r Γ S1).bind fun xs S2 => .ok (x :: xs) S2
end

/-! ### statements -/
inductive ResS where
  | nx (Γ : Loc) (S : Store)
  | rt (d : D) (S : Store)
  | exc (c : Nat) (fs : List (Str × D)) (Γ : Loc) (S : Store)
  | stuck
@[simp] def Res.toS {α : Type} (Γ : Loc) : Res α → (α → Store → ResS) → ResS
  | .ok a S, f => f a S
  | .exc c fs S, _ => .exc c fs Γ S
  | .stuck, _ => .stuck
def whileN (c : Loc → Store → Res Bool) (b : Loc → Store → ResS) : Nat → Loc → Store → Option ResS
  | 0, _, _ => none
  | k + 1, Γ, S => match c Γ S with
    | .ok true S' => match b Γ S' with
      | .nx Γ2 S2 => whileN c b k Γ2 S2
      | r => some r
    | .ok false S' => some (.nx Γ S')
    | .exc k fs S' => some (.exc k fs Γ S')
    | .stuck => some .stuck
open Classical in
noncomputable def whileF (c : Loc → Store → Res Bool) (b : Loc → Store → ResS) (Γ : Loc) (S : Store) : ResS :=
  if h : ∃ r, ∃ k, whileN c b k Γ S = some r then h.choose else .stuck
theorem whileN_mono {c : Loc → Store → Res Bool} {b : Loc → Store → ResS} : ∀ {k j : Nat} {Γ : Loc} {S : Store} {r : ResS}, whileN c b k Γ S = some r → k ≤ j → whileN c b j Γ S = some r
  | 0, _, _, _, _, h, _ => by cases h
  | k + 1, 0, _, _, _, _, hj => by omega
  | k + 1, j + 1, Γ, S, r, h, hj => by
    unfold whileN at h ⊢
    cases hc : c Γ S with
    | ok x S' =>
      rw [hc] at h
      cases x with
      | true =>
        simp only at h ⊢
        cases hb : b Γ S' with
        | nx Γ2 S2 =>
          rw [hb] at h
          simp only at h ⊢
          exact whileN_mono h (by omega)
        | rt d S2 => rw [hb] at h; exact h
        | exc c fs Γ2 S2 => rw [hb] at h; exact h
        | stuck => rw [hb] at h; exact h
      | false => exact h
    | exc c fs S' => rw [hc] at h; exact h
    | stuck => rw [hc] at h; exact h
theorem whileF_of {c : Loc → Store → Res Bool} {b : Loc → Store → ResS} {k : Nat} {Γ : Loc} {S : Store} {r : ResS} (h : whileN c b k Γ S = some r) : whileF c b Γ S = r := by
  have hx : ∃ r, ∃ k, whileN c b k Γ S = some r := ⟨r, k, h⟩
  unfold whileF
  rw [dif_pos hx]
  obtain ⟨j, hj⟩ := hx.choose_spec
  have h1 := whileN_mono h (Nat.le_max_left k j)
  have h2 := whileN_mono hj (Nat.le_max_right k j)
  rw [h1] at h2
  exact (Option.some.inj h2).symm
theorem whileF_nx {c : Loc → Store → Res Bool} {b : Loc → Store → ResS} {Γ Γ2 : Loc} {S S' S2 : Store} (hc : c Γ S = .ok true S') (hb : b Γ S' = .nx Γ2 S2) : whileF c b Γ S = whileF c b Γ2 S2 := by
  by_cases hx : ∃ r, ∃ k, whileN c b k Γ2 S2 = some r
  · obtain ⟨r, k, h⟩ := hx
    rw [whileF_of h]
    refine whileF_of (k := k + 1) ?_
    unfold whileN
    rw [hc]
    simp only
    rw [hb]
    exact h
  · have hy : ¬ ∃ r, ∃ k, whileN c b k Γ S = some r := by
      rintro ⟨r, k, h⟩
      cases k with
      | zero => cases h
      | succ k =>
        unfold whileN at h
        rw [hc] at h
        simp only at h
        rw [hb] at h
        exact hx ⟨r, k, h⟩
    unfold whileF
    rw [dif_neg hx, dif_neg hy]
theorem whileF_end {c : Loc → Store → Res Bool} {b : Loc → Store → ResS} {Γ : Loc} {S S' : Store} (hc : c Γ S = .ok false S') : whileF c b Γ S = .nx Γ S' := by
  refine whileF_of (k := 1) ?_
  unfold whileN
  rw [hc]
def forGo (step : D → Loc → Store → ResS) (src : Src) : Nat → Nat → Loc → Store → ResS
  | 0, i, Γ, S => if srcLen S src = some i then .nx Γ S else .stuck
  | k + 1, i, Γ, S => match srcAt S src i with
    | none => .stuck
    | some d => match step d Γ S with
      | .nx Γ' S' => forGo step src k (i + 1) Γ' S'
      | r => r
def evT (F : Calls) (c : CE) (Γ : Loc) (S : Store) : Res Bool := (evE F c Γ S).bind fun x S1 => Res.ofO S1 (truthD S1 x)
/-- names stored at once -/
@[simp] def setAll : List Nat → List D → Loc → Option Loc
  | [], [], Γ => some Γ
  | i :: is, d :: ds, Γ => setAll is ds (Γ.set i (some d))
  | _, _, _ => none
noncomputable def evS (F : Calls) : CS → Loc → Store → ResS
  | .skip, Γ, S => .nx Γ S
  | .seq a b, Γ, S => match evS F a Γ S with
    | .nx Γ' S' => evS F b Γ' S'
    | r => r
  | .expr e, Γ, S => (evE F e Γ S).toS Γ fun _ S1 => .nx Γ S1
  | .ret e, Γ, S => (evE F e Γ S).toS Γ fun d S1 => .rt d S1
  | .asg t e, Γ, S => (evE F e Γ S).toS Γ fun d S1 => match bindNT t d Γ with
    | some Γ' => .nx Γ' S1
    | none => .stuck
  | .par is args, Γ, S => (evL F args Γ S).toS Γ fun ds S1 => match setAll is ds Γ with
    | some Γ' => .nx Γ' S1
    | none => .stuck
  | .seti o i e, Γ, S => (evE F e Γ S).toS Γ fun d S1 => (evE F o Γ S1).toS Γ fun x S2 => (evE F i Γ S2).toS Γ fun y S3 => match x, y with
    | .loc n, .p (.int k) => match S3[n]? with
      | some (.lst xs) => match L2.ixN xs.length k with
        | some j => .nx Γ (S3.set n (.lst (xs.set j d)))
        | none => .stuck
      | _ => .stuck
    | _, _ => .stuck
  | .append o e, Γ, S => (evE F o Γ S).toS Γ fun x S1 => match x with
    | .loc n => (evE F e Γ S1).toS Γ fun d S2 => match S2[n]? with
      | some (.lst xs) => if xs.length < sizeLine then .nx Γ (S2.set n (.lst (xs ++ [d]))) else .stuck
      | _ => .stuck
    | _ => .stuck
  | .extend o e, Γ, S => (evE F o Γ S).toS Γ fun x S1 => match x with
    | .loc n => (evE F e Γ S1).toS Γ fun d S2 => match S2[n]?, pureM S2 d with
      | some (.lst xs), some (.list ys) => if xs.length + ys.length ≤ sizeLine then .nx Γ (S2.set n (.lst (xs ++ ys.map D.p))) else .stuck
      | _, _ => .stuck
    | _ => .stuck
  | .ite c a b, Γ, S => (evT F c Γ S).toS Γ fun x S1 => if x then evS F a Γ S1 else evS F b Γ S1
  | .whl c b, Γ, S => whileF (evT F c) (evS F b) Γ S
  | .for_ t k src b, Γ, S => (evL F src Γ S).toS Γ fun ds S1 => match srcOf k ds with
    | none => .stuck
    | some r => match srcLen S1 r with
      | none => .stuck
      | some n => forGo (fun d Γ' S' => match bindNT t d Γ' with
          | none => .stuck
          | some Γ2 => evS F b Γ2 S') r n 0 Γ S1
  | .stop, _, _ => .stuck

/-! ### calls: a def sees the lists that it is handed, and no others -/
structure Fn where
  np : Nat
  slots : Nat
  body : CS
  retM : Bool
def locsOf : List D → List Nat
  | [] => []
  | .p _ :: r => locsOf r
  | .ro _ :: r => locsOf r
  | .loc n :: r => n :: locsOf r
/-- the arguments by the places of the small store, from the so-manieth on -/
def renum : List D → Nat → List D
  | [], _ => []
  | .p x :: r, k => .p x :: renum r k
  | .ro x :: r, k => .ro x :: renum r k
  | .loc _ :: r, k => .loc k :: renum r (k + 1)
def cellP : Cell → Bool
  | .lst xs => (allP xs).isSome
def subS (S : Store) : List Nat → Option Store
  | [] => some []
  | n :: r => match S[n]? with
    | some c => if cellP c then (subS S r).map (c :: ·) else none
    | none => none
/-- the lists handed in, as they stand behind the call -/
def backS (S : Store) : List Nat → Store → Option Store
  | [], _ => some S
  | n :: r, c :: T => if cellP c then backS (S.set n c) r T else none
  | _ :: _, [] => none
def fsP : List (Str × D) → Bool
  | [] => true
  | (_, .p _) :: r => fsP r
  | _ :: _ => false
def landOk (retM : Bool) (ls : List Nat) (S : Store) (d : D) (T : Store) : Res D := match backS S ls T with
  | none => .stuck
  | some S' => match d with
    | .p x => .ok (.p x) S'
    | .ro x => .ok (.ro x) S'
    | .loc j => match ls[j]? with
      | some n => .ok (.loc n) S'
      | none => match T[j]? with
        | some (.lst xs) => match allP xs with
          | some ys => if retM then .ok (.loc S'.length) (S' ++ [.lst xs]) else .ok (.p (.list ys)) S'
          | none => .stuck
        | _ => .stuck
def land (retM : Bool) (ls : List Nat) (S : Store) : ResS → Res D
  | .nx _ T => landOk retM ls S (.p .none) T
  | .rt d T => landOk retM ls S d T
  | .exc c fs _ T => if fsP fs then (match backS S ls T with
      | some S' => .exc c fs S'
      | none => .stuck) else .stuck
  | .stuck => .stuck
@[simp] def startL (n : Nat) (ds : List D) : Loc := ds.map some ++ List.replicate (n - ds.length) none
noncomputable def callN (G : List Fn) : Nat → Calls
  | 0, _, _, _ => .stuck
  | n + 1, f, ds, S => match G[f]? with
    | none => .stuck
    | some fi => if ds.length = fi.np ∧ (locsOf ds).Nodup then (match subS S (locsOf ds) with
        | none => .stuck
        | some T => land fi.retM (locsOf ds) S (evS (callN G n) fi.body (startL fi.slots (renum ds 0)) T)) else .stuck
end Core
set_option Elab.async false
set_option linter.all false
/-! Core, part B: how plain data and cells stand in the abstract heap -/
namespace Core
open PySem PySem.W L2
/-- what a list that never changes must not be: a cell, or a list in the making -/
abbrev Fb (ρ κ : List Addr) (b : Addr) : Prop := b ∈ ρ ∨ b ∈ κ
section
variable (K : Frag) (H : Hp) (ρ κ : List Addr)
mutual
inductive RepP : PyData → V → Prop
  | nn : RepP .none .non
  | bool (b : Bool) : RepP (.bool b) (.bl b)
  | int (i : Int) : RepP (.int i) (.int i)
  | str (x : Str) : RepP (.str x) (.str x)
  | tup {a : Addr} {vs : List V} {xs : List PyData} : SqT K H a vs → vs.length ≤ sizeLine → RepPs xs vs → RepP (.tuple xs) (.ref a)
  | lst {a : Addr} {vs : List V} {xs : List PyData} : H a = some (.lst vs) → ¬ Fb ρ κ a → vs.length ≤ sizeLine → RepPs xs vs → RepP (.list xs) (.ref a)
inductive RepPs : List PyData → List V → Prop
  | nil : RepPs [] []
  | cons {x : PyData} {v : V} {xs : List PyData} {vs : List V} : RepP x v → RepPs xs vs → RepPs (x :: xs) (v :: vs)
end
/-- a list that is read alone: locked, or of the written part -/
def RoL (a : Addr) (vs : List V) : Prop := (∃ o, H a = some (.frz o (.lst vs))) ∨ SqL K (fun _ => none) a vs
inductive RepD : D → V → Prop
  | p {x : PyData} {v : V} : RepP K H ρ κ x v → RepD (.p x) v
  | ro {a : Addr} {vs : List V} {xs : List PyData} : RoL K H a vs → vs.length ≤ sizeLine → RepPs K H ρ κ xs vs → RepD (.ro xs) (.ref a)
  | loc {n : Nat} {a : Addr} : ρ[n]? = some a → RepD (.loc n) (.ref a)
abbrev RepDs : List D → List V → Prop := Paired (RepD K H ρ κ)
def CellRep (a : Addr) : Cell → Prop
  | .lst ds => ∃ vs, H a = some (.lst vs) ∧ vs.length ≤ sizeLine ∧ RepDs K H ρ κ ds vs
structure StRep (S : Store) : Prop where
  len : ρ.length = S.length
  live : ∀ b ∈ κ, H b ≠ none
  dis : ∀ b ∈ κ, b ∉ ρ
  inj : ∀ (n m : Nat) (a : Addr) (xs ys : List D), ρ[n]? = some a → ρ[m]? = some a → S[n]? = some (.lst xs) → S[m]? = some (.lst ys) → n = m
  cell : ∀ (n : Nat) (a : Addr) (c : Cell), ρ[n]? = some a → S[n]? = some c → CellRep K H ρ κ a c
inductive RepO : Option D → Option V → Prop
  | un (v : Option V) : RepO none v
  | an {d : D} {v : V} : RepD K H ρ κ d v → RepO (some d) (some v)
abbrev RepL : Loc → St → Prop := Paired (RepO K H ρ κ)
end
/-- what may have happened -/
structure Ext (H : Hp) (ρ : List Addr) (H' : Hp) (ρ' : List Addr) : Prop where
  pre : ∃ r, ρ' = ρ ++ r ∧ ∀ b ∈ r, H b = none
  keep : ∀ b o, H b = some o → b ∉ ρ → H' b = some o
  live : ∀ b, H b ≠ none → H' b ≠ none
  tups : ∀ b xs, H b = some (.tup xs) → H' b = some (.tup xs)
  frzs : ∀ b o u, H b = some (.frz o u) → H' b = some (.frz o u)
theorem Ext.refl (H : Hp) (ρ : List Addr) : Ext H ρ H ρ :=
  ⟨⟨[], by simp, by simp⟩, fun _ _ h _ => h, fun _ h => h, fun _ _ h => h, fun _ _ _ h => h⟩
theorem Ext.trans {H H1 H2 : Hp} {ρ ρ1 ρ2 : List Addr} (a : Ext H ρ H1 ρ1) (b : Ext H1 ρ1 H2 ρ2) : Ext H ρ H2 ρ2 := by
  obtain ⟨r, e, f⟩ := a.pre
  obtain ⟨r2, e2, f2⟩ := b.pre
  refine ⟨⟨r ++ r2, by rw [e2, e, List.append_assoc], fun c hc => ?_⟩, fun c o h hn => ?_, fun c h => b.live c (a.live c h), fun c xs h => b.tups c xs (a.tups c xs h), fun c o u h => b.frzs c o u (a.frzs c o u h)⟩
  · rcases List.mem_append.mp hc with z | z
    · exact f c z
    · cases q : H c with
      | none => rfl
      | some o => exact absurd (f2 c z) (a.live c (by rw [q]; simp))
  · refine b.keep c o (a.keep c o h hn) ?_
    rw [e]
    intro z
    rcases List.mem_append.mp z with z | z
    · exact hn z
    · rw [f c z] at h; cases h
theorem Ext.fb {H H' : Hp} {ρ ρ' κ : List Addr} {b : Addr} (e : Ext H ρ H' ρ') (h : H b ≠ none) (z : Fb ρ' κ b) : Fb ρ κ b := by
  rcases z with z | z
  · obtain ⟨r, q, f⟩ := e.pre
    rw [q] at z
    rcases List.mem_append.mp z with z | z
    · exact .inl z
    · exact absurd (f b z) h
  · exact .inr z
theorem sqT_of {K : Frag} {H H' : Hp} {a : Addr} {xs : List V} (ht : ∀ b xs, H b = some (.tup xs) → H' b = some (.tup xs)) (hf : ∀ b o u, H b = some (.frz o u) → H' b = some (.frz o u)) (h : SqT K H a xs) : SqT K H' a xs := by
  rcases h with (h | ⟨o, h⟩) | h
  · exact .inl (.inl (ht _ _ h))
  · exact .inl (.inr ⟨o, hf _ _ _ h⟩)
  · exact .inr h
section
variable {K : Frag} {H H' : Hp} {ρ ρ' κ κ' : List Addr}
mutual
theorem RepP.to (ht : ∀ b xs, H b = some (.tup xs) → H' b = some (.tup xs)) (hf : ∀ b o u, H b = some (.frz o u) → H' b = some (.frz o u))
    (hl : ∀ b vs, H b = some (.lst vs) → ¬ Fb ρ κ b → H' b = some (.lst vs) ∧ ¬ Fb ρ' κ' b) : ∀ {x : PyData} {v : V}, RepP K H ρ κ x v → RepP K H' ρ' κ' x v
  | _, _, .nn => .nn
  | _, _, .bool b => .bool b
  | _, _, .int i => .int i
  | _, _, .str x => .str x
  | _, _, .tup h n r => .tup (sqT_of ht hf h) n (RepPs.to ht hf hl r)
  | _, _, .lst h f n r => .lst (hl _ _ h f).1 (hl _ _ h f).2 n (RepPs.to ht hf hl r)
theorem RepPs.to (ht : ∀ b xs, H b = some (.tup xs) → H' b = some (.tup xs)) (hf : ∀ b o u, H b = some (.frz o u) → H' b = some (.frz o u))
    (hl : ∀ b vs, H b = some (.lst vs) → ¬ Fb ρ κ b → H' b = some (.lst vs) ∧ ¬ Fb ρ' κ' b) : ∀ {x : List PyData} {v : List V}, RepPs K H ρ κ x v → RepPs K H' ρ' κ' x v
  | _, _, .nil => .nil
  | _, _, .cons a b => .cons (RepP.to ht hf hl a) (RepPs.to ht hf hl b)
end
theorem Ext.lsts (e : Ext H ρ H' ρ') : ∀ b vs, H b = some (.lst vs) → ¬ Fb ρ κ b → H' b = some (.lst vs) ∧ ¬ Fb ρ' κ b := fun b vs h n =>
  ⟨e.keep b _ h fun z => n (.inl z), fun z => n (e.fb (by rw [h]; simp) z)⟩
theorem RepP.ext (e : Ext H ρ H' ρ') {x : PyData} {v : V} (r : RepP K H ρ κ x v) : RepP K H' ρ' κ x v := r.to e.tups e.frzs e.lsts
theorem RepPs.ext (e : Ext H ρ H' ρ') {x : List PyData} {v : List V} (r : RepPs K H ρ κ x v) : RepPs K H' ρ' κ x v := r.to e.tups e.frzs e.lsts
theorem Ext.at (e : Ext H ρ H' ρ') {n : Nat} {a : Addr} (h : ρ[n]? = some a) : ρ'[n]? = some a := by
  obtain ⟨r, q, _⟩ := e.pre
  rw [q]
  obtain ⟨z, _⟩ := List.getElem?_eq_some_iff.mp h
  rw [List.getElem?_append_left z]
  exact h
theorem RoL.ext {a : Addr} {vs : List V} (hf : ∀ b o u, H b = some (.frz o u) → H' b = some (.frz o u)) (h : RoL K H a vs) : RoL K H' a vs := by
  rcases h with ⟨o, h⟩ | h
  · exact .inl ⟨o, hf _ _ _ h⟩
  · exact .inr h
theorem RepD.ext (e : Ext H ρ H' ρ') {x : D} {v : V} (r : RepD K H ρ κ x v) : RepD K H' ρ' κ x v := by
  cases r with
  | p r => exact .p (r.ext e)
  | ro h n r => exact .ro (h.ext e.frzs) n (r.ext e)
  | loc h => exact .loc (e.at h)
theorem Paired.mapI {α β : Type} {F G : α → β → Prop} (f : ∀ a b, F a b → G a b) : ∀ {l₁ : List α} {l₂ : List β}, Paired F l₁ l₂ → Paired G l₁ l₂
  | _, _, .nil => .nil
  | _, _, .cons r t => .cons (f _ _ r) (Paired.mapI f t)
theorem RepDs.ext (e : Ext H ρ H' ρ') {x : List D} {v : List V} (r : RepDs K H ρ κ x v) : RepDs K H' ρ' κ x v := Paired.mapI (fun _ _ q => q.ext e) r
theorem RepL.ext (e : Ext H ρ H' ρ') {x : Loc} {v : St} (r : RepL K H ρ κ x v) : RepL K H' ρ' κ x v := Paired.mapI (fun _ _ q => by
  cases q with
  | un => exact .un _
  | an q => exact .an (q.ext e)) r
/-- other cells, another list in the making: told of live places alone -/
theorem RepP.fb (h : ∀ b, H b ≠ none → Fb ρ' κ' b → Fb ρ κ b) {x : PyData} {v : V} (r : RepP K H ρ κ x v) : RepP K H ρ' κ' x v :=
  r.to (fun _ _ q => q) (fun _ _ _ q => q) fun b vs q n => ⟨q, fun z => n (h b (by rw [q]; simp) z)⟩
theorem RepPs.fb (h : ∀ b, H b ≠ none → Fb ρ' κ' b → Fb ρ κ b) {x : List PyData} {v : List V} (r : RepPs K H ρ κ x v) : RepPs K H ρ' κ' x v :=
  r.to (fun _ _ q => q) (fun _ _ _ q => q) fun b vs q n => ⟨q, fun z => n (h b (by rw [q]; simp) z)⟩
theorem RepD.fb (h : ∀ b, H b ≠ none → Fb ρ' κ' b → Fb ρ κ b) (hp : ∀ (n : Nat) a, ρ[n]? = some a → ρ'[n]? = some a) {x : D} {v : V} (r : RepD K H ρ κ x v) : RepD K H ρ' κ' x v := by
  cases r with
  | p r => exact .p (r.fb h)
  | ro z n r => exact .ro z n (r.fb h)
  | loc q => exact .loc (hp _ _ q)
theorem RepPs.length : ∀ {x : List PyData} {v : List V}, RepPs K H ρ κ x v → v.length = x.length
  | _, _, .nil => rfl
  | _, _, .cons _ b => congrArg Nat.succ (RepPs.length b)
theorem RepPs.get : ∀ {x : List PyData} {v : List V} {i : Nat} {y : PyData}, RepPs K H ρ κ x v → x[i]? = some y → ∃ w, v[i]? = some w ∧ RepP K H ρ κ y w
  | _, _, _, _, .nil, h => by simp at h
  | _, _, 0, _, .cons a _, h => by
    simp only [List.getElem?_cons_zero, Option.some.injEq] at h
    subst h
    exact ⟨_, rfl, a⟩
  | _, _, i + 1, _, .cons _ b, h => by
    obtain ⟨w, q, r⟩ := RepPs.get (i := i) b (by simpa using h)
    exact ⟨w, by simpa using q, r⟩
theorem RepPs.app : ∀ {x y : List PyData} {v w : List V}, RepPs K H ρ κ x v → RepPs K H ρ κ y w → RepPs K H ρ κ (x ++ y) (v ++ w)
  | _, _, _, _, .nil, s => s
  | _, _, _, _, .cons a b, s => .cons a (RepPs.app b s)
theorem RepPs.dr : ∀ {x : List PyData} {v : List V} (n : Nat), RepPs K H ρ κ x v → RepPs K H ρ κ (x.drop n) (v.drop n)
  | _, _, 0, r => r
  | _, _, _ + 1, .nil => .nil
  | _, _, n + 1, .cons _ b => RepPs.dr n b
theorem RepPs.tk : ∀ {x : List PyData} {v : List V} (n : Nat), RepPs K H ρ κ x v → RepPs K H ρ κ (x.take n) (v.take n)
  | _, _, 0, _ => .nil
  | _, _, _ + 1, .nil => .nil
  | _, _, n + 1, .cons a b => .cons a (RepPs.tk n b)
theorem RepPs.rv : ∀ {x : List PyData} {v : List V}, RepPs K H ρ κ x v → RepPs K H ρ κ x.reverse v.reverse
  | _, _, .nil => .nil
  | _, _, .cons a b => by
    rw [List.reverse_cons, List.reverse_cons]
    exact (RepPs.rv b).app (.cons a .nil)
theorem RepPs.ds : ∀ {x : List PyData} {v : List V}, RepPs K H ρ κ x v → RepDs K H ρ κ (x.map D.p) v
  | _, _, .nil => .nil
  | _, _, .cons a b => .cons (.p a) (RepPs.ds b)
theorem allP_map : ∀ {ds : List D} {xs : List PyData}, allP ds = some xs → ds = xs.map D.p
  | [], _, h => by
    simp only [allP, Option.some.injEq] at h
    subst h; rfl
  | .p x :: r, ys, h => by
    simp only [allP, Option.map_eq_some_iff] at h
    obtain ⟨a, h1, rfl⟩ := h
    rw [allP_map h1]; rfl
  | .ro _ :: _, _, h => by simp [allP] at h
  | .loc _ :: _, _, h => by simp [allP] at h
theorem allP_of : ∀ xs : List PyData, allP (xs.map D.p) = some xs
  | [] => rfl
  | x :: r => by simp [allP, allP_of r]
theorem RepDs.ps : ∀ {xs : List PyData} {v : List V}, RepDs K H ρ κ (xs.map D.p) v → RepPs K H ρ κ xs v
  | [], _, h => by
    cases h; exact .nil
  | x :: r, _, h => by
    cases h with
    | cons a b =>
      cases a with
      | p a => exact .cons a (RepDs.ps b)
theorem Paired.get' {α β : Type} {F : α → β → Prop} : ∀ {l₁ : List α} {l₂ : List β} {i : Nat} {a : α}, Paired F l₁ l₂ → l₁[i]? = some a → ∃ b, l₂[i]? = some b ∧ F a b
  | _, _, _, _, .nil, h => by simp at h
  | _, _, 0, _, .cons a _, h => by
    simp only [List.getElem?_cons_zero, Option.some.injEq] at h
    subst h
    exact ⟨_, rfl, a⟩
  | _, _, i + 1, _, .cons _ b, h => by
    obtain ⟨w, q, r⟩ := Paired.get' (i := i) b (by simpa using h)
    exact ⟨w, by simpa using q, r⟩
theorem Paired.app {α β : Type} {F : α → β → Prop} : ∀ {l₁ m₁ : List α} {l₂ m₂ : List β}, Paired F l₁ l₂ → Paired F m₁ m₂ → Paired F (l₁ ++ m₁) (l₂ ++ m₂)
  | _, _, _, _, .nil, s => s
  | _, _, _, _, .cons a b, s => .cons a (Paired.app b s)
theorem Paired.set' {α β : Type} {F : α → β → Prop} {a : α} {b : β} (r : F a b) : ∀ {l₁ : List α} {l₂ : List β} (i : Nat), Paired F l₁ l₂ → Paired F (l₁.set i a) (l₂.set i b)
  | _, _, _, .nil => .nil
  | _, _, 0, .cons _ t => .cons r t
  | _, _, i + 1, .cons q t => .cons q (Paired.set' r i t)
theorem Paired.len {α β : Type} {F : α → β → Prop} : ∀ {l₁ : List α} {l₂ : List β}, Paired F l₁ l₂ → l₁.length = l₂.length
  | _, _, .nil => rfl
  | _, _, .cons _ t => congrArg Nat.succ (Paired.len t)

/-! ### the cells -/
theorem StRep.at {S : Store} (s : StRep K H ρ κ S) {n : Nat} {c : Cell} (h : S[n]? = some c) : ∃ a, ρ[n]? = some a := by
  obtain ⟨z, _⟩ := List.getElem?_eq_some_iff.mp h
  have : n < ρ.length := by rw [s.len]; exact z
  exact ⟨_, List.getElem?_eq_getElem this⟩
theorem CellRep.to {a : Addr} (ht : ∀ b xs, H b = some (.tup xs) → H' b = some (.tup xs)) (hf : ∀ b o u, H b = some (.frz o u) → H' b = some (.frz o u))
    (hl : ∀ b vs, H b = some (.lst vs) → ¬ Fb ρ κ b → H' b = some (.lst vs) ∧ ¬ Fb ρ' κ' b) (hp : ∀ (n : Nat) a, ρ[n]? = some a → ρ'[n]? = some a) (ha : ∀ vs, H a = some (.lst vs) → H' a = some (.lst vs)) :
    ∀ {c : Cell}, CellRep K H ρ κ a c → CellRep K H' ρ' κ' a c
  | .lst ds, ⟨vs, h, n, r⟩ => ⟨vs, ha vs h, n, Paired.mapI (fun _ _ q => by
      cases q with
      | p q => exact .p (q.to ht hf hl)
      | ro z n q => exact .ro (z.ext hf) n (q.to ht hf hl)
      | loc q => exact .loc (hp _ _ q)) r⟩
/-- a new object beside: a tuple, a list -/
theorem StRep.new {S : Store} {p : Addr} {o : HO} (s : StRep K H ρ κ S) (h : H p = none) : StRep K (upd H p o) ρ κ S ∧ Ext H ρ (upd H p o) ρ := by
  have up : ∀ b u, H b = some u → upd H p o b = some u := fun b u e => by
    rw [upd_ne (ne_of_none e h)]; exact e
  refine ⟨⟨s.len, fun b hb => ?_, s.dis, s.inj, fun n a c h1 h2 => ?_⟩, ⟨⟨[], by simp, by simp⟩, fun b u e _ => up b u e, fun b e => ?_, fun b xs e => up b _ e, fun b o u e => up b _ e⟩⟩
  · have := s.live b hb
    cases q : H b with
    | none => exact absurd q this
    | some u => rw [up b u q]; simp
  · exact (s.cell n a c h1 h2).to (fun b xs e => up b _ e) (fun b o u e => up b _ e) (fun b vs e n => ⟨up b _ e, n⟩) (fun _ _ e => e) fun vs e => up a _ e
  · cases q : H b with
    | none => exact absurd q e
    | some u => rw [up b u q]; simp
/-- a new cell -/
theorem StRep.cellNew {S : Store} {p : Addr} {ds : List D} {vs : List V} (s : StRep K H ρ κ S) (h : H p = none) (hz : vs.length ≤ sizeLine) (r : RepDs K H ρ κ ds vs) :
    StRep K (upd H p (.lst vs)) (ρ ++ [p]) κ (S ++ [.lst ds]) ∧ Ext H ρ (upd H p (.lst vs)) (ρ ++ [p]) := by
  have up : ∀ b u, H b = some u → upd H p (.lst vs) b = some u := fun b u e => by
    rw [upd_ne (ne_of_none e h)]; exact e
  have fb : ∀ b, H b ≠ none → Fb (ρ ++ [p]) κ b → Fb ρ κ b := fun b e z => by
    rcases z with z | z
    · rcases List.mem_append.mp z with z | z
      · exact .inl z
      · rw [List.mem_singleton] at z
        subst z
        exact absurd h e
    · exact .inr z
  have ext : Ext H ρ (upd H p (.lst vs)) (ρ ++ [p]) := by
    refine ⟨⟨[p], rfl, fun b hb => by rw [List.mem_singleton.mp hb]; exact h⟩, fun b u e _ => up b u e, fun b e => ?_, fun b xs e => up b _ e, fun b o u e => up b _ e⟩
    cases q : H b with
    | none => exact absurd q e
    | some u => rw [up b u q]; simp
  have old : ∀ (n : Nat) (a : Addr), (ρ ++ [p])[n]? = some a → (∃ c, S[n]? = some c) → ρ[n]? = some a := fun n a e ⟨c, hc⟩ => by
    obtain ⟨z, _⟩ := List.getElem?_eq_some_iff.mp hc
    rw [List.getElem?_append_left (by rw [s.len]; exact z)] at e
    exact e
  have cases' : ∀ (n : Nat) (c : Cell), (S ++ [Cell.lst ds])[n]? = some c → (S[n]? = some c) ∨ (n = S.length ∧ c = .lst ds) := fun n c e => by
    by_cases z : n < S.length
    · rw [List.getElem?_append_left z] at e
      exact .inl e
    · rw [List.getElem?_append_right (by omega)] at e
      have z2 : n - S.length = 0 := by
        obtain ⟨q, _⟩ := List.getElem?_eq_some_iff.mp e
        simp at q; omega
      rw [z2] at e
      simp at e
      exact .inr ⟨by omega, e.symm⟩
  have atp : ∀ a, (ρ ++ [p])[S.length]? = some a → a = p := fun a e => by
    rw [List.getElem?_append_right (by rw [s.len]; exact Nat.le_refl _)] at e
    rw [s.len] at e
    simp at e
    exact e.symm
  refine ⟨⟨by simp [s.len], fun b hb => ext.live b (s.live b hb), fun b hb z => ?_, fun n m a xs ys h1 h2 h3 h4 => ?_, fun n a c h1 h2 => ?_⟩, ext⟩
  · rcases List.mem_append.mp z with z | z
    · exact s.dis b hb z
    · rw [List.mem_singleton] at z
      subst z
      exact s.live b hb h
  · rcases cases' n _ h3 with q | ⟨q, _⟩ <;> rcases cases' m _ h4 with q' | ⟨q', _⟩
    · exact s.inj n m a xs ys (old n a h1 ⟨_, q⟩) (old m a h2 ⟨_, q'⟩) q q'
    · subst q'
      have e := atp a h2
      subst e
      obtain ⟨vs', w, _⟩ := s.cell n a _ (old n a h1 ⟨_, q⟩) q
      rw [h] at w; cases w
    · subst q
      have e := atp a h1
      subst e
      obtain ⟨vs', w, _⟩ := s.cell m a _ (old m a h2 ⟨_, q'⟩) q'
      rw [h] at w; cases w
    · omega
  · rcases cases' n _ h2 with q | ⟨q, e⟩
    · exact (s.cell n a c (old n a h1 ⟨_, q⟩) q).to ext.tups ext.frzs ext.lsts (fun _ _ e => ext.at e) fun vs e => up a _ e
    · subst q e
      have e := atp a h1
      subst e
      exact ⟨vs, upd_same, hz, r.ext ext⟩
theorem StRep.lst {S : Store} (s : StRep K H ρ κ S) {n : Nat} {a : Addr} {ds : List D} (h : ρ[n]? = some a) (h2 : S[n]? = some (.lst ds)) : ∃ vs, H a = some (.lst vs) ∧ vs.length ≤ sizeLine ∧ RepDs K H ρ κ ds vs := s.cell n a _ h h2
/-- a cell is changed -/
theorem StRep.set {S : Store} {n : Nat} {a : Addr} {ds es : List D} {vs : List V} (s : StRep K H ρ κ S) (h : ρ[n]? = some a) (h2 : S[n]? = some (.lst ds)) (hz : vs.length ≤ sizeLine) (r : RepDs K H ρ κ es vs) :
    StRep K (upd H a (.lst vs)) ρ κ (S.set n (.lst es)) ∧ Ext H ρ (upd H a (.lst vs)) ρ := by
  obtain ⟨us, hu, _, _⟩ := s.lst h h2
  have ha : a ∈ ρ := List.mem_of_getElem? h
  have ne : ∀ b u, H b = some u → (∀ xs, u ≠ .lst xs) → b ≠ a := fun b u e z q => by
    rw [q, hu] at e; cases e; exact z us rfl
  have nz : ∀ b u, H b = some u → b ≠ a → upd H a (.lst vs) b = some u := fun b u e q => by rw [upd_ne q]; exact e
  have ext : Ext H ρ (upd H a (.lst vs)) ρ := by
    refine ⟨⟨[], by simp, by simp⟩, fun b u e z => nz b u e fun q => z (q ▸ ha), fun b e => ?_, fun b xs e => nz b _ e (ne b _ e (by intro xs z; cases z)), fun b o u e => nz b _ e (ne b _ e (by intro xs z; cases z))⟩
    by_cases q : b = a
    · subst q; rw [upd_same]; simp
    · rw [upd_ne q]; exact e
  refine ⟨⟨by simp [s.len], fun b hb => ext.live b (s.live b hb), s.dis, fun i j b xs ys h3 h4 h5 h6 => ?_, fun i b c h3 h4 => ?_⟩, ext⟩
  · have lk : ∀ (i : Nat) xs, (S.set n (Cell.lst es))[i]? = some (.lst xs) → ∃ ys, S[i]? = some (.lst ys) := fun i xs q => by
      by_cases z : n = i
      · subst z; exact ⟨_, h2⟩
      · rw [List.getElem?_set_ne z] at q; exact ⟨_, q⟩
    obtain ⟨u, q1⟩ := lk i _ h5
    obtain ⟨w, q2⟩ := lk j _ h6
    exact s.inj i j b u w h3 h4 q1 q2
  · by_cases z : n = i
    · subst z
      rw [h] at h3; cases h3
      obtain ⟨q, _⟩ := List.getElem?_eq_some_iff.mp h2
      rw [List.getElem?_set_self q] at h4
      cases h4
      exact ⟨vs, upd_same, hz, r.ext ext⟩
    · rw [List.getElem?_set_ne z] at h4
      have q := s.cell i b c h3 h4
      cases c with
      | lst ds' =>
        obtain ⟨ws, w1, w2, w3⟩ := q
        have nb : b ≠ a := fun e => by
          subst e
          exact z (s.inj n i b _ _ h h3 h2 h4)
        exact ⟨ws, nz b _ w1 nb, w2, w3.ext ext⟩
theorem RoL.sq {a : Addr} {vs : List V} (h : RoL K H a vs) : SqL K H a vs := by
  rcases h with ⟨o, h⟩ | h
  · exact .inl (.inr ⟨o, h⟩)
  · rcases h with (h | ⟨o, h⟩) | h
    · cases h
    · cases h
    · exact .inr h
end
end Core
set_option Elab.async false
set_option linter.all false
/-! Core, part C: readings, and what the operators do -/
namespace Core
open PySem PySem.W L2
section
variable {K : Frag} {H H' : Hp} {ρ ρ' κ κ' : List Addr} {S : Store}
theorem StRep.alive (s : StRep K H ρ κ S) {a : Addr} (h : a ∈ ρ) : H a ≠ none := by
  obtain ⟨n, hn, e⟩ := List.getElem_of_mem h
  have e2 : ρ[n]? = some a := by rw [List.getElem?_eq_getElem hn, e]
  have hs : n < S.length := by rw [← s.len]; exact hn
  have q := s.cell n a S[n] e2 (List.getElem?_eq_getElem hs)
  cases c : S[n] with
  | lst ds =>
    rw [c] at q
    obtain ⟨vs, w, _⟩ := q
    rw [w]; simp
theorem StRep.nofb (s : StRep K H ρ κ S) {p : Addr} (h : H p = none) : ¬ Fb ρ κ p := fun z => by
  rcases z with z | z
  · exact s.alive z h
  · exact s.live _ z h
/-- a list in the making is kept off -/
theorem StRep.hold {p : Addr} {o : HO} (s : StRep K H ρ κ S) (h : H p = none) : StRep K (upd H p o) ρ (p :: κ) S ∧ Ext H ρ (upd H p o) ρ := by
  obtain ⟨s1, e⟩ := s.new (o := o) h
  have fb : ∀ b, upd H p o b ≠ none → b ≠ p → Fb ρ (p :: κ) b → Fb ρ κ b := fun b _ nb z => by
    rcases z with z | z
    · exact .inl z
    · rcases List.mem_cons.mp z with z | z
      · exact absurd z nb
      · exact .inr z
  refine ⟨⟨s1.len, fun b hb => ?_, fun b hb z => ?_, s1.inj, fun n a c h1 h2 => ?_⟩, e⟩
  · rcases List.mem_cons.mp hb with z | z
    · rw [z, upd_same]; simp
    · exact s1.live b z
  · rcases List.mem_cons.mp hb with q | q
    · rw [q] at z
      exact s.alive z h
    · exact s.dis b q z
  · refine (s.cell n a c h1 h2).to e.tups e.frzs (fun b vs q nf => ?_) (fun _ _ q => q) fun vs q => ?_
    · have nb : b ≠ p := ne_of_none q h
      refine ⟨by rw [upd_ne nb]; exact q, fun z => nf (fb b (by rw [upd_ne nb, q]; simp) nb z)⟩
    · rw [upd_ne (ne_of_none q h)]; exact q
theorem RepP.hold {p : Addr} {o : HO} (h : H p = none) {x : PyData} {v : V} (r : RepP K H ρ κ x v) (e : Ext H ρ (upd H p o) ρ) : RepP K (upd H p o) ρ (p :: κ) x v :=
  r.to e.tups e.frzs fun b vs q nf => by
    have nb : b ≠ p := ne_of_none q h
    refine ⟨by rw [upd_ne nb]; exact q, fun z => ?_⟩
    rcases z with z | z
    · exact nf (.inl z)
    · rcases List.mem_cons.mp z with z | z
      · exact nb z
      · exact nf (.inr z)
theorem RepPs.hold {p : Addr} {o : HO} (h : H p = none) {x : List PyData} {v : List V} (r : RepPs K H ρ κ x v) (e : Ext H ρ (upd H p o) ρ) : RepPs K (upd H p o) ρ (p :: κ) x v :=
  r.to e.tups e.frzs fun b vs q nf => by
    have nb : b ≠ p := ne_of_none q h
    refine ⟨by rw [upd_ne nb]; exact q, fun z => ?_⟩
    rcases z with z | z
    · exact nf (.inl z)
    · rcases List.mem_cons.mp z with z | z
      · exact nb z
      · exact nf (.inr z)
theorem RepD.hold {p : Addr} {o : HO} (h : H p = none) {x : D} {v : V} (r : RepD K H ρ κ x v) (e : Ext H ρ (upd H p o) ρ) : RepD K (upd H p o) ρ (p :: κ) x v := by
  cases r with
  | p r => exact .p (r.hold h e)
  | ro z n r => exact .ro (z.ext e.frzs) n (r.hold h e)
  | loc q => exact .loc q
theorem RepO.hold {p : Addr} {o : HO} (h : H p = none) {x : Option D} {v : Option V} (r : RepO K H ρ κ x v) (e : Ext H ρ (upd H p o) ρ) : RepO K (upd H p o) ρ (p :: κ) x v := by
  cases r with
  | un => exact .un _
  | an q => exact .an (q.hold h e)

/-! ### what values are, read off -/
/-- a list's or a tuple's items -/
inductive SeqV (K : Frag) (H : Hp) (ρ κ : List Addr) : V → List D → Prop
  | lst {a : Addr} {vs : List V} {ds : List D} : SqL K H a vs → vs.length ≤ sizeLine → RepDs K H ρ κ ds vs → SeqV K H ρ κ (.ref a) ds
  | tup {a : Addr} {vs : List V} {ds : List D} : SqT K H a vs → vs.length ≤ sizeLine → RepDs K H ρ κ ds vs → SeqV K H ρ κ (.ref a) ds
theorem elems_rep (s : StRep K H ρ κ S) {d : D} {v : V} {ds : List D} (r : RepD K H ρ κ d v) (h : elems S d = some ds) : SeqV K H ρ κ v ds := by
  cases r with
  | p r =>
    cases r with
    | nn => simp [elems] at h
    | bool b => simp [elems] at h
    | int i => simp [elems] at h
    | str x => simp [elems] at h
    | tup h1 h2 h3 =>
      simp only [elems, Option.some.injEq] at h
      subst h
      exact .tup h1 h2 h3.ds
    | lst h1 h0 h2 h3 =>
      simp only [elems, Option.some.injEq] at h
      subst h
      exact .lst (.of h1) h2 h3.ds
  | ro h1 h2 h3 =>
    simp only [elems, Option.some.injEq] at h
    subst h
    exact .lst h1.sq h2 h3.ds
  | loc e =>
    simp only [elems] at h
    split at h
    · rename_i xs hs
      simp only [Option.some.injEq] at h
      subst h
      obtain ⟨vs, w1, w2, w3⟩ := s.lst e hs
      exact .lst (.of w1) w2 w3
    · cases h
/-- what plain data asks of a value: a list may be a cell's -/
inductive ValP (K : Frag) (H : Hp) (ρ κ : List Addr) : PyData → V → Prop
  | nn : ValP K H ρ κ .none .non
  | bool (b : Bool) : ValP K H ρ κ (.bool b) (.bl b)
  | int (i : Int) : ValP K H ρ κ (.int i) (.int i)
  | str (x : Str) : ValP K H ρ κ (.str x) (.str x)
  | tup {a : Addr} {vs : List V} {xs : List PyData} : SqT K H a vs → vs.length ≤ sizeLine → RepPs K H ρ κ xs vs → ValP K H ρ κ (.tuple xs) (.ref a)
  | lst {a : Addr} {vs : List V} {xs : List PyData} : SqL K H a vs → vs.length ≤ sizeLine → RepPs K H ρ κ xs vs → ValP K H ρ κ (.list xs) (.ref a)
inductive ValM (K : Frag) (H : Hp) (ρ κ : List Addr) : PyData → V → Prop
  | nn : ValM K H ρ κ .none .non
  | bool (b : Bool) : ValM K H ρ κ (.bool b) (.bl b)
  | int (i : Int) : ValM K H ρ κ (.int i) (.int i)
  | str (x : Str) : ValM K H ρ κ (.str x) (.str x)
  | tup {a : Addr} {vs : List V} {xs : List PyData} : SqT K H a vs → vs.length ≤ sizeLine → RepPs K H ρ κ xs vs → ValM K H ρ κ (.tuple xs) (.ref a)
  | lst {a : Addr} {vs : List V} {xs : List PyData} : H a = some (.lst vs) → vs.length ≤ sizeLine → RepPs K H ρ κ xs vs → ValM K H ρ κ (.list xs) (.ref a)
theorem pureM_rep (s : StRep K H ρ κ S) {d : D} {v : V} {x : PyData} (r : RepD K H ρ κ d v) (h : pureM S d = some x) : ValM K H ρ κ x v := by
  cases r with
  | p r =>
    simp only [pureM, Option.some.injEq] at h
    subst h
    cases r with
    | nn => exact .nn
    | bool b => exact .bool b
    | int i => exact .int i
    | str x => exact .str x
    | tup h1 h2 h3 => exact .tup h1 h2 h3
    | lst h1 h0 h2 h3 => exact .lst h1 h2 h3
  | ro h1 h2 h3 => simp [pureM] at h
  | loc e =>
    simp only [pureM] at h
    split at h
    · rename_i xs hs
      simp only [Option.map_eq_some_iff] at h
      obtain ⟨ys, h1, rfl⟩ := h
      obtain ⟨vs, w1, w2, w3⟩ := s.lst e hs
      rw [allP_map h1] at w3
      exact .lst w1 w2 w3.ps
    · cases h
theorem pureD_rep (s : StRep K H ρ κ S) {d : D} {v : V} {x : PyData} (r : RepD K H ρ κ d v) (h : pureD S d = some x) : ValP K H ρ κ x v := by
  cases r with
  | p r =>
    simp only [pureD, Option.some.injEq] at h
    subst h
    cases r with
    | nn => exact .nn
    | bool b => exact .bool b
    | int i => exact .int i
    | str x => exact .str x
    | tup h1 h2 h3 => exact .tup h1 h2 h3
    | lst h1 h0 h2 h3 => exact .lst (.of h1) h2 h3
  | ro h1 h2 h3 =>
    simp only [pureD, Option.some.injEq] at h
    subst h
    exact .lst h1.sq h2 h3
  | loc e =>
    simp only [pureD] at h
    split at h
    · rename_i xs hs
      simp only [Option.map_eq_some_iff] at h
      obtain ⟨ys, h1, rfl⟩ := h
      obtain ⟨vs, w1, w2, w3⟩ := s.lst e hs
      rw [allP_map h1] at w3
      exact .lst (.of w1) w2 w3.ps
    · cases h
mutual
theorem RepP.dp : ∀ {x : PyData} {v : V}, RepP K H ρ κ x v → Dp K H v x
  | _, _, .nn => .non
  | _, _, .bool b => .bl b
  | _, _, .int i => .int i
  | _, _, .str x => .str x
  | _, _, .tup h n r => .tup h (RepPs.dp r)
  | _, _, .lst h f n r => .lst (.of h) (RepPs.dp r)
theorem RepPs.dp : ∀ {x : List PyData} {v : List V}, RepPs K H ρ κ x v → DpAll K H v x
  | _, _, .nil => .nil
  | _, _, .cons a b => .cons (RepP.dp a) (RepPs.dp b)
end
theorem ValP.dp {x : PyData} {v : V} (h : ValP K H ρ κ x v) : Dp K H v x := by
  cases h with
  | nn => exact .non
  | bool b => exact .bl b
  | int i => exact .int i
  | str x => exact .str x
  | tup h n r => exact .tup h r.dp
  | lst h n r => exact .lst h r.dp
end

/-! ### readings -/
/-- an exception: of a class of the program, its fields in its own dict -/
def ExcAt (K : Frag) (H : Hp) (ρ κ : List Addr) (cA : Nat → Addr) (c : Nat) (fs : List (Str × D)) (cv : Value) (d : Option Addr) : Prop :=
  cv = .ref (cA c) ∧ ∃ dd fvs, d = some dd ∧ H dd = some (.xd fvs) ∧ Paired (fun (x : Str × D) (y : Str × V) => x.1 = y.1 ∧ RepD K H ρ κ x.2 y.2) fs fvs
def PostE {α : Type} (K : Frag) (cA : Nat → Addr) (E : XK) (κ : List Addr) (H : Hp) (ρ : List Addr) (r : Res α) (P : Hp → List Addr → α → Store → Prop) : Prop := match r with
  | .ok a S' => ∀ H' ρ', Ext H ρ H' ρ' → StRep K H' ρ' κ S' → P H' ρ' a S'
  | .exc c fs S' => ∀ H' ρ' cv d, Ext H ρ H' ρ' → StRep K H' ρ' κ S' → ExcAt K H' ρ' κ cA c fs cv d → E cv d H'
  | .stuck => False
section
variable {K : Frag} {cA : Nat → Addr} {E : XK} {κ ρ ρ1 : List Addr} {H H1 : Hp} {α β : Type}
theorem PostE.ext {r : Res α} {P : Hp → List Addr → α → Store → Prop} (h : PostE K cA E κ H ρ r P) (e : Ext H ρ H1 ρ1) : PostE K cA E κ H1 ρ1 r P := by
  cases r with
  | ok a S => exact fun H' ρ' e' s => h H' ρ' (e.trans e') s
  | exc c fs S => exact fun H' ρ' cv d e' s x => h H' ρ' cv d (e.trans e') s x
  | stuck => exact h
theorem PostE.imp {r : Res α} {P P' : Hp → List Addr → α → Store → Prop} (h : PostE K cA E κ H ρ r P) (f : ∀ H' ρ' a S', Ext H ρ H' ρ' → StRep K H' ρ' κ S' → P H' ρ' a S' → P' H' ρ' a S') : PostE K cA E κ H ρ r P' := by
  cases r with
  | ok a S => exact fun H' ρ' e s => f H' ρ' a S e s (h H' ρ' e s)
  | exc c fs S => exact h
  | stuck => exact h
theorem PostE.bind {r : Res α} {f : α → Store → Res β} {P : Hp → List Addr → β → Store → Prop} (h : PostE K cA E κ H ρ (r.bind f) P) : PostE K cA E κ H ρ r (fun H1 ρ1 a S1 => PostE K cA E κ H1 ρ1 (f a S1) P) := by
  cases r with
  | ok a S => exact fun H' ρ' e s => PostE.ext h e
  | exc c fs S => exact h
  | stuck => exact h
theorem PostE.ofO {o : Option α} {S : Store} {P : Hp → List Addr → α → Store → Prop} (s : StRep K H ρ κ S) (h : PostE K cA E κ H ρ (Res.ofO S o) P) : ∃ a, o = some a ∧ P H ρ a S ∧ ∀ H' ρ', Ext H ρ H' ρ' → StRep K H' ρ' κ S → P H' ρ' a S := by
  cases o with
  | none => exact h.elim
  | some a => exact ⟨a, rfl, h H ρ (Ext.refl H ρ) s, h⟩
end

def tE (K : Frag) (cA : Nat → Addr) (W : WX) (F : Calls) (ce : CE) : TE := fun σ H Q => ∃ ρ κ Γ S, StRep K H ρ κ S ∧ RepL K H ρ κ Γ σ ∧
  PostE K cA (fun cv d H' => W cv d σ H') κ H ρ (evE F ce Γ S) fun H' ρ' d _ => ∀ v, RepD K H' ρ' κ d v → Q v H'
def tL (K : Frag) (cA : Nat → Addr) (W : WX) (F : Calls) (cl : CL) : TA := fun σ H Q => ∃ ρ κ Γ S, StRep K H ρ κ S ∧ RepL K H ρ κ Γ σ ∧
  PostE K cA (fun cv d H' => W cv d σ H') κ H ρ (evL F cl Γ S) fun H' ρ' ds _ => ∀ vs, RepDs K H' ρ' κ ds vs → Q vs H'
def tT (K : Frag) (cA : Nat → Addr) (W : WX) (F : Calls) (ce : CE) : TT := fun σ H Q => ∃ ρ κ Γ S, StRep K H ρ κ S ∧ RepL K H ρ κ Γ σ ∧
  PostE K cA (fun cv d H' => W cv d σ H') κ H ρ (evT F ce Γ S) fun H' _ b _ => Q b H'
section
variable {K : Frag} {cA : Nat → Addr} {W : WX} {F : Calls} {κ ρ : List Addr} {σ : St} {H : Hp} {Γ : Loc} {S : Store}
theorem tE.mk {ce : CE} {Q : VK} (s : StRep K H ρ κ S) (l : RepL K H ρ κ Γ σ) (h : PostE K cA (fun cv d H' => W cv d σ H') κ H ρ (evE F ce Γ S) fun H' ρ' d _ => ∀ v, RepD K H' ρ' κ d v → Q v H') : tE K cA W F ce σ H Q := ⟨ρ, κ, Γ, S, s, l, h⟩
/-- an expression first: then the rest, in the state that it leaves -/
theorem tE.then {β : Type} {ce : CE} {Q : VK} {f : D → Store → Res β} {P : Hp → List Addr → β → Store → Prop} (s : StRep K H ρ κ S) (l : RepL K H ρ κ Γ σ)
    (h : PostE K cA (fun cv d H' => W cv d σ H') κ H ρ ((evE F ce Γ S).bind f) P)
    (k : ∀ H1 ρ1 d S1 v, Ext H ρ H1 ρ1 → StRep K H1 ρ1 κ S1 → RepL K H1 ρ1 κ Γ σ → RepD K H1 ρ1 κ d v → PostE K cA (fun cv d H' => W cv d σ H') κ H1 ρ1 (f d S1) P → Q v H1) : tE K cA W F ce σ H Q :=
  tE.mk s l (h.bind.imp fun H1 ρ1 d S1 e s1 q v r => k H1 ρ1 d S1 v e s1 (l.ext e) r q)
theorem tL.then {β : Type} {cl : CL} {Q : List V → Hp → Prop} {f : List D → Store → Res β} {P : Hp → List Addr → β → Store → Prop} (s : StRep K H ρ κ S) (l : RepL K H ρ κ Γ σ)
    (h : PostE K cA (fun cv d H' => W cv d σ H') κ H ρ ((evL F cl Γ S).bind f) P)
    (k : ∀ H1 ρ1 d S1 v, Ext H ρ H1 ρ1 → StRep K H1 ρ1 κ S1 → RepL K H1 ρ1 κ Γ σ → RepDs K H1 ρ1 κ d v → PostE K cA (fun cv d H' => W cv d σ H') κ H1 ρ1 (f d S1) P → Q v H1) : tL K cA W F cl σ H Q :=
  ⟨ρ, κ, Γ, S, s, l, h.bind.imp fun H1 ρ1 d S1 e s1 q v r => k H1 ρ1 d S1 v e s1 (l.ext e) r q⟩
theorem tT.then {β : Type} {ce : CE} {Q : Bool → Hp → Prop} {f : Bool → Store → Res β} {P : Hp → List Addr → β → Store → Prop} (s : StRep K H ρ κ S) (l : RepL K H ρ κ Γ σ)
    (h : PostE K cA (fun cv d H' => W cv d σ H') κ H ρ ((evT F ce Γ S).bind f) P)
    (k : ∀ H1 ρ1 b S1, Ext H ρ H1 ρ1 → StRep K H1 ρ1 κ S1 → RepL K H1 ρ1 κ Γ σ → PostE K cA (fun cv d H' => W cv d σ H') κ H1 ρ1 (f b S1) P → Q b H1) : tT K cA W F ce σ H Q :=
  ⟨ρ, κ, Γ, S, s, l, h.bind.imp fun H1 ρ1 b S1 e s1 q => k H1 ρ1 b S1 e s1 (l.ext e) q⟩
end
theorem PE.weak {X : Cx} {e : Expr} {t t' : TE} (h : PE X e t) (f : ∀ σ H Q, t' σ H Q → t σ H Q) : PE X e t' := ⟨fun pins s σ H Q I q => h.run pins s σ H Q I (f σ H Q q)⟩
theorem PA.weak {X : Cx} {e : List Expr} {t t' : TA} (h : PA X e t) (f : ∀ σ H Q, t' σ H Q → t σ H Q) : PA X e t' := ⟨fun pos pins s σ H Q I q => h.run pos pins s σ H Q I (f σ H Q q)⟩
theorem PT.weak {X : Cx} {e : Expr} {t t' : TT} (h : PT X e t) (f : ∀ σ H Q, t' σ H Q → t σ H Q) : PT X e t' := ⟨fun pins s σ H Q I q => h.run pins s σ H Q I (f σ H Q q)⟩
theorem PW.weak {X : Cx} {e : Expr} {t t' : TT} (h : PW X e t) (f : ∀ σ H Q, t' σ H Q → t σ H Q) : PW X e t' := ⟨fun whole pins s σ H Q I q => h.run whole pins s σ H Q I (f σ H Q q)⟩
theorem PS.weak {X : Cx} {e : Stmt} {t t' : TS} (h : PS X e t) (f : ∀ D σ H, t' D σ H → t D σ H) : PS X e t' := ⟨fun pins s σ H D I q => h.run pins s σ H D I (f D σ H q)⟩
theorem PSs.weak {X : Cx} {e : List Stmt} {t t' : TS} (h : PSs X e t) (f : ∀ D σ H, t' D σ H → t D σ H) : PSs X e t' := ⟨fun pins s σ H D I q => h.run pins s σ H D I (f D σ H q)⟩
end Core
set_option Elab.async false
set_option linter.all false
set_option maxHeartbeats 1000000
/-! Core, part D: the operators keep their word -/
namespace Core
open PySem PySem.W L2 PyProof.Rows
def BOp.op : BOp → Operator
  | .add => .Add
  | .sub => .Sub
  | .mul => .Mult
  | .fdiv => .FloorDiv
  | .mod => .Mod
  | .pow => .Pow
  | .shl => .LShift
section
variable {K : Frag} {H : Hp} {ρ κ : List Addr} {S : Store} {Q : VK}
/-- what comes is plain: it may be a new object -/
abbrev Got (K : Frag) (H : Hp) (ρ κ : List Addr) (S : Store) (r : PyData) (Q : VK) : Prop := ∀ H', Ext H ρ H' ρ → StRep K H' ρ κ S → ∀ v, RepP K H' ρ κ r v → Q v H'
theorem Got.tup {xs : List PyData} {vs : List V} (g : Got K H ρ κ S (.tuple xs) Q) (s : StRep K H ρ κ S) (hz : vs.length ≤ sizeLine) (r : RepPs K H ρ κ xs vs) : ∀ p, H p = none → Q (.ref p) (upd H p (.tup vs)) := fun p hp => by
  obtain ⟨s1, e⟩ := s.new (o := .tup vs) hp
  exact g _ e s1 _ (.tup (.of upd_same) hz (r.ext e))
theorem Got.lst {xs : List PyData} {vs : List V} (g : Got K H ρ κ S (.list xs) Q) (s : StRep K H ρ κ S) (hz : vs.length ≤ sizeLine) (r : RepPs K H ρ κ xs vs) : ∀ p, H p = none → Q (.ref p) (upd H p (.lst vs)) := fun p hp => by
  obtain ⟨s1, e⟩ := s.new (o := .lst vs) hp
  exact g _ e s1 _ (.lst upd_same (s.nofb hp) hz (r.ext e))
theorem Got.same {r : PyData} {v : V} (g : Got K H ρ κ S r Q) (s : StRep K H ρ κ S) (h : RepP K H ρ κ r v) : Q v H := g H (Ext.refl H ρ) s v h
end
def rB (K : Frag) (o : BOp) : R2 := fun x y H Q => ∃ ρ κ S a b r, StRep K H ρ κ S ∧ RepD K H ρ κ a x ∧ RepD K H ρ κ b y ∧ opB S o a b = some r ∧ Got K H ρ κ S r Q
section
variable {X : Cx}
theorem op_fdivG : OpR X (binaryOp .FloorDiv) (rI (fun _ j => j ≠ 0 ∧ j.natAbs.log2 < 9000) fun i j => .int (i.fdiv j)) := opI fun _ _ _ _ _ _ _ hc q => floordiv_int hc.1 q (.inl (PyProof.noPylong_of_log2 hc.2))
theorem mulP_some {x y r : PyData} (h : mulP x y = some r) : ∃ i j, x = .int i ∧ y = .int j ∧ r = .int (i * j) ∧ CMulW i j := by
  unfold mulP at h
  split at h
  · rename_i i j
    split at h
    · rename_i c
      cases h
      exact ⟨i, j, rfl, rfl, rfl, c⟩
    · cases h
  · cases h
theorem op_B : ∀ o : BOp, OpR X (binaryOp o.op) (rB X.K o)
  | .add => by
    intro pins s σ H x y v u Q I rx ry h
    obtain ⟨ρ, κ, S, a, b, r, st, ra, rb, h, g⟩ := h
    simp only [opB, Option.bind_eq_some_iff] at h
    obtain ⟨p, hp, q, hq, h⟩ := h
    have va := pureM_rep st ra hp
    have vb := pureM_rep st rb hq
    unfold addP at h
    split at h
    · cases h
      cases va; cases vb
      exact op_add pins s σ H _ _ v u Q I rx ry ⟨_, _, rfl, rfl, g.same st (.int _)⟩
    · split at h
      · cases h
        cases va; cases vb
        exact op_add_str pins s σ H _ _ v u Q I rx ry ⟨_, _, rfl, rfl, by assumption, g.same st (.str _)⟩
      · cases h
    · split at h
      · rename_i c
        cases h
        cases va with
        | lst h1 n1 r1 =>
          cases vb with
          | lst h2 n2 r2 =>
            rw [← r1.length, ← r2.length] at c
            exact op_cat pins s σ H _ _ v u Q I rx ry ⟨_, _, _, _, rfl, rfl, h1, h2, c, g.lst st (by rw [List.length_append]; exact c) (r1.app r2)⟩
      · cases h
    · split at h
      · rename_i c
        cases h
        cases va with
        | tup h1 n1 r1 =>
          cases vb with
          | tup h2 n2 r2 =>
            rw [← r1.length, ← r2.length] at c
            refine op_catA pins s σ H _ _ v u Q I rx ry ⟨_, _, _, _, rfl, rfl, h1, h2, c, fun e => ?_, fun _ e => ?_, fun _ _ => g.tup st (by rw [List.length_append]; exact c) (r1.app r2)⟩
            · subst e
              cases r1
              exact g.same st (.tup h2 n2 r2)
            · subst e
              cases r2
              rw [List.append_nil] at g
              exact g.same st (.tup h1 n1 r1)
      · cases h
    · cases h
  | .sub => by
    intro pins s σ H x y v u Q I rx ry h
    obtain ⟨ρ, κ, S, a, b, r, st, ra, rb, h, g⟩ := h
    unfold opB at h
    split at h <;> first | (cases h; done) | skip
    all_goals first | (rename_i e; cases e; done) | skip
    cases h
    cases ra with
    | p ra =>
      cases rb with
      | p rb =>
        cases ra; cases rb
        exact op_sub pins s σ H _ _ v u Q I rx ry ⟨_, _, rfl, rfl, g.same st (.int _)⟩
  | .mul => by
    intro pins s σ H x y v u Q I rx ry h
    obtain ⟨ρ, κ, S, a, b, r, st, ra, rb, h, g⟩ := h
    simp only [opB, Option.bind_eq_some_iff] at h
    obtain ⟨p, hp, q, hq, h⟩ := h
    have va := pureM_rep st ra hp
    have vb := pureM_rep st rb hq
    obtain ⟨i, j, rfl, rfl, rfl, c⟩ := mulP_some h
    cases va; cases vb
    exact op_mulW pins s σ H _ _ v u Q I rx ry ⟨_, _, rfl, rfl, c, g.same st (.int _)⟩
  | .fdiv => by
    intro pins s σ H x y v u Q I rx ry h
    obtain ⟨ρ, κ, S, a, b, r, st, ra, rb, h, g⟩ := h
    have q : ∃ i j, a = .p (.int i) ∧ b = .p (.int j) ∧ r = .int (i.fdiv j) ∧ (j ≠ 0 ∧ j.natAbs.log2 < 9000) := by
      unfold opB at h
      split at h <;> first | (cases h; done) | skip
      all_goals first | (rename_i e; cases e; done) | skip
      split at h
      · cases h
        exact ⟨_, _, rfl, rfl, rfl, by assumption⟩
      · cases h
    obtain ⟨i, j, rfl, rfl, rfl, c⟩ := q
    cases ra with
    | p ra =>
      cases rb with
      | p rb =>
        cases ra; cases rb
        exact op_fdivG pins s σ H _ _ v u Q I rx ry ⟨_, _, rfl, rfl, c, g.same st (.int _)⟩
  | .mod => by
    intro pins s σ H x y v u Q I rx ry h
    obtain ⟨ρ, κ, S, a, b, r, st, ra, rb, h, g⟩ := h
    have q : ∃ i j, a = .p (.int i) ∧ b = .p (.int j) ∧ r = .int (i.fmod j) ∧ j ≠ 0 := by
      unfold opB at h
      split at h <;> first | (cases h; done) | skip
      all_goals first | (rename_i e; cases e; done) | skip
      split at h
      · cases h
        exact ⟨_, _, rfl, rfl, rfl, by assumption⟩
      · cases h
    obtain ⟨i, j, rfl, rfl, rfl, c⟩ := q
    cases ra with
    | p ra =>
      cases rb with
      | p rb =>
        cases ra; cases rb
        exact op_modN pins s σ H _ _ v u Q I rx ry ⟨_, _, rfl, rfl, c, g.same st (.int _)⟩
  | .pow => by
    intro pins s σ H x y v u Q I rx ry h
    obtain ⟨ρ, κ, S, a, b, r, st, ra, rb, h, g⟩ := h
    have q : ∃ i j, a = .p (.int i) ∧ b = .p (.int j) ∧ r = .int (i ^ j.toNat) ∧ CPow i j := by
      unfold opB at h
      split at h <;> first | (cases h; done) | skip
      all_goals first | (rename_i e; cases e; done) | skip
      split at h
      · cases h
        exact ⟨_, _, rfl, rfl, rfl, by assumption⟩
      · cases h
    obtain ⟨i, j, rfl, rfl, rfl, c⟩ := q
    cases ra with
    | p ra =>
      cases rb with
      | p rb =>
        cases ra; cases rb
        exact op_pow pins s σ H _ _ v u Q I rx ry ⟨_, _, rfl, rfl, c, g.same st (.int _)⟩
  | .shl => by
    intro pins s σ H x y v u Q I rx ry h
    obtain ⟨ρ, κ, S, a, b, r, st, ra, rb, h, g⟩ := h
    have q : ∃ i j, a = .p (.int i) ∧ b = .p (.int j) ∧ r = .int (i * 2 ^ j.toNat) ∧ CPow i j := by
      unfold opB at h
      split at h <;> first | (cases h; done) | skip
      all_goals first | (rename_i e; cases e; done) | skip
      split at h
      · cases h
        exact ⟨_, _, rfl, rfl, rfl, by assumption⟩
      · cases h
    obtain ⟨i, j, rfl, rfl, rfl, c⟩ := q
    cases ra with
    | p ra =>
      cases rb with
      | p rb =>
        cases ra; cases rb
        exact op_shl pins s σ H _ _ v u Q I rx ry ⟨_, _, rfl, rfl, c, g.same st (.int _)⟩

/-! ### comparisons -/
def COp.op : COp → CmpOp
  | .eq => .Eq
  | .ne => .NotEq
  | .lt => .Lt
  | .le => .LtE
  | .gt => .Gt
  | .ge => .GtE
  | .isin => .In
  | .nin => .NotIn
def rC (K : Frag) (o : COp) : R2 := fun x y H Q => ∃ ρ κ S a b k, StRep K H ρ κ S ∧ RepD K H ρ κ a x ∧ RepD K H ρ κ b y ∧ opC S o a b = some k ∧ Q (.bl k) H
theorem fits_shaped {x : PyData} (h : fits x = true) : SeqAt.shaped x = true := h
theorem eqP_some {x y : PyData} {k : Bool} (h : eqP x y = some k) : fits x = true ∧ fits y = true ∧ k = PyData.eqv x y := by
  unfold eqP at h
  split at h
  · rename_i c
    rw [Bool.and_eq_true] at c
    cases h
    exact ⟨c.1, c.2, rfl⟩
  · cases h
/-- x in t, t a tuple -/
theorem op_inT (hu : X.A.units + 65 < cLine) : OpR X (compareOp .In) (fun x y H Q => ∃ d ds, Dp X.K H x d ∧ Dp X.K H y (.tuple ds) ∧ SeqAt.shaped d = true ∧ SeqAt.shaped (.tuple ds) = true ∧ Q (.bl (ds.any fun z => PyData.eqv z d)) H) := by
  intro pins s σ H x y v u Q I rx ry h
  obtain ⟨d, ds, hd, he, sd, se, q⟩ := h
  obtain ⟨as, r1⟩ := Dp.reads I d x v hd rx
  obtain ⟨bs, r2⟩ := Dp.reads I (.tuple ds) y u he ry
  exact SeqAt.in_tuple_reads r2 r1 (SeqAt.canLay_of_shaped se) (SeqAt.canLay_of_shaped sd) (room_in_shaped sd hu) ⟨.bl _, H, I, rfl, q⟩
theorem op_notInT (hu : X.A.units + 65 < cLine) : OpR X (compareOp .NotIn) (fun x y H Q => ∃ d ds, Dp X.K H x d ∧ Dp X.K H y (.tuple ds) ∧ SeqAt.shaped d = true ∧ SeqAt.shaped (.tuple ds) = true ∧ Q (.bl (!ds.any fun z => PyData.eqv z d)) H) := by
  intro pins s σ H x y v u Q I rx ry h
  obtain ⟨d, ds, hd, he, sd, se, q⟩ := h
  obtain ⟨as, r1⟩ := Dp.reads I d x v hd rx
  obtain ⟨bs, r2⟩ := Dp.reads I (.tuple ds) y u he ry
  exact SeqAt.notIn_tuple_reads r2 r1 (SeqAt.canLay_of_shaped se) (SeqAt.canLay_of_shaped sd) (room_in_shaped sd hu) ⟨.bl _, H, I, rfl, q⟩
theorem inP_some {x y : PyData} {k : Bool} (h : inP x y = some k) :
    (∃ ys, y = .list ys ∧ fits x = true ∧ fits y = true ∧ k = ys.any fun z => PyData.eqv z x) ∨ (∃ ys, y = .tuple ys ∧ fits x = true ∧ fits y = true ∧ k = ys.any fun z => PyData.eqv z x) ∨
    (∃ z w, y = .str z ∧ x = .str w ∧ k = !(Builtin.Str.occurrences z w 0 z.length 1).isEmpty) := by
  unfold inP at h
  split at h
  · split at h
    · rename_i c
      rw [Bool.and_eq_true] at c
      cases h
      exact .inl ⟨_, rfl, c.1, c.2, rfl⟩
    · cases h
  · split at h
    · rename_i c
      rw [Bool.and_eq_true] at c
      cases h
      exact .inr (.inl ⟨_, rfl, c.1, c.2, rfl⟩)
    · cases h
  · split at h
    · cases h
      exact .inr (.inr ⟨_, _, rfl, rfl, rfl⟩)
    · cases h
  · cases h
theorem ltP_some {x y : PyData} {k : Bool} (h : ltP x y = some k) : (∃ i j, x = .int i ∧ y = .int j ∧ k = decide (i < j)) ∨ (∃ i j, x = .str i ∧ y = .str j ∧ k = decide (i.cps.toList < j.cps.toList)) := by
  unfold ltP at h
  split at h
  · cases h; exact .inl ⟨_, _, rfl, rfl, rfl⟩
  · cases h; exact .inr ⟨_, _, rfl, rfl, rfl⟩
  · cases h
theorem opC_some {S : Store} {o : COp} {a b : D} {k : Bool} (h : opC S o a b = some k) : ∃ x y, pureD S a = some x ∧ pureD S b = some y ∧ cmpP o x y = some k := by
  simp only [opC, Option.bind_eq_some_iff] at h
  obtain ⟨x, hx, y, hy, h⟩ := h
  exact ⟨x, y, hx, hy, h⟩
theorem op_C (hu : X.A.units + 65 < cLine) (o : COp) : OpR X (compareOp o.op) (rC X.K o) := by
  intro pins s σ H p q v u Q I rx ry h
  obtain ⟨ρ, κ, S, a, b, k, st, ra, rb, h, g⟩ := h
  obtain ⟨x, y, hx, hy, h⟩ := opC_some h
  have va := pureD_rep st ra hx
  have vb := pureD_rep st rb hy
  unfold cmpP at h
  cases o with
  | eq =>
    obtain ⟨f1, f2, rfl⟩ := eqP_some h
    exact op_eqD (by omega) pins s σ H _ _ v u Q I rx ry ⟨_, _, va.dp, vb.dp, f1, f2, g⟩
  | ne =>
    simp only [Option.map_eq_some_iff] at h
    obtain ⟨k', h2, rfl⟩ := h
    obtain ⟨f1, f2, rfl⟩ := eqP_some h2
    exact op_neD (by omega) pins s σ H _ _ v u Q I rx ry ⟨_, _, va.dp, vb.dp, f1, f2, g⟩
  | lt =>
    rcases ltP_some h with ⟨i, j, rfl, rfl, rfl⟩ | ⟨i, j, rfl, rfl, rfl⟩
    · cases va; cases vb
      exact op_lt pins s σ H _ _ v u Q I rx ry ⟨_, _, rfl, rfl, g⟩
    · cases va; cases vb
      exact op_lt_str pins s σ H _ _ v u Q I rx ry ⟨_, _, rfl, rfl, g⟩
  | le =>
    simp only at h
    unfold leI at h
    split at h
    · cases h
      cases va; cases vb
      exact op_le pins s σ H _ _ v u Q I rx ry ⟨_, _, rfl, rfl, g⟩
    · cases h
  | gt =>
    simp only at h
    split at h
    · cases h
      cases va; cases vb
      exact op_gt pins s σ H _ _ v u Q I rx ry ⟨_, _, rfl, rfl, g⟩
    · cases h
  | ge =>
    simp only at h
    split at h
    · cases h
      cases va; cases vb
      exact op_ge pins s σ H _ _ v u Q I rx ry ⟨_, _, rfl, rfl, g⟩
    · cases h
  | isin =>
    rcases inP_some h with ⟨ys, rfl, f1, f2, rfl⟩ | ⟨ys, rfl, f1, f2, rfl⟩ | ⟨z, w, rfl, rfl, rfl⟩
    · exact op_inD hu pins s σ H _ _ v u Q I rx ry ⟨_, _, va.dp, vb.dp, f1, f2, g⟩
    · exact op_inT hu pins s σ H _ _ v u Q I rx ry ⟨_, _, va.dp, vb.dp, f1, f2, g⟩
    · cases va; cases vb
      exact op_in_str pins s σ H _ _ v u Q I rx ry ⟨_, _, rfl, rfl, g⟩
  | nin =>
    simp only [Option.map_eq_some_iff] at h
    obtain ⟨k', h2, rfl⟩ := h
    rcases inP_some h2 with ⟨ys, rfl, f1, f2, rfl⟩ | ⟨ys, rfl, f1, f2, rfl⟩ | ⟨z, w, rfl, rfl, rfl⟩
    · exact op_notInD hu pins s σ H _ _ v u Q I rx ry ⟨_, _, va.dp, vb.dp, f1, f2, g⟩
    · exact op_notInT hu pins s σ H _ _ v u Q I rx ry ⟨_, _, va.dp, vb.dp, f1, f2, g⟩
    · cases va; cases vb
      exact op_notIn_str pins s σ H _ _ v u Q I rx ry ⟨_, _, rfl, rfl, g⟩
end
end Core
set_option Elab.async false
set_option linter.all false
set_option maxHeartbeats 1000000
/-! Core, part E: built-in functions, items, parts -/
namespace Core
open PySem PySem.W L2 PyProof.Rows
def BF.val : BF → Value
  | .len => .builtin "len"
  | .abs => .builtin "abs"
  | .max => .builtin "max"
  | .min => .builtin "min"
  | .int => .type "int"
  | .tuple => .type "tuple"
  | .list => .type "list"
  | .all => .builtin "all"
  | .any => .builtin "any"
  | .gcd => .builtin "math.gcd"
def rF (K : Frag) (f : BF) : List V → Hp → VK → Prop := fun vs H Q => ∃ ρ κ S ds r, StRep K H ρ κ S ∧ RepDs K H ρ κ ds vs ∧ fnB S f ds = some r ∧ Got K H ρ κ S r Q
section
variable {K : Frag} {H : Hp} {ρ κ : List Addr} {S : Store} {Q : VK}
theorem bools_rep : ∀ {xs : List PyData} {vs : List V} {bs : List Bool}, RepPs K H ρ κ xs vs → bools xs = some bs → vs = bs.map V.bl
  | [], _, _, h, e => by
    simp only [bools, Option.some.injEq] at e
    subst e
    cases h; rfl
  | .bool b :: r, _, _, h, e => by
    simp only [bools, Option.map_eq_some_iff] at e
    obtain ⟨bs, e, rfl⟩ := e
    cases h with
    | cons a t =>
      cases a
      rw [bools_rep t e]; rfl
  | .none :: _, _, _, _, e => by simp [bools] at e
  | .int _ :: _, _, _, _, e => by simp [bools] at e
  | .str _ :: _, _, _, _, e => by simp [bools] at e
  | .list _ :: _, _, _, _, e => by simp [bools] at e
  | .tuple _ :: _, _, _, _, e => by simp [bools] at e
  | .dict _ :: _, _, _, _, e => by simp [bools] at e
theorem one_of {ds : List D} {vs : List V} {d : D} (r : RepDs K H ρ κ [d] vs) : ∃ v, vs = [v] ∧ RepD K H ρ κ d v := by
  cases r with
  | cons a b => cases b; exact ⟨_, rfl, a⟩
theorem two_of {vs : List V} {d e : D} (r : RepDs K H ρ κ [d, e] vs) : ∃ v w, vs = [v, w] ∧ RepD K H ρ κ d v ∧ RepD K H ρ κ e w := by
  cases r with
  | cons a b =>
    cases b with
    | cons c b => cases b; exact ⟨_, _, rfl, a, c⟩
theorem RepD.int {i : Int} {v : V} (r : RepD K H ρ κ (.p (.int i)) v) : v = .int i := by
  cases r with
  | p r => cases r; rfl
theorem RepD.bool {i : Bool} {v : V} (r : RepD K H ρ κ (.p (.bool i)) v) : v = .bl i := by
  cases r with
  | p r => cases r; rfl
theorem RepD.str {i : Str} {v : V} (r : RepD K H ρ κ (.p (.str i)) v) : v = .str i := by
  cases r with
  | p r => cases r; rfl
end
section
variable {X : Cx}
theorem call_F (hc : X.calm = true) : ∀ f : BF, CallR X f.val (rF X.K f)
  | .len => by
    intro pins s σ H vs us Q I rv h
    obtain ⟨ρ, κ, S, ds, r, st, rd, h, g⟩ := h
    match ds, h with
    | [d], h =>
      obtain ⟨v, rfl, re⟩ := one_of (ds := []) rd
      have key : (∃ x, d = .p (.str x) ∧ x.length ≤ sizeLine ∧ r = .int x.length) ∨ ∃ xs, elems S d = some xs ∧ r = .int xs.length := by
        have gen : ∀ z, fnB S .len [d] = (elems S d).map (fun xs => PyData.int xs.length) → z = 0 → ∃ xs, elems S d = some xs ∧ r = .int xs.length := fun z e _ => by
          rw [e] at h
          simp only [Option.map_eq_some_iff] at h
          obtain ⟨xs, h1, h2⟩ := h
          exact ⟨xs, h1, h2.symm⟩
        cases d with
        | p y =>
          cases y with
          | str x =>
            simp only [fnB] at h
            split at h
            · rename_i c
              cases h
              exact .inl ⟨x, rfl, c, rfl⟩
            · cases h
          | none => exact .inr (gen 0 rfl rfl)
          | bool _ => exact .inr (gen 0 rfl rfl)
          | int _ => exact .inr (gen 0 rfl rfl)
          | list _ => exact .inr (gen 0 rfl rfl)
          | tuple _ => exact .inr (gen 0 rfl rfl)
          | dict _ => exact .inr (gen 0 rfl rfl)
        | ro y => exact .inr (gen 0 rfl rfl)
        | loc n => exact .inr (gen 0 rfl rfl)
      rcases key with ⟨x, rfl, c, rfl⟩ | ⟨xs, he, rfl⟩
      · have e := re.str
        subst e
        exact call_len_str pins s σ H _ us Q I rv ⟨_, rfl, c, g.same st (.int _)⟩
      · cases elems_rep st re he with
        | lst a n b => exact call_len_seq pins s σ H _ us Q I rv ⟨_, _, rfl, .inl a, by rw [← Paired.len b]; exact g.same st (.int _)⟩
        | tup a n b => exact call_len_seq pins s σ H _ us Q I rv ⟨_, _, rfl, .inr a, by rw [← Paired.len b]; exact g.same st (.int _)⟩
    | [], h => cases h
    | _ :: _ :: _, h => cases h
  | .abs => by
    intro pins s σ H vs us Q I rv h
    obtain ⟨ρ, κ, S, ds, r, st, rd, h, g⟩ := h
    unfold fnB at h
    split at h <;> first | (cases h; done) | skip
    all_goals first | (rename_i e; cases e; done) | skip
    cases h
    obtain ⟨v, rfl, re⟩ := one_of (ds := []) rd
    have e := re.int
    subst e
    exact call_abs pins s σ H _ us Q I rv ⟨_, rfl, g.same st (.int _)⟩
  | .max => by
    intro pins s σ H vs us Q I rv h
    obtain ⟨ρ, κ, S, ds, r, st, rd, h, g⟩ := h
    unfold fnB at h
    split at h <;> first | (cases h; done) | skip
    all_goals first | (rename_i e; cases e; done) | skip
    cases h
    obtain ⟨v, w, rfl, r1, r2⟩ := two_of rd
    have e := r1.int
    have e2 := r2.int
    subst e e2
    exact call_max2 hc pins s σ H _ us Q I rv ⟨_, _, rfl, g.same st (.int _)⟩
  | .min => by
    intro pins s σ H vs us Q I rv h
    obtain ⟨ρ, κ, S, ds, r, st, rd, h, g⟩ := h
    unfold fnB at h
    split at h <;> first | (cases h; done) | skip
    all_goals first | (rename_i e; cases e; done) | skip
    cases h
    obtain ⟨v, w, rfl, r1, r2⟩ := two_of rd
    have e := r1.int
    have e2 := r2.int
    subst e e2
    exact call_min2 hc pins s σ H _ us Q I rv ⟨_, _, rfl, g.same st (.int _)⟩
  | .int => by
    intro pins s σ H vs us Q I rv h
    obtain ⟨ρ, κ, S, ds, r, st, rd, h, g⟩ := h
    have key : (∃ i, ds = [.p (.int i)] ∧ r = .int i) ∨ ∃ b, ds = [.p (.bool b)] ∧ r = .int (if b then 1 else 0) := by
      unfold fnB at h
      split at h <;> first | (cases h; done) | skip
      all_goals first | (rename_i e; cases e; done) | skip
      · cases h; exact .inl ⟨_, rfl, rfl⟩
      · cases h; exact .inr ⟨_, rfl, rfl⟩
    rcases key with ⟨i, rfl, rfl⟩ | ⟨i, rfl, rfl⟩
    · obtain ⟨v, rfl, re⟩ := one_of (ds := []) rd
      have e := re.int
      subst e
      exact call_int1 pins s σ H _ us Q I rv (.inl ⟨_, rfl, g.same st (.int _)⟩)
    · obtain ⟨v, rfl, re⟩ := one_of (ds := []) rd
      have e := re.bool
      subst e
      exact call_int1 pins s σ H _ us Q I rv (.inr ⟨_, rfl, g.same st (.int _)⟩)
  | .tuple => by
    intro pins s σ H vs us Q I rv h
    obtain ⟨ρ, κ, S, ds, r, st, rd, h, g⟩ := h
    have key : ∃ d xs, ds = [d] ∧ r = .tuple xs ∧ (pureD S d = some (.list xs) ∨ pureD S d = some (.tuple xs)) := by
      unfold fnB at h
      split at h <;> first | (cases h; done) | skip
      all_goals first | (rename_i e; cases e; done) | skip
      split at h
      · cases h; exact ⟨_, _, rfl, rfl, .inl (by assumption)⟩
      · cases h; exact ⟨_, _, rfl, rfl, .inr (by assumption)⟩
      · cases h
    obtain ⟨d, xs, rfl, rfl, z⟩ := key
    obtain ⟨v, rfl, re⟩ := one_of (ds := []) rd
    rcases z with z | z
    · cases pureD_rep st re z with
      | lst a n b => exact call_tuple_of pins s σ H _ us Q I rv ⟨_, _, rfl, .inl ⟨a, g.tup st n b⟩⟩
    · cases pureD_rep st re z with
      | tup a n b => exact call_tuple_of pins s σ H _ us Q I rv ⟨_, _, rfl, .inr ⟨a, g.same st (.tup a n b)⟩⟩
  | .list => by
    intro pins s σ H vs us Q I rv h
    obtain ⟨ρ, κ, S, ds, r, st, rd, h, g⟩ := h
    have key : ∃ d xs, ds = [d] ∧ r = .list xs ∧ (pureD S d = some (.list xs) ∨ pureD S d = some (.tuple xs)) := by
      unfold fnB at h
      split at h <;> first | (cases h; done) | skip
      all_goals first | (rename_i e; cases e; done) | skip
      split at h
      · cases h; exact ⟨_, _, rfl, rfl, .inl (by assumption)⟩
      · cases h; exact ⟨_, _, rfl, rfl, .inr (by assumption)⟩
      · cases h
    obtain ⟨d, xs, rfl, rfl, z⟩ := key
    obtain ⟨v, rfl, re⟩ := one_of (ds := []) rd
    rcases z with z | z
    · cases pureD_rep st re z with
      | lst a n b => exact call_list_of pins s σ H _ us Q I rv ⟨_, _, rfl, .inl a, g.lst st n b⟩
    · cases pureD_rep st re z with
      | tup a n b => exact call_list_of pins s σ H _ us Q I rv ⟨_, _, rfl, .inr a, g.lst st n b⟩
  | .all => by
    intro pins s σ H vs us Q I rv h
    obtain ⟨ρ, κ, S, ds, r, st, rd, h, g⟩ := h
    have key : ∃ d xs bs, ds = [d] ∧ r = .bool (bs.all id) ∧ pureD S d = some (.list xs) ∧ bools xs = some bs := by
      unfold fnB at h
      split at h <;> first | (cases h; done) | skip
      all_goals first | (rename_i e; cases e; done) | skip
      split at h
      · simp only [Option.map_eq_some_iff] at h
        obtain ⟨bs, h1, rfl⟩ := h
        exact ⟨_, _, bs, rfl, rfl, by assumption, h1⟩
      · cases h
    obtain ⟨d, xs, bs, rfl, rfl, z, hb⟩ := key
    obtain ⟨v, rfl, re⟩ := one_of (ds := []) rd
    cases pureD_rep st re z with
    | lst a n b =>
      rw [bools_rep b hb] at a
      exact cr_all hc pins s σ H _ us Q I rv ⟨_, _, rfl, a, g.same st (.bool _)⟩
  | .any => by
    intro pins s σ H vs us Q I rv h
    obtain ⟨ρ, κ, S, ds, r, st, rd, h, g⟩ := h
    have key : ∃ d xs bs, ds = [d] ∧ r = .bool (bs.any id) ∧ pureD S d = some (.list xs) ∧ bools xs = some bs := by
      unfold fnB at h
      split at h <;> first | (cases h; done) | skip
      all_goals first | (rename_i e; cases e; done) | skip
      split at h
      · simp only [Option.map_eq_some_iff] at h
        obtain ⟨bs, h1, rfl⟩ := h
        exact ⟨_, _, bs, rfl, rfl, by assumption, h1⟩
      · cases h
    obtain ⟨d, xs, bs, rfl, rfl, z, hb⟩ := key
    obtain ⟨v, rfl, re⟩ := one_of (ds := []) rd
    cases pureD_rep st re z with
    | lst a n b =>
      rw [bools_rep b hb] at a
      exact cr_any hc pins s σ H _ us Q I rv ⟨_, _, rfl, a, g.same st (.bool _)⟩
  | .gcd => by
    intro pins s σ H vs us Q I rv h
    obtain ⟨ρ, κ, S, ds, r, st, rd, h, g⟩ := h
    unfold fnB at h
    split at h <;> first | (cases h; done) | skip
    all_goals first | (rename_i e; cases e; done) | skip
    cases h
    obtain ⟨v, w, rfl, r1, r2⟩ := two_of rd
    have e := r1.int
    have e2 := r2.int
    subst e e2
    exact cr_gcd pins s σ H _ us Q I rv ⟨_, _, rfl, g.same st (.int _)⟩

/-! ### an item -/
def rIdx (K : Frag) : R2 := fun x y H Q => ∃ ρ κ S a b d, StRep K H ρ κ S ∧ RepD K H ρ κ a x ∧ RepD K H ρ κ b y ∧ idxD S a b = some d ∧ ∀ v, RepD K H ρ κ d v → Q v H
theorem idxD_some {S : Store} {a i d : D} (h : idxD S a i = some d) : ∃ k, i = .p (.int k) ∧ ((∃ x c, a = .p (.str x) ∧ x.length ≤ sizeLine ∧ atI x.cps.toList k = some c ∧ d = .p (.str ⟨#[c]⟩)) ∨ ∃ xs, elems S a = some xs ∧ atI xs k = some d) := by
  unfold idxD at h
  split at h
  · rename_i k
    refine ⟨k, rfl, ?_⟩
    split at h
    · rename_i x
      split at h
      · rename_i c
        simp only [Option.map_eq_some_iff] at h
        obtain ⟨c', h1, rfl⟩ := h
        exact .inl ⟨x, c', rfl, c, h1, rfl⟩
      · cases h
    · simp only [Option.bind_eq_some_iff] at h
      obtain ⟨xs, h1, h2⟩ := h
      exact .inr ⟨xs, h1, h2⟩
  · cases h
theorem atI_rep {α β : Type} {F : α → β → Prop} {xs : List α} {ys : List β} (p : Paired F xs ys) {k : Int} {x : α} (h : atI xs k = some x) : ∃ y, atI ys k = some y ∧ F x y := by
  unfold atI at h ⊢
  rw [← Paired.len p]
  simp only [Option.bind_eq_some_iff] at h ⊢
  obtain ⟨j, h1, h2⟩ := h
  obtain ⟨y, h3, h4⟩ := Paired.get' p h2
  exact ⟨y, ⟨j, h1, h3⟩, h4⟩
theorem ix_D : IxR X (rIdx X.K) := by
  intro value slice pins s σ H x y v u Q I rx ry h hs
  obtain ⟨ρ, κ, S, a, b, d, st, ra, rb, h, g⟩ := h
  obtain ⟨k, rfl, z⟩ := idxD_some h
  have e := rb.int
  subst e
  rcases z with ⟨z, c, rfl, hl, hc, rfl⟩ | ⟨xs, he, hk⟩
  · have e := ra.str
    subst e
    exact ix_str value slice pins s σ H _ _ v u Q I rx ry ⟨_, _, _, rfl, rfl, hl, hc, g _ (.p (.str _))⟩ hs
  · cases elems_rep st ra he with
    | lst a n b =>
      obtain ⟨w, h1, h2⟩ := atI_rep b hk
      exact ix_list value slice pins s σ H _ _ v u Q I rx ry ⟨_, _, _, _, rfl, rfl, a, h1, g _ h2⟩ hs
    | tup a n b =>
      obtain ⟨w, h1, h2⟩ := atI_rep b hk
      exact ix_tup value slice pins s σ H _ _ v u Q I rx ry ⟨_, _, _, _, rfl, rfl, a, h1, g _ h2⟩ hs

/-! ### a part -/
def rSlc (K : Frag) : V → Option Int → Option Int → Hp → VK → Prop := fun x lo hi H Q => ∃ ρ κ S a r, StRep K H ρ κ S ∧ RepD K H ρ κ a x ∧ slcD S a lo hi = some r ∧ Got K H ρ κ S r Q
theorem cut_rep {K : Frag} {H : Hp} {ρ κ : List Addr} {xs : List PyData} {vs : List V} (lo hi : Option Int) (r : RepPs K H ρ κ xs vs) : RepPs K H ρ κ (cutL xs lo hi) (cutV vs lo hi) := by
  unfold cutL cutV
  rw [r.length]
  exact (r.dr _).tk _
theorem sl_D : SlR X (rSlc X.K) := by
  intro pins s σ H x v vl vu lo hi sl Q I rx hs pl pu h
  obtain ⟨ρ, κ, S, a, r, st, ra, h, g⟩ := h
  unfold slcD at h
  split at h
  · rename_i xs hx
    cases h
    cases pureD_rep st ra hx with
    | lst a n b => exact sl_list pins s σ H _ v vl vu lo hi sl Q I rx hs pl pu ⟨_, _, rfl, a, g.lst st (Nat.le_trans (cutV_length _ _ _) n) (cut_rep lo hi b)⟩
  · rename_i xs hx
    cases h
    cases pureD_rep st ra hx with
    | tup a n b =>
      refine sl_tupA pins s σ H _ v vl vu lo hi sl Q I rx hs pl pu ⟨_, _, rfl, a, fun ⟨h1, h2⟩ => ?_, fun _ => g.tup st (Nat.le_trans (cutV_length _ _ _) n) (cut_rep lo hi b)⟩
      have e := b.length
      have q : cutL xs lo hi = xs := by
        unfold cutL
        rw [← e, h1, h2, List.drop_zero, Nat.sub_zero, e, List.take_length]
      rw [q] at g
      exact g.same st (.tup a n b)
  · split at h
    · rename_i x hx c
      cases h
      cases pureD_rep st ra hx
      exact sl_str pins s σ H _ v vl vu lo hi sl Q I rx hs pl pu ⟨_, rfl, c, g.same st (.str _)⟩
    · cases h
  · cases h
end

/-! ### isinstance -/
def Ty.name : Ty → String
  | .int => "int"
  | .bool => "bool"
  | .str => "str"
  | .tuple => "tuple"
  | .list => "list"
  | .dict => "dict"
/-- a value's own type -/
def tyD : D → Option String
  | .p .none => some "NoneType"
  | .p (.bool _) => some "bool"
  | .p (.int _) => some "int"
  | .p (.str _) => some "str"
  | .p (.list _) => some "list"
  | .p (.tuple _) => some "tuple"
  | .p (.dict _) => none
  | .ro _ => some "list"
  | .loc _ => some "list"
theorem tyX_list {K : Frag} {H : Hp} {a : Addr} {vs : List V} (h : SqL K H a vs) : TyX K H (.ref a) (.type "list") := by
  rcases h with (h | ⟨o, h⟩) | ⟨o, its, n, h, c, _⟩
  · exact .base (.lst h)
  · exact .base (.frz h)
  · exact .kList h c
theorem tyX_tup {K : Frag} {H : Hp} {a : Addr} {vs : List V} (h : SqT K H a vs) : TyX K H (.ref a) (.type "tuple") := by
  rcases h with (h | ⟨o, h⟩) | ⟨o, its, n, h, c, _⟩
  · exact .base (.tup h)
  · exact .fTuple h
  · exact .kTuple h c
theorem tyX_of {K : Frag} {H : Hp} {ρ κ : List Addr} {S : Store} (s : StRep K H ρ κ S) {d : D} {v : V} (r : RepD K H ρ κ d v) (hn : ∀ n, d = .loc n → ∃ c, S[n]? = some c) : ∃ T, tyD d = some T ∧ TyX K H v (.type T) := by
  cases r with
  | p r =>
    cases r with
    | nn => exact ⟨_, rfl, .base .non⟩
    | bool b => exact ⟨_, rfl, .base (.bl b)⟩
    | int b => exact ⟨_, rfl, .base (.int b)⟩
    | str b => exact ⟨_, rfl, .base (.str b)⟩
    | tup h _ _ => exact ⟨_, rfl, tyX_tup h⟩
    | lst h _ _ _ => exact ⟨_, rfl, .base (.lst h)⟩
  | ro h _ _ => exact ⟨_, rfl, tyX_list h.sq⟩
  | loc e =>
    obtain ⟨c, hc⟩ := hn _ rfl
    cases c with
    | lst ds =>
      obtain ⟨vs, w, _⟩ := s.lst e hc
      exact ⟨_, rfl, .base (.lst w)⟩
theorem loc_there {K : Frag} {H : Hp} {ρ κ : List Addr} {S : Store} (s : StRep K H ρ κ S) {d : D} {v : V} (r : RepD K H ρ κ d v) : ∀ n, d = .loc n → ∃ c, S[n]? = some c := fun n e => by
  subst e
  cases r with
  | loc e =>
    obtain ⟨z, _⟩ := List.getElem?_eq_some_iff.mp e
    have : n < S.length := by rw [← s.len]; exact z
    exact ⟨_, List.getElem?_eq_getElem this⟩
theorem kit_all {d : D} {T : String} {S : Store} (h : tyD d = some T) : ∀ t : Ty, kitB T t.name = some (isTy1 S d t) := by
  intro t
  cases d with
  | p x =>
    cases x <;> simp only [tyD, Option.some.injEq, reduceCtorEq] at h <;> subst h <;> cases t <;> (show kitB _ _ = some _; first | decide +kernel | (simp only [isTy1]; decide +kernel))
  | ro x =>
    simp only [tyD, Option.some.injEq] at h
    subst h
    cases t <;> (show kitB _ _ = some _; first | decide +kernel | (simp only [isTy1]; decide +kernel))
  | loc n =>
    simp only [tyD, Option.some.injEq] at h
    subst h
    cases t <;> (show kitB _ _ = some _; first | decide +kernel | (simp only [isTy1]; decide +kernel))
theorem kitAny_all {K : Frag} {d : D} {T : String} {S : Store} (h : tyD d = some T) : ∀ ts : List Ty, PySem.W.kitAny K (.type T) (ts.map fun t => .type t.name) = some (ts.any (isTy1 S d))
  | [] => rfl
  | t :: ts => by
    rw [List.map_cons, List.any_cons]
    refine kitAny_cons (kit_ty (kit_all (S := S) h t)) (fun e => ?_) fun e => ?_
    · rw [e, Bool.false_or]; exact kitAny_all h ts
    · rw [e, Bool.true_or]
end Core
set_option Elab.async false
set_option linter.all false
set_option maxHeartbeats 1000000
/-! Core, part F: from the program's text to the core language, each step with its proof: expressions -/
namespace Core
open PySem PySem.W L2 PyProof.Rows
/-- the built-in names that the core language knows -/
def bltNames : List Str := ["len", "abs", "max", "min", "int", "tuple", "list", "all", "any", "range", "zip", "enumerate", "isinstance", "str", "bool", "dict"]
abbrev lev (n : Nat) : Nat := n + 4
def spF (K : Frag) (cA : Nat → Addr) (F : List D → Store → Res D) : Sp := fun vs H Q E => ∃ ρ κ S ds, StRep K H ρ κ S ∧ RepDs K H ρ κ ds vs ∧ PostE K cA E κ H ρ (F ds S) fun H' ρ' d _ => ∀ v, RepD K H' ρ' κ d v → Q v H'
/-- what is static: the defs by name, the module's constants, whether gcd is there -/
structure Law where
  fns : List Fn
  names : List Str
  consts : List (Str × PyData)
  gcd : Bool
  kws : List (Nat × Nat × List Str × List Nat)
/-- the parameters' values, out of those by place and those by name -/
def permG {α : Type} (perm : List Nat) (us : List α) : List α := perm.filterMap fun i => us[i]?
structure Ctx (L : Law) (cA : Nat → Addr) (n : Nat) (X : Cx) (W : WX) : Prop where
  calm : X.calm = true
  nd : X.N.Nodup
  room : Room (lev n) X.A
  tk : Takes X W
  blt : ∀ x ∈ bltNames, X.mg x = none
  gcd : L.gcd = true → X.mg "gcd" = some (.builtin "math.gcd")
  con : ∀ x d, (x, d) ∈ L.consts → ∃ u v, X.mg x = some u ∧ RelV v u ∧ ∀ H ρ κ, RepP X.K H ρ κ d v
  fn : ∀ i x, L.names[i]? = some x → ∃ f fd ps, X.mg x = some (.ref f) ∧ PySem.W.keepIn X.K (.ref f) = true ∧ Binds X.K fd ps [] ∧
    (∀ np ks perm, (i, np, ks, perm) ∈ L.kws → ∀ (s : Shared) (us ws : List Value), X.K.In s.heap → us.length = np → ws.length = ks.length → BindsTo s fd ⟨us, ks.zip ws⟩ (ps.zip (permG perm (us ++ ws)))) ∧
    FnOk X.prog X.w X.K X.mg X.base (L2.CX X.prog X.w) (lev n) f fd ps (spF X.K cA (callN L.fns n i))
section
variable (L : Law) (cA : Nat → Addr) (sc : Scope) (N : List Str)
structure CertE (e : Expr) where
  ce : CE
  ok : ∀ (n : Nat) (X : Cx) (W : WX), Ctx L cA n X W → X.env.scope = sc → X.N = N → PE X e (tE X.K cA W (callN L.fns n) ce)
structure CertL (es : List Expr) where
  cl : CL
  ok : ∀ (n : Nat) (X : Cx) (W : WX), Ctx L cA n X W → X.env.scope = sc → X.N = N → PA X es (tL X.K cA W (callN L.fns n) cl)
structure CertT (e : Expr) where
  ce : CE
  ok : ∀ (n : Nat) (X : Cx) (W : WX), Ctx L cA n X W → X.env.scope = sc → X.N = N → PT X e (tT X.K cA W (callN L.fns n) ce)
end
section
variable {L : Law} {cA : Nat → Addr} {sc : Scope} {N : List Str}
theorem room65 {n : Nat} {X : Cx} {W : WX} (c : Ctx L cA n X W) : X.A.units + 65 < cLine := by
  have := c.room.un
  omega

/-! ### constants and names -/
theorem pe_con_of {X : Cx} {W : WX} {F : Calls} {e : Expr} {x : PyData} {v : V} (h : PE X e (tC v)) (r : ∀ H ρ κ, RepP X.K H ρ κ x v) : PE X e (tE X.K cA W F (.con x)) :=
  PE.weak h fun σ H Q ⟨ρ, κ, Γ, S, s, l, q⟩ => by
    simp only [evE] at q
    exact q H ρ (Ext.refl H ρ) s v (.p (r H ρ κ))
def certConst : (c : Const) → (j : Nat) → (pos : Pos) → Option (CertE L cA sc N (.Constant c j pos))
  | .none, _, _ => some ⟨.con .none, fun _ _ _ _ _ _ => pe_con_of pe_non fun _ _ _ => .nn⟩
  | .bool b, _, _ => some ⟨.con (.bool b), fun _ _ _ _ _ _ => pe_con_of pe_bl fun _ _ _ => .bool b⟩
  | .int i, _, _ => some ⟨.con (.int i), fun _ _ _ _ _ _ => pe_con_of pe_int fun _ _ _ => .int i⟩
  | .str x, _, _ => some ⟨.con (.str x), fun _ _ _ _ _ _ => pe_con_of pe_str fun _ _ _ => .str x⟩
  | _, _, _ => none
/-- a name that is the def's own -/
def isVis (sc : Scope) (x : Str) : Bool := match sc.names.lookup x with
  | some .local => true
  | some .cell => true
  | some .free => true
  | _ => false
theorem isVis_ok {sc : Scope} {x : Str} (h : isVis sc x = true) : Vis sc x := by
  unfold isVis at h
  split at h <;> first | (cases h; done) | skip
  · exact .inl (by assumption)
  · exact .inr (.inl (by assumption))
  · exact .inr (.inr (by assumption))
def isGl (sc : Scope) (x : Str) : Bool := match sc.names.lookup x with
  | some .globalImplicit => true
  | _ => false
theorem isGl_ok {X : Cx} {sc : Scope} {x : Str} (h : isGl sc x = true) (hs : X.env.scope = sc) : Gl X x := by
  unfold isGl at h
  split at h
  · show X.env.scope.names.lookup x = _
    rw [hs]
    assumption
  · cases h
theorem RepL.get {K : Frag} {H : Hp} {ρ κ : List Addr} {Γ : Loc} {σ : L2.St} {i : Nat} {d : D} (l : RepL K H ρ κ Γ σ) (h : Γ[i]? = some (some d)) : ∃ v, σ[i]? = some (some v) ∧ RepD K H ρ κ d v := by
  obtain ⟨o, h1, h2⟩ := Paired.get' l h
  cases h2 with
  | an r => exact ⟨_, h1, r⟩
theorem pe_var_of {X : Cx} {W : WX} {F : Calls} {e : Expr} {i : Nat} (h : PE X e (tVar i)) : PE X e (tE X.K cA W F (.var i)) :=
  PE.weak h fun σ H Q ⟨ρ, κ, Γ, S, s, l, q⟩ => by
    simp only [evE] at q
    split at q
    · rename_i d hd
      obtain ⟨v, h1, h2⟩ := l.get hd
      exact ⟨v, h1, q H ρ (Ext.refl H ρ) s v h2⟩
    · exact q.elim
def okName (x : Str) : Bool := !(x == ("__debug__" : Str)) && !(x == ("__classdict__" : Str)) && !(x == ("__name__" : Str))
theorem okName_d {x : Str} (h : okName x = true) : (x == ("__debug__" : Str)) = false := by
  unfold okName at h
  simp only [Bool.and_eq_true, Bool.not_eq_true'] at h
  exact h.1.1
theorem okName_c {x : Str} (h : okName x = true) : (x == ("__classdict__" : Str)) = false := by
  unfold okName at h
  simp only [Bool.and_eq_true, Bool.not_eq_true'] at h
  exact h.1.2
def nameIx (N : List Str) (x : Str) : Option { i : Nat // N[i]? = some x } := match N.findIdx? (fun y => decide (y = x)) with
  | none => none
  | some i => if h : N[i]? = some x then some ⟨i, h⟩ else none
def constOf (cs : List (Str × PyData)) (x : Str) : Option { d : PyData // (x, d) ∈ cs } := match cs with
  | [] => none
  | (y, d) :: r => if h : y = x then some ⟨d, by rw [h]; exact List.mem_cons_self⟩ else match constOf r x with
    | none => none
    | some ⟨d', m⟩ => some ⟨d', List.mem_cons_of_mem _ m⟩
def certName (x : Str) (pos : Pos) : Option (CertE L cA sc N (.Name x pos)) :=
  if hk : okName x = true then
    if hv : isVis sc x = true then match nameIx N x with
      | none => none
      | some ⟨i, hi⟩ => some ⟨.var i, fun n X W c hs hN => pe_var_of (pe_var (by rw [hN]; exact hi) (by rw [hs]; exact isVis_ok hv) (okName_d hk) (okName_c hk))⟩
    else if hg : isGl sc x = true then match constOf L.consts x with
      | none => none
      | some ⟨d, m⟩ => some ⟨.con d, fun n X W c hs hN => by
          obtain ⟨u, v, h1, h2, h3⟩ := c.con x d m
          exact pe_con_of (pe_glob (isGl_ok hg hs) h1 h2 (okName_d hk)) h3⟩
    else none
  else none

/-! ### operators -/
theorem bin_ok {X : Cx} {W : WX} {F : Calls} {a b : Expr} {ca cb : CE} {o : BOp} {pos : Pos} (ha : PE X a (tE X.K cA W F ca)) (hb : PE X b (tE X.K cA W F cb)) : PE X (.BinOp a o.op b pos) (tE X.K cA W F (.bin o ca cb)) :=
  PE.weak (pe_op (op_B o) ha hb) fun σ H Q ⟨ρ, κ, Γ, S, s, l, q⟩ => by
    simp only [evE] at q
    refine tE.then s l q fun H1 ρ1 d S1 v e s1 l1 r q1 => tE.then s1 l1 q1 fun H2 ρ2 d2 S2 w e2 s2 l2 r2 q2 => ?_
    obtain ⟨z, hz, _, hk⟩ := PostE.ofO s2 q2
    simp only [Option.map_eq_some_iff] at hz
    obtain ⟨y, hy, rfl⟩ := hz
    exact ⟨ρ2, κ, S2, d, d2, y, s2, r.ext e2, r2, hy, fun H' e' s' v' r' => hk H' ρ2 e' s' v' (.p r')⟩
def bopOf : Operator → Option BOp
  | .Add => some .add
  | .Sub => some .sub
  | .Mult => some .mul
  | .FloorDiv => some .fdiv
  | .Mod => some .mod
  | .Pow => some .pow
  | .LShift => some .shl
  | _ => none
def certBin {a b : Expr} (ca : CertE L cA sc N a) (cb : CertE L cA sc N b) : (op : Operator) → (pos : Pos) → Option (CertE L cA sc N (.BinOp a op b pos))
  | .Add, _ => some ⟨.bin .add ca.ce cb.ce, fun n X W c hs hN => bin_ok (o := .add) (ca.ok n X W c hs hN) (cb.ok n X W c hs hN)⟩
  | .Sub, _ => some ⟨.bin .sub ca.ce cb.ce, fun n X W c hs hN => bin_ok (o := .sub) (ca.ok n X W c hs hN) (cb.ok n X W c hs hN)⟩
  | .Mult, _ => some ⟨.bin .mul ca.ce cb.ce, fun n X W c hs hN => bin_ok (o := .mul) (ca.ok n X W c hs hN) (cb.ok n X W c hs hN)⟩
  | .FloorDiv, _ => some ⟨.bin .fdiv ca.ce cb.ce, fun n X W c hs hN => bin_ok (o := .fdiv) (ca.ok n X W c hs hN) (cb.ok n X W c hs hN)⟩
  | .Mod, _ => some ⟨.bin .mod ca.ce cb.ce, fun n X W c hs hN => bin_ok (o := .mod) (ca.ok n X W c hs hN) (cb.ok n X W c hs hN)⟩
  | .Pow, _ => some ⟨.bin .pow ca.ce cb.ce, fun n X W c hs hN => bin_ok (o := .pow) (ca.ok n X W c hs hN) (cb.ok n X W c hs hN)⟩
  | .LShift, _ => some ⟨.bin .shl ca.ce cb.ce, fun n X W c hs hN => bin_ok (o := .shl) (ca.ok n X W c hs hN) (cb.ok n X W c hs hN)⟩
  | _, _ => none
theorem neg_ok {X : Cx} {W : WX} {F : Calls} {a : Expr} {ca : CE} {pos : Pos} (ha : PE X a (tE X.K cA W F ca)) : PE X (.UnaryOp .USub a pos) (tE X.K cA W F (.neg ca)) :=
  PE.weak (pe_un un_neg ha) fun σ H Q ⟨ρ, κ, Γ, S, s, l, q⟩ => by
    simp only [evE] at q
    refine tE.then s l q fun H1 ρ1 d S1 v e s1 l1 r q1 => ?_
    split at q1
    · exact ⟨_, r.int, q1 H1 ρ1 (Ext.refl _ _) s1 _ (.p (.int _))⟩
    · exact q1.elim

/-! ### tests -/
theorem truthD_bl {K : Frag} {H : Hp} {ρ κ : List Addr} {S : Store} {d : D} {v : V} {b : Bool} (r : RepD K H ρ κ d v) (h : truthD S d = some b) : v = .bl b := by
  unfold truthD at h
  split at h
  · cases h; exact r.bool
  · cases h
/-- an expression as a test -/
theorem test_ok {X : Cx} {W : WX} {F : Calls} {a : Expr} {ca : CE} (ha : PE X a (tE X.K cA W F ca)) (he : ∀ whole, isTrue a X.env whole = (do let v ← whole; standAt a.pos; holding [v] (truthy v))) : PT X a (tT X.K cA W F ca) :=
  PT.weak (pt_val ha he) fun σ H Q ⟨ρ, κ, Γ, S, s, l, q⟩ => by
    simp only [evT] at q
    refine tE.then s l q fun H1 ρ1 d S1 v e s1 l1 r q1 => ?_
    obtain ⟨b, hb, hk, _⟩ := PostE.ofO s1 q1
    exact ⟨b, truthD_bl r hb, hk⟩
theorem not_ok {X : Cx} {W : WX} {F : Calls} {a : Expr} {ca : CE} {pos : Pos} (ha : PE X a (tE X.K cA W F ca)) : PE X (.UnaryOp .Not a pos) (tE X.K cA W F (.not ca)) :=
  PE.weak (pe_not ha) fun σ H Q ⟨ρ, κ, Γ, S, s, l, q⟩ => by
    simp only [evE] at q
    refine tE.then s l q fun H1 ρ1 d S1 v e s1 l1 r q1 => ?_
    obtain ⟨z, hz, _, hk⟩ := PostE.ofO s1 q1
    simp only [Option.map_eq_some_iff] at hz
    obtain ⟨b, hb, rfl⟩ := hz
    exact ⟨b, truthD_bl r hb, hk H1 ρ1 (Ext.refl _ _) s1 _ (.p (.bool _))⟩
theorem notT_ok {X : Cx} {W : WX} {F : Calls} {a : Expr} {ca : CE} {pos : Pos} (ha : PT X a (tT X.K cA W F ca)) : PT X (.UnaryOp .Not a pos) (tT X.K cA W F (.not ca)) :=
  PT.weak (pt_not ha) fun σ H Q ⟨ρ, κ, Γ, S, s, l, q⟩ => by
    refine ⟨ρ, κ, Γ, S, s, l, ?_⟩
    simp only [evT, evE] at q ⊢
    cases h : evE F ca Γ S with
    | ok d S1 =>
      rw [h] at q
      simp only [Res.bind] at q ⊢
      cases hb : truthD S1 d with
      | none => rw [hb] at q; exact q.elim
      | some b =>
        rw [hb] at q
        exact q
    | exc c fs S1 => rw [h] at q; exact q
    | stuck => rw [h] at q; exact q.elim
theorem and_ok {X : Cx} {W : WX} {F : Calls} {a b : Expr} {rest : List Expr} {ca cb : CE} {pos : Pos} (ha : PE X a (tE X.K cA W F ca)) (hb : PE X (.BoolOp .And (b :: rest) pos) (tE X.K cA W F cb)) : PE X (.BoolOp .And (a :: b :: rest) pos) (tE X.K cA W F (.and ca cb)) :=
  PE.weak (pe_and ha hb) fun σ H Q ⟨ρ, κ, Γ, S, s, l, q⟩ => by
    simp only [evE] at q
    refine tE.then s l q fun H1 ρ1 d S1 v e s1 l1 r q1 => ?_
    split at q1
    · refine ⟨true, r.bool, ?_⟩
      rw [if_pos rfl]
      exact ⟨ρ1, κ, Γ, S1, s1, l1, q1⟩
    · refine ⟨false, r.bool, ?_⟩
      rw [if_neg (by decide)]
      exact q1 H1 ρ1 (Ext.refl _ _) s1 _ (.p (.bool _))
    · exact q1.elim
theorem or_ok {X : Cx} {W : WX} {F : Calls} {a b : Expr} {rest : List Expr} {ca cb : CE} {pos : Pos} (ha : PE X a (tE X.K cA W F ca)) (hb : PE X (.BoolOp .Or (b :: rest) pos) (tE X.K cA W F cb)) : PE X (.BoolOp .Or (a :: b :: rest) pos) (tE X.K cA W F (.or ca cb)) :=
  PE.weak (pe_or ha hb) fun σ H Q ⟨ρ, κ, Γ, S, s, l, q⟩ => by
    simp only [evE] at q
    refine tE.then s l q fun H1 ρ1 d S1 v e s1 l1 r q1 => ?_
    split at q1
    · refine ⟨true, r.bool, ?_⟩
      rw [if_pos rfl]
      exact q1 H1 ρ1 (Ext.refl _ _) s1 _ (.p (.bool _))
    · refine ⟨false, r.bool, ?_⟩
      rw [if_neg (by decide)]
      exact ⟨ρ1, κ, Γ, S1, s1, l1, q1⟩
    · exact q1.elim
theorem andT_ok {X : Cx} {W : WX} {F : Calls} {a b : Expr} {rest : List Expr} {ca cb : CE} {pos : Pos} (ha : PT X a (tT X.K cA W F ca)) (hb : PW X (.BoolOp .And (b :: rest) pos) (tT X.K cA W F cb)) : PW X (.BoolOp .And (a :: b :: rest) pos) (tT X.K cA W F (.and ca cb)) :=
  PW.weak (pw_and ha hb) fun σ H Q ⟨ρ, κ, Γ, S, s, l, q⟩ => by
    refine ⟨ρ, κ, Γ, S, s, l, ?_⟩
    simp only [evT, evE] at q ⊢
    cases h : evE F ca Γ S with
    | ok d S1 =>
      rw [h] at q
      simp only [Res.bind] at q ⊢
      have key : ∀ b, d = .p (.bool b) → PostE X.K cA (fun cv d H' => W cv d σ H') κ H ρ (Res.ofO S1 (truthD S1 d)) fun H' _ b _ => if b = true then tT X.K cA W F cb σ H' Q else Q false H' := fun b hd => by
        subst hd
        intro H' ρ' e s'
        cases b with
        | true => exact ⟨ρ', κ, Γ, S1, s', l.ext e, PostE.ext q e⟩
        | false => exact q H' ρ' e s'
      have hd : ∃ b, d = .p (.bool b) := by
        cases d with
        | p y => cases y <;> first | exact ⟨_, rfl⟩ | exact False.elim q
        | ro y => exact False.elim q
        | loc y => exact False.elim q
      obtain ⟨b, hd⟩ := hd
      exact key b hd
    | exc c fs S1 => rw [h] at q; exact q
    | stuck => rw [h] at q; exact q.elim
theorem orT_ok {X : Cx} {W : WX} {F : Calls} {a b : Expr} {rest : List Expr} {ca cb : CE} {pos : Pos} (ha : PT X a (tT X.K cA W F ca)) (hb : PW X (.BoolOp .Or (b :: rest) pos) (tT X.K cA W F cb)) : PW X (.BoolOp .Or (a :: b :: rest) pos) (tT X.K cA W F (.or ca cb)) :=
  PW.weak (pw_or ha hb) fun σ H Q ⟨ρ, κ, Γ, S, s, l, q⟩ => by
    refine ⟨ρ, κ, Γ, S, s, l, ?_⟩
    simp only [evT, evE] at q ⊢
    cases h : evE F ca Γ S with
    | ok d S1 =>
      rw [h] at q
      simp only [Res.bind] at q ⊢
      have key : ∀ b, d = .p (.bool b) → PostE X.K cA (fun cv d H' => W cv d σ H') κ H ρ (Res.ofO S1 (truthD S1 d)) fun H' _ b _ => if b = true then Q true H' else tT X.K cA W F cb σ H' Q := fun b hd => by
        subst hd
        intro H' ρ' e s'
        cases b with
        | true => exact q H' ρ' e s'
        | false => exact ⟨ρ', κ, Γ, S1, s', l.ext e, PostE.ext q e⟩
      have hd : ∃ b, d = .p (.bool b) := by
        cases d with
        | p y => cases y <;> first | exact ⟨_, rfl⟩ | exact False.elim q
        | ro y => exact False.elim q
        | loc y => exact False.elim q
      obtain ⟨b, hd⟩ := hd
      exact key b hd
    | exc c fs S1 => rw [h] at q; exact q
    | stuck => rw [h] at q; exact q.elim

/-! ### comparisons -/
def copOf : CmpOp → Option COp
  | .Eq => some .eq
  | .NotEq => some .ne
  | .Lt => some .lt
  | .LtE => some .le
  | .Gt => some .gt
  | .GtE => some .ge
  | .In => some .isin
  | .NotIn => some .nin
  | _ => none
theorem copOf_op {op : CmpOp} {o : COp} (h : copOf op = some o) : o.op = op := by
  cases op <;> simp only [copOf, Option.some.injEq, reduceCtorEq] at h <;> subst h <;> rfl
def noSet : Expr → Bool
  | .Set .. => false
  | _ => true
theorem noSet_ok {b : Expr} (h : noSet b = true) (op : CmpOp) : behindInMarks op b = false := by
  cases b <;> first | rfl | cases h
theorem cmp_ok {n : Nat} {X : Cx} {W : WX} {F : Calls} {a b : Expr} {ca cb : CE} {o : COp} {pos : Pos} (c : Ctx L cA n X W) (hn : noSet b = true) (ha : PE X a (tE X.K cA W F ca)) (hb : PE X b (tE X.K cA W F cb)) : PE X (.Compare a [o.op] [b] pos) (tE X.K cA W F (.cmp o ca cb)) :=
  PE.weak (pe_cmpR (op_C (room65 c) o) ha hb (noSet_ok hn _)) fun σ H Q ⟨ρ, κ, Γ, S, s, l, q⟩ => by
    simp only [evE] at q
    refine tE.then s l q fun H1 ρ1 d S1 v e s1 l1 r q1 => tE.then s1 l1 q1 fun H2 ρ2 d2 S2 w e2 s2 l2 r2 q2 => ?_
    obtain ⟨z, hz, hk, _⟩ := PostE.ofO s2 q2
    simp only [Option.map_eq_some_iff] at hz
    obtain ⟨y, hy, rfl⟩ := hz
    exact ⟨ρ2, κ, S2, d, d2, y, s2, r.ext e2, r2, hy, hk _ (.p (.bool _))⟩
theorem cmpT_ok {n : Nat} {X : Cx} {W : WX} {F : Calls} {a b : Expr} {ca cb : CE} {o : COp} {pos : Pos} (c : Ctx L cA n X W) (hn : noSet b = true) (ha : PE X a (tE X.K cA W F ca)) (hb : PE X b (tE X.K cA W F cb)) : PT X (.Compare a [o.op] [b] pos) (tT X.K cA W F (.cmp o ca cb)) :=
  PT.weak (pt_cmpR (op_C (room65 c) o) ha hb (noSet_ok hn _)) fun σ H Q ⟨ρ, κ, Γ, S, s, l, q⟩ => by
    have q : PostE X.K cA (fun cv d H' => W cv d σ H') κ H ρ ((evE F (.cmp o ca cb) Γ S).bind fun x S1 => Res.ofO S1 (truthD S1 x)) fun H' _ b _ => Q b H' := q
    have q0 := q.bind
    simp only [evE] at q0
    refine tE.then s l q0 fun H1 ρ1 d S1 v e s1 l1 r q1 => tE.then s1 l1 q1 fun H2 ρ2 d2 S2 w e2 s2 l2 r2 q2 => ?_
    obtain ⟨z, hz, hk, _⟩ := PostE.ofO s2 q2
    simp only [Option.map_eq_some_iff] at hz
    obtain ⟨y, hy, rfl⟩ := hz
    refine ⟨ρ2, κ, S2, d, d2, y, s2, r.ext e2, r2, hy, y, rfl, ?_⟩
    exact hk H2 ρ2 (Ext.refl _ _) s2
theorem isNone_rep {K : Frag} {H : Hp} {ρ κ : List Addr} {d : D} {v : V} (r : RepD K H ρ κ d v) : decide (v = .non) = isNone d := by
  cases r with
  | p r => cases r <;> simp [isNone]
  | ro _ _ _ => simp [isNone]
  | loc _ => simp [isNone]
theorem isN_ok {X : Cx} {W : WX} {F : Calls} {a : Expr} {ca : CE} {pos p2 : Pos} {j : Nat} (ha : PE X a (tE X.K cA W F ca)) : PE X (.Compare a [.Is] [.Constant .none j p2] pos) (tE X.K cA W F (.isN true ca)) :=
  PE.weak (pe_cmp (pc_isN ha)) fun σ H Q ⟨ρ, κ, Γ, S, s, l, q⟩ => by
    simp only [evE] at q
    refine tE.then s l q fun H1 ρ1 d S1 v e s1 l1 r q1 => ?_
    have z := q1 H1 ρ1 (Ext.refl _ _) s1 _ (.p (.bool _))
    rw [isNone_rep r]
    simpa using z
theorem notN_ok {X : Cx} {W : WX} {F : Calls} {a : Expr} {ca : CE} {pos p2 : Pos} {j : Nat} (ha : PE X a (tE X.K cA W F ca)) : PE X (.Compare a [.IsNot] [.Constant .none j p2] pos) (tE X.K cA W F (.isN false ca)) :=
  PE.weak (pe_cmp (pc_notN ha)) fun σ H Q ⟨ρ, κ, Γ, S, s, l, q⟩ => by
    simp only [evE] at q
    refine tE.then s l q fun H1 ρ1 d S1 v e s1 l1 r q1 => ?_
    have z := q1 H1 ρ1 (Ext.refl _ _) s1 _ (.p (.bool _))
    rw [isNone_rep r]
    simpa using z
theorem isNT_ok {X : Cx} {W : WX} {F : Calls} {a : Expr} {ca : CE} {pos p2 : Pos} {j : Nat} (ha : PE X a (tE X.K cA W F ca)) : PT X (.Compare a [.Is] [.Constant .none j p2] pos) (tT X.K cA W F (.isN true ca)) :=
  PT.weak (pt_cmp (pc_isN ha)) fun σ H Q ⟨ρ, κ, Γ, S, s, l, q⟩ => by
    have q : PostE X.K cA (fun cv d H' => W cv d σ H') κ H ρ ((evE F (.isN true ca) Γ S).bind fun x S1 => Res.ofO S1 (truthD S1 x)) fun H' _ b _ => Q b H' := q
    have q0 := q.bind
    simp only [evE] at q0
    refine tE.then s l q0 fun H1 ρ1 d S1 v e s1 l1 r q1 => ?_
    have z := q1 H1 ρ1 (Ext.refl _ _) s1 H1 ρ1 (Ext.refl _ _) s1
    refine ⟨_, rfl, ?_⟩
    rw [isNone_rep r]
    simpa using z
theorem notNT_ok {X : Cx} {W : WX} {F : Calls} {a : Expr} {ca : CE} {pos p2 : Pos} {j : Nat} (ha : PE X a (tE X.K cA W F ca)) : PT X (.Compare a [.IsNot] [.Constant .none j p2] pos) (tT X.K cA W F (.isN false ca)) :=
  PT.weak (pt_cmp (pc_notN ha)) fun σ H Q ⟨ρ, κ, Γ, S, s, l, q⟩ => by
    have q : PostE X.K cA (fun cv d H' => W cv d σ H') κ H ρ ((evE F (.isN false ca) Γ S).bind fun x S1 => Res.ofO S1 (truthD S1 x)) fun H' _ b _ => Q b H' := q
    have q0 := q.bind
    simp only [evE] at q0
    refine tE.then s l q0 fun H1 ρ1 d S1 v e s1 l1 r q1 => ?_
    have z := q1 H1 ρ1 (Ext.refl _ _) s1 H1 ρ1 (Ext.refl _ _) s1
    refine ⟨_, rfl, ?_⟩
    rw [isNone_rep r]
    simpa using z
end
end Core
set_option Elab.async false
set_option linter.all false
set_option maxHeartbeats 1000000
/-! Core, part G: chains, choices, calls, items, displays -/
namespace Core
open PySem PySem.W L2 PyProof.Rows
section
variable {L : Law} {cA : Nat → Addr} {sc : Scope} {N : List Str}
/-! ### what stands in a list of arguments -/
def noStar : Expr → Bool
  | .Starred .. => false
  | _ => true
theorem noStar_ok {e : Expr} (h : noStar e = true) (es : List Expr) (env : Env) : starEach (e :: es) env = (false, eval e env) :: starEach es env := by
  cases e <;> first | rfl | cases h
theorem noStars_ok : ∀ {es : List Expr} (pos : Pos) (env : Env), es.all noStar = true → (backTo pos (starEach es env)).any (·.1) = false
  | [], _, _, _ => rfl
  | e :: es, pos, env, h => by
    rw [List.all_cons, Bool.and_eq_true] at h
    rw [noStar_ok h.1]
    show (false || (backTo pos (starEach es env)).any (·.1)) = false
    rw [Bool.false_or]
    exact noStars_ok pos env h.2
theorem nil_ok {X : Cx} {W : WX} {F : Calls} : PA X [] (tL X.K cA W F .nil) := PA.weak pa_nil fun σ H Q ⟨ρ, κ, Γ, S, s, l, q⟩ => by
  simp only [evL] at q
  exact q H ρ (Ext.refl _ _) s [] .nil
theorem cons_ok {X : Cx} {W : WX} {F : Calls} {e : Expr} {es : List Expr} {ce : CE} {cl : CL} (h : noStar e = true) (he : PE X e (tE X.K cA W F ce)) (hr : PA X es (tL X.K cA W F cl)) : PA X (e :: es) (tL X.K cA W F (.cons ce cl)) :=
  PA.weak (pa_cons he hr (noStar_ok h es X.env)) fun σ H Q ⟨ρ, κ, Γ, S, s, l, q⟩ => by
    simp only [evL] at q
    refine tE.then s l q fun H1 ρ1 d S1 v e s1 l1 r q1 => tL.then s1 l1 q1 fun H2 ρ2 ds S2 vs e2 s2 l2 r2 q2 => ?_
    exact q2 H2 ρ2 (Ext.refl _ _) s2 _ (.cons (r.ext e2) r2)
def certL (cE : (e : Expr) → Option (CertE L cA sc N e)) : (es : List Expr) → Option (CertL L cA sc N es)
  | [] => some ⟨.nil, fun _ _ _ _ _ _ => nil_ok⟩
  | e :: es => if h : noStar e = true then match cE e, certL cE es with
      | some a, some b => some ⟨.cons a.ce b.cl, fun n X W c hs hN => cons_ok h (a.ok n X W c hs hN) (b.ok n X W c hs hN)⟩
      | _, _ => none
    else none

/-! ### chains, choices -/
theorem opC2 {K : Frag} {H : Hp} {ρ κ : List Addr} {S : Store} {o : COp} {a b : D} {x y : V} {Q : VK} {k : Bool} (s : StRep K H ρ κ S) (ra : RepD K H ρ κ a x) (rb : RepD K H ρ κ b y) (h : opC S o a b = some k) (q : Q (.bl k) H) : rC K o x y H Q :=
  ⟨ρ, κ, S, a, b, k, s, ra, rb, h, q⟩
theorem marks_ok {b c : Expr} (hb : noSet b = true) (hc : noSet c = true) (op op' : CmpOp) : lastMarks [op, op'] [b, c] = false := by
  show behindInMarks op' c = false
  exact noSet_ok hc _
theorem chain_rd {K : Frag} {W : WX} {F : Calls} {o1 o2 : COp} {ca cb cc : CE} {σ : L2.St} {H : Hp} {Q : VK} (h : tE K cA W F (.chain o1 o2 ca cb cc) σ H Q) : tChain (rC K o1) (rC K o2) (tE K cA W F ca) (tE K cA W F cb) (tE K cA W F cc) σ H Q := by
  obtain ⟨ρ, κ, Γ, S, s, l, q⟩ := h
  simp only [evE] at q
  refine tE.then s l q fun H1 ρ1 d S1 v e s1 l1 r q1 => tE.then s1 l1 q1 fun H2 ρ2 d2 S2 w e2 s2 l2 r2 q2 => ?_
  split at q2
  · rename_i hk
    refine opC2 s2 (r.ext e2) r2 hk ⟨true, rfl, ?_⟩
    rw [if_pos rfl]
    refine tE.then s2 l2 q2 fun H3 ρ3 d3 S3 w3 e3 s3 l3 r3 q3 => ?_
    obtain ⟨z, hz, g, _⟩ := PostE.ofO s3 q3
    simp only [Option.map_eq_some_iff] at hz
    obtain ⟨y, hy, rfl⟩ := hz
    exact opC2 s3 (r2.ext e3) r3 hy (g _ (.p (.bool _)))
  · rename_i hk
    refine opC2 s2 (r.ext e2) r2 hk ⟨false, rfl, ?_⟩
    rw [if_neg (by decide)]
    exact q2 H2 ρ2 (Ext.refl _ _) s2 _ (.p (.bool _))
  · exact q2.elim
theorem chain_ok {n : Nat} {X : Cx} {W : WX} {F : Calls} {a b d : Expr} {ca cb cd : CE} {o1 o2 : COp} {pos : Pos} (c : Ctx L cA n X W) (hb : noSet b = true) (hd : noSet d = true)
    (pa : PE X a (tE X.K cA W F ca)) (pb : PE X b (tE X.K cA W F cb)) (pd : PE X d (tE X.K cA W F cd)) : PE X (.Compare a [o1.op, o2.op] [b, d] pos) (tE X.K cA W F (.chain o1 o2 ca cb cd)) :=
  PE.weak (pe_chain (op_C (room65 c) o1) (op_C (room65 c) o2) pa pb pd (marks_ok hb hd _ _)) fun σ H Q h => chain_rd h
theorem tE.test {K : Frag} {W : WX} {F : Calls} {ce : CE} {σ : L2.St} {H : Hp} {Q : Bool → Hp → Prop} (h : tT K cA W F ce σ H Q) : tE K cA W F ce σ H fun x H' => ∃ k, x = .bl k ∧ Q k H' := by
  obtain ⟨ρ, κ, Γ, S, s, l, q⟩ := h
  have q : PostE K cA (fun cv d H' => W cv d σ H') κ H ρ ((evE F ce Γ S).bind fun x S1 => Res.ofO S1 (truthD S1 x)) fun H' _ b _ => Q b H' := q
  refine tE.then s l q fun H1 ρ1 d S1 v e s1 l1 r q1 => ?_
  obtain ⟨b, hb, g, _⟩ := PostE.ofO s1 q1
  exact ⟨b, truthD_bl r hb, g⟩
theorem chainT_ok {n : Nat} {X : Cx} {W : WX} {F : Calls} {a b d : Expr} {ca cb cd : CE} {o1 o2 : COp} {pos : Pos} (c : Ctx L cA n X W) (hb : noSet b = true) (hd : noSet d = true)
    (pa : PE X a (tE X.K cA W F ca)) (pb : PE X b (tE X.K cA W F cb)) (pd : PE X d (tE X.K cA W F cd)) : PT X (.Compare a [o1.op, o2.op] [b, d] pos) (tT X.K cA W F (.chain o1 o2 ca cb cd)) :=
  PT.weak (pt_chain (op_C (room65 c) o1) (op_C (room65 c) o2) pa pb pd (marks_ok hb hd _ _)) fun σ H Q h => chain_rd (tE.test h)
theorem ite_ok {X : Cx} {W : WX} {F : Calls} {t a b : Expr} {ct ca cb : CE} {pos : Pos} (ht : PT X t (tT X.K cA W F ct)) (ha : PE X a (tE X.K cA W F ca)) (hb : PE X b (tE X.K cA W F cb)) : PE X (.IfExp t a b pos) (tE X.K cA W F (.ite ct ca cb)) :=
  PE.weak (pe_ifExp ht ha hb) fun σ H Q ⟨ρ, κ, Γ, S, s, l, q⟩ => by
    have q : PostE X.K cA (fun cv d H' => W cv d σ H') κ H ρ ((evT F ct Γ S).bind fun x S1 => if x = true then evE F ca Γ S1 else evE F cb Γ S1) fun H' ρ' d _ => ∀ v, RepD X.K H' ρ' κ d v → Q v H' := by
      simp only [evE] at q
      simp only [evT]
      cases h : evE F ct Γ S with
      | ok d S1 =>
        rw [h] at q
        simp only [Res.bind] at q ⊢
        cases hb : truthD S1 d with
        | none => rw [hb] at q; exact q.elim
        | some b => rw [hb] at q; cases b <;> exact q
      | exc c fs S1 => rw [h] at q; exact q
      | stuck => rw [h] at q; exact q.elim
    refine tT.then s l q fun H1 ρ1 b S1 e s1 l1 q1 => ?_
    cases b with
    | true =>
      rw [if_pos rfl] at q1 ⊢
      exact ⟨ρ1, κ, Γ, S1, s1, l1, q1⟩
    | false =>
      rw [if_neg (by decide)] at q1 ⊢
      exact ⟨ρ1, κ, Γ, S1, s1, l1, q1⟩

/-! ### calls -/
section
variable {X : Cx} {CX : CXT} {k : Nat} {f : Addr} {fd : FuncData} {ps : List Str} {sp : Sp} {x : Str} {p pos : Pos}
theorem run_G {pins : List (Addr × Obj)} {σ : L2.St} {H : Hp} {s : Shared} {Q : VK} {E : XK} {vals : List Value} {kws : List (Str × Value)} {us : List Value} {vs : List V} (FO : FnOk X.prog X.w X.K X.mg X.base CX k f fd ps sp) (hr : Room k X.A)
    (hb : us.length = ps.length → BindsTo s fd ⟨vals, kws⟩ (ps.zip us)) (hx : PassesAt CX X σ E) (I : L2.Inv X pins σ H s) (r : Vals vs us) (h : sp vs H Q E) : wpAny (model X.prog X.w) X.A (call (.ref f) vals kws) (EP X pins σ Q) X.xe s := by
  have hl : us.length = ps.length := by
    rw [← r.length]
    exact FO.len _ _ _ _ h
  refine wpAny_call (codeAny_mono (FO.run X.A X.stack s H ⟨vals, kws⟩ us vs Q E hr I.env0 (hb hl) r h) fun res s' hq => ?_)
  cases res with
  | error e => exact hx pins H s e s' I hq
  | ok fl =>
    cases fl with
    | ret u => exact Inv.after I hq
    | next => exact hq.elim
    | brk => exact hq.elim
    | cont => exact hq.elim
theorem pe_call00 {E : L2.St → XK} (FO : FnOk X.prog X.w X.K X.mg X.base CX k f fd ps sp) (hr : Room k X.A) (hg : Gl X x) (hm : X.mg x = some (.ref f)) (hk : PySem.W.keepIn X.K (.ref f) = true) (hb : Binds X.K fd ps []) (hx : ∀ σ, PassesAt CX X σ (E σ))
    (hdb : (x == ("__debug__" : Str)) = false) : PE X (.Call (.Name x p) [] [] pos) (fun σ H Q => sp [] H Q (E σ)) :=
  ⟨fun pins s σ H Q I h => wpAny_Call_Name_kw (ld_glob I hg hm (PySem.W.callWith_K0 (first := []) I.kIn hk (run_G (us := []) FO hr (fun e => hb s [] I.kIn e) (hx σ) I .nil h)) hdb)⟩
end
theorem passW {X : Cx} {W : WX} (tk : Takes X W) (σ : L2.St) : PassesAt (L2.CX X.prog X.w) X σ (fun cv d H => W cv d σ H) := passAt tk σ
def fnIx (ns : List Str) (x : Str) : Option { i : Nat // ns[i]? = some x } := nameIx ns x
theorem callR_rd {X : Cx} {W : WX} {n i : Nat} {cl : CL} {t : TA} {σ : L2.St} {H : Hp} {Q : VK} (h : tE X.K cA W (callN L.fns n) (.call i cl) σ H Q) : tL X.K cA W (callN L.fns n) cl σ H fun vs H1 => spF X.K cA (callN L.fns n i) vs H1 Q fun cv d H => W cv d σ H := by
  obtain ⟨ρ, κ, Γ, S, s, l, q⟩ := h
  simp only [evE] at q
  exact tL.then s l q fun H1 ρ1 ds S1 vs e s1 l1 r q1 => ⟨ρ1, κ, S1, ds, s1, r, q1⟩
def certCall {es : List Expr} (cl : CertL L cA sc N es) (x : Str) (p pos : Pos) : Option (CertE L cA sc N (.Call (.Name x p) es [] pos)) :=
  if hk : okName x = true then if hg : isGl sc x = true then match nameIx L.names x with
    | none => none
    | some ⟨i, hi⟩ => match es, cl with
      | [], _ => some ⟨.call i .nil, fun n X W c hs hN => by
          obtain ⟨f, fd, ps, h1, h2, h3, h4, h5⟩ := c.fn i x hi
          refine PE.weak (pe_call00 h5 c.room (isGl_ok hg hs) h1 h2 h3 (fun σ => passW c.tk σ) (okName_d hk)) fun σ H Q ⟨ρ, κ, Γ, S, s, l, q⟩ => ?_
          simp only [evE, evL] at q
          exact ⟨ρ, κ, S, [], s, .nil, q⟩⟩
      | e :: es, cl => if hn : (e :: es).all noStar = true then some ⟨.call i cl.cl, fun n X W c hs hN => by
          obtain ⟨f, fd, ps, h1, h2, h3, h4, h5⟩ := c.fn i x hi
          rw [List.all_cons, Bool.and_eq_true] at hn
          exact PE.weak (pe_callS h5 c.room (isGl_ok hg hs) h1 h2 h3 (fun σ => passW c.tk σ) (cl.ok n X W c hs hN) (okName_d hk) (noStar_ok hn.1 _ _) (noStars_ok _ _ hn.2)) fun σ H Q h => callR_rd (t := tNil) h⟩ else none
    else none else none

/-! ### calls with names -/
theorem permL_some : ∀ {perm : List Nat} {ds gs : List D}, permL perm ds = some gs → ∀ {α : Type} {G : D → α → Prop} {vs : List α}, Paired G ds vs → Paired G gs (permG perm vs) ∧ gs.length = perm.length
  | [], _, _, h, _, _, _, _ => by
    simp only [permL, Option.some.injEq] at h
    subst h
    exact ⟨.nil, rfl⟩
  | i :: r, ds, gs, h, α, G, vs, p => by
    simp only [permL, Option.bind_eq_some_iff, Option.map_eq_some_iff] at h
    obtain ⟨d, hd, gs', h2, rfl⟩ := h
    obtain ⟨v, hv, rv⟩ := Paired.get' p hd
    obtain ⟨q1, q2⟩ := permL_some h2 p
    refine ⟨?_, by simp [q2]⟩
    unfold permG at q1 ⊢
    rw [List.filterMap_cons, hv]
    exact .cons rv q1
theorem permG_rel {α β : Type} {G : α → β → Prop} : ∀ (perm : List Nat) {xs : List α} {ys : List β}, Paired G xs ys → Paired G (permG perm xs) (permG perm ys)
  | [], _, _, _ => .nil
  | i :: r, xs, ys, p => by
    have ih := permG_rel r p
    unfold permG at ih ⊢
    rw [List.filterMap_cons, List.filterMap_cons]
    cases hx : xs[i]? with
    | some x =>
      obtain ⟨y, hy, ry⟩ := Paired.get' p hx
      rw [hy]
      exact .cons ry ih
    | none =>
      have hy : ys[i]? = none := by
        rw [List.getElem?_eq_none_iff] at hx ⊢
        rw [← Paired.len p]
        exact hx
      rw [hy]
      exact ih
variable (L cA sc N) in
structure CertK (kws : List Keyword) where
  cl : CL
  ks : List Str
  ok : ∀ (n : Nat) (X : Cx) (W : WX), Ctx L cA n X W → X.env.scope = sc → X.N = N → PK X kws (tL X.K cA W (callN L.fns n) cl)
  names : ∀ pos env, (backToKw pos (keywordEach kws env)).all (·.1.isSome) = true ∧ (backToKw pos (keywordEach kws env)).filterMap (·.1) = ks ∧ (backToKw pos (keywordEach kws env)).any (·.1.isNone) = false
theorem PK.weak {X : Cx} {e : List Keyword} {t t' : TA} (h : PK X e t) (f : ∀ σ H Q, t' σ H Q → t σ H Q) : PK X e t' := ⟨fun pos pins s σ H Q I q => h.run pos pins s σ H Q I (f σ H Q q)⟩
def certK (cE : (e : Expr) → Option (CertE L cA sc N e)) : (kws : List Keyword) → Option (CertK L cA sc N kws)
  | [] => some ⟨.nil, [], fun n X W c hs hN => PK.weak pk_nil fun σ H Q ⟨ρ, κ, Γ, S, s, l, q⟩ => by
      simp only [evL] at q
      exact q H ρ (Ext.refl _ _) s [] .nil, fun _ _ => ⟨rfl, rfl, rfl⟩⟩
  | ⟨some nm, e, kpos⟩ :: kws => match cE e, certK cE kws with
    | some a, some b => some ⟨.cons a.ce b.cl, nm :: b.ks, fun n X W c hs hN => PK.weak (pk_cons (a.ok n X W c hs hN) (b.ok n X W c hs hN)) fun σ H Q ⟨ρ, κ, Γ, S, s, l, q⟩ => by
        simp only [evL] at q
        refine tE.then s l q fun H1 ρ1 d S1 v e s1 l1 r q1 => tL.then s1 l1 q1 fun H2 ρ2 ds S2 vs e2 s2 l2 r2 q2 => ?_
        exact q2 H2 ρ2 (Ext.refl _ _) s2 _ (.cons (r.ext e2) r2), fun pos env => by
        obtain ⟨h1, h2, h3⟩ := b.names pos env
        refine ⟨?_, ?_, ?_⟩
        · show (true && (backToKw pos (keywordEach kws env)).all (·.1.isSome)) = true
          rw [Bool.true_and]; exact h1
        · show nm :: (backToKw pos (keywordEach kws env)).filterMap (·.1) = _
          rw [h2]
        · show (false || (backToKw pos (keywordEach kws env)).any (·.1.isNone)) = false
          rw [Bool.false_or]; exact h3⟩
    | _, _ => none
  | _ :: _ => none
def kwFind (rows : List (Nat × Nat × List Str × List Nat)) (i np : Nat) (ks : List Str) : Option { perm : List Nat // (i, np, ks, perm) ∈ rows } := match rows with
  | [] => none
  | (j, m, ls, perm) :: r => if h : j = i ∧ m = np ∧ ls = ks then some ⟨perm, by rw [h.1, h.2.1, h.2.2]; exact List.mem_cons_self⟩ else match kwFind r i np ks with
    | none => none
    | some ⟨q, m⟩ => some ⟨q, List.mem_cons_of_mem _ m⟩
section
variable {X : Cx} {CX : CXT} {k : Nat} {f : Addr} {fd : FuncData} {ps ks : List Str} {sp : Sp} {x : Str} {p pos : Pos} {perm : List Nat}
/-- f(e, .., k = v, ..): what the def is handed, in its parameters' order -/
theorem pe_callKG {E : L2.St → XK} {e : Expr} {es : List Expr} {kws : List Keyword} {t tk : TA} (FO : FnOk X.prog X.w X.K X.mg X.base CX k f fd ps sp) (hr : Room k X.A) (hg : Gl X x) (hm : X.mg x = some (.ref f)) (hk : PySem.W.keepIn X.K (.ref f) = true)
    (hb : ∀ (s : Shared) (us ws : List Value), X.K.In s.heap → us.length = (e :: es).length → ws.length = ks.length → BindsTo s fd ⟨us, ks.zip ws⟩ (ps.zip (permG perm (us ++ ws)))) (hx : ∀ σ, PassesAt CX X σ (E σ))
    (ha : PA X (e :: es) t) (hkw : PK X kws tk) (nm : (backToKw pos (keywordEach kws X.env)).all (·.1.isSome) = true ∧ (backToKw pos (keywordEach kws X.env)).filterMap (·.1) = ks ∧ (backToKw pos (keywordEach kws X.env)).any (·.1.isNone) = false)
    (hn : (e :: es).all noStar = true) (hdb : (x == ("__debug__" : Str)) = false)
    (ht : ∀ σ H Q, t σ H Q → t σ H fun vs H1 => vs.length = (e :: es).length ∧ Q vs H1) (htk : ∀ σ H Q, tk σ H Q → tk σ H fun vs H1 => vs.length = ks.length ∧ Q vs H1) :
    PE X (.Call (.Name x p) (e :: es) kws pos) (fun σ H Q => t σ H fun vs H1 => tk σ H1 fun zs H2 => sp (permG perm (vs ++ zs)) H2 Q (E σ)) := by
  refine ⟨fun pins s σ H Q I h => ?_⟩
  have hn2 := hn
  rw [List.all_cons, Bool.and_eq_true] at hn2
  have hpl : ((backTo pos (starEach (e :: es) X.env)).any (·.1) || (backToKw pos (keywordEach kws X.env)).any (·.1.isNone)) = false := by
    rw [noStars_ok pos X.env hn, nm.2.2]; rfl
  refine wpAny_Call_Name_kw (ld_glob I hg hm ?_ hdb)
  refine PySem.W.callWith_KW (first := []) (h₀ := X.base) I.ok.mod.kin hk nm.1 (thn (ha.run pos pins s σ H _ I (ht σ H _ h)) fun us s1 ⟨vs, H1, I1, r, hl, q⟩ => ?_) hpl (noStar_ok hn2.1 _ _)
  refine thn (hkw.run pos pins s1 σ H1 _ I1 (htk σ H1 _ q)) fun ws s2 ⟨zs, H2, I2, rz, hlz, q2⟩ => ⟨I2.kIn, ?_⟩
  rw [nm.2.1, List.nil_append]
  exact run_G FO hr (fun _ => hb s2 us ws I2.kIn (by rw [← r.length]; exact hl) (by rw [← rz.length]; exact hlz)) (hx σ) I2 (permG_rel perm (r.append rz)) q2
theorem pe_callKG0 {E : L2.St → XK} {kws : List Keyword} {tk : TA} (FO : FnOk X.prog X.w X.K X.mg X.base CX k f fd ps sp) (hr : Room k X.A) (hg : Gl X x) (hm : X.mg x = some (.ref f)) (hk : PySem.W.keepIn X.K (.ref f) = true)
    (hb : ∀ (s : Shared) (us ws : List Value), X.K.In s.heap → us.length = 0 → ws.length = ks.length → BindsTo s fd ⟨us, ks.zip ws⟩ (ps.zip (permG perm (us ++ ws)))) (hx : ∀ σ, PassesAt CX X σ (E σ))
    (hkw : PK X kws tk) (nm : (backToKw pos (keywordEach kws X.env)).all (·.1.isSome) = true ∧ (backToKw pos (keywordEach kws X.env)).filterMap (·.1) = ks ∧ (backToKw pos (keywordEach kws X.env)).any (·.1.isNone) = false)
    (hdb : (x == ("__debug__" : Str)) = false) (htk : ∀ σ H Q, tk σ H Q → tk σ H fun vs H1 => vs.length = ks.length ∧ Q vs H1) :
    PE X (.Call (.Name x p) [] kws pos) (fun σ H Q => tk σ H fun zs H2 => sp (permG perm ([] ++ zs)) H2 Q (E σ)) := by
  refine ⟨fun pins s σ H Q I h => ?_⟩
  have hpl : ((backTo pos (starEach [] X.env)).any (·.1) || (backToKw pos (keywordEach kws X.env)).any (·.1.isNone)) = false := by
    show (false || _) = false
    rw [nm.2.2]; rfl
  refine wpAny_Call_Name_kw (ld_glob I hg hm ?_ hdb)
  refine PySem.W.callWith_KW0 (first := []) (h₀ := X.base) I.ok.mod.kin hk nm.1 (thn (hkw.run pos pins s σ H _ I (htk σ H _ h)) fun ws s2 ⟨zs, H2, I2, rz, hlz, q2⟩ => ⟨I2.kIn, ?_⟩) hpl
  rw [nm.2.1, List.nil_append]
  exact run_G (us := permG perm ([] ++ ws)) FO hr (fun _ => hb s2 [] ws I2.kIn rfl (by rw [← rz.length]; exact hlz)) (hx σ) I2 (permG_rel perm (Vals.append .nil rz)) q2
end
def clLen : CL → Nat
  | .nil => 0
  | .cons _ r => clLen r + 1
theorem evL_len {F : Calls} : ∀ {cl : CL} {Γ : Loc} {S S' : Store} {ds : List D}, evL F cl Γ S = .ok ds S' → ds.length = clLen cl
  | .nil, _, _, _, _, h => by
    simp only [evL, Res.ok.injEq] at h
    rw [← h.1]; rfl
  | .cons a r, Γ, S, _, _, h => by
    simp only [evL] at h
    cases ha : evE F a Γ S with
    | ok d S1 =>
      rw [ha] at h
      simp only [Res.bind] at h
      cases hr : evL F r Γ S1 with
      | ok es S2 =>
        rw [hr] at h
        simp only [Res.ok.injEq] at h
        rw [← h.1, List.length_cons, evL_len hr]; rfl
      | exc c fs S2 => rw [hr] at h; simp at h
      | stuck => rw [hr] at h; simp at h
    | exc c fs S2 => rw [ha] at h; simp [Res.bind] at h
    | stuck => rw [ha] at h; simp [Res.bind] at h
theorem tL.len {K : Frag} {W : WX} {F : Calls} {cl : CL} {m : Nat} (hm : clLen cl = m) : ∀ σ H Q, tL K cA W F cl σ H Q → tL K cA W F cl σ H fun vs H1 => vs.length = m ∧ Q vs H1 := fun σ H Q ⟨ρ, κ, Γ, S, s, l, q⟩ => by
  refine ⟨ρ, κ, Γ, S, s, l, ?_⟩
  cases h : evL F cl Γ S with
  | ok ds S' =>
    rw [h] at q
    intro H' ρ' e s' vs r
    exact ⟨by rw [← Paired.len r, evL_len h, hm], q H' ρ' e s' vs r⟩
  | exc c fs S' => rw [h] at q; exact q
  | stuck => rw [h] at q; exact q
theorem callkR_rd {X : Cx} {W : WX} {n i : Nat} {cl kl : CL} {perm : List Nat} {σ : L2.St} {H : Hp} {Q : VK} (h : tE X.K cA W (callN L.fns n) (.callk i perm cl kl) σ H Q) :
    tL X.K cA W (callN L.fns n) cl σ H fun vs H1 => tL X.K cA W (callN L.fns n) kl σ H1 fun zs H2 => spF X.K cA (callN L.fns n i) (permG perm (vs ++ zs)) H2 Q fun cv d H => W cv d σ H := by
  obtain ⟨ρ, κ, Γ, S, s, l, q⟩ := h
  simp only [evE] at q
  refine tL.then s l q fun H1 ρ1 ds S1 vs e s1 l1 r q1 => tL.then s1 l1 q1 fun H2 ρ2 es S2 zs e2 s2 l2 r2 q2 => ?_
  split at q2
  · rename_i gs hg
    exact ⟨ρ2, κ, S2, gs, s2, (permL_some hg (Paired.app (RepDs.ext e2 r) r2)).1, q2⟩
  · exact q2.elim
def certCallK {es : List Expr} {kws : List Keyword} (cl : CertL L cA sc N es) (kl : CertK L cA sc N kws) (x : Str) (p pos : Pos) : Option (CertE L cA sc N (.Call (.Name x p) es kws pos)) :=
  if hk : okName x = true then if hg : isGl sc x = true then match nameIx L.names x with
    | none => none
    | some ⟨i, hi⟩ => match kwFind L.kws i es.length kl.ks with
      | none => none
      | some ⟨perm, hp⟩ => if h2 : clLen kl.cl = kl.ks.length then (match es, cl, hp with
        | [], _, hp => some ⟨.callk i perm .nil kl.cl, fun n X W c hs hN => by
            obtain ⟨f, fd, ps, g1, g2, g3, g4, g5⟩ := c.fn i x hi
            refine PE.weak (pe_callKG0 g5 c.room (isGl_ok hg hs) g1 g2 (g4 0 kl.ks perm hp) (fun σ => passW c.tk σ) (kl.ok n X W c hs hN) (kl.names _ _) (okName_d hk) (tL.len h2)) fun σ H Q h => ?_
            obtain ⟨ρ, κ, Γ, S, s, l, q⟩ := h
            simp only [evE, evL] at q
            refine tL.then s l q fun H2 ρ2 es S2 zs e2 s2 l2 r2 q2 => ?_
            split at q2
            · rename_i gs hg
              exact ⟨ρ2, κ, S2, gs, s2, (permL_some hg (Paired.app .nil r2)).1, q2⟩
            · exact q2.elim⟩
        | e :: es, cl, hp => if hn : (e :: es).all noStar = true then (if h1 : clLen cl.cl = (e :: es).length then some ⟨.callk i perm cl.cl kl.cl, fun n X W c hs hN => by
            obtain ⟨f, fd, ps, g1, g2, g3, g4, g5⟩ := c.fn i x hi
            exact PE.weak (pe_callKG g5 c.room (isGl_ok hg hs) g1 g2 (g4 (e :: es).length kl.ks perm hp) (fun σ => passW c.tk σ) (cl.ok n X W c hs hN) (kl.ok n X W c hs hN) (kl.names _ _) hn (okName_d hk) (tL.len h1) (tL.len h2)) fun σ H Q h => callkR_rd h⟩ else none) else none) else none
    else none else none

/-! ### built-in functions -/
theorem bf_rd {X : Cx} {W : WX} {F : Calls} {f : BF} {cl : CL} {σ : L2.St} {H : Hp} {Q : VK} (h : tE X.K cA W F (.bf f cl) σ H Q) : tCB (rF X.K f) (tL X.K cA W F cl) σ H Q := by
  obtain ⟨ρ, κ, Γ, S, s, l, q⟩ := h
  simp only [evE] at q
  refine tL.then s l q fun H1 ρ1 ds S1 vs e s1 l1 r q1 => ?_
  obtain ⟨z, hz, _, g⟩ := PostE.ofO s1 q1
  simp only [Option.map_eq_some_iff] at hz
  obtain ⟨y, hy, rfl⟩ := hz
  exact ⟨ρ1, κ, S1, ds, y, s1, r, hy, fun H' e' s' v' r' => g H' ρ1 e' s' v' (.p r')⟩
def bfOf (x : Str) : Option BF :=
  if x = "len" then some .len else if x = "abs" then some .abs else if x = "max" then some .max else if x = "min" then some .min else if x = "int" then some .int else
  if x = "tuple" then some .tuple else if x = "list" then some .list else if x = "all" then some .all else if x = "any" then some .any else none
def BF.nm : BF → Str
  | .len => "len"
  | .abs => "abs"
  | .max => "max"
  | .min => "min"
  | .int => "int"
  | .tuple => "tuple"
  | .list => "list"
  | .all => "all"
  | .any => "any"
  | .gcd => "gcd"
theorem bfOf_nm {x : Str} {f : BF} (h : bfOf x = some f) : x = f.nm ∧ f ≠ .gcd := by
  unfold bfOf at h
  repeat' split at h
  all_goals first
    | (cases h; exact ⟨by assumption, by simp⟩)
    | cases h
theorem bf_boot : ∀ f : BF, f ≠ .gcd → bootBuiltins f.nm = some f.val
  | .len, _ => by decide +kernel
  | .abs, _ => by decide +kernel
  | .max, _ => by decide +kernel
  | .min, _ => by decide +kernel
  | .int, _ => by decide +kernel
  | .tuple, _ => by decide +kernel
  | .list, _ => by decide +kernel
  | .all, _ => by decide +kernel
  | .any, _ => by decide +kernel
  | .gcd, h => absurd rfl h
theorem bf_names : ∀ f : BF, f ≠ .gcd → f.nm ∈ bltNames ∧ f.nm ≠ "__name__" ∧ (f.nm == ("__debug__" : Str)) = false := by
  intro f hf
  cases f <;> first | exact absurd rfl hf | exact ⟨by decide +kernel, by decide +kernel, by decide +kernel⟩
theorem pe_bf {n : Nat} {X : Cx} {W : WX} {e : Expr} {es : List Expr} {t : TA} {p pos : Pos} {f : BF} (c : Ctx L cA n X W) (hf : f ≠ .gcd) (hg : Gl X f.nm) (ha : PA X (e :: es) t) (hn : (e :: es).all noStar = true) :
    PE X (.Call (.Name f.nm p) (e :: es) [] pos) (tCB (rF X.K f) t) := by
  rw [List.all_cons, Bool.and_eq_true] at hn
  obtain ⟨h1, h2, h3⟩ := bf_names f hf
  have hb := bf_boot f hf
  have hc := call_F c.calm f
  cases f with
  | len => exact pe_callB hc hg (c.blt _ h1) hb ha h2 h3 (noStar_ok hn.1 _ _) (noStars_ok _ _ hn.2)
  | abs => exact pe_callB hc hg (c.blt _ h1) hb ha h2 h3 (noStar_ok hn.1 _ _) (noStars_ok _ _ hn.2)
  | max => exact pe_callB hc hg (c.blt _ h1) hb ha h2 h3 (noStar_ok hn.1 _ _) (noStars_ok _ _ hn.2)
  | min => exact pe_callB hc hg (c.blt _ h1) hb ha h2 h3 (noStar_ok hn.1 _ _) (noStars_ok _ _ hn.2)
  | all => exact pe_callB hc hg (c.blt _ h1) hb ha h2 h3 (noStar_ok hn.1 _ _) (noStars_ok _ _ hn.2)
  | any => exact pe_callB hc hg (c.blt _ h1) hb ha h2 h3 (noStar_ok hn.1 _ _) (noStars_ok _ _ hn.2)
  | int => exact pe_callTy hc hg (c.blt _ h1) hb ha h2 h3 (noStar_ok hn.1 _ _) (noStars_ok _ _ hn.2)
  | tuple => exact pe_callTy hc hg (c.blt _ h1) hb ha h2 h3 (noStar_ok hn.1 _ _) (noStars_ok _ _ hn.2)
  | list => exact pe_callTy hc hg (c.blt _ h1) hb ha h2 h3 (noStar_ok hn.1 _ _) (noStars_ok _ _ hn.2)
  | gcd => exact absurd rfl hf
def certBf {e : Expr} {es : List Expr} (cl : CertL L cA sc N (e :: es)) (x : Str) (p pos : Pos) : Option (CertE L cA sc N (.Call (.Name x p) (e :: es) [] pos)) :=
  if hg : isGl sc x = true then if hn : (e :: es).all noStar = true then (match hb : bfOf x with
    | some f => some ⟨.bf f cl.cl, fun n X W c hs hN => by
        obtain ⟨hx, hf⟩ := bfOf_nm hb
        have hg' := isGl_ok (X := X) hg hs
        subst hx
        exact PE.weak (pe_bf c hf hg' (cl.ok n X W c hs hN) hn) fun σ H Q h => bf_rd h⟩
    | none => if hx : x = "gcd" then (if hG : L.gcd = true then some ⟨.bf .gcd cl.cl, fun n X W c hs hN => by
        have hg' := isGl_ok (X := X) hg hs
        subst hx
        have hn2 := hn
        rw [List.all_cons, Bool.and_eq_true] at hn2
        exact PE.weak (pe_callBfun (call_F c.calm .gcd) hg' (c.gcd hG) (cl.ok n X W c hs hN) (by decide +kernel) (noStar_ok hn2.1 _ _) (noStars_ok _ _ hn2.2)) fun σ H Q h => bf_rd h⟩ else none) else none) else none else none

/-! ### isinstance -/
def tyOf? (x : Str) : Option Ty :=
  if x = "int" then some .int else if x = "bool" then some .bool else if x = "str" then some .str else if x = "tuple" then some .tuple else if x = "list" then some .list else if x = "dict" then some .dict else none
def Ty.nm : Ty → Str
  | .int => "int"
  | .bool => "bool"
  | .str => "str"
  | .tuple => "tuple"
  | .list => "list"
  | .dict => "dict"
theorem tyOf?_nm {x : Str} {t : Ty} (h : tyOf? x = some t) : x = t.nm := by
  unfold tyOf? at h
  repeat' split at h
  all_goals first
    | (cases h; assumption)
    | cases h
theorem ty_boot (t : Ty) : bootBuiltins t.nm = some (.type t.name) ∧ t.nm ∈ bltNames ∧ t.nm ≠ "__name__" ∧ (t.nm == ("__debug__" : Str)) = false := by
  cases t <;> exact ⟨by decide +kernel, by decide +kernel, by decide +kernel, by decide +kernel⟩
theorem pe_ty {n : Nat} {X : Cx} {W : WX} {p : Pos} (c : Ctx L cA n X W) (t : Ty) (hg : Gl X t.nm) : PE X (.Name t.nm p) (tC (.ty t.name)) := by
  obtain ⟨h1, h2, h3, h4⟩ := ty_boot t
  exact pe_bltn hg (c.blt _ h2) h1 rfl h3 h4
theorem isi1_ok {n : Nat} {X : Cx} {W : WX} {F : Calls} {e : Expr} {ce : CE} {p q pos : Pos} {t : Ty} (c : Ctx L cA n X W) (hi : Gl X "isinstance") (hg : Gl X t.nm) (hn : noStar e = true) (he : PE X e (tE X.K cA W F ce)) :
    PE X (.Call (.Name "isinstance" p) [e, .Name t.nm q] [] pos) (tE X.K cA W F (.isi ce [t])) :=
  PE.weak (pe_callB call_isi hi (c.blt _ (by decide +kernel)) (by decide +kernel) (pa_cons he (pa_cons (pe_ty c t hg) pa_nil rfl) (noStar_ok hn _ _)) (by decide +kernel) (by decide +kernel) (noStar_ok hn _ _) rfl) fun σ H Q ⟨ρ, κ, Γ, S, s, l, z⟩ => by
    simp only [evE] at z
    refine tE.then s l z fun H1 ρ1 d S1 v e s1 l1 r q1 => ?_
    obtain ⟨T, hT, ty⟩ := tyX_of s1 r (loc_there s1 r)
    exact ⟨v, .ty t.name, .type T, .type t.name, _, rfl, .ty _, ty, kit_ty (kit_all (S := S1) hT t), by
      have := q1 H1 ρ1 (Ext.refl _ _) s1 _ (.p (.bool _))
      simpa using this⟩
theorem isi2_ok {n : Nat} {X : Cx} {W : WX} {F : Calls} {e : Expr} {ce : CE} {p q q2 q3 pos : Pos} {j : Nat} {t u : Ty} (c : Ctx L cA n X W) (hi : Gl X "isinstance") (hg : Gl X t.nm) (hg2 : Gl X u.nm) (hn : noStar e = true) (he : PE X e (tE X.K cA W F ce)) :
    PE X (.Call (.Name "isinstance" p) [e, .Tuple [.Name t.nm q, .Name u.nm q2] j q3] [] pos) (tE X.K cA W F (.isi ce [t, u])) :=
  PE.weak (pe_callB call_isiT hi (c.blt _ (by decide +kernel)) (by decide +kernel) (pa_cons he (pa_cons (pe_tup (pa_cons (pe_ty c t hg) (pa_cons (pe_ty c u hg2) pa_nil rfl) rfl)) pa_nil rfl) (noStar_ok hn _ _)) (by decide +kernel) (by decide +kernel) (noStar_ok hn _ _) rfl) fun σ H Q ⟨ρ, κ, Γ, S, s, l, z⟩ => by
    simp only [evE] at z
    refine tE.then s l z fun H1 ρ1 d S1 v e s1 l1 r q1 => ?_
    refine ⟨by show 2 ≤ sizeLine; decide, fun a ha => ?_⟩
    obtain ⟨s2, e2⟩ := s1.new (o := .tup [.ty t.name, .ty u.name]) ha
    have r2 := r.ext e2
    obtain ⟨T, hT, ty⟩ := tyX_of s2 r2 (loc_there s2 r2)
    exact ⟨v, a, [.ty t.name, .ty u.name], .type T, [.type t.name, .type u.name], _, rfl, upd_same, .cons (.ty _) (.cons (.ty _) .nil), ty, kitAny_all (S := S1) hT [t, u], q1 _ ρ1 e2 s2 _ (.p (.bool _))⟩
def certIsi {e : Expr} (a : CertE L cA sc N e) : (t : Expr) → (p pos : Pos) → Option (CertE L cA sc N (.Call (.Name "isinstance" p) [e, t] [] pos))
  | .Name y q, p, pos => if hi : isGl sc "isinstance" = true then if hg : isGl sc y = true then if hn : noStar e = true then (match ht : tyOf? y with
      | some t => some ⟨.isi a.ce [t], fun n X W c hs hN => by
          have hg' := isGl_ok (X := X) hg hs
          have e := tyOf?_nm ht
          subst e
          exact isi1_ok c (isGl_ok hi hs) hg' hn (a.ok n X W c hs hN)⟩
      | none => none) else none else none else none
  | .Tuple [.Name y q, .Name z q2] j q3, p, pos => if hi : isGl sc "isinstance" = true then if hg : isGl sc y = true ∧ isGl sc z = true then if hn : noStar e = true then (match ht : tyOf? y, hu : tyOf? z with
      | some t, some u => some ⟨.isi a.ce [t, u], fun n X W c hs hN => by
          have hg' := isGl_ok (X := X) hg.1 hs
          have hg2 := isGl_ok (X := X) hg.2 hs
          have e := tyOf?_nm ht
          subst e
          have e := tyOf?_nm hu
          subst e
          exact isi2_ok c (isGl_ok hi hs) hg' hg2 hn (a.ok n X W c hs hN)⟩
      | _, _ => none) else none else none else none
  | _, _, _ => none

/-! ### items, parts, displays -/
def plainIx : Expr → Bool
  | .Slice .. => false
  | _ => true
theorem plainIx_ok {b : Expr} (h : plainIx b = true) : PlainIx b := by
  cases b <;> first | (intro _ _; rfl) | cases h
theorem idx_ok {X : Cx} {W : WX} {F : Calls} {a b : Expr} {ca cb : CE} {pos : Pos} (hb : plainIx b = true) (pa : PE X a (tE X.K cA W F ca)) (pb : PE X b (tE X.K cA W F cb)) : PE X (.Subscript a b pos) (tE X.K cA W F (.idx ca cb)) :=
  PE.weak (pe_ix ix_D pa pb (plainIx_ok hb)) fun σ H Q ⟨ρ, κ, Γ, S, s, l, q⟩ => by
    simp only [evE] at q
    refine tE.then s l q fun H1 ρ1 d S1 v e s1 l1 r q1 => tE.then s1 l1 q1 fun H2 ρ2 d2 S2 w e2 s2 l2 r2 q2 => ?_
    obtain ⟨z, hz, g, _⟩ := PostE.ofO s2 q2
    exact ⟨ρ2, κ, S2, d, d2, z, s2, r.ext e2, r2, hz, g⟩
theorem part_int {d : D} {k : Option Int} (h : part? d = some k) : ∃ i, d = .p (.int i) ∧ k = some i := by
  unfold part? at h
  split at h
  · cases h; exact ⟨_, rfl, rfl⟩
  · cases h
theorem slcA_ok {X : Cx} {W : WX} {F : Calls} {a : Expr} {ca : CE} {pos p2 : Pos} (pa : PE X a (tE X.K cA W F ca)) : PE X (.Subscript a (.Slice none none none p2) pos) (tE X.K cA W F (.slcA ca)) :=
  PE.weak (pe_slice sl_D pa po_none po_none) fun σ H Q ⟨ρ, κ, Γ, S, s, l, q⟩ => by
    simp only [evE] at q
    refine tE.then s l q fun H1 ρ1 d S1 v e s1 l1 r q1 => ?_
    obtain ⟨z, hz, _, g⟩ := PostE.ofO s1 q1
    simp only [Option.map_eq_some_iff] at hz
    obtain ⟨y, hy, rfl⟩ := hz
    exact ⟨ρ1, κ, S1, d, y, s1, r, hy, fun H' e' s' v' r' => g H' ρ1 e' s' v' (.p r')⟩
theorem slcH_ok {X : Cx} {W : WX} {F : Calls} {a h : Expr} {ca ch : CE} {pos p2 : Pos} (pa : PE X a (tE X.K cA W F ca)) (ph : PE X h (tE X.K cA W F ch)) : PE X (.Subscript a (.Slice none (some h) none p2) pos) (tE X.K cA W F (.slcH ca ch)) :=
  PE.weak (pe_slice sl_D pa po_none (po_some ph)) fun σ H Q ⟨ρ, κ, Γ, S, s, l, q⟩ => by
    simp only [evE] at q
    refine tE.then s l q fun H1 ρ1 d S1 v e s1 l1 r q1 => tE.then s1 l1 q1 fun H2 ρ2 d2 S2 w e2 s2 l2 r2 q2 => ?_
    obtain ⟨z, hz, _, g⟩ := PostE.ofO s2 q2
    simp only [Option.map_eq_some_iff, Option.bind_eq_some_iff] at hz
    obtain ⟨y, ⟨k, hk, hy⟩, rfl⟩ := hz
    obtain ⟨i, rfl, rfl⟩ := part_int hk
    exact ⟨i, r2.int, ρ2, κ, S2, d, y, s2, r.ext e2, hy, fun H' e' s' v' r' => g H' ρ2 e' s' v' (.p r')⟩
theorem slcL_ok {X : Cx} {W : WX} {F : Calls} {a h : Expr} {ca ch : CE} {pos p2 : Pos} (pa : PE X a (tE X.K cA W F ca)) (ph : PE X h (tE X.K cA W F ch)) : PE X (.Subscript a (.Slice (some h) none none p2) pos) (tE X.K cA W F (.slcL ca ch)) :=
  PE.weak (pe_slice sl_D pa (po_some ph) po_none) fun σ H Q ⟨ρ, κ, Γ, S, s, l, q⟩ => by
    simp only [evE] at q
    refine tE.then s l q fun H1 ρ1 d S1 v e s1 l1 r q1 => tE.then s1 l1 q1 fun H2 ρ2 d2 S2 w e2 s2 l2 r2 q2 => ?_
    obtain ⟨z, hz, _, g⟩ := PostE.ofO s2 q2
    simp only [Option.map_eq_some_iff, Option.bind_eq_some_iff] at hz
    obtain ⟨y, ⟨k, hk, hy⟩, rfl⟩ := hz
    obtain ⟨i, rfl, rfl⟩ := part_int hk
    exact ⟨i, r2.int, ρ2, κ, S2, d, y, s2, r.ext e2, hy, fun H' e' s' v' r' => g H' ρ2 e' s' v' (.p r')⟩
theorem slcB_ok {X : Cx} {W : WX} {F : Calls} {a lo hi : Expr} {ca cl ch : CE} {pos p2 : Pos} (pa : PE X a (tE X.K cA W F ca)) (pl : PE X lo (tE X.K cA W F cl)) (ph : PE X hi (tE X.K cA W F ch)) : PE X (.Subscript a (.Slice (some lo) (some hi) none p2) pos) (tE X.K cA W F (.slcB ca cl ch)) :=
  PE.weak (pe_slice sl_D pa (po_some pl) (po_some ph)) fun σ H Q ⟨ρ, κ, Γ, S, s, l, q⟩ => by
    simp only [evE] at q
    refine tE.then s l q fun H1 ρ1 d S1 v e s1 l1 r q1 => tE.then s1 l1 q1 fun H2 ρ2 d2 S2 w e2 s2 l2 r2 q2 => ?_
    split at q2
    · exact q2.elim
    · rename_i k hk
      obtain ⟨i, rfl, rfl⟩ := part_int hk
      refine ⟨i, r2.int, tE.then s2 l2 q2 fun H3 ρ3 d3 S3 w3 e3 s3 l3 r3 q3 => ?_⟩
      obtain ⟨z, hz, _, g⟩ := PostE.ofO s3 q3
      simp only [Option.map_eq_some_iff, Option.bind_eq_some_iff] at hz
      obtain ⟨y, ⟨m, hm, hy⟩, rfl⟩ := hz
      obtain ⟨j, rfl, rfl⟩ := part_int hm
      exact ⟨j, r3.int, ρ3, κ, S3, d, y, s3, (r.ext e2).ext e3, hy, fun H' e' s' v' r' => g H' ρ3 e' s' v' (.p r')⟩
theorem rev_ok {X : Cx} {W : WX} {F : Calls} {a : Expr} {ca : CE} {k : Nat} {p1 p2 p3 pos : Pos} (pa : PE X a (tE X.K cA W F ca)) : PE X (.Subscript a (.Slice none none (some (.UnaryOp .USub (.Constant (.int 1) k p1) p2)) p3) pos) (tE X.K cA W F (.rev ca)) :=
  PE.weak (pe_revL pa) fun σ H Q ⟨ρ, κ, Γ, S, s, l, q⟩ => by
    simp only [evE] at q
    refine tE.then s l q fun H1 ρ1 d S1 v e s1 l1 r q1 => ?_
    split at q1
    · rename_i xs hx
      cases pureD_rep s1 r hx with
      | lst a n b =>
        refine ⟨_, _, rfl, a, fun p hp => ?_⟩
        exact Got.lst (S := S1) (fun H' e' s' v' r' => q1 H' ρ1 e' s' v' (.p r')) s1 (by rw [List.length_reverse]; exact n) b.rv p hp
    · exact q1.elim
theorem tup_ok {X : Cx} {W : WX} {F : Calls} {es : List Expr} {cl : CL} {j : Nat} {pos : Pos} (pa : PA X es (tL X.K cA W F cl)) : PE X (.Tuple es j pos) (tE X.K cA W F (.tup cl)) :=
  PE.weak (pe_tup pa) fun σ H Q ⟨ρ, κ, Γ, S, s, l, q⟩ => by
    simp only [evE] at q
    refine tL.then s l q fun H1 ρ1 ds S1 vs e s1 l1 r q1 => ?_
    split at q1
    · rename_i xs hx
      rw [allP_map hx] at r
      have rp := r.ps
      split at q1
      · rename_i hz
        rw [← rp.length] at hz
        exact ⟨hz, Got.tup (S := S1) (fun H' e' s' v' r' => q1 H' ρ1 e' s' v' (.p r')) s1 hz rp⟩
      · exact q1.elim
    · exact q1.elim
theorem lst_ok {X : Cx} {W : WX} {F : Calls} {es : List Expr} {cl : CL} {pos : Pos} (pa : PA X es (tL X.K cA W F cl)) : PE X (.List es pos) (tE X.K cA W F (.lst cl)) :=
  PE.weak (pe_lst pa) fun σ H Q ⟨ρ, κ, Γ, S, s, l, q⟩ => by
    simp only [evE] at q
    refine tL.then s l q fun H1 ρ1 ds S1 vs e s1 l1 r q1 => ?_
    split at q1
    · rename_i xs hx
      rw [allP_map hx] at r
      have rp := r.ps
      split at q1
      · rename_i hz
        rw [← rp.length] at hz
        exact ⟨hz, Got.lst (S := S1) (fun H' e' s' v' r' => q1 H' ρ1 e' s' v' (.p r')) s1 hz rp⟩
      · exact q1.elim
    · exact q1.elim
theorem mlst_ok {X : Cx} {W : WX} {F : Calls} {es : List Expr} {cl : CL} {pos : Pos} (pa : PA X es (tL X.K cA W F cl)) : PE X (.List es pos) (tE X.K cA W F (.mlst cl)) :=
  PE.weak (pe_lst pa) fun σ H Q ⟨ρ, κ, Γ, S, s, l, q⟩ => by
    simp only [evE] at q
    refine tL.then s l q fun H1 ρ1 ds S1 vs e s1 l1 r q1 => ?_
    split at q1
    · rename_i hz
      have hz' : vs.length ≤ sizeLine := by rw [← Paired.len r]; exact hz
      refine ⟨hz', fun p hp => ?_⟩
      obtain ⟨s2, e2⟩ := s1.cellNew hp hz' r
      refine q1 _ _ e2 s2 _ (.loc ?_)
      rw [← s1.len]
      simp
    · exact q1.elim
theorem madd_ok {X : Cx} {W : WX} {F : Calls} {a b : Expr} {ca cb : CE} {pos : Pos} (ha : PE X a (tE X.K cA W F ca)) (hb : PE X b (tE X.K cA W F cb)) : PE X (.BinOp a .Add b pos) (tE X.K cA W F (.madd ca cb)) :=
  PE.weak (pe_op op_cat ha hb) fun σ H Q ⟨ρ, κ, Γ, S, s, l, q⟩ => by
    simp only [evE] at q
    refine tE.then s l q fun H1 ρ1 d S1 v e s1 l1 r q1 => tE.then s1 l1 q1 fun H2 ρ2 d2 S2 w e2 s2 l2 r2 q2 => ?_
    split at q2
    · rename_i xs ys hx hy
      split at q2
      · rename_i c
        have va := pureM_rep s2 (r.ext e2) hx
        have vb := pureM_rep s2 r2 hy
        cases va with
        | lst h1 n1 p1 =>
          cases vb with
          | lst h2 n2 p2 =>
            rw [← p1.length, ← p2.length] at c
            refine ⟨_, _, _, _, rfl, rfl, h1, h2, c, fun p hp => ?_⟩
            obtain ⟨s3, e3⟩ := s2.cellNew hp (by rw [List.length_append]; exact c) (p1.app p2).ds
            refine q2 _ _ e3 s3 _ (.loc ?_)
            rw [← s2.len]
            simp
      · exact q2.elim
    · exact q2.elim
end
end Core
set_option Elab.async false
set_option linter.all false
set_option maxHeartbeats 1000000
/-! Core, part H: what a loop goes through; list comprehensions -/
namespace Core
open PySem PySem.W L2 PyProof.Rows
/-- the iterator J yields what the source r yields, in every later state -/
structure Fol (K : Frag) (κ : List Addr) (H : Hp) (ρ : List Addr) (r : Src) (J : It) : Prop where
  go : ∀ (H' : Hp) (ρ' κ' : List Addr) (S' : Store) (i : Nat) (d : D), Ext H ρ H' ρ' → (∀ b, H b ≠ none → Fb ρ' κ' b → Fb ρ κ b) → StRep K H' ρ' κ' S' → srcAt S' r i = some d → J.go i H'
  stop : ∀ (H' : Hp) (ρ' κ' : List Addr) (S' : Store) (i : Nat), Ext H ρ H' ρ' → (∀ b, H b ≠ none → Fb ρ' κ' b → Fb ρ κ b) → StRep K H' ρ' κ' S' → srcLen S' r = some i → J.stop i H'
  yld : ∀ (H' : Hp) (ρ' κ' : List Addr) (S' : Store) (i : Nat) (d : D) (x : V) (H'' : Hp), Ext H ρ H' ρ' → (∀ b, H b ≠ none → Fb ρ' κ' b → Fb ρ κ b) → StRep K H' ρ' κ' S' → srcAt S' r i = some d → J.yld i H' x H'' →
    Ext H' ρ' H'' ρ' ∧ StRep K H'' ρ' κ' S' ∧ RepD K H'' ρ' κ' d x
def tI (K : Frag) (cA : Nat → Addr) (W : WX) (F : Calls) (k : IK) (cl : CL) : TI := fun σ H R => ∃ ρ κ Γ S, StRep K H ρ κ S ∧ RepL K H ρ κ Γ σ ∧
  PostE K cA (fun cv d H' => W cv d σ H') κ H ρ (evL F cl Γ S) fun H1 ρ1 ds S1 => ∃ r, srcOf k ds = some r ∧ ∀ J, Fol K κ H1 ρ1 r J → (∀ n, srcLen S1 r = some n → n ≤ sizeLine) → R J H1
section
variable {K : Frag} {H : Hp} {ρ κ : List Addr} {S : Store}
theorem sqL_uniq {H : Hp} {a : Addr} {vs ws : List V} (h : H a = some (.lst vs)) (h2 : SqL K H a ws) (hK : K.lookup a = none ∨ True) : H a = some (.lst vs) := h
/-- a list that stands still -/
theorem fol_lst {a : Addr} {vs : List V} {xs : List PyData} (h : H a = some (.lst vs)) (nf : ¬ Fb ρ κ a) (n : vs.length ≤ sizeLine) (r : RepPs K H ρ κ xs vs) : Fol K κ H ρ (.lst xs) (Itl K a) := by
  have at' : ∀ (H' : Hp) (ρ' : List Addr), Ext H ρ H' ρ' → H' a = some (.lst vs) := fun H' ρ' e => e.keep a _ h fun z => nf (.inl z)
  have rp : ∀ (H' : Hp) (ρ' κ' : List Addr), Ext H ρ H' ρ' → (∀ b, H b ≠ none → Fb ρ' κ' b → Fb ρ κ b) → RepPs K H' ρ' κ' xs vs := fun H' ρ' κ' e f =>
    r.to e.tups e.frzs fun b ws q z => ⟨e.keep b _ q fun w => z (.inl w), fun w => z (f b (by rw [q]; simp) w)⟩
  refine ⟨fun H' ρ' κ' S' i d e f s q => ?_, fun H' ρ' κ' S' i e f s q => ?_, fun H' ρ' κ' S' i d x H'' e f s q y => ?_⟩
  · simp only [srcAt, Option.map_eq_some_iff] at q
    obtain ⟨x, hx, rfl⟩ := q
    obtain ⟨w, hw, _⟩ := r.get hx
    exact ⟨vs, w, .of (at' H' ρ' e), hw⟩
  · simp only [srcLen, Option.some.injEq] at q
    exact ⟨vs, .of (at' H' ρ' e), by rw [r.length, q]; exact Nat.le_refl _⟩
  · simp only [srcAt, Option.map_eq_some_iff] at q
    obtain ⟨z, hz, rfl⟩ := q
    obtain ⟨w, hw, rw'⟩ := (rp H' ρ' κ' e f).get hz
    obtain ⟨e', y⟩ := y
    subst e'
    have := y vs (.of (at' H'' ρ' e))
    rw [hw] at this
    cases this
    exact ⟨Ext.refl _ _, s, .p rw'⟩
theorem fol_ro {a : Addr} {vs : List V} {xs : List PyData} (h : RoL K H a vs) (n : vs.length ≤ sizeLine) (r : RepPs K H ρ κ xs vs) : Fol K κ H ρ (.lst xs) (Itl K a) := by
  have at' : ∀ (H' : Hp) (ρ' : List Addr), Ext H ρ H' ρ' → SqL K H' a vs := fun H' ρ' e => (h.ext e.frzs).sq
  have rp : ∀ (H' : Hp) (ρ' κ' : List Addr), Ext H ρ H' ρ' → (∀ b, H b ≠ none → Fb ρ' κ' b → Fb ρ κ b) → RepPs K H' ρ' κ' xs vs := fun H' ρ' κ' e f =>
    r.to e.tups e.frzs fun b ws q z => ⟨e.keep b _ q fun w => z (.inl w), fun w => z (f b (by rw [q]; simp) w)⟩
  refine ⟨fun H' ρ' κ' S' i d e f s q => ?_, fun H' ρ' κ' S' i e f s q => ?_, fun H' ρ' κ' S' i d x H'' e f s q y => ?_⟩
  · simp only [srcAt, Option.map_eq_some_iff] at q
    obtain ⟨x, hx, rfl⟩ := q
    obtain ⟨w, hw, _⟩ := r.get hx
    exact ⟨vs, w, at' H' ρ' e, hw⟩
  · simp only [srcLen, Option.some.injEq] at q
    exact ⟨vs, at' H' ρ' e, by rw [r.length, q]; exact Nat.le_refl _⟩
  · simp only [srcAt, Option.map_eq_some_iff] at q
    obtain ⟨z, hz, rfl⟩ := q
    obtain ⟨w, hw, rw'⟩ := (rp H' ρ' κ' e f).get hz
    obtain ⟨e', y⟩ := y
    subst e'
    have := y vs (at' H'' ρ' e)
    rw [hw] at this
    cases this
    exact ⟨Ext.refl _ _, s, .p rw'⟩
theorem fol_tup {a : Addr} {vs : List V} {xs : List PyData} (h : SqT K H a vs) (n : vs.length ≤ sizeLine) (r : RepPs K H ρ κ xs vs) : Fol K κ H ρ (.lst xs) (Itt K a) := by
  have at' : ∀ (H' : Hp) (ρ' : List Addr), Ext H ρ H' ρ' → SqT K H' a vs := fun H' ρ' e => sqT_of e.tups e.frzs h
  have rp : ∀ (H' : Hp) (ρ' κ' : List Addr), Ext H ρ H' ρ' → (∀ b, H b ≠ none → Fb ρ' κ' b → Fb ρ κ b) → RepPs K H' ρ' κ' xs vs := fun H' ρ' κ' e f =>
    r.to e.tups e.frzs fun b ws q z => ⟨e.keep b _ q fun w => z (.inl w), fun w => z (f b (by rw [q]; simp) w)⟩
  refine ⟨fun H' ρ' κ' S' i d e f s q => ?_, fun H' ρ' κ' S' i e f s q => ?_, fun H' ρ' κ' S' i d x H'' e f s q y => ?_⟩
  · simp only [srcAt, Option.map_eq_some_iff] at q
    obtain ⟨x, hx, rfl⟩ := q
    obtain ⟨w, hw, _⟩ := r.get hx
    exact ⟨vs, w, at' H' ρ' e, hw⟩
  · simp only [srcLen, Option.some.injEq] at q
    exact ⟨vs, at' H' ρ' e, by rw [r.length, q]; exact Nat.le_refl _⟩
  · simp only [srcAt, Option.map_eq_some_iff] at q
    obtain ⟨z, hz, rfl⟩ := q
    obtain ⟨w, hw, rw'⟩ := (rp H' ρ' κ' e f).get hz
    obtain ⟨e', y⟩ := y
    subst e'
    have := y vs (at' H'' ρ' e)
    rw [hw] at this
    cases this
    exact ⟨Ext.refl _ _, s, .p rw'⟩
theorem fol_str {x : Str} : Fol K κ H ρ (.lst (signs x)) (Its x) := by
  have len : (signs x).length = x.cps.size := by simp [signs]
  have at' : ∀ {i : Nat} {z : PyData}, (signs x)[i]? = some z → ∃ c, x.cps[i]? = some c ∧ z = .str ⟨#[c]⟩ := fun {i z} h => by
    simp only [signs, List.getElem?_map, Option.map_eq_some_iff] at h
    obtain ⟨c, h1, h2⟩ := h
    exact ⟨c, by simpa using h1, h2.symm⟩
  refine ⟨fun H' ρ' κ' S' i d e f s q => ?_, fun H' ρ' κ' S' i e f s q => ?_, fun H' ρ' κ' S' i d v H'' e f s q y => ?_⟩
  · simp only [srcAt, Option.map_eq_some_iff] at q
    obtain ⟨z, hz, rfl⟩ := q
    obtain ⟨w, _⟩ := List.getElem?_eq_some_iff.mp hz
    show i < x.cps.size
    omega
  · simp only [srcLen, Option.some.injEq] at q
    show x.cps.size ≤ i
    omega
  · simp only [srcAt, Option.map_eq_some_iff] at q
    obtain ⟨z, hz, rfl⟩ := q
    obtain ⟨c, hc, rfl⟩ := at' hz
    obtain ⟨e', c', hc', hv⟩ := y
    subst e' hv
    rw [hc] at hc'
    cases hc'
    exact ⟨Ext.refl _ _, s, .p (.str _)⟩
theorem fol_loc {n : Nat} {a : Addr} (h : ρ[n]? = some a) : Fol K κ H ρ (.loc n) (Itl K a) := by
  have key : ∀ {H' : Hp} {ρ' κ' : List Addr} {S' : Store} {xs : List D}, Ext H ρ H' ρ' → StRep K H' ρ' κ' S' → elems S' (.loc n) = some xs → ∃ vs, H' a = some (.lst vs) ∧ RepDs K H' ρ' κ' xs vs := fun {H' ρ' κ' S' xs} e s q => by
    simp only [elems] at q
    split at q
    · rename_i ys hy
      cases q
      obtain ⟨vs, w, _, r⟩ := s.lst (e.at h) hy
      exact ⟨vs, w, r⟩
    · cases q
  refine ⟨fun H' ρ' κ' S' i d e f s q => ?_, fun H' ρ' κ' S' i e f s q => ?_, fun H' ρ' κ' S' i d x H'' e f s q y => ?_⟩
  · simp only [srcAt, Option.bind_eq_some_iff] at q
    obtain ⟨xs, hx, hd⟩ := q
    obtain ⟨vs, w, r⟩ := key e s hx
    obtain ⟨v, hv, _⟩ := Paired.get' r hd
    exact ⟨vs, v, .of w, hv⟩
  · simp only [srcLen, Option.map_eq_some_iff] at q
    obtain ⟨xs, hx, hd⟩ := q
    obtain ⟨vs, w, r⟩ := key e s hx
    exact ⟨vs, .of w, by rw [← Paired.len r, hd]; exact Nat.le_refl _⟩
  · simp only [srcAt, Option.bind_eq_some_iff] at q
    obtain ⟨xs, hx, hd⟩ := q
    obtain ⟨vs, w, r⟩ := key e s hx
    obtain ⟨v, hv, rv⟩ := Paired.get' r hd
    obtain ⟨e', y⟩ := y
    subst e'
    have := y vs (.of w)
    rw [hv] at this
    cases this
    exact ⟨Ext.refl _ _, s, rv⟩
theorem fol_rng {lo : Int} {n : Nat} : Fol K κ H ρ (.rng lo n) (Itr lo n) := by
  refine ⟨fun H' ρ' κ' S' i d e f s q => ?_, fun H' ρ' κ' S' i e f s q => ?_, fun H' ρ' κ' S' i d x H'' e f s q y => ?_⟩
  · simp only [srcAt] at q
    split at q
    · assumption
    · cases q
  · simp only [srcLen, Option.some.injEq] at q
    show n ≤ i
    omega
  · simp only [srcAt] at q
    split at q
    · cases q
      obtain ⟨e', y⟩ := y
      subst e' y
      exact ⟨Ext.refl _ _, s, .p (.int _)⟩
    · cases q
theorem RepPs.move {H' : Hp} {ρ' κ' : List Addr} {xs : List PyData} {vs : List V} (r : RepPs K H ρ κ xs vs) (e : Ext H ρ H' ρ') (f : ∀ b, H b ≠ none → Fb ρ' κ' b → Fb ρ κ b) : RepPs K H' ρ' κ' xs vs :=
  r.to e.tups e.frzs fun b ws q z => ⟨e.keep b _ q fun w => z (.inl w), fun w => z (f b (by rw [q]; simp) w)⟩
theorem pair_new {x y : PyData} {v w : V} {T : Addr} (s : StRep K H ρ κ S) (h : H T = none) (rx : RepP K H ρ κ x v) (ry : RepP K H ρ κ y w) :
    Ext H ρ (upd H T (.tup [v, w])) ρ ∧ StRep K (upd H T (.tup [v, w])) ρ κ S ∧ RepD K (upd H T (.tup [v, w])) ρ κ (.p (.tuple [x, y])) (.ref T) := by
  obtain ⟨s1, e⟩ := s.new (o := .tup [v, w]) h
  exact ⟨e, s1, .p (.tup (.of upd_same) (by show 2 ≤ sizeLine; decide) (.cons (rx.ext e) (.cons (ry.ext e) .nil)))⟩
theorem fol_zipT {a b : Addr} {vs ws : List V} {xs ys : List PyData} (h : SqT K H a vs) (h2 : SqT K H b ws) (r : RepPs K H ρ κ xs vs) (r2 : RepPs K H ρ κ ys ws) : Fol K κ H ρ (.zip xs ys) (RZ.ItzT K a b) := by
  have at1 : ∀ (H' : Hp) (ρ' : List Addr), Ext H ρ H' ρ' → SqT K H' a vs := fun H' ρ' e => sqT_of e.tups e.frzs h
  have at2 : ∀ (H' : Hp) (ρ' : List Addr), Ext H ρ H' ρ' → SqT K H' b ws := fun H' ρ' e => sqT_of e.tups e.frzs h2
  refine ⟨fun H' ρ' κ' S' i d e f s q => ?_, fun H' ρ' κ' S' i e f s q => ?_, fun H' ρ' κ' S' i d x H'' e f s q y => ?_⟩
  · simp only [srcAt] at q
    split at q
    · rename_i x y hx hy
      obtain ⟨v, hv, _⟩ := r.get hx
      obtain ⟨w, hw, _⟩ := r2.get hy
      exact ⟨vs, ws, v, w, at1 H' ρ' e, at2 H' ρ' e, hv, hw⟩
    · cases q
  · simp only [srcLen, Option.some.injEq] at q
    refine ⟨vs, ws, at1 H' ρ' e, at2 H' ρ' e, ?_⟩
    rw [r.length, r2.length]
    omega
  · simp only [srcAt] at q
    split at q
    · rename_i p1 p2 hx hy
      cases q
      obtain ⟨v, hv, rv⟩ := (r.move e f).get hx
      obtain ⟨w, hw, rw'⟩ := (r2.move e f).get hy
      obtain ⟨T, v', w', rfl, hT, rfl, y1, y2⟩ := y
      have q1 := y1 vs (at1 H' ρ' e)
      have q2 := y2 ws (at2 H' ρ' e)
      rw [hv] at q1
      rw [hw] at q2
      cases q1
      cases q2
      exact pair_new s hT rv rw'
    · cases q
theorem fol_zipL {a b : Addr} {vs ws : List V} {xs ys : List PyData} (h : H a = some (.lst vs)) (nf : ¬ Fb ρ κ a) (h2 : H b = some (.lst ws)) (nf2 : ¬ Fb ρ κ b) (r : RepPs K H ρ κ xs vs) (r2 : RepPs K H ρ κ ys ws) : Fol K κ H ρ (.zip xs ys) (Itz K a b) := by
  have at1 : ∀ (H' : Hp) (ρ' : List Addr), Ext H ρ H' ρ' → SqL K H' a vs := fun H' ρ' e => .of (e.keep a _ h fun z => nf (.inl z))
  have at2 : ∀ (H' : Hp) (ρ' : List Addr), Ext H ρ H' ρ' → SqL K H' b ws := fun H' ρ' e => .of (e.keep b _ h2 fun z => nf2 (.inl z))
  refine ⟨fun H' ρ' κ' S' i d e f s q => ?_, fun H' ρ' κ' S' i e f s q => ?_, fun H' ρ' κ' S' i d x H'' e f s q y => ?_⟩
  · simp only [srcAt] at q
    split at q
    · rename_i x y hx hy
      obtain ⟨v, hv, _⟩ := r.get hx
      obtain ⟨w, hw, _⟩ := r2.get hy
      exact ⟨vs, ws, v, w, at1 H' ρ' e, at2 H' ρ' e, hv, hw⟩
    · cases q
  · simp only [srcLen, Option.some.injEq] at q
    refine ⟨vs, ws, at1 H' ρ' e, at2 H' ρ' e, ?_⟩
    rw [r.length, r2.length]
    omega
  · simp only [srcAt] at q
    split at q
    · rename_i p1 p2 hx hy
      cases q
      obtain ⟨v, hv, rv⟩ := (r.move e f).get hx
      obtain ⟨w, hw, rw'⟩ := (r2.move e f).get hy
      obtain ⟨T, v', w', rfl, hT, rfl, y1, y2⟩ := y
      have q1 := y1 vs (at1 H' ρ' e)
      have q2 := y2 ws (at2 H' ρ' e)
      rw [hv] at q1
      rw [hw] at q2
      cases q1
      cases q2
      exact pair_new s hT rv rw'
    · cases q
theorem fol_enum {a : Addr} {vs : List V} {xs : List PyData} (h : H a = some (.lst vs)) (nf : ¬ Fb ρ κ a) (r : RepPs K H ρ κ xs vs) : Fol K κ H ρ (.enum xs) (Ite K a) := by
  have at1 : ∀ (H' : Hp) (ρ' : List Addr), Ext H ρ H' ρ' → SqL K H' a vs := fun H' ρ' e => .of (e.keep a _ h fun z => nf (.inl z))
  refine ⟨fun H' ρ' κ' S' i d e f s q => ?_, fun H' ρ' κ' S' i e f s q => ?_, fun H' ρ' κ' S' i d x H'' e f s q y => ?_⟩
  · simp only [srcAt, Option.map_eq_some_iff] at q
    obtain ⟨x, hx, rfl⟩ := q
    obtain ⟨v, hv, _⟩ := r.get hx
    exact ⟨vs, v, at1 H' ρ' e, hv⟩
  · simp only [srcLen, Option.some.injEq] at q
    refine ⟨vs, at1 H' ρ' e, ?_⟩
    rw [r.length]
    omega
  · simp only [srcAt, Option.map_eq_some_iff] at q
    obtain ⟨p1, hx, rfl⟩ := q
    obtain ⟨v, hv, rv⟩ := (r.move e f).get hx
    obtain ⟨T, v', rfl, hT, rfl, y1⟩ := y
    have q1 := y1 vs (at1 H' ρ' e)
    rw [hv] at q1
    cases q1
    exact pair_new s hT (.int _) rv
theorem fol_enuml {n : Nat} {a : Addr} (h : ρ[n]? = some a) : Fol K κ H ρ (.enuml n) (Ite K a) := by
  have key : ∀ {H' : Hp} {ρ' κ' : List Addr} {S' : Store} {xs : List D}, Ext H ρ H' ρ' → StRep K H' ρ' κ' S' → elems S' (.loc n) = some xs → ∃ vs, H' a = some (.lst vs) ∧ RepDs K H' ρ' κ' xs vs := fun {H' ρ' κ' S' xs} e s q => by
    simp only [elems] at q
    split at q
    · rename_i ys hy
      cases q
      obtain ⟨vs, w, _, r⟩ := s.lst (e.at h) hy
      exact ⟨vs, w, r⟩
    · cases q
  refine ⟨fun H' ρ' κ' S' i d e f s q => ?_, fun H' ρ' κ' S' i e f s q => ?_, fun H' ρ' κ' S' i d x H'' e f s q y => ?_⟩
  · simp only [srcAt, Option.bind_eq_some_iff] at q
    obtain ⟨xs, hx, hd⟩ := q
    obtain ⟨vs, w, r⟩ := key e s hx
    split at hd
    · rename_i z hz
      obtain ⟨v, hv, _⟩ := Paired.get' r hz
      exact ⟨vs, v, .of w, hv⟩
    · cases hd
  · simp only [srcLen, Option.map_eq_some_iff] at q
    obtain ⟨xs, hx, hd⟩ := q
    obtain ⟨vs, w, r⟩ := key e s hx
    exact ⟨vs, .of w, by rw [← Paired.len r, hd]; exact Nat.le_refl _⟩
  · simp only [srcAt, Option.bind_eq_some_iff] at q
    obtain ⟨xs, hx, hd⟩ := q
    obtain ⟨vs, w, r⟩ := key e s hx
    split at hd
    · rename_i z hz
      cases hd
      obtain ⟨v, hv, rv⟩ := Paired.get' r hz
      obtain ⟨T, v', rfl, hT, rfl, y1⟩ := y
      have q1 := y1 vs (.of w)
      rw [hv] at q1
      cases q1
      cases rv with
      | p rv => exact pair_new s hT (.int _) rv
    · cases hd
end

/-! ### the sources -/
section
variable {L : Law} {cA : Nat → Addr} {sc : Scope} {N : List Str}
theorem len_lst {xs : List PyData} {vs : List V} {K : Frag} {H : Hp} {ρ κ : List Addr} {S : Store} (r : RepPs K H ρ κ xs vs) (n : vs.length ≤ sizeLine) : ∀ m, srcLen S (.lst xs) = some m → m ≤ sizeLine := fun m h => by
  simp only [srcLen, Option.some.injEq] at h
  rw [← h, ← r.length]
  exact n
theorem len_enum {xs : List PyData} {vs : List V} {K : Frag} {H : Hp} {ρ κ : List Addr} {S : Store} (r : RepPs K H ρ κ xs vs) (n : vs.length ≤ sizeLine) : ∀ m, srcLen S (.enum xs) = some m → m ≤ sizeLine := fun m h => by
  simp only [srcLen, Option.some.injEq] at h
  rw [← h, ← r.length]
  exact n
theorem len_zip {xs ys : List PyData} {vs : List V} {K : Frag} {H : Hp} {ρ κ : List Addr} {S : Store} (r : RepPs K H ρ κ xs vs) (n : vs.length ≤ sizeLine) : ∀ m, srcLen S (.zip xs ys) = some m → m ≤ sizeLine := fun m h => by
  simp only [srcLen, Option.some.injEq] at h
  rw [← h]
  have := r.length
  omega
theorem len_loc {i : Nat} {a : Addr} {K : Frag} {H : Hp} {ρ κ : List Addr} {S : Store} (s : StRep K H ρ κ S) (e : ρ[i]? = some a) : ∀ m, (srcLen S (.loc i) = some m ∨ srcLen S (.enuml i) = some m) → m ≤ sizeLine := fun m h => by
  have h : (elems S (.loc i)).map (·.length) = some m := h.elim id id
  simp only [Option.map_eq_some_iff, elems] at h
  obtain ⟨xs, h1, h2⟩ := h
  split at h1
  · rename_i ys hy
    cases h1
    obtain ⟨vs, _, n, r⟩ := s.lst e hy
    rw [← h2, Paired.len r]
    exact n
  · cases h1
theorem len_rng {lo : Int} {k : Nat} {S : Store} (h : k ≤ 2 ^ 24) : ∀ m, srcLen S (.rng lo k) = some m → m ≤ sizeLine := fun m e => by
  simp only [srcLen, Option.some.injEq] at e
  rw [← e, sizeLine_eq]
  exact h
theorem PI.weak {X : Cx} {tg e : Expr} {t t' : TI} (h : PI X tg e t) (f : ∀ σ H R, t' σ H R → t σ H R) : PI X tg e t' := ⟨fun pins s σ H R I q => h.run pins s σ H R I (f σ H R q)⟩
/-- a list, a tuple, a text -/
theorem seq_ok {X : Cx} {W : WX} {F : Calls} {tg e : Expr} {ce : CE} (he : PE X e (tE X.K cA W F ce)) : PI X tg e (tI X.K cA W F .seq (.cons ce .nil)) := by
  refine ⟨fun pins s σ H R I ⟨ρ, κ, Γ, S, st, l, q⟩ => ?_⟩
  simp only [evL] at q
  cases h : evE F ce Γ S with
  | stuck => rw [h] at q; exact q.elim
  | exc c fs S1 =>
    refine (pi_list he).run pins s σ H R I ⟨ρ, κ, Γ, S, st, l, ?_⟩
    rw [h] at q ⊢
    exact q
  | ok d S1 =>
    have q2 : ∀ H1 ρ1, Ext H ρ H1 ρ1 → StRep X.K H1 ρ1 κ S1 → ∃ r, srcOf .seq [d] = some r ∧ ∀ J, Fol X.K κ H1 ρ1 r J → (∀ n, srcLen S1 r = some n → n ≤ sizeLine) → R J H1 := by
      rw [h] at q
      exact q
    have go : ∀ {Q : VK}, (∀ H1 ρ1 v, Ext H ρ H1 ρ1 → StRep X.K H1 ρ1 κ S1 → RepD X.K H1 ρ1 κ d v → Q v H1) → tE X.K cA W F ce σ H Q := fun {Q} g => ⟨ρ, κ, Γ, S, st, l, by
      rw [h]
      exact fun H1 ρ1 e1 s1 v r => g H1 ρ1 v e1 s1 r⟩
    cases d with
    | p y =>
      cases y with
      | list xs =>
        refine (pi_list he).run pins s σ H R I (go fun H1 ρ1 v e1 s1 r => ?_)
        obtain ⟨z, hz, g⟩ := q2 H1 ρ1 e1 s1
        simp only [srcOf, srcSeq, Option.some.injEq] at hz
        subst hz
        cases r with
        | p r =>
          cases r with
          | lst a b n c => exact ⟨_, rfl, ⟨_, .of a⟩, g _ (fol_lst a b n c) (len_lst c n)⟩
      | tuple xs =>
        refine (pi_tup he).run pins s σ H R I (go fun H1 ρ1 v e1 s1 r => ?_)
        obtain ⟨z, hz, g⟩ := q2 H1 ρ1 e1 s1
        simp only [srcOf, srcSeq, Option.some.injEq] at hz
        subst hz
        cases r with
        | p r =>
          cases r with
          | tup a n c => exact ⟨_, rfl, ⟨_, a⟩, g _ (fol_tup a n c) (len_lst c n)⟩
      | str x =>
        refine (pi_str he).run pins s σ H R I (go fun H1 ρ1 v e1 s1 r => ?_)
        obtain ⟨z, hz, g⟩ := q2 H1 ρ1 e1 s1
        simp only [srcOf, srcSeq] at hz
        split at hz
        · cases hz
          exact ⟨x, r.str, g _ fol_str fun m h => by
            simp only [srcLen, signs, List.length_map, Option.some.injEq] at h
            have h2 : x.length ≤ sizeLine := by assumption
            rw [← h]
            exact h2⟩
        · cases hz
      | none => exact ((pi_list he).run pins s σ H R I (go fun H1 ρ1 v e1 s1 r => by obtain ⟨z, hz, _⟩ := q2 H1 ρ1 e1 s1; cases hz))
      | bool _ => exact ((pi_list he).run pins s σ H R I (go fun H1 ρ1 v e1 s1 r => by obtain ⟨z, hz, _⟩ := q2 H1 ρ1 e1 s1; cases hz))
      | int _ => exact ((pi_list he).run pins s σ H R I (go fun H1 ρ1 v e1 s1 r => by obtain ⟨z, hz, _⟩ := q2 H1 ρ1 e1 s1; cases hz))
      | dict _ => exact ((pi_list he).run pins s σ H R I (go fun H1 ρ1 v e1 s1 r => by obtain ⟨z, hz, _⟩ := q2 H1 ρ1 e1 s1; cases hz))
    | ro xs =>
      refine (pi_list he).run pins s σ H R I (go fun H1 ρ1 v e1 s1 r => ?_)
      obtain ⟨z, hz, g⟩ := q2 H1 ρ1 e1 s1
      simp only [srcOf, srcSeq, Option.some.injEq] at hz
      subst hz
      cases r with
      | ro a n c => exact ⟨_, rfl, ⟨_, a.sq⟩, g _ (fol_ro a n c) (len_lst c n)⟩
    | loc n =>
      refine (pi_list he).run pins s σ H R I (go fun H1 ρ1 v e1 s1 r => ?_)
      obtain ⟨z, hz, g⟩ := q2 H1 ρ1 e1 s1
      simp only [srcOf, srcSeq, Option.some.injEq] at hz
      subst hz
      obtain ⟨c, hc⟩ := loc_there s1 r n rfl
      cases r with
      | loc e2 =>
        cases c with
        | lst ds =>
          obtain ⟨vs, w, _⟩ := s1.lst e2 hc
          exact ⟨_, rfl, ⟨_, .of w⟩, g _ (fol_loc e2) fun m h => len_loc s1 e2 m (.inl h)⟩
theorem rng1_ok {n : Nat} {X : Cx} {W : WX} {F : Calls} {tg a : Expr} {cl : CL} {p pos : Pos} (c : Ctx L cA n X W) (hg : Gl X "range") (hn : noStar a = true) (ha : PA X [a] (tL X.K cA W F cl)) : PI X tg (.Call (.Name "range" p) [a] [] pos) (tI X.K cA W F .rng1 cl) :=
  PI.weak (pi_range1 hg (c.blt _ (by decide +kernel)) ha (noStar_ok hn _ _)) fun σ H R ⟨ρ, κ, Γ, S, s, l, q⟩ => by
    refine ⟨ρ, κ, Γ, S, s, l, PostE.imp q fun H1 ρ1 ds S1 e1 s1 ⟨z, hz, g⟩ vs r => ?_⟩
    have hz : srcR1 ds = some z := hz
    unfold srcR1 at hz
    split at hz <;> first | (cases hz; done) | skip
    all_goals first | (rename_i e; cases e; done) | skip
    split at hz
    · rename_i j hj
      cases hz
      obtain ⟨v, rfl, rv⟩ := one_of (ds := []) r
      have e := rv.int
      subst e
      exact ⟨_, rfl, hj.1, by omega, g _ fol_rng (len_rng (by omega))⟩
    · cases hz
theorem rng2_ok {n : Nat} {X : Cx} {W : WX} {F : Calls} {tg a b : Expr} {cl : CL} {p pos : Pos} (c : Ctx L cA n X W) (hg : Gl X "range") (hn : noStar a = true) (hn2 : noStar b = true) (ha : PA X [a, b] (tL X.K cA W F cl)) : PI X tg (.Call (.Name "range" p) [a, b] [] pos) (tI X.K cA W F .rng2 cl) :=
  PI.weak (pi_range2 hg (c.blt _ (by decide +kernel)) ha (by rw [noStar_ok hn, noStar_ok hn2]; rfl) (noStar_ok hn2 _ _)) fun σ H R ⟨ρ, κ, Γ, S, s, l, q⟩ => by
    refine ⟨ρ, κ, Γ, S, s, l, PostE.imp q fun H1 ρ1 ds S1 e1 s1 ⟨z, hz, g⟩ vs r => ?_⟩
    have hz : srcR2 ds = some z := hz
    unfold srcR2 at hz
    split at hz <;> first | (cases hz; done) | skip
    all_goals first | (rename_i e; cases e; done) | skip
    split at hz
    · rename_i i j hj
      cases hz
      obtain ⟨v, w, rfl, rv, rw'⟩ := two_of r
      have e := rv.int
      have e2 := rw'.int
      subst e e2
      exact ⟨_, _, rfl, ⟨hj.1, hj.2.1, hj.2.2.1, hj.2.2.2.1⟩, g _ fol_rng (len_rng (by omega))⟩
    · cases hz
theorem zip_ok {n : Nat} {X : Cx} {W : WX} {F : Calls} {a b : Expr} {cl : CL} {p pos tpos : Pos} {elts : List Expr} {kk : Nat} (c : Ctx L cA n X W) (hg : Gl X "zip") (hn : noStar a = true) (hn2 : noStar b = true) (ha : PA X [a, b] (tL X.K cA W F cl)) :
    PI X (.Tuple elts kk tpos) (.Call (.Name "zip" p) [a, b] [] pos) (tI X.K cA W F .zip cl) :=
  PI.weak (RZ.pi_zipA hg (c.blt _ (by decide +kernel)) ha (noStar_ok hn _ _) (by rw [noStar_ok hn2]; rfl)) fun σ H R ⟨ρ, κ, Γ, S, s, l, q⟩ => by
    refine ⟨ρ, κ, Γ, S, s, l, PostE.imp q fun H1 ρ1 ds S1 e1 s1 ⟨z, hz, g⟩ vs r => ?_⟩
    have hz : srcZip ds = some z := hz
    unfold srcZip at hz
    split at hz <;> first | (cases hz; done) | skip
    all_goals first | (rename_i e; cases e; done) | skip
    · cases hz
      obtain ⟨v, w, rfl, rv, rw'⟩ := two_of r
      cases rv with
      | p rv =>
        cases rw' with
        | p rw' =>
          cases rv with
          | tup x1 x2 x3 =>
            cases rw' with
            | tup y1 y2 y3 => exact ⟨_, _, _, _, rfl, .inr ⟨x1, y1, g _ (fol_zipT x1 y1 x3 y3) (len_zip x3 x2)⟩⟩
    · cases hz
      obtain ⟨v, w, rfl, rv, rw'⟩ := two_of r
      cases rv with
      | p rv =>
        cases rw' with
        | p rw' =>
          cases rv with
          | lst x1 x0 x2 x3 =>
            cases rw' with
            | lst y1 y0 y2 y3 => exact ⟨_, _, _, _, rfl, .inl ⟨.of x1, .of y1, g _ (fol_zipL x1 x0 y1 y0 x3 y3) (len_zip x3 x2)⟩⟩
theorem enum_ok {n : Nat} {X : Cx} {W : WX} {F : Calls} {a : Expr} {cl : CL} {p pos tpos : Pos} {elts : List Expr} {kk : Nat} (c : Ctx L cA n X W) (hg : Gl X "enumerate") (hn : noStar a = true) (ha : PA X [a] (tL X.K cA W F cl)) :
    PI X (.Tuple elts kk tpos) (.Call (.Name "enumerate" p) [a] [] pos) (tI X.K cA W F .enum cl) :=
  PI.weak (pi_enum hg (c.blt _ (by decide +kernel)) ha (noStar_ok hn _ _)) fun σ H R ⟨ρ, κ, Γ, S, s, l, q⟩ => by
    refine ⟨ρ, κ, Γ, S, s, l, PostE.imp q fun H1 ρ1 ds S1 e1 s1 ⟨z, hz, g⟩ vs r => ?_⟩
    have hz : srcEnum ds = some z := hz
    unfold srcEnum at hz
    split at hz <;> first | (cases hz; done) | skip
    all_goals first | (rename_i e; cases e; done) | skip
    · cases hz
      obtain ⟨v, rfl, rv⟩ := one_of (ds := []) r
      cases rv with
      | p rv =>
        cases rv with
        | lst x1 x0 x2 x3 => exact ⟨_, _, rfl, .of x1, g _ (fol_enum x1 x0 x3) (len_enum x3 x2)⟩
    · cases hz
      obtain ⟨v, rfl, rv⟩ := one_of (ds := []) r
      obtain ⟨c, hc⟩ := loc_there s1 rv _ rfl
      cases rv with
      | loc e2 =>
        cases c with
        | lst ds =>
          obtain ⟨vs, w, _⟩ := s1.lst e2 hc
          exact ⟨_, _, rfl, .of w, g _ (fol_enuml e2) fun m h => len_loc s1 e2 m (.inr h)⟩
end
end Core
set_option Elab.async false
set_option linter.all false
set_option maxHeartbeats 1000000
/-! Core, part I: targets; list comprehensions -/
namespace Core
open PySem PySem.W L2 PyProof.Rows
def ntSlots : NT → List Nat
  | .nm i => [i]
  | .nil => []
  | .cons a r => ntSlots a ++ ntSlots r
/-- a target: what the names hold behind it; no other name is changed -/
def gD (K : Frag) (t : NT) : TG := fun v σ H Q => ∃ ρ κ Γ S d Γ', StRep K H ρ κ S ∧ RepL K H ρ κ Γ σ ∧ RepD K H ρ κ d v ∧ bindNT t d Γ = some Γ' ∧
  ∀ σ', RepL K H ρ κ Γ' σ' → (∀ ws : List Nat, (∀ i ∈ ntSlots t, i ∈ ws) → wipe σ' ws = wipe σ ws) → Q σ' H
theorem PG.weak {X : Cx} {e : Expr} {t t' : TG} (h : PG X e t) (f : ∀ v σ H Q, t' v σ H Q → t v σ H Q) : PG X e t' := ⟨fun pins s σ H v u Q I r q => h.run pins s σ H v u Q I r (f v σ H Q q)⟩
theorem wipe_set {i : Nat} {o : Option V} : ∀ {ws : List Nat} {σ : L2.St}, i ∈ ws → wipe (σ.set i o) ws = wipe σ ws
  | [], _, h => by cases h
  | w :: ws, σ, h => by
    have comm : ∀ {ws : List Nat} {σ : L2.St} {i j : Nat} {a b : Option V}, i ≠ j → (wipe σ ws) = wipe σ ws := fun _ => rfl
    unfold wipe
    by_cases hm : i ∈ ws
    · rw [wipe_set hm]
    · have e : i = w := by
        rcases List.mem_cons.mp h with e | e
        · exact e
        · exact absurd e hm
      subst e
      have key : ∀ (ws : List Nat) (σ : L2.St), i ∉ ws → (wipe (σ.set i o) ws).set i none = (wipe σ ws).set i none := by
        intro ws
        induction ws with
        | nil => intro σ _; show (σ.set i o).set i none = σ.set i none; rw [List.set_set]
        | cons v vs ih =>
          intro σ hn
          simp only [List.mem_cons, not_or] at hn
          unfold wipe
          rw [List.set_comm _ _ (fun e => hn.1 e.symm), ih σ hn.2, List.set_comm _ _ hn.1]
      exact key ws σ hm
theorem wipe_wipe (σ : L2.St) (ws : List Nat) : wipe (wipe σ ws) ws = wipe σ ws := by
  have key : ∀ (vs : List Nat), (∀ i ∈ vs, i ∈ ws) → wipe (wipe σ vs) ws = wipe σ ws := by
    intro vs
    induction vs with
    | nil => intro _; rfl
    | cons v vs ih =>
      intro h
      show wipe ((wipe σ vs).set v none) ws = _
      rw [wipe_set (h v List.mem_cons_self)]
      exact ih fun i hi => h i (List.mem_cons_of_mem _ hi)
  exact key ws fun _ h => h
theorem RepL.wipe {K : Frag} {H : Hp} {ρ κ : List Addr} {Γ : Loc} {σ : L2.St} (l : RepL K H ρ κ Γ σ) : ∀ ws : List Nat, RepL K H ρ κ (wipeL Γ ws) (L2.wipe σ ws)
  | [] => l
  | w :: ws => Paired.set' (.un none) w (RepL.wipe l ws)
theorem gname_ok {X : Cx} {i : Nat} {x : Str} {pos : Pos} (h : PG X (.Name x pos) (gName i)) : PG X (.Name x pos) (gD X.K (.nm i)) :=
  PG.weak h fun v σ H Q ⟨ρ, κ, Γ, S, d, Γ', s, l, r, e, q⟩ => by
    simp only [bindNT, Option.some.injEq] at e
    subst e
    exact q _ (Paired.set' (.an r) i l) fun ws hw => wipe_set (hw i (by simp [ntSlots]))
/-- the parts of a tuple target -/
def gDs (K : Frag) (t : NT) : TGs := fun vs σ H Q => ∃ ρ κ Γ S xs Γ', StRep K H ρ κ S ∧ RepL K H ρ κ Γ σ ∧ RepPs K H ρ κ xs vs ∧ bindNT t (.p (.tuple xs)) Γ = some Γ' ∧
  ∀ σ', RepL K H ρ κ Γ' σ' → (∀ ws : List Nat, (∀ i ∈ ntSlots t, i ∈ ws) → wipe σ' ws = wipe σ ws) → Q σ' H
theorem PGs.weak {X : Cx} {e : List Expr} {t t' : TGs} (h : PGs X e t) (f : ∀ v σ H Q, t' v σ H Q → t v σ H Q) : PGs X e t' := ⟨fun pins s σ H v u Q I r q => h.run pins s σ H v u Q I r (f v σ H Q q)⟩
def ntLen : NT → Option Nat
  | .nil => some 0
  | .cons _ r => (ntLen r).map (· + 1)
  | .nm _ => none
theorem bind_len : ∀ {t : NT} {n : Nat} {xs : List PyData} {Γ Γ' : Loc}, ntLen t = some n → bindNT t (.p (.tuple xs)) Γ = some Γ' → xs.length = n
  | .nil, n, xs, Γ, Γ', h, e => by
    simp only [ntLen, Option.some.injEq] at h
    cases xs with
    | nil => rw [← h]; rfl
    | cons a b => simp [bindNT] at e
  | .cons a r, n, xs, Γ, Γ', h, e => by
    simp only [ntLen, Option.map_eq_some_iff] at h
    obtain ⟨m, h1, h2⟩ := h
    cases xs with
    | nil => simp [bindNT] at e
    | cons x xs =>
      simp only [bindNT, Option.bind_eq_some_iff] at e
      obtain ⟨Γ1, _, e2⟩ := e
      rw [List.length_cons, bind_len h1 e2, h2]
  | .nm _, _, _, _, _, h, _ => by simp [ntLen] at h
theorem gnil_ok {X : Cx} : PGs X [] (gDs X.K .nil) := PGs.weak pgs_nil fun vs σ H Q ⟨ρ, κ, Γ, S, xs, Γ', s, l, r, e, q⟩ => by
  cases xs with
  | nil =>
    cases r
    simp only [bindNT, Option.some.injEq] at e
    subst e
    exact ⟨rfl, q σ l fun _ _ => rfl⟩
  | cons a b => simp [bindNT] at e
def isLoc (sc : Scope) (x : Str) : Bool := match sc.names.lookup x with
  | some .local => true
  | some .cell => true
  | _ => false
theorem isLoc_ok {sc : Scope} {x : Str} (h : isLoc sc x = true) : L2.Loc sc x := by
  unfold isLoc at h
  split at h <;> first | (cases h; done) | skip
  · exact .inl (by assumption)
  · exact .inr (by assumption)
theorem each_ok {e : Expr} (h : noStar e = true) (es : List Expr) (env : PySem.Env) : assignEach (e :: es) env = (false, assign e env) :: assignEach es env := by
  cases e <;> first | rfl | cases h
theorem each_len : ∀ {es : List Expr} (env : PySem.Env), es.all noStar = true → (assignEach es env).length = es.length ∧ (assignEach es env).findIdx? (·.1) = none
  | [], _, _ => ⟨rfl, rfl⟩
  | e :: es, env, h => by
    rw [List.all_cons, Bool.and_eq_true] at h
    obtain ⟨h1, h2⟩ := each_len env h.2
    rw [each_ok h.1]
    refine ⟨by rw [List.length_cons, List.length_cons, h1], ?_⟩
    rw [List.findIdx?_cons, h2]
    rfl
section
variable {L : Law} {cA : Nat → Addr} {sc : Scope} {N : List Str} {okT : Str → Bool}
/-- the names that may be stored -/
def FnT (okT : Str → Bool) (X : Cx) : Prop := ∀ x, okT x = true → L2.Loc X.env.scope x → X.fn x = true ∨ X.env.scope.names.lookup x = some .local
variable (L cA sc N okT) in
structure CertG (e : Expr) where
  t : NT
  ok : ∀ (n : Nat) (X : Cx) (W : WX), Ctx L cA n X W → X.env.scope = sc → X.N = N → FnT okT X → PG X e (gD X.K t)
variable (L cA sc N okT) in
structure CertGs (es : List Expr) where
  t : NT
  len : ntLen t = some es.length
  ok : ∀ (n : Nat) (X : Cx) (W : WX), Ctx L cA n X W → X.env.scope = sc → X.N = N → FnT okT X → PGs X es (gDs X.K t)
def certGs (cG : (e : Expr) → Option (CertG L cA sc N okT e)) : (es : List Expr) → Option (CertGs L cA sc N okT es)
  | [] => some ⟨.nil, rfl, fun _ _ _ _ _ _ _ => gnil_ok⟩
  | e :: es => if h : noStar e = true then match cG e, certGs cG es with
      | some a, some b => some ⟨.cons a.t b.t, by simp [ntLen, b.len], fun n X W c hs hN hf =>
          PGs.weak (pgs_cons (a.ok n X W c hs hN hf) (b.ok n X W c hs hN hf) (by rw [each_ok h]; rfl)) fun vs σ H Q ⟨ρ, κ, Γ, S, xs, Γ', s, l, r, e, q⟩ => by
            cases xs with
            | nil => simp [bindNT] at e
            | cons x xs =>
              simp only [bindNT, Option.bind_eq_some_iff] at e
              obtain ⟨Γ1, e1, e2⟩ := e
              cases r with
              | cons r1 r2 =>
                refine ⟨_, _, rfl, ρ, κ, Γ, S, _, Γ1, s, l, .p r1, e1, fun σ1 l1 w1 => ⟨ρ, κ, Γ1, S, xs, Γ', s, l1, r2, e2, fun σ2 l2 w2 => q σ2 l2 fun ws hw => ?_⟩⟩
                rw [w2 ws fun i hi => hw i (by simp [ntSlots, hi]), w1 ws fun i hi => hw i (by simp [ntSlots, hi])]⟩
      | _, _ => none
    else none
def certG : Nat → (e : Expr) → Option (CertG L cA sc N okT e)
  | 0, _ => none
  | _ + 1, .Name x pos => if h : okT x = true ∧ isLoc sc x = true then (match nameIx N x with
      | some ⟨i, hi⟩ => some ⟨.nm i, fun n X W c hs hN hf => by
          have hl : L2.Loc X.env.scope x := by rw [hs]; exact isLoc_ok h.2
          exact gname_ok (pg_name c.nd (by rw [hN]; exact hi) hl (hf x h.1 hl))⟩
      | none => none) else none
  | m + 1, .Tuple es k pos => if h : es.all noStar = true then (match certGs (certG m) es with
      | some a => some ⟨a.t, fun n X W c hs hN hf => PG.weak (pg_tup (n := es.length) c.calm (a.ok n X W c hs hN hf) (each_len _ h).1 (each_len _ h).2) fun v σ H Q ⟨ρ, κ, Γ, S, d, Γ', s, l, r, e, q⟩ => by
          have key : ∃ xs, d = .p (.tuple xs) := by
            have hl := a.len
            revert hl e
            cases a.t with
            | nm i => intro _ hl; simp [ntLen] at hl
            | nil =>
              intro e _
              cases d with
              | p y => cases y <;> first | exact ⟨_, rfl⟩ | (simp [bindNT] at e)
              | ro y => simp [bindNT] at e
              | loc y => simp [bindNT] at e
            | cons b c =>
              intro e _
              cases d with
              | p y => cases y <;> first | exact ⟨_, rfl⟩ | (simp [bindNT] at e)
              | ro y => simp [bindNT] at e
              | loc y => simp [bindNT] at e
          obtain ⟨xs, rfl⟩ := key
          cases r with
          | p r =>
            cases r with
            | tup h1 h2 h3 => exact ⟨_, _, rfl, h1, by rw [h3.length]; exact bind_len a.len e, ρ, κ, Γ, S, xs, Γ', s, l, h3, e, q⟩⟩
      | none => none) else none
  | _ + 1, _ => none
end

/-! ### what a comprehension leaves -/
section
variable {K : Frag} {H : Hp} {ρ κ : List Addr} {S : Store} {q : Addr}
theorem StRep.drop (s : StRep K H ρ (q :: κ) S) : StRep K H ρ κ S :=
  ⟨s.len, fun b hb => s.live b (List.mem_cons_of_mem _ hb), fun b hb => s.dis b (List.mem_cons_of_mem _ hb), s.inj, fun n a c h1 h2 =>
    (s.cell n a c h1 h2).to (fun _ _ q => q) (fun _ _ _ q => q) (fun b vs q nf => ⟨q, fun z => nf (z.elim .inl fun w => .inr (List.mem_cons_of_mem _ w))⟩) (fun _ _ q => q) fun _ q => q⟩
theorem fb_drop : ∀ b, H b ≠ none → Fb ρ κ b → Fb ρ (q :: κ) b := fun b _ z => z.elim .inl fun w => .inr (List.mem_cons_of_mem _ w)
theorem fb_rel : ∀ b, Fb (ρ ++ [q]) κ b → Fb ρ (q :: κ) b := fun b z => by
  rcases z with z | z
  · rcases List.mem_append.mp z with z | z
    · exact .inl z
    · rw [List.mem_singleton] at z
      exact .inr (by rw [z]; exact List.mem_cons_self)
  · exact .inr (List.mem_cons_of_mem _ z)
/-- the list made becomes a cell -/
theorem StRep.release {ds : List D} {vs : List V} (s : StRep K H ρ (q :: κ) S) (h : H q = some (.lst vs)) (hz : vs.length ≤ sizeLine) (r : RepDs K H ρ (q :: κ) ds vs) (nk : q ∉ κ) : StRep K H (ρ ++ [q]) κ (S ++ [.lst ds]) := by
  have nq : q ∉ ρ := s.dis q List.mem_cons_self
  have up : ∀ (n : Nat) a, ρ[n]? = some a → (ρ ++ [q])[n]? = some a := fun n a e => by
    obtain ⟨z, _⟩ := List.getElem?_eq_some_iff.mp e
    rw [List.getElem?_append_left z]; exact e
  have old : ∀ (n : Nat) (a : Addr), (ρ ++ [q])[n]? = some a → (∃ c, S[n]? = some c) → ρ[n]? = some a := fun n a e ⟨c, hc⟩ => by
    obtain ⟨z, _⟩ := List.getElem?_eq_some_iff.mp hc
    rw [List.getElem?_append_left (by rw [s.len]; exact z)] at e
    exact e
  have two : ∀ (n : Nat) (c : Cell), (S ++ [Cell.lst ds])[n]? = some c → (S[n]? = some c) ∨ (n = S.length ∧ c = .lst ds) := fun n c e => by
    by_cases z : n < S.length
    · rw [List.getElem?_append_left z] at e
      exact .inl e
    · rw [List.getElem?_append_right (by omega)] at e
      have z2 : n - S.length = 0 := by
        obtain ⟨w, _⟩ := List.getElem?_eq_some_iff.mp e
        simp at w; omega
      rw [z2] at e
      simp at e
      exact .inr ⟨by omega, e.symm⟩
  have atq : ∀ a, (ρ ++ [q])[S.length]? = some a → a = q := fun a e => by
    rw [List.getElem?_append_right (by rw [s.len]; exact Nat.le_refl _)] at e
    rw [s.len] at e
    simp at e
    exact e.symm
  have notq : ∀ (n : Nat), ρ[n]? = some q → False := fun n e => nq (List.mem_of_getElem? e)
  refine ⟨by simp [s.len], fun b hb => s.live b (List.mem_cons_of_mem _ hb), fun b hb z => ?_, fun n m a xs ys h1 h2 h3 h4 => ?_, fun n a c h1 h2 => ?_⟩
  · rcases List.mem_append.mp z with z | z
    · exact s.dis b (List.mem_cons_of_mem _ hb) z
    · rw [List.mem_singleton] at z
      subst z
      exact nk hb
  · rcases two n _ h3 with w | ⟨w, _⟩ <;> rcases two m _ h4 with w' | ⟨w', _⟩
    · exact s.inj n m a xs ys (old n a h1 ⟨_, w⟩) (old m a h2 ⟨_, w'⟩) w w'
    · subst w'
      have e := atq a h2
      subst e
      exact (notq _ (old n _ h1 ⟨_, w⟩)).elim
    · subst w
      have e := atq a h1
      subst e
      exact (notq _ (old m _ h2 ⟨_, w'⟩)).elim
    · omega
  · rcases two n _ h2 with w | ⟨w, e⟩
    · exact (s.cell n a c (old n a h1 ⟨_, w⟩) w).to (fun _ _ z => z) (fun _ _ _ z => z) (fun b vs z nf => ⟨z, fun y => nf (fb_rel b y)⟩) up fun _ z => z
    · subst w e
      have e := atq a h1
      subst e
      exact ⟨vs, h, hz, Paired.mapI (fun _ _ z => z.fb (fun b _ y => fb_rel b y) up) r⟩
end
end Core
set_option Elab.async false
set_option linter.all false
set_option maxHeartbeats 1000000
/-! Core, part J: list comprehensions -/
namespace Core
open PySem PySem.W L2 PyProof.Rows
section
variable {K : Frag} {H H' : Hp} {ρ ρ' κ κ' : List Addr} {S : Store} {q : Addr}
theorem RepP.move (r : RepP K H ρ κ x v) (e : Ext H ρ H' ρ') (f : ∀ b, H b ≠ none → Fb ρ' κ' b → Fb ρ κ b) : RepP K H' ρ' κ' x v :=
  r.to e.tups e.frzs fun b ws q z => ⟨e.keep b _ q fun w => z (.inl w), fun w => z (f b (by rw [q]; simp) w)⟩
theorem RepD.move {x : D} {v : V} (r : RepD K H ρ κ x v) (e : Ext H ρ H' ρ') (f : ∀ b, H b ≠ none → Fb ρ' κ' b → Fb ρ κ b) : RepD K H' ρ' κ' x v := by
  cases r with
  | p r => exact .p (r.move e f)
  | ro z n r => exact .ro (z.ext e.frzs) n (RepPs.move r e f)
  | loc h => exact .loc (e.at h)
theorem RepL.move {Γ : Loc} {σ : L2.St} (l : RepL K H ρ κ Γ σ) (e : Ext H ρ H' ρ') (f : ∀ b, H b ≠ none → Fb ρ' κ' b → Fb ρ κ b) : RepL K H' ρ' κ' Γ σ := Paired.mapI (fun _ _ q => by
  cases q with
  | un => exact .un _
  | an q => exact .an (q.move e f)) l
/-- the list in the making grows: nothing else sees it -/
theorem RepD.upk {o : HO} {x : D} {v : V} (hq : q ∈ κ) (r : RepD K H ρ κ x v) (hs : ∀ xs, H q ≠ some (.tup xs)) (hf : ∀ o u, H q ≠ some (.frz o u)) : RepD K (upd H q o) ρ κ x v := by
  have ht : ∀ b xs, H b = some (.tup xs) → upd H q o b = some (.tup xs) := fun b xs e => by
    have nb : b ≠ q := fun z => hs xs (by rw [← z]; exact e)
    rw [upd_ne nb]; exact e
  have hz : ∀ b p u, H b = some (.frz p u) → upd H q o b = some (.frz p u) := fun b p u e => by
    have nb : b ≠ q := fun z => hf p u (by rw [← z]; exact e)
    rw [upd_ne nb]; exact e
  have hl : ∀ b vs, H b = some (.lst vs) → ¬ Fb ρ κ b → upd H q o b = some (.lst vs) ∧ ¬ Fb ρ κ b := fun b vs e n => by
    have nb : b ≠ q := fun z => n (.inr (by rw [z]; exact hq))
    rw [upd_ne nb]; exact ⟨e, n⟩
  cases r with
  | p r => exact .p (r.to ht hz hl)
  | ro z n r => exact .ro (z.ext hz) n (r.to ht hz hl)
  | loc h => exact .loc h
theorem StRep.upk {vs ws : List V} (s : StRep K H ρ κ S) (hq : q ∈ κ) (h : H q = some (.lst vs)) : StRep K (upd H q (.lst ws)) ρ κ S := by
  have nq : q ∉ ρ := s.dis q hq
  refine ⟨s.len, fun b hb => ?_, s.dis, s.inj, fun n a c h1 h2 => ?_⟩
  · by_cases e : b = q
    · rw [e, upd_same]; simp
    · rw [upd_ne e]; exact s.live b hb
  · have na : a ≠ q := fun e => nq (by rw [← e]; exact List.mem_of_getElem? h1)
    have z := s.cell n a c h1 h2
    cases c with
    | lst ds =>
      obtain ⟨us, w1, w2, w3⟩ := z
      exact ⟨us, by rw [upd_ne na]; exact w1, w2, Paired.mapI (fun _ _ y => y.upk hq (by rw [h]; intro xs z; cases z) (by rw [h]; intro o u z; cases z)) w3⟩
theorem Ext.upk {H1 : Hp} {ρ1 : List Addr} {o : HO} (e : Ext H1 ρ1 H ρ) (h : H1 q = none) : Ext H1 ρ1 (upd H q o) ρ := by
  have nq : ∀ b, H1 b ≠ none → b ≠ q := fun b hb z => hb (by rw [z]; exact h)
  refine ⟨e.pre, fun b u hb n => ?_, fun b hb => ?_, fun b xs hb => ?_, fun b o u hb => ?_⟩
  · rw [upd_ne (nq b (by rw [hb]; simp))]; exact e.keep b u hb n
  · rw [upd_ne (nq b hb)]; exact e.live b hb
  · rw [upd_ne (nq b (by rw [hb]; simp))]; exact e.tups b xs hb
  · rw [upd_ne (nq b (by rw [hb]; simp))]; exact e.frzs b o u hb
end
abbrev W0 : WX := fun _ _ _ _ => False
def stepLC (F : Calls) (t : NT) (c e : CE) (Γw : Loc) : D → Store → Res (Option D) := stepG (fun Γ' S' => evE F c Γ' S') (fun Γ' S' => evE F e Γ' S') t Γw
section
variable {K : Frag} {cA : Nat → Addr} {F : Calls}
theorem lc_loop {κ ρ1 : List Addr} {H1 : Hp} {S1 S2 : Store} {Γ : Loc} {σ : L2.St} {t : NT} {c e : CE} {own : List Nat} {r : Src} {J : It} {n : Nat} {acc : List D} {q : Addr} {Qd : Hp → Prop}
    (s1 : StRep K H1 ρ1 κ S1) (l1 : RepL K H1 ρ1 κ Γ σ) (fol : Fol K κ H1 ρ1 r J) (hn : n ≤ sizeLine) (hq : H1 q = none) (hown : ∀ i ∈ ntSlots t, i ∈ own)
    (h : lcGo (stepLC F t c e (wipeL Γ own)) r n 0 [] S1 = .ok acc S2)
    (hd : ∀ H' ρ' vs, Ext H1 ρ1 H' ρ' → StRep K H' ρ' (q :: κ) S2 → H' q = some (.lst vs) → vs.length ≤ sizeLine → RepDs K H' ρ' (q :: κ) acc vs → Qd H') :
    ∃ W : Nat → Nat → Hp → Prop, (∃ m, W 0 m (upd H1 q (.lst []))) ∧ ∀ i m H, W i m H →
      (J.stop i H ∧ Qd H) ∨ (J.go i H ∧ ∃ Nx : Hp → Prop, (∀ H', Nx H' → ∃ m', m' < m ∧ W (i + 1) m' H') ∧ ∀ x H', J.yld i H x H' → gD K t x (wipe σ own) H' fun σ2 H2 => wipe σ2 own = wipe σ own ∧ tT K cA W0 F c σ2 H2 fun b H3 =>
        if b = true then tE K cA W0 F e σ2 H3 fun y H4 => ∃ acc, H4 q = some (.lst acc) ∧ acc.length < sizeLine ∧ Nx (upd H4 q (.lst (acc ++ [y]))) else Nx H3) := by
  have fbq : ∀ (H' : Hp) (ρ' : List Addr), Ext H1 ρ1 H' ρ' → ∀ b, H1 b ≠ none → Fb ρ' (q :: κ) b → Fb ρ1 κ b := fun H' ρ' ex b hb z => by
    refine ex.fb hb ?_
    rcases z with z | z
    · exact .inl z
    · rcases List.mem_cons.mp z with z | z
      · exact absurd (by rw [z]; exact hq) hb
      · exact .inr z
  refine ⟨fun i m H' => i + m = n ∧ ∃ ρ' S' acc' vs, Ext H1 ρ1 H' ρ' ∧ StRep K H' ρ' (q :: κ) S' ∧ H' q = some (.lst vs) ∧ RepDs K H' ρ' (q :: κ) acc' vs ∧ acc'.length ≤ i ∧ lcGo (stepLC F t c e (wipeL Γ own)) r m i acc' S' = .ok acc S2,
    ⟨n, by omega, ρ1, S1, [], [], ?_, ?_, upd_same, .nil, Nat.le_refl _, h⟩, ?_⟩
  · exact (s1.hold (o := .lst []) hq).2
  · exact (s1.hold (o := .lst []) hq).1
  · rintro i m H' ⟨him, ρ', S', acc', vs, ex, st, hD, rd, hl, hgo⟩
    cases m with
    | zero =>
      unfold lcGo at hgo
      split at hgo
      · rename_i hlen
        cases hgo
        refine .inl ⟨fol.stop H' ρ' (q :: κ) S2 i ex (fbq H' ρ' ex) st hlen, hd H' ρ' vs ex st hD ?_ rd⟩
        rw [← Paired.len rd]
        omega
      · cases hgo
    | succ m =>
      unfold lcGo at hgo
      split at hgo
      · cases hgo
      · rename_i d hd'
        refine .inr ⟨fol.go H' ρ' (q :: κ) S' i d ex (fbq H' ρ' ex) st hd', _, fun H2 h2 => ⟨m, Nat.lt_succ_self m, h2⟩, fun x H2 hy => ?_⟩
        obtain ⟨e2, st2, rx⟩ := fol.yld H' ρ' (q :: κ) S' i d x H2 ex (fbq H' ρ' ex) st hd' hy
        have nq : q ∉ ρ' := st.dis q List.mem_cons_self
        have hD2 : H2 q = some (.lst vs) := e2.keep q _ hD nq
        have ex2 := ex.trans e2
        have rd2 : RepDs K H2 ρ' (q :: κ) acc' vs := RepDs.ext e2 rd
        have l2 : RepL K H2 ρ' (q :: κ) (wipeL Γ own) (wipe σ own) := (l1.move ex2 (fbq H2 ρ' ex2)).wipe own
        -- what the step does
        unfold stepLC stepG at hgo
        cases hb : bindNT t d (wipeL Γ own) with
        | none => rw [hb] at hgo; cases hgo
        | some Γ' =>
          rw [hb] at hgo
          simp only at hgo
          refine ⟨ρ', q :: κ, wipeL Γ own, S', d, Γ', st2, l2, rx, hb, fun σ2 ls hw => ⟨by rw [hw own hown, wipe_wipe], ρ', q :: κ, Γ', S', st2, ls, ?_⟩⟩
          unfold evT
          cases hc : evE F c Γ' S' with
          | stuck => rw [hc] at hgo; cases hgo
          | exc k fs S3 => rw [hc] at hgo; cases hgo
          | ok y S3 =>
            rw [hc] at hgo
            simp only [Res.bind] at hgo ⊢
            cases ht : truthD S3 y with
            | none => rw [ht] at hgo; cases hgo
            | some b =>
              rw [ht] at hgo
              intro H3 ρ3 e3 st3
              have nq3 : q ∉ ρ3 := st3.dis q List.mem_cons_self
              have hD3 : H3 q = some (.lst vs) := e3.keep q _ hD2 nq
              cases b with
              | false =>
                simp only at hgo
                rw [if_neg (by decide)]
                exact ⟨by omega, ρ3, S3, acc', vs, ex2.trans e3, st3, hD3, RepDs.ext e3 rd2, by omega, hgo⟩
              | true =>
                simp only at hgo
                rw [if_pos rfl]
                refine ⟨ρ3, q :: κ, Γ', S3, st3, ls.ext e3, ?_⟩
                cases he : evE F e Γ' S3 with
                | stuck => rw [he] at hgo; cases hgo
                | exc k fs S4 => rw [he] at hgo; cases hgo
                | ok z S4 =>
                  rw [he] at hgo
                  simp only at hgo
                  intro H4 ρ4 e4 st4 v rv
                  have hD4 : H4 q = some (.lst vs) := e4.keep q _ hD3 nq3
                  have hlen : vs.length < sizeLine := by
                    rw [← Paired.len rd]
                    omega
                  refine ⟨vs, hD4, hlen, by omega, ρ4, S4, acc' ++ [z], vs ++ [v], ((ex2.trans e3).trans e4).upk hq, st4.upk List.mem_cons_self hD4, upd_same, ?_, by rw [List.length_append]; simp; omega, hgo⟩
                  refine Paired.app (Paired.mapI (fun _ _ w => w.upk List.mem_cons_self (by rw [hD4]; intro xs z; cases z) (by rw [hD4]; intro o u z; cases z)) (RepDs.ext e4 (RepDs.ext e3 rd2))) (.cons ?_ .nil)
                  exact rv.upk List.mem_cons_self (by rw [hD4]; intro xs z; cases z) (by rw [hD4]; intro o u z; cases z)
end
end Core
set_option Elab.async false
set_option linter.all false
set_option maxHeartbeats 1000000
/-! Core, part K: list comprehensions from the text; the compiler of expressions -/
namespace Core
open PySem PySem.W L2 PyProof.Rows
section
variable {L : Law} {cA : Nat → Addr} {sc : Scope} {N : List Str}
theorem Ctx.blk {n : Nat} {X : Cx} {W : WX} (c : Ctx L cA n X W) (s : Shared) (H : Hp) (scope : Scope) (cenv : PySem.Env) (fp : List Addr) : Ctx L cA n (X.blk s H scope cenv fp) W0 :=
  ⟨c.calm, c.nd, c.room, takes0, c.blt, c.gcd, c.con, c.fn⟩
def okB (scp : Scope) (x : Str) : Bool := match scp.names.lookup x with
  | some .local => true
  | some .cell => true
  | _ => false
theorem fnT_blk {X : Cx} (s : Shared) (H : Hp) (scope : Scope) (cl : List (Str × Addr)) (C : Addr) (fp : List Addr) : FnT (okB scope) (X.blk s H scope (compEnvC scope cl C X.env) fp) := fun x hx _ => by
  unfold okB at hx
  split at hx <;> first | (cases hx; done) | skip
  · rename_i h
    exact .inr (lookup_relS_keep (sc := X.env.scope) (by decide) h)
  · rename_i h
    refine .inl ?_
    show (scope.names.lookup x == some .cell) = true
    rw [h]; rfl
theorem lcGo_noexc {step : D → Store → Res (Option D)} {src : Src} : ∀ {m i : Nat} {acc : List D} {S S' : Store} {c : Nat} {fs : List (Str × D)}, lcGo step src m i acc S = .exc c fs S' → False
  | 0, i, acc, S, S', c, fs, h => by
    unfold lcGo at h
    split at h <;> cases h
  | m + 1, i, acc, S, S', c, fs, h => by
    unfold lcGo at h
    split at h
    · cases h
    · split at h
      · exact lcGo_noexc h
      · exact lcGo_noexc h
      · cases h
theorem lc_rd {K : Frag} {n : Nat} {W : WX} {own : List (Str × Nat)} {t : NT} {k : IK} {src : CL} {cc ce : CE} {σ : L2.St} {H : Hp} {Q : VK} (hown : ∀ i ∈ ntSlots t, i ∈ own.map (·.2))
    (h : tE K cA W (callN L.fns n) (.lc t k src cc ce (own.map (·.2))) σ H Q) :
    tLc (tI K cA W (callN L.fns n) k src) (gD K t) (tT K cA W0 (callN L.fns n) cc) (tE K cA W0 (callN L.fns n) ce) (own.map (·.2)) σ H Q := by
  obtain ⟨ρ, κ, Γ, S, s, l, q⟩ := h
  simp only [evE] at q
  refine ⟨ρ, κ, Γ, S, s, l, q.bind.imp fun H1 ρ1 ds S1 e1 s1 q1 => ?_⟩
  split at q1
  · exact q1.elim
  · rename_i r hr
    split at q1
    · exact q1.elim
    · rename_i m hm
      refine ⟨r, hr, fun J fol hz q0 hq => ?_⟩
      cases hgo : lcGo (stepLC (callN L.fns n) t cc ce (wipeL Γ (own.map (·.2)))) r m 0 [] S1 with
      | ok acc S2 =>
        have q2 : PostE K cA (fun cv d H' => W cv d σ H') κ H1 ρ1 (match allP acc with
            | some xs => Res.ok (D.p (.list xs)) S2
            | none => .stuck) fun H' ρ' d _ => ∀ v, RepD K H' ρ' κ d v → Q v H' := by
          unfold stepLC at hgo
          rw [hgo] at q1
          exact q1
        refine lc_loop s1 (l.ext e1) fol (hz m hm) hq hown hgo fun H' ρ' vs ex st hv hlen rd => ?_
        cases ha : allP acc with
        | none => rw [ha] at q2; exact q2.elim
        | some xs =>
          rw [ha] at q2
          rw [allP_map ha] at rd
          refine q2 H' ρ' ex st.drop _ (.p (.lst hv ?_ hlen ?_))
          · intro z
            rcases z with z | z
            · exact st.dis q0 List.mem_cons_self z
            · exact s1.live q0 z hq
          · exact RepPs.fb fb_drop rd.ps
      | exc k' fs' S2 =>
        unfold stepLC at hgo
        rw [hgo] at q1
        exact (lcGo_noexc hgo).elim
      | stuck =>
        unfold stepLC at hgo
        rw [hgo] at q1
        exact q1.elim
theorem mlc_rd {K : Frag} {n : Nat} {W : WX} {own : List (Str × Nat)} {t : NT} {k : IK} {src : CL} {cc ce : CE} {σ : L2.St} {H : Hp} {Q : VK} (hown : ∀ i ∈ ntSlots t, i ∈ own.map (·.2))
    (h : tE K cA W (callN L.fns n) (.mlc t k src cc ce (own.map (·.2))) σ H Q) :
    tLc (tI K cA W (callN L.fns n) k src) (gD K t) (tT K cA W0 (callN L.fns n) cc) (tE K cA W0 (callN L.fns n) ce) (own.map (·.2)) σ H Q := by
  obtain ⟨ρ, κ, Γ, S, s, l, q⟩ := h
  simp only [evE] at q
  refine ⟨ρ, κ, Γ, S, s, l, q.bind.imp fun H1 ρ1 ds S1 e1 s1 q1 => ?_⟩
  split at q1
  · exact q1.elim
  · rename_i r hr
    split at q1
    · exact q1.elim
    · rename_i m hm
      refine ⟨r, hr, fun J fol hz q0 hq => ?_⟩
      cases hgo : lcGo (stepLC (callN L.fns n) t cc ce (wipeL Γ (own.map (·.2)))) r m 0 [] S1 with
      | ok acc S2 =>
        have q2 : PostE K cA (fun cv d H' => W cv d σ H') κ H1 ρ1 (Res.ok (D.loc S2.length) (S2 ++ [.lst acc])) fun H' ρ' d _ => ∀ v, RepD K H' ρ' κ d v → Q v H' := by
          unfold stepLC at hgo
          rw [hgo] at q1
          exact q1
        refine lc_loop s1 (l.ext e1) fol (hz m hm) hq hown hgo fun H' ρ' vs ex st hv hlen rd => ?_
        have nk : q0 ∉ κ := fun z => s1.live q0 z hq
        have ex2 : Ext H1 ρ1 H' (ρ' ++ [q0]) := by
          obtain ⟨w, e1, e2⟩ := ex.pre
          refine ⟨⟨w ++ [q0], by rw [e1, List.append_assoc], fun b hb => ?_⟩, ex.keep, ex.live, ex.tups, ex.frzs⟩
          rcases List.mem_append.mp hb with z | z
          · exact e2 b z
          · rw [List.mem_singleton.mp z]; exact hq
        refine q2 H' (ρ' ++ [q0]) ex2 (st.release hv hlen rd nk) _ (.loc ?_)
        rw [← st.len]
        simp
      | exc k' fs' S2 =>
        exact (lcGo_noexc hgo).elim
      | stuck =>
        unfold stepLC at hgo
        rw [hgo] at q1
        exact q1.elim
theorem lc_ok {n : Nat} {X : Cx} {W : WX} {elt tg iter : Expr} {ifs : List Expr} {scope : Scope} {own : List (Str × Nat)} {pos : Pos} {t : NT} {k : IK} {src : CL} {cc ce : CE} (c : Ctx L cA n X W) (hs : X.env.scope = sc) (hN : X.N = N)
    (hset : noSet iter = true) (hb : blkC N sc scope own = true) (hown : ∀ i ∈ ntSlots t, i ∈ own.map (·.2)) (hi : PI X tg iter (tI X.K cA W (callN L.fns n) k src))
    (hg : ∀ X' : Cx, Ctx L cA n X' W0 → X'.env.scope = relS scope sc → X'.N = N → FnT (okB scope) X' → PG X' tg (gD X'.K t))
    (ht : ∀ X' : Cx, Ctx L cA n X' W0 → X'.env.scope = relS scope sc → X'.N = N → PTs X' ifs (tT X'.K cA W0 (callN L.fns n) cc))
    (he : ∀ X' : Cx, Ctx L cA n X' W0 → X'.env.scope = relS scope sc → X'.N = N → PE X' elt (tE X'.K cA W0 (callN L.fns n) ce)) :
    PE X (.ListComp elt [⟨tg, iter, ifs, 0⟩] scope pos) (tE X.K cA W (callN L.fns n) (.lc t k src cc ce (own.map (·.2)))) ∧
    PE X (.ListComp elt [⟨tg, iter, ifs, 0⟩] scope pos) (tE X.K cA W (callN L.fns n) (.mlc t k src cc ce (own.map (·.2)))) := by
  have fs : ∀ x, foldedSetIterable iter X.env x = pure x := fun x => by
    cases iter <;> first | rfl | cases hset
  have sc' : ∀ (s : Shared) (H : Hp) (C : Addr) (cl : List (Str × Addr)) (fp : List Addr), (X.blk s H scope (compEnvC scope cl C X.env) fp).env.scope = relS scope sc := fun s H C cl fp => by
    show relS scope X.env.scope = _
    rw [hs]
  have P := pe_lc (pos := pos) (elt := elt) (ifs := ifs) (g := gD X.K t) (tt := tT X.K cA W0 (callN L.fns n) cc) (te := tE X.K cA W0 (callN L.fns n) ce) c.calm c.nd hi (by rw [hN, hs]; exact blkOk_by hb) (fun s H C cl fp => hg _ (c.blk s H scope _ fp) (sc' s H C cl fp) hN (fnT_blk s H scope cl C fp))
    (fun s H C cl fp => ht _ (c.blk s H scope _ fp) (sc' s H C cl fp) hN) (fun s H C cl fp => he _ (c.blk s H scope _ fp) (sc' s H C cl fp) hN) fs
  exact ⟨PE.weak P fun σ H Q h => lc_rd hown h, PE.weak P fun σ H Q h => mlc_rd hown h⟩
/-- a comprehension stored under a name of the def's own -/
theorem setLc_ok {n : Nat} {X : Cx} {W : WX} {elt tg iter : Expr} {ifs : List Expr} {scope : Scope} {own : List (Str × Nat)} {pos py spos : Pos} {y : Str} {i : Nat} {t : NT} {k : IK} {src : CL} {cc ce : CE} (c : Ctx L cA n X W) (hs : X.env.scope = sc) (hN : X.N = N)
    (hy : N[i]? = some y) (hyl : sc.names.lookup y = some .local) (hf : sc.kind = .function) (hl : (py.line == pos.line) = true) (hnot : (scope.names.any fun (n, k) => n == y && (k == .local || k == .cell)) = false)
    (hset : noSet iter = true) (hb : blkC N sc scope own = true) (hown : ∀ i ∈ ntSlots t, i ∈ own.map (·.2)) (hi : PI X tg iter (tI X.K cA W (callN L.fns n) k src))
    (hg : ∀ X' : Cx, Ctx L cA n X' W0 → X'.env.scope = relS scope sc → X'.N = N → FnT (okB scope) X' → PG X' tg (gD X'.K t))
    (ht : ∀ X' : Cx, Ctx L cA n X' W0 → X'.env.scope = relS scope sc → X'.N = N → PTs X' ifs (tT X'.K cA W0 (callN L.fns n) cc))
    (he : ∀ X' : Cx, Ctx L cA n X' W0 → X'.env.scope = relS scope sc → X'.N = N → PE X' elt (tE X'.K cA W0 (callN L.fns n) ce)) :
    PS X (.Assign [.Name y py] (.ListComp elt [⟨tg, iter, ifs, 0⟩] scope pos) spos) (tAsg (tLc (tI X.K cA W (callN L.fns n) k src) (gD X.K t) (tT X.K cA W0 (callN L.fns n) cc) (tE X.K cA W0 (callN L.fns n) ce) (own.map (·.2))) (gName i)) := by
  have fs : ∀ x, foldedSetIterable iter X.env x = pure x := fun x => by
    cases iter <;> first | rfl | cases hset
  have sc' : ∀ (s : Shared) (H : Hp) (C : Addr) (cl : List (Str × Addr)) (fp : List Addr), (X.blk s H scope (compEnvC scope cl C X.env) fp).env.scope = relS scope sc := fun s H C cl fp => by
    show relS scope X.env.scope = _
    rw [hs]
  exact ps_setLc c.calm c.nd (by rw [hN]; exact hy) (by rw [hs]; exact hyl) (sw_true (by rw [hs]; exact hf) (by rw [hs]; exact hyl) hl hnot) hi (by rw [hN, hs]; exact blkOk_by hb) (fun s H C cl fp => hg _ (c.blk s H scope _ fp) (sc' s H C cl fp) hN (fnT_blk s H scope cl C fp))
    (fun s H C cl fp => ht _ (c.blk s H scope _ fp) (sc' s H C cl fp) hN) (fun s H C cl fp => he _ (c.blk s H scope _ fp) (sc' s H C cl fp) hN) fs
end
end Core
set_option Elab.async false
set_option linter.all false
set_option maxHeartbeats 1000000
/-! Core, part L: the compiler of expressions -/
namespace Core
open PySem PySem.W L2 PyProof.Rows
section
variable (L : Law) (cA : Nat → Addr) (N : List Str)
structure Comp where
  E : (sc : Scope) → (e : Expr) → Option (CertE L cA sc N e)
  T : (sc : Scope) → (e : Expr) → Option (CertT L cA sc N e)
end
section
variable {L : Law} {cA : Nat → Addr} {sc : Scope} {N : List Str}
def certOps {a b : Expr} (ca : CertE L cA sc N a) (cb : CertE L cA sc N b) (op : CmpOp) (pos : Pos) : Option (CertE L cA sc N (.Compare a [op] [b] pos)) :=
  if hn : noSet b = true then (match ho : copOf op with
    | some o => some ⟨.cmp o ca.ce cb.ce, fun n X W c hs hN => by
        have h := cmp_ok (o := o) (pos := pos) c hn (ca.ok n X W c hs hN) (cb.ok n X W c hs hN)
        rw [copOf_op ho] at h
        exact h⟩
    | none => none) else none
def certOpsT {a b : Expr} (ca : CertE L cA sc N a) (cb : CertE L cA sc N b) (op : CmpOp) (pos : Pos) : Option (CertT L cA sc N (.Compare a [op] [b] pos)) :=
  if hn : noSet b = true then (match ho : copOf op with
    | some o => some ⟨.cmp o ca.ce cb.ce, fun n X W c hs hN => by
        have h := cmpT_ok (o := o) (pos := pos) c hn (ca.ok n X W c hs hN) (cb.ok n X W c hs hN)
        rw [copOf_op ho] at h
        exact h⟩
    | none => none) else none
def certCmp (c : Comp L cA N) {a : Expr} (ca : CertE L cA sc N a) : (ops : List CmpOp) → (bs : List Expr) → (pos : Pos) → Option (CertE L cA sc N (.Compare a ops bs pos))
  | [.Is], [.Constant .none j p2], pos => some ⟨.isN true ca.ce, fun n X W x hs hN => isN_ok (ca.ok n X W x hs hN)⟩
  | [.IsNot], [.Constant .none j p2], pos => some ⟨.isN false ca.ce, fun n X W x hs hN => notN_ok (ca.ok n X W x hs hN)⟩
  | [op], [b], pos => match c.E sc b with
    | some cb => certOps ca cb op pos
    | none => none
  | [o1, o2], [b, d], pos => if hn : noSet b = true ∧ noSet d = true then (match c.E sc b, c.E sc d with
    | some cb, some cd => (match h1 : copOf o1, h2 : copOf o2 with
      | some p1, some p2 => some ⟨.chain p1 p2 ca.ce cb.ce cd.ce, fun n X W x hs hN => by
          have h := chain_ok (o1 := p1) (o2 := p2) (pos := pos) x hn.1 hn.2 (ca.ok n X W x hs hN) (cb.ok n X W x hs hN) (cd.ok n X W x hs hN)
          rw [copOf_op h1, copOf_op h2] at h
          exact h⟩
      | _, _ => none)
    | _, _ => none) else none
  | _, _, _ => none
def certCmpT (c : Comp L cA N) {a : Expr} (ca : CertE L cA sc N a) : (ops : List CmpOp) → (bs : List Expr) → (pos : Pos) → Option (CertT L cA sc N (.Compare a ops bs pos))
  | [.Is], [.Constant .none j p2], pos => some ⟨.isN true ca.ce, fun n X W x hs hN => isNT_ok (ca.ok n X W x hs hN)⟩
  | [.IsNot], [.Constant .none j p2], pos => some ⟨.isN false ca.ce, fun n X W x hs hN => notNT_ok (ca.ok n X W x hs hN)⟩
  | [op], [b], pos => match c.E sc b with
    | some cb => certOpsT ca cb op pos
    | none => none
  | [o1, o2], [b, d], pos => if hn : noSet b = true ∧ noSet d = true then (match c.E sc b, c.E sc d with
    | some cb, some cd => (match h1 : copOf o1, h2 : copOf o2 with
      | some p1, some p2 => some ⟨.chain p1 p2 ca.ce cb.ce cd.ce, fun n X W x hs hN => by
          have h := chainT_ok (o1 := p1) (o2 := p2) (pos := pos) x hn.1 hn.2 (ca.ok n X W x hs hN) (cb.ok n X W x hs hN) (cd.ok n X W x hs hN)
          rw [copOf_op h1, copOf_op h2] at h
          exact h⟩
      | _, _ => none)
    | _, _ => none) else none
  | _, _, _ => none
def certAnd (c : Comp L cA N) : (es : List Expr) → (pos : Pos) → Option (CertE L cA sc N (.BoolOp .And es pos))
  | [], _ => none
  | [a], pos => match c.E sc a with
    | some ca => some ⟨ca.ce, fun n X W x hs hN => pe_one (ca.ok n X W x hs hN)⟩
    | none => none
  | a :: b :: r, pos => match c.E sc a, certAnd c (b :: r) pos with
    | some ca, some cb => some ⟨.and ca.ce cb.ce, fun n X W x hs hN => and_ok (ca.ok n X W x hs hN) (cb.ok n X W x hs hN)⟩
    | _, _ => none
def certOr (c : Comp L cA N) : (es : List Expr) → (pos : Pos) → Option (CertE L cA sc N (.BoolOp .Or es pos))
  | [], _ => none
  | [a], pos => match c.E sc a with
    | some ca => some ⟨ca.ce, fun n X W x hs hN => pe_one (ca.ok n X W x hs hN)⟩
    | none => none
  | a :: b :: r, pos => match c.E sc a, certOr c (b :: r) pos with
    | some ca, some cb => some ⟨.or ca.ce cb.ce, fun n X W x hs hN => or_ok (ca.ok n X W x hs hN) (cb.ok n X W x hs hN)⟩
    | _, _ => none
variable (L cA sc N) in
structure CertW (e : Expr) where
  ce : CE
  ok : ∀ (n : Nat) (X : Cx) (W : WX), Ctx L cA n X W → X.env.scope = sc → X.N = N → PW X e (tT X.K cA W (callN L.fns n) ce)
def certAndT (c : Comp L cA N) : (es : List Expr) → (pos : Pos) → Option (CertW L cA sc N (.BoolOp .And es pos))
  | [], _ => none
  | [a], pos => match c.T sc a with
    | some ca => some ⟨ca.ce, fun n X W x hs hN => pw_and1 (ca.ok n X W x hs hN)⟩
    | none => none
  | a :: b :: r, pos => match c.T sc a, certAndT c (b :: r) pos with
    | some ca, some cb => some ⟨.and ca.ce cb.ce, fun n X W x hs hN => andT_ok (ca.ok n X W x hs hN) (cb.ok n X W x hs hN)⟩
    | _, _ => none
def certOrT (c : Comp L cA N) : (es : List Expr) → (pos : Pos) → Option (CertW L cA sc N (.BoolOp .Or es pos))
  | [], _ => none
  | [a], pos => match c.T sc a with
    | some ca => some ⟨ca.ce, fun n X W x hs hN => pw_or1 (ca.ok n X W x hs hN)⟩
    | none => none
  | a :: b :: r, pos => match c.T sc a, certOrT c (b :: r) pos with
    | some ca, some cb => some ⟨.or ca.ce cb.ce, fun n X W x hs hN => orT_ok (ca.ok n X W x hs hN) (cb.ok n X W x hs hN)⟩
    | _, _ => none
/-- what is no and, or, not, comparison, choice: a test by its value -/
def plainT : Expr → Bool
  | .BoolOp .. => false
  | .UnaryOp .Not _ _ => false
  | .IfExp .. => false
  | .Compare .. => false
  | _ => true
theorem plainT_ok {e : Expr} (h : plainT e = true) (env : PySem.Env) (whole : Sem Value) : isTrue e env whole = (do let v ← whole; standAt e.pos; holding [v] (truthy v)) := by
  cases e with
  | UnaryOp op x p => cases op <;> first | rfl | cases h
  | _ => first | rfl | cases h

/-! ### sources -/
variable (L cA sc N) in
structure CertI (tg iter : Expr) where
  k : IK
  cl : CL
  ok : ∀ (n : Nat) (X : Cx) (W : WX), Ctx L cA n X W → X.env.scope = sc → X.N = N → PI X tg iter (tI X.K cA W (callN L.fns n) k cl)
def certSeq (c : Comp L cA N) (tg iter : Expr) : Option (CertI L cA sc N tg iter) := match c.E sc iter with
  | some a => some ⟨.seq, .cons a.ce .nil, fun n X W x hs hN => seq_ok (a.ok n X W x hs hN)⟩
  | none => none
def certIter (c : Comp L cA N) : (tg iter : Expr) → Option (CertI L cA sc N tg iter)
  | tg, .Call (.Name x p) [a] [] pos =>
    if h : x = "range" ∧ isGl sc "range" = true ∧ noStar a = true then (match certL (c.E sc) [a] with
      | some cl => some ⟨.rng1, cl.cl, fun n X W y hs hN => by
          have := rng1_ok (tg := tg) (p := p) (pos := pos) y (isGl_ok h.2.1 hs) h.2.2 (cl.ok n X W y hs hN)
          rw [← h.1] at this
          exact this⟩
      | none => none)
    else match tg with
      | .Tuple elts kk tpos => if h : x = "enumerate" ∧ isGl sc "enumerate" = true ∧ noStar a = true then (match certL (c.E sc) [a] with
          | some cl => some ⟨.enum, cl.cl, fun n X W y hs hN => by
              have := enum_ok (elts := elts) (kk := kk) (tpos := tpos) (p := p) (pos := pos) y (isGl_ok h.2.1 hs) h.2.2 (cl.ok n X W y hs hN)
              rw [← h.1] at this
              exact this⟩
          | none => none)
        else certSeq c (.Tuple elts kk tpos) (.Call (.Name x p) [a] [] pos)
      | tg => certSeq c tg (.Call (.Name x p) [a] [] pos)
  | tg, .Call (.Name x p) [a, b] [] pos =>
    if h : x = "range" ∧ isGl sc "range" = true ∧ noStar a = true ∧ noStar b = true then (match certL (c.E sc) [a, b] with
      | some cl => some ⟨.rng2, cl.cl, fun n X W y hs hN => by
          have := rng2_ok (tg := tg) (p := p) (pos := pos) y (isGl_ok h.2.1 hs) h.2.2.1 h.2.2.2 (cl.ok n X W y hs hN)
          rw [← h.1] at this
          exact this⟩
      | none => none)
    else match tg with
      | .Tuple elts kk tpos => if h : x = "zip" ∧ isGl sc "zip" = true ∧ noStar a = true ∧ noStar b = true then (match certL (c.E sc) [a, b] with
          | some cl => some ⟨.zip, cl.cl, fun n X W y hs hN => by
              have := zip_ok (elts := elts) (kk := kk) (tpos := tpos) (p := p) (pos := pos) y (isGl_ok h.2.1 hs) h.2.2.1 h.2.2.2 (cl.ok n X W y hs hN)
              rw [← h.1] at this
              exact this⟩
          | none => none)
        else certSeq c (.Tuple elts kk tpos) (.Call (.Name x p) [a, b] [] pos)
      | tg => certSeq c tg (.Call (.Name x p) [a, b] [] pos)
  | tg, iter => certSeq c tg iter

/-! ### comprehensions -/
variable (L cA sc N) in
structure CertTs (ifs : List Expr) where
  ce : CE
  ok : ∀ (n : Nat) (X : Cx) (W : WX), Ctx L cA n X W → X.env.scope = sc → X.N = N → PTs X ifs (tT X.K cA W (callN L.fns n) ce)
def certIfs (c : Comp L cA N) : (ifs : List Expr) → Option (CertTs L cA sc N ifs)
  | [] => some ⟨.con (.bool true), fun n X W y hs hN => ⟨fun pins s σ H Q I ⟨ρ, κ, Γ, S, st, l, q⟩ => pts_nil.run pins s σ H Q I (by
      simp only [evT, evE, Res.bind] at q
      exact q H ρ (Ext.refl _ _) st)⟩⟩
  | [e] => match c.T sc e with
    | some a => some ⟨a.ce, fun n X W y hs hN => pts_one (a.ok n X W y hs hN)⟩
    | none => none
  | _ => none
def ownOf (N : List Str) (names : List (Str × NameKind)) : List (Str × Nat) := names.filterMap fun (x, k) => match k with
  | .local => (nameIx N x).map fun i => (x, i.1)
  | .cell => (nameIx N x).map fun i => (x, i.1)
  | _ => none
variable (L cA sc N) in
/-- both readings of a comprehension: plain, and as a list that may change -/
structure CertLC (e : Expr) where
  t : NT
  k : IK
  src : CL
  cc : CE
  ce : CE
  own : List Nat
  ok : ∀ (n : Nat) (X : Cx) (W : WX), Ctx L cA n X W → X.env.scope = sc → X.N = N → PE X e (tE X.K cA W (callN L.fns n) (.lc t k src cc ce own)) ∧ PE X e (tE X.K cA W (callN L.fns n) (.mlc t k src cc ce own))
def certLC (c : Comp L cA N) (elt tg iter : Expr) (ifs : List Expr) (scope : Scope) (pos : Pos) : Option (CertLC L cA sc N (.ListComp elt [⟨tg, iter, ifs, 0⟩] scope pos)) :=
  if h : noSet iter = true ∧ blkC N sc scope (ownOf N scope.names) = true then
    match certIter (sc := sc) c tg iter, certG (L := L) (cA := cA) (sc := relS scope sc) (N := N) (okT := okB scope) 8 tg, certIfs (sc := relS scope sc) c ifs, c.E (relS scope sc) elt with
    | some ci, some cg, some cc, some ce => if h2 : (ntSlots cg.t).all (fun i => decide (i ∈ (ownOf N scope.names).map (·.2))) = true then
        some ⟨cg.t, ci.k, ci.cl, cc.ce, ce.ce, (ownOf N scope.names).map (·.2), fun n X W y hs hN =>
          lc_ok y hs hN h.1 h.2 (fun i hi => of_decide_eq_true (List.all_eq_true.mp h2 i hi)) (ci.ok n X W y hs hN) (fun X' c' h1 h3 h4 => cg.ok n X' W0 c' h1 h3 h4) (fun X' c' h1 h3 => cc.ok n X' W0 c' h1 h3) (fun X' c' h1 h3 => ce.ok n X' W0 c' h1 h3)⟩
      else none
    | _, _, _, _ => none
  else none

/-! ### all expressions -/
def compE (c : Comp L cA N) (sc : Scope) : (e : Expr) → Option (CertE L cA sc N e)
  | .Constant k j pos => certConst k j pos
  | .Name x pos => certName x pos
  | .BinOp a op b pos => match c.E sc a, c.E sc b with
    | some ca, some cb => certBin ca cb op pos
    | _, _ => none
  | .UnaryOp .USub a pos => match c.E sc a with
    | some ca => some ⟨.neg ca.ce, fun n X W x hs hN => neg_ok (ca.ok n X W x hs hN)⟩
    | none => none
  | .UnaryOp .Not a pos => match c.E sc a with
    | some ca => some ⟨.not ca.ce, fun n X W x hs hN => not_ok (ca.ok n X W x hs hN)⟩
    | none => none
  | .BoolOp .And es pos => certAnd c es pos
  | .BoolOp .Or es pos => certOr c es pos
  | .IfExp t a b pos => match c.T sc t, c.E sc a, c.E sc b with
    | some ct, some ca, some cb => some ⟨.ite ct.ce ca.ce cb.ce, fun n X W x hs hN => ite_ok (ct.ok n X W x hs hN) (ca.ok n X W x hs hN) (cb.ok n X W x hs hN)⟩
    | _, _, _ => none
  | .Compare a ops bs pos => match c.E sc a with
    | some ca => certCmp c ca ops bs pos
    | none => none
  | .Call (.Name x p) [e, t] [] pos => if h : x = "isinstance" then (match c.E sc e with
      | some ce => (match certIsi ce t p pos with
        | some r => some ⟨r.ce, fun n X W y hs hN => by
            have := r.ok n X W y hs hN
            rw [h]
            exact this⟩
        | none => none)
      | none => none)
    else match certL (c.E sc) [e, t] with
      | some cl => if (nameIx L.names x).isSome then certCall cl x p pos else certBf cl x p pos
      | none => none
  | .Call (.Name x p) [] [] pos => certCall (⟨.nil, fun _ _ _ _ _ _ => nil_ok⟩ : CertL L cA sc N []) x p pos
  | .Call (.Name x p) (e :: es) [] pos => match certL (c.E sc) (e :: es) with
    | some cl => if (nameIx L.names x).isSome then certCall cl x p pos else certBf cl x p pos
    | none => none
  | .Call (.Name x p) es kws pos => match certL (c.E sc) es, certK (c.E sc) kws with
    | some cl, some kl => certCallK cl kl x p pos
    | _, _ => none
  | .Subscript a (.Slice none none none p2) pos => match c.E sc a with
    | some ca => some ⟨.slcA ca.ce, fun n X W x hs hN => slcA_ok (ca.ok n X W x hs hN)⟩
    | none => none
  | .Subscript a (.Slice (some lo) none none p2) pos => match c.E sc a, c.E sc lo with
    | some ca, some cb => some ⟨.slcL ca.ce cb.ce, fun n X W x hs hN => slcL_ok (ca.ok n X W x hs hN) (cb.ok n X W x hs hN)⟩
    | _, _ => none
  | .Subscript a (.Slice none (some hi) none p2) pos => match c.E sc a, c.E sc hi with
    | some ca, some cb => some ⟨.slcH ca.ce cb.ce, fun n X W x hs hN => slcH_ok (ca.ok n X W x hs hN) (cb.ok n X W x hs hN)⟩
    | _, _ => none
  | .Subscript a (.Slice (some lo) (some hi) none p2) pos => match c.E sc a, c.E sc lo, c.E sc hi with
    | some ca, some cb, some cd => some ⟨.slcB ca.ce cb.ce cd.ce, fun n X W x hs hN => slcB_ok (ca.ok n X W x hs hN) (cb.ok n X W x hs hN) (cd.ok n X W x hs hN)⟩
    | _, _, _ => none
  | .Subscript a (.Slice none none (some (.UnaryOp .USub (.Constant (.int i) k p1) p2)) p3) pos => if h : i = 1 then (match c.E sc a with
      | some ca => some ⟨.rev ca.ce, fun n X W x hs hN => by
          have := rev_ok (k := k) (p1 := p1) (p2 := p2) (p3 := p3) (pos := pos) (ca.ok n X W x hs hN)
          rw [h]
          exact this⟩
      | none => none) else none
  | .Subscript a b pos => if h : plainIx b = true then (match c.E sc a, c.E sc b with
      | some ca, some cb => some ⟨.idx ca.ce cb.ce, fun n X W x hs hN => idx_ok h (ca.ok n X W x hs hN) (cb.ok n X W x hs hN)⟩
      | _, _ => none) else none
  | .Tuple es j pos => match certL (c.E sc) es with
    | some cl => some ⟨.tup cl.cl, fun n X W x hs hN => tup_ok (cl.ok n X W x hs hN)⟩
    | none => none
  | .List es pos => match certL (c.E sc) es with
    | some cl => some ⟨.lst cl.cl, fun n X W x hs hN => lst_ok (cl.ok n X W x hs hN)⟩
    | none => none
  | .ListComp elt [⟨tg, iter, ifs, 0⟩] scope pos => match certLC c elt tg iter ifs scope pos with
    | some a => some ⟨.lc a.t a.k a.src a.cc a.ce a.own, fun n X W x hs hN => (a.ok n X W x hs hN).1⟩
    | none => none
  | _ => none
def compT (c : Comp L cA N) (sc : Scope) : (e : Expr) → Option (CertT L cA sc N e)
  | .BoolOp .And es pos => match certAndT c es pos with
    | some a => some ⟨a.ce, fun n X W x hs hN => (a.ok n X W x hs hN).pt⟩
    | none => none
  | .BoolOp .Or es pos => match certOrT c es pos with
    | some a => some ⟨a.ce, fun n X W x hs hN => (a.ok n X W x hs hN).pt⟩
    | none => none
  | .UnaryOp .Not a pos => match c.T sc a with
    | some ca => some ⟨.not ca.ce, fun n X W x hs hN => notT_ok (ca.ok n X W x hs hN)⟩
    | none => none
  | .Compare a ops bs pos => match c.E sc a with
    | some ca => certCmpT c ca ops bs pos
    | none => none
  | e => if h : plainT e = true then (match c.E sc e with
    | some a => some ⟨a.ce, fun n X W x hs hN => test_ok (a.ok n X W x hs hN) (plainT_ok h _)⟩
    | none => none) else none
def comp : Nat → Comp L cA N
  | 0 => ⟨fun _ _ => none, fun _ _ => none⟩
  | m + 1 => ⟨fun sc e => compE (comp m) sc e, fun sc e => compT (comp m) sc e⟩
/-- an expression that makes a list which may change -/
def compM (c : Comp L cA N) (sc : Scope) : (e : Expr) → Option (CertE L cA sc N e)
  | .List es pos => match certL (c.E sc) es with
    | some cl => some ⟨.mlst cl.cl, fun n X W x hs hN => mlst_ok (cl.ok n X W x hs hN)⟩
    | none => none
  | .BinOp a .Add b pos => match c.E sc a, c.E sc b with
    | some ca, some cb => some ⟨.madd ca.ce cb.ce, fun n X W x hs hN => madd_ok (ca.ok n X W x hs hN) (cb.ok n X W x hs hN)⟩
    | _, _ => none
  | .ListComp elt [⟨tg, iter, ifs, 0⟩] scope pos => match certLC c elt tg iter ifs scope pos with
    | some a => some ⟨.mlc a.t a.k a.src a.cc a.ce a.own, fun n X W x hs hN => (a.ok n X W x hs hN).2⟩
    | none => none
  | e => c.E sc e
end
end Core
set_option Elab.async false
set_option linter.all false
set_option maxHeartbeats 1000000
/-! Core, part M: statements -/
namespace Core
open PySem PySem.W L2 PyProof.Rows
def PostS (K : Frag) (cA : Nat → Addr) (W : WX) (D : Ends) (κ : List Addr) (H : Hp) (ρ : List Addr) (r : ResS) : Prop := match r with
  | .nx Γ S' => ∀ H' ρ' σ', Ext H ρ H' ρ' → StRep K H' ρ' κ S' → RepL K H' ρ' κ Γ σ' → D.nx σ' H'
  | .rt d S' => ∀ H' ρ' v, Ext H ρ H' ρ' → StRep K H' ρ' κ S' → RepD K H' ρ' κ d v → D.rt v H'
  | .exc c fs Γ S' => ∀ H' ρ' σ' cv d, Ext H ρ H' ρ' → StRep K H' ρ' κ S' → RepL K H' ρ' κ Γ σ' → ExcAt K H' ρ' κ cA c fs cv d → W cv d σ' H'
  | .stuck => False
def tS (K : Frag) (cA : Nat → Addr) (W : WX) (F : Calls) (cs : CS) : TS := fun D σ H => ∃ ρ κ Γ S, StRep K H ρ κ S ∧ RepL K H ρ κ Γ σ ∧ PostS K cA W D κ H ρ (evS F cs Γ S)
section
variable {K : Frag} {cA : Nat → Addr} {W : WX} {F : Calls} {κ ρ ρ1 : List Addr} {σ : L2.St} {H H1 : Hp} {Γ : Loc} {S : Store} {D : Ends}
theorem PostS.ext {r : ResS} (h : PostS K cA W D κ H ρ r) (e : Ext H ρ H1 ρ1) : PostS K cA W D κ H1 ρ1 r := by
  cases r with
  | nx Γ S => exact fun H' ρ' σ' e' s l => h H' ρ' σ' (e.trans e') s l
  | rt d S => exact fun H' ρ' v e' s l => h H' ρ' v (e.trans e') s l
  | exc c fs Γ S => exact fun H' ρ' σ' cv d e' s l x => h H' ρ' σ' cv d (e.trans e') s l x
  | stuck => exact h
theorem PostS.toS {α : Type} {r : Res α} {f : α → Store → ResS} (l : RepL K H ρ κ Γ σ) (h : PostS K cA W D κ H ρ (r.toS Γ f)) : PostE K cA (fun cv d H' => W cv d σ H') κ H ρ r fun H1 ρ1 a S1 => PostS K cA W D κ H1 ρ1 (f a S1) := by
  cases r with
  | ok a S => exact fun H' ρ' e s => PostS.ext h e
  | exc c fs S => exact fun H' ρ' cv d e s x => h H' ρ' σ cv d e s (l.ext e) x
  | stuck => exact h
theorem tE.thenS {ce : CE} {Q : VK} {f : Core.D → Store → ResS} (s : StRep K H ρ κ S) (l : RepL K H ρ κ Γ σ) (h : PostS K cA W D κ H ρ ((evE F ce Γ S).toS Γ f))
    (k : ∀ H1 ρ1 d S1 v, Ext H ρ H1 ρ1 → StRep K H1 ρ1 κ S1 → RepL K H1 ρ1 κ Γ σ → RepD K H1 ρ1 κ d v → PostS K cA W D κ H1 ρ1 (f d S1) → Q v H1) : tE K cA W F ce σ H Q :=
  ⟨ρ, κ, Γ, S, s, l, (h.toS l).imp fun H1 ρ1 d S1 e s1 q v r => k H1 ρ1 d S1 v e s1 (l.ext e) r q⟩
theorem tL.thenS {cl : CL} {Q : List V → Hp → Prop} {f : List Core.D → Store → ResS} (s : StRep K H ρ κ S) (l : RepL K H ρ κ Γ σ) (h : PostS K cA W D κ H ρ ((evL F cl Γ S).toS Γ f))
    (k : ∀ H1 ρ1 d S1 v, Ext H ρ H1 ρ1 → StRep K H1 ρ1 κ S1 → RepL K H1 ρ1 κ Γ σ → RepDs K H1 ρ1 κ d v → PostS K cA W D κ H1 ρ1 (f d S1) → Q v H1) : tL K cA W F cl σ H Q :=
  ⟨ρ, κ, Γ, S, s, l, (h.toS l).imp fun H1 ρ1 d S1 e s1 q v r => k H1 ρ1 d S1 v e s1 (l.ext e) r q⟩
end
/-- what a def's body may lean on besides -/
structure CtxS (L : Law) (cA : Nat → Addr) (n : Nat) (X : Cx) (W : WX) : Prop extends Ctx L cA n X W where
  po : PassesOwn (model X.prog X.w) X.A X.env X.xe
  fnt : FnT (fun _ => true) X
  stk : X.stack = X.env :: X.outer
  frm : X.env.frame = some X.env.locals
section
variable {X : Cx} {W : WX} {cA : Nat → Addr} {F : Calls}
theorem pass_ok {pos : Pos} : PS X (.Pass pos) (tS X.K cA W F .skip) := PS.weak ps_pass fun D σ H ⟨ρ, κ, Γ, S, s, l, q⟩ => by
  simp only [evS] at q
  exact q H ρ σ (Ext.refl _ _) s l
theorem snil_ok : PSs X [] (tS X.K cA W F .skip) := PSs.weak pss_nil fun D σ H ⟨ρ, κ, Γ, S, s, l, q⟩ => by
  simp only [evS] at q
  exact q H ρ σ (Ext.refl _ _) s l
theorem seq_rd {K : Frag} {a b : CS} {D : Ends} {σ : L2.St} {H : Hp} (h : tS K cA W F (.seq a b) D σ H) : tSeq (tS K cA W F a) (tS K cA W F b) D σ H := by
  obtain ⟨ρ, κ, Γ, S, s, l, q⟩ := h
  simp only [evS] at q
  refine ⟨ρ, κ, Γ, S, s, l, ?_⟩
  cases h : evS F a Γ S with
  | nx Γ' S' =>
    rw [h] at q
    exact fun H' ρ' σ' e s' l' => ⟨ρ', κ, Γ', S', s', l', PostS.ext q e⟩
  | rt d S' => rw [h] at q; exact q
  | exc c fs Γ' S' => rw [h] at q; exact q
  | stuck => rw [h] at q; exact q
theorem scons_ok {st : Stmt} {rest : List Stmt} {a b : CS} (h1 : PS X st (tS X.K cA W F a)) (h2 : PSs X rest (tS X.K cA W F b)) : PSs X (st :: rest) (tS X.K cA W F (.seq a b)) :=
  PSs.weak (pss_cons h1 h2) fun D σ H h => seq_rd h
def noComp : Expr → Bool
  | .ListComp .. => false
  | .SetComp .. => false
  | .DictComp .. => false
  | _ => true
theorem noComp_ok {e : Expr} (h : noComp e = true) (t : Option Expr) (l : Nat) (env : PySem.Env) : swapsWith e t l env = pure false := by
  cases e <;> first | rfl | cases h
theorem expr_ok {e : Expr} {ce : CE} {pos : Pos} (hn : noComp e = true) (he : PE X e (tE X.K cA W F ce)) : PS X (.Expr e pos) (tS X.K cA W F (.expr ce)) :=
  PS.weak (ps_expr he (noComp_ok hn _ _ _)) fun D σ H ⟨ρ, κ, Γ, S, s, l, q⟩ => by
    simp only [evS] at q
    exact tE.thenS s l q fun H1 ρ1 d S1 v e s1 l1 r q1 => q1 H1 ρ1 σ (Ext.refl _ _) s1 l1
theorem ret_ok {e : Expr} {ce : CE} {pos : Pos} (he : PE X e (tE X.K cA W F ce)) : PS X (.Return (some e) pos) (tS X.K cA W F (.ret ce)) :=
  PS.weak (ps_ret he) fun D σ H ⟨ρ, κ, Γ, S, s, l, q⟩ => by
    simp only [evS] at q
    exact tE.thenS s l q fun H1 ρ1 d S1 v e s1 l1 r q1 => q1 H1 ρ1 v (Ext.refl _ _) s1 r
theorem retN_ok {pos : Pos} : PS X (.Return none pos) (tS X.K cA W F (.ret (.con .none))) :=
  PS.weak ps_retN fun D σ H ⟨ρ, κ, Γ, S, s, l, q⟩ => by
    simp only [evS, evE, Res.toS] at q
    exact q H ρ .non (Ext.refl _ _) s (.p .nn)
theorem asg_rd {K : Frag} {t : NT} {ce : CE} {D : Ends} {σ : L2.St} {H : Hp} (h : tS K cA W F (.asg t ce) D σ H) : tAsg (tE K cA W F ce) (gD K t) D σ H := by
  obtain ⟨ρ, κ, Γ, S, s, l, q⟩ := h
  simp only [evS] at q
  refine tE.thenS s l q fun H1 ρ1 d S1 v e s1 l1 r q1 => ?_
  split at q1
  · rename_i Γ' hb
    exact ⟨ρ1, κ, Γ, S1, d, Γ', s1, l1, r, hb, fun σ' l' _ => q1 H1 ρ1 σ' (Ext.refl _ _) s1 l'⟩
  · exact q1.elim
def noTup : Expr → Bool
  | .Tuple .. => false
  | .List .. => false
  | _ => true
theorem sole_ok {tg e : Expr} (h : noComp e = true) (l : Nat) (env : PySem.Env) : swapsWithSole [tg] e l env = pure false := noComp_ok h _ _ _
theorem stores_ok {tg e : Expr} (h : noTup tg = true ∨ noTup e = true) (env : PySem.Env) : swappedStores [tg] e env = pure none := by
  rcases h with h | h
  · cases tg <;> first | cases h; done | (cases e <;> rfl)
  · cases e <;> first | cases h; done | (cases tg <;> rfl)
theorem asg_ok {tg e : Expr} {t : NT} {ce : CE} {pos : Pos} (hstar : noStar tg = true) (hc : noComp e = true) (ht : noTup tg = true ∨ noTup e = true) (he : PE X e (tE X.K cA W F ce)) (hg : PG X tg (gD X.K t)) : PS X (.Assign [tg] e pos) (tS X.K cA W F (.asg t ce)) :=
  PS.weak (ps_asg he hg (sole_ok hc _ _) (stores_ok ht _) (h1 := by rw [each_ok hstar]; rfl)) fun D σ H h => asg_rd h
theorem ite_okS {c : Expr} {a b : List Stmt} {cc : CE} {ca cb : CS} {pos : Pos} (hc : PT X c (tT X.K cA W F cc)) (ha : PSs X a (tS X.K cA W F ca)) (hb : PSs X b (tS X.K cA W F cb)) : PS X (.If c a b pos) (tS X.K cA W F (.ite cc ca cb)) :=
  PS.weak (ps_if hc ha hb) fun D σ H ⟨ρ, κ, Γ, S, s, l, q⟩ => by
    simp only [evS] at q
    refine ⟨ρ, κ, Γ, S, s, l, (q.toS l).imp fun H1 ρ1 x S1 e s1 q1 => ?_⟩
    cases x with
    | true =>
      rw [if_pos rfl] at q1 ⊢
      exact ⟨ρ1, κ, Γ, S1, s1, l.ext e, q1⟩
    | false =>
      rw [if_neg (by decide)] at q1 ⊢
      exact ⟨ρ1, κ, Γ, S1, s1, l.ext e, q1⟩
theorem stop_ok {st : Stmt} : PS X st (tS X.K cA W F .stop) := PS.weak ps_never fun D σ H ⟨ρ, κ, Γ, S, s, l, q⟩ => by
  simp only [evS] at q
  exact q.elim
theorem while_okS {c : Expr} {b : List Stmt} {cc : CE} {cb : CS} {pos : Pos} (hp : PassesOwn (model X.prog X.w) X.A X.env X.xe) (hc : PT X c (tT X.K cA W F cc)) (hb : PSs X b (tS X.K cA W F cb)) : PS X (.While c b [] pos) (tS X.K cA W F (.whl cc cb)) :=
  PS.weak (ps_while hp hc hb) fun D σ H ⟨ρ, κ, Γ, S, s, l, q⟩ => by
    simp only [evS] at q
    by_cases hx : ∃ r, ∃ k, whileN (evT F cc) (evS F cb) k Γ S = some r
    · obtain ⟨r, k, hk⟩ := hx
      rw [whileF_of hk] at q
      refine ⟨fun m σ' H' => ∃ ρ' Γ' S', Ext H ρ H' ρ' ∧ StRep X.K H' ρ' κ S' ∧ RepL X.K H' ρ' κ Γ' σ' ∧ whileN (evT F cc) (evS F cb) m Γ' S' = some r, ⟨k, ρ, Γ, S, Ext.refl _ _, s, l, hk⟩, ?_⟩
      rintro m σ' H' ⟨ρ', Γ', S', ex, s', l', hm⟩
      refine ⟨ρ', κ, Γ', S', s', l', ?_⟩
      cases m with
      | zero => cases hm
      | succ m =>
        unfold whileN at hm
        cases hcc : evT F cc Γ' S' with
        | stuck =>
          rw [hcc] at hm
          cases hm
          exact q.elim
        | exc c fs S2 =>
          rw [hcc] at hm
          cases hm
          exact fun H2 ρ2 cv d e2 s2 x => q H2 ρ2 σ' cv d (ex.trans e2) s2 (l'.ext e2) x
        | ok x S2 =>
          rw [hcc] at hm
          intro H2 ρ2 e2 s2
          cases x with
          | false =>
            cases hm
            rw [if_neg (by decide)]
            exact q H2 ρ2 σ' (ex.trans e2) s2 (l'.ext e2)
          | true =>
            simp only at hm
            rw [if_pos rfl]
            refine ⟨_, fun σ3 H3 h3 => ⟨m, Nat.lt_succ_self m, h3⟩, ρ2, κ, Γ', S2, s2, l'.ext e2, ?_⟩
            cases hbb : evS F cb Γ' S2 with
            | nx Γ3 S3 =>
              rw [hbb] at hm
              exact fun H3 ρ3 σ3 e3 s3 l3 => ⟨ρ3, Γ3, S3, (ex.trans e2).trans e3, s3, l3, hm⟩
            | rt d S3 =>
              rw [hbb] at hm
              cases hm
              exact fun H3 ρ3 v e3 s3 r3 => q H3 ρ3 v ((ex.trans e2).trans e3) s3 r3
            | exc c fs Γ3 S3 =>
              rw [hbb] at hm
              cases hm
              exact fun H3 ρ3 σ3 cv d e3 s3 l3 x => q H3 ρ3 σ3 cv d ((ex.trans e2).trans e3) s3 l3 x
            | stuck =>
              rw [hbb] at hm
              cases hm
              exact q.elim
    · unfold whileF at q
      rw [dif_neg hx] at q
      exact q.elim
theorem for_okS {tg iter : Expr} {b : List Stmt} {t : NT} {k : IK} {src : CL} {cb : CS} {pos : Pos} (hp : PassesOwn (model X.prog X.w) X.A X.env X.xe) (hc : X.calm = true) (hs : noSet iter = true) (hi : PI X tg iter (tI X.K cA W F k src)) (hg : PG X tg (gD X.K t)) (hb : PSs X b (tS X.K cA W F cb)) :
    PS X (.For tg iter b [] pos) (tS X.K cA W F (.for_ t k src cb)) := by
  have fs : ∀ x, foldedSetIterable iter X.env x = pure x := fun x => by
    cases iter <;> first | rfl | cases hs
  refine PS.weak (ps_for hp hc hi hg hb fs) fun D σ H ⟨ρ, κ, Γ, S, s, l, q⟩ => ?_
  simp only [evS] at q
  refine ⟨ρ, κ, Γ, S, s, l, (q.toS l).imp fun H1 ρ1 ds S1 e1 s1 q1 => ?_⟩
  split at q1
  · exact q1.elim
  · rename_i r hr
    split at q1
    · exact q1.elim
    · rename_i n hn
      refine ⟨r, hr, fun J fol hz => ?_⟩
      have l1 := l.ext e1
      have fb1 : ∀ (H' : Hp) (ρ' : List Addr), Ext H1 ρ1 H' ρ' → ∀ b, H1 b ≠ none → Fb ρ' κ b → Fb ρ1 κ b := fun H' ρ' ex b hb z => ex.fb hb z
      generalize hst : (fun (d : Core.D) (Γ' : Loc) (S' : Store) => match bindNT t d Γ' with
          | none => ResS.stuck
          | some Γ2 => evS F cb Γ2 S') = step at q1
      have hstep : ∀ d Γ' S', step d Γ' S' = match bindNT t d Γ' with
          | none => ResS.stuck
          | some Γ2 => evS F cb Γ2 S' := fun d Γ' S' => by rw [← hst]
      generalize hres : forGo step r n 0 Γ S1 = res at q1
      refine ⟨fun i m σ' H' => i + m = n ∧ ∃ ρ' Γ' S', Ext H1 ρ1 H' ρ' ∧ StRep X.K H' ρ' κ S' ∧ RepL X.K H' ρ' κ Γ' σ' ∧ forGo step r m i Γ' S' = res, ⟨n, by omega, ρ1, Γ, S1, Ext.refl _ _, s1, l1, hres⟩, ?_⟩
      rintro i m σ' H' ⟨him, ρ', Γ', S', ex, s', l', hgo⟩
      cases m with
      | zero =>
        unfold forGo at hgo
        split at hgo
        · rename_i hlen
          subst hgo
          exact .inl ⟨fol.stop H' ρ' κ S' i ex (fb1 H' ρ' ex) s' hlen, q1 H' ρ' σ' ex s' l'⟩
        · subst hgo
          exact q1.elim
      | succ m =>
        unfold forGo at hgo
        cases hd : srcAt S' r i with
        | none =>
          rw [hd] at hgo
          simp only at hgo
          subst hgo
          exact q1.elim
        | some d =>
          rw [hd] at hgo
          simp only at hgo
          refine .inr ⟨fol.go H' ρ' κ S' i d ex (fb1 H' ρ' ex) s' hd, _, fun σ2 H2 h2 => ⟨m, Nat.lt_succ_self m, h2⟩, fun x H2 hy => ?_⟩
          obtain ⟨e2, s2, rx⟩ := fol.yld H' ρ' κ S' i d x H2 ex (fb1 H' ρ' ex) s' hd hy
          rw [hstep] at hgo
          cases hb : bindNT t d Γ' with
          | none =>
            rw [hb] at hgo
            simp only at hgo
            subst hgo
            exact q1.elim
          | some Γ2 =>
            rw [hb] at hgo
            simp only at hgo
            refine ⟨ρ', κ, Γ', S', d, Γ2, s2, l'.ext e2, rx, hb, fun σ2 l2 _ => ⟨ρ', κ, Γ2, S', s2, l2, ?_⟩⟩
            cases hbb : evS F cb Γ2 S' with
            | nx Γ3 S3 =>
              rw [hbb] at hgo
              exact fun H3 ρ3 σ3 e3 s3 l3 => ⟨by omega, ρ3, Γ3, S3, (ex.trans e2).trans e3, s3, l3, hgo⟩
            | rt d S3 =>
              rw [hbb] at hgo
              simp only at hgo
              subst hgo
              exact fun H3 ρ3 v e3 s3 r3 => q1 H3 ρ3 v ((ex.trans e2).trans e3) s3 r3
            | exc c fs Γ3 S3 =>
              rw [hbb] at hgo
              simp only at hgo
              subst hgo
              exact fun H3 ρ3 σ3 cv d e3 s3 l3 x => q1 H3 ρ3 σ3 cv d ((ex.trans e2).trans e3) s3 l3 x
            | stuck =>
              rw [hbb] at hgo
              simp only at hgo
              subst hgo
              exact q1.elim
end
end Core
set_option Elab.async false
set_option linter.all false
set_option maxHeartbeats 1000000
/-! Core, part N: stores of several names, items, append, extend -/
namespace Core
open PySem PySem.W L2 PyProof.Rows
theorem swap2 {x y : Str} {px py pt : Pos} {kt k2 : Nat} {pt2 : Pos} {a b : Expr} {env : PySem.Env} (hk : env.scope.kind = .function) (hx : env.scope.names.lookup x = some .local) (hy : env.scope.names.lookup y = some .local)
    (hl : (py.line == px.line) = true) (hxy : (y == x) = false) (ha : noStar a = true) (hb : noStar b = true) (hf : [a, b].all (foldedForSure 8) = false) (hc : [a, b].all (constantsAlone 8) = false) :
    swappedStores [.Tuple [.Name x px, .Name y py] kt pt] (.Tuple [a, b] k2 pt2) env = pure (some [x, y]) := by
  have kx : env.kindOf x = some .local := hx
  have ky : env.kindOf y = some .local := hy
  have hbk : env.blockKind = .function := by unfold Env.blockKind; rw [hk]; rfl
  have e2 : [x, y].eraseDups.length = 2 := by
    simp [List.eraseDups_cons, hxy]
  unfold swappedStores
  simp only [hbk, hf, hc, List.filterMap_cons, List.filterMap_nil, kx, ky, List.head?_cons, Option.map_some, Option.getD_some, Expr.pos, hl, beq_self_eq_true, Bool.and_true, if_true, e2]
  rw [if_neg, if_neg]
  · rfl
  · simp only [List.any_cons, List.any_nil, Bool.or_false, Bool.or_eq_true, not_or]
    constructor
    · intro h
      cases a <;> first | cases h; done | cases ha
    · intro h
      cases b <;> first | cases h; done | cases hb
  · exact (show ¬ (false = true) by decide)
theorem swap3 {x y z : Str} {px py pz pt : Pos} {kt k2 : Nat} {pt2 : Pos} {a b c : Expr} {env : PySem.Env} (hk : env.scope.kind = .function) (hx : env.scope.names.lookup x = some .local) (hy : env.scope.names.lookup y = some .local) (hz : env.scope.names.lookup z = some .local)
    (hl : (py.line == px.line) = true) (hl2 : (pz.line == px.line) = true) (hxy : (y == x) = false) (hxz : (z == x) = false) (hyz : (z == y) = false) (ha : noStar a = true) (hb : noStar b = true) (hd : noStar c = true) (hf : [a, b, c].all (foldedForSure 8) = false) (hc : [a, b, c].all (constantsAlone 8) = false) :
    swappedStores [.Tuple [.Name x px, .Name y py, .Name z pz] kt pt] (.Tuple [a, b, c] k2 pt2) env = pure (some [x, y, z]) := by
  have kx : env.kindOf x = some .local := hx
  have ky : env.kindOf y = some .local := hy
  have kz : env.kindOf z = some .local := hz
  have hbk : env.blockKind = .function := by unfold Env.blockKind; rw [hk]; rfl
  have e2 : [x, y, z].eraseDups.length = 3 := by
    simp [List.eraseDups_cons, hxy, hxz, hyz]
  unfold swappedStores
  simp only [hbk, hf, hc, List.filterMap_cons, List.filterMap_nil, kx, ky, kz, List.head?_cons, Option.map_some, Option.getD_some, Expr.pos, hl, hl2, beq_self_eq_true, Bool.and_true, if_true, e2]
  rw [if_neg, if_neg]
  · rfl
  · simp only [List.any_cons, List.any_nil, Bool.or_false, Bool.or_eq_true, not_or]
    refine ⟨fun h => ?_, fun h => ?_, fun h => ?_⟩
    · cases a <;> first | cases h; done | cases ha
    · cases b <;> first | cases h; done | cases hb
    · cases c <;> first | cases h; done | cases hd
  · exact (show ¬ (false = true) by decide)
/-! ### stores -/
section
variable {X : Cx} {W : WX} {cA : Nat → Addr} {F : Calls}
theorem setAll2 {i j : Nat} {ds : List D} {Γ Γ' : Core.Loc} (h : setAll [i, j] ds Γ = some Γ') : ∃ a b, ds = [a, b] ∧ Γ' = (Γ.set i (some a)).set j (some b) := by
  match ds, h with
  | [a, b], h => exact ⟨a, b, rfl, by simpa [setAll] using h.symm⟩
  | [], h => simp [setAll] at h
  | [_], h => simp [setAll] at h
  | _ :: _ :: _ :: _, h => simp [setAll] at h
theorem setAll3 {i j k : Nat} {ds : List D} {Γ Γ' : Core.Loc} (h : setAll [i, j, k] ds Γ = some Γ') : ∃ a b c, ds = [a, b, c] ∧ Γ' = ((Γ.set i (some a)).set j (some b)).set k (some c) := by
  match ds, h with
  | [a, b, c], h => exact ⟨a, b, c, rfl, by simpa [setAll] using h.symm⟩
  | [], h => simp [setAll] at h
  | [_], h => simp [setAll] at h
  | [_, _], h => simp [setAll] at h
  | _ :: _ :: _ :: _ :: _, h => simp [setAll] at h
theorem RepL.set1 {K : Frag} {H : Hp} {ρ κ : List Addr} {Γ : Core.Loc} {σ : L2.St} {d : D} {v : V} (l : RepL K H ρ κ Γ σ) (r : RepD K H ρ κ d v) (i : Nat) : RepL K H ρ κ (Γ.set i (some d)) (σ.set i (some v)) := Paired.set' (.an r) i l
theorem par2_rd {K : Frag} {i j : Nat} {cl : CL} {D : Ends} {σ : L2.St} {H : Hp} (h : tS K cA W F (.par [i, j] cl) D σ H) : tPar i j (tL K cA W F cl) D σ H := by
  obtain ⟨ρ, κ, Γ, S, s, l, q⟩ := h
  simp only [evS] at q
  refine tL.thenS s l q fun H1 ρ1 ds S1 vs e s1 l1 r q1 => ?_
  split at q1
  · rename_i Γ' hg
    obtain ⟨a, b, rfl, rfl⟩ := setAll2 hg
    cases r with
    | cons r1 r2 =>
      cases r2 with
      | cons r2 r3 =>
        cases r3
        exact ⟨_, _, rfl, q1 H1 ρ1 _ (Ext.refl _ _) s1 ((l1.set1 r1 i).set1 r2 j)⟩
  · exact q1.elim
theorem par3_rd {K : Frag} {i j k : Nat} {cl : CL} {D : Ends} {σ : L2.St} {H : Hp} (h : tS K cA W F (.par [i, j, k] cl) D σ H) : tPar3 i j k (tL K cA W F cl) D σ H := by
  obtain ⟨ρ, κ, Γ, S, s, l, q⟩ := h
  simp only [evS] at q
  refine tL.thenS s l q fun H1 ρ1 ds S1 vs e s1 l1 r q1 => ?_
  split at q1
  · rename_i Γ' hg
    obtain ⟨a, b, c, rfl, rfl⟩ := setAll3 hg
    cases r with
    | cons r1 r2 =>
      cases r2 with
      | cons r2 r3 =>
        cases r3 with
        | cons r3 r4 =>
          cases r4
          exact ⟨_, _, _, rfl, q1 H1 ρ1 _ (Ext.refl _ _) s1 (((l1.set1 r1 i).set1 r2 j).set1 r3 k)⟩
  · exact q1.elim
theorem RepD.at {K : Frag} {H : Hp} {ρ κ : List Addr} {n : Nat} {v : V} (r : RepD K H ρ κ (.loc n) v) : ∃ a, v = .ref a ∧ ρ[n]? = some a := by
  cases r with
  | loc h => exact ⟨_, rfl, h⟩
theorem set_vals {K : Frag} {H : Hp} {ρ κ : List Addr} {ds : List D} {vs : List V} {d : D} {v : V} (r : RepDs K H ρ κ ds vs) (q : RepD K H ρ κ d v) (j : Nat) : RepDs K H ρ κ (ds.set j d) (vs.set j v) := Paired.set' q j r
theorem seti_ok {o i e : Expr} {co ci ce : CE} {pos tpos : Pos} (hc : noComp e = true) (hp : plainIx i = true) (ho : PE X o (tE X.K cA W F co)) (hi : PE X i (tE X.K cA W F ci)) (he : PE X e (tE X.K cA W F ce)) :
    PS X (.Assign [.Subscript o i tpos] e pos) (tS X.K cA W F (.seti co ci ce)) := by
  have ha : ∀ v, assign (.Subscript o i tpos) X.env v = (do
      let ov ← holding [v] (eval o X.env)
      let iv ← holding [v, ov] (eval i X.env)
      standAt tpos
      holding [v, ov, iv] (setItem ov iv v)
      release [v, ov, iv] []) := fun v => by
    cases i <;> first | rfl | cases hp
  have hg := pg_sub (pos := tpos) ho hi (set_list (X := X)) ha
  refine PS.weak (ps_asg (pos := pos) he hg (sole_ok hc _ _) (stores_ok (.inl rfl) _) (h1 := by rw [each_ok rfl]; rfl)) fun D σ H ⟨ρ, κ, Γ, S, s, l, q⟩ => ?_
  simp only [evS] at q
  refine tE.thenS s l q fun H1 ρ1 d S1 v e s1 l1 r q1 => tE.thenS s1 l1 q1 fun H2 ρ2 d2 S2 w e2 s2 l2 r2 q2 => tE.thenS s2 l2 q2 fun H3 ρ3 d3 S3 u e3 s3 l3 r3 q3 => ?_
  split at q3
  · rename_i n k
    split at q3
    · rename_i xs hn
      split at q3
      · rename_i j hj
        obtain ⟨a, rfl, ha⟩ := (r2.ext e3).at
        obtain ⟨vs, h1, h2, h3⟩ := s3.lst ha hn
        obtain ⟨t, ht⟩ : ∃ t : Int, u = .int t ∧ t = k := by
          cases r3 with
          | p r3 => cases r3; exact ⟨_, rfl, rfl⟩
        obtain ⟨rfl, rfl⟩ := ht
        obtain ⟨s4, e4⟩ := s3.set ha hn (vs := vs.set j v) (by rw [List.length_set]; exact h2) (set_vals h3 ((r.ext e2).ext e3) j)
        exact ⟨a, vs, t, j, rfl, rfl, h1, by rw [← Paired.len h3]; exact hj, q3 _ ρ3 σ e4 s4 (l3.ext e4)⟩
      · exact q3.elim
    · exact q3.elim
  · exact q3.elim
theorem typL {K : Frag} {H : Hp} {ρ κ : List Addr} {S : Store} {n : Nat} {a : Addr} (s : StRep K H ρ κ S) (h : ρ[n]? = some a) : tyV K "list" (.ref a) H := by
  obtain ⟨z, _⟩ := List.getElem?_eq_some_iff.mp h
  rw [s.len] at z
  cases hc : S[n]? with
  | none => rw [List.getElem?_eq_none_iff] at hc; omega
  | some c =>
    cases c with
    | lst xs =>
      obtain ⟨vs, h1, _⟩ := s.lst h hc
      exact .inl ⟨rfl, vs, .inl (.inl h1)⟩
/-- one argument -/
theorem tL1 {K : Frag} {H : Hp} {ρ κ : List Addr} {S : Store} {Γ : Core.Loc} {σ : L2.St} {ce : CE} {Q : List V → Hp → Prop} {f : Core.D → Store → ResS} {D : Ends} (s : StRep K H ρ κ S) (l : RepL K H ρ κ Γ σ) (h : PostS K cA W D κ H ρ ((evE F ce Γ S).toS Γ f))
    (k : ∀ H1 ρ1 d S1 v, Ext H ρ H1 ρ1 → StRep K H1 ρ1 κ S1 → RepL K H1 ρ1 κ Γ σ → RepD K H1 ρ1 κ d v → PostS K cA W D κ H1 ρ1 (f d S1) → Q [v] H1) : tCons (tE K cA W F ce) tNil σ H Q :=
  tE.thenS s l h fun H1 ρ1 d S1 v e s1 l1 r q => k H1 ρ1 d S1 v e s1 l1 r q
theorem append_ok {o e : Expr} {co ce : CE} {apos cpos pos : Pos} (hs : noStar e = true) (hline : (apos.endLine == cpos.line) = true) (hbase : attributeBase o "append" X.env (eval o X.env) = eval o X.env) (ho : PE X o (tE X.K cA W F co)) (he : PE X e (tE X.K cA W F ce)) :
    PS X (.Expr (.Call (.Attribute o "append" apos) [e] [] cpos) pos) (tS X.K cA W F (.append co ce)) := by
  have st : ∀ es, starEach (e :: es) X.env = (false, eval e X.env) :: starEach es X.env := fun es => noStar_ok hs es X.env
  have fl : ((backTo cpos (starEach [e] X.env)).all (fun x => !x.1) && (backToKw cpos (keywordEach [] X.env)).all (fun x => x.1.isSome)
      && decide ([e].length + ([] : List Keyword).length + (if ([] : List Keyword).isEmpty then 0 else 1) < 30)) = true := by
    rw [st]; rfl
  refine PS.weak (ps_expr (pe_bm PySem.F.plainAttrs_list PySem.F.slot_list_append PySem.F.type_list_append mt_append ho (pa_cons he pa_nil (st [])) hbase fl hline (st []) rfl) rfl) fun D σ H ⟨ρ, κ, Γ, S, s, l, q⟩ => ?_
  simp only [evS] at q
  refine tE.thenS s l q fun H1 ρ1 d S1 v e s1 l1 r q1 => ?_
  split at q1
  · rename_i n
    obtain ⟨a, rfl, ha⟩ := r.at
    refine ⟨typL s1 ha, tL1 s1 l1 q1 fun H2 ρ2 d2 S2 w e2 s2 l2 r2 q2 => ?_⟩
    split at q2
    · rename_i xs hn
      split at q2
      · rename_i hz
        obtain ⟨vs, h1, h2, h3⟩ := s2.lst (e2.at ha) hn
        have hl := Paired.len h3
        have hz2 : (vs ++ [w]).length ≤ sizeLine := by
          rw [List.length_append, List.length_singleton]
          omega
        obtain ⟨s3, e3⟩ := s2.set (e2.at ha) hn hz2 (Paired.app h3 (.cons r2 .nil))
        exact ⟨a, vs, w, rfl, rfl, h1, by omega, q2 _ ρ2 σ e3 s3 (l2.ext e3)⟩
      · exact q2.elim
    · exact q2.elim
  · exact q1.elim
theorem extend_ok {o e : Expr} {co ce : CE} {apos cpos pos : Pos} (hs : noStar e = true) (hline : (apos.endLine == cpos.line) = true) (hbase : attributeBase o "extend" X.env (eval o X.env) = eval o X.env) (ho : PE X o (tE X.K cA W F co)) (he : PE X e (tE X.K cA W F ce)) :
    PS X (.Expr (.Call (.Attribute o "extend" apos) [e] [] cpos) pos) (tS X.K cA W F (.extend co ce)) := by
  have st : ∀ es, starEach (e :: es) X.env = (false, eval e X.env) :: starEach es X.env := fun es => noStar_ok hs es X.env
  have fl : ((backTo cpos (starEach [e] X.env)).all (fun x => !x.1) && (backToKw cpos (keywordEach [] X.env)).all (fun x => x.1.isSome)
      && decide ([e].length + ([] : List Keyword).length + (if ([] : List Keyword).isEmpty then 0 else 1) < 30)) = true := by
    rw [st]; rfl
  refine PS.weak (ps_expr (pe_bm PySem.F.plainAttrs_list PySem.F.slot_list_extend PySem.F.type_list_extend mt_extend ho (pa_cons he pa_nil (st [])) hbase fl hline (st []) rfl) rfl) fun D σ H ⟨ρ, κ, Γ, S, s, l, q⟩ => ?_
  simp only [evS] at q
  refine tE.thenS s l q fun H1 ρ1 d S1 v e s1 l1 r q1 => ?_
  split at q1
  · rename_i n
    obtain ⟨a, rfl, ha⟩ := r.at
    refine ⟨typL s1 ha, tL1 s1 l1 q1 fun H2 ρ2 d2 S2 w e2 s2 l2 r2 q2 => ?_⟩
    split at q2
    · rename_i xs ys hn hy
      split at q2
      · rename_i hz
        obtain ⟨vs, h1, h2, h3⟩ := s2.lst (e2.at ha) hn
        have hl := Paired.len h3
        have vb := pureM_rep s2 r2 hy
        cases vb with
        | lst g1 n1 p1 =>
          have hz2 := hz
          rw [hl, ← p1.length] at hz2
          obtain ⟨s3, e3⟩ := s2.set (e2.at ha) hn (by rw [List.length_append]; exact hz2) (Paired.app h3 p1.ds)
          exact ⟨a, _, vs, _, rfl, rfl, h1, g1, hz2, q2 _ ρ2 σ e3 s3 (l2.ext e3)⟩
      · exact q2.elim
    · exact q2.elim
  · exact q1.elim
end
end Core
set_option Elab.async false
set_option linter.all false
set_option maxHeartbeats 1000000
/-! Core, part O: calls: a def sees the lists that it is handed -/
namespace Core
open PySem PySem.W L2 PyProof.Rows
theorem sub_at : ∀ {ns : List Nat} {S T : Store}, subS S ns = some T → T.length = ns.length ∧ ∀ (k n : Nat), ns[k]? = some n → ∃ c, S[n]? = some c ∧ T[k]? = some c ∧ cellP c = true
  | [], S, T, h => by
    simp only [subS, Option.some.injEq] at h
    subst h
    exact ⟨rfl, fun k n e => by simp at e⟩
  | m :: r, S, T, h => by
    unfold subS at h
    split at h
    · rename_i c hc
      split at h
      · rename_i hp
        simp only [Option.map_eq_some_iff] at h
        obtain ⟨U, h1, rfl⟩ := h
        obtain ⟨l1, l2⟩ := sub_at h1
        refine ⟨by simp [l1], fun k n e => ?_⟩
        cases k with
        | zero =>
          simp at e
          subst e
          exact ⟨c, hc, rfl, hp⟩
        | succ k => exact l2 k n (by simpa using e)
      · cases h
    · cases h
theorem back_at : ∀ {ns : List Nat} {S T S' : Store}, ns.Nodup → backS S ns T = some S' → S'.length = S.length ∧ (∀ n : Nat, n ∉ ns → S'[n]? = S[n]?) ∧ ∀ (k n : Nat), ns[k]? = some n → n < S.length → ∃ c, T[k]? = some c ∧ S'[n]? = some c ∧ cellP c = true
  | [], S, T, S', _, h => by
    simp only [backS, Option.some.injEq] at h
    subst h
    exact ⟨rfl, fun _ _ => rfl, fun k n e => by simp at e⟩
  | m :: r, S, [], S', _, h => by simp [backS] at h
  | m :: r, S, c :: T, S', nd, h => by
    unfold backS at h
    split at h
    · rename_i hp
      obtain ⟨n1, n2⟩ := List.nodup_cons.mp nd
      obtain ⟨l1, l2, l3⟩ := back_at n2 h
      rw [List.length_set] at l1
      refine ⟨l1, fun n hn => ?_, fun k n e hl => ?_⟩
      · simp only [List.mem_cons, not_or] at hn
        rw [l2 n hn.2, List.getElem?_set_ne (fun e => hn.1 e.symm)]
      · cases k with
        | zero =>
          simp at e
          subst e
          refine ⟨c, rfl, ?_, hp⟩
          rw [l2 m n1, List.getElem?_set_self hl]
        | succ k => exact l3 k n (by simpa using e) (by rw [List.length_set]; exact hl)
    · cases h
theorem locs_mem : ∀ {ds : List D} {n : Nat}, n ∈ locsOf ds → D.loc n ∈ ds
  | [], _, h => by cases h
  | .p _ :: r, n, h => List.mem_cons_of_mem _ (locs_mem (ds := r) h)
  | .ro _ :: r, n, h => List.mem_cons_of_mem _ (locs_mem (ds := r) h)
  | .loc m :: r, n, h => by
    simp only [locsOf, List.mem_cons] at h
    rcases h with h | h
    · rw [h]; exact List.mem_cons_self
    · exact List.mem_cons_of_mem _ (locs_mem (ds := r) h)
section
variable {K : Frag} {H : Hp} {ρ κ : List Addr} {S : Store}
def ad (ρ : List Addr) (n : Nat) : Addr := (ρ[n]?).getD 0
theorem ad_at {n : Nat} (h : n < ρ.length) : ρ[n]? = some (ad ρ n) := by
  unfold ad
  rw [List.getElem?_eq_getElem h]; rfl
abbrev subA (ρ : List Addr) (ns : List Nat) : List Addr := ns.map (ad ρ)
abbrev subK (ρ κ : List Addr) (ns : List Nat) : List Addr := κ ++ ρ.filter fun b => !decide (b ∈ subA ρ ns)
theorem subA_mem {ns : List Nat} {b : Addr} (hn : ∀ n ∈ ns, n < ρ.length) (h : b ∈ subA ρ ns) : b ∈ ρ := by
  obtain ⟨n, h1, rfl⟩ := List.mem_map.mp h
  exact List.mem_of_getElem? (ad_at (hn n h1))
theorem sub_fb {ns : List Nat} {b : Addr} (hn : ∀ n ∈ ns, n < ρ.length) : Fb (subA ρ ns) (subK ρ κ ns) b ↔ Fb ρ κ b := by
  constructor
  · rintro (h | h)
    · exact .inl (subA_mem hn h)
    · rcases List.mem_append.mp h with h | h
      · exact .inr h
      · exact .inl (List.mem_filter.mp h).1
  · rintro (h | h)
    · by_cases z : b ∈ subA ρ ns
      · exact .inl z
      · exact .inr (List.mem_append.mpr (.inr (List.mem_filter.mpr ⟨h, by simpa using z⟩)))
    · exact .inr (List.mem_append.mpr (.inl h))
theorem allP_rep {ρ' κ' : List Addr} {ds : List D} {vs : List V} (hp : (allP ds).isSome = true) (h : ∀ b, H b ≠ none → Fb ρ' κ' b → Fb ρ κ b) (r : RepDs K H ρ κ ds vs) : RepDs K H ρ' κ' ds vs := by
  obtain ⟨xs, hx⟩ := Option.isSome_iff_exists.mp hp
  rw [allP_map hx] at r ⊢
  exact (RepPs.fb h r.ps).ds
theorem cell_fb {ρ' κ' : List Addr} {a : Addr} {c : Cell} (hp : cellP c = true) (h : ∀ b, H b ≠ none → Fb ρ' κ' b → Fb ρ κ b) (r : CellRep K H ρ κ a c) : CellRep K H ρ' κ' a c := by
  cases c with
  | lst ds =>
    obtain ⟨vs, h1, h2, h3⟩ := r
    exact ⟨vs, h1, h2, allP_rep hp h h3⟩
theorem StRep.sub {ns : List Nat} {T : Store} (s : StRep K H ρ κ S) (h : subS S ns = some T) (nd : ns.Nodup) : (∀ n ∈ ns, n < ρ.length) ∧ StRep K H (subA ρ ns) (subK ρ κ ns) T := by
  obtain ⟨l1, l2⟩ := sub_at h
  have hn : ∀ n ∈ ns, n < ρ.length := fun n hm => by
    obtain ⟨k, hk⟩ := List.mem_iff_getElem?.mp hm
    obtain ⟨c, hc, _⟩ := l2 k n hk
    obtain ⟨z, _⟩ := List.getElem?_eq_some_iff.mp hc
    rw [s.len]; exact z
  have at_ : ∀ (k : Nat) (a : Addr), (subA ρ ns)[k]? = some a → ∃ n, ns[k]? = some n ∧ ρ[n]? = some a := fun k a e => by
    rw [List.getElem?_map] at e
    simp only [Option.map_eq_some_iff] at e
    obtain ⟨n, h1, rfl⟩ := e
    exact ⟨n, h1, ad_at (hn n (List.mem_of_getElem? h1))⟩
  refine ⟨hn, by simp [l1], fun b hb => ?_, fun b hb => ?_, fun i j a xs ys h1 h2 h3 h4 => ?_, fun k a c h1 h2 => ?_⟩
  · rcases List.mem_append.mp hb with z | z
    · exact s.live b z
    · exact s.alive (List.mem_filter.mp z).1
  · rcases List.mem_append.mp hb with z | z
    · exact fun y => s.dis b z (subA_mem hn y)
    · simpa using (List.mem_filter.mp z).2
  · obtain ⟨n, n1, n2⟩ := at_ i a h1
    obtain ⟨m, m1, m2⟩ := at_ j a h2
    obtain ⟨c, c1, c2, _⟩ := l2 i n n1
    obtain ⟨d, d1, d2, _⟩ := l2 j m m1
    rw [h3] at c2; cases c2
    rw [h4] at d2; cases d2
    have e := s.inj n m a xs ys n2 m2 c1 d1
    subst e
    obtain ⟨z, e1⟩ := List.getElem?_eq_some_iff.mp n1
    obtain ⟨z2, e2⟩ := List.getElem?_eq_some_iff.mp m1
    exact (List.getElem_inj nd).mp (e1.trans e2.symm)
  · obtain ⟨n, n1, n2⟩ := at_ k a h1
    obtain ⟨d, d1, d2, d3⟩ := l2 k n n1
    rw [h2] at d2; cases d2
    exact cell_fb d3 (fun b _ z => (sub_fb hn).mp z) (s.cell n a c n2 d1)
theorem renum_ok {ρ' κ' : List Addr} (fb : ∀ b, H b ≠ none → Fb ρ' κ' b → Fb ρ κ b) : ∀ {ds : List D} {vs : List V} {k : Nat}, (∀ j n, (locsOf ds)[j]? = some n → ρ'[k + j]? = ρ[n]?) → RepDs K H ρ κ ds vs → RepDs K H ρ' κ' (renum ds k) vs
  | [], [], _, _, .nil => .nil
  | .p x :: r, _ :: _, k, h, .cons q t => by
    refine .cons ?_ (renum_ok fb (ds := r) h t)
    cases q with
    | p q => exact .p (RepP.fb fb q)
  | .ro x :: r, _ :: _, k, h, .cons q t => by
    refine .cons ?_ (renum_ok fb (ds := r) h t)
    cases q with
    | ro z n q => exact .ro z n (RepPs.fb fb q)
  | .loc m :: r, _ :: _, k, h, .cons q t => by
    refine .cons ?_ (renum_ok fb (ds := r) (fun j n e => ?_) t)
    · cases q with
      | loc q =>
        refine .loc ?_
        have := h 0 m (by simp [locsOf])
        rw [Nat.add_zero] at this
        rw [this]; exact q
    · have := h (j + 1) n (by simpa [locsOf] using e)
      rw [← this]
      congr 1
      omega
theorem renum_len : ∀ (ds : List D) (k : Nat), (renum ds k).length = ds.length
  | [], _ => rfl
  | .p _ :: r, k => by simp [renum, renum_len r k]
  | .ro _ :: r, k => by simp [renum, renum_len r k]
  | .loc _ :: r, k => by simp [renum, renum_len r (k + 1)]
theorem start_ok {N : List Str} {ds : List D} {vs : List V} (r : RepDs K H ρ κ ds vs) : RepL K H ρ κ (startL N.length ds) (L2.start N vs) := by
  unfold startL L2.start
  have h1 : Paired (RepO K H ρ κ) (ds.map some) (vs.map some) := by
    clear N
    induction r with
    | nil => exact .nil
    | cons q t ih => exact .cons (.an q) ih
  have h2 : ∀ n : Nat, Paired (RepO K H ρ κ) (List.replicate n none) (List.replicate n none) := fun n => by
    induction n with
    | zero => exact .nil
    | succ n ih => exact .cons (.un none) ih
  rw [Paired.len r]
  exact Paired.app h1 (h2 _)
/-- behind the call -/
theorem StRep.back {H' : Hp} {ρ' φ : List Addr} {ns : List Nat} {T S' : Store} (s : StRep K H ρ κ S) (nd : ns.Nodup) (hn : ∀ n ∈ ns, n < ρ.length) (e : Ext H (subA ρ ns) H' ρ') (s' : StRep K H' ρ' (subK ρ κ ns) T) (h : backS S ns T = some S')
    (hφ : ∀ b ∈ φ, b ∈ ρ' ∧ H b = none ∧ H' b ≠ none) : Ext H ρ H' ρ ∧ StRep K H' ρ (φ ++ κ) S' ∧ ∀ b, Fb ρ (φ ++ κ) b → Fb ρ' (subK ρ κ ns) b := by
  obtain ⟨l1, l2, l3⟩ := back_at nd h
  have ext : Ext H ρ H' ρ := ⟨⟨[], by simp, by simp⟩, fun b o q z => e.keep b o q fun y => z (subA_mem hn y), e.live, e.tups, e.frzs⟩
  have pre : ∀ (k : Nat) a, (subA ρ ns)[k]? = some a → ρ'[k]? = some a := fun k a q => e.at q
  have fb0 : ∀ b, Fb ρ κ b → Fb ρ' (subK ρ κ ns) b := fun b z => by
    rcases (sub_fb hn).mpr z with y | y
    · obtain ⟨k, hk⟩ := List.mem_iff_getElem?.mp y
      exact .inl (List.mem_of_getElem? (pre k b hk))
    · exact .inr y
  have fb : ∀ b, Fb ρ (φ ++ κ) b → Fb ρ' (subK ρ κ ns) b := fun b z => by
    rcases z with z | z
    · exact fb0 b (.inl z)
    · rcases List.mem_append.mp z with z | z
      · exact .inl (hφ b z).1
      · exact fb0 b (.inr z)
  refine ⟨ext, ⟨by rw [l1]; exact s.len, fun b hb => ?_, fun b hb => ?_, fun n m a xs ys h1 h2 h3 h4 => ?_, fun n a c h1 h2 => ?_⟩, fb⟩
  · rcases List.mem_append.mp hb with z | z
    · exact (hφ b z).2.2
    · exact e.live b (s.live b z)
  · rcases List.mem_append.mp hb with z | z
    · exact fun y => s.alive y (hφ b z).2.1
    · exact s.dis b z
  · have lk : ∀ (n : Nat) xs, S'[n]? = some (Cell.lst xs) → ∃ ys, S[n]? = some (.lst ys) := fun n xs q => by
      obtain ⟨z, _⟩ := List.getElem?_eq_some_iff.mp q
      rw [l1] at z
      cases hc : S[n]? with
      | none => rw [List.getElem?_eq_none_iff] at hc; omega
      | some c => cases c with
        | lst ys => exact ⟨ys, rfl⟩
    obtain ⟨u, q1⟩ := lk n _ h3
    obtain ⟨w, q2⟩ := lk m _ h4
    exact s.inj n m a u w h1 h2 q1 q2
  · by_cases hm : n ∈ ns
    · obtain ⟨k, hk⟩ := List.mem_iff_getElem?.mp hm
      obtain ⟨d, d1, d2, d3⟩ := l3 k n hk (by rw [← s.len]; exact hn n hm)
      rw [h2] at d2; cases d2
      have ha : (subA ρ ns)[k]? = some a := by
        rw [List.getElem?_map, hk, Option.map_some]
        rw [ad_at (hn n hm)] at h1
        exact h1
      exact cell_fb d3 (fun b _ z => fb b z) (s'.cell k a c (pre k a ha) d1)
    · rw [l2 n hm] at h2
      have q := s.cell n a c h1 h2
      have na : a ∉ subA ρ ns := fun z => by
        obtain ⟨m, m1, m2⟩ := List.mem_map.mp z
        have m3 := ad_at (hn m m1)
        rw [m2] at m3
        cases c with
        | lst xs =>
          have : ∃ ys, S[m]? = some (.lst ys) := by
            have z := hn m m1
            rw [s.len] at z
            cases hc : S[m]? with
            | none => rw [List.getElem?_eq_none_iff] at hc; omega
            | some c => cases c with
              | lst ys => exact ⟨ys, rfl⟩
          obtain ⟨ys, hy⟩ := this
          have := s.inj n m a xs ys h1 m3 h2 hy
          subst this
          exact hm m1
      refine q.to ext.tups ext.frzs (fun b vs z nz => ⟨(ext.lsts b vs z nz).1, fun y => ?_⟩) (fun _ _ z => z) fun vs z => e.keep a _ z na
      rcases y with y | y
      · exact nz (.inl y)
      · rcases List.mem_append.mp y with y | y
        · rw [(hφ b y).2.1] at z; cases z
        · exact nz (.inr y)
end
section
variable {K : Frag} {cA : Nat → Addr} {E : XK} {H : Hp} {ρ κ : List Addr} {S : Store} {Q : VK}
theorem landOk_ok {retM : Bool} {ns : List Nat} {T : Store} {H' : Hp} {ρ' : List Addr} {d : D} {v : V} (s : StRep K H ρ κ S) (nd : ns.Nodup) (hn : ∀ n ∈ ns, n < ρ.length)
    (h : PostE K cA E κ H ρ (landOk retM ns S d T) fun H' ρ' d _ => ∀ v, RepD K H' ρ' κ d v → Q v H') (e : Ext H (subA ρ ns) H' ρ') (s' : StRep K H' ρ' (subK ρ κ ns) T) (r : RepD K H' ρ' (subK ρ κ ns) d v) : Q v H' := by
  unfold landOk at h
  split at h
  · exact h.elim
  · rename_i S' hS
    obtain ⟨ext, st, fb⟩ := s.back (φ := []) nd hn e s' hS fun b hb => by cases hb
    cases d with
    | p x =>
      cases r with
      | p r => exact h H' ρ ext st v (.p (RepP.fb (fun b _ z => fb b z) r))
    | ro x =>
      cases r with
      | ro z n r => exact h H' ρ ext st _ (.ro z n (RepPs.fb (fun b _ z => fb b z) r))
    | loc j =>
      cases r with
      | @loc _ a ra =>
        simp only at h
        split at h
        · rename_i n hj
          have ha : ρ'[j]? = some (ad ρ n) := e.at (by rw [List.getElem?_map, hj]; rfl)
          rw [ra] at ha
          cases ha
          exact h H' ρ ext st _ (.loc (ad_at (hn n (List.mem_of_getElem? hj))))
        · rename_i hj
          have hf : H a = none ∧ a ∈ ρ' := by
            obtain ⟨w, w1, w2⟩ := e.pre
            refine ⟨?_, List.mem_of_getElem? ra⟩
            rw [w1] at ra
            have : (subA ρ ns).length ≤ j := by
              rw [List.length_map]
              exact List.getElem?_eq_none_iff.mp hj
            rw [List.getElem?_append_right this] at ra
            exact w2 a (List.mem_of_getElem? ra)
          have nr : a ∉ ρ := fun z => s.alive z hf.1
          have nk : a ∉ κ := fun z => s.live a z hf.1
          split at h
          · rename_i xs hx
            split at h
            · rename_i ys hy
              obtain ⟨vs, c1, c2, c3⟩ := s'.lst ra hx
              obtain ⟨ext2, st2, fb2⟩ := s.back (φ := [a]) nd hn e s' hS fun b hb => by
                rw [List.mem_singleton.mp hb]
                exact ⟨hf.2, hf.1, by rw [c1]; simp⟩
              split at h
              · have c3' : RepDs K H' ρ (a :: κ) xs vs := allP_rep (by rw [hy]; rfl) (fun b _ z => fb2 b z) c3
                have st3 := st2.release c1 c2 c3' nk
                have ext3 : Ext H ρ H' (ρ ++ [a]) := ⟨⟨[a], rfl, fun b hb => by rw [List.mem_singleton.mp hb]; exact hf.1⟩, ext.keep, ext.live, ext.tups, ext.frzs⟩
                refine h H' _ ext3 st3 _ (.loc ?_)
                rw [← st.len]
                simp
              · have c3' : RepDs K H' ρ κ xs vs := allP_rep (by rw [hy]; rfl) (fun b _ z => fb b z) c3
                rw [allP_map hy] at c3'
                exact h H' ρ ext st _ (.p (.lst c1 (fun z => z.elim nr nk) c2 c3'.ps))
            · exact h.elim
          · exact h.elim
theorem fsP_rep {H' : Hp} {ρ' κ' : List Addr} (fb : ∀ b, H' b ≠ none → Fb ρ κ b → Fb ρ' κ' b) : ∀ {fs : List (Str × D)} {fvs : List (Str × V)}, fsP fs = true → Paired (fun (x : Str × D) (y : Str × V) => x.1 = y.1 ∧ RepD K H' ρ' κ' x.2 y.2) fs fvs →
    Paired (fun (x : Str × D) (y : Str × V) => x.1 = y.1 ∧ RepD K H' ρ κ x.2 y.2) fs fvs
  | [], [], _, .nil => .nil
  | (_, .p _) :: r, _ :: _, h, .cons q t => by
    refine .cons ⟨q.1, ?_⟩ (fsP_rep fb (fs := r) h t)
    cases q.2 with
    | p q => exact .p (RepP.fb fb q)
  | (_, .ro _) :: r, _ :: _, h, .cons q t => by cases h
  | (_, .loc _) :: r, _ :: _, h, .cons q t => by cases h
theorem land_ok {retM : Bool} {ns : List Nat} {r : ResS} (s : StRep K H ρ κ S) (nd : ns.Nodup) (hn : ∀ n ∈ ns, n < ρ.length)
    (h : PostE K cA E κ H ρ (land retM ns S r) fun H' ρ' d _ => ∀ v, RepD K H' ρ' κ d v → Q v H') : PostS K cA (fun cls d _ H => E cls d H) { nx := fun _ H' => Q .non H', rt := Q } (subK ρ κ ns) H (subA ρ ns) r := by
  cases r with
  | nx Γ T => exact fun H' ρ' σ' e s' l => landOk_ok (retM := retM) s nd hn h e s' (.p .nn)
  | rt d T => exact fun H' ρ' v e s' r => landOk_ok (retM := retM) s nd hn h e s' r
  | exc c fs Γ T =>
    intro H' ρ' σ' cv d e s' l x
    unfold land at h
    simp only at h
    split at h
    · rename_i hp
      split at h
      · rename_i S' hS
        obtain ⟨ext, st, fb⟩ := s.back (φ := []) nd hn e s' hS fun b hb => by cases hb
        obtain ⟨x1, dd, fvs, x2, x3, x4⟩ := x
        exact h H' ρ cv d ext st ⟨x1, dd, fvs, x2, x3, fsP_rep (fun b _ z => fb b z) hp x4⟩
      · exact h.elim
    · exact h.elim
  | stuck => exact h
end
/-- a def, by its body -/
theorem fn_core {L : Law} {cA : Nat → Addr} {P : Program} {w : World} {K : Frag} {mg : Str → Option Value} {base : Heap} {n i : Nat} {fi : Fn} {x qual : Str} {st : Stmt} {f : Addr} {fd : FuncData} {N ps : List Str} (F : Fun K x qual st f fd) (SC : FnScope N ps (defScope st))
    (hi : L.fns[i]? = some fi) (hnp : fi.np = ps.length) (hsl : fi.slots = N.length)
    (hc : ∀ (X : Cx) (W : WX), X.prog = P → X.w = w → X.K = K → X.mg = mg → X.base = base → X.calm = true → X.N = N → X.env.scope = defScope st → Room (lev n) X.A → Takes X W → PassesOwn (model X.prog X.w) X.A X.env X.xe → FnT (fun _ => true) X → X.stack = X.env :: X.outer → X.env.frame = some X.env.locals →
      PSs X (defBody st) (tS X.K cA W (callN L.fns n) fi.body)) :
    FnOk P w K mg base (L2.CX P w) (lev (n + 1)) f fd ps (spF K cA (callN L.fns (n + 1) i)) := by
  have key : ∀ vs H Q E, spF K cA (callN L.fns (n + 1) i) vs H Q E → ∃ ρ κ S ds T, StRep K H ρ κ S ∧ RepDs K H ρ κ ds vs ∧ ds.length = fi.np ∧ (locsOf ds).Nodup ∧ subS S (locsOf ds) = some T ∧
      PostE K cA E κ H ρ (land fi.retM (locsOf ds) S (evS (callN L.fns n) fi.body (startL fi.slots (renum ds 0)) T)) fun H' ρ' d _ => ∀ v, RepD K H' ρ' κ d v → Q v H' := by
    rintro vs H Q E ⟨ρ, κ, S, ds, s, r, h⟩
    unfold callN at h
    rw [hi] at h
    simp only at h
    split at h
    · rename_i hl
      split at h
      · exact h.elim
      · rename_i T hT
        exact ⟨ρ, κ, S, ds, T, s, r, hl.1, hl.2, hT, h⟩
    · exact h.elim
  refine Fun.okX F SC (fun vs H Q E h => ?_) fun cdv A outer s H vs Q E hr h => ?_
  · obtain ⟨ρ, κ, S, ds, T, _, r, hl, _⟩ := key vs H Q E h
    rw [← Paired.len r, hl, hnp]
  · obtain ⟨ρ, κ, S, ds, T, st', r, hl, nd, hT, q⟩ := key vs H Q E h
    refine ⟨_, hc (cxOf (L2.CX P w) P w K mg base N qual (defScope st) f cdv A outer s H E) (fun cls d _ H => E cls d H) rfl rfl rfl rfl rfl rfl rfl rfl hr (takes_of rfl rfl rfl rfl) (passes_of rfl) (fun _ _ _ => .inl rfl) rfl rfl, ?_⟩
    obtain ⟨hn, ss⟩ := st'.sub hT nd
    refine ⟨subA ρ (locsOf ds), subK ρ κ (locsOf ds), _, T, ss, ?_, land_ok st' nd hn q⟩
    rw [hsl]
    refine start_ok (renum_ok (fun b _ z => (sub_fb hn).mp z) (fun j m e => ?_) r)
    rw [Nat.zero_add, List.getElem?_map, e, Option.map_some]
    exact (ad_at (hn m (List.mem_of_getElem? e))).symm
end Core
set_option Elab.async false
set_option linter.all false
set_option maxHeartbeats 1000000
/-! Core, part P: the compiler of statements -/
namespace Core
open PySem PySem.W L2 PyProof.Rows
section
variable (L : Law) (cA : Nat → Addr) (sc : Scope) (N : List Str)
structure CertS (st : Stmt) where
  cs : CS
  ok : ∀ (n : Nat) (X : Cx) (W : WX), CtxS L cA n X W → X.env.scope = sc → X.N = N → PS X st (tS X.K cA W (callN L.fns n) cs)
structure CertSs (sts : List Stmt) where
  cs : CS
  ok : ∀ (n : Nat) (X : Cx) (W : WX), CtxS L cA n X W → X.env.scope = sc → X.N = N → PSs X sts (tS X.K cA W (callN L.fns n) cs)
end
section
variable {L : Law} {cA : Nat → Addr} {sc : Scope} {N : List Str}
abbrev okA : Str → Bool := fun _ => true
/-- an expression, as a list that may change or not -/
def cE (c : Comp L cA N) (sc : Scope) (m : Bool) (e : Expr) : Option (CertE L cA sc N e) := if m then compM c sc e else c.E sc e
def certLm (c : Comp L cA N) (sc : Scope) : (ms : List Bool) → (es : List Expr) → Option (CertL L cA sc N es)
  | _, [] => some ⟨.nil, fun _ _ _ _ _ _ => nil_ok⟩
  | [], _ :: _ => none
  | m :: ms, e :: es => if h : noStar e = true then (match cE c sc m e, certLm c sc ms es with
    | some a, some b => some ⟨.cons a.ce b.cl, fun n X W x hs hN => cons_ok h (a.ok n X W x hs hN) (b.ok n X W x hs hN)⟩
    | _, _ => none) else none
/-- a comprehension under a name -/
def certSetLC (c : Comp L cA N) (m : Bool) (y : Str) (py : Pos) (elt tg iter : Expr) (ifs : List Expr) (scope : Scope) (pos spos : Pos) : Option (CertS L cA sc N (.Assign [.Name y py] (.ListComp elt [⟨tg, iter, ifs, 0⟩] scope pos) spos)) :=
  if h : (noSet iter = true ∧ blkC N sc scope (ownOf N scope.names) = true) ∧ sc.names.lookup y = some .local ∧ sc.kind = .function ∧ (py.line == pos.line) = true ∧ (scope.names.any fun (n, k) => n == y && (k == .local || k == .cell)) = false then
    match nameIx N y, certIter (sc := sc) c tg iter, certG (L := L) (cA := cA) (sc := relS scope sc) (N := N) (okT := okB scope) 8 tg, certIfs (sc := relS scope sc) c ifs, c.E (relS scope sc) elt with
    | some ⟨i, hy⟩, some ci, some cg, some cc, some ce => if h2 : (ntSlots cg.t).all (fun i => decide (i ∈ (ownOf N scope.names).map (·.2))) = true then
        some ⟨.asg (.nm i) (if m then .mlc cg.t ci.k ci.cl cc.ce ce.ce ((ownOf N scope.names).map (·.2)) else .lc cg.t ci.k ci.cl cc.ce ce.ce ((ownOf N scope.names).map (·.2))), fun n X W x hs hN => by
          have hown : ∀ i ∈ ntSlots cg.t, i ∈ (ownOf N scope.names).map (·.2) := fun i hi => of_decide_eq_true (List.all_eq_true.mp h2 i hi)
          have P := setLc_ok (pos := pos) (py := py) (spos := spos) (elt := elt) (ifs := ifs) x.toCtx hs hN hy h.2.1 h.2.2.1 h.2.2.2.1 h.2.2.2.2 h.1.1 h.1.2 hown (ci.ok n X W x.toCtx hs hN) (fun X' c' h1 h3 h4 => cg.ok n X' W0 c' h1 h3 h4) (fun X' c' h1 h3 => cc.ok n X' W0 c' h1 h3) (fun X' c' h1 h3 => ce.ok n X' W0 c' h1 h3)
          refine PS.weak P fun D σ H q => ?_
          obtain ⟨ρ, κ, Γ, S, s, l, q⟩ := q
          simp only [evS] at q
          cases m with
          | true => exact mlc_rd hown (tE.thenS s l q fun H1 ρ1 d S1 v e s1 l1 r q1 => by
              simp only [bindNT] at q1
              exact q1 H1 ρ1 _ (Ext.refl _ _) s1 (l1.set1 r i))
          | false => exact lc_rd hown (tE.thenS s l q fun H1 ρ1 d S1 v e s1 l1 r q1 => by
              simp only [bindNT] at q1
              exact q1 H1 ρ1 _ (Ext.refl _ _) s1 (l1.set1 r i))⟩
      else none
    | _, _, _, _, _ => none
  else none
def certPar2 (c : Comp L cA N) (mu : Str → Bool) (x y : Str) (a b : Expr) (px py pt : Pos) (kt k2 : Nat) (pt2 pos : Pos) : Option (CertS L cA sc N (.Assign [.Tuple [.Name x px, .Name y py] kt pt] (.Tuple [a, b] k2 pt2) pos)) :=
  if h : (sc.kind = .function ∧ sc.names.lookup x = some .local ∧ sc.names.lookup y = some .local) ∧ ((py.line == px.line) = true ∧ (y == x) = false ∧ noStar a = true ∧ noStar b = true) ∧ [a, b].all (foldedForSure 8) = false ∧ [a, b].all (constantsAlone 8) = false then
    match nameIx N x, nameIx N y, certLm c sc [mu x, mu y] [a, b] with
    | some ⟨i, hi⟩, some ⟨j, hj⟩, some cl => if hij : i ≠ j then some ⟨.par [i, j] cl.cl, fun n X W z hs hN =>
        PS.weak (ps_par z.calm z.nd (by rw [hN]; exact hi) (by rw [hN]; exact hj) hij (by rw [hs]; exact h.1.2.1) (by rw [hs]; exact h.1.2.2) (cl.ok n X W z.toCtx hs hN)
          (swap2 (by rw [hs]; exact h.1.1) (by rw [hs]; exact h.1.2.1) (by rw [hs]; exact h.1.2.2) h.2.1.1 h.2.1.2.1 h.2.1.2.2.1 h.2.1.2.2.2 h.2.2.1 h.2.2.2) rfl) fun D σ H q => par2_rd q⟩ else none
    | _, _, _ => none
  else none
def certPar3 (c : Comp L cA N) (mu : Str → Bool) (x y z : Str) (a b d : Expr) (px py pz pt : Pos) (kt k2 : Nat) (pt2 pos : Pos) : Option (CertS L cA sc N (.Assign [.Tuple [.Name x px, .Name y py, .Name z pz] kt pt] (.Tuple [a, b, d] k2 pt2) pos)) :=
  if h : (sc.kind = .function ∧ sc.names.lookup x = some .local ∧ sc.names.lookup y = some .local ∧ sc.names.lookup z = some .local) ∧ (((py.line == px.line) = true ∧ (pz.line == px.line) = true) ∧ ((y == x) = false ∧ (z == x) = false ∧ (z == y) = false) ∧ noStar a = true ∧ noStar b = true ∧ noStar d = true) ∧ [a, b, d].all (foldedForSure 8) = false ∧ [a, b, d].all (constantsAlone 8) = false then
    match nameIx N x, nameIx N y, nameIx N z, certLm c sc [mu x, mu y, mu z] [a, b, d] with
    | some ⟨i, hi⟩, some ⟨j, hj⟩, some ⟨k, hk⟩, some cl => if hij : i ≠ j ∧ i ≠ k ∧ j ≠ k then some ⟨.par [i, j, k] cl.cl, fun n X W u hs hN =>
        PS.weak (ps_par3 u.calm u.nd (by rw [hN]; exact hi) (by rw [hN]; exact hj) (by rw [hN]; exact hk) hij.1 hij.2.1 hij.2.2 (by rw [hs]; exact h.1.2.1) (by rw [hs]; exact h.1.2.2.1) (by rw [hs]; exact h.1.2.2.2) (cl.ok n X W u.toCtx hs hN)
          (swap3 (by rw [hs]; exact h.1.1) (by rw [hs]; exact h.1.2.1) (by rw [hs]; exact h.1.2.2.1) (by rw [hs]; exact h.1.2.2.2) h.2.1.1.1 h.2.1.1.2 h.2.1.2.1.1 h.2.1.2.1.2.1 h.2.1.2.1.2.2 h.2.1.2.2.1 h.2.1.2.2.2.1 h.2.1.2.2.2.2 h.2.2.1 h.2.2.2) rfl) fun D σ H q => par3_rd q⟩ else none
    | _, _, _, _ => none
  else none
/-- target = value, the plain way -/
def certAsg (c : Comp L cA N) (m : Bool) (tg e : Expr) (pos : Pos) : Option (CertS L cA sc N (.Assign [tg] e pos)) :=
  if h : noStar tg = true ∧ noComp e = true ∧ (noTup tg = true ∨ noTup e = true) then
    match cE c sc m e, certG (L := L) (cA := cA) (sc := sc) (N := N) (okT := okA) 8 tg with
    | some ce, some cg => some ⟨.asg cg.t ce.ce, fun n X W x hs hN => asg_ok h.1 h.2.1 h.2.2 (ce.ok n X W x.toCtx hs hN) (cg.ok n X W x.toCtx hs hN x.fnt)⟩
    | _, _ => none
  else none
/-- stores that are done in their order: another number than two or three, or one that is no plain local name -/
def noSwap (sc : Scope) : Expr → Expr → Bool
  | .Tuple ts _ _, .Tuple vs _ _ => !(ts.length == 2 || ts.length == 3) || ts.any fun
    | .Name id _ => !(sc.names.lookup id == some .local)
    | _ => true
  | .List .., _ => false
  | _, _ => true
theorem fm_len {α β : Type} (f : α → Option β) : ∀ l : List α, (l.filterMap f).length ≤ l.length ∧ (l.any (fun a => (f a).isNone) = true → (l.filterMap f).length ≠ l.length)
  | [] => by simp
  | a :: l => by
    have h := fm_len f l
    simp only [List.filterMap_cons, List.length_cons, List.any_cons, Bool.or_eq_true]
    cases hf : f a with
    | none => exact ⟨by simp only; omega, fun _ => by simp only; omega⟩
    | some b =>
      simp only [List.length_cons, Option.isNone_some, Bool.false_eq_true, false_or]
      exact ⟨by omega, fun q => by have := h.2 q; omega⟩
theorem noSwap_ok {sc : Scope} {tg e : Expr} {env : PySem.Env} (hs : env.scope = sc) (h : noSwap sc tg e = true) : swappedStores [tg] e env = pure none := by
  subst hs
  cases tg with
  | List es pos => cases h
  | Tuple ts kt pt =>
    cases e with
    | Tuple vs kv pv =>
      unfold swappedStores
      simp only
      by_cases c1 : (!(ts.length == 2 || ts.length == 3) || vs.length != ts.length || env.blockKind != .function) = true
      · rw [if_pos c1]
      · rw [if_neg c1]
        split
        · rfl
        · rw [if_pos]
          simp only [noSwap, Bool.or_eq_true] at h
          rcases h with h | h
          · simp only [Bool.or_eq_true, not_or] at c1
            exact absurd h c1.1.1
          · simp only [Bool.or_eq_true, bne_iff_ne, ne_eq]
            left
            refine (fm_len _ ts).2 ?_
            rw [List.any_eq_true] at h ⊢
            obtain ⟨t, ht, hn⟩ := h
            refine ⟨t, ht, ?_⟩
            cases t with
            | Name id pos =>
              simp only [Bool.not_eq_true'] at hn
              simp only
              have e : (env.kindOf id == some .local) = false := hn
              rw [e]
              rfl
            | _ => rfl
    | _ => rfl
  | _ => cases e <;> rfl
theorem asg_okT {X : Cx} {W : WX} {F : Calls} {tg e : Expr} {t : NT} {ce : CE} {pos : Pos} (hstar : noStar tg = true) (hc : noComp e = true) (ht : swappedStores [tg] e X.env = pure none) (he : PE X e (tE X.K cA W F ce)) (hg : PG X tg (gD X.K t)) : PS X (.Assign [tg] e pos) (tS X.K cA W F (.asg t ce)) :=
  PS.weak (ps_asg he hg (sole_ok hc _ _) ht (h1 := by rw [each_ok hstar]; rfl)) fun D σ H h => asg_rd h
/-- target = value, in its order -/
def certAsgT (c : Comp L cA N) (tg e : Expr) (pos : Pos) : Option (CertS L cA sc N (.Assign [tg] e pos)) :=
  if h : noStar tg = true ∧ noComp e = true ∧ noSwap sc tg e = true then
    match cE c sc false e, certG (L := L) (cA := cA) (sc := sc) (N := N) (okT := okA) 8 tg with
    | some ce, some cg => some ⟨.asg cg.t ce.ce, fun n X W x hs hN => asg_okT h.1 h.2.1 (noSwap_ok hs h.2.2) (ce.ok n X W x.toCtx hs hN) (cg.ok n X W x.toCtx hs hN x.fnt)⟩
    | _, _ => none
  else none
def notSuper : Expr → Bool
  | .Call .. => false
  | _ => true
theorem notSuper_ok {o : Expr} (h : notSuper o = true) (x : Str) (env : PySem.Env) : attributeBase o x env (eval o env) = eval o env := by
  cases o <;> first | rfl | cases h
def certMeth (c : Comp L cA N) (o : Expr) (x : Str) (e : Expr) (apos cpos pos : Pos) : Option (CertS L cA sc N (.Expr (.Call (.Attribute o x apos) [e] [] cpos) pos)) :=
  if h : noStar e = true ∧ (apos.endLine == cpos.line) = true ∧ notSuper o = true then
    match c.E sc o, c.E sc e with
    | some co, some ce =>
      if hx : x = "append" then some ⟨.append co.ce ce.ce, fun n X W z hs hN => by
        have := append_ok (pos := pos) h.1 h.2.1 (notSuper_ok h.2.2 "append" X.env) (co.ok n X W z.toCtx hs hN) (ce.ok n X W z.toCtx hs hN)
        rw [← hx] at this
        exact this⟩
      else if hx : x = "extend" then some ⟨.extend co.ce ce.ce, fun n X W z hs hN => by
        have := extend_ok (pos := pos) h.1 h.2.1 (notSuper_ok h.2.2 "extend" X.env) (co.ok n X W z.toCtx hs hN) (ce.ok n X W z.toCtx hs hN)
        rw [← hx] at this
        exact this⟩
      else none
    | _, _ => none
  else none
def certExpr (c : Comp L cA N) (e : Expr) (pos : Pos) : Option (CertS L cA sc N (.Expr e pos)) :=
  if h : noComp e = true then (match c.E sc e with
    | some ce => some ⟨.expr ce.ce, fun n X W x hs hN => expr_ok h (ce.ok n X W x.toCtx hs hN)⟩
    | none => none) else none
def certAssign (c : Comp L cA N) (mu : Str → Bool) : (tg e : Expr) → (pos : Pos) → Option (CertS L cA sc N (.Assign [tg] e pos))
  | .Name y py, .ListComp elt [⟨tg, iter, ifs, 0⟩] scope lpos, pos => certSetLC c (mu y) y py elt tg iter ifs scope lpos pos
  | .Name y py, e, pos => certAsg c (mu y) (.Name y py) e pos
  | .Tuple [.Name x px, .Name y py] kt pt, .Tuple [a, b] k2 pt2, pos => if noSwap sc (.Tuple [.Name x px, .Name y py] kt pt) (.Tuple [a, b] k2 pt2) then certAsgT c (.Tuple [.Name x px, .Name y py] kt pt) (.Tuple [a, b] k2 pt2) pos else certPar2 c mu x y a b px py pt kt k2 pt2 pos
  | .Tuple [.Name x px, .Name y py, .Name z pz] kt pt, .Tuple [a, b, d] k2 pt2, pos => if noSwap sc (.Tuple [.Name x px, .Name y py, .Name z pz] kt pt) (.Tuple [a, b, d] k2 pt2) then certAsgT c (.Tuple [.Name x px, .Name y py, .Name z pz] kt pt) (.Tuple [a, b, d] k2 pt2) pos else certPar3 c mu x y z a b d px py pz pt kt k2 pt2 pos
  | .Tuple (t1 :: t2 :: t3 :: t4 :: ts) kt pt, .Tuple vs k2 pt2, pos => certAsgT c (.Tuple (t1 :: t2 :: t3 :: t4 :: ts) kt pt) (.Tuple vs k2 pt2) pos
  | .Subscript o i tpos, e, pos => if h : noComp e = true ∧ plainIx i = true then (match c.E sc o, c.E sc i, c.E sc e with
    | some co, some ci, some ce => some ⟨.seti co.ce ci.ce ce.ce, fun n X W x hs hN => seti_ok h.1 h.2 (co.ok n X W x.toCtx hs hN) (ci.ok n X W x.toCtx hs hN) (ce.ok n X W x.toCtx hs hN)⟩
    | _, _, _ => none) else none
  | tg, e, pos => certAsg c false tg e pos
def compSs (cS : (st : Stmt) → Option (CertS L cA sc N st)) : (sts : List Stmt) → Option (CertSs L cA sc N sts)
  | [] => some ⟨.skip, fun _ _ _ _ _ _ => snil_ok⟩
  | st :: sts => match cS st, compSs cS sts with
    | some a, some b => some ⟨.seq a.cs b.cs, fun n X W x hs hN => scons_ok (a.ok n X W x hs hN) (b.ok n X W x hs hN)⟩
    | _, _ => none
def compS (c : Comp L cA N) (mu : Str → Bool) (retM : Bool) (sc : Scope) : Nat → (st : Stmt) → Option (CertS L cA sc N st)
  | 0, _ => none
  | m + 1, st => match st with
    | .Pass pos => some ⟨.skip, fun _ _ _ _ _ _ => pass_ok⟩
    | .Expr (.Call (.Attribute o x apos) [e] [] cpos) pos => certMeth c o x e apos cpos pos
    | .Expr e pos => certExpr c e pos
    | .Return none pos => some ⟨.ret (.con .none), fun _ _ _ _ _ _ => retN_ok⟩
    | .Return (some e) pos => match cE c sc retM e with
      | some ce => some ⟨.ret ce.ce, fun n X W x hs hN => ret_ok (ce.ok n X W x.toCtx hs hN)⟩
      | none => none
    | .Assign [tg] e pos => certAssign c mu tg e pos
    | .If t a b pos => match c.T sc t, compSs (compS c mu retM sc m) a, compSs (compS c mu retM sc m) b with
      | some ct, some ca, some cb => some ⟨.ite ct.ce ca.cs cb.cs, fun n X W x hs hN => ite_okS (ct.ok n X W x.toCtx hs hN) (ca.ok n X W x hs hN) (cb.ok n X W x hs hN)⟩
      | _, _, _ => none
    | .While t b [] pos => match c.T sc t, compSs (compS c mu retM sc m) b with
      | some ct, some cb => some ⟨.whl ct.ce cb.cs, fun n X W x hs hN => while_okS x.po (ct.ok n X W x.toCtx hs hN) (cb.ok n X W x hs hN)⟩
      | _, _ => none
    | .For tg iter b [] pos => if h : noSet iter = true then (match certIter (sc := sc) c tg iter, certG (L := L) (cA := cA) (sc := sc) (N := N) (okT := okA) 8 tg, compSs (compS c mu retM sc m) b with
      | some ci, some cg, some cb => some ⟨.for_ cg.t ci.k ci.cl cb.cs, fun n X W x hs hN => for_okS x.po x.calm h (ci.ok n X W x.toCtx hs hN) (cg.ok n X W x.toCtx hs hN x.fnt) (cb.ok n X W x hs hN)⟩
      | _, _, _ => none) else none
    | .Raise e f pos => some ⟨.stop, fun _ _ _ _ _ _ => stop_ok⟩
    | _ => none
def compDef (L : Law) (cA : Nat → Addr) (N : List Str) (mu : List Str) (retM : Bool) (st : Stmt) : Option (CertSs L cA (defScope st) N (defBody st)) :=
  compSs (compS (comp 24) (fun x => mu.contains x) retM (defScope st) 24) (defBody st)
end
end Core
set_option Elab.async false
set_option linter.all false
set_option maxHeartbeats 1000000
/-! Core, part Q: all defs of a text; the law's call -/
namespace Core
open PySem PySem.W L2 PyProof.Rows
structure DefRow where
  name : Str
  st : Stmt
  N : List Str
  ps : List Str
  mu : List Str
  fi : Fn
abbrev fnOf0 (r : DefRow) (kV doc pm : Value) (an : Option Addr) (cdv ct : Value) : FuncData := PySem.W.fnOf r.name r.name (defArgs r.st) (defBody r.st) (defScope r.st) .none kV doc pm an cdv ct
/-- what the text says of a def -/
structure DefOk (L : Law) (i : Nat) (r : DefRow) : Prop where
  sc : FnScope r.N r.ps (defScope r.st)
  fn : L.fns[i]? = some r.fi
  np : r.fi.np = r.ps.length
  sl : r.fi.slots = r.N.length
  body : ∀ cA, ((compDef L cA r.N r.mu r.fi.retM r.st).map (·.cs)) = some r.fi.body
  bind : ∀ (kV doc pm : Value) (an : Option Addr) (cdv ct : Value) (us : List Value), us.length = r.ps.length → bindArgs (fnOf0 r kV doc pm an cdv ct) ⟨us, []⟩ = pure (r.ps.zip us)
  kws : ∀ np ks perm, (i, np, ks, perm) ∈ L.kws → ∀ (kV doc pm : Value) (an : Option Addr) (cdv ct : Value) (us ws : List Value), us.length = np → ws.length = ks.length → bindArgs (fnOf0 r kV doc pm an cdv ct) ⟨us, ks.zip ws⟩ = pure (r.ps.zip (permG perm (us ++ ws)))
/-- what the written part says of a def -/
structure FnAt (K : Frag) (mg : Str → Option Value) (r : DefRow) (f : Addr) (fd : FuncData) : Prop where
  g : mg r.name = some (.ref f)
  ex : ∃ kV doc pm an cdv ct, fd = fnOf0 r kV doc pm an cdv ct ∧ ∃ oc od osl, K.lookup f = some ⟨oc, od, .func fd, osl⟩ ∧ PySem.W.codeIn K cdv r.name = true
  kp : PySem.W.keepIn K (.ref f) = true
theorem fnAt_mk {K : Frag} {mg : Str → Option Value} {h : Heap} {r : DefRow} {f : Addr} {oc : Value} {od an : Option Addr} {osl : Array (Option Value)} {kV doc pm cdv ct : Value} (X : K.In h) (G : h.Ns mainGlobals mg)
    (a : PySem.W.nsIn K mainGlobals r.name = some (some (.ref f))) (l : K.lookup f = some ⟨oc, od, .func (fnOf0 r kV doc pm an cdv ct), osl⟩) (c : PySem.W.codeIn K cdv r.name = true) (k : PySem.W.keepIn K (.ref f) = true) : ∃ f fd, FnAt K mg r f fd :=
  ⟨f, _, PySem.W.mg_of X G a, ⟨kV, doc, pm, an, cdv, ct, rfl, oc, od, osl, l, c⟩, k⟩
structure Setup (L : Law) (K : Frag) (mg : Str → Option Value) (rows : List DefRow) : Prop where
  names : L.names = rows.map (·.name)
  defs : ∀ i r, rows[i]? = some r → DefOk L i r
  at_ : ∀ r ∈ rows, ∃ f fd, FnAt K mg r f fd
  blt : ∀ x ∈ bltNames, mg x = none
  gcd : L.gcd = true → mg "gcd" = some (.builtin "math.gcd")
  con : ∀ x d, (x, d) ∈ L.consts → ∃ u v, mg x = some u ∧ RelV v u ∧ ∀ H ρ κ, RepP K H ρ κ d v
/-- plain data of the written part -/
def KGood (K : Frag) (d : PyData) (u : Value) : Prop := ∃ v, RelV v u ∧ ∀ H ρ κ, RepP K H ρ κ d v
theorem KGood.tup {K : Frag} {a : Addr} {o : Obj} {its : Array Value} {n : Nat} {xs : List PyData} (h : K.lookup a = some o) (h1 : o.cls = .type "tuple") (h2 : o.data = .seq its n) (h3 : its.size ≤ sizeLine) (h4 : Paired (KGood K) xs its.toList) : KGood K (.tuple xs) (.ref a) := by
  have : ∀ {us : List Value} {xs : List PyData}, Paired (KGood K) xs us → ∃ vs, Vals vs us ∧ ∀ H ρ κ, RepPs K H ρ κ xs vs := by
    intro us xs h
    induction h with
    | nil => exact ⟨[], .nil, fun _ _ _ => .nil⟩
    | cons q t ih =>
      obtain ⟨v, r, p⟩ := q
      obtain ⟨vs, rs, ps⟩ := ih
      exact ⟨v :: vs, .cons r rs, fun H ρ κ => .cons (p H ρ κ) (ps H ρ κ)⟩
  obtain ⟨vs, r, p⟩ := this h4
  refine ⟨.ref a, rfl, fun H ρ κ => .tup (vs := vs) (.inr ⟨o, its, n, h, h1, h2, h3, r⟩) ?_ (p H ρ κ)⟩
  rw [r.length]
  simpa using h3
theorem kg_nn {K : Frag} : KGood K .none .none := ⟨.non, rfl, fun _ _ _ => .nn⟩
theorem kg_bool {K : Frag} {b : Bool} : KGood K (.bool b) (.bool b) := ⟨.bl b, rfl, fun _ _ _ => .bool b⟩
theorem kg_int {K : Frag} {i : Int} {t : Nat} : KGood K (.int i) (.int i t) := ⟨.int i, ⟨t, rfl⟩, fun _ _ _ => .int i⟩
theorem kg_str {K : Frag} {x : Str} {t : Nat} : KGood K (.str x) (.str x t) := ⟨.str x, ⟨t, rfl⟩, fun _ _ _ => .str x⟩
theorem con_mk {K : Frag} {mg : Str → Option Value} {h : Heap} {x : Str} {d : PyData} {u : Value} (X : K.In h) (G : h.Ns mainGlobals mg) (a : PySem.W.nsIn K mainGlobals x = some (some u)) (g : KGood K d u) : ∃ u v, mg x = some u ∧ RelV v u ∧ ∀ H ρ κ, RepP K H ρ κ d v := by
  obtain ⟨v, r, p⟩ := g
  exact ⟨u, v, PySem.W.mg_of X G a, r, p⟩
theorem con_nil {mg : Str → Option Value} {K : Frag} : ∀ x d, (x, d) ∈ ([] : List (Str × PyData)) → ∃ u v, mg x = some u ∧ RelV v u ∧ ∀ H ρ κ, RepP K H ρ κ d v := fun _ _ h => by cases h
theorem con_cons {mg : Str → Option Value} {K : Frag} {y : Str} {e : PyData} {r : List (Str × PyData)} (h1 : ∃ u v, mg y = some u ∧ RelV v u ∧ ∀ H ρ κ, RepP K H ρ κ e v) (h2 : ∀ x d, (x, d) ∈ r → ∃ u v, mg x = some u ∧ RelV v u ∧ ∀ H ρ κ, RepP K H ρ κ d v) :
    ∀ x d, (x, d) ∈ (y, e) :: r → ∃ u v, mg x = some u ∧ RelV v u ∧ ∀ H ρ κ, RepP K H ρ κ d v := fun x d h => by
  rcases List.mem_cons.mp h with h | h
  · cases h; exact h1
  · exact h2 x d h
section
variable {L : Law} {K : Frag} {mg : Str → Option Value} {rows : List DefRow} {cA : Nat → Addr} {P : Program} {w : World} {base : Heap}
theorem FnAt.fun {r : DefRow} {f : Addr} {fd : FuncData} (h : FnAt K mg r f fd) : Fun K r.name r.name r.st f fd := by
  obtain ⟨kV, doc, pm, an, cdv, ct, rfl, oc, od, osl, l, c⟩ := h.ex
  exact fun_mk l c h.kp
theorem FnAt.binds {r : DefRow} {f : Addr} {fd : FuncData} {i : Nat} (h : FnAt K mg r f fd) (D : DefOk L i r) : Binds K fd r.ps [] := by
  obtain ⟨kV, doc, pm, an, cdv, ct, rfl, oc, od, osl, l, c⟩ := h.ex
  exact .all (D.bind kV doc pm an cdv ct)
theorem FnAt.kws {r : DefRow} {f : Addr} {fd : FuncData} {i : Nat} (h : FnAt K mg r f fd) (D : DefOk L i r) : ∀ np ks perm, (i, np, ks, perm) ∈ L.kws → ∀ (s : Shared) (us ws : List Value), K.In s.heap → us.length = np → ws.length = ks.length → BindsTo s fd ⟨us, ks.zip ws⟩ (r.ps.zip (permG perm (us ++ ws))) := by
  obtain ⟨kV, doc, pm, an, cdv, ct, rfl, oc, od, osl, l, c⟩ := h.ex
  intro np ks perm hm s us ws _ h1 h2
  exact .of_eq (D.kws np ks perm hm kV doc pm an cdv ct us ws h1 h2)
theorem Setup.ok (U : Setup L K mg rows) (n : Nat) : ∀ (i : Nat) (r : DefRow) (f : Addr) (fd : FuncData), rows[i]? = some r → FnAt K mg r f fd → FnOk P w K mg base (L2.CX P w) (lev n) f fd r.ps (spF K cA (callN L.fns n i)) := by
  induction n with
  | zero =>
    exact fun i r f fd hr hf => ⟨fun vs H Q E h => by
      obtain ⟨ρ, κ, S, ds, s, q, h⟩ := h
      exact h.elim, fun A outer s H args us vs Q E _ _ _ _ h => by
      obtain ⟨ρ, κ, S, ds, s, q, h⟩ := h
      exact h.elim⟩
  | succ n ih =>
    intro i r f fd hr hf
    have D := U.defs i r hr
    refine fn_core hf.fun D.sc D.fn D.np D.sl fun X W h1 h2 h3 h4 h5 calm hN hs room tk po fnt stk frm => ?_
    subst h1 h2 h3 h4 h5
    obtain ⟨c, hc, hcs⟩ := Option.map_eq_some_iff.mp (D.body cA)
    rw [← hcs]
    refine c.ok n X W ⟨⟨calm, ?_, room, tk, U.blt, U.gcd, U.con, fun j x hj => ?_⟩, po, fnt, stk, frm⟩ hs hN
    · rw [hN]
      exact D.sc.nd
    · rw [U.names, List.getElem?_map] at hj
      simp only [Option.map_eq_some_iff] at hj
      obtain ⟨r', hr', rfl⟩ := hj
      obtain ⟨f', fd', hf'⟩ := U.at_ r' (List.mem_of_getElem? hr')
      exact ⟨f', fd', r'.ps, hf'.g, hf'.kp, hf'.binds (U.defs j r' hr'), hf'.kws (U.defs j r' hr'), ih j r' f' fd' hr' hf'⟩
end
theorem cx_none {P : Program} {w : World} {H : Hp} {s : Shared} {e : Value} {s' : Shared} (h : L2.CX P w [] H s (fun _ _ _ => False) e s') : False := by
  obtain ⟨_, _, _, _, _, _, _, _, _, _, _, _, z⟩ := h
  exact z.elim
theorem ints_rep {K : Frag} {H : Hp} {ρ κ : List Addr} : ∀ ns : List Int, RepPs K H ρ κ (ns.map PyData.int) (ns.map V.int)
  | [] => .nil
  | n :: r => .cons (.int n) (ints_rep r)
/-- the law at a script -/
theorem law_walk {l : PySem.W.OpenLaw} {q : Program} {loose : List Str} {XP : (Str → Option Value) → Heap → Prop} {YP : World → Heap → Prop} {d : DefRec} {K : Params → PySem.W.Frag} {L : Law} {rows : List DefRow} {r : DefRow} {n i : Nat}
    (hn : l.most = some 63) (hdf : d.params.defaults = []) (hY : ∀ (w : World) (h : Heap), YP w h → (K w.params).In h) (hlev : Room (lev n) callerA)
    (hi : rows[i]? = some r) (hps : r.ps = [("script" : Str)]) (hnm : d.name = r.name)
    (U : ∀ (w : World) (mg : Str → Option Value) (h : Heap), (K w.params).In h → h.Ns mainGlobals mg → Setup L (K w.params) mg rows)
    (math : ∀ ns : List Int, ns.length ≤ 63 → ∃ S, callN L.fns n i [.ro (ns.map PyData.int)] [] = .ok (.p (.bool true)) S) :
    PySem.W.WalkO q loose XP YP l.row.toRowW d [] (fun f vs => PySem.call f vs) := by
  refine L2.walk_of (n := 63) (k := lev n) (x := "script") (CX := fun w => L2.CX l.prog w) (sp := fun w => spF (K w.params) (fun _ => 0) (callN L.fns n i)) hn (by decide) hdf hlev hY (fun w mg fa h KX G hmg => ?_) (fun w H a ns hl hO hS => ?_) fun w H s e s' h => cx_none h
  · have V := U w mg h KX G
    obtain ⟨f, fd, hf⟩ := V.at_ r (List.mem_of_getElem? hi)
    have e : fa = f := by
      have h1 := hf.g
      rw [← hnm, hmg] at h1
      cases h1; rfl
    subst e
    refine ⟨fd, fun s u => ?_, fun base hb hg => ?_⟩
    · have hb := hf.binds (V.defs i r hi)
      obtain ⟨kV, doc, pm, an, cdv, ct, rfl, _⟩ := hf.ex
      have := (V.defs i r hi).bind kV doc pm an cdv ct [u] (by rw [hps]; rfl)
      rw [hps] at this
      exact .of_eq this
    · have := Setup.ok (P := l.prog) (w := w) (base := base) (cA := fun _ => 0) V n i r fa fd hi hf
      rw [hps] at this
      exact this
  · obtain ⟨S, hm⟩ := math ns hl
    refine ⟨[], [], [], [.ro (ns.map PyData.int)], ⟨rfl, by simp, by simp, by simp, by simp⟩, .cons (.ro ?_ ?_ (ints_rep ns)) .nil, ?_⟩
    · rcases hS with (h | ⟨o, h⟩) | h
      · rcases hO a with z | ⟨o, xs, z⟩
        · rw [z] at h; cases h
        · rw [z] at h; cases h
      · exact .inl ⟨o, h⟩
      · exact .inr (.inr h)
    · rw [List.length_map]
      exact Nat.le_trans hl (by decide)
    · rw [hm]
      intro H' ρ' e s v r
      exact r.bool
end Core
set_option Elab.async false
set_option linter.all false
set_option maxHeartbeats 1000000
/-! Core, part R: evaluation, step by step; loops stay whole; what comes later has a name, so that simp looks at it late. Printed by genR.py -/
namespace Core
open PySem PySem.W
def c_e_bin2 (F : Calls) (o : BOp) (a : CE) (b : CE) (Γ : Loc) (x : D) (y : D) (S2 : Store) : Res D := Res.ofO S2 ((opB S2 o x y).map D.p)
def c_e_bin1 (F : Calls) (o : BOp) (a : CE) (b : CE) (Γ : Loc) (x : D) (S1 : Store) : Res D := (evE F b Γ S1).bind (c_e_bin2 F o a b Γ x)
def c_e_neg1 (F : Calls) (a : CE) (Γ : Loc) (x : D) (S1 : Store) : Res D := match x with
    | .p (.int i) => .ok (.p (.int (-i))) S1
    | _ => .stuck
def c_e_not1 (F : Calls) (a : CE) (Γ : Loc) (x : D) (S1 : Store) : Res D := Res.ofO S1 ((truthD S1 x).map fun b => .p (.bool (!b)))
def c_e_and1 (F : Calls) (a : CE) (b : CE) (Γ : Loc) (x : D) (S1 : Store) : Res D := match x with
    | .p (.bool true) => evE F b Γ S1
    | .p (.bool false) => .ok (.p (.bool false)) S1
    | _ => .stuck
def c_e_or1 (F : Calls) (a : CE) (b : CE) (Γ : Loc) (x : D) (S1 : Store) : Res D := match x with
    | .p (.bool true) => .ok (.p (.bool true)) S1
    | .p (.bool false) => evE F b Γ S1
    | _ => .stuck
def c_e_cmp2 (F : Calls) (o : COp) (a : CE) (b : CE) (Γ : Loc) (x : D) (y : D) (S2 : Store) : Res D := Res.ofO S2 ((opC S2 o x y).map fun b => .p (.bool b))
def c_e_cmp1 (F : Calls) (o : COp) (a : CE) (b : CE) (Γ : Loc) (x : D) (S1 : Store) : Res D := (evE F b Γ S1).bind (c_e_cmp2 F o a b Γ x)
def c_e_isN1 (F : Calls) (k : Bool) (a : CE) (Γ : Loc) (x : D) (S1 : Store) : Res D := .ok (.p (.bool (isNone x == k))) S1
def c_e_chain3 (F : Calls) (o1 : COp) (o2 : COp) (a : CE) (b : CE) (c : CE) (Γ : Loc) (x : D) (y : D) (z : D) (S3 : Store) : Res D := Res.ofO S3 ((opC S3 o2 y z).map fun b => .p (.bool b))
def c_e_chain2 (F : Calls) (o1 : COp) (o2 : COp) (a : CE) (b : CE) (c : CE) (Γ : Loc) (x : D) (y : D) (S2 : Store) : Res D := match opC S2 o1 x y with
    | some true => (evE F c Γ S2).bind (c_e_chain3 F o1 o2 a b c Γ x y)
    | some false => .ok (.p (.bool false)) S2
    | none => .stuck
def c_e_chain1 (F : Calls) (o1 : COp) (o2 : COp) (a : CE) (b : CE) (c : CE) (Γ : Loc) (x : D) (S1 : Store) : Res D := (evE F b Γ S1).bind (c_e_chain2 F o1 o2 a b c Γ x)
def c_e_ite1 (F : Calls) (c : CE) (a : CE) (b : CE) (Γ : Loc) (x : D) (S1 : Store) : Res D := match truthD S1 x with
    | some true => evE F a Γ S1
    | some false => evE F b Γ S1
    | none => .stuck
def c_e_call1 (F : Calls) (f : Nat) (args : CL) (Γ : Loc) (ds : List D) (S1 : Store) : Res D := F f ds S1
def c_e_callk2 (F : Calls) (f : Nat) (perm : List Nat) (args : CL) (kws : CL) (Γ : Loc) (ds : List D) (es : List D) (S2 : Store) : Res D := match permL perm (ds ++ es) with
    | some gs => F f gs S2
    | none => .stuck
def c_e_callk1 (F : Calls) (f : Nat) (perm : List Nat) (args : CL) (kws : CL) (Γ : Loc) (ds : List D) (S1 : Store) : Res D := (evL F kws Γ S1).bind (c_e_callk2 F f perm args kws Γ ds)
def c_e_bf1 (F : Calls) (f : BF) (args : CL) (Γ : Loc) (ds : List D) (S1 : Store) : Res D := Res.ofO S1 ((fnB S1 f ds).map D.p)
def c_e_isi1 (F : Calls) (a : CE) (tys : List Ty) (Γ : Loc) (x : D) (S1 : Store) : Res D := .ok (.p (.bool (tys.any (isTy1 S1 x)))) S1
def c_e_idx2 (F : Calls) (a : CE) (i : CE) (Γ : Loc) (x : D) (y : D) (S2 : Store) : Res D := Res.ofO S2 (idxD S2 x y)
def c_e_idx1 (F : Calls) (a : CE) (i : CE) (Γ : Loc) (x : D) (S1 : Store) : Res D := (evE F i Γ S1).bind (c_e_idx2 F a i Γ x)
def c_e_slcA1 (F : Calls) (a : CE) (Γ : Loc) (x : D) (S1 : Store) : Res D := Res.ofO S1 ((slcD S1 x none none).map D.p)
def c_e_slcL2 (F : Calls) (a : CE) (lo : CE) (Γ : Loc) (x : D) (y : D) (S2 : Store) : Res D := Res.ofO S2 (((part? y).bind fun k => slcD S2 x k none).map D.p)
def c_e_slcL1 (F : Calls) (a : CE) (lo : CE) (Γ : Loc) (x : D) (S1 : Store) : Res D := (evE F lo Γ S1).bind (c_e_slcL2 F a lo Γ x)
def c_e_slcH2 (F : Calls) (a : CE) (hi : CE) (Γ : Loc) (x : D) (y : D) (S2 : Store) : Res D := Res.ofO S2 (((part? y).bind fun k => slcD S2 x none k).map D.p)
def c_e_slcH1 (F : Calls) (a : CE) (hi : CE) (Γ : Loc) (x : D) (S1 : Store) : Res D := (evE F hi Γ S1).bind (c_e_slcH2 F a hi Γ x)
def c_e_slcB3 (F : Calls) (a : CE) (lo : CE) (hi : CE) (Γ : Loc) (x : D) (y : D) (k : Option Int) (z : D) (S3 : Store) : Res D := Res.ofO S3 (((part? z).bind fun m => slcD S3 x k m).map D.p)
def c_e_slcB2 (F : Calls) (a : CE) (lo : CE) (hi : CE) (Γ : Loc) (x : D) (y : D) (S2 : Store) : Res D := match part? y with
    | none => .stuck
    | some k => (evE F hi Γ S2).bind (c_e_slcB3 F a lo hi Γ x y k)
def c_e_slcB1 (F : Calls) (a : CE) (lo : CE) (hi : CE) (Γ : Loc) (x : D) (S1 : Store) : Res D := (evE F lo Γ S1).bind (c_e_slcB2 F a lo hi Γ x)
def c_e_rev1 (F : Calls) (a : CE) (Γ : Loc) (x : D) (S1 : Store) : Res D := match pureD S1 x with
    | some (.list xs) => .ok (.p (.list xs.reverse)) S1
    | _ => .stuck
def c_e_tup1 (F : Calls) (args : CL) (Γ : Loc) (ds : List D) (S1 : Store) : Res D := match allP ds with
    | some xs => if xs.length ≤ sizeLine then .ok (.p (.tuple xs)) S1 else .stuck
    | none => .stuck
def c_e_lst1 (F : Calls) (args : CL) (Γ : Loc) (ds : List D) (S1 : Store) : Res D := match allP ds with
    | some xs => if xs.length ≤ sizeLine then .ok (.p (.list xs)) S1 else .stuck
    | none => .stuck
def c_e_mlst1 (F : Calls) (args : CL) (Γ : Loc) (ds : List D) (S1 : Store) : Res D := if ds.length ≤ sizeLine then .ok (.loc S1.length) (S1 ++ [.lst ds]) else .stuck
def c_e_madd2 (F : Calls) (a : CE) (b : CE) (Γ : Loc) (x : D) (y : D) (S2 : Store) : Res D := match pureM S2 x, pureM S2 y with
    | some (.list xs), some (.list ys) => if xs.length + ys.length ≤ sizeLine then .ok (.loc S2.length) (S2 ++ [.lst ((xs ++ ys).map D.p)]) else .stuck
    | _, _ => .stuck
def c_e_madd1 (F : Calls) (a : CE) (b : CE) (Γ : Loc) (x : D) (S1 : Store) : Res D := (evE F b Γ S1).bind (c_e_madd2 F a b Γ x)
noncomputable def c_s_expr1 (F : Calls) (e : CE) (Γ : Loc) (u_ : D) (S1 : Store) : ResS := .nx Γ S1
noncomputable def c_s_ret1 (F : Calls) (e : CE) (Γ : Loc) (d : D) (S1 : Store) : ResS := .rt d S1
noncomputable def c_s_asg1 (F : Calls) (t : NT) (e : CE) (Γ : Loc) (d : D) (S1 : Store) : ResS := match bindNT t d Γ with
    | some Γ' => .nx Γ' S1
    | none => .stuck
noncomputable def c_s_par1 (F : Calls) (is : List Nat) (args : CL) (Γ : Loc) (ds : List D) (S1 : Store) : ResS := match setAll is ds Γ with
    | some Γ' => .nx Γ' S1
    | none => .stuck
noncomputable def c_s_seti3 (F : Calls) (o : CE) (i : CE) (e : CE) (Γ : Loc) (d : D) (x : D) (y : D) (S3 : Store) : ResS := match x, y with
    | .loc n, .p (.int k) => match S3[n]? with
      | some (.lst xs) => match L2.ixN xs.length k with
        | some j => .nx Γ (S3.set n (.lst (xs.set j d)))
        | none => .stuck
      | _ => .stuck
    | _, _ => .stuck
noncomputable def c_s_seti2 (F : Calls) (o : CE) (i : CE) (e : CE) (Γ : Loc) (d : D) (x : D) (S2 : Store) : ResS := (evE F i Γ S2).toS Γ (c_s_seti3 F o i e Γ d x)
noncomputable def c_s_seti1 (F : Calls) (o : CE) (i : CE) (e : CE) (Γ : Loc) (d : D) (S1 : Store) : ResS := (evE F o Γ S1).toS Γ (c_s_seti2 F o i e Γ d)
noncomputable def c_s_append2 (F : Calls) (o : CE) (e : CE) (Γ : Loc) (x : D) (n : Nat) (d : D) (S2 : Store) : ResS := match S2[n]? with
      | some (.lst xs) => if xs.length < sizeLine then .nx Γ (S2.set n (.lst (xs ++ [d]))) else .stuck
      | _ => .stuck
noncomputable def c_s_append1 (F : Calls) (o : CE) (e : CE) (Γ : Loc) (x : D) (S1 : Store) : ResS := match x with
    | .loc n => (evE F e Γ S1).toS Γ (c_s_append2 F o e Γ x n)
    | _ => .stuck
noncomputable def c_s_extend2 (F : Calls) (o : CE) (e : CE) (Γ : Loc) (x : D) (n : Nat) (d : D) (S2 : Store) : ResS := match S2[n]?, pureM S2 d with
      | some (.lst xs), some (.list ys) => if xs.length + ys.length ≤ sizeLine then .nx Γ (S2.set n (.lst (xs ++ ys.map D.p))) else .stuck
      | _, _ => .stuck
noncomputable def c_s_extend1 (F : Calls) (o : CE) (e : CE) (Γ : Loc) (x : D) (S1 : Store) : ResS := match x with
    | .loc n => (evE F e Γ S1).toS Γ (c_s_extend2 F o e Γ x n)
    | _ => .stuck
noncomputable def c_s_ite1 (F : Calls) (c : CE) (a : CS) (b : CS) (Γ : Loc) (x : Bool) (S1 : Store) : ResS := if x then evS F a Γ S1 else evS F b Γ S1
def c_l2 (x : D) (xs : List D) (S2 : Store) : Res (List D) := .ok (x :: xs) S2
def c_l1 (F : Calls) (r : CL) (Γ : Loc) (x : D) (S1 : Store) : Res (List D) := (evL F r Γ S1).bind (c_l2 x)
@[simp] theorem c_e_bin2_ap (F : Calls) (o : BOp) (a : CE) (b : CE) (Γ : Loc) (x : D) (y : D) (S2 : Store) : c_e_bin2 F o a b Γ x y S2 = (Res.ofO S2 ((opB S2 o x y).map D.p)) := id rfl
@[simp] theorem c_e_bin1_ap (F : Calls) (o : BOp) (a : CE) (b : CE) (Γ : Loc) (x : D) (S1 : Store) : c_e_bin1 F o a b Γ x S1 = ((evE F b Γ S1).bind (c_e_bin2 F o a b Γ x)) := id rfl
@[simp] theorem c_e_neg1_ap (F : Calls) (a : CE) (Γ : Loc) (x : D) (S1 : Store) : c_e_neg1 F a Γ x S1 = (match x with
    | .p (.int i) => .ok (.p (.int (-i))) S1
    | _ => .stuck) := id rfl
@[simp] theorem c_e_not1_ap (F : Calls) (a : CE) (Γ : Loc) (x : D) (S1 : Store) : c_e_not1 F a Γ x S1 = (Res.ofO S1 ((truthD S1 x).map fun b => .p (.bool (!b)))) := id rfl
@[simp] theorem c_e_and1_ap (F : Calls) (a : CE) (b : CE) (Γ : Loc) (x : D) (S1 : Store) : c_e_and1 F a b Γ x S1 = (match x with
    | .p (.bool true) => evE F b Γ S1
    | .p (.bool false) => .ok (.p (.bool false)) S1
    | _ => .stuck) := id rfl
@[simp] theorem c_e_or1_ap (F : Calls) (a : CE) (b : CE) (Γ : Loc) (x : D) (S1 : Store) : c_e_or1 F a b Γ x S1 = (match x with
    | .p (.bool true) => .ok (.p (.bool true)) S1
    | .p (.bool false) => evE F b Γ S1
    | _ => .stuck) := id rfl
@[simp] theorem c_e_cmp2_ap (F : Calls) (o : COp) (a : CE) (b : CE) (Γ : Loc) (x : D) (y : D) (S2 : Store) : c_e_cmp2 F o a b Γ x y S2 = (Res.ofO S2 ((opC S2 o x y).map fun b => .p (.bool b))) := id rfl
@[simp] theorem c_e_cmp1_ap (F : Calls) (o : COp) (a : CE) (b : CE) (Γ : Loc) (x : D) (S1 : Store) : c_e_cmp1 F o a b Γ x S1 = ((evE F b Γ S1).bind (c_e_cmp2 F o a b Γ x)) := id rfl
@[simp] theorem c_e_isN1_ap (F : Calls) (k : Bool) (a : CE) (Γ : Loc) (x : D) (S1 : Store) : c_e_isN1 F k a Γ x S1 = (.ok (.p (.bool (isNone x == k))) S1) := id rfl
@[simp] theorem c_e_chain3_ap (F : Calls) (o1 : COp) (o2 : COp) (a : CE) (b : CE) (c : CE) (Γ : Loc) (x : D) (y : D) (z : D) (S3 : Store) : c_e_chain3 F o1 o2 a b c Γ x y z S3 = (Res.ofO S3 ((opC S3 o2 y z).map fun b => .p (.bool b))) := id rfl
@[simp] theorem c_e_chain2_ap (F : Calls) (o1 : COp) (o2 : COp) (a : CE) (b : CE) (c : CE) (Γ : Loc) (x : D) (y : D) (S2 : Store) : c_e_chain2 F o1 o2 a b c Γ x y S2 = (match opC S2 o1 x y with
    | some true => (evE F c Γ S2).bind (c_e_chain3 F o1 o2 a b c Γ x y)
    | some false => .ok (.p (.bool false)) S2
    | none => .stuck) := id rfl
@[simp] theorem c_e_chain1_ap (F : Calls) (o1 : COp) (o2 : COp) (a : CE) (b : CE) (c : CE) (Γ : Loc) (x : D) (S1 : Store) : c_e_chain1 F o1 o2 a b c Γ x S1 = ((evE F b Γ S1).bind (c_e_chain2 F o1 o2 a b c Γ x)) := id rfl
@[simp] theorem c_e_ite1_ap (F : Calls) (c : CE) (a : CE) (b : CE) (Γ : Loc) (x : D) (S1 : Store) : c_e_ite1 F c a b Γ x S1 = (match truthD S1 x with
    | some true => evE F a Γ S1
    | some false => evE F b Γ S1
    | none => .stuck) := id rfl
@[simp] theorem c_e_call1_ap (F : Calls) (f : Nat) (args : CL) (Γ : Loc) (ds : List D) (S1 : Store) : c_e_call1 F f args Γ ds S1 = (F f ds S1) := id rfl
@[simp] theorem c_e_callk2_ap (F : Calls) (f : Nat) (perm : List Nat) (args : CL) (kws : CL) (Γ : Loc) (ds : List D) (es : List D) (S2 : Store) : c_e_callk2 F f perm args kws Γ ds es S2 = (match permL perm (ds ++ es) with
    | some gs => F f gs S2
    | none => .stuck) := id rfl
@[simp] theorem c_e_callk1_ap (F : Calls) (f : Nat) (perm : List Nat) (args : CL) (kws : CL) (Γ : Loc) (ds : List D) (S1 : Store) : c_e_callk1 F f perm args kws Γ ds S1 = ((evL F kws Γ S1).bind (c_e_callk2 F f perm args kws Γ ds)) := id rfl
@[simp] theorem c_e_bf1_ap (F : Calls) (f : BF) (args : CL) (Γ : Loc) (ds : List D) (S1 : Store) : c_e_bf1 F f args Γ ds S1 = (Res.ofO S1 ((fnB S1 f ds).map D.p)) := id rfl
@[simp] theorem c_e_isi1_ap (F : Calls) (a : CE) (tys : List Ty) (Γ : Loc) (x : D) (S1 : Store) : c_e_isi1 F a tys Γ x S1 = (.ok (.p (.bool (tys.any (isTy1 S1 x)))) S1) := id rfl
@[simp] theorem c_e_idx2_ap (F : Calls) (a : CE) (i : CE) (Γ : Loc) (x : D) (y : D) (S2 : Store) : c_e_idx2 F a i Γ x y S2 = (Res.ofO S2 (idxD S2 x y)) := id rfl
@[simp] theorem c_e_idx1_ap (F : Calls) (a : CE) (i : CE) (Γ : Loc) (x : D) (S1 : Store) : c_e_idx1 F a i Γ x S1 = ((evE F i Γ S1).bind (c_e_idx2 F a i Γ x)) := id rfl
@[simp] theorem c_e_slcA1_ap (F : Calls) (a : CE) (Γ : Loc) (x : D) (S1 : Store) : c_e_slcA1 F a Γ x S1 = (Res.ofO S1 ((slcD S1 x none none).map D.p)) := id rfl
@[simp] theorem c_e_slcL2_ap (F : Calls) (a : CE) (lo : CE) (Γ : Loc) (x : D) (y : D) (S2 : Store) : c_e_slcL2 F a lo Γ x y S2 = (Res.ofO S2 (((part? y).bind fun k => slcD S2 x k none).map D.p)) := id rfl
@[simp] theorem c_e_slcL1_ap (F : Calls) (a : CE) (lo : CE) (Γ : Loc) (x : D) (S1 : Store) : c_e_slcL1 F a lo Γ x S1 = ((evE F lo Γ S1).bind (c_e_slcL2 F a lo Γ x)) := id rfl
@[simp] theorem c_e_slcH2_ap (F : Calls) (a : CE) (hi : CE) (Γ : Loc) (x : D) (y : D) (S2 : Store) : c_e_slcH2 F a hi Γ x y S2 = (Res.ofO S2 (((part? y).bind fun k => slcD S2 x none k).map D.p)) := id rfl
@[simp] theorem c_e_slcH1_ap (F : Calls) (a : CE) (hi : CE) (Γ : Loc) (x : D) (S1 : Store) : c_e_slcH1 F a hi Γ x S1 = ((evE F hi Γ S1).bind (c_e_slcH2 F a hi Γ x)) := id rfl
@[simp] theorem c_e_slcB3_ap (F : Calls) (a : CE) (lo : CE) (hi : CE) (Γ : Loc) (x : D) (y : D) (k : Option Int) (z : D) (S3 : Store) : c_e_slcB3 F a lo hi Γ x y k z S3 = (Res.ofO S3 (((part? z).bind fun m => slcD S3 x k m).map D.p)) := id rfl
@[simp] theorem c_e_slcB2_ap (F : Calls) (a : CE) (lo : CE) (hi : CE) (Γ : Loc) (x : D) (y : D) (S2 : Store) : c_e_slcB2 F a lo hi Γ x y S2 = (match part? y with
    | none => .stuck
    | some k => (evE F hi Γ S2).bind (c_e_slcB3 F a lo hi Γ x y k)) := id rfl
@[simp] theorem c_e_slcB1_ap (F : Calls) (a : CE) (lo : CE) (hi : CE) (Γ : Loc) (x : D) (S1 : Store) : c_e_slcB1 F a lo hi Γ x S1 = ((evE F lo Γ S1).bind (c_e_slcB2 F a lo hi Γ x)) := id rfl
@[simp] theorem c_e_rev1_ap (F : Calls) (a : CE) (Γ : Loc) (x : D) (S1 : Store) : c_e_rev1 F a Γ x S1 = (match pureD S1 x with
    | some (.list xs) => .ok (.p (.list xs.reverse)) S1
    | _ => .stuck) := id rfl
@[simp] theorem c_e_tup1_ap (F : Calls) (args : CL) (Γ : Loc) (ds : List D) (S1 : Store) : c_e_tup1 F args Γ ds S1 = (match allP ds with
    | some xs => if xs.length ≤ sizeLine then .ok (.p (.tuple xs)) S1 else .stuck
    | none => .stuck) := id rfl
@[simp] theorem c_e_lst1_ap (F : Calls) (args : CL) (Γ : Loc) (ds : List D) (S1 : Store) : c_e_lst1 F args Γ ds S1 = (match allP ds with
    | some xs => if xs.length ≤ sizeLine then .ok (.p (.list xs)) S1 else .stuck
    | none => .stuck) := id rfl
@[simp] theorem c_e_mlst1_ap (F : Calls) (args : CL) (Γ : Loc) (ds : List D) (S1 : Store) : c_e_mlst1 F args Γ ds S1 = (if ds.length ≤ sizeLine then .ok (.loc S1.length) (S1 ++ [.lst ds]) else .stuck) := id rfl
@[simp] theorem c_e_madd2_ap (F : Calls) (a : CE) (b : CE) (Γ : Loc) (x : D) (y : D) (S2 : Store) : c_e_madd2 F a b Γ x y S2 = (match pureM S2 x, pureM S2 y with
    | some (.list xs), some (.list ys) => if xs.length + ys.length ≤ sizeLine then .ok (.loc S2.length) (S2 ++ [.lst ((xs ++ ys).map D.p)]) else .stuck
    | _, _ => .stuck) := id rfl
@[simp] theorem c_e_madd1_ap (F : Calls) (a : CE) (b : CE) (Γ : Loc) (x : D) (S1 : Store) : c_e_madd1 F a b Γ x S1 = ((evE F b Γ S1).bind (c_e_madd2 F a b Γ x)) := id rfl
@[simp] theorem c_s_expr1_ap (F : Calls) (e : CE) (Γ : Loc) (u_ : D) (S1 : Store) : c_s_expr1 F e Γ u_ S1 = (.nx Γ S1) := id rfl
@[simp] theorem c_s_ret1_ap (F : Calls) (e : CE) (Γ : Loc) (d : D) (S1 : Store) : c_s_ret1 F e Γ d S1 = (.rt d S1) := id rfl
@[simp] theorem c_s_asg1_ap (F : Calls) (t : NT) (e : CE) (Γ : Loc) (d : D) (S1 : Store) : c_s_asg1 F t e Γ d S1 = (match bindNT t d Γ with
    | some Γ' => .nx Γ' S1
    | none => .stuck) := id rfl
@[simp] theorem c_s_par1_ap (F : Calls) (is : List Nat) (args : CL) (Γ : Loc) (ds : List D) (S1 : Store) : c_s_par1 F is args Γ ds S1 = (match setAll is ds Γ with
    | some Γ' => .nx Γ' S1
    | none => .stuck) := id rfl
@[simp] theorem c_s_seti3_ap (F : Calls) (o : CE) (i : CE) (e : CE) (Γ : Loc) (d : D) (x : D) (y : D) (S3 : Store) : c_s_seti3 F o i e Γ d x y S3 = (match x, y with
    | .loc n, .p (.int k) => match S3[n]? with
      | some (.lst xs) => match L2.ixN xs.length k with
        | some j => .nx Γ (S3.set n (.lst (xs.set j d)))
        | none => .stuck
      | _ => .stuck
    | _, _ => .stuck) := id rfl
@[simp] theorem c_s_seti2_ap (F : Calls) (o : CE) (i : CE) (e : CE) (Γ : Loc) (d : D) (x : D) (S2 : Store) : c_s_seti2 F o i e Γ d x S2 = ((evE F i Γ S2).toS Γ (c_s_seti3 F o i e Γ d x)) := id rfl
@[simp] theorem c_s_seti1_ap (F : Calls) (o : CE) (i : CE) (e : CE) (Γ : Loc) (d : D) (S1 : Store) : c_s_seti1 F o i e Γ d S1 = ((evE F o Γ S1).toS Γ (c_s_seti2 F o i e Γ d)) := id rfl
@[simp] theorem c_s_append2_ap (F : Calls) (o : CE) (e : CE) (Γ : Loc) (x : D) (n : Nat) (d : D) (S2 : Store) : c_s_append2 F o e Γ x n d S2 = (match S2[n]? with
      | some (.lst xs) => if xs.length < sizeLine then .nx Γ (S2.set n (.lst (xs ++ [d]))) else .stuck
      | _ => .stuck) := id rfl
@[simp] theorem c_s_append1_ap (F : Calls) (o : CE) (e : CE) (Γ : Loc) (x : D) (S1 : Store) : c_s_append1 F o e Γ x S1 = (match x with
    | .loc n => (evE F e Γ S1).toS Γ (c_s_append2 F o e Γ x n)
    | _ => .stuck) := id rfl
@[simp] theorem c_s_extend2_ap (F : Calls) (o : CE) (e : CE) (Γ : Loc) (x : D) (n : Nat) (d : D) (S2 : Store) : c_s_extend2 F o e Γ x n d S2 = (match S2[n]?, pureM S2 d with
      | some (.lst xs), some (.list ys) => if xs.length + ys.length ≤ sizeLine then .nx Γ (S2.set n (.lst (xs ++ ys.map D.p))) else .stuck
      | _, _ => .stuck) := id rfl
@[simp] theorem c_s_extend1_ap (F : Calls) (o : CE) (e : CE) (Γ : Loc) (x : D) (S1 : Store) : c_s_extend1 F o e Γ x S1 = (match x with
    | .loc n => (evE F e Γ S1).toS Γ (c_s_extend2 F o e Γ x n)
    | _ => .stuck) := id rfl
@[simp] theorem c_s_ite1_ap (F : Calls) (c : CE) (a : CS) (b : CS) (Γ : Loc) (x : Bool) (S1 : Store) : c_s_ite1 F c a b Γ x S1 = (if x then evS F a Γ S1 else evS F b Γ S1) := id rfl
@[simp] theorem c_l2_ap (x : D) (xs : List D) (S2 : Store) : c_l2 x xs S2 = .ok (x :: xs) S2 := id rfl
@[simp] theorem c_l1_ap (F : Calls) (r : CL) (Γ : Loc) (x : D) (S1 : Store) : c_l1 F r Γ x S1 = (evL F r Γ S1).bind (c_l2 x) := id rfl
@[simp] theorem evE_con (F : Calls) (x : PyData) (Γ : Loc) (S : Store) : evE F (.con x) Γ S = (.ok (.p x) S) := by rw [evE] <;> rfl
@[simp] theorem evE_var (F : Calls) (i : Nat) (Γ : Loc) (S : Store) : evE F (.var i) Γ S = (match Γ[i]? with
    | some (some d) => .ok d S
    | _ => .stuck) := by rw [evE] <;> rfl
@[simp] theorem evE_bin (F : Calls) (o : BOp) (a : CE) (b : CE) (Γ : Loc) (S : Store) : evE F (.bin o a b) Γ S = ((evE F a Γ S).bind (c_e_bin1 F o a b Γ)) := by rw [evE] <;> rfl
@[simp] theorem evE_neg (F : Calls) (a : CE) (Γ : Loc) (S : Store) : evE F (.neg a) Γ S = ((evE F a Γ S).bind (c_e_neg1 F a Γ)) := by rw [evE] <;> rfl
@[simp] theorem evE_not (F : Calls) (a : CE) (Γ : Loc) (S : Store) : evE F (.not a) Γ S = ((evE F a Γ S).bind (c_e_not1 F a Γ)) := by rw [evE] <;> rfl
@[simp] theorem evE_and (F : Calls) (a : CE) (b : CE) (Γ : Loc) (S : Store) : evE F (.and a b) Γ S = ((evE F a Γ S).bind (c_e_and1 F a b Γ)) := by rw [evE] <;> rfl
@[simp] theorem evE_or (F : Calls) (a : CE) (b : CE) (Γ : Loc) (S : Store) : evE F (.or a b) Γ S = ((evE F a Γ S).bind (c_e_or1 F a b Γ)) := by rw [evE] <;> rfl
@[simp] theorem evE_cmp (F : Calls) (o : COp) (a : CE) (b : CE) (Γ : Loc) (S : Store) : evE F (.cmp o a b) Γ S = ((evE F a Γ S).bind (c_e_cmp1 F o a b Γ)) := by rw [evE] <;> rfl
@[simp] theorem evE_isN (F : Calls) (k : Bool) (a : CE) (Γ : Loc) (S : Store) : evE F (.isN k a) Γ S = ((evE F a Γ S).bind (c_e_isN1 F k a Γ)) := by rw [evE] <;> rfl
@[simp] theorem evE_chain (F : Calls) (o1 : COp) (o2 : COp) (a : CE) (b : CE) (c : CE) (Γ : Loc) (S : Store) : evE F (.chain o1 o2 a b c) Γ S = ((evE F a Γ S).bind (c_e_chain1 F o1 o2 a b c Γ)) := by rw [evE] <;> rfl
@[simp] theorem evE_ite (F : Calls) (c : CE) (a : CE) (b : CE) (Γ : Loc) (S : Store) : evE F (.ite c a b) Γ S = ((evE F c Γ S).bind (c_e_ite1 F c a b Γ)) := by rw [evE] <;> rfl
@[simp] theorem evE_call (F : Calls) (f : Nat) (args : CL) (Γ : Loc) (S : Store) : evE F (.call f args) Γ S = ((evL F args Γ S).bind (c_e_call1 F f args Γ)) := by rw [evE] <;> rfl
@[simp] theorem evE_callk (F : Calls) (f : Nat) (perm : List Nat) (args : CL) (kws : CL) (Γ : Loc) (S : Store) : evE F (.callk f perm args kws) Γ S = ((evL F args Γ S).bind (c_e_callk1 F f perm args kws Γ)) := by rw [evE] <;> rfl
@[simp] theorem evE_bf (F : Calls) (f : BF) (args : CL) (Γ : Loc) (S : Store) : evE F (.bf f args) Γ S = ((evL F args Γ S).bind (c_e_bf1 F f args Γ)) := by rw [evE] <;> rfl
@[simp] theorem evE_isi (F : Calls) (a : CE) (tys : List Ty) (Γ : Loc) (S : Store) : evE F (.isi a tys) Γ S = ((evE F a Γ S).bind (c_e_isi1 F a tys Γ)) := by rw [evE] <;> rfl
@[simp] theorem evE_idx (F : Calls) (a : CE) (i : CE) (Γ : Loc) (S : Store) : evE F (.idx a i) Γ S = ((evE F a Γ S).bind (c_e_idx1 F a i Γ)) := by rw [evE] <;> rfl
@[simp] theorem evE_slcA (F : Calls) (a : CE) (Γ : Loc) (S : Store) : evE F (.slcA a) Γ S = ((evE F a Γ S).bind (c_e_slcA1 F a Γ)) := by rw [evE] <;> rfl
@[simp] theorem evE_slcL (F : Calls) (a : CE) (lo : CE) (Γ : Loc) (S : Store) : evE F (.slcL a lo) Γ S = ((evE F a Γ S).bind (c_e_slcL1 F a lo Γ)) := by rw [evE] <;> rfl
@[simp] theorem evE_slcH (F : Calls) (a : CE) (hi : CE) (Γ : Loc) (S : Store) : evE F (.slcH a hi) Γ S = ((evE F a Γ S).bind (c_e_slcH1 F a hi Γ)) := by rw [evE] <;> rfl
@[simp] theorem evE_slcB (F : Calls) (a : CE) (lo : CE) (hi : CE) (Γ : Loc) (S : Store) : evE F (.slcB a lo hi) Γ S = ((evE F a Γ S).bind (c_e_slcB1 F a lo hi Γ)) := by rw [evE] <;> rfl
@[simp] theorem evE_rev (F : Calls) (a : CE) (Γ : Loc) (S : Store) : evE F (.rev a) Γ S = ((evE F a Γ S).bind (c_e_rev1 F a Γ)) := by rw [evE] <;> rfl
@[simp] theorem evE_tup (F : Calls) (args : CL) (Γ : Loc) (S : Store) : evE F (.tup args) Γ S = ((evL F args Γ S).bind (c_e_tup1 F args Γ)) := by rw [evE] <;> rfl
@[simp] theorem evE_lst (F : Calls) (args : CL) (Γ : Loc) (S : Store) : evE F (.lst args) Γ S = ((evL F args Γ S).bind (c_e_lst1 F args Γ)) := by rw [evE] <;> rfl
@[simp] theorem evE_mlst (F : Calls) (args : CL) (Γ : Loc) (S : Store) : evE F (.mlst args) Γ S = ((evL F args Γ S).bind (c_e_mlst1 F args Γ)) := by rw [evE] <;> rfl
@[simp] theorem evE_madd (F : Calls) (a : CE) (b : CE) (Γ : Loc) (S : Store) : evE F (.madd a b) Γ S = ((evE F a Γ S).bind (c_e_madd1 F a b Γ)) := by rw [evE] <;> rfl
@[simp] theorem evS_skip (F : Calls)  (Γ : Loc) (S : Store) : evS F (.skip ) Γ S = (.nx Γ S) := by rw [evS] <;> rfl
@[simp] theorem evS_seq (F : Calls) (a : CS) (b : CS) (Γ : Loc) (S : Store) : evS F (.seq a b) Γ S = (match evS F a Γ S with
    | .nx Γ' S' => evS F b Γ' S'
    | r => r) := by rw [evS] <;> rfl
@[simp] theorem evS_expr (F : Calls) (e : CE) (Γ : Loc) (S : Store) : evS F (.expr e) Γ S = ((evE F e Γ S).toS Γ (c_s_expr1 F e Γ)) := by rw [evS] <;> rfl
@[simp] theorem evS_ret (F : Calls) (e : CE) (Γ : Loc) (S : Store) : evS F (.ret e) Γ S = ((evE F e Γ S).toS Γ (c_s_ret1 F e Γ)) := by rw [evS] <;> rfl
@[simp] theorem evS_asg (F : Calls) (t : NT) (e : CE) (Γ : Loc) (S : Store) : evS F (.asg t e) Γ S = ((evE F e Γ S).toS Γ (c_s_asg1 F t e Γ)) := by rw [evS] <;> rfl
@[simp] theorem evS_par (F : Calls) (is : List Nat) (args : CL) (Γ : Loc) (S : Store) : evS F (.par is args) Γ S = ((evL F args Γ S).toS Γ (c_s_par1 F is args Γ)) := by rw [evS] <;> rfl
@[simp] theorem evS_seti (F : Calls) (o : CE) (i : CE) (e : CE) (Γ : Loc) (S : Store) : evS F (.seti o i e) Γ S = ((evE F e Γ S).toS Γ (c_s_seti1 F o i e Γ)) := by rw [evS] <;> rfl
@[simp] theorem evS_append (F : Calls) (o : CE) (e : CE) (Γ : Loc) (S : Store) : evS F (.append o e) Γ S = ((evE F o Γ S).toS Γ (c_s_append1 F o e Γ)) := by rw [evS] <;> rfl
@[simp] theorem evS_extend (F : Calls) (o : CE) (e : CE) (Γ : Loc) (S : Store) : evS F (.extend o e) Γ S = ((evE F o Γ S).toS Γ (c_s_extend1 F o e Γ)) := by rw [evS] <;> rfl
@[simp] theorem evS_ite (F : Calls) (c : CE) (a : CS) (b : CS) (Γ : Loc) (S : Store) : evS F (.ite c a b) Γ S = ((evT F c Γ S).toS Γ (c_s_ite1 F c a b Γ)) := by rw [evS] <;> rfl
@[simp] theorem evS_stop (F : Calls)  (Γ : Loc) (S : Store) : evS F (.stop ) Γ S = (.stuck) := by rw [evS] <;> rfl
@[simp] theorem evL_nil (F : Calls) (Γ : Loc) (S : Store) : evL F .nil Γ S = .ok [] S := by rw [evL]
@[simp] theorem evL_cons (F : Calls) (a : CE) (r : CL) (Γ : Loc) (S : Store) : evL F (.cons a r) Γ S = (evE F a Γ S).bind (c_l1 F r Γ) := by rw [evL] <;> rfl
def c_t (x : D) (S1 : Store) : Res Bool := Res.ofO S1 (truthD S1 x)
@[simp] theorem c_t_ap (x : D) (S1 : Store) : c_t x S1 = Res.ofO S1 (truthD S1 x) := id rfl
@[simp] theorem evT_eq (F : Calls) (c : CE) (Γ : Loc) (S : Store) : evT F c Γ S = (evE F c Γ S).bind c_t := id rfl
/-- a comprehension's turns -/
def lcR (F : Calls) (t : NT) (k : IK) (c e : CE) (own : List Nat) (Γ : Loc) (ds : List D) (S1 : Store) : Res (List D) := match srcOf k ds with
    | none => .stuck
    | some r => match srcLen S1 r with
      | none => .stuck
      | some n => lcGo (stepG (fun Γ' S' => evE F c Γ' S') (fun Γ' S' => evE F e Γ' S') t (wipeL Γ own)) r n 0 [] S1
def c_lcE (acc : List D) (S2 : Store) : Res D := match allP acc with
  | some xs => .ok (.p (.list xs)) S2
  | none => .stuck
def c_mlcE (acc : List D) (S2 : Store) : Res D := .ok (.loc S2.length) (S2 ++ [.lst acc])
@[simp] theorem c_lcE_ap (xs : List PyData) (S2 : Store) : c_lcE (xs.map D.p) S2 = .ok (.p (.list xs)) S2 := by simp [c_lcE, allP_of]
@[simp] theorem c_mlcE_ap (acc : List D) (S2 : Store) : c_mlcE acc S2 = .ok (.loc S2.length) (S2 ++ [.lst acc]) := id rfl
def c_lc (F : Calls) (t : NT) (k : IK) (c e : CE) (own : List Nat) (Γ : Loc) (ds : List D) (S1 : Store) : Res D := (lcR F t k c e own Γ ds S1).bind c_lcE
def c_mlc (F : Calls) (t : NT) (k : IK) (c e : CE) (own : List Nat) (Γ : Loc) (ds : List D) (S1 : Store) : Res D := (lcR F t k c e own Γ ds S1).bind c_mlcE
@[simp] theorem c_lc_ap (F : Calls) (t : NT) (k : IK) (c e : CE) (own : List Nat) (Γ : Loc) (ds : List D) (S1 : Store) : c_lc F t k c e own Γ ds S1 = (lcR F t k c e own Γ ds S1).bind c_lcE := id rfl
@[simp] theorem c_mlc_ap (F : Calls) (t : NT) (k : IK) (c e : CE) (own : List Nat) (Γ : Loc) (ds : List D) (S1 : Store) : c_mlc F t k c e own Γ ds S1 = (lcR F t k c e own Γ ds S1).bind c_mlcE := id rfl
@[simp] theorem evE_lc (F : Calls) (t : NT) (k : IK) (src : CL) (c e : CE) (own : List Nat) (Γ : Loc) (S : Store) : evE F (.lc t k src c e own) Γ S = (evL F src Γ S).bind (c_lc F t k c e own Γ) := by
  rw [evE]
  congr 1
  funext ds S1
  unfold c_lc lcR
  cases srcOf k ds with
  | none => rfl
  | some r =>
    simp only
    cases srcLen S1 r <;> rfl
@[simp] theorem evE_mlc (F : Calls) (t : NT) (k : IK) (src : CL) (c e : CE) (own : List Nat) (Γ : Loc) (S : Store) : evE F (.mlc t k src c e own) Γ S = (evL F src Γ S).bind (c_mlc F t k c e own Γ) := by
  rw [evE]
  congr 1
  funext ds S1
  unfold c_mlc lcR
  cases srcOf k ds with
  | none => rfl
  | some r =>
    simp only
    cases srcLen S1 r <;> rfl
noncomputable def whlR (F : Calls) (c : CE) (b : CS) (Γ : Loc) (S : Store) : ResS := whileF (evT F c) (evS F b) Γ S
@[simp] theorem evS_whl (F : Calls) (c : CE) (b : CS) (Γ : Loc) (S : Store) : evS F (.whl c b) Γ S = whlR F c b Γ S := by rw [evS] <;> rfl
noncomputable def forStep (F : Calls) (t : NT) (b : CS) : D → Loc → Store → ResS := fun d Γ' S' => match bindNT t d Γ' with
  | none => .stuck
  | some Γ2 => evS F b Γ2 S'
/-- a loop's turns -/
noncomputable def forR (F : Calls) (t : NT) (k : IK) (b : CS) (Γ : Loc) (ds : List D) (S1 : Store) : ResS := match srcOf k ds with
    | none => .stuck
    | some r => match srcLen S1 r with
      | none => .stuck
      | some n => forGo (forStep F t b) r n 0 Γ S1
@[simp] theorem evS_for (F : Calls) (t : NT) (k : IK) (src : CL) (b : CS) (Γ : Loc) (S : Store) : evS F (.for_ t k src b) Γ S = (evL F src Γ S).toS Γ (forR F t k b Γ) := by rw [evS] <;> rfl
theorem whlR_end {F : Calls} {c : CE} {b : CS} {Γ : Loc} {S S' : Store} (hc : evT F c Γ S = .ok false S') : whlR F c b Γ S = .nx Γ S' := whileF_end hc
theorem whlR_nx {F : Calls} {c : CE} {b : CS} {Γ Γ2 : Loc} {S S' S2 : Store} (hc : evT F c Γ S = .ok true S') (hb : evS F b Γ S' = .nx Γ2 S2) : whlR F c b Γ S = whlR F c b Γ2 S2 := whileF_nx hc hb
end Core
set_option Elab.async false
set_option linter.all false
set_option maxHeartbeats 1000000
/-! Core, part R2: calls, loops, comprehensions -/
namespace Core
open PySem PySem.W
/-! ### what values are -/
@[simp] theorem ty_int_none (S : Store)  : isTy1 S (.p .none) .int = false := rfl
@[simp] theorem ty_int_bool (S : Store) (b : Bool) : isTy1 S (.p (.bool b)) .int = true := rfl
@[simp] theorem ty_int_int (S : Store) (i : Int) : isTy1 S (.p (.int i)) .int = true := rfl
@[simp] theorem ty_int_str (S : Store) (x : Str) : isTy1 S (.p (.str x)) .int = false := rfl
@[simp] theorem ty_int_lst (S : Store) (xs : List PyData) : isTy1 S (.p (.list xs)) .int = false := rfl
@[simp] theorem ty_int_tup (S : Store) (xs : List PyData) : isTy1 S (.p (.tuple xs)) .int = false := rfl
@[simp] theorem ty_int_dct (S : Store) (xs : List (PyData × PyData)) : isTy1 S (.p (.dict xs)) .int = false := rfl
@[simp] theorem ty_int_ro (S : Store) (xs : List PyData) : isTy1 S (.ro xs) .int = false := rfl
@[simp] theorem ty_int_loc (S : Store) (n : Nat) : isTy1 S (.loc n) .int = false := rfl
@[simp] theorem ty_bool_none (S : Store)  : isTy1 S (.p .none) .bool = false := rfl
@[simp] theorem ty_bool_bool (S : Store) (b : Bool) : isTy1 S (.p (.bool b)) .bool = true := rfl
@[simp] theorem ty_bool_int (S : Store) (i : Int) : isTy1 S (.p (.int i)) .bool = false := rfl
@[simp] theorem ty_bool_str (S : Store) (x : Str) : isTy1 S (.p (.str x)) .bool = false := rfl
@[simp] theorem ty_bool_lst (S : Store) (xs : List PyData) : isTy1 S (.p (.list xs)) .bool = false := rfl
@[simp] theorem ty_bool_tup (S : Store) (xs : List PyData) : isTy1 S (.p (.tuple xs)) .bool = false := rfl
@[simp] theorem ty_bool_dct (S : Store) (xs : List (PyData × PyData)) : isTy1 S (.p (.dict xs)) .bool = false := rfl
@[simp] theorem ty_bool_ro (S : Store) (xs : List PyData) : isTy1 S (.ro xs) .bool = false := rfl
@[simp] theorem ty_bool_loc (S : Store) (n : Nat) : isTy1 S (.loc n) .bool = false := rfl
@[simp] theorem ty_str_none (S : Store)  : isTy1 S (.p .none) .str = false := rfl
@[simp] theorem ty_str_bool (S : Store) (b : Bool) : isTy1 S (.p (.bool b)) .str = false := rfl
@[simp] theorem ty_str_int (S : Store) (i : Int) : isTy1 S (.p (.int i)) .str = false := rfl
@[simp] theorem ty_str_str (S : Store) (x : Str) : isTy1 S (.p (.str x)) .str = true := rfl
@[simp] theorem ty_str_lst (S : Store) (xs : List PyData) : isTy1 S (.p (.list xs)) .str = false := rfl
@[simp] theorem ty_str_tup (S : Store) (xs : List PyData) : isTy1 S (.p (.tuple xs)) .str = false := rfl
@[simp] theorem ty_str_dct (S : Store) (xs : List (PyData × PyData)) : isTy1 S (.p (.dict xs)) .str = false := rfl
@[simp] theorem ty_str_ro (S : Store) (xs : List PyData) : isTy1 S (.ro xs) .str = false := rfl
@[simp] theorem ty_str_loc (S : Store) (n : Nat) : isTy1 S (.loc n) .str = false := rfl
@[simp] theorem ty_tuple_none (S : Store)  : isTy1 S (.p .none) .tuple = false := rfl
@[simp] theorem ty_tuple_bool (S : Store) (b : Bool) : isTy1 S (.p (.bool b)) .tuple = false := rfl
@[simp] theorem ty_tuple_int (S : Store) (i : Int) : isTy1 S (.p (.int i)) .tuple = false := rfl
@[simp] theorem ty_tuple_str (S : Store) (x : Str) : isTy1 S (.p (.str x)) .tuple = false := rfl
@[simp] theorem ty_tuple_lst (S : Store) (xs : List PyData) : isTy1 S (.p (.list xs)) .tuple = false := rfl
@[simp] theorem ty_tuple_tup (S : Store) (xs : List PyData) : isTy1 S (.p (.tuple xs)) .tuple = true := rfl
@[simp] theorem ty_tuple_dct (S : Store) (xs : List (PyData × PyData)) : isTy1 S (.p (.dict xs)) .tuple = false := rfl
@[simp] theorem ty_tuple_ro (S : Store) (xs : List PyData) : isTy1 S (.ro xs) .tuple = false := rfl
@[simp] theorem ty_tuple_loc (S : Store) (n : Nat) : isTy1 S (.loc n) .tuple = false := rfl
@[simp] theorem ty_list_none (S : Store)  : isTy1 S (.p .none) .list = false := rfl
@[simp] theorem ty_list_bool (S : Store) (b : Bool) : isTy1 S (.p (.bool b)) .list = false := rfl
@[simp] theorem ty_list_int (S : Store) (i : Int) : isTy1 S (.p (.int i)) .list = false := rfl
@[simp] theorem ty_list_str (S : Store) (x : Str) : isTy1 S (.p (.str x)) .list = false := rfl
@[simp] theorem ty_list_lst (S : Store) (xs : List PyData) : isTy1 S (.p (.list xs)) .list = true := rfl
@[simp] theorem ty_list_tup (S : Store) (xs : List PyData) : isTy1 S (.p (.tuple xs)) .list = false := rfl
@[simp] theorem ty_list_dct (S : Store) (xs : List (PyData × PyData)) : isTy1 S (.p (.dict xs)) .list = false := rfl
@[simp] theorem ty_list_ro (S : Store) (xs : List PyData) : isTy1 S (.ro xs) .list = true := rfl
@[simp] theorem ty_list_loc (S : Store) (n : Nat) : isTy1 S (.loc n) .list = true := rfl
@[simp] theorem ty_dict_none (S : Store)  : isTy1 S (.p .none) .dict = false := rfl
@[simp] theorem ty_dict_bool (S : Store) (b : Bool) : isTy1 S (.p (.bool b)) .dict = false := rfl
@[simp] theorem ty_dict_int (S : Store) (i : Int) : isTy1 S (.p (.int i)) .dict = false := rfl
@[simp] theorem ty_dict_str (S : Store) (x : Str) : isTy1 S (.p (.str x)) .dict = false := rfl
@[simp] theorem ty_dict_lst (S : Store) (xs : List PyData) : isTy1 S (.p (.list xs)) .dict = false := rfl
@[simp] theorem ty_dict_tup (S : Store) (xs : List PyData) : isTy1 S (.p (.tuple xs)) .dict = false := rfl
@[simp] theorem ty_dict_dct (S : Store) (xs : List (PyData × PyData)) : isTy1 S (.p (.dict xs)) .dict = true := rfl
@[simp] theorem ty_dict_ro (S : Store) (xs : List PyData) : isTy1 S (.ro xs) .dict = false := rfl
@[simp] theorem ty_dict_loc (S : Store) (n : Nat) : isTy1 S (.loc n) .dict = false := rfl
@[simp] theorem isNone_none  : isNone (.p .none) = true := rfl
@[simp] theorem isNone_bool (b : Bool) : isNone (.p (.bool b)) = false := rfl
@[simp] theorem isNone_int (i : Int) : isNone (.p (.int i)) = false := rfl
@[simp] theorem isNone_str (x : Str) : isNone (.p (.str x)) = false := rfl
@[simp] theorem isNone_lst (xs : List PyData) : isNone (.p (.list xs)) = false := rfl
@[simp] theorem isNone_tup (xs : List PyData) : isNone (.p (.tuple xs)) = false := rfl
@[simp] theorem isNone_dct (xs : List (PyData × PyData)) : isNone (.p (.dict xs)) = false := rfl
@[simp] theorem isNone_ro (xs : List PyData) : isNone (.ro xs) = false := rfl
@[simp] theorem isNone_loc (n : Nat) : isNone (.loc n) = false := rfl
@[simp] theorem elems_l (S : Store) (xs : List PyData) : elems S (.p (.list xs)) = some (xs.map D.p) := rfl
@[simp] theorem elems_t (S : Store) (xs : List PyData) : elems S (.p (.tuple xs)) = some (xs.map D.p) := rfl
@[simp] theorem elems_r (S : Store) (xs : List PyData) : elems S (.ro xs) = some (xs.map D.p) := rfl
@[simp] theorem elems_c (S : Store) (n : Nat) : elems S (.loc n) = (match S[n]? with | some (.lst xs) => some xs | none => none) := rfl
@[simp] theorem pureD_p (S : Store) (x : PyData) : pureD S (.p x) = some x := rfl
@[simp] theorem pureD_r (S : Store) (xs : List PyData) : pureD S (.ro xs) = some (.list xs) := rfl
@[simp] theorem pureD_c (S : Store) (n : Nat) : pureD S (.loc n) = (match S[n]? with | some (.lst xs) => (allP xs).map PyData.list | none => none) := rfl
@[simp] theorem pureM_p (S : Store) (x : PyData) : pureM S (.p x) = some x := rfl
@[simp] theorem pureM_c (S : Store) (n : Nat) : pureM S (.loc n) = (match S[n]? with | some (.lst xs) => (allP xs).map PyData.list | none => none) := rfl
@[simp] theorem idxD_l (S : Store) (xs : List PyData) (k : Int) : idxD S (.p (.list xs)) (.p (.int k)) = L2.atI (xs.map D.p) k := rfl
@[simp] theorem idxD_t (S : Store) (xs : List PyData) (k : Int) : idxD S (.p (.tuple xs)) (.p (.int k)) = L2.atI (xs.map D.p) k := rfl
@[simp] theorem idxD_r (S : Store) (xs : List PyData) (k : Int) : idxD S (.ro xs) (.p (.int k)) = L2.atI (xs.map D.p) k := rfl
@[simp] theorem idxD_c (S : Store) (n : Nat) (k : Int) : idxD S (.loc n) (.p (.int k)) = (elems S (.loc n)).bind fun xs => L2.atI xs k := rfl
@[simp] theorem idxD_s (S : Store) (x : Str) (k : Int) : idxD S (.p (.str x)) (.p (.int k)) = if x.length ≤ sizeLine then (L2.atI x.cps.toList k).map fun c => .p (.str ⟨#[c]⟩) else none := rfl
@[simp] theorem len_l (S : Store) (xs : List PyData) : fnB S .len [.p (.list xs)] = some (.int xs.length) := by simp [fnB]
@[simp] theorem len_t (S : Store) (xs : List PyData) : fnB S .len [.p (.tuple xs)] = some (.int xs.length) := by simp [fnB]
@[simp] theorem len_r (S : Store) (xs : List PyData) : fnB S .len [.ro xs] = some (.int xs.length) := by simp [fnB]
@[simp] theorem len_c (S : Store) (n : Nat) : fnB S .len [.loc n] = (elems S (.loc n)).map fun xs => .int xs.length := by simp [fnB]
@[simp] theorem len_s (S : Store) (x : Str) : fnB S .len [.p (.str x)] = if x.length ≤ sizeLine then some (.int x.length) else none := rfl
@[simp] theorem fn_abs (S : Store) (i : Int) : fnB S .abs [.p (.int i)] = some (.int (if i < 0 then -i else i)) := rfl
@[simp] theorem fn_max (S : Store) (i j : Int) : fnB S .max [.p (.int i), .p (.int j)] = some (.int (if j > i then j else i)) := rfl
@[simp] theorem fn_min (S : Store) (i j : Int) : fnB S .min [.p (.int i), .p (.int j)] = some (.int (if j < i then j else i)) := rfl
@[simp] theorem fn_int (S : Store) (i : Int) : fnB S .int [.p (.int i)] = some (.int i) := rfl
@[simp] theorem fn_intb (S : Store) (b : Bool) : fnB S .int [.p (.bool b)] = some (.int (if b then 1 else 0)) := rfl
@[simp] theorem fn_gcd (S : Store) (i j : Int) : fnB S .gcd [.p (.int i), .p (.int j)] = some (.int ((Nat.gcd i.natAbs j.natAbs : Nat) : Int)) := rfl
@[simp] theorem tup_l (S : Store) (xs : List PyData) : fnB S .tuple [.p (.list xs)] = some (.tuple xs) := rfl
@[simp] theorem tup_t (S : Store) (xs : List PyData) : fnB S .tuple [.p (.tuple xs)] = some (.tuple xs) := rfl
@[simp] theorem lst_l (S : Store) (xs : List PyData) : fnB S .list [.p (.list xs)] = some (.list xs) := rfl
@[simp] theorem lst_t (S : Store) (xs : List PyData) : fnB S .list [.p (.tuple xs)] = some (.list xs) := rfl
@[simp] theorem opB_add (S : Store) (a b : D) : opB S .add a b = (pureM S a).bind fun x => (pureM S b).bind fun y => addP x y := by cases a <;> cases b <;> rfl
@[simp] theorem opB_mul (S : Store) (a b : D) : opB S .mul a b = (pureM S a).bind fun x => (pureM S b).bind fun y => mulP x y := by cases a <;> cases b <;> rfl
@[simp] theorem opB_sub (S : Store) (i j : Int) : opB S .sub (.p (.int i)) (.p (.int j)) = some (.int (i - j)) := rfl
@[simp] theorem opB_fdiv (S : Store) (i j : Int) : opB S .fdiv (.p (.int i)) (.p (.int j)) = if j ≠ 0 ∧ j.natAbs.log2 < 9000 then some (.int (i.fdiv j)) else none := rfl
@[simp] theorem opB_mod (S : Store) (i j : Int) : opB S .mod (.p (.int i)) (.p (.int j)) = if j ≠ 0 then some (.int (i.fmod j)) else none := rfl
theorem opB_pow (S : Store) (i j : Int) : opB S .pow (.p (.int i)) (.p (.int j)) = if 0 ≤ j ∧ j ≤ 1000000 ∧ i.natAbs < 2 ^ 64 then some (.int (i ^ j.toNat)) else none := rfl
theorem opB_shl (S : Store) (i j : Int) : opB S .shl (.p (.int i)) (.p (.int j)) = if 0 ≤ j ∧ j ≤ 1000000 ∧ i.natAbs < 2 ^ 64 then some (.int (i * 2 ^ j.toNat)) else none := rfl
theorem shl_one {j : Int} (h0 : 0 ≤ j) (h1 : j ≤ 10000) (S : Store) : opB S .shl (.p (.int 1)) (.p (.int j)) = some (.int ((2 ^ j.toNat : Nat) : Int)) := by
  rw [opB_shl, if_pos ⟨h0, by omega, by decide⟩]
  simp
theorem bools_of : ∀ bs : List Bool, bools (bs.map PyData.bool) = some bs
  | [] => rfl
  | b :: r => by simp [bools, bools_of r]
@[simp] theorem all_l (S : Store) (bs : List Bool) : fnB S .all [.p (.list (bs.map PyData.bool))] = some (.bool (bs.all id)) := by simp [fnB, bools_of]
@[simp] theorem any_l (S : Store) (bs : List Bool) : fnB S .any [.p (.list (bs.map PyData.bool))] = some (.bool (bs.any id)) := by simp [fnB, bools_of]
/-! ### calls -/
theorem renum_nil : ∀ {ds : List D} (k : Nat), locsOf ds = [] → renum ds k = ds
  | [], _, _ => rfl
  | .p x :: r, k, h => by simp only [renum]; rw [renum_nil (ds := r) k h]
  | .ro x :: r, k, h => by simp only [renum]; rw [renum_nil (ds := r) k h]
  | .loc n :: r, k, h => by simp [locsOf] at h
theorem locs_p : ∀ xs : List PyData, locsOf (xs.map D.p) = []
  | [] => rfl
  | _ :: r => locs_p r
/-- a def that is handed no list that changes, and hands back plain data -/
theorem call_p {G : List Fn} {n i : Nat} {fi : Fn} {ds : List D} {S T : Store} {y : PyData} (h : G[i]? = some fi) (he : evS (callN G n) fi.body (startL fi.slots ds) [] = .rt (.p y) T) (hl : ds.length = fi.np := by rfl) (hd : locsOf ds = [] := by rfl) : callN G (n + 1) i ds S = .ok (.p y) S := by
  unfold callN
  rw [h]
  simp only [hl, hd, true_and, List.nodup_nil, if_true, subS, renum_nil 0 hd, he, land, landOk, backS]
theorem call_ro {G : List Fn} {n i : Nat} {fi : Fn} {ds : List D} {S T : Store} {y : List PyData} (h : G[i]? = some fi) (he : evS (callN G n) fi.body (startL fi.slots ds) [] = .rt (.ro y) T) (hl : ds.length = fi.np := by rfl) (hd : locsOf ds = [] := by rfl) : callN G (n + 1) i ds S = .ok (.ro y) S := by
  unfold callN
  rw [h]
  simp only [hl, hd, true_and, List.nodup_nil, if_true, subS, renum_nil 0 hd, he, land, landOk, backS]
theorem call_nx {G : List Fn} {n i : Nat} {fi : Fn} {ds : List D} {S T : Store} {Γ : Loc} (h : G[i]? = some fi) (he : evS (callN G n) fi.body (startL fi.slots ds) [] = .nx Γ T) (hl : ds.length = fi.np := by rfl) (hd : locsOf ds = [] := by rfl) : callN G (n + 1) i ds S = .ok (.p .none) S := by
  unfold callN
  rw [h]
  simp only [hl, hd, true_and, List.nodup_nil, if_true, subS, renum_nil 0 hd, he, land, landOk, backS]
/-- .. that hands back a list of its own, as plain data -/
theorem call_l {G : List Fn} {n i : Nat} {fi : Fn} {ds : List D} {S T : Store} {j : Nat} {ys : List PyData} (h : G[i]? = some fi) (he : evS (callN G n) fi.body (startL fi.slots ds) [] = .rt (.loc j) T) (hj : T[j]? = some (.lst (ys.map D.p))) (hr : fi.retM = false := by rfl) (hl : ds.length = fi.np := by rfl) (hd : locsOf ds = [] := by rfl) : callN G (n + 1) i ds S = .ok (.p (.list ys)) S := by
  unfold callN
  rw [h]
  simp [hl, hd, subS, renum_nil 0 hd, - startL, he, land, landOk, backS, hj, allP_of, hr]
/-- .. as a list that may change -/
theorem call_lm {G : List Fn} {n i : Nat} {fi : Fn} {ds : List D} {S T : Store} {j : Nat} {ys : List PyData} (h : G[i]? = some fi) (he : evS (callN G n) fi.body (startL fi.slots ds) [] = .rt (.loc j) T) (hj : T[j]? = some (.lst (ys.map D.p))) (hr : fi.retM = true := by rfl) (hl : ds.length = fi.np := by rfl) (hd : locsOf ds = [] := by rfl) : callN G (n + 1) i ds S = .ok (.loc S.length) (S ++ [.lst (ys.map D.p)]) := by
  unfold callN
  rw [h]
  simp [hl, hd, subS, renum_nil 0 hd, - startL, he, land, landOk, backS, hj, allP_of, hr]
theorem cellP_of (xs : List PyData) : cellP (.lst (xs.map D.p)) = true := by simp [cellP, allP_of]
/-- a def that is handed one list that changes -/
theorem call_1 {G : List Fn} {n i m : Nat} {fi : Fn} {ds : List D} {S T : Store} {xs ys : List PyData} {y : PyData} (h : G[i]? = some fi) (hm : S[m]? = some (.lst (xs.map D.p))) (he : evS (callN G n) fi.body (startL fi.slots (renum ds 0)) [.lst (xs.map D.p)] = .rt (.p y) (.lst (ys.map D.p) :: T)) (hl : ds.length = fi.np := by rfl) (hd : locsOf ds = [m] := by rfl) :
    callN G (n + 1) i ds S = .ok (.p y) (S.set m (.lst (ys.map D.p))) := by
  unfold callN
  rw [h]
  have n1 : (locsOf ds).Nodup := by rw [hd]; simp
  simp [hl, hd, n1, subS, hm, cellP_of, - startL, he, land, landOk, backS]

/-! ### loops -/
theorem lcGo_pure {step : D → Store → Res (Option D)} {r : Src} {m : Nat} {S : Store} (f : Nat → Option PyData) (hlen : srcLen S r = some m) (hs : ∀ i, i < m → ∃ d, srcAt S r i = some d ∧ step d S = .ok ((f i).map D.p) S) : ∀ (k i : Nat) (acc : List PyData), i + k = m → lcGo step r k i (acc.map D.p) S = .ok ((acc ++ (List.range' i k).filterMap f).map D.p) S
  | 0, i, acc, h => by
    unfold lcGo
    rw [if_pos (by rw [hlen]; congr 1; omega)]
    simp
  | k + 1, i, acc, h => by
    obtain ⟨d, h1, h2⟩ := hs i (by omega)
    unfold lcGo
    rw [h1]
    simp only
    rw [h2]
    cases hf : f i with
    | none =>
      simp only [Option.map_none]
      rw [lcGo_pure f hlen hs k (i + 1) acc (by omega), List.range'_succ, List.filterMap_cons, hf]
    | some y =>
      simp only [Option.map_some]
      have := lcGo_pure f hlen hs k (i + 1) (acc ++ [y]) (by omega)
      rw [List.map_append] at this
      simp only [List.map_cons, List.map_nil] at this
      rw [this, List.range'_succ, List.filterMap_cons, hf]
      simp
theorem filterMap_range (xs : List PyData) (g : PyData → Option PyData) : ((List.range' 0 xs.length).filterMap fun i => (xs[i]?).bind g) = xs.filterMap g := by
  have key : ∀ (xs ys : List PyData), ((List.range' ys.length xs.length).filterMap fun i => ((ys ++ xs)[i]?).bind g) = xs.filterMap g := by
    intro xs
    induction xs with
    | nil => intro ys; rfl
    | cons x xs ih =>
      intro ys
      rw [List.length_cons, List.range'_succ, List.filterMap_cons]
      have e : (ys ++ x :: xs)[ys.length]? = some x := by simp
      rw [e]
      have h := ih (ys ++ [x])
      rw [List.append_assoc, List.length_append, List.length_singleton] at h
      simp only [List.singleton_append] at h
      rw [h, List.filterMap_cons]
      rfl
  exact key xs []
/-- a comprehension over plain items -/
theorem lcGo_list {step : D → Store → Res (Option D)} {xs : List PyData} {S : Store} (g : PyData → Option PyData) (hs : ∀ x ∈ xs, step (.p x) S = .ok ((g x).map D.p) S) : lcGo step (.lst xs) xs.length 0 [] S = .ok ((xs.filterMap g).map D.p) S := by
  have h := lcGo_pure (step := step) (r := .lst xs) (m := xs.length) (S := S) (fun i => (xs[i]?).bind g) rfl (fun i hi => by
    refine ⟨.p xs[i], by simp [srcAt, hi], ?_⟩
    rw [hs _ (List.getElem_mem hi), List.getElem?_eq_getElem hi]
    rfl) xs.length 0 [] (by omega)
  rw [List.nil_append, filterMap_range] at h
  exact h
/-- .. over a run of whole numbers -/
theorem lcGo_rng {step : D → Store → Res (Option D)} {lo : Int} {k : Nat} {S : Store} (g : Int → Option PyData) (hs : ∀ j : Nat, j < k → step (.p (.int (lo + j))) S = .ok ((g (lo + j)).map D.p) S) : lcGo step (.rng lo k) k 0 [] S = .ok (((List.range k).filterMap fun (j : Nat) => g (lo + j)).map D.p) S := by
  have h := lcGo_pure (step := step) (r := .rng lo k) (m := k) (S := S) (fun i => g (lo + i)) rfl (fun i hi => ⟨_, by simp [srcAt, hi], hs i hi⟩) k 0 [] (by omega)
  rw [List.nil_append] at h
  rw [List.range_eq_range']
  exact h
/-- a loop, by what holds ahead of each turn -/
theorem forGo_inv {step : D → Loc → Store → ResS} {r : Src} {m : Nat} (I : Nat → Loc → Store → Prop) (hlen : ∀ i Γ S, I i Γ S → srcLen S r = some m)
    (hs : ∀ i Γ S, i < m → I i Γ S → ∃ d Γ' S', srcAt S r i = some d ∧ step d Γ S = .nx Γ' S' ∧ I (i + 1) Γ' S') : ∀ (k i : Nat) (Γ : Loc) (S : Store), i + k = m → I i Γ S → ∃ Γ' S', forGo step r k i Γ S = .nx Γ' S' ∧ I m Γ' S'
  | 0, i, Γ, S, h, q => by
    unfold forGo
    have e : i = m := by omega
    subst e
    rw [if_pos (hlen _ _ _ q)]
    exact ⟨Γ, S, rfl, q⟩
  | k + 1, i, Γ, S, h, q => by
    obtain ⟨d, Γ', S', h1, h2, h3⟩ := hs i Γ S (by omega) q
    unfold forGo
    rw [h1]
    simp only
    rw [h2]
    exact forGo_inv I hlen hs k (i + 1) Γ' S' (by omega) h3
theorem for_list {step : D → Loc → Store → ResS} {xs : List PyData} {Γ : Loc} {S : Store} (I : Nat → Loc → Store → Prop) (h0 : I 0 Γ S) (hs : ∀ (i : Nat) (x : PyData) Γ S, xs[i]? = some x → I i Γ S → ∃ Γ' S', step (.p x) Γ S = .nx Γ' S' ∧ I (i + 1) Γ' S') :
    ∃ Γ' S', forGo step (.lst xs) xs.length 0 Γ S = .nx Γ' S' ∧ I xs.length Γ' S' :=
  forGo_inv (r := .lst xs) I (fun _ _ _ _ => rfl) (fun i Γ S hi q => by
    obtain ⟨Γ', S', h1, h2⟩ := hs i xs[i] Γ S (List.getElem?_eq_getElem hi) q
    exact ⟨_, Γ', S', by simp [srcAt, hi], h1, h2⟩) xs.length 0 Γ S (by omega) h0
theorem for_rng {step : D → Loc → Store → ResS} {lo : Int} {k : Nat} {Γ : Loc} {S : Store} (I : Nat → Loc → Store → Prop) (h0 : I 0 Γ S) (hs : ∀ (i : Nat) Γ S, i < k → I i Γ S → ∃ Γ' S', step (.p (.int (lo + i))) Γ S = .nx Γ' S' ∧ I (i + 1) Γ' S') :
    ∃ Γ' S', forGo step (.rng lo k) k 0 Γ S = .nx Γ' S' ∧ I k Γ' S' :=
  forGo_inv (r := .rng lo k) I (fun _ _ _ _ => rfl) (fun i Γ S hi q => by
    obtain ⟨Γ', S', h1, h2⟩ := hs i Γ S hi q
    exact ⟨_, Γ', S', by simp [srcAt, hi], h1, h2⟩) k 0 Γ S (by omega) h0

/-! ### fitting data -/
abbrev FitK (k : Nat) (x : PyData) : Prop := x.canLay0 = true ∧ x.depth ≤ k
theorem fits_of {k : Nat} {x : PyData} (h : FitK k x) (hk : k ≤ 64 := by decide) : fits x = true := by
  unfold fits
  rw [h.1, Bool.true_and]
  exact decide_eq_true (Nat.le_trans h.2 hk)
theorem fitK_int (k : Nat) (i : Int) : FitK k (.int i) := by simp [FitK, PyData.canLay0, PyData.depth]
theorem fitK_bool (k : Nat) (b : Bool) : FitK k (.bool b) := by simp [FitK, PyData.canLay0, PyData.depth]
theorem fitK_none (k : Nat) : FitK k .none := by simp [FitK, PyData.canLay0, PyData.depth]
end Core
set_option Elab.async false
set_option linter.all false
set_option maxHeartbeats 1000000
/-! Core, part S: evaluation by simp; fractions -/
namespace Core
open PySem PySem.W
section
variable {G : List Fn} {n i : Nat} {S : Store}
def B_is_whole : CS := (.seq (.ret (.and (.isi (.var 0) [.int]) (.not (.isi (.var 0) [.bool])))) .skip)
def wholeP : PyData → Bool
  | .int _ => true
  | _ => false
theorem is_whole_ok (h : G[i]? = some ⟨1, 1, B_is_whole, false⟩) (x : PyData) : callN G (n + 1) i [.p x] S = .ok (.p (.bool (wholeP x))) S := by
  refine call_p h (T := []) ?_
  cases x <;> simp [B_is_whole, wholeP]
def B_is_between (iW : Nat) : CS := (.seq (.ret (.and (.call iW (.cons (.var 0) .nil)) (.chain .le .le (.var 1) (.var 0) (.var 2)))) .skip)
theorem is_between_ok {iW : Nat} (h : G[i]? = some ⟨3, 3, B_is_between iW, false⟩) (hW : G[iW]? = some ⟨1, 1, B_is_whole, false⟩) (x lo hi : Int) : callN G (n + 2) i [.p (.int x), .p (.int lo), .p (.int hi)] S = .ok (.p (.bool (decide (lo ≤ x) && decide (x ≤ hi)))) S := by
  refine call_p h (T := []) ?_
  by_cases h1 : lo ≤ x
  · simp [B_is_between, is_whole_ok hW, wholeP, h1]
  · simp [B_is_between, is_whole_ok hW, wholeP, h1]
def B_is_tuple_of : CS := (.seq (.ret (.and (.isi (.var 0) [.tuple]) (.cmp .eq (.bf .len (.cons (.var 0) .nil)) (.var 1)))) .skip)
@[simp] theorem fits_int (i : Int) : fits (.int i) = true := fits_of (fitK_int 0 i)
@[simp] theorem fits_bool (b : Bool) : fits (.bool b) = true := fits_of (fitK_bool 0 b)
@[simp] theorem fits_none : fits .none = true := fits_of (fitK_none 0)
theorem fitK_tup {k : Nat} : ∀ {xs : List PyData}, (∀ x ∈ xs, FitK k x) → FitK (k + 1) (.tuple xs)
  | [], _ => by simp [FitK, PyData.canLay0, PyData.canLayAll0, PyData.depth, PyData.depthAll]
  | x :: xs, h => by
    have h1 := h x List.mem_cons_self
    have h2 := fitK_tup fun y hy => h y (List.mem_cons_of_mem _ hy)
    simp only [FitK, PyData.canLay0, PyData.canLayAll0, PyData.depth, PyData.depthAll, Bool.and_eq_true] at h1 h2 ⊢
    exact ⟨⟨h1.1, h2.1⟩, by omega⟩
theorem fitK_lst {k : Nat} : ∀ {xs : List PyData}, (∀ x ∈ xs, FitK k x) → FitK (k + 1) (.list xs)
  | [], _ => by simp [FitK, PyData.canLay0, PyData.canLayAll0, PyData.depth, PyData.depthAll]
  | x :: xs, h => by
    have h1 := h x List.mem_cons_self
    have h2 := fitK_lst fun y hy => h y (List.mem_cons_of_mem _ hy)
    simp only [FitK, PyData.canLay0, PyData.canLayAll0, PyData.depth, PyData.depthAll, Bool.and_eq_true] at h1 h2 ⊢
    exact ⟨⟨h1.1, h2.1⟩, by omega⟩
theorem FitK.mono {j k : Nat} {x : PyData} (h : FitK j x) (hk : j ≤ k) : FitK k x := ⟨h.1, Nat.le_trans h.2 hk⟩
@[simp] theorem eqP_int (i j : Int) : eqP (.int i) (.int j) = some (decide (i = j)) := by
  simp [eqP, PyData.eqv]
  rfl
theorem eqP_of {k : Nat} {x y : PyData} (hx : FitK k x) (hy : FitK k y) (hk : k ≤ 64 := by decide) : eqP x y = some (PyData.eqv x y) := by
  simp [eqP, fits_of hx hk, fits_of hy hk]
/-! ### sizes -/
def Sm (k : Nat) (i : Int) : Prop := i.natAbs < 2 ^ k
theorem Sm.log {k : Nat} {i : Int} (h : Sm k i) : i.natAbs.log2 ≤ k := by
  by_cases z : i.natAbs = 0
  · rw [z]; simp
  · exact Nat.le_of_lt ((Nat.log2_lt z).mpr h)
theorem Sm.mono {j k : Nat} {i : Int} (h : Sm j i) (hk : j ≤ k) : Sm k i := Nat.lt_of_lt_of_le h (Nat.pow_le_pow_right (by decide) hk)
theorem Sm.mul {j k : Nat} {a b : Int} (ha : Sm j a) (hb : Sm k b) : Sm (j + k) (a * b) := by
  unfold Sm at *
  rw [Int.natAbs_mul, Nat.pow_add]
  exact Nat.mul_lt_mul'' ha hb
theorem Sm.add {k : Nat} {a b : Int} (ha : Sm k a) (hb : Sm k b) : Sm (k + 1) (a + b) := by
  unfold Sm at *
  rw [Nat.pow_succ]
  omega
theorem Sm.neg {k : Nat} {a : Int} (ha : Sm k a) : Sm k (-a) := by
  unfold Sm at *
  omega
theorem mulP_ok {j k : Nat} {a b : Int} (ha : Sm j a) (hb : Sm k b) (h : j + k < 1000000 := by decide) : mulP (.int a) (.int b) = some (.int (a * b)) := by
  have := ha.log
  have := hb.log
  simp only [mulP]
  rw [if_pos (by omega)]
/-! ### fractions -/
def qD (q : Rat) : PyData := .tuple [.int q.num, .int q.den]
theorem frac_eq (a b : Int) (hb : b ≠ 0) : a.fdiv ((Nat.gcd a.natAbs b.natAbs : Nat) * (if 0 < b then 1 else -1)) = (Rat.divInt a b).num ∧ b.fdiv ((Nat.gcd a.natAbs b.natAbs : Nat) * (if 0 < b then 1 else -1)) = ((Rat.divInt a b).den : Int) := by
  have g1 : ((Nat.gcd a.natAbs b.natAbs : Nat) : Int) ∣ a := (Int.ofNat_dvd_left.mpr (Nat.gcd_dvd_left _ _))
  have g2 : ((Nat.gcd a.natAbs b.natAbs : Nat) : Int) ∣ b := (Int.ofNat_dvd_left.mpr (Nat.gcd_dvd_right _ _))
  have ge : b.gcd a = Nat.gcd a.natAbs b.natAbs := by rw [Int.gcd_comm]; rfl
  have gp : 0 < Nat.gcd a.natAbs b.natAbs := Nat.gcd_pos_of_pos_right _ (by omega)
  rw [Rat.num_divInt, Rat.den_divInt, if_neg hb, ge]
  by_cases h : 0 < b
  · rw [if_pos h, Int.mul_one, Int.fdiv_eq_ediv_of_dvd g1, Int.fdiv_eq_ediv_of_dvd g2, Int.sign_eq_one_of_pos h, Int.one_mul]
    refine ⟨rfl, ?_⟩
    rw [Int.natCast_ediv, Int.natAbs_of_nonneg (Int.le_of_lt h)]
  · rw [if_neg h]
    have hn : b < 0 := by omega
    have m1 : ((Nat.gcd a.natAbs b.natAbs : Nat) : Int) * -1 = -((Nat.gcd a.natAbs b.natAbs : Nat) : Int) := by omega
    rw [m1, Int.fdiv_eq_ediv_of_dvd (Int.neg_dvd.mpr g1), Int.fdiv_eq_ediv_of_dvd (Int.neg_dvd.mpr g2), Int.sign_eq_neg_one_of_neg hn, Int.ediv_neg, Int.ediv_neg]
    have e1 : -1 * a = -a := by omega
    rw [e1, Int.neg_ediv_of_dvd g1]
    refine ⟨rfl, ?_⟩
    have e2 : (b.natAbs : Int) = -b := by omega
    rw [Int.natCast_ediv, e2, Int.neg_ediv_of_dvd g2]
def B_fraction : CS := (.seq (.asg (.nm 2) (.bin .mul (.bf .gcd (.cons (.var 0) (.cons (.var 1) .nil))) (.ite (.cmp .gt (.var 1) (.con (.int 0))) (.con (.int 1)) (.neg (.con (.int 1))))))
  (.seq (.ret (.tup (.cons (.bin .fdiv (.var 0) (.var 2)) (.cons (.bin .fdiv (.var 1) (.var 2)) .nil))))
  .skip))
theorem two_line : (2 : Nat) ≤ sizeLine := by decide
theorem fraction_ok (h : G[i]? = some ⟨2, 3, B_fraction, false⟩) {a b : Int} (hb : b ≠ 0) (hs : Sm 8000 b) : callN G (n + 1) i [.p (.int a), .p (.int b)] S = .ok (.p (qD (Rat.divInt a b))) S := by
  refine call_p h (T := []) ?_
  have gs : Sm 8000 ((Nat.gcd a.natAbs b.natAbs : Nat) : Int) := by
    unfold Sm at *
    have := Nat.gcd_le_right a.natAbs (n := b.natAbs) (by omega)
    omega
  have gp : 0 < Nat.gcd a.natAbs b.natAbs := Nat.gcd_pos_of_pos_right _ (by omega)
  obtain ⟨e1, e2⟩ := frac_eq a b hb
  have lt2 : (Nat.gcd a.natAbs b.natAbs).log2 < 9000 := by
    have l := gs.log
    rw [Int.natAbs_natCast] at l
    omega
  have s1 : Sm 1 1 := by unfold Sm; decide
  have s2 : Sm 1 (-1) := by unfold Sm; decide
  by_cases hp : 0 < b
  · rw [if_pos hp] at e1 e2
    have m := mulP_ok gs s1
    have l := gs.log
    have lt : ((Nat.gcd a.natAbs b.natAbs : Nat) : Int).natAbs.log2 < 9000 := by omega
    have nz : ((Nat.gcd a.natAbs b.natAbs : Nat) : Int) ≠ 0 := by omega
    rw [Int.mul_one] at e1 e2 m
    simp [B_fraction, hp, m, hb, lt2, two_line, e1, e2, qD]
  · rw [if_neg hp] at e1 e2
    have m := mulP_ok gs s2
    have l := gs.log
    have m1 : ((Nat.gcd a.natAbs b.natAbs : Nat) : Int) * -1 = -((Nat.gcd a.natAbs b.natAbs : Nat) : Int) := by omega
    have lt : (-((Nat.gcd a.natAbs b.natAbs : Nat) : Int)).natAbs.log2 < 9000 := by rw [Int.natAbs_neg]; omega
    have nz : -((Nat.gcd a.natAbs b.natAbs : Nat) : Int) ≠ 0 := by omega
    rw [m1] at e1 e2 m
    simp [B_fraction, hp, m, hb, lt2, two_line, e1, e2, qD]
end
end Core
set_option Elab.async false
set_option linter.all false
set_option maxHeartbeats 1000000
/-! Core, part T: fractions of the laws -/
namespace Core
open PySem PySem.W
section
variable {G : List Fn} {n i : Nat} {S : Store}
def B_law_f : CS := (.seq (.par [3, 4] (.cons (.bf .abs (.cons (.var 0) .nil)) (.cons (.bf .abs (.cons (.var 1) .nil)) .nil)))
  (.seq (.whl (.cmp .gt (.var 4) (.con (.int 0))) (.seq (.par [3, 4] (.cons (.var 4) (.cons (.bin .mod (.bf .int (.cons (.var 3) .nil)) (.var 4)) .nil)))
  .skip))
  (.seq (.asg (.nm 2) (.ite (.cmp .gt (.var 1) (.con (.int 0))) (.var 3) (.bin .sub (.con (.int 0)) (.var 3))))
  (.seq (.ret (.tup (.cons (.bin .fdiv (.var 0) (.var 2)) (.cons (.bin .fdiv (.var 1) (.var 2)) .nil))))
  .skip))))
theorem euclid {F : Calls} {t l o : Option D} : ∀ (y x : Nat), whlR F (.cmp .gt (.var 4) (.con (.int 0))) (.seq (.par [3, 4] (.cons (.var 4) (.cons (.bin .mod (.bf .int (.cons (.var 3) .nil)) (.var 4)) .nil))) .skip) [t, l, o, some (.p (.int x)), some (.p (.int y))] S =
    .nx [t, l, o, some (.p (.int (Nat.gcd x y : Nat))), some (.p (.int 0))] S := by
  intro y
  induction y using Nat.strongRecOn with
  | ind y ih =>
    intro x
    by_cases hy : y = 0
    · subst hy
      rw [whlR_end (S' := S) (by simp)]
      simp
    · have h1 : (0 : Int) < (y : Int) := by omega
      have h2 : (y : Int) ≠ 0 := by omega
      rw [whlR_nx (Γ2 := [t, l, o, some (.p (.int y)), some (.p (.int ((x % y : Nat) : Int)))]) (S' := S) (S2 := S) (by simp; omega) (by simp [hy, Int.fmod_eq_emod_of_nonneg])]
      rw [ih (x % y) (Nat.mod_lt _ (by omega)) y, Nat.gcd_comm y, ← Nat.gcd_rec, Nat.gcd_comm y x]
theorem law_f_ok (h : G[i]? = some ⟨2, 5, B_law_f, false⟩) {a b : Int} (hb : b ≠ 0) (hs : Sm 8000 b) : callN G (n + 1) i [.p (.int a), .p (.int b)] S = .ok (.p (qD (Rat.divInt a b))) S := by
  refine call_p h (T := []) ?_
  have gs : Sm 8000 ((Nat.gcd a.natAbs b.natAbs : Nat) : Int) := by
    unfold Sm at *
    have := Nat.gcd_le_right a.natAbs (n := b.natAbs) (by omega)
    omega
  have gp : 0 < Nat.gcd a.natAbs b.natAbs := Nat.gcd_pos_of_pos_right _ (by omega)
  obtain ⟨e1, e2⟩ := frac_eq a b hb
  have lt2 : (Nat.gcd a.natAbs b.natAbs).log2 < 9000 := by
    have l := gs.log
    rw [Int.natAbs_natCast] at l
    omega
  have ab : ∀ z : Int, (if z < 0 then -z else z) = ((z.natAbs : Nat) : Int) := fun z => by
    split <;> omega
  have eu := fun F t l o => euclid (F := F) (t := t) (l := l) (o := o) (S := []) b.natAbs a.natAbs
  by_cases hp : 0 < b
  · rw [if_pos hp, Int.mul_one] at e1 e2
    simp [B_law_f, ab, eu, hp, hb, lt2, two_line, e1, e2, qD]
  · rw [if_neg hp] at e1 e2
    have m1 : ((Nat.gcd a.natAbs b.natAbs : Nat) : Int) * -1 = -((Nat.gcd a.natAbs b.natAbs : Nat) : Int) := by omega
    rw [m1] at e1 e2
    simp [B_law_f, ab, eu, hp, hb, lt2, two_line, e1, e2, qD]
end
end Core
set_option Elab.async false
set_option linter.all false
set_option maxHeartbeats 1000000
/-! Core, part U: loops and comprehensions by their sources -/
namespace Core
open PySem PySem.W
section
variable {F : Calls} {S : Store} {Γ : Loc}
theorem atI_nat {α : Type} (xs : List α) (k : Nat) (h : k < xs.length) : L2.atI xs (k : Int) = xs[k]? := by
  unfold L2.atI L2.ixN
  rw [if_pos (by omega), if_pos (by omega)]
  simp
@[simp] theorem atI_0 {α : Type} (a : α) (l : List α) : L2.atI (a :: l) 0 = some a := atI_nat (a :: l) 0 (by simp)
@[simp] theorem atI_1 {α : Type} (a b : α) (l : List α) : L2.atI (a :: b :: l) 1 = some b := atI_nat (a :: b :: l) 1 (by simp)
@[simp] theorem atI_2 {α : Type} (a b c : α) (l : List α) : L2.atI (a :: b :: c :: l) 2 = some c := atI_nat (a :: b :: c :: l) 2 (by simp)
theorem atI_last {α : Type} (xs : List α) (h : xs ≠ []) : L2.atI xs (-1) = some (xs.getLast h) := by
  have hl := List.length_pos_iff.mpr h
  unfold L2.atI L2.ixN
  rw [if_neg (by decide), if_pos (by omega)]
  have e : (-1 + (xs.length : Int)).toNat = xs.length - 1 := by omega
  rw [e, List.getLast_eq_getElem]
  simp
/-! comprehensions -/
theorem lcR_list {t : NT} {c e : CE} {own : List Nat} {xs : List PyData} {d : D} (g : PyData → Option PyData) (hd : srcOf .seq [d] = some (.lst xs)) (hs : ∀ x ∈ xs, stepG (fun Γ' S' => evE F c Γ' S') (fun Γ' S' => evE F e Γ' S') t (wipeL Γ own) (.p x) S = .ok ((g x).map D.p) S) : lcR F t .seq c e own Γ [d] S = .ok ((xs.filterMap g).map D.p) S := by
  unfold lcR
  rw [hd]
  exact lcGo_list g hs
theorem lcR_map {i : Nat} {e : CE} {own : List Nat} {xs : List PyData} {d : D} (f : PyData → PyData) (hd : srcOf .seq [d] = some (.lst xs)) (hs : ∀ x ∈ xs, evE F e ((wipeL Γ own).set i (some (.p x))) S = .ok (.p (f x)) S) : lcR F (.nm i) .seq (.con (.bool true)) e own Γ [d] S = .ok ((xs.map f).map D.p) S := by
  have := lcR_list (F := F) (S := S) (Γ := Γ) (t := .nm i) (c := .con (.bool true)) (e := e) (own := own) (fun x => some (f x)) hd (fun x hx => by
    simp [stepG, hs x hx])
  rw [this]
  congr 2
  induction xs with
  | nil => rfl
  | cons a l ih => simp
theorem lcR_filter {i : Nat} {c : CE} {own : List Nat} {xs : List PyData} {d : D} (p : PyData → Bool) (hd : srcOf .seq [d] = some (.lst xs)) (hi : i < Γ.length) (hs : ∀ x ∈ xs, evE F c ((wipeL Γ own).set i (some (.p x))) S = .ok (.p (.bool (p x))) S) : lcR F (.nm i) .seq c (.var i) own Γ [d] S = .ok ((xs.filter p).map D.p) S := by
  have wl : ∀ own : List Nat, (wipeL Γ own).length = Γ.length := fun own => by
    induction own with
    | nil => rfl
    | cons a l ih => simp [ih]
  have := lcR_list (F := F) (S := S) (Γ := Γ) (t := .nm i) (c := c) (e := .var i) (own := own) (fun x => if p x then some x else none) hd (fun x hx => by
    simp only [stepG, bindNT, hs x hx, Res.bind, truthD]
    cases p x with
    | true => simp [wl, hi]
    | false => simp)
  rw [this]
  congr 2
  clear this hs hd
  induction xs with
  | nil => rfl
  | cons a l ih =>
    simp only [List.filterMap_cons, List.filter_cons]
    cases p a <;> simp [ih]
theorem lcR_rng2 {i : Nat} {e : CE} {own : List Nat} {lo hi : Int} (f : Int → PyData) (h : srcOf .rng2 [.p (.int lo), .p (.int hi)] = some (.rng lo (hi - lo).toNat)) (hs : ∀ j : Nat, j < (hi - lo).toNat → evE F e ((wipeL Γ own).set i (some (.p (.int (lo + j))))) S = .ok (.p (f (lo + j))) S) :
    lcR F (.nm i) .rng2 (.con (.bool true)) e own Γ [.p (.int lo), .p (.int hi)] S = .ok (((List.range (hi - lo).toNat).map fun (j : Nat) => f (lo + j)).map D.p) S := by
  unfold lcR
  rw [h]
  have := lcGo_rng (step := stepG (fun Γ' S' => evE F (.con (.bool true)) Γ' S') (fun Γ' S' => evE F e Γ' S') (.nm i) (wipeL Γ own)) (lo := lo) (k := (hi - lo).toNat) (S := S) (fun z => some (f z)) (fun j hj => by simp [stepG, hs j hj])
  simp only [srcLen]
  rw [this]
  simp
theorem lcR_rng1 {i : Nat} {e : CE} {own : List Nat} {hi : Int} (f : Int → PyData) (h : srcOf .rng1 [.p (.int hi)] = some (.rng 0 hi.toNat)) (hs : ∀ j : Nat, j < hi.toNat → evE F e ((wipeL Γ own).set i (some (.p (.int j)))) S = .ok (.p (f j)) S) :
    lcR F (.nm i) .rng1 (.con (.bool true)) e own Γ [.p (.int hi)] S = .ok (((List.range hi.toNat).map fun (j : Nat) => f j).map D.p) S := by
  unfold lcR
  rw [h]
  have := lcGo_rng (step := stepG (fun Γ' S' => evE F (.con (.bool true)) Γ' S') (fun Γ' S' => evE F e Γ' S') (.nm i) (wipeL Γ own)) (lo := 0) (k := hi.toNat) (S := S) (fun z => some (f z)) (fun j hj => by simp [stepG, hs j hj])
  simp only [srcLen]
  rw [this]
  simp
/-! loops -/
theorem forR_list {t : NT} {b : CS} {xs : List PyData} {d : D} (I : Nat → Loc → Store → Prop) (hd : srcOf .seq [d] = some (.lst xs)) (h0 : I 0 Γ S) (hs : ∀ (i : Nat) (x : PyData) Γ S, xs[i]? = some x → I i Γ S → ∃ Γ2 Γ' S', bindNT t (.p x) Γ = some Γ2 ∧ evS F b Γ2 S = .nx Γ' S' ∧ I (i + 1) Γ' S') :
    ∃ Γ' S', forR F t .seq b Γ [d] S = .nx Γ' S' ∧ I xs.length Γ' S' := by
  unfold forR
  rw [hd]
  exact for_list I h0 fun i x Γ S hx q => by
    obtain ⟨Γ2, Γ', S', h1, h2, h3⟩ := hs i x Γ S hx q
    exact ⟨Γ', S', by simp only [forStep, h1, h2], h3⟩
theorem forR_rng {t : NT} {k : IK} {b : CS} {ds : List D} {lo : Int} {m : Nat} (I : Nat → Loc → Store → Prop) (hd : srcOf k ds = some (.rng lo m)) (h0 : I 0 Γ S) (hs : ∀ (i : Nat) Γ S, i < m → I i Γ S → ∃ Γ2 Γ' S', bindNT t (.p (.int (lo + i))) Γ = some Γ2 ∧ evS F b Γ2 S = .nx Γ' S' ∧ I (i + 1) Γ' S') :
    ∃ Γ' S', forR F t k b Γ ds S = .nx Γ' S' ∧ I m Γ' S' := by
  unfold forR
  rw [hd]
  exact for_rng I h0 fun i Γ S hi q => by
    obtain ⟨Γ2, Γ', S', h1, h2, h3⟩ := hs i Γ S hi q
    exact ⟨Γ', S', by simp only [forStep, h1, h2], h3⟩
/-- over a list that changes elsewhere only -/
theorem forR_loc {t : NT} {b : CS} {m : Nat} {xs : List PyData} (I : Nat → Loc → Store → Prop) (hm : ∀ i Γ S, I i Γ S → S[m]? = some (.lst (xs.map D.p))) (h0 : I 0 Γ S) (hs : ∀ (i : Nat) (x : PyData) Γ S, xs[i]? = some x → I i Γ S → ∃ Γ2 Γ' S', bindNT t (.p x) Γ = some Γ2 ∧ evS F b Γ2 S = .nx Γ' S' ∧ I (i + 1) Γ' S') :
    ∃ Γ' S', forR F t .seq b Γ [.loc m] S = .nx Γ' S' ∧ I xs.length Γ' S' := by
  unfold forR
  have hl : ∀ i Γ S, I i Γ S → srcLen S (.loc m) = some xs.length := fun i Γ S q => by simp [hm i Γ S q]
  simp only [srcOf, srcSeq]
  rw [hl 0 Γ S h0]
  refine forGo_inv (r := .loc m) I hl (fun i Γ S hi q => ?_) xs.length 0 Γ S (by omega) h0
  obtain ⟨Γ2, Γ', S', h1, h2, h3⟩ := hs i xs[i] Γ S (List.getElem?_eq_getElem hi) q
  exact ⟨_, Γ', S', by simp [srcAt, hm i Γ S q, hi]; rfl, by simp only [forStep, h1, h2], h3⟩
end
end Core
set_option Elab.async false
set_option linter.all false
set_option maxHeartbeats 1000000
/-! Core, part V: defs on fractions -/
namespace Core
open PySem PySem.W
section
variable {G : List Fn} {n i : Nat} {S : Store}
def SmQ (k : Nat) (q : Rat) : Prop := Sm k q.num ∧ Sm k (q.den : Int)
theorem SmQ.mono {j k : Nat} {q : Rat} (h : SmQ j q) (hk : j ≤ k) : SmQ k q := ⟨h.1.mono hk, h.2.mono hk⟩
theorem den_ne (q : Rat) : (q.den : Int) ≠ 0 := by
  have := q.den_nz
  omega
theorem den_pos (q : Rat) : (0 : Int) < (q.den : Int) := by
  have := q.den_nz
  omega
@[simp high] theorem elems_qD (S : Store) (q : Rat) : elems S (.p (qD q)) = some [.p (.int q.num), .p (.int q.den)] := rfl
@[simp high] theorem idx_num (S : Store) (q : Rat) : idxD S (.p (qD q)) (.p (.int 0)) = some (.p (.int q.num)) := by
  unfold qD
  simp
@[simp high] theorem idx_den (S : Store) (q : Rat) : idxD S (.p (qD q)) (.p (.int 1)) = some (.p (.int q.den)) := by
  unfold qD
  simp
theorem qD_int (z : Int) : qD (z : Rat) = .tuple [.int z, .int 1] := rfl
theorem qD_inj {p q : Rat} (h : qD p = qD q) : p = q := by
  unfold qD at h
  injection h with h
  injection h with h1 h2
  injection h1 with h1
  injection h2 with h2
  injection h2 with h2
  exact Rat.ext h1 (by omega)
def B_whole : CS := (.seq (.ret (.tup (.cons (.var 0) (.cons (.con (.int 1)) .nil)))) .skip)
theorem whole_ok (h : G[i]? = some ⟨1, 1, B_whole, false⟩) (z : Int) : callN G (n + 1) i [.p (.int z)] S = .ok (.p (qD (z : Rat))) S :=
  call_p h (T := []) (by simp [B_whole, two_line, qD_int])
def B_times (f : Nat) : CS := (.seq (.ret (.call f (.cons (.bin .mul (.idx (.var 0) (.con (.int 0))) (.idx (.var 1) (.con (.int 0)))) (.cons (.bin .mul (.idx (.var 0) (.con (.int 1))) (.idx (.var 1) (.con (.int 1)))) .nil)))) .skip)
/-- what makes a fraction of two whole numbers -/
def FracFn (G : List Fn) (f : Nat) : Prop := ∀ (n : Nat) (S : Store) (a b : Int), b ≠ 0 → Sm 8000 b → callN G (n + 1) f [.p (.int a), .p (.int b)] S = .ok (.p (qD (Rat.divInt a b))) S
theorem frac1 {f : Nat} (h : G[f]? = some ⟨2, 3, B_fraction, false⟩) : FracFn G f := fun _ _ _ _ hb hs => fraction_ok h hb hs
theorem frac2 {f : Nat} (h : G[f]? = some ⟨2, 5, B_law_f, false⟩) : FracFn G f := fun _ _ _ _ hb hs => law_f_ok h hb hs
theorem mul_divInt (p q : Rat) : Rat.divInt (p.num * q.num) ((p.den : Int) * q.den) = p * q := by
  rw [Rat.mul_def', ← Rat.divInt_ofNat]
  simp
theorem den_mul_ne (p q : Rat) : (p.den : Int) * q.den ≠ 0 := Int.mul_ne_zero (den_ne p) (den_ne q)
theorem times_ok {f : Nat} (h : G[i]? = some ⟨2, 2, B_times f, false⟩) (hf : FracFn G f) {p q : Rat} (hp : SmQ 3000 p) (hq : SmQ 3000 q) : callN G (n + 2) i [.p (qD p), .p (qD q)] S = .ok (.p (qD (p * q))) S := by
  refine call_p h (T := []) ?_
  simp [B_times, mulP_ok hp.1 hq.1, mulP_ok hp.2 hq.2, hf n [] _ _ (den_mul_ne p q) ((hp.2.mul hq.2).mono (by decide)), mul_divInt]
def B_less (f : Nat) : CS := (.seq (.ret (.call f (.cons (.bin .sub (.bin .mul (.idx (.var 0) (.con (.int 0))) (.idx (.var 1) (.con (.int 1)))) (.bin .mul (.idx (.var 1) (.con (.int 0))) (.idx (.var 0) (.con (.int 1))))) (.cons (.bin .mul (.idx (.var 0) (.con (.int 1))) (.idx (.var 1) (.con (.int 1)))) .nil)))) .skip)
theorem less_ok {f : Nat} (h : G[i]? = some ⟨2, 2, B_less f, false⟩) (hf : FracFn G f) {p q : Rat} (hp : SmQ 3000 p) (hq : SmQ 3000 q) : callN G (n + 2) i [.p (qD p), .p (qD q)] S = .ok (.p (qD (p - q))) S := by
  refine call_p h (T := []) ?_
  have e : Rat.divInt (p.num * q.den - q.num * p.den) ((p.den : Int) * q.den) = p - q := by
    rw [Rat.sub_def', ← Rat.divInt_ofNat]
    simp
  simp [B_less, mulP_ok hp.1 hq.2, mulP_ok hq.1 hp.2, mulP_ok hp.2 hq.2, hf n [] _ _ (den_mul_ne p q) ((hp.2.mul hq.2).mono (by decide)), e]
def B_plus (f : Nat) : CS := (.seq (.ret (.call f (.cons (.bin .add (.bin .mul (.idx (.var 0) (.con (.int 0))) (.idx (.var 1) (.con (.int 1)))) (.bin .mul (.idx (.var 1) (.con (.int 0))) (.idx (.var 0) (.con (.int 1))))) (.cons (.bin .mul (.idx (.var 0) (.con (.int 1))) (.idx (.var 1) (.con (.int 1)))) .nil)))) .skip)
theorem plus_ok {f : Nat} (h : G[i]? = some ⟨2, 2, B_plus f, false⟩) (hf : FracFn G f) {p q : Rat} (hp : SmQ 3000 p) (hq : SmQ 3000 q) : callN G (n + 2) i [.p (qD p), .p (qD q)] S = .ok (.p (qD (p + q))) S := by
  refine call_p h (T := []) ?_
  have e : Rat.divInt (p.num * q.den + q.num * p.den) ((p.den : Int) * q.den) = p + q := by
    rw [Rat.add_def', ← Rat.divInt_ofNat]
    simp
  simp [B_plus, mulP_ok hp.1 hq.2, mulP_ok hq.1 hp.2, mulP_ok hp.2 hq.2, hf n [] _ _ (den_mul_ne p q) ((hp.2.mul hq.2).mono (by decide)), e]
def B_is_less : CS := (.seq (.ret (.cmp .lt (.bin .mul (.idx (.var 0) (.con (.int 0))) (.idx (.var 1) (.con (.int 1)))) (.bin .mul (.idx (.var 1) (.con (.int 0))) (.idx (.var 0) (.con (.int 1)))))) .skip)
theorem is_less_ok (h : G[i]? = some ⟨2, 2, B_is_less, false⟩) {p q : Rat} (hp : SmQ 3000 p) (hq : SmQ 3000 q) : callN G (n + 1) i [.p (qD p), .p (qD q)] S = .ok (.p (.bool (decide (p < q)))) S := by
  refine call_p h (T := []) ?_
  simp [B_is_less, mulP_ok hp.1 hq.2, mulP_ok hq.1 hp.2, Rat.lt_iff]
def B_size_of : CS := (.seq (.ret (.tup (.cons (.bf .abs (.cons (.idx (.var 0) (.con (.int 0))) .nil)) (.cons (.idx (.var 0) (.con (.int 1))) .nil)))) .skip)
theorem qD_abs (q : Rat) : PyData.tuple [.int (if q.num < 0 then -q.num else q.num), .int q.den] = qD q.abs := by
  unfold qD Rat.abs
  by_cases h : 0 ≤ q
  · have := Rat.num_nonneg.mpr h
    rw [if_pos h, if_neg (by omega)]
  · have : ¬ 0 ≤ q.num := fun z => h (Rat.num_nonneg.mp z)
    rw [if_neg h, if_pos (by omega)]
    rfl
theorem size_of_ok (h : G[i]? = some ⟨1, 1, B_size_of, false⟩) (q : Rat) : callN G (n + 1) i [.p (qD q)] S = .ok (.p (qD q.abs)) S :=
  call_p h (T := []) (by simp [B_size_of, two_line, qD_abs])
/-! ### powers of two -/
def P2 (p : Int) : Rat := (2 : Rat) ^ p
theorem P2_nat (n : Nat) : P2 (n : Int) = (((2 ^ n : Nat) : Int) : Rat) := by
  unfold P2
  rw [Rat.zpow_natCast]
  simp
theorem P2_neg (n : Nat) : P2 (-(n : Int)) = (((2 ^ n : Nat) : Int) : Rat)⁻¹ := by
  have := P2_nat n
  unfold P2 at *
  rw [Rat.zpow_neg, this]
theorem qD_P2 (p : Int) : qD (P2 p) = if 0 ≤ p then .tuple [.int ((2 ^ p.toNat : Nat) : Int), .int 1] else .tuple [.int 1, .int ((2 ^ (-p).toNat : Nat) : Int)] := by
  by_cases h : 0 ≤ p
  · obtain ⟨k, rfl⟩ := Int.eq_ofNat_of_zero_le h
    rw [if_pos h, P2_nat, qD_int]
    simp
  · obtain ⟨k, hk⟩ := Int.eq_ofNat_of_zero_le (show 0 ≤ -p by omega)
    obtain rfl : p = -(k : Int) := by omega
    rw [if_neg h, P2_neg]
    have pos : 0 < (2 : Nat) ^ k := Nat.pow_pos (by decide)
    unfold qD
    rw [Rat.num_inv, Rat.den_inv]
    have e1 : ((((2 ^ k : Nat) : Int) : Rat)).num = ((2 ^ k : Nat) : Int) := rfl
    have e2 : ((((2 ^ k : Nat) : Int) : Rat)).den = 1 := rfl
    rw [e1, e2, if_neg (by omega), Int.sign_eq_one_of_pos (by omega)]
    simp
def B_power_of_two : CS := (.seq (.ret (.ite (.cmp .ge (.var 0) (.con (.int 0))) (.tup (.cons (.bin .shl (.con (.int 1)) (.var 0)) (.cons (.con (.int 1)) .nil))) (.tup (.cons (.con (.int 1)) (.cons (.bin .shl (.con (.int 1)) (.neg (.var 0))) .nil))))) .skip)
theorem power_of_two_ok (h : G[i]? = some ⟨1, 1, B_power_of_two, false⟩) {p : Int} (h1 : -10000 ≤ p) (h2 : p ≤ 10000) : callN G (n + 1) i [.p (.int p)] S = .ok (.p (qD (P2 p))) S := by
  refine call_p h (T := []) ?_
  rw [qD_P2]
  by_cases hp : 0 ≤ p
  · simp [B_power_of_two, two_line, hp, shl_one hp h2]
  · simp [B_power_of_two, two_line, hp, shl_one (j := -p) (by omega) (by omega)]
end
end Core
set_option Elab.async false
set_option linter.all false
set_option maxHeartbeats 1000000
set_option maxRecDepth 100000
/-! Core, part W: the numbers of a format -/
namespace Core
open PySem PySem.W
section
variable {G : List Fn} {n i w t p f : Nat} {S : Store}
theorem Sm.one (k : Nat) : Sm (k + 1) 1 := by
  unfold Sm
  exact Nat.one_lt_two_pow (by omega)
theorem smQ_int {k : Nat} {z : Int} (h : Sm (k + 1) z) : SmQ (k + 1) (z : Rat) := ⟨h, Sm.one k⟩
theorem smQ_P2 {k : Nat} {p : Int} (h : p.natAbs < k) : SmQ k (P2 p) := by
  have h2 : ∀ m : Nat, m < k → Sm k ((2 ^ m : Nat) : Int) := fun m hm => by
    unfold Sm
    rw [Int.natAbs_natCast]
    exact Nat.pow_lt_pow_right (by decide) hm
  have h1 : Sm k 1 := by
    unfold Sm
    exact Nat.one_lt_two_pow (by omega)
  have q := qD_P2 p
  unfold qD at q
  by_cases hp : 0 ≤ p
  · rw [if_pos hp] at q
    injection q with q
    injection q with q1 q2
    injection q1 with q1
    injection q2 with q2
    injection q2 with q2
    unfold SmQ
    rw [q1, q2]
    exact ⟨h2 _ (by omega), h1⟩
  · rw [if_neg hp] at q
    injection q with q
    injection q with q1 q2
    injection q1 with q1
    injection q2 with q2
    injection q2 with q2
    unfold SmQ
    rw [q1, q2]
    exact ⟨h1, h2 _ (by omega)⟩
/-- the sizes over the least power: of b bits; then those of each greater power -/
def size0 (b : Nat) (low : Int) : List Rat := (List.range (2 ^ b - 1)).map fun (j : Nat) => (((1 + (j : Int)) : Int) : Rat) * P2 low
def size1 (b : Nat) (pw : Int) : List Rat := (List.range (2 ^ b - 2 ^ (b - 1))).map fun (j : Nat) => (((((2 ^ (b - 1) : Nat) : Int) + (j : Int)) : Int) : Rat) * P2 pw
def sizeK (b : Nat) (low : Int) : Nat → List Rat
  | 0 => size0 b low
  | k + 1 => sizeK b low k ++ size1 b (low + 1 + k)
theorem sizeK_len (b : Nat) (low : Int) : ∀ k, (sizeK b low k).length ≤ 2 ^ b * (k + 1)
  | 0 => by simp [sizeK, size0]
  | k + 1 => by
    have := sizeK_len b low k
    simp only [sizeK, size1, List.length_append, List.length_map, List.length_range]
    rw [Nat.mul_succ]
    generalize 2 ^ b * (k + 1) = m at *
    generalize 2 ^ b = m2 at *
    generalize 2 ^ (b - 1) = m3 at *
    omega
structure FmtIx (G : List Fn) (w t p : Nat) : Prop where
  whole : G[w]? = some ⟨1, 1, B_whole, false⟩
  times : ∃ f, G[t]? = some ⟨2, 2, B_times f, false⟩ ∧ FracFn G f
  pow : G[p]? = some ⟨1, 1, B_power_of_two, false⟩
theorem FmtIx.one (X : FmtIx G w t p) {z q : Int} (hz : Sm 3000 z) (hq : q.natAbs < 3000) : callN G (n + 1) w [.p (.int z)] S = .ok (.p (qD (z : Rat))) S ∧ callN G (n + 1) p [.p (.int q)] S = .ok (.p (qD (P2 q))) S ∧ callN G (n + 2) t [.p (qD (z : Rat)), .p (qD (P2 q))] S = .ok (.p (qD ((z : Rat) * P2 q))) S := by
  obtain ⟨f, h1, h2⟩ := X.times
  exact ⟨whole_ok X.whole z, power_of_two_ok X.pow (by omega) (by omega), times_ok h1 h2 (smQ_int (k := 2999) hz) (smQ_P2 hq)⟩
def B_sizes_by (w t p : Nat) : CS := (.seq (.asg (.nm 3) (.mlc (.nm 5) .rng2 (.cons (.con (.int 1)) (.cons (.bin .shl (.con (.int 1)) (.var 0)) .nil)) (.con (.bool true)) (.call t (.cons (.call w (.cons (.var 5) .nil)) (.cons (.call p (.cons (.var 1) .nil)) .nil))) [5]))
  (.seq (.for_ (.nm 4) .rng2 (.cons (.bin .add (.var 1) (.con (.int 1))) (.cons (.bin .add (.var 2) (.con (.int 1))) .nil)) (.seq (.extend (.var 3) (.lc (.nm 5) .rng2 (.cons (.bin .shl (.con (.int 1)) (.bin .sub (.var 0) (.con (.int 1)))) (.cons (.bin .shl (.con (.int 1)) (.var 0)) .nil)) (.con (.bool true)) (.call t (.cons (.call w (.cons (.var 5) .nil)) (.cons (.call p (.cons (.var 4) .nil)) .nil))) [5]))
  .skip))
  (.seq (.ret (.var 3))
  .skip)))
theorem sizes_fin (F : Calls) (b low hi P : Int) (sh : ∀ S, opB S .shl (.p (.int 1)) (.p (.int b)) = some (.int P)) (A B : List PyData) (o : Option D)
  (R : lcR F (.nm 5) .rng2 (.con (.bool true)) (.call t (.cons (.call w (.cons (.var 5) .nil)) (.cons (.call p (.cons (.var 1) .nil)) .nil))) [5] [some (.p (.int b)), some (.p (.int low)), some (.p (.int hi)), none, none, none] [.p (.int 1), .p (.int P)] [] = .ok (A.map D.p) [])
  (hfor : forR F (.nm 4) .rng2 (.seq (.extend (.var 3) (.lc (.nm 5) .rng2 (.cons (.bin .shl (.con (.int 1)) (.bin .sub (.var 0) (.con (.int 1)))) (.cons (.bin .shl (.con (.int 1)) (.var 0)) .nil)) (.con (.bool true)) (.call t (.cons (.call w (.cons (.var 5) .nil)) (.cons (.call p (.cons (.var 4) .nil)) .nil))) [5])) .skip) [some (.p (.int b)), some (.p (.int low)), some (.p (.int hi)), some (.loc 0), none, none] [.p (.int (low + 1)), .p (.int (hi + 1))] [.lst (A.map D.p)] = .nx [some (.p (.int b)), some (.p (.int low)), some (.p (.int hi)), some (.loc 0), o, none] [.lst (B.map D.p)]) :
  evS F (B_sizes_by w t p) (startL 6 [.p (.int b), .p (.int low), .p (.int hi)]) [] = .rt (.loc 0) [.lst (B.map D.p)] := by
  simp [-List.map_map, B_sizes_by, sh, R, hfor]
theorem sizes_step (F : Calls) (b low hi pw P1 P : Int) (sh1 : ∀ S, opB S .shl (.p (.int 1)) (.p (.int (b - 1))) = some (.int P1)) (sh : ∀ S, opB S .shl (.p (.int 1)) (.p (.int b)) = some (.int P)) (A B : List PyData)
  (R : lcR F (.nm 5) .rng2 (.con (.bool true)) (.call t (.cons (.call w (.cons (.var 5) .nil)) (.cons (.call p (.cons (.var 4) .nil)) .nil))) [5] [some (.p (.int b)), some (.p (.int low)), some (.p (.int hi)), some (.loc 0), some (.p (.int pw)), none] [.p (.int P1), .p (.int P)] [.lst (A.map D.p)] = .ok (B.map D.p) [.lst (A.map D.p)])
  (hz : A.length + B.length ≤ sizeLine) :
  evS F (.seq (.extend (.var 3) (.lc (.nm 5) .rng2 (.cons (.bin .shl (.con (.int 1)) (.bin .sub (.var 0) (.con (.int 1)))) (.cons (.bin .shl (.con (.int 1)) (.var 0)) .nil)) (.con (.bool true)) (.call t (.cons (.call w (.cons (.var 5) .nil)) (.cons (.call p (.cons (.var 4) .nil)) .nil))) [5])) .skip) [some (.p (.int b)), some (.p (.int low)), some (.p (.int hi)), some (.loc 0), some (.p (.int pw)), none] [.lst (A.map D.p)] = .nx [some (.p (.int b)), some (.p (.int low)), some (.p (.int hi)), some (.loc 0), some (.p (.int pw)), none] [.lst ((A ++ B).map D.p)] := by
  simp [sh1, sh, R, allP_of, hz]
theorem two_pow_le {b c : Nat} (h : b ≤ c) : (2 : Nat) ^ b ≤ 2 ^ c := Nat.pow_le_pow_right (by decide) h
theorem src_rng2 {lo hi : Int} (h1 : -1000000 ≤ lo ∧ lo ≤ 1000000) (h2 : -1000000 ≤ hi ∧ hi ≤ 1000000) : srcOf .rng2 [.p (.int lo), .p (.int hi)] = some (.rng lo (hi - lo).toNat) := by
  simp only [srcOf, srcR2]
  rw [if_pos (by omega)]
theorem sizes_by_ok (h : G[i]? = some ⟨3, 6, B_sizes_by w t p, false⟩) (X : FmtIx G w t p) {b : Nat} (hb : 1 ≤ b) (hb2 : b ≤ 8) {low : Int} {k : Nat} (hl : low.natAbs ≤ 900) (hk : k ≤ 100) :
    callN G (n + 4) i [.p (.int b), .p (.int low), .p (.int (low + k))] S = .ok (.p (.list ((sizeK b low k).map qD))) S := by
  have e1 : (2 : Nat) ^ b ≤ 256 := two_pow_le (c := 8) hb2
  have e0 : 2 ^ (b - 1) ≤ 2 ^ b := two_pow_le (by omega)
  obtain ⟨P, hP⟩ : ∃ P : Nat, P = 2 ^ b := ⟨_, rfl⟩
  obtain ⟨P1, hP1⟩ : ∃ P : Nat, P = 2 ^ (b - 1) := ⟨_, rfl⟩
  have bI : (2 : Int) ^ b = (P : Int) := by rw [hP]; simp
  have bI1 : (2 : Int) ^ (b - 1) = (P1 : Int) := by rw [hP1]; simp
  rw [← hP] at e1 e0
  rw [← hP1] at e0
  have sm : ∀ z : Int, 0 ≤ z → z ≤ 300 → Sm 3000 z := fun z h1 h2 => by
    refine Sm.mono (j := 10) ?_ (by decide)
    unfold Sm
    omega
  have tn : ((b : Int) - 1).toNat = b - 1 := by omega
  have sh0 : ∀ S : Store, opB S .shl (.p (.int 1)) (.p (.int (b : Int))) = some (.int (P : Int)) := fun S => by
    rw [shl_one (by omega) (by omega), Int.toNat_natCast, ← hP]
  have sh1 : ∀ S : Store, opB S .shl (.p (.int 1)) (.p (.int ((b : Int) - 1))) = some (.int (P1 : Int)) := fun S => by
    rw [shl_one (by omega) (by omega), tn, ← hP1]
  have R1 : ∀ {Γ : Loc} {S : Store} {F : Calls}, F = callN G (n + 3) → Γ = [some (.p (.int b)), some (.p (.int low)), some (.p (.int (low + k))), none, none, none] →
      lcR F (.nm 5) .rng2 (.con (.bool true)) (.call t (.cons (.call w (.cons (.var 5) .nil)) (.cons (.call p (.cons (.var 1) .nil)) .nil))) [5] Γ [.p (.int 1), .p (.int (P : Int))] S = .ok (((size0 b low).map qD).map D.p) S := by
    intro Γ S F hF hΓ
    subst hF hΓ
    have := lcR_rng2 (F := callN G (n + 3)) (S := S) (Γ := [some (.p (.int b)), some (.p (.int low)), some (.p (.int (low + k))), none, none, none]) (i := 5) (e := .call t (.cons (.call w (.cons (.var 5) .nil)) (.cons (.call p (.cons (.var 1) .nil)) .nil))) (own := [5]) (lo := 1) (hi := (P : Int)) (fun z => qD ((z : Rat) * P2 low)) (src_rng2 (by omega) (by omega)) (fun j hj => by
      obtain ⟨a1, a2, a3⟩ := X.one (n := n + 2) (S := S) (z := 1 + (j : Int)) (q := low) (sm _ (by omega) (by omega)) (by omega)
      obtain ⟨_, _, a4⟩ := X.one (n := n + 1) (S := S) (z := 1 + (j : Int)) (q := low) (sm _ (by omega) (by omega)) (by omega)
      simp only [wipeL, List.set_cons_succ, List.set_cons_zero, evE_call, evL_cons, evL_nil, evE_var, List.getElem?_cons_succ, List.getElem?_cons_zero, Res.bind, c_l1_ap, c_l2_ap, c_e_call1_ap, a1, a2, a4])
    rw [this]
    have e3 : ((P : Int) - 1).toNat = 2 ^ b - 1 := by omega
    rw [e3]
    simp only [size0, List.map_map]
    rfl
  have R2 : ∀ {Γ : Loc} {S : Store} {F : Calls} {pw : Int}, pw.natAbs < 2000 → F = callN G (n + 3) → Γ = [some (.p (.int b)), some (.p (.int low)), some (.p (.int (low + k))), some (.loc 0), some (.p (.int pw)), none] →
      lcR F (.nm 5) .rng2 (.con (.bool true)) (.call t (.cons (.call w (.cons (.var 5) .nil)) (.cons (.call p (.cons (.var 4) .nil)) .nil))) [5] Γ [.p (.int (P1 : Int)), .p (.int (P : Int))] S = .ok (((size1 b pw).map qD).map D.p) S := by
    intro Γ S F pw hpw hF hΓ
    subst hF hΓ
    have := lcR_rng2 (F := callN G (n + 3)) (S := S) (Γ := [some (.p (.int b)), some (.p (.int low)), some (.p (.int (low + k))), some (.loc 0), some (.p (.int pw)), none]) (i := 5) (e := .call t (.cons (.call w (.cons (.var 5) .nil)) (.cons (.call p (.cons (.var 4) .nil)) .nil))) (own := [5]) (lo := (P1 : Int)) (hi := (P : Int)) (fun z => qD ((z : Rat) * P2 pw)) (src_rng2 (by omega) (by omega)) (fun j hj => by
      obtain ⟨a1, a2, a3⟩ := X.one (n := n + 2) (S := S) (z := (P1 : Int) + (j : Int)) (q := pw) (sm _ (by omega) (by omega)) (by omega)
      obtain ⟨_, _, a4⟩ := X.one (n := n + 1) (S := S) (z := (P1 : Int) + (j : Int)) (q := pw) (sm _ (by omega) (by omega)) (by omega)
      simp only [wipeL, List.set_cons_succ, List.set_cons_zero, evE_call, evL_cons, evL_nil, evE_var, List.getElem?_cons_succ, List.getElem?_cons_zero, Res.bind, c_l1_ap, c_l2_ap, c_e_call1_ap, a1, a2, a4])
    rw [this]
    have e3 : ((P : Int) - (P1 : Int)).toNat = 2 ^ b - 2 ^ (b - 1) := by omega
    rw [e3]
    simp only [size1, List.map_map, ← hP1]
    rfl
  obtain ⟨Γ', S', hfor, hI⟩ := forR_rng (F := callN G (n + 3)) (t := .nm 4) (k := .rng2) (b := (.seq (.extend (.var 3) (.lc (.nm 5) .rng2 (.cons (.bin .shl (.con (.int 1)) (.bin .sub (.var 0) (.con (.int 1)))) (.cons (.bin .shl (.con (.int 1)) (.var 0)) .nil)) (.con (.bool true)) (.call t (.cons (.call w (.cons (.var 5) .nil)) (.cons (.call p (.cons (.var 4) .nil)) .nil))) [5])) .skip))
    (Γ := [some (.p (.int b)), some (.p (.int low)), some (.p (.int (low + k))), some (.loc 0), none, none]) (S := [.lst (((size0 b low).map qD).map D.p)]) (ds := [.p (.int (low + 1)), .p (.int (low + k + 1))]) (lo := low + 1) (m := (low + k + 1 - (low + 1)).toNat)
    (fun j Γ S => (∃ o, Γ = [some (.p (.int b)), some (.p (.int low)), some (.p (.int (low + k))), some (.loc 0), o, none]) ∧ S = [.lst (((sizeK b low j).map qD).map D.p)]) (src_rng2 (by omega) (by omega)) ⟨⟨none, rfl⟩, rfl⟩ (fun j Γ S hj q => by
      obtain ⟨⟨o, rfl⟩, rfl⟩ := q
      refine ⟨[some (.p (.int b)), some (.p (.int low)), some (.p (.int (low + k))), some (.loc 0), some (.p (.int (low + 1 + j))), none], [some (.p (.int b)), some (.p (.int low)), some (.p (.int (low + k))), some (.loc 0), some (.p (.int (low + 1 + j))), none], [.lst (((sizeK b low (j + 1)).map qD).map D.p)], by simp, ?_, ⟨_, rfl⟩, rfl⟩
      have hr := R2 (S := [.lst (((sizeK b low j).map qD).map D.p)]) (pw := low + 1 + j) (by omega) rfl rfl
      have hl1 := sizeK_len b low j
      have hl2 : 2 ^ b * (j + 1) ≤ 256 * 101 := Nat.mul_le_mul (by omega) (by omega)
      have hz : (sizeK b low j).length + (size1 b (low + 1 + j)).length ≤ sizeLine := by
        have : (size1 b (low + 1 + j)).length ≤ 256 := by simp only [size1, List.length_map, List.length_range]; omega
        have z : 26112 ≤ sizeLine := by rw [sizeLine_eq]; decide
        omega
      have st := sizes_step (callN G (n + 3)) b low (low + k) (low + 1 + j) P1 P sh1 sh0 _ _ hr (by rw [List.length_map, List.length_map]; exact hz)
      rw [← List.map_append] at st
      exact st
      )
  obtain ⟨⟨o, rfl⟩, rfl⟩ := hI
  have e5 : (low + k + 1 - (low + 1)).toNat = k := by omega
  rw [e5] at hfor
  refine call_l h (j := 0) (ys := (sizeK b low k).map qD) (T := [.lst (((sizeK b low k).map qD).map D.p)]) ?_ rfl
  exact sizes_fin (callN G (n + 3)) b low (low + k) P sh0 _ _ o (R1 rfl rfl) hfor
end
end Core
set_option Elab.async false
set_option linter.all false
set_option maxHeartbeats 1000000
/-! Core, part W2: the numbers of a format; the checks -/
namespace Core
open PySem PySem.W
section
variable {G : List Fn} {n i w t p f : Nat} {S : Store}
def B_numbers_by (s : Nat) : CS := (.seq (.asg (.nm 3) (.call s (.cons (.var 0) (.cons (.var 1) (.cons (.var 2) .nil)))))
  (.seq (.ret (.bf .tuple (.cons (.bin .add (.bin .add (.lc (.nm 4) .seq (.cons (.rev (.var 3)) .nil) (.con (.bool true)) (.tup (.cons (.neg (.idx (.var 4) (.con (.int 0)))) (.cons (.idx (.var 4) (.con (.int 1))) .nil))) [4]) (.lst (.cons (.tup (.cons (.con (.int 0)) (.cons (.con (.int 1)) .nil))) .nil))) (.var 3)) .nil)))
  .skip))
theorem one_line : (1 : Nat) ≤ sizeLine := by decide
theorem numbers_fin (F : Calls) (s : Nat) (b low hi : PyData) (A B : List PyData) (hc : F s [.p b, .p low, .p hi] [] = .ok (.p (.list A)) [])
    (R : lcR F (.nm 4) .seq (.con (.bool true)) (.tup (.cons (.neg (.idx (.var 4) (.con (.int 0)))) (.cons (.idx (.var 4) (.con (.int 1))) .nil))) [4] [some (.p b), some (.p low), some (.p hi), some (.p (.list A)), none] [.p (.list A.reverse)] [] = .ok (B.map D.p) [])
    (h1 : B.length + 1 ≤ sizeLine) (h2 : B.length + 1 + A.length ≤ sizeLine) : evS F (B_numbers_by s) (startL 5 [.p b, .p low, .p hi]) [] = .rt (.p (.tuple (B ++ [.tuple [.int 0, .int 1]] ++ A))) [] := by
  simp [-List.map_map, B_numbers_by, hc, R, h1, h2, one_line, two_line]
theorem qD_neg (q : Rat) : PyData.tuple [.int (-q.num), .int q.den] = qD (-q) := rfl
theorem neg_elt (F : Calls) (q : Rat) (Γ : Loc) (h : Γ[4]? = some (some (.p (qD q)))) : evE F (.tup (.cons (.neg (.idx (.var 4) (.con (.int 0)))) (.cons (.idx (.var 4) (.con (.int 1))) .nil))) Γ S = .ok (.p (qD (-q))) S := by
  simp [h, two_line, qD_neg]
/-- the numbers of a format, least first -/
def numL (b : Nat) (low : Int) (k : Nat) : List Rat := (sizeK b low k).reverse.map (fun q => -q) ++ [0] ++ sizeK b low k
theorem sizeK_short {b : Nat} {low : Int} {k : Nat} (hb : b ≤ 8) (hk : k ≤ 100) : (sizeK b low k).length ≤ 25856 := by
  have h1 := sizeK_len b low k
  have h2 : 2 ^ b * (k + 1) ≤ 256 * 101 := Nat.mul_le_mul (two_pow_le (c := 8) hb) (by omega)
  omega
theorem numbers_by_ok {s : Nat} (h : G[i]? = some ⟨3, 5, B_numbers_by s, false⟩) (hs : G[s]? = some ⟨3, 6, B_sizes_by w t p, false⟩) (X : FmtIx G w t p) {b : Nat} (hb : 1 ≤ b) (hb2 : b ≤ 8) {low : Int} {k : Nat} (hl : low.natAbs ≤ 900) (hk : k ≤ 100) :
    callN G (n + 5) i [.p (.int b), .p (.int low), .p (.int (low + k))] S = .ok (.p (.tuple ((numL b low k).map qD))) S := by
  have hlen := sizeK_short (low := low) hb2 hk
  have sl : 60000 ≤ sizeLine := by rw [sizeLine_eq]; decide
  have R := lcR_map (F := callN G (n + 4)) (S := []) (Γ := [some (.p (.int b)), some (.p (.int low)), some (.p (.int (low + k))), some (.p (.list ((sizeK b low k).map qD))), none]) (i := 4) (e := .tup (.cons (.neg (.idx (.var 4) (.con (.int 0)))) (.cons (.idx (.var 4) (.con (.int 1))) .nil))) (own := [4]) (xs := ((sizeK b low k).map qD).reverse) (d := .p (.list ((sizeK b low k).map qD).reverse))
    (fun x => match x with
      | .tuple [.int a, .int b] => .tuple [.int (-a), .int b]
      | x => x) rfl (fun x hx => by
      rw [List.mem_reverse, List.mem_map] at hx
      obtain ⟨q, _, rfl⟩ := hx
      exact neg_elt _ q _ rfl)
  have e1 : (((sizeK b low k).map qD).reverse.map fun x => match x with
      | .tuple [.int a, .int b] => PyData.tuple [.int (-a), .int b]
      | x => x) = ((sizeK b low k).reverse.map (fun q => -q)).map qD := by
    rw [← List.map_reverse, List.map_map, List.map_map]
    rfl
  rw [e1] at R
  refine call_p h (T := []) ?_
  have := numbers_fin (callN G (n + 4)) s (.int b) (.int low) (.int (low + k)) _ _ (sizes_by_ok hs X hb hb2 hl hk) R (by simp; omega) (by simp; omega)
  rw [this]
  simp only [numL, List.map_append]
  rfl
/-! ### checks -/
def B_greatest_high : CS := (.seq (.ret (.bf .min (.cons (.con (.int 8)) (.cons (.bin .add (.var 0) (.con (.int 8))) .nil)))) .skip)
theorem greatest_high_ok (h : G[i]? = some ⟨1, 1, B_greatest_high, false⟩) (low : Int) : callN G (n + 1) i [.p (.int low)] S = .ok (.p (.int (if low + 8 < 8 then low + 8 else 8))) S :=
  call_p h (T := []) (by simp [B_greatest_high])
def B_check_sizes (iB : Nat) : CS := (.seq (.ite (.not (.call iB (.cons (.var 0) (.cons (.con (.int 1)) (.cons (.con (.int 5)) .nil))))) (.seq .stop .skip) .skip)
  (.seq (.ite (.not (.call iB (.cons (.var 1) (.cons (.con (.int (-8))) (.cons (.con (.int 8)) .nil))))) (.seq .stop .skip) .skip)
  .skip))
theorem check_sizes_fin (F : Calls) (iB : Nat) (b low : Int) (h1 : F iB [.p (.int b), .p (.int 1), .p (.int 5)] [] = .ok (.p (.bool true)) []) (h2 : F iB [.p (.int low), .p (.int (-8)), .p (.int 8)] [] = .ok (.p (.bool true)) []) :
    evS F (B_check_sizes iB) (startL 2 [.p (.int b), .p (.int low)]) [] = .nx [some (.p (.int b)), some (.p (.int low))] [] := by
  simp [B_check_sizes, h1, h2]
structure ChkIx (G : List Fn) (iB iW iS iH iG : Nat) : Prop where
  between : G[iB]? = some ⟨3, 3, B_is_between iW, false⟩
  whole : G[iW]? = some ⟨1, 1, B_is_whole, false⟩
  sizes : G[iS]? = some ⟨2, 2, B_check_sizes iB, false⟩
  gh : G[iG]? = some ⟨1, 1, B_greatest_high, false⟩
def B_check_high (iB iG : Nat) : CS := (.seq (.ite (.not (.call iB (.cons (.var 1) (.cons (.var 0) (.cons (.call iG (.cons (.var 0) .nil)) .nil))))) (.seq .stop .skip) .skip) .skip)
theorem check_high_fin (F : Calls) (iB iG : Nat) (low high g : Int) (h1 : F iG [.p (.int low)] [] = .ok (.p (.int g)) []) (h2 : F iB [.p (.int high), .p (.int low), .p (.int g)] [] = .ok (.p (.bool true)) []) :
    evS F (B_check_high iB iG) (startL 2 [.p (.int low), .p (.int high)]) [] = .nx [some (.p (.int low)), some (.p (.int high))] [] := by
  simp [B_check_high, h1, h2]
variable {iB iW iS iH iG : Nat}
theorem check_sizes_ok (X : ChkIx G iB iW iS iH iG) {b low : Int} (h1 : 1 ≤ b) (h2 : b ≤ 5) (h3 : -8 ≤ low) (h4 : low ≤ 8) : callN G (n + 3) iS [.p (.int b), .p (.int low)] S = .ok (.p .none) S :=
  call_nx X.sizes (check_sizes_fin _ iB b low (by rw [is_between_ok X.between X.whole]; simp [h1, h2]) (by rw [is_between_ok X.between X.whole]; simp [h3, h4]))
theorem check_high_ok (X : ChkIx G iB iW iS iH iG) (h : G[iH]? = some ⟨2, 2, B_check_high iB iG, false⟩) {low high : Int} (h1 : low ≤ high) (h2 : high ≤ 8) (h3 : high ≤ low + 8) : callN G (n + 3) iH [.p (.int low), .p (.int high)] S = .ok (.p .none) S :=
  call_nx h (check_high_fin _ iB iG low high _ (greatest_high_ok (n := n + 1) X.gh low) (by
    rw [is_between_ok X.between X.whole]
    split
    · simp [h1, h3]
    · simp [h1, h2]))
def B_format_numbers (iS iH iN : Nat) : CS := (.seq (.expr (.call iS (.cons (.var 0) (.cons (.var 1) .nil))))
  (.seq (.expr (.call iH (.cons (.var 1) (.cons (.var 2) .nil))))
  (.seq (.ret (.call iN (.cons (.var 0) (.cons (.var 1) (.cons (.var 2) .nil)))))
  .skip)))
theorem format_fin (F : Calls) (iS iH iN : Nat) (b low hi r : PyData) (h1 : F iS [.p b, .p low] [] = .ok (.p .none) []) (h2 : F iH [.p low, .p hi] [] = .ok (.p .none) []) (h3 : F iN [.p b, .p low, .p hi] [] = .ok (.p r) []) :
    evS F (B_format_numbers iS iH iN) (startL 3 [.p b, .p low, .p hi]) [] = .rt (.p r) [] := by
  simp [B_format_numbers, h1, h2, h3]
/-- a format that is allowed -/
structure Fmt (b : Nat) (low : Int) (k : Nat) : Prop where
  b1 : 1 ≤ b
  b5 : b ≤ 5
  l1 : -8 ≤ low
  h8 : low + k ≤ 8
  k8 : k ≤ 8
theorem format_numbers_ok {iN s : Nat} (h : G[i]? = some ⟨3, 3, B_format_numbers iS iH iN, false⟩) (C : ChkIx G iB iW iS iH iG) (hH : G[iH]? = some ⟨2, 2, B_check_high iB iG, false⟩) (hN : G[iN]? = some ⟨3, 5, B_numbers_by s, false⟩) (hs : G[s]? = some ⟨3, 6, B_sizes_by w t p, false⟩) (X : FmtIx G w t p) {b : Nat} {low : Int} {k : Nat} (Y : Fmt b low k) :
    callN G (n + 6) i [.p (.int b), .p (.int low), .p (.int (low + k))] S = .ok (.p (.tuple ((numL b low k).map qD))) S := by
  have y1 := Y.b1
  have y2 := Y.b5
  have y3 := Y.l1
  have y4 := Y.h8
  have y5 := Y.k8
  exact call_p h (T := []) (format_fin _ iS iH iN (.int b) (.int low) (.int (low + k)) _ (check_sizes_ok (n := n + 2) C (by omega) (by omega) (by omega) (by omega)) (check_high_ok (n := n + 2) C hH (by omega) (by omega) (by omega)) (numbers_by_ok hN hs X y1 (by omega) (by omega) (by omega)))
end
end Core
set_option Elab.async false
set_option linter.all false
set_option maxHeartbeats 1000000
/-! Core, part X: the laws' draws -/
namespace Core
open PySem PySem.W
section
variable {G : List Fn} {n i m : Nat} {S : Store}
def B_below (c1 c2 c3 : Int) : CS := (.seq (.ite (.cmp .gt (.idx (.var 0) (.con (.int 0))) (.con (.int 0))) (.seq (.asg (.nm 3) (.bin .mod (.bf .int (.cons (.idx (.var 0) (.con (.int 0))) .nil)) (.var 1)))
  (.seq (.seti (.var 0) (.con (.int 0)) (.bin .fdiv (.idx (.var 0) (.con (.int 0))) (.var 1)))
  (.seq (.ret (.var 3))
  .skip))) .skip)
  (.seq (.seti (.var 0) (.con (.int 2)) (.bin .add (.idx (.var 0) (.con (.int 2))) (.con (.int 1))))
  (.seq (.asg (.nm 2) (.bin .mod (.bf .int (.cons (.bin .add (.bin .add (.bin .mul (.idx (.var 0) (.con (.int 1))) (.con (.int c1))) (.bin .mul (.idx (.var 0) (.con (.int 2))) (.con (.int c2)))) (.con (.int 5))) .nil)) (.con (.int 2147483647))))
  (.seq (.seti (.var 0) (.con (.int 1)) (.bin .mod (.bf .int (.cons (.bin .add (.bin .mul (.var 2) (.bin .add (.bin .mod (.bf .int (.cons (.var 2) .nil)) (.con (.int 4093))) (.con (.int c3)))) (.idx (.var 0) (.con (.int 2)))) .nil)) (.con (.int 2147483563))))
  (.seq (.ret (.bin .mod (.bf .int (.cons (.bin .fdiv (.idx (.var 0) (.con (.int 1))) (.con (.int 61))) .nil)) (.var 1)))
  .skip)))))
@[simp] theorem ixN_0 : L2.ixN 3 0 = some 0 := rfl
@[simp] theorem ixN_1 : L2.ixN 3 1 = some 1 := rfl
@[simp] theorem ixN_2 : L2.ixN 3 2 = some 2 := rfl
theorem log_lt (k : Int) (h : Sm 8000 k) : k.natAbs.log2 < 9000 := by
  have := h.log
  omega
theorem below_pos (F : Calls) (c1 c2 c3 a b c k : Int) (ha : 0 < a) (hk : k ≠ 0) (hs : k.natAbs.log2 < 9000) :
    evS F (B_below c1 c2 c3) (startL 4 [.loc 0, .p (.int k)]) [.lst [.p (.int a), .p (.int b), .p (.int c)]] = .rt (.p (.int (a.fmod k))) [.lst [.p (.int (a.fdiv k)), .p (.int b), .p (.int c)]] := by
  simp [B_below, ha, hk, hs]
theorem below_zero (F : Calls) (c1 c2 c3 a b c k x y z : Int) (ha : ¬ 0 < a) (hk : k ≠ 0) (h1 : mulP (.int b) (.int c1) = some (.int x)) (h2 : mulP (.int (c + 1)) (.int c2) = some (.int y)) (h3 : mulP (.int ((x + y + 5).fmod 2147483647)) (.int (((x + y + 5).fmod 2147483647).fmod 4093 + c3)) = some (.int z)) :
    evS F (B_below c1 c2 c3) (startL 4 [.loc 0, .p (.int k)]) [.lst [.p (.int a), .p (.int b), .p (.int c)]] = .rt (.p (.int ((((z + (c + 1)).fmod 2147483563).fdiv 61).fmod k))) [.lst [.p (.int a), .p (.int ((z + (c + 1)).fmod 2147483563)), .p (.int (c + 1))]] := by
  have e : Nat.log2 61 < 9000 := by decide
  simp [B_below, ha, hk, h1, h2, h3, e]
theorem below_zero2 (F : Calls) (c1 c2 c3 a b c k x y z : Int) (ha : ¬ 0 < a) (hk : k ≠ 0) (h1 : mulP (.int b) (.int c1) = some (.int x)) (h2 : mulP (.int (c + 1)) (.int c2) = some (.int y)) (h3 : mulP (.int ((x + y + 5).fmod 2147483647)) (.int (((x + y + 5).fmod 2147483647).fmod 4093 + c3)) = some (.int z)) :
    ∃ Z r : Int, evS F (B_below c1 c2 c3) (startL 4 [.loc 0, .p (.int k)]) [.lst [.p (.int a), .p (.int b), .p (.int c)]] = .rt (.p (.int (r.fmod k))) [.lst [.p (.int a), .p (.int Z), .p (.int (c + 1))]] ∧ 0 ≤ Z ∧ Z < 2147483563 :=
  ⟨_, _, below_zero F c1 c2 c3 a b c k x y z ha hk h1 h2 h3, Int.fmod_nonneg_of_pos _ (by decide), Int.fmod_lt_of_pos _ (by decide)⟩
/-- what a pool holds: digits, a state, a count of at most N -/
structure Pool (S : Store) (m : Nat) (N : Nat) : Prop where
  ex : ∃ a b c : Int, S[m]? = some (.lst [.p (.int a), .p (.int b), .p (.int c)]) ∧ 0 ≤ a ∧ 0 ≤ b ∧ b < 2147483648 ∧ 0 ≤ c ∧ c ≤ N
theorem Pool.mono {N M : Nat} (h : Pool S m N) (q : N ≤ M) : Pool S m M := by
  obtain ⟨a, b, c, h1, h2, h3, h4, h5, h6⟩ := h.ex
  exact ⟨a, b, c, h1, h2, h3, h4, h5, by omega⟩
theorem sm_of {k : Nat} {z : Int} {b : Nat} (h : z.natAbs ≤ b) (hb : b < 2 ^ k) : Sm k z := Nat.lt_of_le_of_lt h hb
/-- a draw -/
theorem below_ok {c1 c2 c3 : Int} (h : G[i]? = some ⟨2, 4, B_below c1 c2 c3, false⟩) (hc1 : c1.natAbs ≤ 1000000) (hc2 : c2.natAbs ≤ 1000000) (hc3 : 0 ≤ c3 ∧ c3 ≤ 1000000) {N : Nat} (P : Pool S m N) (hN : N ≤ 1000000000) {k : Int} (hk : 0 < k) (hk2 : k ≤ 1000000000) :
    ∃ r S', callN G (n + 1) i [.loc m, .p (.int k)] S = .ok (.p (.int r)) S' ∧ 0 ≤ r ∧ r < k ∧ Pool S' m (N + 1) ∧ S'.length = S.length ∧ ∀ j, j ≠ m → S'[j]? = S[j]? := by
  obtain ⟨a, b, c, h1, h2, h3, h4, h5, h6⟩ := P.ex
  have lm : m < S.length := (List.getElem?_eq_some_iff.mp h1).1
  have hs : k.natAbs.log2 < 9000 := log_lt k (Sm.mono (j := 100) (sm_of (b := 1000000000) (by omega) (by decide)) (by decide))
  by_cases ha : 0 < a
  · have := call_1 (n := n) (m := m) (S := S) (ds := [.loc m, .p (.int k)]) (xs := [.int a, .int b, .int c]) (ys := [.int (a.fdiv k), .int b, .int c]) (T := []) (y := .int (a.fmod k)) h h1 (below_pos _ c1 c2 c3 a b c k ha (by omega) hs)
    refine ⟨_, _, this, Int.fmod_nonneg_of_pos _ hk, Int.fmod_lt_of_pos _ hk, ⟨a.fdiv k, b, c, ?_, Int.fdiv_nonneg h2 (by omega), h3, h4, h5, by omega⟩, by simp, fun j hj => ?_⟩
    · rw [List.getElem?_set_self lm]
      rfl
    · rw [List.getElem?_set_ne (Ne.symm hj)]
  · have q1 : Sm 40 b := sm_of (b := 2147483648) (by omega) (by decide)
    have q2 : Sm 40 (c + 1) := sm_of (b := 1000000001) (by omega) (by decide)
    have q3 : Sm 40 c1 := sm_of hc1 (by decide)
    have q4 : Sm 40 c2 := sm_of hc2 (by decide)
    have m1 := mulP_ok q1 q3
    have m2 := mulP_ok q2 q4
    have f1 : 0 ≤ (b * c1 + (c + 1) * c2 + 5).fmod 2147483647 := Int.fmod_nonneg_of_pos _ (by decide)
    have f2 : (b * c1 + (c + 1) * c2 + 5).fmod 2147483647 < 2147483647 := Int.fmod_lt_of_pos _ (by decide)
    have g1 : 0 ≤ ((b * c1 + (c + 1) * c2 + 5).fmod 2147483647).fmod 4093 := Int.fmod_nonneg_of_pos _ (by decide)
    have g2 : ((b * c1 + (c + 1) * c2 + 5).fmod 2147483647).fmod 4093 < 4093 := Int.fmod_lt_of_pos _ (by decide)
    have m3 := mulP_ok (a := (b * c1 + (c + 1) * c2 + 5).fmod 2147483647) (b := ((b * c1 + (c + 1) * c2 + 5).fmod 2147483647).fmod 4093 + c3) (j := 40) (k := 40) (sm_of (b := 2147483647) (by omega) (by decide)) (sm_of (b := 2000000) (by omega) (by decide))
    obtain ⟨Z, r, b0, z1, z2⟩ := below_zero2 (callN G n) c1 c2 c3 a b c k _ _ _ ha (by omega) m1 m2 m3
    have := call_1 (n := n) (m := m) (S := S) (ds := [.loc m, .p (.int k)]) (xs := [.int a, .int b, .int c]) (ys := [.int a, .int Z, .int (c + 1)]) (T := []) (y := .int (r.fmod k)) h h1 b0
    refine ⟨_, _, this, Int.fmod_nonneg_of_pos _ hk, Int.fmod_lt_of_pos _ hk, ⟨a, Z, c + 1, ?_, h2, z1, by omega, by omega, by omega⟩, by simp, fun j hj => ?_⟩
    · rw [List.getElem?_set_self lm]
      rfl
    · rw [List.getElem?_set_ne (Ne.symm hj)]
end
end Core
set_option Elab.async false
set_option linter.all false
set_option maxHeartbeats 1000000
/-! Core, part Y: the pool of a script; one of some; sameness -/
namespace Core
open PySem PySem.W
section
variable {G : List Fn} {n i m : Nat} {S : Store}
def B_pool (p1 p2 p3 : Int) : CS := (.seq (.asg (.nm 2) (.ite (.cmp .lt (.var 1) (.bf .len (.cons (.var 0) .nil))) (.bf .int (.cons (.idx (.var 0) (.var 1)) .nil)) (.bin .add (.bin .mul (.con (.int p1)) (.var 1)) (.con (.int p2)))))
  (.seq (.asg (.nm 3) (.bin .add (.con (.int p3)) (.bin .mul (.con (.int 7919)) (.var 1))))
  (.seq (.for_ (.nm 4) .seq (.cons (.slcH (.var 0) (.con (.int 63))) .nil) (.seq (.asg (.nm 3) (.bin .mod (.bf .int (.cons (.bin .add (.bin .add (.bin .mul (.var 3) (.con (.int 48271))) (.bin .mod (.bf .int (.cons (.var 4) .nil)) (.con (.int 2147483629)))) (.con (.int 11))) .nil)) (.con (.int 2147483647))))
  .skip))
  (.seq (.asg (.nm 3) (.bin .mod (.bf .int (.cons (.bin .add (.bin .add (.bin .mul (.var 3) (.con (.int 69621))) (.bin .mul (.bin .mod (.bf .int (.cons (.var 2) .nil)) (.con (.int 2147483629))) (.con (.int 16807)))) (.con (.int 7))) .nil)) (.con (.int 2147483647))))
  (.seq (.ret (.mlst (.cons (.ite (.or (.cmp .lt (.var 2) (.con (.int 0))) (.cmp .ge (.var 2) (.bin .pow (.con (.int 10)) (.con (.int 18))))) (.bf .abs (.cons (.var 2) .nil)) (.con (.int 0))) (.cons (.var 3) (.cons (.con (.int 0)) .nil)))))
  .skip)))))
theorem pool_step (F : Calls) (s l ce : Option D) (x z y : Int) (xo : Option D) (hx : mulP (.int x) (.int 48271) = some (.int y)) :
    evS F (.seq (.asg (.nm 3) (.bin .mod (.bf .int (.cons (.bin .add (.bin .add (.bin .mul (.var 3) (.con (.int 48271))) (.bin .mod (.bf .int (.cons (.var 4) .nil)) (.con (.int 2147483629)))) (.con (.int 11))) .nil)) (.con (.int 2147483647)))) .skip) [s, l, ce, some (.p (.int x)), some (.p (.int z))] S =
    .nx [s, l, ce, some (.p (.int ((y + z.fmod 2147483629 + 11).fmod 2147483647))), some (.p (.int z))] S := by
  simp [hx]
theorem three_line : (3 : Nat) ≤ sizeLine := by decide
theorem pow1018 (S : Store) : opB S .pow (.p (.int 10)) (.p (.int 18)) = some (.int (10 ^ 18)) := by
  rw [opB_pow, if_pos (by decide)]
  rfl
theorem pool_fin (F : Calls) (p1 p2 p3 lap c st y u v w7 : Int) (xs : List PyData) (o : Option D) (hl : mulP (.int 7919) (.int lap) = some (.int w7))
    (hc : evE F (.ite (.cmp .lt (.var 1) (.bf .len (.cons (.var 0) .nil))) (.bf .int (.cons (.idx (.var 0) (.var 1)) .nil)) (.bin .add (.bin .mul (.con (.int p1)) (.var 1)) (.con (.int p2)))) [some (.ro xs), some (.p (.int lap)), none, none, none] [] = .ok (.p (.int c)) [])
    (hs : slcD [] (.ro xs) none (some 63) = some (.list (xs.take 63)))
    (hfor : forR F (.nm 4) .seq (.seq (.asg (.nm 3) (.bin .mod (.bf .int (.cons (.bin .add (.bin .add (.bin .mul (.var 3) (.con (.int 48271))) (.bin .mod (.bf .int (.cons (.var 4) .nil)) (.con (.int 2147483629)))) (.con (.int 11))) .nil)) (.con (.int 2147483647)))) .skip) [some (.ro xs), some (.p (.int lap)), some (.p (.int c)), some (.p (.int (p3 + w7))), none] [.p (.list (xs.take 63))] [] = .nx [some (.ro xs), some (.p (.int lap)), some (.p (.int c)), some (.p (.int st)), o] [])
    (hu : mulP (.int st) (.int 69621) = some (.int u)) (hv : mulP (.int (c.fmod 2147483629)) (.int 16807) = some (.int v)) :
    evS F (B_pool p1 p2 p3) (startL 5 [.ro xs, .p (.int lap)]) [] = .rt (.loc 0) [.lst [.p (.int (if c < 0 ∨ 10 ^ 18 ≤ c then (if c < 0 then -c else c) else 0)), .p (.int ((u + v + 7).fmod 2147483647)), .p (.int 0)]] := by
  have hc2 := hc
  simp only [B_pool, evS_seq, evS_asg, startL, List.map_cons, List.map_nil, List.length_cons, List.length_nil, List.replicate, Nat.reduceAdd, Nat.reduceSub, List.cons_append, List.nil_append, hc]
  by_cases h1 : c < 0
  · simp [-slcD, hl, hs, hfor, hu, hv, pow1018, h1, three_line]
  · by_cases h2 : (1000000000000000000 : Int) ≤ c
    · simp [-slcD, hl, hs, hfor, hu, hv, pow1018, h1, three_line, h2]
    · simp [-slcD, hl, hs, hfor, hu, hv, pow1018, h1, three_line, h2]
theorem fmod_range (z : Int) : 0 ≤ z.fmod 2147483647 ∧ z.fmod 2147483647 < 2147483647 := ⟨Int.fmod_nonneg_of_pos _ (by decide), Int.fmod_lt_of_pos _ (by decide)⟩
/-- the pool of a script: three whole numbers, a draw's state -/
theorem pool_ok {p1 p2 p3 : Int} (h : G[i]? = some ⟨2, 5, B_pool p1 p2 p3, true⟩) (hp1 : p1.natAbs ≤ 1000000) (hp3 : 0 ≤ p3 ∧ p3 ≤ 1000000000) (ns : List Int) (lap : Nat) (hl : lap ≤ 100) :
    ∃ a b c : Int, callN G (n + 1) i [.ro (ns.map PyData.int), .p (.int lap)] S = .ok (.loc S.length) (S ++ [.lst [.p (.int a), .p (.int b), .p (.int c)]]) ∧ 0 ≤ a ∧ 0 ≤ b ∧ b < 2147483648 ∧ 0 ≤ c ∧ c ≤ 0 := by
  have ml := mulP_ok (a := 7919) (b := (lap : Int)) (j := 40) (k := 40) (sm_of (b := 7919) (by decide) (by decide)) (sm_of (b := 100) (by omega) (by decide))
  have ml2 := mulP_ok (a := p1) (b := (lap : Int)) (j := 40) (k := 40) (sm_of hp1 (by decide)) (sm_of (b := 100) (by omega) (by decide))
  obtain ⟨c, hc⟩ : ∃ c : Int, evE (callN G n) (.ite (.cmp .lt (.var 1) (.bf .len (.cons (.var 0) .nil))) (.bf .int (.cons (.idx (.var 0) (.var 1)) .nil)) (.bin .add (.bin .mul (.con (.int p1)) (.var 1)) (.con (.int p2)))) [some (.ro (ns.map PyData.int)), some (.p (.int lap)), none, none, none] [] = .ok (.p (.int c)) [] := by
    by_cases hlt : lap < ns.length
    · refine ⟨ns[lap], ?_⟩
      have hi : L2.atI ((ns.map PyData.int).map D.p) (lap : Int) = some (.p (.int ns[lap])) := by
        rw [atI_nat _ _ (by simpa using hlt)]
        simp [hlt]
      simp [-List.map_map, hlt, hi]
    · exact ⟨p1 * lap + p2, by simp [hlt, ml2]⟩
  have st0 : ∀ x : Int, 0 ≤ x → x < 2147483648 → ∀ z : Int, ∃ y : Int, mulP (.int x) (.int 48271) = some (.int y) ∧ 0 ≤ (y + z.fmod 2147483629 + 11).fmod 2147483647 ∧ (y + z.fmod 2147483629 + 11).fmod 2147483647 < 2147483648 := fun x h1 h2 z =>
    ⟨_, mulP_ok (j := 40) (k := 40) (sm_of (b := 2147483648) (by omega) (by decide)) (sm_of (b := 48271) (by decide) (by decide)), (fmod_range _).1, by have := (fmod_range (x * 48271 + z.fmod 2147483629 + 11)).2; omega⟩
  obtain ⟨Γ', S', hfor, hI⟩ := forR_list (F := callN G n) (t := .nm 4) (b := .seq (.asg (.nm 3) (.bin .mod (.bf .int (.cons (.bin .add (.bin .add (.bin .mul (.var 3) (.con (.int 48271))) (.bin .mod (.bf .int (.cons (.var 4) .nil)) (.con (.int 2147483629)))) (.con (.int 11))) .nil)) (.con (.int 2147483647)))) .skip)
    (Γ := [some (.ro (ns.map PyData.int)), some (.p (.int lap)), some (.p (.int c)), some (.p (.int (p3 + 7919 * lap))), none]) (S := []) (xs := (ns.map PyData.int).take 63) (d := .p (.list ((ns.map PyData.int).take 63)))
    (fun _ Γ S => S = [] ∧ ∃ x : Int, ∃ o, Γ = [some (.ro (ns.map PyData.int)), some (.p (.int lap)), some (.p (.int c)), some (.p (.int x)), o] ∧ 0 ≤ x ∧ x < 2147483648) rfl ⟨rfl, _, none, rfl, by omega, by omega⟩ (fun j x Γ S hx q => by
      obtain ⟨rfl, x0, o, rfl, q1, q2⟩ := q
      obtain ⟨z, rfl⟩ : ∃ z : Int, x = .int z := by
        have := List.mem_of_mem_take (List.mem_of_getElem? hx)
        obtain ⟨z, _, rfl⟩ := List.mem_map.mp this
        exact ⟨z, rfl⟩
      obtain ⟨y, hy, y1, y2⟩ := st0 x0 q1 q2 z
      exact ⟨_, _, [], rfl, pool_step (S := []) _ _ _ _ x0 z y none hy, rfl, _, _, rfl, y1, y2⟩)
  obtain ⟨rfl, x, o, rfl, x1, x2⟩ := hI
  have mu := mulP_ok (a := x) (b := 69621) (j := 40) (k := 40) (sm_of (b := 2147483648) (by omega) (by decide)) (sm_of (b := 69621) (by decide) (by decide))
  have r1 : 0 ≤ c.fmod 2147483629 := Int.fmod_nonneg_of_pos _ (by decide)
  have r2 : c.fmod 2147483629 < 2147483629 := Int.fmod_lt_of_pos _ (by decide)
  have mv := mulP_ok (a := c.fmod 2147483629) (b := 16807) (j := 40) (k := 40) (sm_of (b := 2147483648) (by omega) (by decide)) (sm_of (b := 16807) (by decide) (by decide))
  have fin := pool_fin (callN G n) p1 p2 p3 lap c x 0 _ _ _ (ns.map PyData.int) o ml hc (by simp [slcD, cutL, HT.sIx]) hfor mu mv
  have := call_lm (S := S) h (j := 0) (ys := [.int (if c < 0 ∨ 10 ^ 18 ≤ c then (if c < 0 then -c else c) else 0), .int _, .int 0]) fin rfl
  have f := fmod_range (x * 69621 + c.fmod 2147483629 * 16807 + 7)
  refine ⟨_, _, 0, this, ?_, f.1, by omega, by omega, by omega⟩
  split
  · split <;> omega
  · omega
end
end Core
set_option Elab.async false
set_option linter.all false
set_option maxHeartbeats 1000000
/-! Core, part Z: the law's own def -/
namespace Core
open PySem PySem.W
section
variable {G : List Fn} {n i m : Nat} {S : Store}
theorem lcGo_inv {step : D → Store → Res (Option D)} {r : Src} {k : Nat} (f : Nat → PyData) (I : Store → Prop) (hlen : ∀ S, I S → srcLen S r = some k) (hs : ∀ j S, j < k → I S → ∃ d S', srcAt S r j = some d ∧ step d S = .ok (some (.p (f j))) S' ∧ I S') :
    ∀ (c j : Nat) (acc : List PyData) (S : Store), j + c = k → I S → ∃ S', lcGo step r c j (acc.map D.p) S = .ok ((acc ++ (List.range' j c).map f).map D.p) S' ∧ I S'
  | 0, j, acc, S, h, q => by
    unfold lcGo
    rw [if_pos (by rw [hlen S q]; congr 1; omega)]
    exact ⟨S, by simp, q⟩
  | c + 1, j, acc, S, h, q => by
    obtain ⟨d, S1, h1, h2, h3⟩ := hs j S (by omega) q
    obtain ⟨S2, h4, h5⟩ := lcGo_inv f I hlen hs c (j + 1) (acc ++ [f j]) S1 (by omega) h3
    refine ⟨S2, ?_, h5⟩
    unfold lcGo
    rw [h1]
    simp only
    rw [h2]
    simp only
    rw [List.map_append] at h4
    simp only [List.map_cons, List.map_nil] at h4
    rw [h4, List.range'_succ]
    simp
theorem lcR_rng1_inv {F : Calls} {Γ : Loc} {v : Nat} {e : CE} {own : List Nat} {hi : Int} (f : Nat → PyData) (I : Store → Prop) (h : srcOf .rng1 [.p (.int hi)] = some (.rng 0 hi.toNat)) (h0 : I S) (hs : ∀ (j : Nat) S, j < hi.toNat → I S → ∃ S', evE F e ((wipeL Γ own).set v (some (.p (.int j)))) S = .ok (.p (f j)) S' ∧ I S') :
    ∃ S', lcR F (.nm v) .rng1 (.con (.bool true)) e own Γ [.p (.int hi)] S = .ok (((List.range hi.toNat).map f).map D.p) S' := by
  unfold lcR
  rw [h]
  obtain ⟨S', h1, h2⟩ := lcGo_inv (step := stepG (fun Γ' S' => evE F (.con (.bool true)) Γ' S') (fun Γ' S' => evE F e Γ' S') (.nm v) (wipeL Γ own)) (r := .rng 0 hi.toNat) (k := hi.toNat) f I (fun _ _ => rfl) (fun j S hj q => by
    obtain ⟨S', h1, h2⟩ := hs j S hj q
    exact ⟨.p (.int (0 + (j : Int))), S', by simp [srcAt, hj], by simp [stepG, h1], h2⟩) hi.toNat 0 [] S (by omega) h0
  exact ⟨S', by simp only [srcLen]; rw [List.range_eq_range']; simpa using h1⟩
def B_law (iR iP : Nat) : CS := (.seq (.ret (.bf .all (.cons (.lc (.nm 1) .rng1 (.cons (.bf .max (.cons (.con (.int 1)) (.cons (.bf .min (.cons (.bf .len (.cons (.var 0) .nil)) (.cons (.con (.int 3)) .nil))) .nil))) .nil) (.con (.bool true)) (.call iR (.cons (.call iP (.cons (.var 0) (.cons (.var 1) .nil))) .nil)) [1]) .nil)))
  .skip)
theorem law_fin (F : Calls) (iR iP : Nat) (xs : List PyData) (hi : Int) (k : Nat) (S' : Store) (h1 : (if (if (3 : Int) < xs.length then (3 : Int) else xs.length) > 1 then (if (3 : Int) < xs.length then (3 : Int) else xs.length) else 1) = hi)
    (R : lcR F (.nm 1) .rng1 (.con (.bool true)) (.call iR (.cons (.call iP (.cons (.var 0) (.cons (.var 1) .nil))) .nil)) [1] [some (.ro xs), none] [.p (.int hi)] [] = .ok (((List.replicate k true).map PyData.bool).map D.p) S') :
    evS F (B_law iR iP) (startL 2 [.ro xs]) [] = .rt (.p (.bool true)) S' := by
  have e : ((List.replicate k true).all id) = true := by simp
  have a := all_l S' (List.replicate k true)
  rw [e] at a
  simp only [B_law, evS_seq, evS_ret, startL, evE_bf, evL_cons, evL_nil, evE_lc, evE_con, evE_var, Res.bind, Res.toS, c_l1_ap, c_l2_ap, List.map_cons, List.map_nil, List.length_cons, List.length_nil, List.replicate, Nat.reduceAdd, Nat.reduceSub, List.cons_append, List.nil_append, List.getElem?_cons_zero, c_e_bf1_ap, len_r, fn_min, fn_max, Res.ofO, Option.map_some, gt_iff_lt] at h1 ⊢
  rw [h1]
  simp only [c_lc_ap, R, Res.bind, c_lcE_ap, c_l1_ap, evL_nil, c_l2_ap, c_e_bf1_ap, a, Option.map_some, Res.ofO, c_s_ret1_ap, Res.toS]
/-- what is left of a law: its body at any pool -/
theorem law_ok {iR iP sl : Nat} {p1 p2 p3 : Int} {body : CS} (h : G[i]? = some ⟨1, 2, B_law iR iP, false⟩) (hP : G[iP]? = some ⟨2, 5, B_pool p1 p2 p3, true⟩) (hR : G[iR]? = some ⟨1, sl, body, false⟩) (hp1 : p1.natAbs ≤ 1000000) (hp3 : 0 ≤ p3 ∧ p3 ≤ 1000000000)
    (right : ∀ a b c : Int, 0 ≤ a → 0 ≤ b → b < 2147483648 → 0 ≤ c → c ≤ 0 → ∃ (ys : List PyData) (T : Store), evS (callN G n) body (startL sl [.loc 0]) [.lst [.p (.int a), .p (.int b), .p (.int c)]] = .rt (.p (.bool true)) (.lst (ys.map D.p) :: T)) (ns : List Int) :
    ∃ S', callN G (n + 2) i [.ro (ns.map PyData.int)] [] = .ok (.p (.bool true)) S' := by
  obtain ⟨hi, hhi⟩ : ∃ hi : Int, (if (if (3 : Int) < (ns.map PyData.int).length then (3 : Int) else (ns.map PyData.int).length) > 1 then (if (3 : Int) < (ns.map PyData.int).length then (3 : Int) else (ns.map PyData.int).length) else 1) = hi := ⟨_, rfl⟩
  have b : 1 ≤ hi ∧ hi ≤ 3 := by
    rw [← hhi]
    generalize ((ns.map PyData.int).length : Int) = z
    split <;> split at * <;> omega
  have src : srcOf .rng1 [.p (.int hi)] = some (.rng 0 hi.toNat) := by
    simp only [srcOf, srcR1]
    rw [if_pos (by omega)]
  obtain ⟨S', R⟩ := lcR_rng1_inv (F := callN G (n + 1)) (S := []) (Γ := [some (.ro (ns.map PyData.int)), none]) (v := 1) (e := .call iR (.cons (.call iP (.cons (.var 0) (.cons (.var 1) .nil))) .nil)) (own := [1]) (fun _ => .bool true) (fun _ => True) src trivial (fun j S hj _ => by
    obtain ⟨a, b, c, hp, a1, b1, b2, c1, c2⟩ := pool_ok (n := n) (S := S) hP hp1 hp3 ns j (by omega)
    obtain ⟨ys, T, hr⟩ := right a b c a1 b1 b2 c1 c2
    have hm : (S ++ [Cell.lst [.p (.int a), .p (.int b), .p (.int c)]])[S.length]? = some (.lst (([.int a, .int b, .int c] : List PyData).map D.p)) := by simp
    have := call_1 (n := n) (m := S.length) (S := S ++ [.lst [.p (.int a), .p (.int b), .p (.int c)]]) (ds := [.loc S.length]) (xs := [.int a, .int b, .int c]) (ys := ys) (T := T) (y := .bool true) hR hm hr
    exact ⟨(S ++ [Cell.lst [.p (.int a), .p (.int b), .p (.int c)]]).set S.length (.lst (ys.map D.p)), by simp only [wipeL, List.set_cons_succ, List.set_cons_zero, evE_call, evL_cons, evL_nil, evE_var, List.getElem?_cons_succ, List.getElem?_cons_zero, Res.bind, c_l1_ap, c_l2_ap, c_e_call1_ap, hp, this], trivial⟩)
  have e : (List.range hi.toNat).map (fun _ => PyData.bool true) = (List.replicate hi.toNat true).map PyData.bool := by
    rw [List.map_replicate]
    simp [List.map_const']
  rw [e] at R
  exact ⟨[], call_p h (law_fin (callN G (n + 1)) iR iP (ns.map PyData.int) hi _ S' hhi R)⟩
end
end Core
set_option Elab.async false
set_option linter.all false
set_option maxHeartbeats 1000000
/-! Core, part Z1: sameness; powers by a loop; sorted rows -/
namespace Core
open PySem PySem.W
section
variable {G : List Fn} {n i m : Nat} {S : Store}
def B_same (i : Nat) : CS := (.seq (.ite (.isN true (.var 1)) (.seq (.ret (.isN true (.var 0))) .skip) .skip)
  (.seq (.ite (.isi (.var 1) [.bool]) (.seq (.ret (.and (.isi (.var 0) [.bool]) (.cmp .eq (.var 0) (.var 1)))) .skip) .skip)
  (.seq (.ite (.isi (.var 1) [.int]) (.seq (.ret (.and (.isi (.var 0) [.int]) (.and (.not (.isi (.var 0) [.bool])) (.cmp .eq (.var 0) (.var 1))))) .skip) .skip)
  (.seq (.ite (.isi (.var 1) [.str]) (.seq (.ret (.and (.isi (.var 0) [.str]) (.cmp .eq (.var 0) (.var 1)))) .skip) .skip)
  (.seq (.ite (.or (.not (.isi (.var 0) [.tuple])) (.cmp .ne (.bf .len (.cons (.var 0) .nil)) (.bf .len (.cons (.var 1) .nil)))) (.seq (.ret (.con (.bool false))) .skip) .skip)
  (.seq (.ret (.bf .all (.cons (.lc (.cons (.nm 2) (.cons (.nm 3) .nil)) .zip (.cons (.var 0) (.cons (.var 1) .nil)) (.con (.bool true)) (.call i (.cons (.var 2) (.cons (.var 3) .nil))) [2, 3]) .nil)))
  .skip))))))
/-- data that sameness can tell, nested at most k deep -/
def okSame : Nat → PyData → Prop
  | _, .none => True
  | _, .bool _ => True
  | _, .int _ => True
  | _, .str x => fits (.str x) = true
  | k + 1, .tuple xs => ∀ y ∈ xs, okSame k y
  | _, _ => False
theorem eqP_bool (b : Bool) : eqP (.bool b) (.bool b) = some true := by
  simp [eqP, PyData.eqv]
theorem eqP_str {x : Str} (h : fits (.str x) = true) : eqP (.str x) (.str x) = some true := by
  simp [eqP, PyData.eqv, h]
theorem lcR_zip {F : Calls} {Γ : Loc} {e : CE} {own : List Nat} {a b : Nat} {xs : List PyData} (f : PyData → PyData) (hs : ∀ x ∈ xs, evE F e (((wipeL Γ own).set a (some (.p x))).set b (some (.p x))) S = .ok (.p (f x)) S) :
    lcR F (.cons (.nm a) (.cons (.nm b) .nil)) .zip (.con (.bool true)) e own Γ [.p (.tuple xs), .p (.tuple xs)] S = .ok ((xs.map f).map D.p) S := by
  unfold lcR
  have h := lcGo_pure (step := stepG (fun Γ' S' => evE F (.con (.bool true)) Γ' S') (fun Γ' S' => evE F e Γ' S') (.cons (.nm a) (.cons (.nm b) .nil)) (wipeL Γ own)) (r := .zip xs xs) (m := xs.length) (S := S) (fun i => (xs[i]?).bind fun x => some (f x)) (by simp) (fun i hi => by
    refine ⟨.p (.tuple [xs[i], xs[i]]), by simp [srcAt, hi], ?_⟩
    rw [List.getElem?_eq_getElem hi]
    simp [stepG, hs _ (List.getElem_mem hi)]) xs.length 0 [] (by omega)
  rw [List.nil_append, filterMap_range] at h
  simp only [srcOf, srcZip, srcLen, Nat.min_self]
  rw [show (([] : List D)) = ([] : List PyData).map D.p from rfl, h]
  congr 2
  clear h hs
  induction xs with
  | nil => rfl
  | cons a l ih => simp
theorem same_tup (F : Calls) (i : Nat) (xs : List PyData) (hs : ∀ x ∈ xs, F i [.p x, .p x] S = .ok (.p (.bool true)) S) : evS F (B_same i) (startL 4 [.p (.tuple xs), .p (.tuple xs)]) S = .rt (.p (.bool true)) S := by
  have R := lcR_zip (F := F) (S := S) (Γ := [some (.p (.tuple xs)), some (.p (.tuple xs)), none, none]) (e := .call i (.cons (.var 2) (.cons (.var 3) .nil))) (own := [2, 3]) (a := 2) (b := 3) (xs := xs) (fun _ => .bool true) (fun x hx => by simp [hs x hx])
  have e : xs.map (fun _ => PyData.bool true) = (List.replicate xs.length true).map PyData.bool := by
    simp [List.map_const']
  rw [e] at R
  have a := all_l S (List.replicate xs.length true)
  have e2 : ((List.replicate xs.length true).all id) = true := by simp
  rw [e2] at a
  simp [-List.map_replicate, -List.map_map, -all_l, B_same, R, a]
theorem same_ok (h : G[i]? = some ⟨2, 4, B_same i, false⟩) : ∀ (k : Nat) (x : PyData) (n : Nat) (S : Store), okSame k x → callN G (n + k + 1) i [.p x, .p x] S = .ok (.p (.bool true)) S
  | k, .none, n, S, _ => call_p h (T := []) (by simp [B_same])
  | k, .bool b, n, S, _ => call_p h (T := []) (by simp [B_same, eqP_bool])
  | k, .int z, n, S, _ => call_p h (T := []) (by simp [B_same])
  | k, .str x, n, S, q => call_p h (T := []) (by
      have q' : fits (.str x) = true := by cases k <;> exact q
      simp [B_same, eqP_str q'])
  | k + 1, .tuple xs, n, S, q => call_p h (T := []) (same_tup _ i xs fun x hx => same_ok h k x n [] (q x hx))
  | 0, .tuple xs, n, S, q => False.elim q
  | 0, .list xs, n, S, q => False.elim q
  | k + 1, .list xs, n, S, q => False.elim q
  | 0, .dict xs, n, S, q => False.elim q
  | k + 1, .dict xs, n, S, q => False.elim q
theorem okSame_qD (k : Nat) (q : Rat) : okSame (k + 1) (qD q) := by
  unfold qD
  intro y hy
  simp at hy
  rcases hy with rfl | rfl <;> (cases k <;> trivial)
end
end Core
set_option Elab.async false
set_option linter.all false
set_option maxHeartbeats 1000000
/-! Core, part Z2: powers by a loop; sorted rows -/
namespace Core
open PySem PySem.W
section
variable {G : List Fn} {n i m : Nat} {S : Store}
def B_law_power : CS := (.seq (.asg (.nm 1) (.con (.int 1)))
  (.seq (.for_ (.nm 2) .rng1 (.cons (.bf .abs (.cons (.var 0) .nil)) .nil) (.seq (.asg (.nm 1) (.bin .mul (.con (.int 2)) (.var 1))) .skip))
  (.seq (.ret (.ite (.cmp .ge (.var 0) (.con (.int 0))) (.tup (.cons (.var 1) (.cons (.con (.int 1)) .nil))) (.tup (.cons (.con (.int 1)) (.cons (.var 1) .nil)))))
  .skip)))
theorem law_power_fin (F : Calls) (p r a : Int) (o : Option D) (ha : (if p < 0 then -p else p) = a) (hfor : forR F (.nm 2) .rng1 (.seq (.asg (.nm 1) (.bin .mul (.con (.int 2)) (.var 1))) .skip) [some (.p (.int p)), some (.p (.int 1)), none] [.p (.int a)] [] = .nx [some (.p (.int p)), some (.p (.int r)), o] []) :
    evS F B_law_power (startL 3 [.p (.int p)]) [] = .rt (.p (if 0 ≤ p then .tuple [.int r, .int 1] else .tuple [.int 1, .int r])) [] := by
  by_cases h : 0 ≤ p
  · simp [B_law_power, ha, hfor, h, two_line]
  · simp [B_law_power, ha, hfor, h, two_line]
theorem law_power_ok (h : G[i]? = some ⟨1, 3, B_law_power, false⟩) {p : Int} (hp : p.natAbs ≤ 1000) : callN G (n + 1) i [.p (.int p)] S = .ok (.p (qD (P2 p))) S := by
  obtain ⟨a, ha⟩ : ∃ a : Int, (if p < 0 then -p else p) = a := ⟨_, rfl⟩
  have ha2 : a = (p.natAbs : Int) := by
    rw [← ha]
    split <;> omega
  obtain ⟨Γ', S', hfor, hI⟩ := forR_rng (F := callN G n) (t := .nm 2) (k := .rng1) (b := .seq (.asg (.nm 1) (.bin .mul (.con (.int 2)) (.var 1))) .skip) (Γ := [some (.p (.int p)), some (.p (.int 1)), none]) (S := []) (ds := [.p (.int a)]) (lo := 0) (m := p.natAbs)
    (fun j Γ S => S = [] ∧ ∃ o, Γ = [some (.p (.int p)), some (.p (.int ((2 ^ j : Nat) : Int))), o]) (by
      simp only [srcOf, srcR1]
      rw [if_pos (by omega), ha2]
      simp) ⟨rfl, none, rfl⟩ (fun j Γ S hj q => by
      obtain ⟨rfl, o, rfl⟩ := q
      have s1 : Sm 2 2 := by unfold Sm; decide
      have s2 : Sm 1001 ((2 ^ j : Nat) : Int) := by
        unfold Sm
        rw [Int.natAbs_natCast]
        exact Nat.pow_lt_pow_right (by decide) (by omega)
      have mp := mulP_ok s1 s2
      have e : (2 : Int) * ((2 ^ j : Nat) : Int) = ((2 ^ (j + 1) : Nat) : Int) := by
        rw [Nat.pow_succ, Nat.mul_comm]
        simp
      rw [e] at mp
      refine ⟨_, [some (.p (.int p)), some (.p (.int ((2 ^ (j + 1) : Nat) : Int))), some (.p (.int (0 + j)))], [], rfl, ?_, rfl, _, rfl⟩
      simp only [evS_seq, evS_asg, evE_bin, evE_con, evE_var, List.set_cons_succ, List.set_cons_zero, List.getElem?_cons_succ, List.getElem?_cons_zero, Res.bind, Res.toS, c_e_bin1_ap, c_e_bin2_ap, opB_mul, pureM_p, Option.bind_some, mp, Option.map_some, Res.ofO, c_s_asg1_ap, bindNT, evS_skip])
  obtain ⟨rfl, o, rfl⟩ := hI
  have := call_p (S := S) h (law_power_fin (callN G n) p _ a o ha hfor)
  rw [this, qD_P2]
  congr 2
  by_cases hp0 : 0 ≤ p
  · rw [if_pos hp0, if_pos hp0]
    have : p.toNat = p.natAbs := by omega
    rw [this]
  · rw [if_neg hp0, if_neg hp0]
    have : (-p).toNat = p.natAbs := by omega
    rw [this]
/-! ### sorted rows -/
def B_sorted (iL : Nat) : CS := (.seq (.asg (.nm 1) (.lst .nil))
  (.seq (.for_ (.nm 2) .seq (.cons (.var 0) .nil) (.seq (.asg (.nm 3) (.bf .len (.cons (.lc (.nm 4) .seq (.cons (.var 1) .nil) (.call iL (.cons (.var 4) (.cons (.var 2) .nil))) (.var 4) [4]) .nil)))
  (.seq (.asg (.nm 1) (.ite (.cmp .isin (.var 2) (.var 1)) (.var 1) (.bin .add (.bin .add (.slcH (.var 1) (.var 3)) (.lst (.cons (.var 2) .nil))) (.slcL (.var 1) (.var 3)))))
  .skip)))
  (.seq (.ret (.var 1))
  .skip)))
/-- one row put where it belongs -/
def putQ (found : List Rat) (q : Rat) : List Rat := if q ∈ found then found else found.take (found.filter fun r => decide (r < q)).length ++ [q] ++ found.drop (found.filter fun r => decide (r < q)).length
theorem eqv_qD (p q : Rat) : PyData.eqv (qD p) (qD q) = decide (p = q) := by
  have e : (p = q) ↔ (p.num = q.num ∧ (p.den : Int) = q.den) := by
    constructor
    · rintro rfl; exact ⟨rfl, rfl⟩
    · rintro ⟨h1, h2⟩
      exact Rat.ext h1 (by omega)
  unfold qD
  simp only [PyData.eqv, PyData.eqvAll, Bool.and_true]
  by_cases h : p = q
  · subst h
    simp
  · rw [decide_eq_false h]
    rw [e] at h
    simp only [not_and] at h
    by_cases h1 : p.num = q.num
    · have := h h1
      simp [h1]
      omega
    · simp [h1]
theorem any_qD (q : Rat) : ∀ l : List Rat, ((l.map qD).any fun z => PyData.eqv z (qD q)) = decide (q ∈ l)
  | [] => rfl
  | a :: l => by
    rw [List.map_cons, List.any_cons, any_qD q l, eqv_qD]
    by_cases h : a = q
    · subst h; simp
    · have h' : ¬ q = a := fun e => h e.symm
      simp [h, h']
theorem fitK_qD (k : Nat) (q : Rat) : FitK (k + 1) (qD q) := fitK_tup fun x hx => by
  simp at hx
  rcases hx with rfl | rfl
  · exact fitK_int k _
  · exact fitK_int k _
theorem in_list (q : Rat) (l : List Rat) : inP (qD q) (.list (l.map qD)) = some (decide (q ∈ l)) := by
  have h1 : fits (qD q) = true := fits_of (k := 1) (fitK_qD 0 q)
  have h2 : fits (.list (l.map qD)) = true := fits_of (k := 2) (fitK_lst fun x hx => by
    obtain ⟨r, _, rfl⟩ := List.mem_map.mp hx
    exact fitK_qD 0 r)
  simp [-List.any_map, inP, h1, h2, any_qD]
theorem in_tuple (q : Rat) (l : List Rat) : inP (qD q) (.tuple (l.map qD)) = some (decide (q ∈ l)) := by
  have h1 : fits (qD q) = true := fits_of (k := 1) (fitK_qD 0 q)
  have h2 : fits (.tuple (l.map qD)) = true := fits_of (k := 2) (fitK_tup fun x hx => by
    obtain ⟨r, _, rfl⟩ := List.mem_map.mp hx
    exact fitK_qD 0 r)
  simp [-List.any_map, inP, h1, h2, any_qD]
theorem slc_take (S : Store) (xs : List PyData) (k : Nat) (h : k ≤ xs.length) : slcD S (.p (.list xs)) none (some (k : Int)) = some (.list (xs.take k)) := by
  have h1 : ¬ ((k : Int) < 0) := by omega
  have h2 : (min (k : Int) xs.length).toNat = k := by omega
  simp [slcD, cutL, HT.sIx, h1, h2]
theorem slc_drop (S : Store) (xs : List PyData) (k : Nat) (h : k ≤ xs.length) : slcD S (.p (.list xs)) (some (k : Int)) none = some (.list (xs.drop k)) := by
  have h1 : ¬ ((k : Int) < 0) := by omega
  have h3 : min k xs.length = k := by omega
  simp [slcD, cutL, HT.sIx, h1, h3]
  exact List.take_of_length_le (by rw [List.length_drop]; omega)
theorem sorted_step (F : Calls) (iL : Nat) (rows : D) (fs L : List PyData) (x : PyData) (o3 : Option D) (c : Bool)
    (R : lcR F (.nm 4) .seq (.call iL (.cons (.var 4) (.cons (.var 2) .nil))) (.var 4) [4] [some rows, some (.p (.list fs)), some (.p x), o3, none] [.p (.list fs)] S = .ok (L.map D.p) S) (hin : inP x (.list fs) = some c)
    (hl : L.length ≤ fs.length) (h1 : L.length + 1 ≤ sizeLine) (h2 : fs.length + 1 ≤ sizeLine) :
    evS F (.seq (.asg (.nm 3) (.bf .len (.cons (.lc (.nm 4) .seq (.cons (.var 1) .nil) (.call iL (.cons (.var 4) (.cons (.var 2) .nil))) (.var 4) [4]) .nil)))
      (.seq (.asg (.nm 1) (.ite (.cmp .isin (.var 2) (.var 1)) (.var 1) (.bin .add (.bin .add (.slcH (.var 1) (.var 3)) (.lst (.cons (.var 2) .nil))) (.slcL (.var 1) (.var 3))))) .skip)) [some rows, some (.p (.list fs)), some (.p x), o3, none] S =
    .nx [some rows, some (.p (.list (if c then fs else fs.take L.length ++ [x] ++ fs.drop L.length))), some (.p x), some (.p (.int L.length)), none] S := by
  have t1 : (fs.take L.length).length = L.length := by rw [List.length_take]; omega
  have t2 : (fs.drop L.length).length = fs.length - L.length := by rw [List.length_drop]
  have h4 : L.length + 1 + (fs.length - L.length) ≤ sizeLine := by omega
  cases c with
  | true => simp [R, hin]
  | false => simp [-slcD, R, hin, slc_take _ _ _ hl, slc_drop _ _ _ hl, one_line, t1, t2, h1, h4, - List.length_take]
theorem putQ_mem {f : List Rat} {q x : Rat} (h : x ∈ putQ f q) : x ∈ f ∨ x = q := by
  unfold putQ at h
  split at h
  · exact .inl h
  · simp only [List.mem_append, List.mem_singleton] at h
    rcases h with (h | h) | h
    · exact .inl (List.mem_of_mem_take h)
    · exact .inr h
    · exact .inl (List.mem_of_mem_drop h)
theorem putQ_len (f : List Rat) (q : Rat) : (putQ f q).length ≤ f.length + 1 := by
  unfold putQ
  split
  · omega
  · have := List.length_filter_le (fun r => decide (r < q)) f
    simp only [List.length_append, List.length_take, List.length_drop, List.length_singleton]
    omega
def sortQ (rows : List Rat) : List Rat := rows.foldl putQ []
theorem sortQ_mem (P : Rat → Prop) : ∀ (rows f : List Rat), (∀ q ∈ f, P q) → (∀ q ∈ rows, P q) → ∀ q ∈ rows.foldl putQ f, P q
  | [], f, h, _ => h
  | a :: r, f, h, h2 => sortQ_mem P r (putQ f a) (fun q hq => (putQ_mem hq).elim (h q) fun e => e ▸ h2 a List.mem_cons_self) fun q hq => h2 q (List.mem_cons_of_mem _ hq)
theorem sortQ_len : ∀ (rows f : List Rat), (rows.foldl putQ f).length ≤ f.length + rows.length
  | [], f => by simp
  | a :: r, f => by
    have h1 := sortQ_len r (putQ f a)
    have h2 := putQ_len f a
    simp only [List.foldl_cons, List.length_cons]
    omega
/-- the pair's own order -/
def ltD (q : Rat) : PyData → Bool
  | .tuple [.int a, .int b] => decide (a * q.den < q.num * b)
  | _ => false
theorem ltD_qD (q r : Rat) : ltD q (qD r) = decide (r < q) := by
  simp only [ltD, qD, Rat.lt_iff]
theorem foldl_take {α β : Type} (g : β → α → β) (b : β) {l : List α} {j : Nat} {x : α} (h : l[j]? = some x) : (l.take (j + 1)).foldl g b = g ((l.take j).foldl g b) x := by
  rw [List.take_add_one, h]
  simp
theorem sorted_ok {iL : Nat} (h : G[i]? = some ⟨1, 5, B_sorted iL, false⟩) (hL : G[iL]? = some ⟨2, 2, B_is_less, false⟩) (rows : List Rat) (hs : ∀ q ∈ rows, SmQ 3000 q) (hn : rows.length ≤ 100000) :
    callN G (n + 2) i [.p (.list (rows.map qD))] S = .ok (.p (.list ((sortQ rows).map qD))) S := by
  have sl : 200000 ≤ sizeLine := by rw [sizeLine_eq]; decide
  obtain ⟨Γ', S', hfor, hI⟩ := forR_list (F := callN G (n + 1)) (t := .nm 2) (b := .seq (.asg (.nm 3) (.bf .len (.cons (.lc (.nm 4) .seq (.cons (.var 1) .nil) (.call iL (.cons (.var 4) (.cons (.var 2) .nil))) (.var 4) [4]) .nil)))
      (.seq (.asg (.nm 1) (.ite (.cmp .isin (.var 2) (.var 1)) (.var 1) (.bin .add (.bin .add (.slcH (.var 1) (.var 3)) (.lst (.cons (.var 2) .nil))) (.slcL (.var 1) (.var 3))))) .skip))
    (Γ := [some (.p (.list (rows.map qD))), some (.p (.list [])), none, none, none]) (S := []) (xs := rows.map qD) (d := .p (.list (rows.map qD)))
    (fun j Γ S => S = [] ∧ ∃ o2 o3, Γ = [some (.p (.list (rows.map qD))), some (.p (.list (((rows.take j).foldl putQ []).map qD))), o2, o3, none]) rfl ⟨rfl, none, none, rfl⟩ (fun j x Γ S hx q => by
      obtain ⟨rfl, o2, o3, rfl⟩ := q
      rw [List.getElem?_map] at hx
      simp only [Option.map_eq_some_iff] at hx
      obtain ⟨q, hq, rfl⟩ := hx
      have hj : j < rows.length := (List.getElem?_eq_some_iff.mp hq).1
      have sq := hs q (List.mem_of_getElem? hq)
      obtain ⟨f, hf⟩ : ∃ f, f = (rows.take j).foldl putQ [] := ⟨_, rfl⟩
      have smf : ∀ r ∈ f, SmQ 3000 r := by
        rw [hf]
        exact sortQ_mem _ _ _ (by simp) fun r hr => hs r (List.mem_of_mem_take hr)
      have lf : f.length ≤ j := by
        rw [hf]
        have := sortQ_len (rows.take j) []
        simp only [List.length_take, List.length_nil] at this
        omega
      rw [← hf]
      have R := lcR_filter (F := callN G (n + 1)) (S := []) (Γ := [some (.p (.list (rows.map qD))), some (.p (.list (f.map qD))), some (.p (qD q)), o3, none]) (i := 4) (c := .call iL (.cons (.var 4) (.cons (.var 2) .nil))) (own := [4]) (xs := f.map qD) (d := .p (.list (f.map qD))) (ltD q) rfl (by simp) (fun x hx => by
        obtain ⟨r, hr, rfl⟩ := List.mem_map.mp hx
        rw [ltD_qD]
        simp only [wipeL, List.set_cons_succ, List.set_cons_zero, evE_call, evL_cons, evL_nil, evE_var, List.getElem?_cons_succ, List.getElem?_cons_zero, Res.bind, c_l1_ap, c_l2_ap, c_e_call1_ap, is_less_ok hL (smf r hr) sq])
      have ef : (f.map qD).filter (ltD q) = (f.filter fun r => decide (r < q)).map qD := by
        rw [List.filter_map]
        congr 1
        apply List.filter_congr
        intro r _
        exact ltD_qD q r
      rw [ef] at R
      have hlen := List.length_filter_le (fun r => decide (r < q)) f
      have st := sorted_step (S := []) (callN G (n + 1)) iL (.p (.list (rows.map qD))) (f.map qD) ((f.filter fun r => decide (r < q)).map qD) (qD q) o3 _ R (in_list q f) (by simpa using hlen) (by rw [List.length_map]; omega) (by rw [List.length_map]; omega)
      have e2 : (if decide (q ∈ f) = true then f.map qD else (f.map qD).take ((f.filter fun r => decide (r < q)).map qD).length ++ [qD q] ++ (f.map qD).drop ((f.filter fun r => decide (r < q)).map qD).length) = (putQ f q).map qD := by
        unfold putQ
        by_cases hm : q ∈ f
        · simp [hm]
        · simp [hm, List.map_take, List.map_drop]
      rw [e2] at st
      refine ⟨_, _, [], rfl, st, rfl, some (.p (qD q)), some (.p (.int ((f.filter fun r => decide (r < q)).map qD).length)), ?_⟩
      rw [foldl_take putQ [] hq, ← hf])
  obtain ⟨rfl, o2, o3, rfl⟩ := hI
  rw [List.take_of_length_le (by simp)] at hfor
  refine call_p h (T := []) ?_
  simp [B_sorted, hfor, sortQ]
end
end Core
set_option Elab.async false
set_option linter.all false
set_option maxHeartbeats 1000000
/-! Core, part Z3: a law's own list of a format's numbers -/
namespace Core
open PySem PySem.W
section
variable {G : List Fn} {n i m : Nat} {S : Store}
def B_numI (iP iT : Nat) : CS := (.seq (.asg (.nm 6) (.bin .add (.var 6) (.lst (.cons (.call iT (.cons (.tup (.cons (.var 7) (.cons (.con (.int 1)) .nil))) (.cons (.call iP (.cons (.var 1) .nil)) .nil))) (.cons (.call iT (.cons (.tup (.cons (.bin .sub (.con (.int 0)) (.var 7)) (.cons (.con (.int 1)) .nil))) (.cons (.call iP (.cons (.var 1) .nil)) .nil))) .nil)))))
  .skip)
def B_numO (iP iT : Nat) : CS := (.seq (.for_ (.nm 7) .rng2 (.cons (.con (.int 0)) (.cons (.var 5) .nil)) (B_numI iP iT))
  .skip)
def B_law_numbers (iP iT iS : Nat) : CS := (.seq (.asg (.cons (.nm 2) (.cons (.nm 3) (.cons (.nm 4) .nil))) (.var 0))
  (.seq (.par [5, 6] (.cons (.idx (.call iP (.cons (.var 2) .nil)) (.con (.int 0))) (.cons (.lst .nil) .nil)))
  (.seq (.for_ (.nm 1) .rng2 (.cons (.var 3) (.cons (.bin .add (.var 4) (.con (.int 1))) .nil)) (B_numO iP iT))
  (.seq (.ret (.call iS (.cons (.var 6) .nil)))
  .skip))))
theorem num_inner (F : Calls) (iP iT : Nat) (t bt lo hi top : Option D) (pw s : Int) (fs : List PyData) (P a b : PyData) (hP : F iP [.p (.int pw)] [] = .ok (.p P) []) (h1 : F iT [.p (.tuple [.int s, .int 1]), .p P] [] = .ok (.p a) []) (h2 : F iT [.p (.tuple [.int (0 - s), .int 1]), .p P] [] = .ok (.p b) []) (hz : fs.length + 2 ≤ sizeLine) :
    evS F (B_numI iP iT) [t, some (.p (.int pw)), bt, lo, hi, top, some (.p (.list fs)), some (.p (.int s))] [] = .nx [t, some (.p (.int pw)), bt, lo, hi, top, some (.p (.list (fs ++ [a, b]))), some (.p (.int s))] [] := by
  rw [Int.zero_sub] at h2
  simp [B_numI, hP, h1, h2, hz, two_line]
theorem num_outer (F : Calls) (iP iT : Nat) (t bt lo hi : Option D) (top pw : Int) (fs gs : List PyData) (o o' : Option D) (hfor : forR F (.nm 7) .rng2 (B_numI iP iT) [t, some (.p (.int pw)), bt, lo, hi, some (.p (.int top)), some (.p (.list fs)), o] [.p (.int 0), .p (.int top)] [] = .nx [t, some (.p (.int pw)), bt, lo, hi, some (.p (.int top)), some (.p (.list gs)), o'] []) :
    evS F (B_numO iP iT) [t, some (.p (.int pw)), bt, lo, hi, some (.p (.int top)), some (.p (.list fs)), o] [] = .nx [t, some (.p (.int pw)), bt, lo, hi, some (.p (.int top)), some (.p (.list gs)), o'] [] := by
  simp [B_numO, hfor]
theorem num_fin (F : Calls) (iP iT iS : Nat) (b lo hi top : Int) (gs rs : List PyData) (o1 o7 : Option D) (hP : F iP [.p (.int b)] [] = .ok (.p (.tuple [.int top, .int 1])) [])
    (hfor : forR F (.nm 1) .rng2 (B_numO iP iT) [some (.p (.tuple [.int b, .int lo, .int hi])), none, some (.p (.int b)), some (.p (.int lo)), some (.p (.int hi)), some (.p (.int top)), some (.p (.list [])), none] [.p (.int lo), .p (.int (hi + 1))] [] = .nx [some (.p (.tuple [.int b, .int lo, .int hi])), o1, some (.p (.int b)), some (.p (.int lo)), some (.p (.int hi)), some (.p (.int top)), some (.p (.list gs)), o7] [])
    (hS : F iS [.p (.list gs)] [] = .ok (.p (.list rs)) []) :
    evS F (B_law_numbers iP iT iS) (startL 8 [.p (.tuple [.int b, .int lo, .int hi])]) [] = .rt (.p (.list rs)) [] := by
  simp [B_law_numbers, hP, hfor, hS]
def pairQ (pw : Int) (s : Nat) : List Rat := [(((s : Int)) : Rat) * P2 pw, ((((0 : Int) - (s : Int)) : Int) : Rat) * P2 pw]
def rowsQ (b : Nat) (low : Int) (k : Nat) : List Rat := (List.range k).flatMap fun (j : Nat) => (List.range (2 ^ b)).flatMap (pairQ (low + (j : Int)))
theorem flatMap_succ {β : Type} (f : Nat → List β) (m : Nat) : (List.range (m + 1)).flatMap f = (List.range m).flatMap f ++ f m := by
  rw [List.range_succ, List.flatMap_append]
  simp
theorem pair_len (pw : Int) : ∀ m, ((List.range m).flatMap (pairQ pw)).length = 2 * m
  | 0 => rfl
  | m + 1 => by
    rw [flatMap_succ, List.length_append, pair_len pw m]
    simp only [pairQ, List.length_cons, List.length_nil]
    omega
theorem rows_len (b : Nat) (low : Int) : ∀ k, (rowsQ b low k).length = 2 * 2 ^ b * k
  | 0 => by simp [rowsQ]
  | k + 1 => by
    have := rows_len b low k
    unfold rowsQ at this ⊢
    rw [flatMap_succ, List.length_append, this, pair_len, Nat.mul_succ]
theorem sm_small (z : Int) (h : z.natAbs ≤ 300) : Sm 3000 z := (sm_of (k := 10) h (by decide)).mono (by decide)
theorem smQ_mulP2 {z pw : Int} (hz : z.natAbs ≤ 300) (hp : pw.natAbs ≤ 1000) : SmQ 3000 ((z : Rat) * P2 pw) := by
  rw [← mul_divInt]
  have s1 := sm_of (k := 10) hz (by decide)
  have s2 := smQ_P2 (k := 1001) (p := pw) (by omega)
  have hd : ((z : Rat).den : Int) * (P2 pw).den ≠ 0 := den_mul_ne _ _
  have e := frac_eq ((z : Rat).num * (P2 pw).num) (((z : Rat).den : Int) * (P2 pw).den) hd
  have m1 : Sm 1100 ((z : Rat).num * (P2 pw).num) := (Sm.mul (j := 10) s1 s2.1).mono (by decide)
  have m2 : Sm 1100 (((z : Rat).den : Int) * (P2 pw).den) := (Sm.mul (j := 10) (Sm.mono (j := 1) (Sm.one 0) (by decide)) s2.2).mono (by decide)
  generalize (z : Rat).num * (P2 pw).num = A at *
  generalize ((z : Rat).den : Int) * (P2 pw).den = B at *
  have d1 : (Rat.divInt A B).num.natAbs ≤ A.natAbs := by
    rw [Rat.num_divInt]
    have : (B.sign * A / (B.gcd A : Nat)).natAbs ≤ (B.sign * A).natAbs := Int.natAbs_ediv_le_natAbs _ _
    have h2 : (B.sign * A).natAbs ≤ A.natAbs := by
      rw [Int.natAbs_mul]
      have : B.sign.natAbs ≤ 1 := by
        rcases Int.lt_trichotomy B 0 with h | h | h
        · rw [Int.sign_eq_neg_one_of_neg h]; decide
        · rw [h]; decide
        · rw [Int.sign_eq_one_of_pos h]; decide
      calc B.sign.natAbs * A.natAbs ≤ 1 * A.natAbs := Nat.mul_le_mul_right _ this
        _ = A.natAbs := Nat.one_mul _
    omega
  have d2 : (Rat.divInt A B).den ≤ B.natAbs := by
    rw [Rat.den_divInt, if_neg hd]
    exact Nat.div_le_self _ _
  refine ⟨Sm.mono (j := 1100) ?_ (by decide), Sm.mono (j := 1100) ?_ (by decide)⟩
  · unfold Sm at *
    omega
  · unfold Sm at *
    rw [Int.natAbs_natCast]
    omega
theorem law_numbers_ok {iP iT iS iL f : Nat} (h : G[i]? = some ⟨1, 8, B_law_numbers iP iT iS, false⟩) (hP : G[iP]? = some ⟨1, 3, B_law_power, false⟩) (hT : G[iT]? = some ⟨2, 2, B_times f, false⟩) (hf : FracFn G f) (hS : G[iS]? = some ⟨1, 5, B_sorted iL, false⟩) (hL : G[iL]? = some ⟨2, 2, B_is_less, false⟩) {b : Nat} (hb : b ≤ 8) {low : Int} {k : Nat} (hl : low.natAbs ≤ 900) (hk : k ≤ 100) :
    callN G (n + 3) i [.p (.tuple [.int b, .int low, .int (low + k)])] S = .ok (.p (.list ((sortQ (rowsQ b low (k + 1))).map qD))) S := by
  obtain ⟨P, hPw⟩ : ∃ P : Nat, P = 2 ^ b := ⟨_, rfl⟩
  have hP8 : P ≤ 256 := by rw [hPw]; exact two_pow_le (c := 8) hb
  have sl : 200000 ≤ sizeLine := by rw [sizeLine_eq]; decide
  have inner : ∀ (pw : Int) (fs : List Rat) (o : Option D), pw.natAbs ≤ 1000 → fs.length ≤ 60000 → ∃ o', forR (callN G (n + 2)) (.nm 7) .rng2 (B_numI iP iT) [some (.p (.tuple [.int b, .int low, .int (low + k)])), some (.p (.int pw)), some (.p (.int b)), some (.p (.int low)), some (.p (.int (low + k))), some (.p (.int P)), some (.p (.list (fs.map qD))), o] [.p (.int 0), .p (.int P)] [] =
      .nx [some (.p (.tuple [.int b, .int low, .int (low + k)])), some (.p (.int pw)), some (.p (.int b)), some (.p (.int low)), some (.p (.int (low + k))), some (.p (.int P)), some (.p (.list ((fs ++ (List.range P).flatMap (pairQ pw)).map qD))), o'] [] := by
    intro pw fs o hpw hfs
    obtain ⟨Γ', S', hfor, hI⟩ := forR_rng (F := callN G (n + 2)) (t := .nm 7) (k := .rng2) (b := B_numI iP iT) (Γ := [some (.p (.tuple [.int b, .int low, .int (low + k)])), some (.p (.int pw)), some (.p (.int b)), some (.p (.int low)), some (.p (.int (low + k))), some (.p (.int P)), some (.p (.list (fs.map qD))), o]) (S := []) (ds := [.p (.int 0), .p (.int P)]) (lo := 0) (m := P)
      (fun j Γ S => S = [] ∧ ∃ o', Γ = [some (.p (.tuple [.int b, .int low, .int (low + k)])), some (.p (.int pw)), some (.p (.int b)), some (.p (.int low)), some (.p (.int (low + k))), some (.p (.int P)), some (.p (.list ((fs ++ (List.range j).flatMap (pairQ pw)).map qD))), o']) (by
        rw [src_rng2 (by omega) (by omega)]
        simp) ⟨rfl, o, by simp⟩ (fun j Γ S hj q => by
        obtain ⟨rfl, o', rfl⟩ := q
        have e0 : (0 : Int) + (j : Int) = (j : Int) := by omega
        rw [e0]
        have hl2 := pair_len pw j
        have a1 := times_ok (n := n) (S := []) hT hf (p := ((j : Int) : Rat)) (q := P2 pw) (smQ_int (k := 2999) (sm_small _ (by omega))) (smQ_P2 (by omega))
        have a2 := times_ok (n := n) (S := []) hT hf (p := ((((0 : Int) - (j : Int)) : Int) : Rat)) (q := P2 pw) (smQ_int (k := 2999) (sm_small _ (by omega))) (smQ_P2 (by omega))
        have st := num_inner (callN G (n + 2)) iP iT (some (.p (.tuple [.int b, .int low, .int (low + k)]))) (some (.p (.int b))) (some (.p (.int low))) (some (.p (.int (low + k)))) (some (.p (.int P))) pw (j : Int) ((fs ++ (List.range j).flatMap (pairQ pw)).map qD) _ _ _ (law_power_ok (n := n + 1) hP (by omega)) a1 a2 (by
          rw [List.length_map, List.length_append, hl2]
          omega)
        refine ⟨_, _, [], rfl, st, rfl, some (.p (.int j)), ?_⟩
        rw [flatMap_succ, ← List.append_assoc, List.map_append (l₂ := pairQ pw j)]
        rfl)
    obtain ⟨rfl, o', rfl⟩ := hI
    exact ⟨o', hfor⟩
  obtain ⟨Γ', S', hfor, hI⟩ := forR_rng (F := callN G (n + 2)) (t := .nm 1) (k := .rng2) (b := B_numO iP iT) (Γ := [some (.p (.tuple [.int b, .int low, .int (low + k)])), none, some (.p (.int b)), some (.p (.int low)), some (.p (.int (low + k))), some (.p (.int P)), some (.p (.list [])), none]) (S := []) (ds := [.p (.int low), .p (.int (low + k + 1))]) (lo := low) (m := k + 1)
    (fun j Γ S => S = [] ∧ ∃ o1 o7, Γ = [some (.p (.tuple [.int b, .int low, .int (low + k)])), o1, some (.p (.int b)), some (.p (.int low)), some (.p (.int (low + k))), some (.p (.int P)), some (.p (.list ((rowsQ b low j).map qD))), o7]) (by
      rw [src_rng2 (by omega) (by omega)]
      congr 2
      omega) ⟨rfl, none, none, rfl⟩ (fun j Γ S hj q => by
      obtain ⟨rfl, o1, o7, rfl⟩ := q
      have hl3 := rows_len b low j
      rw [← hPw] at hl3
      have hl4 : 2 * P * j ≤ 512 * 101 := Nat.mul_le_mul (by omega) (by omega)
      obtain ⟨o', hin⟩ := inner (low + j) (rowsQ b low j) o7 (by omega) (by omega)
      have st := num_outer (callN G (n + 2)) iP iT _ _ _ _ P (low + j) _ _ _ _ hin
      refine ⟨_, _, [], rfl, st, rfl, some (.p (.int (low + j))), o', ?_⟩
      unfold rowsQ
      rw [flatMap_succ, ← hPw])
  obtain ⟨rfl, o1, o7, rfl⟩ := hI
  have hl3 := rows_len b low (k + 1)
  rw [← hPw] at hl3
  have hl4 : 2 * P * (k + 1) ≤ 512 * 101 := Nat.mul_le_mul (by omega) (by omega)
  have sm : ∀ q ∈ rowsQ b low (k + 1), SmQ 3000 q := fun q hq => by
    unfold rowsQ at hq
    rw [← hPw] at hq
    simp only [List.mem_flatMap, List.mem_range, pairQ, List.mem_cons, List.not_mem_nil, or_false] at hq
    obtain ⟨j, hj, s, hs, rfl | rfl⟩ := hq
    · exact smQ_mulP2 (by omega) (by omega)
    · exact smQ_mulP2 (by omega) (by omega)
  have hp2 := law_power_ok (n := n + 1) (S := []) hP (p := (b : Int)) (by omega)
  rw [qD_P2, if_pos (by omega), Int.toNat_natCast, ← hPw] at hp2
  exact call_p h (T := []) (num_fin (callN G (n + 2)) iP iT iS b low (low + k) P _ _ o1 o7 hp2 hfor (sorted_ok hS hL _ sm (by omega)))
end
end Core
set_option Elab.async false
set_option linter.all false
set_option maxHeartbeats 1000000
/-! Core, part Z4: the two lists of a format's numbers are one (plain mathematics) -/
namespace Core
open PySem
abbrev Up (l : List Rat) : Prop := l.Pairwise (· < ·)
theorem lt_trans' {a b c : Rat} (h1 : a < b) (h2 : b < c) : a < c := Rat.lt_of_le_of_ne (Rat.le_trans (Rat.le_of_lt h1) (Rat.le_of_lt h2)) fun e => by
  subst e
  have := Rat.not_lt.mpr (Rat.le_of_lt h1)
  exact this h2
theorem up_split (q : Rat) : ∀ {f : List Rat}, Up f → f.filter (fun r => decide (r < q)) ++ f.filter (fun r => !decide (r < q)) = f
  | [], _ => rfl
  | a :: f, h => by
    obtain ⟨h1, h2⟩ := List.pairwise_cons.mp h
    by_cases ha : a < q
    · simp only [List.filter_cons, ha, decide_true, if_true, Bool.not_true, Bool.false_eq_true, if_false, List.cons_append]
      rw [up_split q h2]
    · have e1 : f.filter (fun r => decide (r < q)) = [] := by
        rw [List.filter_eq_nil_iff]
        intro x hx z
        exact ha (lt_trans' (h1 x hx) (by simpa using z))
      have e2 : f.filter (fun r => !decide (r < q)) = f := by
        rw [List.filter_eq_self]
        intro x hx
        simp only [Bool.not_eq_true', decide_eq_false_iff_not]
        exact fun z => ha (lt_trans' (h1 x hx) z)
      simp [List.filter_cons, ha, e1, e2]
theorem putQ_up {f : List Rat} (q : Rat) (h : Up f) : Up (putQ f q) ∧ ∀ x, x ∈ putQ f q ↔ x ∈ f ∨ x = q := by
  unfold putQ
  by_cases hq : q ∈ f
  · rw [if_pos hq]
    refine ⟨h, fun x => ⟨.inl, fun z => z.elim id fun e => e ▸ hq⟩⟩
  · rw [if_neg hq]
    have sp := up_split q h
    generalize hA : f.filter (fun r => decide (r < q)) = A at *
    generalize hB : f.filter (fun r => !decide (r < q)) = B at *
    have t1 : f.take A.length = A := by rw [← sp]; simp
    have t2 : f.drop A.length = B := by rw [← sp]; simp
    rw [t1, t2]
    have up : Up (A ++ B) := by rw [sp]; exact h
    obtain ⟨uA, uB, uAB⟩ := List.pairwise_append.mp up
    have a1 : ∀ x ∈ A, x < q := fun x hx => by
      rw [← hA] at hx
      simpa using (List.mem_filter.mp hx).2
    have b1 : ∀ x ∈ B, q < x := fun x hx => by
      have hx2 := hx
      rw [← hB] at hx
      have h1 := List.mem_filter.mp hx
      have h2 : ¬ x < q := by simpa using h1.2
      exact Rat.lt_of_le_of_ne (Rat.not_lt.mp h2) fun e => hq (e ▸ h1.1)
    refine ⟨?_, fun x => ?_⟩
    · refine List.pairwise_append.mpr ⟨List.pairwise_append.mpr ⟨uA, by simp, fun x hx y hy => ?_⟩, uB, fun x hx y hy => ?_⟩
      · rw [List.mem_singleton.mp hy]
        exact a1 x hx
      · rcases List.mem_append.mp hx with z | z
        · exact uAB x z y hy
        · rw [List.mem_singleton.mp z]
          exact b1 y hy
    · rw [← sp]
      simp only [List.mem_append, List.mem_singleton]
      constructor
      · rintro ((z | z) | z)
        · exact .inl (.inl z)
        · exact .inr z
        · exact .inl (.inr z)
      · rintro ((z | z) | z)
        · exact .inl (.inl z)
        · exact .inr z
        · exact .inl (.inr z)
theorem sortQ_up : ∀ (rows f : List Rat), Up f → Up (rows.foldl putQ f) ∧ ∀ x, x ∈ rows.foldl putQ f ↔ x ∈ f ∨ x ∈ rows
  | [], f, h => ⟨h, fun x => by simp⟩
  | a :: r, f, h => by
    obtain ⟨h1, h2⟩ := putQ_up a h
    obtain ⟨h3, h4⟩ := sortQ_up r (putQ f a) h1
    refine ⟨h3, fun x => ?_⟩
    rw [List.foldl_cons, h4, h2, List.mem_cons]
    constructor
    · rintro ((z | z) | z)
      · exact .inl z
      · exact .inr (.inl z)
      · exact .inr (.inr z)
    · rintro (z | z | z)
      · exact .inl (.inl z)
      · exact .inl (.inr z)
      · exact .inr z
theorem up_ext : ∀ {l m : List Rat}, Up l → Up m → (∀ x, x ∈ l ↔ x ∈ m) → l = m
  | [], [], _, _, _ => rfl
  | [], b :: m, _, _, h => by have := (h b).mpr List.mem_cons_self; cases this
  | a :: l, [], _, _, h => by have := (h a).mp List.mem_cons_self; cases this
  | a :: l, b :: m, h1, h2, h => by
    obtain ⟨p1, p2⟩ := List.pairwise_cons.mp h1
    obtain ⟨q1, q2⟩ := List.pairwise_cons.mp h2
    have e : a = b := by
      rcases List.mem_cons.mp ((h a).mp List.mem_cons_self) with z | z
      · exact z
      · rcases List.mem_cons.mp ((h b).mpr List.mem_cons_self) with y | y
        · exact y.symm
        · exact absurd (lt_trans' (q1 a z) (p1 b y)) Rat.lt_irrefl
    subst e
    rw [up_ext p2 q2 fun x => ?_]
    constructor
    · intro hx
      rcases List.mem_cons.mp ((h x).mp (List.mem_cons_of_mem _ hx)) with z | z
      · subst z; exact absurd (p1 x hx) Rat.lt_irrefl
      · exact z
    · intro hx
      rcases List.mem_cons.mp ((h x).mpr (List.mem_cons_of_mem _ hx)) with z | z
      · subst z; exact absurd (q1 x hx) Rat.lt_irrefl
      · exact z
theorem sortQ_eq {rows L : List Rat} (h : Up L) (hm : ∀ x, x ∈ rows ↔ x ∈ L) : sortQ rows = L := by
  obtain ⟨h1, h2⟩ := sortQ_up rows [] .nil
  exact up_ext h1 h fun x => by
    show x ∈ rows.foldl putQ [] ↔ _
    rw [h2, ← hm]
    simp
/-! ### powers -/
theorem P2_pos (p : Int) : 0 < P2 p := Rat.zpow_pos (by decide)
theorem P2_succ (p : Int) : P2 (p + 1) = 2 * P2 p := by
  unfold P2
  rw [Rat.zpow_add_one (by decide), Rat.mul_comm]
theorem mulP2_lt {a b p : Int} : ((a : Rat) * P2 p < (b : Rat) * P2 p) ↔ a < b := by
  rw [Rat.mul_lt_mul_right (P2_pos p), Rat.intCast_lt_intCast]
theorem mulP2_two (a p : Int) : (a : Rat) * P2 (p + 1) = ((2 * a : Int) : Rat) * P2 p := by
  rw [P2_succ, ← Rat.mul_assoc, Rat.intCast_mul, Rat.mul_comm (a : Rat) 2]
  rfl
theorem up_run (c p : Int) (m : Nat) : Up ((List.range m).map fun (j : Nat) => (((c + (j : Int)) : Int) : Rat) * P2 p) := by
  refine List.pairwise_map.mpr ?_
  refine List.Pairwise.imp ?_ (List.pairwise_lt_range (n := m))
  intro a b hab
  rw [mulP2_lt]
  omega
theorem sizeK_lim (b : Nat) (hb : 1 ≤ b) (low : Int) : ∀ k, Up (sizeK b low k) ∧ ∀ x ∈ sizeK b low k, 0 < x ∧ x < (((2 ^ b : Nat) : Int) : Rat) * P2 (low + k)
  | 0 => by
    refine ⟨up_run 1 low _, fun x hx => ?_⟩
    simp only [sizeK, size0, List.mem_map, List.mem_range] at hx
    obtain ⟨j, hj, rfl⟩ := hx
    have e : low + ((0 : Nat) : Int) = low := by omega
    rw [e, mulP2_lt]
    refine ⟨Rat.mul_pos (Rat.intCast_pos.mpr (by omega)) (P2_pos _), ?_⟩
    generalize 2 ^ b = B at *
    omega
  | k + 1 => by
    obtain ⟨h1, h2⟩ := sizeK_lim b hb low k
    have e1 : 2 * 2 ^ (b - 1) = 2 ^ b := by
      rw [← Nat.pow_succ']
      congr 1
      omega
    have step : (((2 ^ b : Nat) : Int) : Rat) * P2 (low + k) = (((2 ^ (b - 1) : Nat) : Int) : Rat) * P2 (low + 1 + k) := by
      have : low + 1 + (k : Int) = (low + k) + 1 := by omega
      rw [this, mulP2_two, ← e1]
      simp
    have e3 : low + ((k + 1 : Nat) : Int) = low + 1 + k := by omega
    rw [e3]
    have m2 : ∀ y ∈ size1 b (low + 1 + k), (((2 ^ (b - 1) : Nat) : Int) : Rat) * P2 (low + 1 + k) ≤ y ∧ y < (((2 ^ b : Nat) : Int) : Rat) * P2 (low + 1 + k) := fun y hy => by
      simp only [size1, List.mem_map, List.mem_range] at hy
      obtain ⟨j, hj, rfl⟩ := hy
      rw [mulP2_lt, ← Rat.not_lt, mulP2_lt]
      generalize 2 ^ b = B at *
      generalize 2 ^ (b - 1) = B1 at *
      omega
    have lt1 : (((2 ^ (b - 1) : Nat) : Int) : Rat) * P2 (low + 1 + k) < (((2 ^ b : Nat) : Int) : Rat) * P2 (low + 1 + k) := by
      rw [mulP2_lt]
      have : 0 < 2 ^ (b - 1) := Nat.pow_pos (by decide)
      generalize 2 ^ b = B at *
      generalize 2 ^ (b - 1) = B1 at *
      omega
    have pos1 : 0 < (((2 ^ (b - 1) : Nat) : Int) : Rat) * P2 (low + 1 + k) := Rat.mul_pos (Rat.intCast_pos.mpr (by
      have : 0 < 2 ^ (b - 1) := Nat.pow_pos (by decide)
      omega)) (P2_pos _)
    refine ⟨?_, fun x hx => ?_⟩
    · refine List.pairwise_append.mpr ⟨h1, up_run _ _ _, fun x hx y hy => ?_⟩
      have q1 := (h2 x hx).2
      rw [step] at q1
      rcases Rat.le_iff_lt_or_eq.mp (m2 y hy).1 with z | z
      · exact lt_trans' q1 z
      · rw [← z]; exact q1
    · rcases List.mem_append.mp hx with z | z
      · refine ⟨(h2 x z).1, ?_⟩
        have q1 := (h2 x z).2
        rw [step] at q1
        exact lt_trans' q1 lt1
      · refine ⟨?_, (m2 x z).2⟩
        rcases Rat.le_iff_lt_or_eq.mp (m2 x z).1 with y | y
        · exact lt_trans' pos1 y
        · rw [← y]; exact pos1
theorem numL_up {b : Nat} (hb : 1 ≤ b) (low : Int) (k : Nat) : Up (numL b low k) := by
  obtain ⟨h1, h2⟩ := sizeK_lim b hb low k
  unfold numL
  refine List.pairwise_append.mpr ⟨List.pairwise_append.mpr ⟨?_, by simp, fun x hx y hy => ?_⟩, h1, fun x hx y hy => ?_⟩
  · rw [List.pairwise_map, List.pairwise_reverse]
    exact h1.imp fun h => Rat.neg_lt_neg h
  · rw [List.mem_singleton.mp hy]
    obtain ⟨z, hz, rfl⟩ := List.mem_map.mp hx
    have := (h2 z (List.mem_reverse.mp hz)).1
    have := Rat.neg_lt_neg this
    simpa using this
  · have py := (h2 y hy).1
    rcases List.mem_append.mp hx with z | z
    · obtain ⟨w, hw, rfl⟩ := List.mem_map.mp z
      have pw := (h2 w (List.mem_reverse.mp hw)).1
      have := Rat.neg_lt_neg pw
      exact lt_trans' (by simpa using this) py
    · rw [List.mem_singleton.mp z]
      exact py
theorem sizeK_sub (b : Nat) (low : Int) {x : Rat} {j : Nat} (h : x ∈ sizeK b low j) : ∀ d, x ∈ sizeK b low (j + d)
  | 0 => h
  | d + 1 => List.mem_append.mpr (.inl (sizeK_sub b low h d))
theorem sizeK_all {b : Nat} (hb : 1 ≤ b) (low : Int) : ∀ (j : Nat) (s : Nat), 1 ≤ s → s < 2 ^ b → (((s : Int)) : Rat) * P2 (low + j) ∈ sizeK b low j
  | 0, s, h1, h2 => by
    have e : low + ((0 : Nat) : Int) = low := by omega
    rw [e]
    simp only [sizeK, size0, List.mem_map, List.mem_range]
    refine ⟨s - 1, by omega, ?_⟩
    have : (1 : Int) + ((s - 1 : Nat) : Int) = (s : Int) := by omega
    rw [this]
  | j + 1, s, h1, h2 => by
    have e1 : 2 * 2 ^ (b - 1) = 2 ^ b := by
      rw [← Nat.pow_succ']
      congr 1
      omega
    by_cases hs : 2 ^ (b - 1) ≤ s
    · refine List.mem_append.mpr (.inr ?_)
      simp only [size1, List.mem_map, List.mem_range]
      refine ⟨s - 2 ^ (b - 1), by omega, ?_⟩
      have e2 : ((2 ^ (b - 1) : Nat) : Int) + ((s - 2 ^ (b - 1) : Nat) : Int) = (s : Int) := by
        generalize 2 ^ (b - 1) = B at *
        omega
      have e3 : low + 1 + (j : Int) = low + ((j + 1 : Nat) : Int) := by omega
      rw [e2, e3]
    · refine List.mem_append.mpr (.inl ?_)
      have e4 : low + ((j + 1 : Nat) : Int) = (low + j) + 1 := by omega
      rw [e4, mulP2_two]
      have := sizeK_all hb low j (2 * s) (by omega) (by omega)
      have e5 : (((2 * s : Nat) : Int)) = 2 * (s : Int) := by omega
      rw [e5] at this
      exact this
theorem sizeK_form (b : Nat) (hb : 1 ≤ b) (low : Int) : ∀ (k : Nat) (x : Rat), x ∈ sizeK b low k → ∃ j s : Nat, j ≤ k ∧ 1 ≤ s ∧ s < 2 ^ b ∧ x = ((s : Int) : Rat) * P2 (low + j)
  | 0, x, h => by
    simp only [sizeK, size0, List.mem_map, List.mem_range] at h
    obtain ⟨j, hj, rfl⟩ := h
    refine ⟨0, 1 + j, by omega, by omega, by omega, ?_⟩
    have e : low + ((0 : Nat) : Int) = low := by omega
    have e2 : (((1 + j : Nat)) : Int) = 1 + (j : Int) := by omega
    rw [e, e2]
  | k + 1, x, h => by
    rcases List.mem_append.mp h with z | z
    · obtain ⟨j, s, h1, h2⟩ := sizeK_form b hb low k x z
      exact ⟨j, s, by omega, h2⟩
    · simp only [size1, List.mem_map, List.mem_range] at z
      obtain ⟨j, hj, rfl⟩ := z
      have : 0 < 2 ^ (b - 1) := Nat.pow_pos (by decide)
      refine ⟨k + 1, 2 ^ (b - 1) + j, by omega, by omega, by omega, ?_⟩
      have e : low + ((k + 1 : Nat) : Int) = low + 1 + (k : Int) := by omega
      have e2 : (((2 ^ (b - 1) + j : Nat)) : Int) = ((2 ^ (b - 1) : Nat) : Int) + (j : Int) := by omega
      rw [e, e2]
theorem neg_mulP2 (s : Int) (p : Int) : (((0 - s : Int)) : Rat) * P2 p = -((s : Rat) * P2 p) := by
  rw [Int.zero_sub, Rat.intCast_neg, Rat.neg_mul]
theorem rows_mem {b : Nat} (hb : 1 ≤ b) (low : Int) (k : Nat) (x : Rat) : x ∈ rowsQ b low (k + 1) ↔ x ∈ numL b low k := by
  have pos : 0 < 2 ^ b := Nat.pow_pos (by decide)
  unfold rowsQ numL
  simp only [List.mem_flatMap, List.mem_range, pairQ, List.mem_cons, List.not_mem_nil, or_false, List.mem_append, List.mem_map, List.mem_reverse, List.mem_singleton]
  constructor
  · rintro ⟨j, hj, s, hs, h⟩
    by_cases h0 : s = 0
    · subst h0
      refine .inl (.inr ?_)
      rcases h with rfl | rfl <;> simp
    · have m := sizeK_all hb low j s (by omega) hs
      have m2 := sizeK_sub b low m (k - j)
      have e : j + (k - j) = k := by omega
      rw [e] at m2
      rcases h with rfl | rfl
      · exact .inr m2
      · exact .inl (.inl ⟨_, m2, (neg_mulP2 _ _).symm⟩)
  · rintro ((⟨y, hy, rfl⟩ | rfl) | h)
    · obtain ⟨j, s, h1, h2, h3, rfl⟩ := sizeK_form b hb low k y hy
      exact ⟨j, by omega, s, h3, .inr (neg_mulP2 _ _).symm⟩
    · exact ⟨0, by omega, 0, pos, .inl (by simp)⟩
    · obtain ⟨j, s, h1, h2, h3, rfl⟩ := sizeK_form b hb low k x h
      exact ⟨j, by omega, s, h3, .inl rfl⟩
/-- the law's list is the program's -/
theorem sort_rows {b : Nat} (hb : 1 ≤ b) (low : Int) (k : Nat) : sortQ (rowsQ b low (k + 1)) = numL b low k := sortQ_eq (numL_up hb low k) (rows_mem hb low k)
end Core
set_option Elab.async false
set_option linter.all false
set_option maxHeartbeats 1000000
/-! Core, part Z5: what holds of a format's numbers (plain mathematics) -/
namespace Core
open PySem
theorem numL_neg {b : Nat} {low : Int} {k : Nat} {q : Rat} (h : q ∈ numL b low k) : -q ∈ numL b low k := by
  unfold numL at *
  simp only [List.mem_append, List.mem_map, List.mem_reverse, List.mem_singleton] at *
  rcases h with (⟨y, hy, rfl⟩ | rfl) | h
  · exact .inr (by rw [Rat.neg_neg]; exact hy)
  · exact .inl (.inr (by simp))
  · exact .inl (.inl ⟨q, h, rfl⟩)
theorem numL_zero (b : Nat) (low : Int) (k : Nat) : (0 : Rat) ∈ numL b low k := by
  unfold numL
  simp
theorem numL_wide {b c : Nat} (hb : 1 ≤ b) (hc : b ≤ c) {low : Int} {k : Nat} {q : Rat} (h : q ∈ numL b low k) : q ∈ numL c low k := by
  rw [← rows_mem (by omega)]
  rw [← rows_mem hb] at h
  have : 2 ^ b ≤ 2 ^ c := Nat.pow_le_pow_right (by decide) hc
  unfold rowsQ at *
  simp only [List.mem_flatMap, List.mem_range] at *
  obtain ⟨j, hj, s, hs, h⟩ := h
  exact ⟨j, hj, s, by omega, h⟩
theorem numL_long {b : Nat} (hb : 1 ≤ b) {low : Int} {k m : Nat} (hm : k ≤ m) {q : Rat} (h : q ∈ numL b low k) : q ∈ numL b low m := by
  rw [← rows_mem hb]
  rw [← rows_mem hb] at h
  unfold rowsQ at *
  simp only [List.mem_flatMap, List.mem_range] at *
  obtain ⟨j, hj, s, hs, h⟩ := h
  exact ⟨j, by omega, s, hs, h⟩
theorem mulP2_shift (z p : Int) : (z : Rat) * P2 (p + 1) = (z : Rat) * P2 p * 2 := by
  rw [P2_succ, Rat.mul_comm 2, Rat.mul_assoc]
theorem size_shift (b : Nat) (low : Int) : ∀ k, sizeK b (low + 1) k = (sizeK b low k).map (· * 2)
  | 0 => by
    simp only [sizeK, size0, List.map_map]
    apply List.map_congr_left
    intro j _
    exact mulP2_shift _ _
  | k + 1 => by
    simp only [sizeK, List.map_append, size_shift b low k]
    congr 1
    simp only [size1, List.map_map]
    apply List.map_congr_left
    intro j _
    have : low + 1 + 1 + (k : Int) = (low + 1 + k) + 1 := by omega
    rw [this]
    exact mulP2_shift _ _
theorem numL_shift (b : Nat) (low : Int) (k : Nat) : numL b (low + 1) k = (numL b low k).map (· * 2) := by
  unfold numL
  rw [size_shift]
  simp only [List.map_append, List.map_map, List.map_reverse, List.map_cons, List.map_nil, Rat.zero_mul]
  congr 3
  apply List.map_congr_left
  intro q _
  simp [Rat.neg_mul]
theorem size_last {b : Nat} (hb : 1 ≤ b) (low : Int) (k : Nat) : (sizeK b low k).getLast? = some (((((2 ^ b : Nat) : Int) - 1 : Int) : Rat) * P2 (low + k)) := by
  have e1 : 2 * 2 ^ (b - 1) = 2 ^ b := by
    rw [← Nat.pow_succ']
    congr 1
    omega
  have pos : 0 < 2 ^ (b - 1) := Nat.pow_pos (by decide)
  have run : ∀ (c p : Int) (m : Nat), 0 < m → ((List.range m).map fun (j : Nat) => (((c + (j : Int)) : Int) : Rat) * P2 p).getLast? = some ((((c + (m : Int) - 1) : Int) : Rat) * P2 p) := fun c p m hm => by
    rw [List.getLast?_map, List.getLast?_range, if_neg (by omega)]
    simp only [Option.map_some]
    have : c + ((m - 1 : Nat) : Int) = c + m - 1 := by omega
    rw [this]
  cases k with
  | zero =>
    simp only [sizeK, size0]
    rw [run _ _ _ (by omega)]
    have e : low + ((0 : Nat) : Int) = low := by omega
    have e2 : (1 : Int) + ((2 ^ b - 1 : Nat) : Int) - 1 = ((2 ^ b : Nat) : Int) - 1 := by
      generalize 2 ^ b = B at *
      omega
    rw [e, e2]
  | succ k =>
    simp only [sizeK, size1]
    rw [List.getLast?_append, run _ _ _ (by omega)]
    have e : low + ((k + 1 : Nat) : Int) = low + 1 + k := by omega
    have e2 : ((2 ^ (b - 1) : Nat) : Int) + ((2 ^ b - 2 ^ (b - 1) : Nat) : Int) - 1 = ((2 ^ b : Nat) : Int) - 1 := by
      generalize 2 ^ b = B at *
      generalize 2 ^ (b - 1) = B1 at *
      omega
    rw [e, e2]
    rfl
theorem numL_last {b : Nat} (hb : 1 ≤ b) (low : Int) (k : Nat) : (numL b low k).getLast? = some (((((2 ^ b : Nat) : Int) - 1 : Int) : Rat) * P2 (low + k)) := by
  unfold numL
  rw [List.getLast?_append, size_last hb]
  rfl
theorem sizeK_length {b : Nat} (hb : 1 ≤ b) (low : Int) : ∀ k, (sizeK b low k).length = 2 ^ b - 1 + k * 2 ^ (b - 1)
  | 0 => by simp [sizeK, size0]
  | k + 1 => by
    have e1 : 2 * 2 ^ (b - 1) = 2 ^ b := by
      rw [← Nat.pow_succ']
      congr 1
      omega
    simp only [sizeK, size1, List.length_append, List.length_map, List.length_range, sizeK_length hb low k, Nat.add_mul, Nat.one_mul]
    generalize k * 2 ^ (b - 1) = m
    omega
theorem numL_length {b : Nat} (hb : 1 ≤ b) (low : Int) (k : Nat) : (numL b low k).length = 2 * (2 ^ b - 1) + 1 + 2 * (k * 2 ^ (b - 1)) := by
  unfold numL
  simp only [List.length_append, List.length_map, List.length_reverse, List.length_singleton, sizeK_length hb]
  omega
theorem eqv_list : ∀ l : List Rat, PyData.eqvAll (l.map qD) (l.map qD) = true
  | [] => by simp [PyData.eqvAll]
  | a :: l => by simp [PyData.eqvAll, eqv_qD, eqv_list l]
theorem eqP_tuple (l : List Rat) : eqP (.tuple (l.map qD)) (.tuple (l.map qD)) = some true := by
  have h2 : fits (.tuple (l.map qD)) = true := fits_of (k := 2) (fitK_tup fun x hx => by
    obtain ⟨r, _, rfl⟩ := List.mem_map.mp hx
    exact fitK_qD 0 r)
  simp [eqP, h2, PyData.eqv, eqv_list]
theorem numL_sm {b : Nat} (hb : 1 ≤ b) (hb8 : b ≤ 8) {low : Int} (hl : low.natAbs ≤ 500) {k : Nat} (hk : k ≤ 100) {q : Rat} (h : q ∈ numL b low k) : SmQ 3000 q := by
  rw [← rows_mem hb] at h
  have hP : 2 ^ b ≤ 256 := two_pow_le (c := 8) hb8
  unfold rowsQ at h
  simp only [List.mem_flatMap, List.mem_range, pairQ, List.mem_cons, List.not_mem_nil, or_false] at h
  obtain ⟨j, hj, s, hs, rfl | rfl⟩ := h
  · exact smQ_mulP2 (by omega) (by omega)
  · exact smQ_mulP2 (by omega) (by omega)
end Core
set_option Elab.async false
set_option linter.all false
set_option maxHeartbeats 1000000
/-! Core, part Z6: the greatest number; is a value a number of a format -/
namespace Core
open PySem PySem.W
section
variable {G : List Fn} {n i w t p : Nat} {S : Store} {b : Nat} {low : Int} {k : Nat}
def B_greatest_by (t w p : Nat) : CS := (.seq (.ret (.call t (.cons (.call w (.cons (.bin .sub (.bin .shl (.con (.int 1)) (.var 0)) (.con (.int 1))) .nil)) (.cons (.call p (.cons (.var 1) .nil)) .nil)))) .skip)
theorem greatest_fin (F : Calls) (t w p : Nat) (b hi P : Int) (x y z : PyData) (sh : ∀ S, opB S .shl (.p (.int 1)) (.p (.int b)) = some (.int P)) (h1 : F w [.p (.int (P - 1))] [] = .ok (.p x) []) (h2 : F p [.p (.int hi)] [] = .ok (.p y) []) (h3 : F t [.p x, .p y] [] = .ok (.p z) []) :
    evS F (B_greatest_by t w p) (startL 2 [.p (.int b), .p (.int hi)]) [] = .rt (.p z) [] := by
  simp [B_greatest_by, sh, h1, h2, h3]
theorem greatest_by_ok (h : G[i]? = some ⟨2, 2, B_greatest_by t w p, false⟩) (X : FmtIx G w t p) (hb : b ≤ 8) {hi : Int} (hh : hi.natAbs ≤ 1000) : callN G (n + 3) i [.p (.int b), .p (.int hi)] S = .ok (.p (qD (((((2 ^ b : Nat) : Int) - 1 : Int) : Rat) * P2 hi))) S := by
  have hP : 2 ^ b ≤ 256 := two_pow_le (c := 8) hb
  have hs : Sm 3000 (((2 ^ b : Nat) : Int) - 1) := sm_small _ (by
    generalize 2 ^ b = B at *
    omega)
  obtain ⟨a1, a2, a3⟩ := X.one (n := n + 1) (S := []) hs (q := hi) (by omega)
  obtain ⟨_, _, a4⟩ := X.one (n := n) (S := []) hs (q := hi) (by omega)
  refine call_p h (T := []) (greatest_fin _ t w p b hi ((2 ^ b : Nat) : Int) _ _ _ (fun S => ?_) a1 a2 a4)
  rw [shl_one (by omega) (by omega), Int.toNat_natCast]
def B_is_fraction_by (iT iW : Nat) : CS := (.seq (.ite (.or (.not (.call iT (.cons (.var 0) (.cons (.con (.int 2)) .nil)))) (.or (.not (.call iW (.cons (.idx (.var 0) (.con (.int 0))) .nil))) (.or (.not (.call iW (.cons (.idx (.var 0) (.con (.int 1))) .nil))) (.cmp .le (.idx (.var 0) (.con (.int 1))) (.con (.int 0)))))) (.seq (.ret (.con (.bool false))) .skip) .skip)
  (.seq (.ret (.cmp .eq (.bf .gcd (.cons (.idx (.var 0) (.con (.int 0))) (.cons (.idx (.var 0) (.con (.int 1))) .nil))) (.con (.int 1)))) .skip))
def tupOf : PyData → Int → Bool
  | .tuple xs, k => decide ((xs.length : Int) = k)
  | _, _ => false
theorem tuple_of_ok (h : G[i]? = some ⟨2, 2, B_is_tuple_of, false⟩) (x : PyData) (z : Int) : callN G (n + 1) i [.p x, .p (.int z)] S = .ok (.p (.bool (tupOf x z))) S := by
  refine call_p h (T := []) ?_
  cases x <;> simp [B_is_tuple_of, tupOf]
theorem isfrac_no (F : Calls) (iT iW : Nat) (x : PyData) (h1 : F iT [.p x, .p (.int 2)] [] = .ok (.p (.bool false)) []) : evS F (B_is_fraction_by iT iW) (startL 1 [.p x]) [] = .rt (.p (.bool false)) [] := by
  simp [B_is_fraction_by, h1]
theorem isfrac_two (F : Calls) (iT iW : Nat) (x y : PyData) (h1 : F iT [.p (.tuple [x, y]), .p (.int 2)] [] = .ok (.p (.bool true)) []) (h2 : F iW [.p x] [] = .ok (.p (.bool false)) []) : evS F (B_is_fraction_by iT iW) (startL 1 [.p (.tuple [x, y])]) [] = .rt (.p (.bool false)) [] := by
  simp [B_is_fraction_by, h1, h2]
theorem isfrac_int (F : Calls) (iT iW : Nat) (x y : Int) (h1 : F iT [.p (.tuple [.int x, .int y]), .p (.int 2)] [] = .ok (.p (.bool true)) []) (h2 : ∀ z : Int, F iW [.p (.int z)] [] = .ok (.p (.bool true)) []) :
    evS F (B_is_fraction_by iT iW) (startL 1 [.p (.tuple [.int x, .int y])]) [] = .rt (.p (.bool (decide (0 < y) && decide (Nat.gcd x.natAbs y.natAbs = 1)))) [] := by
  by_cases hy : y ≤ 0
  · have : ¬ 0 < y := by omega
    simp [B_is_fraction_by, h1, h2, hy, this]
  · have : 0 < y := by omega
    have e : ∀ m : Nat, decide ((m : Int) = 1) = decide (m = 1) := fun m => by
      by_cases hm : m = 1
      · simp [hm]
      · have : ¬ (m : Int) = 1 := by omega
        rw [decide_eq_false hm, decide_eq_false this]
    simp [B_is_fraction_by, h1, h2, hy, this]
    omega
/-- what a fraction is -/
def isFrac : PyData → Bool
  | .tuple [.int x, .int y] => decide (0 < y) && decide (Nat.gcd x.natAbs y.natAbs = 1)
  | _ => false
theorem isfrac_qD (q : Rat) : isFrac (qD q) = true := by
  have h := den_pos q
  have r := q.reduced
  simp only [isFrac, qD, Int.natAbs_natCast, Bool.and_eq_true, decide_eq_true_eq]
  exact ⟨h, r⟩
theorem is_fraction_ok {iT iW : Nat} (h : G[i]? = some ⟨1, 1, B_is_fraction_by iT iW, false⟩) (hT : G[iT]? = some ⟨2, 2, B_is_tuple_of, false⟩) (hW : G[iW]? = some ⟨1, 1, B_is_whole, false⟩) (x : PyData) (hx : ∀ a y, x = .tuple [.int a, y] → ∃ z, y = .int z) :
    callN G (n + 2) i [.p x] S = .ok (.p (.bool (isFrac x))) S := by
  have no : tupOf x 2 = false → isFrac x = false → callN G (n + 2) i [.p x] S = .ok (.p (.bool (isFrac x))) S := fun h1 h2 => by
    rw [h2]
    exact call_p h (T := []) (isfrac_no _ iT iW x (by rw [tuple_of_ok hT, h1]))
  cases x with
  | tuple xs =>
    match xs, hx with
    | [], _ => exact no rfl rfl
    | [a], _ => exact no rfl (by cases a <;> rfl)
    | a :: b :: c :: l, _ => exact no (by simp [tupOf]; omega) (by cases a <;> cases b <;> rfl)
    | [a, y], hx =>
      by_cases ha : wholeP a = true
      · obtain ⟨u, rfl⟩ : ∃ u, a = .int u := by cases a <;> first | exact ⟨_, rfl⟩ | cases ha
        obtain ⟨z, rfl⟩ := hx u y rfl
        exact call_p h (T := []) (isfrac_int _ iT iW u z (by rw [tuple_of_ok hT]; rfl) fun z => by rw [is_whole_ok hW]; rfl)
      · have e : isFrac (.tuple [a, y]) = false := by
          cases a <;> first | rfl | exact absurd rfl ha
        rw [e]
        exact call_p h (T := []) (isfrac_two _ iT iW a y (by rw [tuple_of_ok hT]; rfl) (by rw [is_whole_ok hW]; simp only [Bool.not_eq_true] at ha; rw [ha]))
  | _ => exact no rfl rfl
def B_is_number_of (iS iH iF iN : Nat) : CS := (.seq (.expr (.call iS (.cons (.var 0) (.cons (.var 1) .nil))))
  (.seq (.expr (.call iH (.cons (.var 1) (.cons (.var 2) .nil))))
  (.seq (.ret (.and (.call iF (.cons (.var 3) .nil)) (.cmp .isin (.var 3) (.call iN (.cons (.var 0) (.cons (.var 1) (.cons (.var 2) .nil)))))))
  .skip)))
theorem isnum_fin (F : Calls) (iS iH iF iN : Nat) (b lo hi x r : PyData) (f c : Bool) (h1 : F iS [.p b, .p lo] [] = .ok (.p .none) []) (h2 : F iH [.p lo, .p hi] [] = .ok (.p .none) []) (h3 : F iF [.p x] [] = .ok (.p (.bool f)) []) (h4 : F iN [.p b, .p lo, .p hi] [] = .ok (.p r) []) (h5 : f = true → inP x r = some c) :
    evS F (B_is_number_of iS iH iF iN) (startL 4 [.p b, .p lo, .p hi, .p x]) [] = .rt (.p (.bool (f && c))) [] := by
  cases f with
  | true => simp [B_is_number_of, h1, h2, h3, h4, h5 rfl]
  | false => simp [B_is_number_of, h1, h2, h3]
end
end Core
set_option Elab.async false
set_option linter.all false
set_option maxHeartbeats 1000000
/-! Core, part Z7: one of some -/
namespace Core
open PySem PySem.W
section
variable {G : List Fn} {n i m iB : Nat} {S : Store}
def B_one (iB : Nat) : CS := (.seq (.ret (.idx (.var 1) (.call iB (.cons (.var 0) (.cons (.bf .len (.cons (.var 1) .nil)) .nil))))) .skip)
theorem one_fin (F : Calls) (iB : Nat) (xs : List PyData) (y : PyData) (r : Nat) (S S' : Store) (hd : F iB [.loc 0, .p (.int xs.length)] S = .ok (.p (.int r)) S') (hr : L2.atI (xs.map D.p) (r : Int) = some (.p y)) :
    evS F (B_one iB) (startL 2 [.loc 0, .p (.tuple xs)]) S = .rt (.p y) S' := by
  simp [B_one, hd, hr]
theorem one_finL (F : Calls) (iB : Nat) (xs : List PyData) (y : PyData) (r : Nat) (S S' : Store) (hd : F iB [.loc 0, .p (.int xs.length)] S = .ok (.p (.int r)) S') (hr : L2.atI (xs.map D.p) (r : Int) = some (.p y)) :
    evS F (B_one iB) (startL 2 [.loc 0, .p (.list xs)]) S = .rt (.p y) S' := by
  simp [B_one, hd, hr]
theorem Pool.cons {N : Nat} (P : Pool S 0 N) : ∃ (ys : List PyData) (T : Store), S = .lst (ys.map D.p) :: T ∧ ∃ a b c : Int, ys = [.int a, .int b, .int c] ∧ 0 ≤ a ∧ 0 ≤ b ∧ b < 2147483648 ∧ 0 ≤ c ∧ c ≤ N := by
  obtain ⟨a, b, c, h1, h2, h3, h4, h5, h6⟩ := P.ex
  cases S with
  | nil => simp at h1
  | cons x T =>
    simp at h1
    subst h1
    exact ⟨[.int a, .int b, .int c], T, rfl, a, b, c, rfl, h2, h3, h4, h5, h6⟩
theorem one_ok {c1 c2 c3 : Int} (h : G[i]? = some ⟨2, 2, B_one iB, false⟩) (hB : G[iB]? = some ⟨2, 4, B_below c1 c2 c3, false⟩) (hc1 : c1.natAbs ≤ 1000000) (hc2 : c2.natAbs ≤ 1000000) (hc3 : 0 ≤ c3 ∧ c3 ≤ 1000000) {N : Nat} (P : Pool S m N) (hN : N ≤ 1000000000) (xs : List PyData) (hx : 0 < xs.length) (hx2 : xs.length ≤ 1000000) :
    ∃ y S', y ∈ xs ∧ callN G (n + 2) i [.loc m, .p (.tuple xs)] S = .ok (.p y) S' ∧ Pool S' m (N + 1) ∧ S'.length = S.length ∧ ∀ j, j ≠ m → S'[j]? = S[j]? := by
  obtain ⟨a, b, c, h1, h2, h3, h4, h5, h6⟩ := P.ex
  have lm : m < S.length := (List.getElem?_eq_some_iff.mp h1).1
  have P0 : Pool [Cell.lst (([.int a, .int b, .int c] : List PyData).map D.p)] 0 N := ⟨a, b, c, rfl, h2, h3, h4, h5, h6⟩
  obtain ⟨r, S1, d1, d2, d3, d4, d5, _⟩ := below_ok (n := n) hB hc1 hc2 hc3 P0 hN (k := (xs.length : Int)) (by omega) (by omega)
  obtain ⟨ys, T, rfl, a', b', c', rfl, q⟩ := d4.cons
  obtain ⟨r', rfl⟩ := Int.eq_ofNat_of_zero_le d2
  have hr : r' < xs.length := by omega
  have hi : L2.atI (xs.map D.p) (r' : Int) = some (.p xs[r']) := by
    rw [atI_nat _ _ (by simpa using hr)]
    simp [hr]
  have := call_1 (n := n + 1) (m := m) (S := S) (ds := [.loc m, .p (.tuple xs)]) (xs := [.int a, .int b, .int c]) (ys := [.int a', .int b', .int c']) (T := T) (y := xs[r']) h h1 (one_fin _ iB xs _ r' _ _ d1 hi)
  refine ⟨xs[r'], _, List.getElem_mem hr, this, ⟨a', b', c', ?_, q⟩, by simp, fun j hj => ?_⟩
  · rw [List.getElem?_set_self lm]
    rfl
  · rw [List.getElem?_set_ne (Ne.symm hj)]
end
end Core
set_option Elab.async false
set_option linter.all false
set_option maxHeartbeats 1000000
/-! Core, part Z8: rounding, in plain Lean -/
namespace Core
theorem P2_add_nat (p : Int) (k : Nat) : P2 (p + k) = P2 p * (((2 ^ k : Nat) : Int) : Rat) := by
  induction k with
  | zero => simp
  | succ k ih =>
    have e : p + ((k + 1 : Nat) : Int) = (p + k) + 1 := by omega
    rw [e, P2_succ, ih, Nat.pow_succ]
    have : (((2 ^ k * 2 : Nat) : Int) : Rat) = (((2 ^ k : Nat) : Int) : Rat) * 2 := by
      rw [Int.natCast_mul, Rat.intCast_mul]
      rfl
    rw [this]
    grind
theorem one_le_pow2 (k : Nat) : (1 : Rat) ≤ (((2 ^ k : Nat) : Int) : Rat) := by
  have : (1 : Int) ≤ ((2 ^ k : Nat) : Int) := by
    have := Nat.pow_pos (n := k) (show 0 < 2 by decide)
    omega
  exact Rat.intCast_le_intCast.mpr this
theorem P2_mono {p r : Int} (h : p ≤ r) : P2 p ≤ P2 r := by
  obtain ⟨k, rfl⟩ : ∃ k : Nat, r = p + k := ⟨(r - p).toNat, by omega⟩
  rw [P2_add_nat]
  have h1 := P2_pos p
  have h2 := one_le_pow2 k
  have h3 := Rat.mul_le_mul_of_nonneg_left h2 (Rat.le_of_lt h1)
  grind
theorem abs_neg' (q : Rat) : (-q).abs = q.abs := by
  unfold Rat.abs
  by_cases h : 0 ≤ q
  · by_cases h2 : 0 ≤ -q
    · rw [if_pos h, if_pos h2]; grind
    · rw [if_pos h, if_neg h2]; grind
  · by_cases h2 : 0 ≤ -q
    · rw [if_neg h, if_pos h2]
    · rw [if_neg h, if_neg h2]; grind
theorem abs_cases (q : Rat) : (0 ≤ q ∧ q.abs = q) ∨ (q < 0 ∧ q.abs = -q) := by
  unfold Rat.abs
  by_cases h : 0 ≤ q
  · rw [if_pos h]; exact .inl ⟨h, rfl⟩
  · rw [if_neg h]; exact .inr ⟨by grind, rfl⟩
theorem abs_mul_pos (q r : Rat) (hr : 0 < r) : (q * r).abs = q.abs * r := by
  rcases abs_cases q with ⟨h, e⟩ | ⟨h, e⟩
  · rw [e]
    have := Rat.mul_nonneg h (Rat.le_of_lt hr)
    rcases abs_cases (q * r) with ⟨h2, e2⟩ | ⟨h2, e2⟩
    · exact e2
    · grind
  · rw [e]
    have : q * r < 0 := by
      have := (Rat.mul_lt_mul_right hr).mpr h
      grind
    rcases abs_cases (q * r) with ⟨h2, e2⟩ | ⟨h2, e2⟩
    · grind
    · rw [e2]; grind
/-- the power by which a fraction is rounded -/
def Pw (b : Nat) (low : Int) (q : Rat) (p : Int) : Prop := low ≤ p ∧ q.abs < P2 (b + p) ∧ (p = low ∨ P2 (b + p - 1) ≤ q.abs)
theorem pw_ex (b : Nat) (low : Int) (q : Rat) : ∀ k : Nat, q.abs < P2 (b + (low + k)) → ∃ p, Pw b low q p ∧ p ≤ low + k
  | 0, h => ⟨low, ⟨Int.le_refl _, by simpa using h, .inl rfl⟩, by omega⟩
  | k + 1, h => by
    by_cases h1 : q.abs < P2 (b + (low + k))
    · obtain ⟨p, h2, h3⟩ := pw_ex b low q k h1
      exact ⟨p, h2, by omega⟩
    · refine ⟨low + (k + 1 : Nat), ⟨by omega, h, .inr ?_⟩, Int.le_refl _⟩
      have e : (b : Int) + (low + (k + 1 : Nat)) - 1 = b + (low + k) := by omega
      rw [e]
      exact Rat.not_lt.mp h1
theorem Pw.neg {b : Nat} {low : Int} {q : Rat} {p : Int} (h : Pw b low q p) : Pw b low (-q) p := by
  unfold Pw at *
  rw [abs_neg']
  exact h
theorem Pw.twice {b : Nat} {low : Int} {q : Rat} {p : Int} (h : Pw b low q p) : Pw b (low + 1) (q * 2) (p + 1) := by
  obtain ⟨h1, h2, h3⟩ := h
  have e : (q * 2).abs = q.abs * 2 := abs_mul_pos q 2 (by decide)
  have e1 : P2 (b + (p + 1)) = 2 * P2 (b + p) := by rw [← P2_succ]; congr 1; omega
  refine ⟨by omega, ?_, ?_⟩
  · rw [e, e1]; grind
  · rcases h3 with h3 | h3
    · exact .inl (by omega)
    · refine .inr ?_
      have e2 : P2 (b + (p + 1) - 1) = 2 * P2 (b + p - 1) := by rw [← P2_succ]; congr 1; omega
      rw [e, e2]; grind
theorem Pw.lower {b : Nat} {low : Int} {q : Rat} {p c : Int} (h : Pw b low q p) (h1 : low ≤ c) (h2 : c < p) : P2 (b + c) ≤ q.abs := by
  obtain ⟨_, _, h3⟩ := h
  rcases h3 with h3 | h3
  · omega
  · exact Rat.le_trans (P2_mono (by omega)) h3
/-! ### rounding to whole numbers -/
inductive Way | even | away | zero | down | up
deriving DecidableEq
def Way.flip : Way → Way
  | .even => .even | .away => .away | .zero => .zero | .down => .up | .up => .down
def nearZ (ev : Bool) (s : Rat) : Int :=
  if s - s.floor ≠ 1 / 2 then (if s - s.floor < 1 / 2 then s.floor else s.floor + 1)
  else if ev then (if s.floor % 2 = 0 then s.floor else s.floor + 1) else (if 0 < s then s.floor + 1 else s.floor)
def cei (s : Rat) : Int := -(-s).floor
def rtn : Way → Rat → Int
  | .even, s => nearZ true s
  | .away, s => nearZ false s
  | .zero, s => if 0 ≤ s then s.floor else cei s
  | .down, s => s.floor
  | .up, s => cei s
theorem floor_of {s : Rat} {d : Int} (h1 : (d : Rat) ≤ s) (h2 : s < (d : Rat) + 1) : s.floor = d := by
  have a := Rat.le_floor_iff.mpr h1
  have b : s.floor < d + 1 := by
    rw [← Int.not_le]
    intro h
    have := Rat.le_floor_iff.mp h
    rw [Rat.intCast_add] at this
    have e : ((1 : Int) : Rat) = 1 := rfl
    rw [e] at this
    grind
  omega
theorem floor_le' (s : Rat) : (s.floor : Rat) ≤ s := Rat.le_floor_iff.mp (Int.le_refl _)
theorem lt_floor' (s : Rat) : s < (s.floor : Rat) + 1 := by
  rw [← Rat.not_le]
  intro h
  have e : ((1 : Int) : Rat) = 1 := rfl
  have : ((s.floor + 1 : Int) : Rat) ≤ s := by rw [Rat.intCast_add, e]; exact h
  have := Rat.le_floor_iff.mpr this
  omega
theorem floor_neg (s : Rat) : (s - s.floor = 0 ∧ (-s).floor = -s.floor) ∨ (s - s.floor ≠ 0 ∧ (-s).floor = -s.floor - 1) := by
  have h1 := floor_le' s
  have h2 := lt_floor' s
  have e : ((1 : Int) : Rat) = 1 := rfl
  by_cases h : s - s.floor = 0
  · refine .inl ⟨h, floor_of ?_ ?_⟩ <;> rw [Rat.intCast_neg] <;> grind
  · refine .inr ⟨h, floor_of ?_ ?_⟩ <;> rw [Rat.intCast_sub, Rat.intCast_neg, e] <;> grind
theorem near_neg (ev : Bool) (s : Rat) : nearZ ev (-s) = -nearZ ev s := by
  have h1 := floor_le' s
  have h2 := lt_floor' s
  have e : ((1 : Int) : Rat) = 1 := rfl
  rcases floor_neg s with ⟨a, b⟩ | ⟨a, b⟩
  · have c : -s - ((-s).floor : Rat) = 0 := by rw [b, Rat.intCast_neg]; grind
    unfold nearZ
    rw [c, a, b]
    have z : (0 : Rat) ≠ 1 / 2 := by decide +kernel
    have z2 : (0 : Rat) < 1 / 2 := by decide +kernel
    rw [if_pos z, if_pos z, if_pos z2, if_pos z2]
  · have c : -s - ((-s).floor : Rat) = 1 - (s - s.floor) := by rw [b, Rat.intCast_sub, Rat.intCast_neg, e]; grind
    unfold nearZ
    rw [c, b]
    by_cases k : s - s.floor = 1 / 2
    · have k2 : 1 - (s - s.floor) = 1 / 2 := by grind
      have k3 : ¬ (1 - (s - (s.floor : Rat)) ≠ 1 / 2) := fun z => z k2
      have k4 : ¬ (s - (s.floor : Rat) ≠ 1 / 2) := fun z => z k
      rw [if_neg k3, if_neg k4]
      cases ev with
      | true =>
        simp only [if_true]
        by_cases m : s.floor % 2 = 0
        · have m2 : ¬ (-s.floor - 1) % 2 = 0 := by omega
          rw [if_neg m2, if_pos m]; omega
        · have m2 : (-s.floor - 1) % 2 = 0 := by omega
          rw [if_pos m2, if_neg m]; omega
      | false =>
        simp only [Bool.false_eq_true, if_false]
        by_cases m : 0 < s
        · have m2 : ¬ 0 < -s := by grind
          rw [if_neg m2, if_pos m]; omega
        · have m2 : 0 < -s := by
            have : s ≠ 0 := by
              rintro rfl
              have : (0 : Rat).floor = 0 := rfl
              rw [this] at k
              revert k
              decide +kernel
            grind
          rw [if_pos m2, if_neg m]; omega
    · have k2 : 1 - (s - s.floor) ≠ 1 / 2 := by grind
      rw [if_pos k2, if_pos k]
      by_cases m : s - s.floor < 1 / 2
      · have m2 : ¬ 1 - (s - s.floor) < 1 / 2 := by grind
        rw [if_neg m2, if_pos m]; omega
      · have m2 : 1 - (s - s.floor) < 1 / 2 := by grind
        rw [if_pos m2, if_neg m]; omega
theorem rtn_flip (w : Way) (s : Rat) : rtn w.flip (-s) = -rtn w s := by
  cases w with
  | even => exact near_neg true s
  | away => exact near_neg false s
  | zero =>
    show (if 0 ≤ -s then (-s).floor else cei (-s)) = -(if 0 ≤ s then s.floor else cei s)
    unfold cei
    rw [Rat.neg_neg]
    by_cases h : 0 ≤ s
    · rw [if_pos h]
      by_cases h2 : 0 ≤ -s
      · rw [if_pos h2]
        have : s = 0 := by grind
        rw [this]
        rfl
      · rw [if_neg h2]
    · have h2 : 0 ≤ -s := by grind
      rw [if_neg h, if_pos h2]; omega
  | down =>
    show cei (-s) = -s.floor
    unfold cei
    rw [Rat.neg_neg]
  | up =>
    show (-s).floor = -cei s
    unfold cei
    omega
/-! ### rounding to a format -/
def gr (b : Nat) (hi : Int) : Rat := ((((2 ^ b : Nat) : Int) - 1 : Int) : Rat) * P2 hi
def rnd (b : Nat) (hi : Int) (w : Way) (p : Int) (q : Rat) : Option Rat :=
  if gr b hi < ((rtn w (q / P2 p) : Rat) * P2 p).abs then none else some ((rtn w (q / P2 p) : Rat) * P2 p)
theorem rnd_flip (b : Nat) (hi : Int) (w : Way) (p : Int) (q : Rat) : rnd b hi w.flip p (-q) = (rnd b hi w p q).map (fun x => -x) := by
  unfold rnd
  have e : -q / P2 p = -(q / P2 p) := by
    rw [Rat.div_def, Rat.div_def]; grind
  have e2 : ((-rtn w (q / P2 p) : Int) : Rat) * P2 p = -((rtn w (q / P2 p) : Rat) * P2 p) := by rw [Rat.intCast_neg]; grind
  rw [e, rtn_flip, e2, abs_neg']
  split <;> rfl
theorem gr_succ (b : Nat) (hi : Int) : gr b (hi + 1) = gr b hi * 2 := by
  unfold gr
  rw [P2_succ]
  grind
theorem rnd_twice (b : Nat) (hi : Int) (w : Way) (p : Int) (q : Rat) : rnd b (hi + 1) w (p + 1) (q * 2) = (rnd b hi w p q).map (fun x => x * 2) := by
  unfold rnd
  have pp := P2_pos p
  have e : q * 2 / P2 (p + 1) = q / P2 p := by
    rw [P2_succ]
    have : q * 2 / (2 * P2 p) = q / P2 p := by
      rw [Rat.div_def, Rat.div_def, Rat.inv_mul_rev]
      have : (2 : Rat) * 2⁻¹ = 1 := by decide +kernel
      grind
    exact this
  have e2 : (rtn w (q / P2 p) : Rat) * P2 (p + 1) = (rtn w (q / P2 p) : Rat) * P2 p * 2 := by rw [P2_succ]; grind
  rw [e, e2, gr_succ, abs_mul_pos _ _ (by decide)]
  by_cases h : gr b hi < ((rtn w (q / P2 p) : Rat) * P2 p).abs
  · rw [if_pos h, if_pos (by grind)]; rfl
  · rw [if_neg h, if_neg (by grind)]; rfl
/-! ### last below, first above -/
theorem last_below {L : List Rat} (h : Up L) {q x : Rat} (hx : x ∈ L) (hq : x < q) (hm : ∀ y ∈ L, y < q → y ≤ x) : (L.filter (fun r => decide (r < q))).getLast? = some x := by
  have u : Up (L.filter (fun r => decide (r < q))) := h.filter _
  have m : x ∈ L.filter (fun r => decide (r < q)) := List.mem_filter.mpr ⟨hx, decide_eq_true hq⟩
  have all : ∀ y ∈ L.filter (fun r => decide (r < q)), y ≤ x := fun y hy => by
    obtain ⟨a, b⟩ := List.mem_filter.mp hy
    exact hm y a (of_decide_eq_true b)
  generalize L.filter (fun r => decide (r < q)) = l at u m all
  have ne : l ≠ [] := by rintro rfl; cases m
  rw [List.getLast?_eq_some_getLast ne]
  congr 1
  have hl := all _ (List.getLast_mem ne)
  have sp := List.dropLast_concat_getLast ne
  rw [← sp] at m u
  rcases List.mem_append.mp m with z | z
  · have := (List.pairwise_append.mp u).2.2 x z _ (List.mem_singleton.mpr rfl)
    exact absurd this (Rat.not_lt.mpr hl)
  · exact (List.mem_singleton.mp z).symm
theorem first_above {L : List Rat} (h : Up L) {q x : Rat} (hx : x ∈ L) (hq : q < x) (hm : ∀ y ∈ L, q < y → x ≤ y) : (L.filter (fun r => decide (q < r))).head? = some x := by
  have u : Up (L.filter (fun r => decide (q < r))) := h.filter _
  have m : x ∈ L.filter (fun r => decide (q < r)) := List.mem_filter.mpr ⟨hx, decide_eq_true hq⟩
  have all : ∀ y ∈ L.filter (fun r => decide (q < r)), x ≤ y := fun y hy => by
    obtain ⟨a, b⟩ := List.mem_filter.mp hy
    exact hm y a (of_decide_eq_true b)
  generalize L.filter (fun r => decide (q < r)) = l at u m all
  cases l with
  | nil => cases m
  | cons a l =>
    rw [List.head?_cons]
    congr 1
    have h1 := all a List.mem_cons_self
    rcases List.mem_cons.mp m with z | z
    · exact z.symm
    · have := (List.pairwise_cons.mp u).1 x z
      exact absurd this (Rat.not_lt.mpr h1)
/-- the numbers of a format, by what they are -/
def Nums (b : Nat) (low : Int) (k : Nat) (L : List Rat) : Prop := ∀ x, x ∈ L ↔ ∃ (n : Int) (j : Nat), j ≤ k ∧ n.natAbs < 2 ^ b ∧ x = (n : Rat) * P2 (low + j)
theorem Nums.neg {b : Nat} {low : Int} {k : Nat} {L : List Rat} (h : Nums b low k L) {x : Rat} (hx : x ∈ L) : -x ∈ L := by
  obtain ⟨n, j, h1, h2, rfl⟩ := (h x).mp hx
  exact (h _).mpr ⟨-n, j, h1, by omega, by rw [Rat.intCast_neg]; grind⟩
theorem icast_add (a b : Int) : ((a + b : Int) : Rat) = (a : Rat) + b := Rat.intCast_add a b
theorem icast_one : ((1 : Int) : Rat) = 1 := rfl
theorem mul_le_P2 {x y r : Rat} (hr : 0 < r) : x * r ≤ y * r ↔ x ≤ y := by
  rw [← Rat.not_lt, ← Rat.not_lt, Rat.mul_lt_mul_right hr]
theorem le_P2 {x y : Rat} (p : Int) (h : x ≤ y) : x * P2 p ≤ y * P2 p := (mul_le_P2 (P2_pos p)).mpr h
theorem Nums.great {b : Nat} {low : Int} {k : Nat} {L : List Rat} (h : Nums b low k L) {x : Rat} (hx : x ∈ L) : x.abs ≤ gr b (low + k) := by
  obtain ⟨n, j, h1, h2, rfl⟩ := (h x).mp hx
  have hB : ((2 ^ b : Nat) : Int) = ((2 ^ b : Nat) : Int) := rfl
  rw [abs_mul_pos _ _ (P2_pos _)]
  have a1 : (n : Rat).abs ≤ ((((2 ^ b : Nat) : Int) - 1 : Int) : Rat) := by
    rcases abs_cases (n : Rat) with ⟨c, e⟩ | ⟨c, e⟩
    · rw [e]; exact Rat.intCast_le_intCast.mpr (by generalize 2 ^ b = B at *; omega)
    · rw [e, ← Rat.intCast_neg]; exact Rat.intCast_le_intCast.mpr (by generalize 2 ^ b = B at *; omega)
  have a0 : (0 : Rat) ≤ ((((2 ^ b : Nat) : Int) - 1 : Int) : Rat) := by
    have : (0 : Int) ≤ ((2 ^ b : Nat) : Int) - 1 := by
      have := Nat.pow_pos (n := b) (show 0 < 2 by decide)
      generalize 2 ^ b = B at *
      omega
    exact Rat.intCast_le_intCast.mpr this
  have a2 : P2 (low + j) ≤ P2 (low + k) := P2_mono (by omega)
  have a3 := le_P2 (low + j) a1
  have a4 := Rat.mul_le_mul_of_nonneg_left a2 a0
  unfold gr
  exact Rat.le_trans a3 a4
theorem gr_lt (b : Nat) (hi : Int) : gr b hi < P2 (b + hi) := by
  have e : P2 (b + hi) = P2 hi * (((2 ^ b : Nat) : Int) : Rat) := by rw [← P2_add_nat]; congr 1; omega
  rw [e]
  unfold gr
  rw [Rat.intCast_sub, icast_one]
  have := P2_pos hi
  grind
theorem Pw.le {b : Nat} {low : Int} {k : Nat} {q : Rat} {p : Int} (hp : Pw b low q p) (hq : q.abs ≤ gr b (low + k)) : p ≤ low + k := by
  by_cases h : p ≤ low + k
  · exact h
  · have h1 := hp.lower (c := low + k) (by omega) (by omega)
    have h2 := gr_lt b (low + k)
    grind
theorem down_is {b : Nat} (hb : 1 ≤ b) {low : Int} {k : Nat} {L : List Rat} (hm : Nums b low k L) {q : Rat} {p : Int} (hq : q.abs ≤ gr b (low + k)) (hn : q ∉ L) (hp : Pw b low q p) :
    ((q / P2 p).floor : Rat) * P2 p ∈ L ∧ ((q / P2 p).floor : Rat) * P2 p < q ∧ ∀ y ∈ L, y < q → y ≤ ((q / P2 p).floor : Rat) * P2 p := by
  have hpk := hp.le hq
  have pp := P2_pos p
  have sq : q = (q / P2 p) * P2 p := (Rat.div_mul_cancel (Rat.ne_of_gt pp)).symm
  generalize q / P2 p = s at sq
  have f1 := floor_le' s
  have f2 := lt_floor' s
  have le : (s.floor : Rat) * P2 p ≤ q := by rw [sq]; exact le_P2 p f1
  have eB : P2 (b + p) = (((2 ^ b : Nat) : Int) : Rat) * P2 p := by
    have : P2 (b + p) = P2 p * (((2 ^ b : Nat) : Int) : Rat) := by rw [← P2_add_nat]; congr 1; omega
    rw [this]; grind
  have lt := hp.2.1
  rw [eB, sq, abs_mul_pos _ _ pp] at lt
  have lt2 := (Rat.mul_lt_mul_right pp).mp lt
  have r1 : s.floor < ((2 ^ b : Nat) : Int) := by
    have : (s.floor : Rat) < (((2 ^ b : Nat) : Int) : Rat) := by
      rcases abs_cases s with ⟨c, e⟩ | ⟨c, e⟩ <;> grind
    exact Rat.intCast_lt_intCast.mp this
  have r2 : -((2 ^ b : Nat) : Int) ≤ s.floor := by
    apply Rat.le_floor_iff.mpr
    rw [Rat.intCast_neg]
    rcases abs_cases s with ⟨c, e⟩ | ⟨c, e⟩ <;> grind
  have memL : (s.floor : Rat) * P2 p ∈ L := by
    by_cases h : s.floor = -((2 ^ b : Nat) : Int)
    · by_cases h2 : p = low + k
      · exfalso
        have : q.abs ≤ ((((2 ^ b : Nat) : Int) - 1 : Int) : Rat) * P2 p := by
          rw [h2]
          exact hq
        rw [sq, abs_mul_pos _ _ pp] at this
        have t := (mul_le_P2 pp).mp this
        rw [Rat.intCast_sub, icast_one] at t
        have hf : (s.floor : Rat) = -(((2 ^ b : Nat) : Int) : Rat) := by rw [h, Rat.intCast_neg]
        rcases abs_cases s with ⟨c, e⟩ | ⟨c, e⟩
        · have := one_le_pow2 b
          grind
        · grind
      · refine (hm _).mpr ⟨-((2 ^ (b - 1) : Nat) : Int), (p + 1 - low).toNat, by have := hp.1; omega, ?_, ?_⟩
        · have := Nat.pow_lt_pow_right (a := 2) (by decide) (show b - 1 < b by omega)
          generalize 2 ^ b = B at *
          generalize 2 ^ (b - 1) = B1 at *
          omega
        · have e1 : low + (((p + 1 - low).toNat : Nat) : Int) = p + 1 := by have := hp.1; omega
          have e2 : 2 ^ b = 2 ^ (b - 1) * 2 := by rw [← Nat.pow_succ]; congr 1; omega
          rw [e1, P2_succ, h, e2, Int.natCast_mul, Rat.intCast_neg, Rat.intCast_neg, Rat.intCast_mul]
          have e3 : (((2 : Nat) : Int) : Rat) = 2 := rfl
          rw [e3]
          grind
    · refine (hm _).mpr ⟨s.floor, (p - low).toNat, by have := hp.1; omega, by generalize 2 ^ b = B at *; omega, ?_⟩
      have e1 : low + (((p - low).toNat : Nat) : Int) = p := by have := hp.1; omega
      rw [e1]
  refine ⟨memL, Rat.lt_of_le_of_ne le fun e => hn (e ▸ memL), fun y hy hyq => ?_⟩
  obtain ⟨n, j, j1, n1, rfl⟩ := (hm y).mp hy
  by_cases h : p ≤ low + j
  · obtain ⟨d, hd⟩ : ∃ d : Nat, low + (j : Int) = p + d := ⟨(low + j - p).toNat, by omega⟩
    have e1 : (n : Rat) * P2 (low + j) = ((n * ((2 ^ d : Nat) : Int) : Int) : Rat) * P2 p := by
      rw [hd, P2_add_nat, Rat.intCast_mul]
      grind
    rw [e1] at hyq ⊢
    rw [sq] at hyq
    have := (Rat.mul_lt_mul_right pp).mp hyq
    exact le_P2 p (Rat.intCast_le_intCast.mpr (Rat.le_floor_iff.mpr (Rat.le_of_lt this)))
  · have h1 := hp.lower (c := p - 1) (by omega) (by omega)
    have e2 : 2 ^ b = 2 ^ (b - 1) * 2 := by rw [← Nat.pow_succ]; congr 1; omega
    have e3 : P2 (b + (p - 1)) = (((2 ^ (b - 1) : Nat) : Int) : Rat) * P2 p := by
      have : P2 (b + (p - 1)) = P2 p * (((2 ^ (b - 1) : Nat) : Int) : Rat) := by rw [← P2_add_nat]; congr 1; omega
      rw [this]; grind
    have e4 : P2 (low + j) ≤ P2 (p - 1) := P2_mono (by omega)
    have yb : ((n : Rat) * P2 (low + j)).abs < P2 (b + (p - 1)) := by
      have g1 := hm.great hy
      have g2 : (n : Rat) * P2 (low + j) ∈ L := hy
      rw [abs_mul_pos _ _ (P2_pos _)]
      have a1 : (n : Rat).abs + 1 ≤ (((2 ^ b : Nat) : Int) : Rat) := by
        rcases abs_cases (n : Rat) with ⟨c, e⟩ | ⟨c, e⟩
        · rw [e, ← icast_one, ← Rat.intCast_add]; exact Rat.intCast_le_intCast.mpr (by generalize 2 ^ b = B at *; omega)
        · rw [e, ← icast_one, ← Rat.intCast_neg, ← Rat.intCast_add]; exact Rat.intCast_le_intCast.mpr (by generalize 2 ^ b = B at *; omega)
      have a0 : (0 : Rat) ≤ (n : Rat).abs := by rcases abs_cases (n : Rat) with ⟨c, e⟩ | ⟨c, e⟩ <;> grind
      have a4 := Rat.mul_le_mul_of_nonneg_left e4 a0
      have a5 := le_P2 (p - 1) a1
      have e5 : P2 (b + (p - 1)) = (((2 ^ b : Nat) : Int) : Rat) * P2 (p - 1) := by
        have : P2 (b + (p - 1)) = P2 (p - 1) * (((2 ^ b : Nat) : Int) : Rat) := by rw [← P2_add_nat]; congr 1; omega
        rw [this]; grind
      have := P2_pos (p - 1)
      rw [e5]
      grind
    rcases abs_cases q with ⟨c, e⟩ | ⟨c, e⟩
    · -- above nought
      rw [e, e3, sq] at h1
      have h2 := (mul_le_P2 pp).mp h1
      have h3 : ((2 ^ (b - 1) : Nat) : Int) ≤ s.floor := Rat.le_floor_iff.mpr h2
      have h4 := le_P2 p (Rat.intCast_le_intCast.mpr h3)
      rw [← e3] at h4
      rcases abs_cases ((n : Rat) * P2 (low + j)) with ⟨c2, d2⟩ | ⟨c2, d2⟩ <;> grind
    · rw [e] at h1
      rcases abs_cases ((n : Rat) * P2 (low + j)) with ⟨c2, d2⟩ | ⟨c2, d2⟩ <;> grind
theorem cei_neg (q : Rat) (p : Int) : (cei (q / P2 p) : Rat) * P2 p = -(((-q / P2 p).floor : Rat) * P2 p) := by
  have e : -(q / P2 p) = -q / P2 p := by
    rw [Rat.div_def, Rat.div_def]; grind
  unfold cei
  rw [e, Rat.intCast_neg]
  grind
/-- within the greatest, what is no number lies between the two that it is rounded to -/
theorem between {b : Nat} (hb : 1 ≤ b) {low : Int} {k : Nat} {L : List Rat} (hL : Up L) (hm : Nums b low k L) {q : Rat} {p : Int} (hq : q.abs ≤ gr b (low + k)) (hn : q ∉ L) (hp : Pw b low q p) :
    (L.filter (fun r => decide (r < q))).getLast? = rnd b (low + k) .down p q ∧ (L.filter (fun r => decide (q < r))).head? = rnd b (low + k) .up p q := by
  obtain ⟨d1, d2, d3⟩ := down_is hb hm hq hn hp
  have hn' : -q ∉ L := fun h => hn (by have := hm.neg h; rwa [Rat.neg_neg] at this)
  obtain ⟨u1, u2, u3⟩ := down_is hb hm (q := -q) (p := p) (by rw [abs_neg']; exact hq) hn' hp.neg
  have ce := cei_neg q p
  have u1' := hm.neg u1
  rw [← ce] at u1'
  constructor
  · rw [last_below hL d1 d2 d3]
    have g : ¬ gr b (low + k) < ((rtn .down (q / P2 p) : Rat) * P2 p).abs := Rat.not_lt.mpr (hm.great d1)
    unfold rnd
    rw [if_neg g]
    rfl
  · rw [first_above hL u1' (by rw [ce]; grind) (fun y hy hqy => by
      have := u3 (-y) (hm.neg hy) (by grind)
      rw [ce]; grind)]
    have g : ¬ gr b (low + k) < ((rtn .up (q / P2 p) : Rat) * P2 p).abs := Rat.not_lt.mpr (hm.great u1')
    unfold rnd
    rw [if_neg g]
    rfl
theorem numL_nums {b : Nat} (hb : 1 ≤ b) (low : Int) (k : Nat) : Nums b low k (numL b low k) := fun x => by
  rw [← rows_mem hb]
  unfold rowsQ
  simp only [List.mem_flatMap, List.mem_range, pairQ, List.mem_cons, List.not_mem_nil, or_false]
  constructor
  · rintro ⟨j, hj, s, hs, rfl | rfl⟩
    · exact ⟨s, j, by omega, by rw [Int.natAbs_natCast]; exact hs, rfl⟩
    · exact ⟨0 - (s : Int), j, by omega, by generalize 2 ^ b = B at *; omega, rfl⟩
  · rintro ⟨n, j, h1, h2, rfl⟩
    refine ⟨j, by omega, n.natAbs, h2, ?_⟩
    by_cases h : 0 ≤ n
    · left
      congr 2
      omega
    · right
      congr 2
      omega
end Core
set_option Elab.async false
set_option linter.all false
set_option maxHeartbeats 1000000
/-! Core, part Z9: rounding, as the defs do it -/
namespace Core
open PySem PySem.W
section
variable {G : List Fn} {n i : Nat} {S : Store}
/-! ### sizes -/
theorem num_neg' (q : Rat) : (-q).num = -q.num := rfl
theorem den_neg' (q : Rat) : (-q).den = q.den := rfl
theorem num_pos' (q : Rat) : 0 < q.num ↔ 0 < q := by
  have h := Rat.num_nonneg (q := -q)
  rw [num_neg'] at h
  constructor
  · intro z
    have : ¬ 0 ≤ -q := fun y => by have := h.mpr y; omega
    grind
  · intro z
    have : ¬ 0 ≤ -q.num := fun y => by have := h.mp y; grind
    omega
theorem SmQ.divInt {k : Nat} {a b : Int} (ha : Sm k a) (hb : Sm k b) (h0 : b ≠ 0) : SmQ k (Rat.divInt a b) := by
  unfold SmQ Sm at *
  constructor
  · rw [Rat.num_divInt]
    have h1 := Int.natAbs_ediv_le_natAbs (b.sign * a) ((b.gcd a : Nat) : Int)
    have h2 : (b.sign * a).natAbs = a.natAbs := by
      rw [Int.natAbs_mul, Int.natAbs_sign_of_ne_zero h0, Nat.one_mul]
    omega
  · rw [Rat.den_divInt, if_neg h0, Int.natAbs_natCast]
    exact Nat.lt_of_le_of_lt (Nat.div_le_self _ _) hb
theorem SmQ.mul {j k : Nat} {p q : Rat} (hp : SmQ j p) (hq : SmQ k q) : SmQ (j + k) (p * q) := by
  rw [← mul_divInt]
  exact SmQ.divInt (hp.1.mul hq.1) (hp.2.mul hq.2) (den_mul_ne p q)
theorem P2_num_pos (p : Int) : 0 < (P2 p).num := (num_pos' _).mpr (P2_pos p)
theorem div_divInt (a b : Rat) : Rat.divInt (a.num * b.den) ((a.den : Int) * b.num) = a / b := by
  rw [Rat.div_def, Rat.inv_def, ← Rat.divInt_mul_divInt, Rat.num_divInt_den]
theorem den_num_ne (q : Rat) (p : Int) : (q.den : Int) * (P2 p).num ≠ 0 := Int.mul_ne_zero (den_ne q) (by have := P2_num_pos p; omega)
theorem SmQ.over {j k : Nat} {q : Rat} {p : Int} (hq : SmQ j q) (hp : SmQ k (P2 p)) : SmQ (j + k) (q / P2 p) := by
  rw [← div_divInt]
  exact SmQ.divInt (hq.1.mul hp.2) (hq.2.mul hp.1) (den_num_ne q p)
theorem SmQ.neg {k : Nat} {q : Rat} (h : SmQ k q) : SmQ k (-q) := ⟨by rw [num_neg']; exact h.1.neg, by rw [den_neg']; exact h.2⟩
theorem SmQ.abs {k : Nat} {q : Rat} (h : SmQ k q) : SmQ k q.abs := by
  rcases abs_cases q with ⟨_, e⟩ | ⟨_, e⟩ <;> rw [e]
  · exact h
  · exact h.neg
theorem floor_fdiv (q : Rat) : q.num.fdiv (q.den : Int) = q.floor := by
  rw [Rat.floor_def, Int.fdiv_eq_ediv_of_nonneg _ (by omega)]
theorem floor_fdiv_neg (q : Rat) : (-q.num).fdiv (q.den : Int) = (-q).floor := by
  rw [← floor_fdiv, num_neg', den_neg']
theorem sm_floor {k : Nat} {q : Rat} (h : SmQ k q) : Sm k q.floor := by
  have h1 := h.1
  unfold Sm at *
  rw [Rat.floor_def]
  exact Nat.lt_of_le_of_lt (Int.natAbs_ediv_le_natAbs _ _) h1
theorem sm_rtn {k : Nat} {q : Rat} (h : SmQ k q) (w : Way) : Sm (k + 1) (rtn w q) := by
  have h1 := sm_floor h
  have h2 := sm_floor h.neg
  unfold Sm at *
  rw [Nat.pow_succ]
  have pos : 0 < 2 ^ k := Nat.pow_pos (by decide)
  have c : (cei q).natAbs < 2 ^ k := by unfold cei; omega
  have nz : ∀ ev, (nearZ ev q).natAbs < 2 ^ k * 2 := fun ev => by
    unfold nearZ
    generalize 2 ^ k = K at *
    split
    · split <;> omega
    · split
      · split <;> omega
      · split <;> omega
  cases w with
  | even => exact nz true
  | away => exact nz false
  | zero =>
    show (if 0 ≤ q then q.floor else cei q).natAbs < _
    split <;> omega
  | down => show q.floor.natAbs < _; omega
  | up => show (cei q).natAbs < _; omega
theorem fd_ok {q : Rat} (h : SmQ 8000 q) (S : Store) (a : Int) : opB S .fdiv (.p (.int a)) (.p (.int (q.den : Int))) = some (.int (a.fdiv q.den)) := by
  have l := h.2.log
  have := q.den_nz
  rw [opB_fdiv, if_pos ⟨by omega, by omega⟩]
/-! ### the power -/
def C_power (iL iP : Nat) : CE := .not (.call iL (.cons (.var 3) (.cons (.call iP (.cons (.bin .add (.var 0) (.var 4)) .nil)) .nil)))
def B_powerI : CS := (.seq (.asg (.nm 4) (.bin .add (.var 4) (.con (.int 1)))) .skip)
def B_power_for (iS iL iP : Nat) : CS := (.seq (.par [3, 4] (.cons (.call iS (.cons (.var 2) .nil)) (.cons (.var 1) .nil)))
  (.seq (.whl (C_power iL iP) B_powerI)
  (.seq (.ret (.var 4))
  .skip)))
theorem power_loop {F : Calls} {iL iP : Nat} {b low p : Int} {a : Rat} {o1 o2 : Option D} (h1 : ∀ c, low ≤ c → c ≤ p → F iP [.p (.int (b + c))] [] = .ok (.p (qD (P2 (b + c)))) []) (h2 : ∀ c, low ≤ c → c ≤ p → F iL [.p (qD a), .p (qD (P2 (b + c)))] [] = .ok (.p (.bool (decide (c = p)))) []) :
    ∀ (d : Nat) (c : Int), c + d = p → low ≤ c → whlR F (C_power iL iP) B_powerI [some (.p (.int b)), o1, o2, some (.p (qD a)), some (.p (.int c))] [] = .nx [some (.p (.int b)), o1, o2, some (.p (qD a)), some (.p (.int p))] []
  | 0, c, h, hl => by
    have e : c = p := by omega
    subst e
    have q2 := h2 c hl (Int.le_refl _)
    rw [decide_eq_true rfl] at q2
    exact whlR_end (S' := []) (by simp [C_power, h1 c hl (Int.le_refl _), q2])
  | d + 1, c, h, hl => by
    have q2 := h2 c hl (by omega)
    rw [decide_eq_false (by omega)] at q2
    rw [whlR_nx (Γ2 := [some (.p (.int b)), o1, o2, some (.p (qD a)), some (.p (.int (c + 1)))]) (S' := []) (S2 := []) (by simp [C_power, h1 c hl (by omega), q2]) (by simp [B_powerI])]
    exact power_loop h1 h2 d (c + 1) (by omega) (by omega)
theorem power_fin (F : Calls) (iS iL iP : Nat) (b low p : Int) (q a : Rat) (h0 : F iS [.p (qD q)] [] = .ok (.p (qD a)) []) (hw : whlR F (C_power iL iP) B_powerI [some (.p (.int b)), some (.p (.int low)), some (.p (qD q)), some (.p (qD a)), some (.p (.int low))] [] = .nx [some (.p (.int b)), some (.p (.int low)), some (.p (qD q)), some (.p (qD a)), some (.p (.int p))] []) :
    evS F (B_power_for iS iL iP) (startL 5 [.p (.int b), .p (.int low), .p (qD q)]) [] = .rt (.p (.int p)) [] := by
  simp [B_power_for, h0, hw]
/-- what rounding calls -/
structure RndIx (G : List Fn) (iF iW iM iT iL iS iP : Nat) : Prop where
  f : G[iF]? = some ⟨2, 3, B_fraction, false⟩
  w : G[iW]? = some ⟨1, 1, B_whole, false⟩
  m : G[iM]? = some ⟨2, 2, B_less iF, false⟩
  t : G[iT]? = some ⟨2, 2, B_times iF, false⟩
  l : G[iL]? = some ⟨2, 2, B_is_less, false⟩
  s : G[iS]? = some ⟨1, 1, B_size_of, false⟩
  p : G[iP]? = some ⟨1, 1, B_power_of_two, false⟩
variable {iF iW iM iT iL iS iP iQ : Nat}
theorem power_for_ok (X : RndIx G iF iW iM iT iL iS iP) (h : G[iQ]? = some ⟨3, 5, B_power_for iS iL iP, false⟩) {b : Nat} {low p : Int} {q : Rat} (hq : SmQ 3000 q) (hp : Pw b low q p) (h1 : -1000 ≤ low) (h2 : p ≤ 1000) (hb : b ≤ 8) :
    callN G (n + 2) iQ [.p (.int b), .p (.int low), .p (qD q)] S = .ok (.p (.int p)) S := by
  have hl := hp.1
  refine call_p h (T := []) (power_fin _ iS iL iP b low p q q.abs (size_of_ok X.s q) ?_)
  refine power_loop (low := low) (p := p) (fun c c1 c2 => power_of_two_ok X.p (by omega) (by omega)) (fun c c1 c2 => ?_) (p - low).toNat low (by omega) (Int.le_refl _)
  rw [is_less_ok X.l hq.abs (smQ_P2 (by omega))]
  congr 4
  by_cases e : c = p
  · rw [e]
    simp [hp.2.1]
  · have := hp.lower (c := c) c1 (by omega)
    have : ¬ q.abs < P2 (b + c) := Rat.not_lt.mpr this
    simp [e, this]
/-! ### to whole numbers -/
def Way.str : Way → Str
  | .even => "even" | .away => "away" | .zero => "zero" | .down => "down" | .up => "up"
theorem way_eq (w v : Way) : eqP (.str w.str) (.str v.str) = some (decide (w = v)) := by
  cases w <;> cases v <;> decide +kernel
theorem way_in (w : Way) : inP (.str w.str) (.tuple [.str "even", .str "away"]) = some (decide (w = .even ∨ w = .away)) := by
  cases w <;> decide +kernel
theorem way_all (w : Way) : inP (.str w.str) (.tuple [.str "even", .str "away", .str "down", .str "up", .str "zero"]) = some true := by
  cases w <;> decide +kernel
theorem half_parts : (1 / 2 : Rat).num = 1 ∧ (1 / 2 : Rat).den = 2 := by decide +kernel
theorem half_qD : qD (1 / 2 : Rat) = .tuple [.int 1, .int 2] := by
  unfold qD
  rw [half_parts.1, half_parts.2]
  rfl
theorem half_eq (q : Rat) : eqP (qD q) (.tuple [.int 1, .int 2]) = some (decide (q = 1 / 2)) := by
  rw [← half_qD, eqP_of (fitK_qD 0 q) (fitK_qD 0 _), eqv_qD]
def B_nearer (iM iW iL : Nat) : CS := (.seq (.asg (.nm 2) (.bin .fdiv (.idx (.var 0) (.con (.int 0))) (.idx (.var 0) (.con (.int 1)))))
  (.seq (.asg (.nm 3) (.call iM (.cons (.var 0) (.cons (.call iW (.cons (.var 2) .nil)) .nil))))
  (.seq (.ite (.cmp .ne (.var 3) (.con (.tuple [.int 1, .int 2]))) (.seq (.ret (.ite (.call iL (.cons (.var 3) (.cons (.con (.tuple [.int 1, .int 2])) .nil))) (.var 2) (.bin .add (.var 2) (.con (.int 1)))))
  .skip) .skip)
  (.seq (.ite (.cmp .eq (.var 1) (.con (.str "even"))) (.seq (.ret (.ite (.cmp .eq (.bin .mod (.bf .int (.cons (.var 2) .nil)) (.con (.int 2))) (.con (.int 0))) (.var 2) (.bin .add (.var 2) (.con (.int 1)))))
  .skip) .skip)
  (.seq (.ret (.ite (.cmp .gt (.idx (.var 0) (.con (.int 0))) (.con (.int 0))) (.bin .add (.var 2) (.con (.int 1))) (.var 2)))
  .skip)))))
theorem nearer_fin (F : Calls) (iM iW iL : Nat) (q a : Rat) (f z : Int) (x : PyData) (ev c d : Bool) (hf : ∀ S, opB S .fdiv (.p (.int q.num)) (.p (.int (q.den : Int))) = some (.int f)) (h1 : F iW [.p (.int f)] [] = .ok (.p x) []) (h2 : F iM [.p (qD q), .p x] [] = .ok (.p (qD a)) [])
    (h3 : eqP (qD a) (.tuple [.int 1, .int 2]) = some c) (h4 : c = false → F iL [.p (qD a), .p (.tuple [.int 1, .int 2])] [] = .ok (.p (.bool d)) []) (h5 : eqP x0 (.str "even") = some ev)
    (hz : z = if c = false then (if d = true then f else f + 1) else if ev = true then (if f.fmod 2 = 0 then f else f + 1) else (if 0 < q.num then f + 1 else f)) :
    evS F (B_nearer iM iW iL) (startL 4 [.p (qD q), .p x0]) [] = .rt (.p (.int z)) [] := by
  subst hz
  cases c with
  | false =>
    cases d <;> simp [-opB_fdiv, B_nearer, hf, h1, h2, h3, h4]
  | true =>
    cases ev with
    | true =>
      by_cases e : f.fmod 2 = 0
      · simp [-opB_fdiv, B_nearer, hf, h1, h2, h3, h5, e]
      · simp [-opB_fdiv, B_nearer, hf, h1, h2, h3, h5, e]
    | false =>
      by_cases e : 0 < q.num
      · simp [-opB_fdiv, B_nearer, hf, h1, h2, h3, h5, e]
      · simp [-opB_fdiv, B_nearer, hf, h1, h2, h3, h5, e]
theorem near_def (ev : Bool) (s : Rat) : nearZ ev s = if decide (s - s.floor = 1 / 2) = false then (if decide (s - s.floor < 1 / 2) = true then s.floor else s.floor + 1) else if ev = true then (if s.floor.fmod 2 = 0 then s.floor else s.floor + 1) else (if 0 < s.num then s.floor + 1 else s.floor) := by
  unfold nearZ
  have e : s.floor.fmod 2 = s.floor % 2 := Int.fmod_eq_emod_of_nonneg _ (by decide)
  rw [e]
  simp only [decide_eq_false_iff_not, decide_eq_true_eq, ne_eq, num_pos']
theorem half_sm : SmQ 3000 (1 / 2 : Rat) := by
  have e : (1 / 2 : Rat).num = 1 ∧ (1 / 2 : Rat).den = 2 := by decide +kernel
  exact ⟨by rw [e.1]; exact sm_small _ (by decide), by rw [e.2]; exact sm_small _ (by decide)⟩
theorem nearer_ok {iN : Nat} (X : RndIx G iF iW iM iT iL iS iP) (h : G[iN]? = some ⟨2, 4, B_nearer iM iW iL, false⟩) {q : Rat} (hq : SmQ 1400 q) (w : Way) :
    callN G (n + 3) iN [.p (qD q), .p (.str w.str)] S = .ok (.p (.int (nearZ (decide (w = .even)) q))) S := by
  have sf : SmQ 1400 (q.floor : Rat) := smQ_int (k := 1399) (sm_floor hq)
  have sa : SmQ 3000 (q - q.floor) := by
    have e : Rat.divInt (q.num * ((q.floor : Rat).den : Int) - (q.floor : Rat).num * q.den) ((q.den : Int) * (q.floor : Rat).den) = q - q.floor := by
      rw [Rat.sub_def', ← Rat.divInt_ofNat]
      simp
    rw [← e]
    refine SmQ.divInt ?_ ((hq.2.mul sf.2).mono (by decide)) (den_mul_ne _ _)
    have a1 := (hq.1.mul sf.2).add (sf.1.mul hq.2).neg
    rw [Int.sub_eq_add_neg]
    exact a1.mono (by decide)
  refine call_p h (T := []) (nearer_fin (x0 := .str w.str) _ iM iW iL q (q - q.floor) q.floor _ _ _ _ (decide (q - q.floor < 1 / 2)) (fun S => by rw [fd_ok (hq.mono (by decide)), floor_fdiv]) (whole_ok X.w _) (less_ok X.m (frac1 X.f) (hq.mono (by decide)) (sf.mono (by decide))) (half_eq _) (fun _ => ?_) (way_eq w .even) (near_def _ q))
  have := is_less_ok (n := n + 1) (S := []) X.l sa half_sm
  rw [half_qD] at this
  exact this
def B_rtn (iN : Nat) : CS := (.seq (.par [2, 3] (.cons (.bin .fdiv (.idx (.var 0) (.con (.int 0))) (.idx (.var 0) (.con (.int 1)))) (.cons (.neg (.bin .fdiv (.neg (.idx (.var 0) (.con (.int 0)))) (.idx (.var 0) (.con (.int 1))))) .nil)))
  (.seq (.ite (.cmp .isin (.var 1) (.tup (.cons (.con (.str "even")) (.cons (.con (.str "away")) .nil)))) (.seq (.ret (.call iN (.cons (.var 0) (.cons (.var 1) .nil))))
  .skip) .skip)
  (.seq (.ite (.cmp .eq (.var 1) (.con (.str "zero"))) (.seq (.ret (.ite (.cmp .ge (.idx (.var 0) (.con (.int 0))) (.con (.int 0))) (.var 2) (.var 3)))
  .skip) .skip)
  (.seq (.ret (.ite (.cmp .eq (.var 1) (.con (.str "down"))) (.var 2) (.var 3)))
  .skip))))
theorem rtn_near (F : Calls) (iN : Nat) (q : Rat) (f u z : Int) (x : PyData) (hf : ∀ S, opB S .fdiv (.p (.int q.num)) (.p (.int (q.den : Int))) = some (.int f)) (hg : ∀ S, opB S .fdiv (.p (.int (-q.num))) (.p (.int (q.den : Int))) = some (.int u)) (h1 : inP x (.tuple [.str "even", .str "away"]) = some true) (h2 : F iN [.p (qD q), .p x] [] = .ok (.p (.int z)) []) :
    evS F (B_rtn iN) (startL 4 [.p (qD q), .p x]) [] = .rt (.p (.int z)) [] := by
  simp [-opB_fdiv, B_rtn, hf, hg, h1, h2, two_line]
theorem rtn_plain (F : Calls) (iN : Nat) (q : Rat) (f u z : Int) (x : PyData) (c d : Bool) (hf : ∀ S, opB S .fdiv (.p (.int q.num)) (.p (.int (q.den : Int))) = some (.int f)) (hg : ∀ S, opB S .fdiv (.p (.int (-q.num))) (.p (.int (q.den : Int))) = some (.int u)) (h1 : inP x (.tuple [.str "even", .str "away"]) = some false) (h2 : eqP x (.str "zero") = some c) (h3 : eqP x (.str "down") = some d)
    (hz : z = if c = true then (if 0 ≤ q.num then f else -u) else if d = true then f else -u) :
    evS F (B_rtn iN) (startL 4 [.p (qD q), .p x]) [] = .rt (.p (.int z)) [] := by
  subst hz
  cases c with
  | true =>
    by_cases e : 0 ≤ q.num
    · simp [-opB_fdiv, B_rtn, hf, hg, h1, h2, two_line, e]
    · simp [-opB_fdiv, B_rtn, hf, hg, h1, h2, two_line, e]
  | false =>
    cases d <;> simp [-opB_fdiv, B_rtn, hf, hg, h1, h2, h3, two_line]
theorem rtn_ok {iN iR : Nat} (X : RndIx G iF iW iM iT iL iS iP) (h : G[iR]? = some ⟨2, 4, B_rtn iN, false⟩) (hN : G[iN]? = some ⟨2, 4, B_nearer iM iW iL, false⟩) {q : Rat} (hq : SmQ 1400 q) (w : Way) :
    callN G (n + 4) iR [.p (qD q), .p (.str w.str)] S = .ok (.p (.int (rtn w q))) S := by
  have hf : ∀ S, opB S .fdiv (.p (.int q.num)) (.p (.int (q.den : Int))) = some (.int q.floor) := fun S => by rw [fd_ok (hq.mono (by decide)), floor_fdiv]
  have hg : ∀ S, opB S .fdiv (.p (.int (-q.num))) (.p (.int (q.den : Int))) = some (.int (-q).floor) := fun S => by rw [fd_ok (hq.mono (by decide)), floor_fdiv_neg]
  have wi := way_in w
  have wz := way_eq w .zero
  have wd := way_eq w .down
  cases w with
  | even => exact call_p h (T := []) (rtn_near _ iN q _ _ _ _ hf hg wi (nearer_ok X hN hq .even))
  | away => exact call_p h (T := []) (rtn_near _ iN q _ _ _ _ hf hg wi (nearer_ok X hN hq .away))
  | zero => exact call_p h (T := []) (rtn_plain _ iN q _ _ _ _ _ _ hf hg wi wz wd (by simp [rtn, cei, Rat.num_nonneg]))
  | down => exact call_p h (T := []) (rtn_plain _ iN q _ _ _ _ _ _ hf hg wi wz wd (by simp [rtn]))
  | up => exact call_p h (T := []) (rtn_plain _ iN q _ _ _ _ _ _ hf hg wi wz wd (by simp [rtn, cei]))
/-! ### to a format -/
def oD : Option Rat → PyData
  | none => .none
  | some q => qD q
def B_rounded_by (iP iQ iF iT iW iR iL iG iS : Nat) : CS := (.seq (.asg (.cons (.nm 5) (.cons (.nm 6) (.cons (.nm 7) (.cons (.nm 8) .nil)))) (.var 0))
  (.seq (.asg (.nm 2) (.call iP (.cons (.call iQ (.cons (.var 5) (.cons (.var 6) (.cons (.var 1) .nil)))) .nil)))
  (.seq (.asg (.nm 3) (.call iF (.cons (.bin .mul (.idx (.var 1) (.con (.int 0))) (.idx (.var 2) (.con (.int 1)))) (.cons (.bin .mul (.idx (.var 1) (.con (.int 1))) (.idx (.var 2) (.con (.int 0)))) .nil))))
  (.seq (.asg (.nm 4) (.call iT (.cons (.call iW (.cons (.call iR (.cons (.var 3) (.cons (.var 8) .nil))) .nil)) (.cons (.var 2) .nil))))
  (.seq (.ret (.ite (.not (.call iL (.cons (.call iG (.cons (.var 5) (.cons (.var 7) .nil))) (.cons (.call iS (.cons (.var 4) .nil)) .nil)))) (.var 4) (.con (.none))))
  .skip)))))
theorem rby_fin (F : Calls) (iP iQ iF iT iW iR iL iG iS : Nat) (b lo hi way : PyData) (p z u v : Int) (q s t x : Rat) (g a y : PyData) (c : Bool) (h1 : F iQ [.p b, .p lo, .p (qD q)] [] = .ok (.p (.int p)) []) (h2 : F iP [.p (.int p)] [] = .ok (.p (qD s)) []) (m1 : mulP (.int q.num) (.int (s.den : Int)) = some (.int u)) (m2 : mulP (.int (q.den : Int)) (.int s.num) = some (.int v))
    (h3 : F iF [.p (.int u), .p (.int v)] [] = .ok (.p (qD t)) []) (h4 : F iR [.p (qD t), .p way] [] = .ok (.p (.int z)) []) (h5 : F iW [.p (.int z)] [] = .ok (.p y) []) (h6 : F iT [.p y, .p (qD s)] [] = .ok (.p (qD x)) []) (h7 : F iG [.p b, .p hi] [] = .ok (.p g) []) (h8 : F iS [.p (qD x)] [] = .ok (.p a) []) (h9 : F iL [.p g, .p a] [] = .ok (.p (.bool c)) []) :
    evS F (B_rounded_by iP iQ iF iT iW iR iL iG iS) (startL 9 [.p (.tuple [b, lo, hi, way]), .p (qD q)]) [] = .rt (.p (if c = true then .none else qD x)) [] := by
  cases c <;> simp [B_rounded_by, h1, h2, m1, m2, h3, h4, h5, h6, h7, h8, h9]
theorem rounded_by_ok {iN iR iG iB : Nat} (X : RndIx G iF iW iM iT iL iS iP) (h : G[iB]? = some ⟨2, 9, B_rounded_by iP iQ iF iT iW iR iL iG iS, false⟩) (hQ : G[iQ]? = some ⟨3, 5, B_power_for iS iL iP, false⟩) (hR : G[iR]? = some ⟨2, 4, B_rtn iN, false⟩) (hN : G[iN]? = some ⟨2, 4, B_nearer iM iW iL, false⟩) (hG : G[iG]? = some ⟨2, 2, B_greatest_by iT iW iP, false⟩)
    {b : Nat} {low p hi : Int} {q : Rat} (hq : SmQ 600 q) (hp : Pw b low q p) (h1 : -500 ≤ low) (h2 : p ≤ 500) (hb : b ≤ 8) (hh : hi.natAbs ≤ 500) (w : Way) :
    callN G (n + 5) iB [.p (.tuple [.int b, .int low, .int hi, .str w.str]), .p (qD q)] S = .ok (.p (oD (rnd b hi w p q))) S := by
  have hl := hp.1
  have sp : SmQ 600 (P2 p) := smQ_P2 (by omega)
  have st : SmQ 1250 (q / P2 p) := (hq.over sp).mono (by decide)
  have sz : SmQ 1300 ((rtn w (q / P2 p) : Int) : Rat) := smQ_int (k := 1299) ((sm_rtn st w).mono (by decide))
  have sx : SmQ 3000 ((rtn w (q / P2 p) : Rat) * P2 p) := (sz.mul sp).mono (by decide)
  have sg : SmQ 3000 (gr b hi) := by
    have hB : 2 ^ b ≤ 256 := two_pow_le (c := 8) hb
    exact smQ_mulP2 (by generalize 2 ^ b = B at *; omega) (by omega)
  have hF := frac1 X.f (n := n + 3) (S := []) (q.num * (P2 p).den) ((q.den : Int) * (P2 p).num) (den_num_ne q p) ((hq.2.mul sp.1).mono (by decide))
  rw [div_divInt] at hF
  have := rby_fin (callN G (n + 4)) iP iQ iF iT iW iR iL iG iS (.int b) (.int low) (.int hi) (.str w.str) p (rtn w (q / P2 p)) _ _ q (P2 p) (q / P2 p) ((rtn w (q / P2 p) : Rat) * P2 p) _ _ _ _
    (power_for_ok X hQ (hq.mono (by decide)) hp (by omega) (by omega) hb) (power_of_two_ok X.p (by omega) (by omega)) (mulP_ok hq.1 sp.2) (mulP_ok hq.2 sp.1) hF (rtn_ok X hR hN (st.mono (by decide)) w) (whole_ok X.w _) (times_ok X.t (frac1 X.f) (sz.mono (by decide)) (sp.mono (by decide))) (greatest_by_ok hG ⟨X.w, ⟨iF, X.t, frac1 X.f⟩, X.p⟩ hb (by omega)) (size_of_ok X.s _) (is_less_ok X.l sg sx.abs)
  refine call_p h (T := []) (this.trans ?_)
  unfold rnd gr
  by_cases c : ((((2 ^ b : Nat) : Int) - 1 : Int) : Rat) * P2 hi < ((rtn w (q / P2 p) : Rat) * P2 p).abs
  · rw [if_pos c]
    simp only [decide_eq_true c]
    rfl
  · rw [if_neg c]
    simp only [decide_eq_false c]
    rfl
/-! ### rounded -/
def B_rounded (iS iH iF iB : Nat) : CS := (.seq (.expr (.call iS (.cons (.var 0) (.cons (.var 1) .nil))))
  (.seq (.expr (.call iH (.cons (.var 1) (.cons (.var 2) .nil))))
  (.seq (.ite (.or (.not (.isi (.var 3) [.str])) (.cmp .nin (.var 3) (.con (.tuple [.str "even", .str "away", .str "down", .str "up", .str "zero"])))) (.seq .stop
  .skip) .skip)
  (.seq (.ite (.not (.call iF (.cons (.var 4) .nil))) (.seq .stop
  .skip) .skip)
  (.seq (.ret (.call iB (.cons (.tup (.cons (.var 0) (.cons (.var 1) (.cons (.var 2) (.cons (.var 3) .nil))))) (.cons (.var 4) .nil))))
  .skip)))))
theorem rounded_fin (F : Calls) (iS iH iF iB : Nat) (b lo hi x r : PyData) (w : Str) (h1 : F iS [.p b, .p lo] [] = .ok (.p .none) []) (h2 : F iH [.p lo, .p hi] [] = .ok (.p .none) []) (h3 : inP (.str w) (.tuple [.str "even", .str "away", .str "down", .str "up", .str "zero"]) = some true) (h4 : F iF [.p x] [] = .ok (.p (.bool true)) []) (h5 : F iB [.p (.tuple [b, lo, hi, .str w]), .p x] [] = .ok (.p r) []) :
    evS F (B_rounded iS iH iF iB) (startL 5 [.p b, .p lo, .p hi, .p (.str w), .p x]) [] = .rt (.p r) [] := by
  have l4 : (4 : Nat) ≤ sizeLine := by decide
  simp [B_rounded, h1, h2, h3, h4, h5, l4]
variable {iB iWh iCS iH iGH iT2 iFr iR iN iG iRB : Nat}
theorem rounded_ok (h : G[i]? = some ⟨5, 5, B_rounded iCS iH iFr iRB, false⟩) (C : ChkIx G iB iWh iCS iH iGH) (hH : G[iH]? = some ⟨2, 2, B_check_high iB iGH, false⟩) (hFr : G[iFr]? = some ⟨1, 1, B_is_fraction_by iT2 iWh, false⟩) (hT2 : G[iT2]? = some ⟨2, 2, B_is_tuple_of, false⟩)
    (X : RndIx G iF iW iM iT iL iS iP) (hRB : G[iRB]? = some ⟨2, 9, B_rounded_by iP iQ iF iT iW iR iL iG iS, false⟩) (hQ : G[iQ]? = some ⟨3, 5, B_power_for iS iL iP, false⟩) (hR : G[iR]? = some ⟨2, 4, B_rtn iN, false⟩) (hN : G[iN]? = some ⟨2, 4, B_nearer iM iW iL, false⟩) (hG : G[iG]? = some ⟨2, 2, B_greatest_by iT iW iP, false⟩)
    {b : Nat} {low : Int} {k : Nat} (Y : Fmt b low k) {p : Int} {q : Rat} (hq : SmQ 600 q) (hp : Pw b low q p) (h2 : p ≤ 500) (w : Way) :
    callN G (n + 6) i [.p (.int b), .p (.int low), .p (.int (low + k)), .p (.str w.str), .p (qD q)] S = .ok (.p (oD (rnd b (low + k) w p q))) S := by
  have y1 := Y.b1
  have y2 := Y.b5
  have y3 := Y.l1
  have y4 := Y.h8
  have y5 := Y.k8
  have fr := is_fraction_ok (n := n + 3) (S := []) hFr hT2 C.whole (qD q) (fun a y e => by
    unfold qD at e
    cases e
    exact ⟨_, rfl⟩)
  rw [isfrac_qD] at fr
  exact call_p h (T := []) (rounded_fin _ iCS iH iFr iRB (.int b) (.int low) (.int (low + k)) (qD q) _ w.str (check_sizes_ok (n := n + 2) C (by omega) (by omega) (by omega) (by omega)) (check_high_ok (n := n + 2) C hH (by omega) (by omega) (by omega)) (way_all w) fr (rounded_by_ok X hRB hQ hR hN hG hq hp (by omega) h2 (by omega) (by omega) w))
/-! ### the next numbers -/
def B_next_by (iN iL : Nat) : CS := (.seq (.asg (.nm 4) (.call iN (.cons (.var 0) (.cons (.var 1) (.cons (.var 2) .nil)))))
  (.seq (.asg (.nm 5) (.lc (.nm 7) .seq (.cons (.var 4) .nil) (.call iL (.cons (.var 7) (.cons (.var 3) .nil))) (.var 7) [7]))
  (.seq (.asg (.nm 6) (.lc (.nm 7) .seq (.cons (.var 4) .nil) (.call iL (.cons (.var 3) (.cons (.var 7) .nil))) (.var 7) [7]))
  (.seq (.ret (.tup (.cons (.ite (.cmp .ne (.var 5) (.lst .nil)) (.idx (.var 5) (.neg (.con (.int 1)))) (.con (.none))) (.cons (.ite (.cmp .ne (.var 6) (.lst .nil)) (.idx (.var 6) (.con (.int 0))) (.con (.none))) .nil))))
  .skip))))
/-- the last, the first of a list of fractions, or none -/
theorem eqP_nil (l : List Rat) : eqP (.list (l.map qD)) (.list []) = some (decide (l = [])) := by
  have h1 : FitK 2 (.list (l.map qD)) := fitK_lst fun x hx => by
    obtain ⟨r, _, rfl⟩ := List.mem_map.mp hx
    exact fitK_qD 0 r
  have h2 : FitK 2 (.list []) := fitK_lst fun x hx => by cases hx
  rw [eqP_of h1 h2]
  cases l <;> simp [PyData.eqv, PyData.eqvAll]
theorem at_last (l : List Rat) (h : l ≠ []) : L2.atI ((l.map qD).map D.p) (-1) = some (.p (oD l.getLast?)) := by
  have ne : (l.map qD).map D.p ≠ [] := by simpa using h
  rw [atI_last _ ne]
  have := List.getLast?_eq_some_getLast ne
  rw [← this, List.getLast?_map, List.getLast?_map, List.getLast?_eq_some_getLast h]
  rfl
theorem at_first (l : List Rat) (h : l ≠ []) : L2.atI ((l.map qD).map D.p) 0 = some (.p (oD l.head?)) := by
  cases l with
  | nil => exact absurd rfl h
  | cons a l => simp [oD]
def pairB (u o : List Rat) : PyData := .tuple [oD u.getLast?, oD o.head?]
def endE (a b : Nat) : CE := (.tup (.cons (.ite (.cmp .ne (.var a) (.lst .nil)) (.idx (.var a) (.neg (.con (.int 1)))) (.con (.none))) (.cons (.ite (.cmp .ne (.var b) (.lst .nil)) (.idx (.var b) (.con (.int 0))) (.con (.none))) .nil)))
theorem ends_ok (F : Calls) (Γ : Loc) (a b : Nat) (u o : List Rat) (ha : Γ[a]? = some (some (.p (.list (u.map qD))))) (hb : Γ[b]? = some (some (.p (.list (o.map qD))))) :
    evE F (endE a b) Γ S = .ok (.p (pairB u o)) S := by
  have e1 := eqP_nil u
  have e2 := eqP_nil o
  have z0 : (0 : Nat) ≤ sizeLine := by decide
  by_cases h1 : u = []
  · by_cases h2 : o = []
    · subst h1 h2
      rw [decide_eq_true rfl] at e1
      simp only [List.map_nil] at e1 ha hb
      simp [endE, ha, hb, e1, two_line, z0, pairB, oD]
    · rw [decide_eq_false h2] at e2
      have a2 := at_first o h2
      subst h1
      rw [decide_eq_true rfl] at e1
      simp only [List.map_nil] at e1 ha
      simp [-List.map_map, endE, ha, hb, e1, e2, a2, two_line, z0, pairB, oD]
  · rw [decide_eq_false h1] at e1
    have a1 := at_last u h1
    by_cases h2 : o = []
    · subst h2
      rw [decide_eq_true rfl] at e2
      simp only [List.map_nil] at e2 hb
      simp [-List.map_map, endE, ha, hb, e1, e2, a1, two_line, z0, pairB, oD]
    · rw [decide_eq_false h2] at e2
      have a2 := at_first o h2
      simp [-List.map_map, endE, ha, hb, e1, e2, a1, a2, two_line, z0, pairB]
theorem lcR_filterQ {F : Calls} {Γ : Loc} {v : Nat} {c : CE} {own : List Nat} {L : List Rat} {d : D} (p : Rat → Bool) (hd : srcOf .seq [d] = some (.lst (L.map qD))) (hi : v < Γ.length) (hs : ∀ q ∈ L, evE F c ((wipeL Γ own).set v (some (.p (qD q)))) S = .ok (.p (.bool (p q))) S) : lcR F (.nm v) .seq c (.var v) own Γ [d] S = .ok (((L.filter p).map qD).map D.p) S := by
  have key : ∀ q : Rat, (match qD q with
      | .tuple [.int a, .int b] => p (Rat.divInt a b)
      | _ => false) = p q := fun q => by
    show p (Rat.divInt q.num q.den) = p q
    rw [Rat.num_divInt_den]
  have := lcR_filter (F := F) (S := S) (Γ := Γ) (i := v) (c := c) (own := own) (xs := L.map qD) (d := d) (fun x => match x with
      | .tuple [.int a, .int b] => p (Rat.divInt a b)
      | _ => false) hd hi (fun x hx => by
    obtain ⟨q, hq, rfl⟩ := List.mem_map.mp hx
    rw [key]
    exact hs q hq)
  rw [this]
  congr 2
  rw [List.filter_map]
  congr 1
  apply List.filter_congr
  intro q _
  exact key q
theorem next_by_ok {s w t p : Nat} (h : G[i]? = some ⟨4, 8, B_next_by iN iL, false⟩) (hN : G[iN]? = some ⟨3, 5, B_numbers_by s, false⟩) (hs : G[s]? = some ⟨3, 6, B_sizes_by w t p, false⟩) (X : FmtIx G w t p) (hL : G[iL]? = some ⟨2, 2, B_is_less, false⟩) {b : Nat} (hb : 1 ≤ b) (hb2 : b ≤ 8) {low : Int} {k : Nat} (hl : low.natAbs ≤ 400) (hk : k ≤ 100) {q : Rat} (hq : SmQ 3000 q) :
    callN G (n + 6) i [.p (.int b), .p (.int low), .p (.int (low + k)), .p (qD q)] S = .ok (.p (pairB ((numL b low k).filter (fun r => decide (r < q))) ((numL b low k).filter (fun r => decide (q < r))))) S := by
  have hn := numbers_by_ok (n := n) (S := []) hN hs X hb hb2 (low := low) (k := k) (by omega) hk
  have sm : ∀ r ∈ numL b low k, SmQ 3000 r := fun r hr => numL_sm hb hb2 (by omega) hk hr
  refine call_p h (T := []) ?_
  have R1 := lcR_filterQ (S := []) (F := callN G (n + 5)) (Γ := [some (.p (.int b)), some (.p (.int low)), some (.p (.int (low + k))), some (.p (qD q)), some (.p (.tuple ((numL b low k).map qD))), none, none, none]) (v := 7) (c := .call iL (.cons (.var 7) (.cons (.var 3) .nil))) (own := [7]) (L := numL b low k) (d := .p (.tuple ((numL b low k).map qD))) (fun r => decide (r < q)) rfl (by simp) (fun r hr => by
    simp [is_less_ok (n := n + 4) (S := []) hL (sm r hr) hq])
  have R2 := lcR_filterQ (S := []) (F := callN G (n + 5)) (Γ := [some (.p (.int b)), some (.p (.int low)), some (.p (.int (low + k))), some (.p (qD q)), some (.p (.tuple ((numL b low k).map qD))), some (.p (.list (((numL b low k).filter (fun r => decide (r < q))).map qD))), none, none]) (v := 7) (c := .call iL (.cons (.var 3) (.cons (.var 7) .nil))) (own := [7]) (L := numL b low k) (d := .p (.tuple ((numL b low k).map qD))) (fun r => decide (q < r)) rfl (by simp) (fun r hr => by
    simp [is_less_ok (n := n + 4) (S := []) hL hq (sm r hr)])
  have E := ends_ok (S := []) (callN G (n + 5)) [some (.p (.int b)), some (.p (.int low)), some (.p (.int (low + k))), some (.p (qD q)), some (.p (.tuple ((numL b low k).map qD))), some (.p (.list (((numL b low k).filter (fun r => decide (r < q))).map qD))), some (.p (.list (((numL b low k).filter (fun r => decide (q < r))).map qD))), none] 5 6 _ _ rfl rfl
  unfold endE at E
  generalize (numL b low k).filter (fun r => decide (r < q)) = U at *
  generalize (numL b low k).filter (fun r => decide (q < r)) = O at *
  generalize numL b low k = NN at *
  simp only [B_next_by, evS_seq, startL, evS_asg, evE_call, evL_cons, evL_nil, evE_var] 
  simp [-List.map_map, hn, R1, R2, E]
end
end Core
set_option Elab.async false
set_option linter.all false
set_option maxRecDepth 100000
set_option maxHeartbeats 1000000
/-! law_k11_whole_mirrored_rounding_and_next_numbers: its defs, printed by wip/gen.py -/
namespace ZK11
open PySem PySem.W L2 PyProof.Rows Core
abbrev top (i : Nat) : Stmt := PySem.Challenge.pw_roundtexts_k11_whole_mirrored_rounding_a.main.body.getD i (.Pass ⟨0, 0, 0, 0⟩)
/-- is_whole(value): 0 value -/
def b0 : CS := (.seq (.ret (.and (.isi (.var 0) [.int]) (.not (.isi (.var 0) [.bool]))))
  .skip)
def fn0 : Fn := ⟨1, 1, b0, false⟩
/-- is_between(value, low, high): 0 value 1 low 2 high -/
def b1 : CS := (.seq (.ret (.and (.call 0 (.cons (.var 0) .nil)) (.chain .le .le (.var 1) (.var 0) (.var 2))))
  .skip)
def fn1 : Fn := ⟨3, 3, b1, false⟩
/-- is_tuple_of(value, many): 0 value 1 many -/
def b2 : CS := (.seq (.ret (.and (.isi (.var 0) [.tuple]) (.cmp .eq (.bf .len (.cons (.var 0) .nil)) (.var 1))))
  .skip)
def fn2 : Fn := ⟨2, 2, b2, false⟩
/-- fraction(number, under): 0 number 1 under 2 part -/
def b3 : CS := (.seq (.asg (.nm 2) (.bin .mul (.bf .gcd (.cons (.var 0) (.cons (.var 1) .nil))) (.ite (.cmp .gt (.var 1) (.con (.int 0))) (.con (.int 1)) (.neg (.con (.int 1))))))
  (.seq (.ret (.tup (.cons (.bin .fdiv (.var 0) (.var 2)) (.cons (.bin .fdiv (.var 1) (.var 2)) .nil))))
  .skip))
def fn3 : Fn := ⟨2, 3, b3, false⟩
/-- is_fraction_by(value): 0 value -/
def b4 : CS := (.seq (.ite (.or (.not (.call 2 (.cons (.var 0) (.cons (.con (.int 2)) .nil)))) (.or (.not (.call 0 (.cons (.idx (.var 0) (.con (.int 0))) .nil))) (.or (.not (.call 0 (.cons (.idx (.var 0) (.con (.int 1))) .nil))) (.cmp .le (.idx (.var 0) (.con (.int 1))) (.con (.int 0)))))) (.seq (.ret (.con (.bool false)))
  .skip) .skip)
  (.seq (.ret (.cmp .eq (.bf .gcd (.cons (.idx (.var 0) (.con (.int 0))) (.cons (.idx (.var 0) (.con (.int 1))) .nil))) (.con (.int 1))))
  .skip))
def fn4 : Fn := ⟨1, 1, b4, false⟩
/-- whole(number): 0 number -/
def b5 : CS := (.seq (.ret (.tup (.cons (.var 0) (.cons (.con (.int 1)) .nil))))
  .skip)
def fn5 : Fn := ⟨1, 1, b5, false⟩
/-- less(one, two): 0 one 1 two -/
def b6 : CS := (.seq (.ret (.call 3 (.cons (.bin .sub (.bin .mul (.idx (.var 0) (.con (.int 0))) (.idx (.var 1) (.con (.int 1)))) (.bin .mul (.idx (.var 1) (.con (.int 0))) (.idx (.var 0) (.con (.int 1))))) (.cons (.bin .mul (.idx (.var 0) (.con (.int 1))) (.idx (.var 1) (.con (.int 1)))) .nil))))
  .skip)
def fn6 : Fn := ⟨2, 2, b6, false⟩
/-- times(one, two): 0 one 1 two -/
def b7 : CS := (.seq (.ret (.call 3 (.cons (.bin .mul (.idx (.var 0) (.con (.int 0))) (.idx (.var 1) (.con (.int 0)))) (.cons (.bin .mul (.idx (.var 0) (.con (.int 1))) (.idx (.var 1) (.con (.int 1)))) .nil))))
  .skip)
def fn7 : Fn := ⟨2, 2, b7, false⟩
/-- is_less(one, two): 0 one 1 two -/
def b8 : CS := (.seq (.ret (.cmp .lt (.bin .mul (.idx (.var 0) (.con (.int 0))) (.idx (.var 1) (.con (.int 1)))) (.bin .mul (.idx (.var 1) (.con (.int 0))) (.idx (.var 0) (.con (.int 1))))))
  .skip)
def fn8 : Fn := ⟨2, 2, b8, false⟩
/-- size_of(one): 0 one -/
def b9 : CS := (.seq (.ret (.tup (.cons (.bf .abs (.cons (.idx (.var 0) (.con (.int 0))) .nil)) (.cons (.idx (.var 0) (.con (.int 1))) .nil))))
  .skip)
def fn9 : Fn := ⟨1, 1, b9, false⟩
/-- power_of_two(number): 0 number -/
def b10 : CS := (.seq (.ret (.ite (.cmp .ge (.var 0) (.con (.int 0))) (.tup (.cons (.bin .shl (.con (.int 1)) (.var 0)) (.cons (.con (.int 1)) .nil))) (.tup (.cons (.con (.int 1)) (.cons (.bin .shl (.con (.int 1)) (.neg (.var 0))) .nil)))))
  .skip)
def fn10 : Fn := ⟨1, 1, b10, false⟩
/-- greatest_by(bits, high): 0 bits 1 high -/
def b11 : CS := (.seq (.ret (.call 7 (.cons (.call 5 (.cons (.bin .sub (.bin .shl (.con (.int 1)) (.var 0)) (.con (.int 1))) .nil)) (.cons (.call 10 (.cons (.var 1) .nil)) .nil))))
  .skip)
def fn11 : Fn := ⟨2, 2, b11, false⟩
/-- sizes_by(bits, low, high): 0 bits 1 low 2 high 3 found 4 power 5 number -/
def b12 : CS := (.seq (.asg (.nm 3) (.mlc (.nm 5) .rng2 (.cons (.con (.int 1)) (.cons (.bin .shl (.con (.int 1)) (.var 0)) .nil)) (.con (.bool true)) (.call 7 (.cons (.call 5 (.cons (.var 5) .nil)) (.cons (.call 10 (.cons (.var 1) .nil)) .nil))) [5]))
  (.seq (.for_ (.nm 4) .rng2 (.cons (.bin .add (.var 1) (.con (.int 1))) (.cons (.bin .add (.var 2) (.con (.int 1))) .nil)) (.seq (.extend (.var 3) (.lc (.nm 5) .rng2 (.cons (.bin .shl (.con (.int 1)) (.bin .sub (.var 0) (.con (.int 1)))) (.cons (.bin .shl (.con (.int 1)) (.var 0)) .nil)) (.con (.bool true)) (.call 7 (.cons (.call 5 (.cons (.var 5) .nil)) (.cons (.call 10 (.cons (.var 4) .nil)) .nil))) [5]))
  .skip))
  (.seq (.ret (.var 3))
  .skip)))
def fn12 : Fn := ⟨3, 6, b12, false⟩
/-- numbers_by(bits, low, high): 0 bits 1 low 2 high 3 sizes 4 size -/
def b13 : CS := (.seq (.asg (.nm 3) (.call 12 (.cons (.var 0) (.cons (.var 1) (.cons (.var 2) .nil)))))
  (.seq (.ret (.bf .tuple (.cons (.bin .add (.bin .add (.lc (.nm 4) .seq (.cons (.rev (.var 3)) .nil) (.con (.bool true)) (.tup (.cons (.neg (.idx (.var 4) (.con (.int 0)))) (.cons (.idx (.var 4) (.con (.int 1))) .nil))) [4]) (.lst (.cons (.tup (.cons (.con (.int 0)) (.cons (.con (.int 1)) .nil))) .nil))) (.var 3)) .nil)))
  .skip))
def fn13 : Fn := ⟨3, 5, b13, false⟩
/-- power_for(bits, low, value): 0 bits 1 low 2 value 3 size 4 power -/
def b14 : CS := (.seq (.par [3, 4] (.cons (.call 9 (.cons (.var 2) .nil)) (.cons (.var 1) .nil)))
  (.seq (.whl (.not (.call 8 (.cons (.var 3) (.cons (.call 10 (.cons (.bin .add (.var 0) (.var 4)) .nil)) .nil)))) (.seq (.asg (.nm 4) (.bin .add (.var 4) (.con (.int 1))))
  .skip))
  (.seq (.ret (.var 4))
  .skip)))
def fn14 : Fn := ⟨3, 5, b14, false⟩
/-- nearer(value, way): 0 value 1 way 2 down 3 apart -/
def b15 : CS := (.seq (.asg (.nm 2) (.bin .fdiv (.idx (.var 0) (.con (.int 0))) (.idx (.var 0) (.con (.int 1)))))
  (.seq (.asg (.nm 3) (.call 6 (.cons (.var 0) (.cons (.call 5 (.cons (.var 2) .nil)) .nil))))
  (.seq (.ite (.cmp .ne (.var 3) (.con (.tuple [.int 1, .int 2]))) (.seq (.ret (.ite (.call 8 (.cons (.var 3) (.cons (.con (.tuple [.int 1, .int 2])) .nil))) (.var 2) (.bin .add (.var 2) (.con (.int 1)))))
  .skip) .skip)
  (.seq (.ite (.cmp .eq (.var 1) (.con (.str "even"))) (.seq (.ret (.ite (.cmp .eq (.bin .mod (.bf .int (.cons (.var 2) .nil)) (.con (.int 2))) (.con (.int 0))) (.var 2) (.bin .add (.var 2) (.con (.int 1)))))
  .skip) .skip)
  (.seq (.ret (.ite (.cmp .gt (.idx (.var 0) (.con (.int 0))) (.con (.int 0))) (.bin .add (.var 2) (.con (.int 1))) (.var 2)))
  .skip)))))
def fn15 : Fn := ⟨2, 4, b15, false⟩
/-- rounded_to_number(value, way): 0 value 1 way 2 down 3 up -/
def b16 : CS := (.seq (.par [2, 3] (.cons (.bin .fdiv (.idx (.var 0) (.con (.int 0))) (.idx (.var 0) (.con (.int 1)))) (.cons (.neg (.bin .fdiv (.neg (.idx (.var 0) (.con (.int 0)))) (.idx (.var 0) (.con (.int 1))))) .nil)))
  (.seq (.ite (.cmp .isin (.var 1) (.tup (.cons (.con (.str "even")) (.cons (.con (.str "away")) .nil)))) (.seq (.ret (.call 15 (.cons (.var 0) (.cons (.var 1) .nil))))
  .skip) .skip)
  (.seq (.ite (.cmp .eq (.var 1) (.con (.str "zero"))) (.seq (.ret (.ite (.cmp .ge (.idx (.var 0) (.con (.int 0))) (.con (.int 0))) (.var 2) (.var 3)))
  .skip) .skip)
  (.seq (.ret (.ite (.cmp .eq (.var 1) (.con (.str "down"))) (.var 2) (.var 3)))
  .skip))))
def fn16 : Fn := ⟨2, 4, b16, false⟩
/-- rounded_by(form, value): 0 form 1 value 2 step 3 scaled 4 found 5 bits 6 low 7 high 8 way -/
def b17 : CS := (.seq (.asg (.cons (.nm 5) (.cons (.nm 6) (.cons (.nm 7) (.cons (.nm 8) .nil)))) (.var 0))
  (.seq (.asg (.nm 2) (.call 10 (.cons (.call 14 (.cons (.var 5) (.cons (.var 6) (.cons (.var 1) .nil)))) .nil)))
  (.seq (.asg (.nm 3) (.call 3 (.cons (.bin .mul (.idx (.var 1) (.con (.int 0))) (.idx (.var 2) (.con (.int 1)))) (.cons (.bin .mul (.idx (.var 1) (.con (.int 1))) (.idx (.var 2) (.con (.int 0)))) .nil))))
  (.seq (.asg (.nm 4) (.call 7 (.cons (.call 5 (.cons (.call 16 (.cons (.var 3) (.cons (.var 8) .nil))) .nil)) (.cons (.var 2) .nil))))
  (.seq (.ret (.ite (.not (.call 8 (.cons (.call 11 (.cons (.var 5) (.cons (.var 7) .nil))) (.cons (.call 9 (.cons (.var 4) .nil)) .nil)))) (.var 4) (.con (.none))))
  .skip)))))
def fn17 : Fn := ⟨2, 9, b17, false⟩
/-- greatest_high(low): 0 low -/
def b18 : CS := (.seq (.ret (.bf .min (.cons (.con (.int 8)) (.cons (.bin .add (.var 0) (.con (.int 8))) .nil))))
  .skip)
def fn18 : Fn := ⟨1, 1, b18, false⟩
/-- check_sizes(bits, low): 0 bits 1 low -/
def b19 : CS := (.seq (.ite (.not (.call 1 (.cons (.var 0) (.cons (.con (.int 1)) (.cons (.con (.int 5)) .nil))))) (.seq .stop
  .skip) .skip)
  (.seq (.ite (.not (.call 1 (.cons (.var 1) (.cons (.con (.int (-8))) (.cons (.con (.int 8)) .nil))))) (.seq .stop
  .skip) .skip)
  .skip))
def fn19 : Fn := ⟨2, 2, b19, false⟩
/-- check_high(low, high): 0 low 1 high -/
def b20 : CS := (.seq (.ite (.not (.call 1 (.cons (.var 1) (.cons (.var 0) (.cons (.call 18 (.cons (.var 0) .nil)) .nil))))) (.seq .stop
  .skip) .skip)
  .skip)
def fn20 : Fn := ⟨2, 2, b20, false⟩
/-- format_numbers(bits, low, high): 0 bits 1 low 2 high -/
def b21 : CS := (.seq (.expr (.call 19 (.cons (.var 0) (.cons (.var 1) .nil))))
  (.seq (.expr (.call 20 (.cons (.var 1) (.cons (.var 2) .nil))))
  (.seq (.ret (.call 13 (.cons (.var 0) (.cons (.var 1) (.cons (.var 2) .nil)))))
  .skip)))
def fn21 : Fn := ⟨3, 3, b21, false⟩
/-- rounded(bits, low, high, way, value): 0 bits 1 low 2 high 3 way 4 value -/
def b22 : CS := (.seq (.expr (.call 19 (.cons (.var 0) (.cons (.var 1) .nil))))
  (.seq (.expr (.call 20 (.cons (.var 1) (.cons (.var 2) .nil))))
  (.seq (.ite (.or (.not (.isi (.var 3) [.str])) (.cmp .nin (.var 3) (.con (.tuple [.str "even", .str "away", .str "down", .str "up", .str "zero"])))) (.seq .stop
  .skip) .skip)
  (.seq (.ite (.not (.call 4 (.cons (.var 4) .nil))) (.seq .stop
  .skip) .skip)
  (.seq (.ret (.call 17 (.cons (.tup (.cons (.var 0) (.cons (.var 1) (.cons (.var 2) (.cons (.var 3) .nil))))) (.cons (.var 4) .nil))))
  .skip)))))
def fn22 : Fn := ⟨5, 5, b22, false⟩
/-- next_numbers_by(bits, low, high, value): 0 bits 1 low 2 high 3 value 4 numbers 5 below 6 above 7 number -/
def b23 : CS := (.seq (.asg (.nm 4) (.call 13 (.cons (.var 0) (.cons (.var 1) (.cons (.var 2) .nil)))))
  (.seq (.asg (.nm 5) (.lc (.nm 7) .seq (.cons (.var 4) .nil) (.call 8 (.cons (.var 7) (.cons (.var 3) .nil))) (.var 7) [7]))
  (.seq (.asg (.nm 6) (.lc (.nm 7) .seq (.cons (.var 4) .nil) (.call 8 (.cons (.var 3) (.cons (.var 7) .nil))) (.var 7) [7]))
  (.seq (.ret (.tup (.cons (.ite (.cmp .ne (.var 5) (.lst .nil)) (.idx (.var 5) (.neg (.con (.int 1)))) (.con (.none))) (.cons (.ite (.cmp .ne (.var 6) (.lst .nil)) (.idx (.var 6) (.con (.int 0))) (.con (.none))) .nil))))
  .skip))))
def fn23 : Fn := ⟨4, 8, b23, false⟩
/-- next_numbers(bits, low, high, value): 0 bits 1 low 2 high 3 value -/
def b24 : CS := (.seq (.expr (.call 19 (.cons (.var 0) (.cons (.var 1) .nil))))
  (.seq (.expr (.call 20 (.cons (.var 1) (.cons (.var 2) .nil))))
  (.seq (.ite (.not (.call 4 (.cons (.var 3) .nil))) (.seq .stop
  .skip) .skip)
  (.seq (.ret (.call 23 (.cons (.var 0) (.cons (.var 1) (.cons (.var 2) (.cons (.var 3) .nil))))))
  .skip))))
def fn24 : Fn := ⟨4, 4, b24, false⟩
/-- _law_pool(script, lap): 0 script 1 lap 2 cell 3 stirred 4 each -/
def b25 : CS := (.seq (.asg (.nm 2) (.ite (.cmp .lt (.var 1) (.bf .len (.cons (.var 0) .nil))) (.bf .int (.cons (.idx (.var 0) (.var 1)) .nil)) (.bin .add (.bin .mul (.con (.int 16375)) (.var 1)) (.con (.int 71955)))))
  (.seq (.asg (.nm 3) (.bin .add (.con (.int 4344444)) (.bin .mul (.con (.int 7919)) (.var 1))))
  (.seq (.for_ (.nm 4) .seq (.cons (.slcH (.var 0) (.con (.int 63))) .nil) (.seq (.asg (.nm 3) (.bin .mod (.bf .int (.cons (.bin .add (.bin .add (.bin .mul (.var 3) (.con (.int 48271))) (.bin .mod (.bf .int (.cons (.var 4) .nil)) (.con (.int 2147483629)))) (.con (.int 11))) .nil)) (.con (.int 2147483647))))
  .skip))
  (.seq (.asg (.nm 3) (.bin .mod (.bf .int (.cons (.bin .add (.bin .add (.bin .mul (.var 3) (.con (.int 69621))) (.bin .mul (.bin .mod (.bf .int (.cons (.var 2) .nil)) (.con (.int 2147483629))) (.con (.int 16807)))) (.con (.int 7))) .nil)) (.con (.int 2147483647))))
  (.seq (.ret (.mlst (.cons (.ite (.or (.cmp .lt (.var 2) (.con (.int 0))) (.cmp .ge (.var 2) (.bin .pow (.con (.int 10)) (.con (.int 18))))) (.bf .abs (.cons (.var 2) .nil)) (.con (.int 0))) (.cons (.var 3) (.cons (.con (.int 0)) .nil)))))
  .skip)))))
def fn25 : Fn := ⟨2, 5, b25, true⟩
/-- _law_f(top, low): 0 top 1 low 2 by 3 one 4 two -/
def b26 : CS := (.seq (.par [3, 4] (.cons (.bf .abs (.cons (.var 0) .nil)) (.cons (.bf .abs (.cons (.var 1) .nil)) .nil)))
  (.seq (.whl (.cmp .gt (.var 4) (.con (.int 0))) (.seq (.par [3, 4] (.cons (.var 4) (.cons (.bin .mod (.bf .int (.cons (.var 3) .nil)) (.var 4)) .nil)))
  .skip))
  (.seq (.asg (.nm 2) (.ite (.cmp .gt (.var 1) (.con (.int 0))) (.var 3) (.bin .sub (.con (.int 0)) (.var 3))))
  (.seq (.ret (.tup (.cons (.bin .fdiv (.var 0) (.var 2)) (.cons (.bin .fdiv (.var 1) (.var 2)) .nil))))
  .skip))))
def fn26 : Fn := ⟨2, 5, b26, false⟩
/-- _law_times(one, two): 0 one 1 two -/
def b27 : CS := (.seq (.ret (.call 26 (.cons (.bin .mul (.idx (.var 0) (.con (.int 0))) (.idx (.var 1) (.con (.int 0)))) (.cons (.bin .mul (.idx (.var 0) (.con (.int 1))) (.idx (.var 1) (.con (.int 1)))) .nil))))
  .skip)
def fn27 : Fn := ⟨2, 2, b27, false⟩
/-- _law_less(one, two): 0 one 1 two -/
def b28 : CS := (.seq (.ret (.cmp .lt (.bin .mul (.idx (.var 0) (.con (.int 0))) (.idx (.var 1) (.con (.int 1)))) (.bin .mul (.idx (.var 1) (.con (.int 0))) (.idx (.var 0) (.con (.int 1))))))
  .skip)
def fn28 : Fn := ⟨2, 2, b28, false⟩
/-- _law_same(told, due): 0 told 1 due 2 x 3 y -/
def b29 : CS := (.seq (.ite (.isN true (.var 1)) (.seq (.ret (.isN true (.var 0)))
  .skip) .skip)
  (.seq (.ite (.isi (.var 1) [.bool]) (.seq (.ret (.and (.isi (.var 0) [.bool]) (.cmp .eq (.var 0) (.var 1))))
  .skip) .skip)
  (.seq (.ite (.isi (.var 1) [.int]) (.seq (.ret (.and (.isi (.var 0) [.int]) (.and (.not (.isi (.var 0) [.bool])) (.cmp .eq (.var 0) (.var 1)))))
  .skip) .skip)
  (.seq (.ite (.isi (.var 1) [.str]) (.seq (.ret (.and (.isi (.var 0) [.str]) (.cmp .eq (.var 0) (.var 1))))
  .skip) .skip)
  (.seq (.ite (.or (.not (.isi (.var 0) [.tuple])) (.cmp .ne (.bf .len (.cons (.var 0) .nil)) (.bf .len (.cons (.var 1) .nil)))) (.seq (.ret (.con (.bool false)))
  .skip) .skip)
  (.seq (.ret (.bf .all (.cons (.lc (.cons (.nm 2) (.cons (.nm 3) .nil)) .zip (.cons (.var 0) (.cons (.var 1) .nil)) (.con (.bool true)) (.call 29 (.cons (.var 2) (.cons (.var 3) .nil))) [2, 3]) .nil)))
  .skip))))))
def fn29 : Fn := ⟨2, 4, b29, false⟩
/-- _law_below(pool, many): 0 pool 1 many 2 mixed 3 figure -/
def b30 : CS := (.seq (.ite (.cmp .gt (.idx (.var 0) (.con (.int 0))) (.con (.int 0))) (.seq (.asg (.nm 3) (.bin .mod (.bf .int (.cons (.idx (.var 0) (.con (.int 0))) .nil)) (.var 1)))
  (.seq (.seti (.var 0) (.con (.int 0)) (.bin .fdiv (.idx (.var 0) (.con (.int 0))) (.var 1)))
  (.seq (.ret (.var 3))
  .skip))) .skip)
  (.seq (.seti (.var 0) (.con (.int 2)) (.bin .add (.idx (.var 0) (.con (.int 2))) (.con (.int 1))))
  (.seq (.asg (.nm 2) (.bin .mod (.bf .int (.cons (.bin .add (.bin .add (.bin .mul (.idx (.var 0) (.con (.int 1))) (.con (.int 265203))) (.bin .mul (.idx (.var 0) (.con (.int 2))) (.con (.int 256395)))) (.con (.int 5))) .nil)) (.con (.int 2147483647))))
  (.seq (.seti (.var 0) (.con (.int 1)) (.bin .mod (.bf .int (.cons (.bin .add (.bin .mul (.var 2) (.bin .add (.bin .mod (.bf .int (.cons (.var 2) .nil)) (.con (.int 4093))) (.con (.int 912493)))) (.idx (.var 0) (.con (.int 2)))) .nil)) (.con (.int 2147483563))))
  (.seq (.ret (.bin .mod (.bf .int (.cons (.bin .fdiv (.idx (.var 0) (.con (.int 1))) (.con (.int 61))) .nil)) (.var 1)))
  .skip)))))
def fn30 : Fn := ⟨2, 4, b30, false⟩
/-- _law_one(pool, some): 0 pool 1 some -/
def b31 : CS := (.seq (.ret (.idx (.var 1) (.call 30 (.cons (.var 0) (.cons (.bf .len (.cons (.var 1) .nil)) .nil)))))
  .skip)
def fn31 : Fn := ⟨2, 2, b31, false⟩
/-- _law_turned(number): 0 number -/
def b32 : CS := (.seq (.ret (.ite (.isN true (.var 0)) (.con (.none)) (.tup (.cons (.bin .sub (.con (.int 0)) (.idx (.var 0) (.con (.int 0)))) (.cons (.idx (.var 0) (.con (.int 1))) .nil)))))
  .skip)
def fn32 : Fn := ⟨1, 1, b32, false⟩
/-- _law_right(pool): 0 pool 1 lap 2 low 3 rows 4 turn 5 bits 6 high 7 value 8 told 9 back 10 twice 11 due 12 under 13 over 14 next_ones 15 way 16 each 17 number -/
def b33 : CS := (.seq (.for_ (.nm 1) .rng1 (.cons (.con (.int 7)) .nil) (.seq (.asg (.nm 2) (.bin .sub (.call 30 (.cons (.var 0) (.cons (.con (.int 9)) .nil))) (.con (.int 6))))
  (.seq (.asg (.cons (.nm 5) (.cons (.nm 6) .nil)) (.tup (.cons (.bin .add (.con (.int 1)) (.call 30 (.cons (.var 0) (.cons (.con (.int 4)) .nil)))) (.cons (.bin .add (.var 2) (.call 30 (.cons (.var 0) (.cons (.con (.int 4)) .nil)))) .nil))))
  (.seq (.asg (.nm 3) (.call 21 (.cons (.var 5) (.cons (.var 2) (.cons (.var 6) .nil)))))
  (.seq (.for_ (.nm 4) .rng1 (.cons (.con (.int 12)) .nil) (.seq (.asg (.nm 7) (.call 31 (.cons (.var 0) (.cons (.tup (.cons (.call 31 (.cons (.var 0) (.cons (.var 3) .nil))) (.cons (.call 26 (.cons (.bin .sub (.call 30 (.cons (.var 0) (.cons (.con (.int 400)) .nil))) (.con (.int 200))) (.cons (.bin .add (.con (.int 1)) (.call 30 (.cons (.var 0) (.cons (.con (.int 30)) .nil)))) .nil))) (.cons (.call 27 (.cons (.idx (.var 3) (.neg (.con (.int 1)))) (.cons (.tup (.cons (.bin .add (.con (.int 3)) (.call 30 (.cons (.var 0) (.cons (.con (.int 4)) .nil)))) (.cons (.con (.int 3)) .nil))) .nil))) .nil)))) .nil))))
  (.seq (.asg (.nm 8) (.lc (.nm 15) .seq (.cons (.tup (.cons (.con (.str "even")) (.cons (.con (.str "away")) (.cons (.con (.str "zero")) (.cons (.con (.str "down")) (.cons (.con (.str "up")) .nil)))))) .nil) (.con (.bool true)) (.call 22 (.cons (.var 5) (.cons (.var 2) (.cons (.var 6) (.cons (.var 15) (.cons (.var 7) .nil)))))) [15]))
  (.seq (.asg (.nm 9) (.lc (.nm 15) .seq (.cons (.tup (.cons (.con (.str "even")) (.cons (.con (.str "away")) (.cons (.con (.str "zero")) (.cons (.con (.str "up")) (.cons (.con (.str "down")) .nil)))))) .nil) (.con (.bool true)) (.call 22 (.cons (.var 5) (.cons (.var 2) (.cons (.var 6) (.cons (.var 15) (.cons (.call 32 (.cons (.var 7) .nil)) .nil)))))) [15]))
  (.seq (.ite (.cmp .ne (.lc (.nm 16) .seq (.cons (.var 9) .nil) (.con (.bool true)) (.call 32 (.cons (.var 16) .nil)) [16]) (.var 8)) (.seq (.ret (.con (.bool false)))
  .skip) .skip)
  (.seq (.asg (.nm 10) (.lc (.nm 15) .seq (.cons (.tup (.cons (.con (.str "even")) (.cons (.con (.str "away")) (.cons (.con (.str "zero")) (.cons (.con (.str "down")) (.cons (.con (.str "up")) .nil)))))) .nil) (.con (.bool true)) (.call 22 (.cons (.var 5) (.cons (.bin .add (.var 2) (.con (.int 1))) (.cons (.bin .add (.var 6) (.con (.int 1))) (.cons (.var 15) (.cons (.call 27 (.cons (.var 7) (.cons (.tup (.cons (.con (.int 2)) (.cons (.con (.int 1)) .nil))) .nil))) .nil)))))) [15]))
  (.seq (.ite (.cmp .ne (.var 10) (.lc (.nm 16) .seq (.cons (.var 8) .nil) (.con (.bool true)) (.ite (.isN true (.var 16)) (.con (.none)) (.call 27 (.cons (.var 16) (.cons (.tup (.cons (.con (.int 2)) (.cons (.con (.int 1)) .nil))) .nil)))) [16])) (.seq (.ret (.con (.bool false)))
  .skip) .skip)
  (.seq (.par [12, 13] (.cons (.lc (.nm 17) .seq (.cons (.var 3) .nil) (.call 28 (.cons (.var 17) (.cons (.var 7) .nil))) (.var 17) [17]) (.cons (.lc (.nm 17) .seq (.cons (.var 3) .nil) (.call 28 (.cons (.var 7) (.cons (.var 17) .nil))) (.var 17) [17]) .nil)))
  (.seq (.asg (.nm 11) (.tup (.cons (.ite (.cmp .ne (.var 12) (.lst .nil)) (.idx (.var 12) (.neg (.con (.int 1)))) (.con (.none))) (.cons (.ite (.cmp .ne (.var 13) (.lst .nil)) (.idx (.var 13) (.con (.int 0))) (.con (.none))) .nil))))
  (.seq (.ite (.cmp .eq (.call 30 (.cons (.var 0) (.cons (.con (.int 2)) .nil))) (.con (.int 0))) (.seq (.asg (.nm 14) (.callk 24 [3, 2, 1, 0] .nil (.cons (.var 7) (.cons (.var 6) (.cons (.var 2) (.cons (.var 5) .nil))))))
  .skip) (.seq (.asg (.nm 14) (.call 24 (.cons (.var 5) (.cons (.var 2) (.cons (.var 6) (.cons (.var 7) .nil))))))
  .skip))
  (.seq (.ite (.not (.call 29 (.cons (.var 14) (.cons (.var 11) .nil)))) (.seq (.ret (.con (.bool false)))
  .skip) .skip)
  (.seq (.ite (.and (.cmp .nin (.var 7) (.var 3)) (.and (.not (.call 28 (.cons (.idx (.var 3) (.neg (.con (.int 1)))) (.cons (.tup (.cons (.bf .abs (.cons (.idx (.var 7) (.con (.int 0))) .nil)) (.cons (.idx (.var 7) (.con (.int 1))) .nil))) .nil)))) (.cmp .ne (.var 14) (.tup (.cons (.idx (.var 8) (.con (.int 3))) (.cons (.idx (.var 8) (.con (.int 4))) .nil)))))) (.seq (.ret (.con (.bool false)))
  .skip) .skip)
  .skip))))))))))))
  .skip)))))
  (.seq (.ret (.cmp .eq (.tup (.cons (.call 24 (.cons (.con (.int 2)) (.cons (.con (.int 0)) (.cons (.con (.int 1)) (.cons (.tup (.cons (.con (.int 4)) (.cons (.con (.int 1)) .nil))) .nil))))) (.cons (.call 24 (.cons (.con (.int 2)) (.cons (.con (.int 0)) (.cons (.con (.int 1)) (.cons (.tup (.cons (.con (.int 13)) (.cons (.con (.int 2)) .nil))) .nil))))) .nil))) (.tup (.cons (.tup (.cons (.tup (.cons (.con (.int 3)) (.cons (.con (.int 1)) .nil))) (.cons (.tup (.cons (.con (.int 6)) (.cons (.con (.int 1)) .nil))) .nil))) (.cons (.tup (.cons (.tup (.cons (.con (.int 6)) (.cons (.con (.int 1)) .nil))) (.cons (.con (.none)) .nil))) .nil)))))
  .skip))
def fn33 : Fn := ⟨1, 18, b33, false⟩
/-- law(script): 0 script 1 lap -/
def b34 : CS := (.seq (.ret (.bf .all (.cons (.lc (.nm 1) .rng1 (.cons (.bf .max (.cons (.con (.int 1)) (.cons (.bf .min (.cons (.bf .len (.cons (.var 0) .nil)) (.cons (.con (.int 3)) .nil))) .nil))) .nil) (.con (.bool true)) (.call 33 (.cons (.call 25 (.cons (.var 0) (.cons (.var 1) .nil))) .nil)) [1]) .nil)))
  .skip)
def fn34 : Fn := ⟨1, 2, b34, false⟩
def LW : Law := ⟨[fn0, fn1, fn2, fn3, fn4, fn5, fn6, fn7, fn8, fn9, fn10, fn11, fn12, fn13, fn14, fn15, fn16, fn17, fn18, fn19, fn20, fn21, fn22, fn23, fn24, fn25, fn26, fn27, fn28, fn29, fn30, fn31, fn32, fn33, fn34], (["is_whole", "is_between", "is_tuple_of", "fraction", "is_fraction_by", "whole", "less", "times", "is_less", "size_of", "power_of_two", "greatest_by", "sizes_by", "numbers_by", "power_for", "nearer", "rounded_to_number", "rounded_by", "greatest_high", "check_sizes"] : List Str) ++ (["check_high", "format_numbers", "rounded", "next_numbers_by", "next_numbers", "_law_pool", "_law_f", "_law_times", "_law_less", "_law_same", "_law_below", "_law_one", "_law_turned", "_law_right", "law"] : List Str), [("WAYS", .tuple [.str "even", .str "away", .str "down", .str "up", .str "zero"]), ("EVEN", .str "even"), ("AWAY", .str "away"), ("DOWN", .str "down"), ("ZERO", .str "zero"), ("HALF", .tuple [.int 1, .int 2]), ("MOST_BITS", .int 5), ("LEAST_POWER", .int (-8)), ("GREATEST_POWER", .int 8), ("MOST_POWERS", .int 8)], true, [(24, 0, ["value", "high", "low", "bits"], [3, 2, 1, 0])]⟩
def r0 : DefRow := ⟨"is_whole", top 2, ["value"], ["value"], [], fn0⟩
def r1 : DefRow := ⟨"is_between", top 3, ["value", "low", "high"], ["value", "low", "high"], [], fn1⟩
def r2 : DefRow := ⟨"is_tuple_of", top 4, ["value", "many"], ["value", "many"], [], fn2⟩
def r3 : DefRow := ⟨"fraction", top 5, ["number", "under", "part"], ["number", "under"], [], fn3⟩
def r4 : DefRow := ⟨"is_fraction_by", top 6, ["value"], ["value"], [], fn4⟩
def r5 : DefRow := ⟨"whole", top 7, ["number"], ["number"], [], fn5⟩
def r6 : DefRow := ⟨"less", top 8, ["one", "two"], ["one", "two"], [], fn6⟩
def r7 : DefRow := ⟨"times", top 9, ["one", "two"], ["one", "two"], [], fn7⟩
def r8 : DefRow := ⟨"is_less", top 10, ["one", "two"], ["one", "two"], [], fn8⟩
def r9 : DefRow := ⟨"size_of", top 11, ["one"], ["one"], [], fn9⟩
def r10 : DefRow := ⟨"power_of_two", top 23, ["number"], ["number"], [], fn10⟩
def r11 : DefRow := ⟨"greatest_by", top 24, ["bits", "high"], ["bits", "high"], [], fn11⟩
def r12 : DefRow := ⟨"sizes_by", top 25, ["bits", "low", "high", "found", "power", "number"], ["bits", "low", "high"], ["found"], fn12⟩
def r13 : DefRow := ⟨"numbers_by", top 26, ["bits", "low", "high", "sizes", "size"], ["bits", "low", "high"], [], fn13⟩
def r14 : DefRow := ⟨"power_for", top 27, ["bits", "low", "value", "size", "power"], ["bits", "low", "value"], [], fn14⟩
def r15 : DefRow := ⟨"nearer", top 28, ["value", "way", "down", "apart"], ["value", "way"], [], fn15⟩
def r16 : DefRow := ⟨"rounded_to_number", top 29, ["value", "way", "down", "up"], ["value", "way"], [], fn16⟩
def r17 : DefRow := ⟨"rounded_by", top 30, ["form", "value", "step", "scaled", "found", "bits", "low", "high", "way"], ["form", "value"], [], fn17⟩
def r18 : DefRow := ⟨"greatest_high", top 36, ["low"], ["low"], [], fn18⟩
def r19 : DefRow := ⟨"check_sizes", top 37, ["bits", "low"], ["bits", "low"], [], fn19⟩
def r20 : DefRow := ⟨"check_high", top 38, ["low", "high"], ["low", "high"], [], fn20⟩
def r21 : DefRow := ⟨"format_numbers", top 39, ["bits", "low", "high"], ["bits", "low", "high"], [], fn21⟩
def r22 : DefRow := ⟨"rounded", top 40, ["bits", "low", "high", "way", "value"], ["bits", "low", "high", "way", "value"], [], fn22⟩
def r23 : DefRow := ⟨"next_numbers_by", top 42, ["bits", "low", "high", "value", "numbers", "below", "above", "number"], ["bits", "low", "high", "value"], [], fn23⟩
def r24 : DefRow := ⟨"next_numbers", top 44, ["bits", "low", "high", "value"], ["bits", "low", "high", "value"], [], fn24⟩
def r25 : DefRow := ⟨"_law_pool", top 46, ["script", "lap", "cell", "stirred", "each"], ["script", "lap"], [], fn25⟩
def r26 : DefRow := ⟨"_law_f", top 47, ["top", "low", "by", "one", "two"], ["top", "low"], [], fn26⟩
def r27 : DefRow := ⟨"_law_times", top 48, ["one", "two"], ["one", "two"], [], fn27⟩
def r28 : DefRow := ⟨"_law_less", top 49, ["one", "two"], ["one", "two"], [], fn28⟩
def r29 : DefRow := ⟨"_law_same", top 50, ["told", "due", "x", "y"], ["told", "due"], [], fn29⟩
def r30 : DefRow := ⟨"_law_below", top 51, ["pool", "many", "mixed", "figure"], ["pool", "many"], [], fn30⟩
def r31 : DefRow := ⟨"_law_one", top 52, ["pool", "some"], ["pool", "some"], [], fn31⟩
def r32 : DefRow := ⟨"_law_turned", top 53, ["number"], ["number"], [], fn32⟩
def r33 : DefRow := ⟨"_law_right", top 54, ["pool", "lap", "low", "rows", "turn", "bits", "high", "value", "told", "back", "twice", "due", "under", "over", "next_ones", "way", "each", "number"], ["pool"], [], fn33⟩
def r34 : DefRow := ⟨"law", top 55, ["script", "lap"], ["script"], [], fn34⟩
def rows : List DefRow := [r0, r1, r2, r3, r4, r5, r6, r7, r8, r9, r10, r11, r12, r13, r14, r15, r16, r17, r18, r19, r20, r21, r22, r23, r24, r25, r26, r27, r28, r29, r30, r31, r32, r33, r34]
theorem ok0 : DefOk LW 0 r0 where
  sc := ⟨rfl, rfl, rfl, by decide +kernel, rfl, by decide +kernel, by decide +kernel⟩
  fn := rfl
  np := rfl
  sl := rfl
  body := fun cA => by kernel_rfl
  bind := fun _ _ _ _ _ _ us hl => match us, hl with | [_], _ => rfl
  kws := fun np ks perm h => by
    simp [LW] at h
theorem ok1 : DefOk LW 1 r1 where
  sc := ⟨rfl, rfl, rfl, by decide +kernel, rfl, by decide +kernel, by decide +kernel⟩
  fn := rfl
  np := rfl
  sl := rfl
  body := fun cA => by kernel_rfl
  bind := fun _ _ _ _ _ _ us hl => match us, hl with | [_, _, _], _ => rfl
  kws := fun np ks perm h => by
    simp [LW] at h
theorem ok2 : DefOk LW 2 r2 where
  sc := ⟨rfl, rfl, rfl, by decide +kernel, rfl, by decide +kernel, by decide +kernel⟩
  fn := rfl
  np := rfl
  sl := rfl
  body := fun cA => by kernel_rfl
  bind := fun _ _ _ _ _ _ us hl => match us, hl with | [_, _], _ => rfl
  kws := fun np ks perm h => by
    simp [LW] at h
theorem ok3 : DefOk LW 3 r3 where
  sc := ⟨rfl, rfl, rfl, by decide +kernel, rfl, by decide +kernel, by decide +kernel⟩
  fn := rfl
  np := rfl
  sl := rfl
  body := fun cA => by kernel_rfl
  bind := fun _ _ _ _ _ _ us hl => match us, hl with | [_, _], _ => rfl
  kws := fun np ks perm h => by
    simp [LW] at h
theorem ok4 : DefOk LW 4 r4 where
  sc := ⟨rfl, rfl, rfl, by decide +kernel, rfl, by decide +kernel, by decide +kernel⟩
  fn := rfl
  np := rfl
  sl := rfl
  body := fun cA => by kernel_rfl
  bind := fun _ _ _ _ _ _ us hl => match us, hl with | [_], _ => rfl
  kws := fun np ks perm h => by
    simp [LW] at h
theorem ok5 : DefOk LW 5 r5 where
  sc := ⟨rfl, rfl, rfl, by decide +kernel, rfl, by decide +kernel, by decide +kernel⟩
  fn := rfl
  np := rfl
  sl := rfl
  body := fun cA => by kernel_rfl
  bind := fun _ _ _ _ _ _ us hl => match us, hl with | [_], _ => rfl
  kws := fun np ks perm h => by
    simp [LW] at h
theorem ok6 : DefOk LW 6 r6 where
  sc := ⟨rfl, rfl, rfl, by decide +kernel, rfl, by decide +kernel, by decide +kernel⟩
  fn := rfl
  np := rfl
  sl := rfl
  body := fun cA => by kernel_rfl
  bind := fun _ _ _ _ _ _ us hl => match us, hl with | [_, _], _ => rfl
  kws := fun np ks perm h => by
    simp [LW] at h
theorem ok7 : DefOk LW 7 r7 where
  sc := ⟨rfl, rfl, rfl, by decide +kernel, rfl, by decide +kernel, by decide +kernel⟩
  fn := rfl
  np := rfl
  sl := rfl
  body := fun cA => by kernel_rfl
  bind := fun _ _ _ _ _ _ us hl => match us, hl with | [_, _], _ => rfl
  kws := fun np ks perm h => by
    simp [LW] at h
theorem ok8 : DefOk LW 8 r8 where
  sc := ⟨rfl, rfl, rfl, by decide +kernel, rfl, by decide +kernel, by decide +kernel⟩
  fn := rfl
  np := rfl
  sl := rfl
  body := fun cA => by kernel_rfl
  bind := fun _ _ _ _ _ _ us hl => match us, hl with | [_, _], _ => rfl
  kws := fun np ks perm h => by
    simp [LW] at h
theorem ok9 : DefOk LW 9 r9 where
  sc := ⟨rfl, rfl, rfl, by decide +kernel, rfl, by decide +kernel, by decide +kernel⟩
  fn := rfl
  np := rfl
  sl := rfl
  body := fun cA => by kernel_rfl
  bind := fun _ _ _ _ _ _ us hl => match us, hl with | [_], _ => rfl
  kws := fun np ks perm h => by
    simp [LW] at h
theorem ok10 : DefOk LW 10 r10 where
  sc := ⟨rfl, rfl, rfl, by decide +kernel, rfl, by decide +kernel, by decide +kernel⟩
  fn := rfl
  np := rfl
  sl := rfl
  body := fun cA => by kernel_rfl
  bind := fun _ _ _ _ _ _ us hl => match us, hl with | [_], _ => rfl
  kws := fun np ks perm h => by
    simp [LW] at h
theorem ok11 : DefOk LW 11 r11 where
  sc := ⟨rfl, rfl, rfl, by decide +kernel, rfl, by decide +kernel, by decide +kernel⟩
  fn := rfl
  np := rfl
  sl := rfl
  body := fun cA => by kernel_rfl
  bind := fun _ _ _ _ _ _ us hl => match us, hl with | [_, _], _ => rfl
  kws := fun np ks perm h => by
    simp [LW] at h
theorem ok12 : DefOk LW 12 r12 where
  sc := ⟨rfl, rfl, rfl, by decide +kernel, rfl, by decide +kernel, by decide +kernel⟩
  fn := rfl
  np := rfl
  sl := rfl
  body := fun cA => by kernel_rfl
  bind := fun _ _ _ _ _ _ us hl => match us, hl with | [_, _, _], _ => rfl
  kws := fun np ks perm h => by
    simp [LW] at h
theorem ok13 : DefOk LW 13 r13 where
  sc := ⟨rfl, rfl, rfl, by decide +kernel, rfl, by decide +kernel, by decide +kernel⟩
  fn := rfl
  np := rfl
  sl := rfl
  body := fun cA => by kernel_rfl
  bind := fun _ _ _ _ _ _ us hl => match us, hl with | [_, _, _], _ => rfl
  kws := fun np ks perm h => by
    simp [LW] at h
theorem ok14 : DefOk LW 14 r14 where
  sc := ⟨rfl, rfl, rfl, by decide +kernel, rfl, by decide +kernel, by decide +kernel⟩
  fn := rfl
  np := rfl
  sl := rfl
  body := fun cA => by kernel_rfl
  bind := fun _ _ _ _ _ _ us hl => match us, hl with | [_, _, _], _ => rfl
  kws := fun np ks perm h => by
    simp [LW] at h
theorem ok15 : DefOk LW 15 r15 where
  sc := ⟨rfl, rfl, rfl, by decide +kernel, rfl, by decide +kernel, by decide +kernel⟩
  fn := rfl
  np := rfl
  sl := rfl
  body := fun cA => by kernel_rfl
  bind := fun _ _ _ _ _ _ us hl => match us, hl with | [_, _], _ => rfl
  kws := fun np ks perm h => by
    simp [LW] at h
theorem ok16 : DefOk LW 16 r16 where
  sc := ⟨rfl, rfl, rfl, by decide +kernel, rfl, by decide +kernel, by decide +kernel⟩
  fn := rfl
  np := rfl
  sl := rfl
  body := fun cA => by kernel_rfl
  bind := fun _ _ _ _ _ _ us hl => match us, hl with | [_, _], _ => rfl
  kws := fun np ks perm h => by
    simp [LW] at h
theorem ok17 : DefOk LW 17 r17 where
  sc := ⟨rfl, rfl, rfl, by decide +kernel, rfl, by decide +kernel, by decide +kernel⟩
  fn := rfl
  np := rfl
  sl := rfl
  body := fun cA => by kernel_rfl
  bind := fun _ _ _ _ _ _ us hl => match us, hl with | [_, _], _ => rfl
  kws := fun np ks perm h => by
    simp [LW] at h
theorem ok18 : DefOk LW 18 r18 where
  sc := ⟨rfl, rfl, rfl, by decide +kernel, rfl, by decide +kernel, by decide +kernel⟩
  fn := rfl
  np := rfl
  sl := rfl
  body := fun cA => by kernel_rfl
  bind := fun _ _ _ _ _ _ us hl => match us, hl with | [_], _ => rfl
  kws := fun np ks perm h => by
    simp [LW] at h
theorem ok19 : DefOk LW 19 r19 where
  sc := ⟨rfl, rfl, rfl, by decide +kernel, rfl, by decide +kernel, by decide +kernel⟩
  fn := rfl
  np := rfl
  sl := rfl
  body := fun cA => by kernel_rfl
  bind := fun _ _ _ _ _ _ us hl => match us, hl with | [_, _], _ => rfl
  kws := fun np ks perm h => by
    simp [LW] at h
theorem ok20 : DefOk LW 20 r20 where
  sc := ⟨rfl, rfl, rfl, by decide +kernel, rfl, by decide +kernel, by decide +kernel⟩
  fn := rfl
  np := rfl
  sl := rfl
  body := fun cA => by kernel_rfl
  bind := fun _ _ _ _ _ _ us hl => match us, hl with | [_, _], _ => rfl
  kws := fun np ks perm h => by
    simp [LW] at h
theorem ok21 : DefOk LW 21 r21 where
  sc := ⟨rfl, rfl, rfl, by decide +kernel, rfl, by decide +kernel, by decide +kernel⟩
  fn := rfl
  np := rfl
  sl := rfl
  body := fun cA => by kernel_rfl
  bind := fun _ _ _ _ _ _ us hl => match us, hl with | [_, _, _], _ => rfl
  kws := fun np ks perm h => by
    simp [LW] at h
theorem ok22 : DefOk LW 22 r22 where
  sc := ⟨rfl, rfl, rfl, by decide +kernel, rfl, by decide +kernel, by decide +kernel⟩
  fn := rfl
  np := rfl
  sl := rfl
  body := fun cA => by kernel_rfl
  bind := fun _ _ _ _ _ _ us hl => match us, hl with | [_, _, _, _, _], _ => rfl
  kws := fun np ks perm h => by
    simp [LW] at h
theorem ok23 : DefOk LW 23 r23 where
  sc := ⟨rfl, rfl, rfl, by decide +kernel, rfl, by decide +kernel, by decide +kernel⟩
  fn := rfl
  np := rfl
  sl := rfl
  body := fun cA => by kernel_rfl
  bind := fun _ _ _ _ _ _ us hl => match us, hl with | [_, _, _, _], _ => rfl
  kws := fun np ks perm h => by
    simp [LW] at h
theorem ok24 : DefOk LW 24 r24 where
  sc := ⟨rfl, rfl, rfl, by decide +kernel, rfl, by decide +kernel, by decide +kernel⟩
  fn := rfl
  np := rfl
  sl := rfl
  body := fun cA => by kernel_rfl
  bind := fun _ _ _ _ _ _ us hl => match us, hl with | [_, _, _, _], _ => rfl
  kws := fun np ks perm h => by
    simp only [LW, List.mem_cons, Prod.mk.injEq, List.not_mem_nil, or_false, false_and, false_or, Nat.reduceEqDiff, reduceCtorEq, Nat.succ_ne_zero] at h
    rcases h with ⟨_, rfl, rfl, rfl⟩
    · exact fun _ _ _ _ _ _ us ws h1 h2 => match us, ws, h1, h2 with | [], [_, _, _, _], _, _ => rfl
theorem ok25 : DefOk LW 25 r25 where
  sc := ⟨rfl, rfl, rfl, by decide +kernel, rfl, by decide +kernel, by decide +kernel⟩
  fn := rfl
  np := rfl
  sl := rfl
  body := fun cA => by kernel_rfl
  bind := fun _ _ _ _ _ _ us hl => match us, hl with | [_, _], _ => rfl
  kws := fun np ks perm h => by
    simp [LW] at h
theorem ok26 : DefOk LW 26 r26 where
  sc := ⟨rfl, rfl, rfl, by decide +kernel, rfl, by decide +kernel, by decide +kernel⟩
  fn := rfl
  np := rfl
  sl := rfl
  body := fun cA => by kernel_rfl
  bind := fun _ _ _ _ _ _ us hl => match us, hl with | [_, _], _ => rfl
  kws := fun np ks perm h => by
    simp [LW] at h
theorem ok27 : DefOk LW 27 r27 where
  sc := ⟨rfl, rfl, rfl, by decide +kernel, rfl, by decide +kernel, by decide +kernel⟩
  fn := rfl
  np := rfl
  sl := rfl
  body := fun cA => by kernel_rfl
  bind := fun _ _ _ _ _ _ us hl => match us, hl with | [_, _], _ => rfl
  kws := fun np ks perm h => by
    simp [LW] at h
theorem ok28 : DefOk LW 28 r28 where
  sc := ⟨rfl, rfl, rfl, by decide +kernel, rfl, by decide +kernel, by decide +kernel⟩
  fn := rfl
  np := rfl
  sl := rfl
  body := fun cA => by kernel_rfl
  bind := fun _ _ _ _ _ _ us hl => match us, hl with | [_, _], _ => rfl
  kws := fun np ks perm h => by
    simp [LW] at h
theorem ok29 : DefOk LW 29 r29 where
  sc := ⟨rfl, rfl, rfl, by decide +kernel, rfl, by decide +kernel, by decide +kernel⟩
  fn := rfl
  np := rfl
  sl := rfl
  body := fun cA => by kernel_rfl
  bind := fun _ _ _ _ _ _ us hl => match us, hl with | [_, _], _ => rfl
  kws := fun np ks perm h => by
    simp [LW] at h
theorem ok30 : DefOk LW 30 r30 where
  sc := ⟨rfl, rfl, rfl, by decide +kernel, rfl, by decide +kernel, by decide +kernel⟩
  fn := rfl
  np := rfl
  sl := rfl
  body := fun cA => by kernel_rfl
  bind := fun _ _ _ _ _ _ us hl => match us, hl with | [_, _], _ => rfl
  kws := fun np ks perm h => by
    simp [LW] at h
theorem ok31 : DefOk LW 31 r31 where
  sc := ⟨rfl, rfl, rfl, by decide +kernel, rfl, by decide +kernel, by decide +kernel⟩
  fn := rfl
  np := rfl
  sl := rfl
  body := fun cA => by kernel_rfl
  bind := fun _ _ _ _ _ _ us hl => match us, hl with | [_, _], _ => rfl
  kws := fun np ks perm h => by
    simp [LW] at h
theorem ok32 : DefOk LW 32 r32 where
  sc := ⟨rfl, rfl, rfl, by decide +kernel, rfl, by decide +kernel, by decide +kernel⟩
  fn := rfl
  np := rfl
  sl := rfl
  body := fun cA => by kernel_rfl
  bind := fun _ _ _ _ _ _ us hl => match us, hl with | [_], _ => rfl
  kws := fun np ks perm h => by
    simp [LW] at h
theorem ok33 : DefOk LW 33 r33 where
  sc := ⟨rfl, rfl, rfl, by decide +kernel, rfl, by decide +kernel, by decide +kernel⟩
  fn := rfl
  np := rfl
  sl := rfl
  body := fun cA => by kernel_rfl
  bind := fun _ _ _ _ _ _ us hl => match us, hl with | [_], _ => rfl
  kws := fun np ks perm h => by
    simp [LW] at h
theorem ok34 : DefOk LW 34 r34 where
  sc := ⟨rfl, rfl, rfl, by decide +kernel, rfl, by decide +kernel, by decide +kernel⟩
  fn := rfl
  np := rfl
  sl := rfl
  body := fun cA => by kernel_rfl
  bind := fun _ _ _ _ _ _ us hl => match us, hl with | [_], _ => rfl
  kws := fun np ks perm h => by
    simp [LW] at h
theorem all_ok : ∀ i r, rows[i]? = some r → DefOk LW i r := fun i r h => by
  match i, h with
  | 0, h => exact Option.some.inj h ▸ ok0
  | 1, h => exact Option.some.inj h ▸ ok1
  | 2, h => exact Option.some.inj h ▸ ok2
  | 3, h => exact Option.some.inj h ▸ ok3
  | 4, h => exact Option.some.inj h ▸ ok4
  | 5, h => exact Option.some.inj h ▸ ok5
  | 6, h => exact Option.some.inj h ▸ ok6
  | 7, h => exact Option.some.inj h ▸ ok7
  | 8, h => exact Option.some.inj h ▸ ok8
  | 9, h => exact Option.some.inj h ▸ ok9
  | 10, h => exact Option.some.inj h ▸ ok10
  | 11, h => exact Option.some.inj h ▸ ok11
  | 12, h => exact Option.some.inj h ▸ ok12
  | 13, h => exact Option.some.inj h ▸ ok13
  | 14, h => exact Option.some.inj h ▸ ok14
  | 15, h => exact Option.some.inj h ▸ ok15
  | 16, h => exact Option.some.inj h ▸ ok16
  | 17, h => exact Option.some.inj h ▸ ok17
  | 18, h => exact Option.some.inj h ▸ ok18
  | 19, h => exact Option.some.inj h ▸ ok19
  | 20, h => exact Option.some.inj h ▸ ok20
  | 21, h => exact Option.some.inj h ▸ ok21
  | 22, h => exact Option.some.inj h ▸ ok22
  | 23, h => exact Option.some.inj h ▸ ok23
  | 24, h => exact Option.some.inj h ▸ ok24
  | 25, h => exact Option.some.inj h ▸ ok25
  | 26, h => exact Option.some.inj h ▸ ok26
  | 27, h => exact Option.some.inj h ▸ ok27
  | 28, h => exact Option.some.inj h ▸ ok28
  | 29, h => exact Option.some.inj h ▸ ok29
  | 30, h => exact Option.some.inj h ▸ ok30
  | 31, h => exact Option.some.inj h ▸ ok31
  | 32, h => exact Option.some.inj h ▸ ok32
  | 33, h => exact Option.some.inj h ▸ ok33
  | 34, h => exact Option.some.inj h ▸ ok34
  | _ + 35, h => cases h
end ZK11
set_option Elab.async false
set_option linter.all false
set_option maxHeartbeats 1000000
set_option maxRecDepth 10000
/-! k11: the steps of a turn, each by itself -/
namespace Core
open PySem PySem.W
section
variable {F : Calls} {S : Store} {Γ : Loc}
/-- a comprehension over a list that is told by its sources -/
theorem lcR_as {α : Type} {i : Nat} {e : CE} {own : List Nat} {d : D} (src g : α → PyData) (as : List α) (hd : srcOf .seq [d] = some (.lst (as.map src))) (hs : ∀ a ∈ as, evE F e ((wipeL Γ own).set i (some (.p (src a)))) S = .ok (.p (g a)) S) : lcR F (.nm i) .seq (.con (.bool true)) e own Γ [d] S = .ok ((as.map g).map D.p) S := by
  classical
  let f : PyData → PyData := fun x => if h : ∃ a, a ∈ as ∧ src a = x then g h.choose else x
  have hf : ∀ a ∈ as, f (src a) = g a := fun a ha => by
    have hx : ∃ b, b ∈ as ∧ src b = src a := ⟨a, ha, rfl⟩
    show (if h : ∃ b, b ∈ as ∧ src b = src a then g h.choose else src a) = g a
    rw [dif_pos hx]
    have h1 := hs _ hx.choose_spec.1
    rw [hx.choose_spec.2, hs a ha] at h1
    injection h1 with h1
    injection h1 with h1
    exact h1.symm
  have := lcR_map (F := F) (S := S) (Γ := Γ) (i := i) (e := e) (own := own) (d := d) f hd (fun x hx => by
    obtain ⟨a, ha, rfl⟩ := List.mem_map.mp hx
    rw [hf a ha]
    exact hs a ha)
  have e2 : (as.map src).map f = as.map g := by
    rw [List.map_map]
    exact List.map_congr_left fun a ha => hf a ha
  rw [this, e2]
theorem eqvAll_refl : ∀ l : List PyData, (∀ x ∈ l, PyData.eqv x x = true) → PyData.eqvAll l l = true
  | [], _ => by simp [PyData.eqvAll]
  | a :: l, h => by
    simp only [PyData.eqvAll, Bool.and_eq_true]
    exact ⟨h a List.mem_cons_self, eqvAll_refl l fun x hx => h x (List.mem_cons_of_mem _ hx)⟩
theorem fitK_oD (o : Option Rat) : FitK 1 (oD o) := by
  cases o with
  | none => exact fitK_none 1
  | some q => exact fitK_qD 0 q
theorem eqv_oD (o : Option Rat) : PyData.eqv (oD o) (oD o) = true := by
  cases o with
  | none => simp [oD, PyData.eqv]
  | some q => simp [oD, eqv_qD]
theorem eqP_oDs {α : Type} (r : α → Option Rat) (l : List α) : eqP (.list (l.map fun w => oD (r w))) (.list (l.map fun w => oD (r w))) = some true := by
  have h : FitK 2 (.list (l.map fun w => oD (r w))) := fitK_lst fun x hx => by
    obtain ⟨w, _, rfl⟩ := List.mem_map.mp hx
    exact fitK_oD _
  rw [eqP_of h h]
  simp only [PyData.eqv]
  rw [eqvAll_refl]
  intro x hx
  obtain ⟨w, _, rfl⟩ := List.mem_map.mp hx
  exact eqv_oD _
theorem eqP_pair (a b : Option Rat) : eqP (.tuple [oD a, oD b]) (.tuple [oD a, oD b]) = some true := by
  have h : FitK 2 (.tuple [oD a, oD b]) := fitK_tup fun x hx => by
    simp only [List.mem_cons, List.not_mem_nil, or_false] at hx
    rcases hx with rfl | rfl <;> exact fitK_oD _
  rw [eqP_of h h]
  simp [PyData.eqv, PyData.eqvAll, eqv_oD]
theorem five_line : (5 : Nat) ≤ sizeLine := by decide
end
end Core
namespace ZK11
open PySem PySem.W Core
abbrev Gk (lap low rows turn b hi val told back twice due und ovr nxt : Option D) : Core.Loc := [some (.loc 0), lap, low, rows, turn, b, hi, val, told, back, twice, due, und, ovr, nxt, none, none, none]
def ways : List Way := [.even, .away, .zero, .down, .up]
section
variable (F : Calls) (lap low rows turn b hi val told back twice due und ovr nxt : Option D) (S S' : Store) (bI lI hI : Int) (q : Rat) (r : Way → Option Rat)
def v2 : CS := (.asg (.nm 8) (.lc (.nm 15) .seq (.cons (.tup (.cons (.con (.str "even")) (.cons (.con (.str "away")) (.cons (.con (.str "zero")) (.cons (.con (.str "down")) (.cons (.con (.str "up")) .nil)))))) .nil) (.con (.bool true)) (.call 22 (.cons (.var 5) (.cons (.var 2) (.cons (.var 6) (.cons (.var 15) (.cons (.var 7) .nil)))))) [15]))
theorem v2_ok (h : ∀ w : Way, F 22 [.p (.int bI), .p (.int lI), .p (.int hI), .p (.str w.str), .p (qD q)] S = .ok (.p (oD (r w))) S) :
    evS F v2 (Gk lap (some (.p (.int lI))) rows turn (some (.p (.int bI))) (some (.p (.int hI))) (some (.p (qD q))) told back twice due und ovr nxt) S = .nx (Gk lap (some (.p (.int lI))) rows turn (some (.p (.int bI))) (some (.p (.int hI))) (some (.p (qD q))) (some (.p (.list (ways.map fun w => oD (r w))))) back twice due und ovr nxt) S := by
  have R := lcR_as (F := F) (S := S) (Γ := Gk lap (some (.p (.int lI))) rows turn (some (.p (.int bI))) (some (.p (.int hI))) (some (.p (qD q))) told back twice due und ovr nxt) (i := 15) (e := .call 22 (.cons (.var 5) (.cons (.var 2) (.cons (.var 6) (.cons (.var 15) (.cons (.var 7) .nil)))))) (own := [15]) (d := .p (.tuple [.str "even", .str "away", .str "zero", .str "down", .str "up"])) (fun w : Way => .str w.str) (fun w => oD (r w)) ways rfl (fun w _ => by simp [h w])
  generalize ways.map (fun w => oD (r w)) = T at *
  simp [-List.map_map, v2, five_line, R]
def v3 : CS := (.asg (.nm 9) (.lc (.nm 15) .seq (.cons (.tup (.cons (.con (.str "even")) (.cons (.con (.str "away")) (.cons (.con (.str "zero")) (.cons (.con (.str "up")) (.cons (.con (.str "down")) .nil)))))) .nil) (.con (.bool true)) (.call 22 (.cons (.var 5) (.cons (.var 2) (.cons (.var 6) (.cons (.var 15) (.cons (.call 32 (.cons (.var 7) .nil)) .nil)))))) [15]))
theorem v3_ok (ht : F 32 [.p (qD q)] S = .ok (.p (qD (-q))) S) (h : ∀ w : Way, F 22 [.p (.int bI), .p (.int lI), .p (.int hI), .p (.str w.flip.str), .p (qD (-q))] S = .ok (.p (oD (r w))) S) :
    evS F v3 (Gk lap (some (.p (.int lI))) rows turn (some (.p (.int bI))) (some (.p (.int hI))) (some (.p (qD q))) told back twice due und ovr nxt) S = .nx (Gk lap (some (.p (.int lI))) rows turn (some (.p (.int bI))) (some (.p (.int hI))) (some (.p (qD q))) told (some (.p (.list (ways.map fun w => oD (r w))))) twice due und ovr nxt) S := by
  have R := lcR_as (F := F) (S := S) (Γ := Gk lap (some (.p (.int lI))) rows turn (some (.p (.int bI))) (some (.p (.int hI))) (some (.p (qD q))) told back twice due und ovr nxt) (i := 15) (e := .call 22 (.cons (.var 5) (.cons (.var 2) (.cons (.var 6) (.cons (.var 15) (.cons (.call 32 (.cons (.var 7) .nil)) .nil)))))) (own := [15]) (d := .p (.tuple [.str "even", .str "away", .str "zero", .str "up", .str "down"])) (fun w : Way => .str w.flip.str) (fun w => oD (r w)) ways rfl (fun w _ => by simp [ht, h w])
  generalize ways.map (fun w => oD (r w)) = T at *
  simp [-List.map_map, v3, five_line, R]
def v4 : CS := (.ite (.cmp .ne (.lc (.nm 16) .seq (.cons (.var 9) .nil) (.con (.bool true)) (.call 32 (.cons (.var 16) .nil)) [16]) (.var 8)) (.seq (.ret (.con (.bool false))) .skip) .skip)
theorem v4_ok (r2 : Way → Option Rat) (h : ∀ w : Way, F 32 [.p (oD (r2 w))] S = .ok (.p (oD (r w))) S) :
    evS F v4 (Gk lap low rows turn b hi val (some (.p (.list (ways.map fun w => oD (r w))))) (some (.p (.list (ways.map fun w => oD (r2 w))))) twice due und ovr nxt) S = .nx (Gk lap low rows turn b hi val (some (.p (.list (ways.map fun w => oD (r w))))) (some (.p (.list (ways.map fun w => oD (r2 w))))) twice due und ovr nxt) S := by
  have R := lcR_as (F := F) (S := S) (Γ := Gk lap low rows turn b hi val (some (.p (.list (ways.map fun w => oD (r w))))) (some (.p (.list (ways.map fun w => oD (r2 w))))) twice due und ovr nxt) (i := 16) (e := .call 32 (.cons (.var 16) .nil)) (own := [16]) (d := .p (.list (ways.map fun w => oD (r2 w)))) (fun w : Way => oD (r2 w)) (fun w => oD (r w)) ways rfl (fun w _ => by simp [h w])
  have E := eqP_oDs r ways
  generalize ways.map (fun w => oD (r w)) = T at *
  generalize ways.map (fun w => oD (r2 w)) = T2 at *
  simp [-List.map_map, v4, R, E]
def v5 : CS := (.asg (.nm 10) (.lc (.nm 15) .seq (.cons (.tup (.cons (.con (.str "even")) (.cons (.con (.str "away")) (.cons (.con (.str "zero")) (.cons (.con (.str "down")) (.cons (.con (.str "up")) .nil)))))) .nil) (.con (.bool true)) (.call 22 (.cons (.var 5) (.cons (.bin .add (.var 2) (.con (.int 1))) (.cons (.bin .add (.var 6) (.con (.int 1))) (.cons (.var 15) (.cons (.call 27 (.cons (.var 7) (.cons (.tup (.cons (.con (.int 2)) (.cons (.con (.int 1)) .nil))) .nil))) .nil)))))) [15]))
theorem v5_ok (ht : F 27 [.p (qD q), .p (.tuple [.int 2, .int 1])] S = .ok (.p (qD (q * 2))) S) (h : ∀ w : Way, F 22 [.p (.int bI), .p (.int (lI + 1)), .p (.int (hI + 1)), .p (.str w.str), .p (qD (q * 2))] S = .ok (.p (oD (r w))) S) :
    evS F v5 (Gk lap (some (.p (.int lI))) rows turn (some (.p (.int bI))) (some (.p (.int hI))) (some (.p (qD q))) told back twice due und ovr nxt) S = .nx (Gk lap (some (.p (.int lI))) rows turn (some (.p (.int bI))) (some (.p (.int hI))) (some (.p (qD q))) told back (some (.p (.list (ways.map fun w => oD (r w))))) due und ovr nxt) S := by
  have R := lcR_as (F := F) (S := S) (Γ := Gk lap (some (.p (.int lI))) rows turn (some (.p (.int bI))) (some (.p (.int hI))) (some (.p (qD q))) told back twice due und ovr nxt) (i := 15) (e := .call 22 (.cons (.var 5) (.cons (.bin .add (.var 2) (.con (.int 1))) (.cons (.bin .add (.var 6) (.con (.int 1))) (.cons (.var 15) (.cons (.call 27 (.cons (.var 7) (.cons (.tup (.cons (.con (.int 2)) (.cons (.con (.int 1)) .nil))) .nil))) .nil)))))) (own := [15]) (d := .p (.tuple [.str "even", .str "away", .str "zero", .str "down", .str "up"])) (fun w : Way => .str w.str) (fun w => oD (r w)) ways rfl (fun w _ => by simp [ht, h w, two_line])
  generalize ways.map (fun w => oD (r w)) = T at *
  simp [-List.map_map, v5, five_line, R]
def v6 : CS := (.ite (.cmp .ne (.var 10) (.lc (.nm 16) .seq (.cons (.var 8) .nil) (.con (.bool true)) (.ite (.isN true (.var 16)) (.con (.none)) (.call 27 (.cons (.var 16) (.cons (.tup (.cons (.con (.int 2)) (.cons (.con (.int 1)) .nil))) .nil)))) [16])) (.seq (.ret (.con (.bool false))) .skip) .skip)
theorem v6_ok (r2 : Way → Option Rat) (h : ∀ w : Way, r2 w = (r w).map (fun x => x * 2)) (ht : ∀ w x, r w = some x → F 27 [.p (qD x), .p (.tuple [.int 2, .int 1])] S = .ok (.p (qD (x * 2))) S) :
    evS F v6 (Gk lap low rows turn b hi val (some (.p (.list (ways.map fun w => oD (r w))))) back (some (.p (.list (ways.map fun w => oD (r2 w))))) due und ovr nxt) S = .nx (Gk lap low rows turn b hi val (some (.p (.list (ways.map fun w => oD (r w))))) back (some (.p (.list (ways.map fun w => oD (r2 w))))) due und ovr nxt) S := by
  have R := lcR_as (F := F) (S := S) (Γ := Gk lap low rows turn b hi val (some (.p (.list (ways.map fun w => oD (r w))))) back (some (.p (.list (ways.map fun w => oD (r2 w))))) due und ovr nxt) (i := 16) (e := .ite (.isN true (.var 16)) (.con (.none)) (.call 27 (.cons (.var 16) (.cons (.tup (.cons (.con (.int 2)) (.cons (.con (.int 1)) .nil))) .nil)))) (own := [16]) (d := .p (.list (ways.map fun w => oD (r w)))) (fun w : Way => oD (r w)) (fun w => oD (r2 w)) ways rfl (fun w _ => by
    rw [h w]
    cases hw : r w with
    | none => simp [oD]
    | some x =>
      have e : isNone (.p (qD x)) = false := rfl
      simp [oD, ht w x hw, two_line, e])
  have E := eqP_oDs r2 ways
  generalize ways.map (fun w => oD (r w)) = T at *
  generalize ways.map (fun w => oD (r2 w)) = T2 at *
  simp [-List.map_map, v6, R, E]
def v7 : CS := (.par [12, 13] (.cons (.lc (.nm 17) .seq (.cons (.var 3) .nil) (.call 28 (.cons (.var 17) (.cons (.var 7) .nil))) (.var 17) [17]) (.cons (.lc (.nm 17) .seq (.cons (.var 3) .nil) (.call 28 (.cons (.var 7) (.cons (.var 17) .nil))) (.var 17) [17]) .nil)))
theorem v7_ok (N : List Rat) (h1 : ∀ x ∈ N, F 28 [.p (qD x), .p (qD q)] S = .ok (.p (.bool (decide (x < q)))) S) (h2 : ∀ x ∈ N, F 28 [.p (qD q), .p (qD x)] S = .ok (.p (.bool (decide (q < x)))) S) :
    evS F v7 (Gk lap low (some (.p (.tuple (N.map qD)))) turn b hi (some (.p (qD q))) told back twice due und ovr nxt) S = .nx (Gk lap low (some (.p (.tuple (N.map qD)))) turn b hi (some (.p (qD q))) told back twice due (some (.p (.list ((N.filter (fun x => decide (x < q))).map qD)))) (some (.p (.list ((N.filter (fun x => decide (q < x))).map qD)))) nxt) S := by
  have R1 := lcR_filterQ (S := S) (F := F) (Γ := Gk lap low (some (.p (.tuple (N.map qD)))) turn b hi (some (.p (qD q))) told back twice due und ovr nxt) (v := 17) (c := .call 28 (.cons (.var 17) (.cons (.var 7) .nil))) (own := [17]) (L := N) (d := .p (.tuple (N.map qD))) (fun r => decide (r < q)) rfl (by simp) (fun x hx => by simp [h1 x hx])
  have R2 := lcR_filterQ (S := S) (F := F) (Γ := Gk lap low (some (.p (.tuple (N.map qD)))) turn b hi (some (.p (qD q))) told back twice due und ovr nxt) (v := 17) (c := .call 28 (.cons (.var 7) (.cons (.var 17) .nil))) (own := [17]) (L := N) (d := .p (.tuple (N.map qD))) (fun r => decide (q < r)) rfl (by simp) (fun x hx => by simp [h2 x hx])
  generalize N.filter (fun r => decide (r < q)) = U at *
  generalize N.filter (fun r => decide (q < r)) = O at *
  simp [-List.map_map, v7, R1, R2]
def v8 : CS := (.asg (.nm 11) (endE 12 13))
theorem v8_ok (U O : List Rat) : evS F v8 (Gk lap low rows turn b hi val told back twice due (some (.p (.list (U.map qD)))) (some (.p (.list (O.map qD)))) nxt) S = .nx (Gk lap low rows turn b hi val told back twice (some (.p (pairB U O))) (some (.p (.list (U.map qD)))) (some (.p (.list (O.map qD)))) nxt) S := by
  have E := ends_ok (S := S) F (Gk lap low rows turn b hi val told back twice due (some (.p (.list (U.map qD)))) (some (.p (.list (O.map qD)))) nxt) 12 13 U O rfl rfl
  simp [v8, E]
def v9 : CS := (.ite (.cmp .eq (.call 30 (.cons (.var 0) (.cons (.con (.int 2)) .nil))) (.con (.int 0))) (.seq (.asg (.nm 14) (.callk 24 [3, 2, 1, 0] .nil (.cons (.var 7) (.cons (.var 6) (.cons (.var 2) (.cons (.var 5) .nil)))))) .skip) (.seq (.asg (.nm 14) (.call 24 (.cons (.var 5) (.cons (.var 2) (.cons (.var 6) (.cons (.var 7) .nil)))))) .skip))
theorem v9_ok (d : Int) (x : PyData) (hd : F 30 [.loc 0, .p (.int 2)] S = .ok (.p (.int d)) S') (h : F 24 [.p (.int bI), .p (.int lI), .p (.int hI), .p (qD q)] S' = .ok (.p x) S') :
    evS F v9 (Gk lap (some (.p (.int lI))) rows turn (some (.p (.int bI))) (some (.p (.int hI))) (some (.p (qD q))) told back twice due und ovr nxt) S = .nx (Gk lap (some (.p (.int lI))) rows turn (some (.p (.int bI))) (some (.p (.int hI))) (some (.p (qD q))) told back twice due und ovr (some (.p x))) S' := by
  by_cases e : d = 0
  · simp [v9, hd, h, e, permL]
  · simp [v9, hd, h, e]
def v10 : CS := (.ite (.not (.call 29 (.cons (.var 14) (.cons (.var 11) .nil)))) (.seq (.ret (.con (.bool false))) .skip) .skip)
theorem v10_ok (x : PyData) (h : F 29 [.p x, .p x] S = .ok (.p (.bool true)) S) :
    evS F v10 (Gk lap low rows turn b hi val told back twice (some (.p x)) und ovr (some (.p x))) S = .nx (Gk lap low rows turn b hi val told back twice (some (.p x)) und ovr (some (.p x))) S := by
  simp [v10, h]
def v11 : CS := (.ite (.and (.cmp .nin (.var 7) (.var 3)) (.and (.not (.call 28 (.cons (.idx (.var 3) (.neg (.con (.int 1)))) (.cons (.tup (.cons (.bf .abs (.cons (.idx (.var 7) (.con (.int 0))) .nil)) (.cons (.idx (.var 7) (.con (.int 1))) .nil))) .nil)))) (.cmp .ne (.var 14) (.tup (.cons (.idx (.var 8) (.con (.int 3))) (.cons (.idx (.var 8) (.con (.int 4))) .nil)))))) (.seq (.ret (.con (.bool false))) .skip) .skip)
theorem v11_ok (N : List Rat) (g : Rat) (c : Bool) (U O : List Rat) (hl : L2.atI ((N.map qD).map D.p) (-1) = some (.p (qD g))) (h : F 28 [.p (qD g), .p (qD q.abs)] S = .ok (.p (.bool c)) S) (hm : q ∉ N → c = false → U.getLast? = r .down ∧ O.head? = r .up) :
    evS F v11 (Gk lap low (some (.p (.tuple (N.map qD)))) turn b hi (some (.p (qD q))) (some (.p (.list (ways.map fun w => oD (r w))))) back twice due und ovr (some (.p (pairB U O)))) S = .nx (Gk lap low (some (.p (.tuple (N.map qD)))) turn b hi (some (.p (qD q))) (some (.p (.list (ways.map fun w => oD (r w))))) back twice due und ovr (some (.p (pairB U O)))) S := by
  have i1 := in_tuple q N
  have ab := qD_abs q
  have i3 : L2.atI ((ways.map fun w => oD (r w)).map D.p) 3 = some (.p (oD (r .down))) := rfl
  have i4 : L2.atI ((ways.map fun w => oD (r w)).map D.p) 4 = some (.p (oD (r .up))) := rfl
  generalize ways.map (fun w => oD (r w)) = T at *
  by_cases hq : q ∈ N
  · rw [decide_eq_true hq] at i1
    simp [-List.map_map, v11, i1]
  · rw [decide_eq_false hq] at i1
    cases c with
    | true => simp [-List.map_map, v11, i1, hl, ab, h, two_line]
    | false =>
      obtain ⟨m1, m2⟩ := hm hq rfl
      have E := eqP_pair (r .down) (r .up)
      unfold pairB
      rw [m1, m2]
      simp [-List.map_map, v11, i1, hl, ab, h, two_line, i3, i4, E]
end
end ZK11
set_option Elab.async false
set_option linter.all false
set_option maxHeartbeats 1000000
set_option maxRecDepth 10000
namespace ZK11
open PySem PySem.W Core
abbrev G : List Fn := LW.fns
theorem g0 : G[0]? = some ⟨1, 1, B_is_whole, false⟩ := rfl
theorem g1 : G[1]? = some ⟨3, 3, B_is_between 0, false⟩ := rfl
theorem g2 : G[2]? = some ⟨2, 2, B_is_tuple_of, false⟩ := rfl
theorem g3 : G[3]? = some ⟨2, 3, B_fraction, false⟩ := rfl
theorem g4 : G[4]? = some ⟨1, 1, B_is_fraction_by 2 0, false⟩ := rfl
theorem g5 : G[5]? = some ⟨1, 1, B_whole, false⟩ := rfl
theorem g6 : G[6]? = some ⟨2, 2, B_less 3, false⟩ := rfl
theorem g7 : G[7]? = some ⟨2, 2, B_times 3, false⟩ := rfl
theorem g8 : G[8]? = some ⟨2, 2, B_is_less, false⟩ := rfl
theorem g9 : G[9]? = some ⟨1, 1, B_size_of, false⟩ := rfl
theorem g10 : G[10]? = some ⟨1, 1, B_power_of_two, false⟩ := rfl
theorem g11 : G[11]? = some ⟨2, 2, B_greatest_by 7 5 10, false⟩ := rfl
theorem g12 : G[12]? = some ⟨3, 6, B_sizes_by 5 7 10, false⟩ := rfl
theorem g13 : G[13]? = some ⟨3, 5, B_numbers_by 12, false⟩ := rfl
theorem g14 : G[14]? = some ⟨3, 5, B_power_for 9 8 10, false⟩ := rfl
theorem g15 : G[15]? = some ⟨2, 4, B_nearer 6 5 8, false⟩ := rfl
theorem g16 : G[16]? = some ⟨2, 4, B_rtn 15, false⟩ := rfl
theorem g17 : G[17]? = some ⟨2, 9, B_rounded_by 10 14 3 7 5 16 8 11 9, false⟩ := rfl
theorem g18 : G[18]? = some ⟨1, 1, B_greatest_high, false⟩ := rfl
theorem g19 : G[19]? = some ⟨2, 2, B_check_sizes 1, false⟩ := rfl
theorem g20 : G[20]? = some ⟨2, 2, B_check_high 1 18, false⟩ := rfl
theorem g21 : G[21]? = some ⟨3, 3, B_format_numbers 19 20 13, false⟩ := rfl
theorem g22 : G[22]? = some ⟨5, 5, B_rounded 19 20 4 17, false⟩ := rfl
theorem g23 : G[23]? = some ⟨4, 8, B_next_by 13 8, false⟩ := rfl
theorem g25 : G[25]? = some ⟨2, 5, B_pool 16375 71955 4344444, true⟩ := rfl
theorem g26 : G[26]? = some ⟨2, 5, B_law_f, false⟩ := rfl
theorem g27 : G[27]? = some ⟨2, 2, B_times 26, false⟩ := rfl
theorem g28 : G[28]? = some ⟨2, 2, B_is_less, false⟩ := rfl
theorem g29 : G[29]? = some ⟨2, 4, B_same 29, false⟩ := rfl
theorem g30 : G[30]? = some ⟨2, 4, B_below 265203 256395 912493, false⟩ := rfl
theorem g31 : G[31]? = some ⟨2, 2, B_one 30, false⟩ := rfl
theorem g34 : G[34]? = some ⟨1, 2, B_law 33 25, false⟩ := rfl
theorem fx : FmtIx G 5 7 10 := ⟨g5, ⟨3, g7, frac1 g3⟩, g10⟩
theorem cx : ChkIx G 1 0 19 20 18 := ⟨g1, g0, g19, g18⟩
theorem rx : RndIx G 3 5 6 7 8 9 10 := ⟨g3, g5, g6, g7, g8, g9, g10⟩
variable {n : Nat} {S : Store} {b : Nat} {low : Int} {k : Nat}
theorem told_ok (Y : Fmt b low k) : callN G (n + 6) 21 [.p (.int b), .p (.int low), .p (.int (low + k))] S = .ok (.p (.tuple ((numL b low k).map qD))) S := format_numbers_ok g21 cx g20 g13 g12 fx Y
theorem rnd_ok (Y : Fmt b low k) {p : Int} {q : Rat} (hq : SmQ 600 q) (hp : Pw b low q p) (h2 : p ≤ 500) (w : Way) :
    callN G (n + 6) 22 [.p (.int b), .p (.int low), .p (.int (low + k)), .p (.str w.str), .p (qD q)] S = .ok (.p (oD (rnd b (low + k) w p q))) S := rounded_ok g22 cx g20 g4 g2 rx g17 g14 g16 g15 g11 Y hq hp h2 w
/-! next_numbers -/
def B_next (iS iH iF iN : Nat) : CS := (.seq (.expr (.call iS (.cons (.var 0) (.cons (.var 1) .nil))))
  (.seq (.expr (.call iH (.cons (.var 1) (.cons (.var 2) .nil))))
  (.seq (.ite (.not (.call iF (.cons (.var 3) .nil))) (.seq .stop
  .skip) .skip)
  (.seq (.ret (.call iN (.cons (.var 0) (.cons (.var 1) (.cons (.var 2) (.cons (.var 3) .nil))))))
  .skip))))
theorem g24 : G[24]? = some ⟨4, 4, B_next 19 20 4 23, false⟩ := rfl
theorem next_fin (F : Calls) (iS iH iF iN : Nat) (b low hi x r : PyData) (h1 : F iS [.p b, .p low] [] = .ok (.p .none) []) (h2 : F iH [.p low, .p hi] [] = .ok (.p .none) []) (h3 : F iF [.p x] [] = .ok (.p (.bool true)) []) (h4 : F iN [.p b, .p low, .p hi, .p x] [] = .ok (.p r) []) :
    evS F (B_next iS iH iF iN) (startL 4 [.p b, .p low, .p hi, .p x]) [] = .rt (.p r) [] := by
  simp [B_next, h1, h2, h3, h4]
theorem frac_ok (n : Nat) (S : Store) (q : Rat) : callN G (n + 2) 4 [.p (qD q)] S = .ok (.p (.bool true)) S := by
  have fr := is_fraction_ok (n := n) (S := S) g4 g2 g0 (qD q) (fun a y e => by
    unfold qD at e
    cases e
    exact ⟨_, rfl⟩)
  rw [isfrac_qD] at fr
  exact fr
theorem next_ok (Y : Fmt b low k) {q : Rat} (hq : SmQ 3000 q) :
    callN G (n + 7) 24 [.p (.int b), .p (.int low), .p (.int (low + k)), .p (qD q)] S = .ok (.p (pairB ((numL b low k).filter (fun r => decide (r < q))) ((numL b low k).filter (fun r => decide (q < r))))) S := by
  have y1 := Y.b1
  have y2 := Y.b5
  have y3 := Y.l1
  have y4 := Y.h8
  have y5 := Y.k8
  exact call_p g24 (T := []) (next_fin _ 19 20 4 23 (.int b) (.int low) (.int (low + k)) _ _ (check_sizes_ok (n := n + 3) cx (by omega) (by omega) (by omega) (by omega)) (check_high_ok (n := n + 3) cx g20 (by omega) (by omega) (by omega)) (frac_ok (n + 4) [] q) (next_by_ok (n := n) g23 g13 g12 fx g8 y1 (by omega) (by omega) (by omega) hq))
/-! the law's own -/
def B_turned : CS := (.seq (.ret (.ite (.isN true (.var 0)) (.con (.none)) (.tup (.cons (.bin .sub (.con (.int 0)) (.idx (.var 0) (.con (.int 0)))) (.cons (.idx (.var 0) (.con (.int 1))) .nil)))))
  .skip)
theorem g32 : G[32]? = some ⟨1, 1, B_turned, false⟩ := rfl
theorem turned_ok (o : Option Rat) : callN G (n + 1) 32 [.p (oD o)] S = .ok (.p (oD (o.map (fun x => -x)))) S := by
  cases o with
  | none => exact call_p g32 (T := []) (by simp [B_turned, oD])
  | some q =>
    have e : isNone (.p (qD q)) = false := rfl
    have e2 : PyData.tuple [.int (0 - q.num), .int q.den] = qD (-q) := by
      rw [Int.zero_sub]
      exact qD_neg q
    exact call_p g32 (T := []) (by simp [-Int.zero_sub, B_turned, oD, e, two_line, e2])
theorem times_raw {i f : Nat} (h : G[i]? = some ⟨2, 2, B_times f, false⟩) (hf : FracFn G f) {p : Rat} {a c : Int} (hp : SmQ 1000 p) (ha : Sm 1000 a) (hc : Sm 1000 c) (h0 : c ≠ 0) : callN G (n + 2) i [.p (qD p), .p (.tuple [.int a, .int c])] S = .ok (.p (qD (Rat.divInt (p.num * a) ((p.den : Int) * c)))) S := by
  refine call_p h (T := []) ?_
  simp [B_times, mulP_ok hp.1 ha, mulP_ok hp.2 hc, hf n [] _ _ (Int.mul_ne_zero (den_ne p) h0) ((hp.2.mul hc).mono (by decide))]
end ZK11
set_option Elab.async false
set_option linter.all false
set_option maxHeartbeats 1000000
set_option maxRecDepth 10000
/-! k11: a turn, a lap -/
namespace ZK11
open PySem PySem.W Core
theorem seq_nx {F : Calls} {a b : CS} {Γ Γ1 : Core.Loc} {S S1 : Store} {r : ResS} (h1 : evS F a Γ S = .nx Γ1 S1) (h2 : evS F b Γ1 S1 = r) : evS F (.seq a b) Γ S = r := by
  rw [evS_seq, h1]
  exact h2
section
variable (F : Calls) (lap low rows turn b hi val told back twice due und ovr nxt : Option D) (S S' : Store)
def v1 : CS := (.asg (.nm 7) (.call 31 (.cons (.var 0) (.cons (.tup (.cons (.call 31 (.cons (.var 0) (.cons (.var 3) .nil))) (.cons (.call 26 (.cons (.bin .sub (.call 30 (.cons (.var 0) (.cons (.con (.int 400)) .nil))) (.con (.int 200))) (.cons (.bin .add (.con (.int 1)) (.call 30 (.cons (.var 0) (.cons (.con (.int 30)) .nil)))) .nil))) (.cons (.call 27 (.cons (.idx (.var 3) (.neg (.con (.int 1)))) (.cons (.tup (.cons (.bin .add (.con (.int 3)) (.call 30 (.cons (.var 0) (.cons (.con (.int 4)) .nil)))) (.cons (.con (.int 3)) .nil))) .nil))) .nil)))) .nil))))
theorem v1_ok (L : List PyData) (r1 r2 r3 : Int) (x1 x2 x3 g y : PyData) (S1 S2 S3 S4 S5 : Store) (h1 : F 31 [.loc 0, .p (.tuple L)] S = .ok (.p x1) S1) (h2 : F 30 [.loc 0, .p (.int 400)] S1 = .ok (.p (.int r1)) S2) (h3 : F 30 [.loc 0, .p (.int 30)] S2 = .ok (.p (.int r2)) S3) (h4 : F 26 [.p (.int (r1 - 200)), .p (.int (1 + r2))] S3 = .ok (.p x2) S3)
    (hl : L2.atI (L.map D.p) (-1) = some (.p g)) (h5 : F 30 [.loc 0, .p (.int 4)] S3 = .ok (.p (.int r3)) S4) (h6 : F 27 [.p g, .p (.tuple [.int (3 + r3), .int 3])] S4 = .ok (.p x3) S4) (h7 : F 31 [.loc 0, .p (.tuple [x1, x2, x3])] S4 = .ok (.p y) S5) :
    evS F v1 (Gk lap low (some (.p (.tuple L))) turn b hi val told back twice due und ovr nxt) S = .nx (Gk lap low (some (.p (.tuple L))) turn b hi (some (.p y)) told back twice due und ovr nxt) S5 := by
  simp [v1, h1, h2, h3, h4, hl, h5, h6, h7, two_line, three_line]
def u1 : CS := (.asg (.nm 2) (.bin .sub (.call 30 (.cons (.var 0) (.cons (.con (.int 9)) .nil))) (.con (.int 6))))
theorem u1_ok (r : Int) (h : F 30 [.loc 0, .p (.int 9)] S = .ok (.p (.int r)) S') : evS F u1 (Gk lap low rows turn b hi val told back twice due und ovr nxt) S = .nx (Gk lap (some (.p (.int (r - 6)))) rows turn b hi val told back twice due und ovr nxt) S' := by
  simp [u1, h]
def u2 : CS := (.asg (.cons (.nm 5) (.cons (.nm 6) .nil)) (.tup (.cons (.bin .add (.con (.int 1)) (.call 30 (.cons (.var 0) (.cons (.con (.int 4)) .nil)))) (.cons (.bin .add (.var 2) (.call 30 (.cons (.var 0) (.cons (.con (.int 4)) .nil)))) .nil))))
theorem u2_ok (l r1 r2 : Int) (S1 S2 : Store) (h1 : F 30 [.loc 0, .p (.int 4)] S = .ok (.p (.int r1)) S1) (h2 : F 30 [.loc 0, .p (.int 4)] S1 = .ok (.p (.int r2)) S2) : evS F u2 (Gk lap (some (.p (.int l))) rows turn b hi val told back twice due und ovr nxt) S = .nx (Gk lap (some (.p (.int l))) rows turn (some (.p (.int (1 + r1)))) (some (.p (.int (l + r2)))) val told back twice due und ovr nxt) S2 := by
  simp [u2, h1, h2, two_line]
def u3 : CS := (.asg (.nm 3) (.call 21 (.cons (.var 5) (.cons (.var 2) (.cons (.var 6) .nil)))))
theorem u3_ok (bI lI hI : Int) (x : PyData) (h : F 21 [.p (.int bI), .p (.int lI), .p (.int hI)] S = .ok (.p x) S) : evS F u3 (Gk lap (some (.p (.int lI))) rows turn (some (.p (.int bI))) (some (.p (.int hI))) val told back twice due und ovr nxt) S = .nx (Gk lap (some (.p (.int lI))) (some (.p x)) turn (some (.p (.int bI))) (some (.p (.int hI))) val told back twice due und ovr nxt) S := by
  simp [u3, h]
end
theorem abs_lt_P2 {j : Nat} {q : Rat} (h : SmQ j q) : q.abs < P2 j := by
  have h1 := h.abs
  rw [P2_nat, Rat.lt_iff]
  have a := h1.1
  unfold Sm at a
  have d := den_pos q.abs
  show q.abs.num * ((1 : Nat) : Int) < ((2 ^ j : Nat) : Int) * (q.abs.den : Int)
  generalize 2 ^ j = B at *
  have e1 : q.abs.num < (B : Int) := by omega
  have e2 : (B : Int) * 1 ≤ (B : Int) * (q.abs.den : Int) := Int.mul_le_mul_of_nonneg_left (by omega) (by omega)
  omega
theorem pw_of {b : Nat} {low : Int} {q : Rat} (h : SmQ 60 q) (hl : -8 ≤ low) (hl2 : low ≤ 8) : ∃ p, Pw b low q p ∧ p ≤ 400 := by
  obtain ⟨p, h1, h2⟩ := pw_ex b low q 80 (by
    have := abs_lt_P2 h
    have m : P2 ((60 : Nat) : Int) ≤ P2 (b + (low + (80 : Nat))) := P2_mono (by omega)
    grind)
  exact ⟨p, h1, by omega⟩
theorem num_small {b : Nat} (hb : 1 ≤ b) (hb5 : b ≤ 5) {low : Int} {k : Nat} (hl : -8 ≤ low) (hh : low + k ≤ 8) {q : Rat} (h : q ∈ numL b low k) : SmQ 30 q := by
  obtain ⟨z, j, j1, j2, rfl⟩ := (numL_nums hb low k q).mp h
  have e1 : 2 ^ b ≤ 2 ^ 5 := two_pow_le hb5
  have s1 : SmQ 6 (z : Rat) := smQ_int (k := 5) (by unfold Sm; omega)
  have s2 : SmQ 10 (P2 (low + j)) := smQ_P2 (by omega)
  exact (s1.mul s2).mono (by decide)
def turn : CS := .seq v1 (.seq v2 (.seq v3 (.seq v4 (.seq v5 (.seq v6 (.seq v7 (.seq v8 (.seq v9 (.seq v10 (.seq v11 .skip))))))))))
theorem map_neg_neg (o : Option Rat) : (o.map (fun x => -x)).map (fun x => -x) = o := by
  cases o with
  | none => rfl
  | some x => simp [Rat.neg_neg]
theorem rnd_sm {b : Nat} (hb : b ≤ 5) {hi : Int} {w : Way} {p : Int} {q x : Rat} (hq : SmQ 60 q) (hp : p.natAbs < 600) (h : rnd b hi w p q = some x) : SmQ 3000 x := by
  have sp : SmQ 600 (P2 p) := smQ_P2 (by omega)
  have st : SmQ 700 (q / P2 p) := ((hq.mono (k := 90) (by decide)).over sp).mono (by decide)
  have sz : SmQ 800 ((rtn w (q / P2 p) : Int) : Rat) := smQ_int (k := 799) ((sm_rtn st w).mono (by decide))
  unfold rnd at h
  split at h
  · cases h
  · injection h with h
    rw [← h]
    exact (sz.mul sp).mono (by decide)
variable {n : Nat} {S : Store} {b : Nat} {low : Int} {k : Nat}
theorem val_ok (lap t told back twice due und ovr nxt val : Option D) (Y : Fmt b low k) {N0 : Nat} (P : Pool S 0 N0) (hN : N0 ≤ 1000000) :
    ∃ q S', SmQ 60 q ∧ evS (callN G (n + 10)) v1 (Gk lap (some (.p (.int low))) (some (.p (.tuple ((numL b low k).map qD)))) t (some (.p (.int b))) (some (.p (.int (low + k)))) val told back twice due und ovr nxt) S = .nx (Gk lap (some (.p (.int low))) (some (.p (.tuple ((numL b low k).map qD)))) t (some (.p (.int b))) (some (.p (.int (low + k)))) (some (.p (qD q))) told back twice due und ovr nxt) S' ∧ Pool S' 0 (N0 + 5) := by
  have y1 := Y.b1
  have y2 := Y.b5
  have y3 := Y.l1
  have y4 := Y.h8
  have y5 := Y.k8
  have pw : (2 : Nat) ^ b ≤ 32 := two_pow_le (c := 5) y2
  have hlen := numL_length y1 low k
  have e1 : 2 ^ (b - 1) ≤ 16 := two_pow_le (c := 4) (by omega)
  have hk8 : k * 2 ^ (b - 1) ≤ 8 * 16 := Nat.mul_le_mul y5 e1
  have npos : 0 < ((numL b low k).map qD).length := by rw [List.length_map]; omega
  have nmax : ((numL b low k).map qD).length ≤ 1000000 := by rw [List.length_map]; omega
  obtain ⟨x1, S1, m1, d1, P1, _, _⟩ := one_ok (n := n + 8) (m := 0) g31 g30 (by decide) (by decide) ⟨by decide, by decide⟩ P (by omega) _ npos nmax
  obtain ⟨r1, S2, d2, a1, a2, P2', _, _⟩ := below_ok (n := n + 9) (m := 0) (S := S1) g30 (by decide) (by decide) ⟨by decide, by decide⟩ P1 (by omega) (k := 400) (by decide) (by decide)
  obtain ⟨r2, S3, d3, b1, b2, P3, _, _⟩ := below_ok (n := n + 9) (m := 0) (S := S2) g30 (by decide) (by decide) ⟨by decide, by decide⟩ P2' (by omega) (k := 30) (by decide) (by decide)
  obtain ⟨r3, S4, d4, c1, c2, P4, _, _⟩ := below_ok (n := n + 9) (m := 0) (S := S3) g30 (by decide) (by decide) ⟨by decide, by decide⟩ P3 (by omega) (k := 4) (by decide) (by decide)
  obtain ⟨q1, hq1, rfl⟩ := List.mem_map.mp m1
  have glast := numL_last y1 low k
  have gm : gr b (low + k) ∈ numL b low k := List.mem_of_getLast? glast
  have sg := num_small y1 y2 y3 y4 gm
  have hl : L2.atI (((numL b low k).map qD).map D.p) (-1) = some (.p (qD (gr b (low + k)))) := by
    rw [at_last _ (List.ne_nil_of_mem gm), glast]
    rfl
  have f1 := law_f_ok (n := n + 9) (S := S3) g26 (a := r1 - 200) (b := 1 + r2) (by omega) ((sm_small _ (by omega)).mono (by decide))
  have s3 : Sm 10 (3 + r3) := sm_of (b := 10) (by omega) (by decide)
  have t3 : Sm 10 (3 : Int) := sm_of (b := 10) (by decide) (by decide)
  have f2 := times_raw (n := n + 8) (S := S4) g27 (frac2 g26) (a := 3 + r3) (c := 3) (sg.mono (by decide)) (s3.mono (by decide)) (t3.mono (by decide)) (by decide)
  obtain ⟨y, S5, m5, d5, P5, _, _⟩ := one_ok (n := n + 8) (m := 0) g31 g30 (by decide) (by decide) ⟨by decide, by decide⟩ P4 (by omega) [qD q1, qD (Rat.divInt (r1 - 200) (1 + r2)), qD (Rat.divInt ((gr b (low + k)).num * (3 + r3)) (((gr b (low + k)).den : Int) * 3))] (by simp) (by simp)
  obtain ⟨q, rfl, hq⟩ : ∃ q, y = qD q ∧ SmQ 60 q := by
    simp only [List.mem_cons, List.not_mem_nil, or_false] at m5
    rcases m5 with rfl | rfl | rfl
    · exact ⟨_, rfl, (num_small y1 y2 y3 y4 hq1).mono (by decide)⟩
    · exact ⟨_, rfl, SmQ.divInt ((sm_of (b := 300) (k := 10) (by omega) (by decide)).mono (by decide)) ((sm_of (b := 300) (k := 10) (by omega) (by decide)).mono (by decide)) (by omega)⟩
    · exact ⟨_, rfl, SmQ.divInt ((sg.1.mul s3).mono (by decide)) ((sg.2.mul t3).mono (by decide)) (Int.mul_ne_zero (den_ne _) (by decide))⟩
  exact ⟨q, S5, hq, v1_ok (callN G (n + 10)) lap _ t _ _ val told back twice due und ovr nxt S _ r1 r2 r3 _ _ _ _ _ S1 S2 S3 S4 S5 d1 d2 d3 f1 hl d4 f2 d5, P5⟩
theorem turn_ok (lap t told back twice due und ovr nxt val : Option D) (Y : Fmt b low k) (Y2 : Fmt b (low + 1) k) {N0 : Nat} (P : Pool S 0 N0) (hN : N0 ≤ 1000000) :
    ∃ val' told' back' twice' due' und' ovr' nxt' S', evS (callN G (n + 10)) turn (Gk lap (some (.p (.int low))) (some (.p (.tuple ((numL b low k).map qD)))) t (some (.p (.int b))) (some (.p (.int (low + k)))) val told back twice due und ovr nxt) S = .nx (Gk lap (some (.p (.int low))) (some (.p (.tuple ((numL b low k).map qD)))) t (some (.p (.int b))) (some (.p (.int (low + k)))) val' told' back' twice' due' und' ovr' nxt') S' ∧ Pool S' 0 (N0 + 6) := by
  have y1 := Y.b1
  have y2 := Y.b5
  have y3 := Y.l1
  have y4 := Y.h8
  have y5 := Y.k8
  obtain ⟨q, S1, hq, st1, P1⟩ := val_ok (n := n) lap t told back twice due und ovr nxt val Y P hN
  obtain ⟨p, hp, p5⟩ := pw_of (b := b) hq y3 (show low ≤ 8 by omega)
  have pl := hp.1
  have smN : ∀ x ∈ numL b low k, SmQ 3000 x := fun x hx => numL_sm y1 (by omega) (by omega) (by omega) hx
  have q21 : qD (2 : Rat) = .tuple [.int 2, .int 1] := by rfl
  have sm2 : SmQ 3000 (2 : Rat) := smQ_int (k := 2999) (z := 2) (sm_small _ (by decide))
  have sm2' : SmQ 10 (2 : Rat) := smQ_int (k := 9) (z := 2) (sm_of (b := 2) (by decide) (by decide))
  have st2 := v2_ok (callN G (n + 10)) lap (some (.p (.tuple ((numL b low k).map qD)))) t told back twice due und ovr nxt S1 b low (low + k) q (fun w => rnd b (low + k) w p q) (fun w => rnd_ok (n := n + 4) Y (hq.mono (by decide)) hp (by omega) w)
  have st3 := fun told => v3_ok (callN G (n + 10)) lap (some (.p (.tuple ((numL b low k).map qD)))) t told back twice due und ovr nxt S1 b low (low + k) q (fun w => (rnd b (low + k) w p q).map (fun x => -x)) (turned_ok (n := n + 9) (some q)) (fun w => by
    have := rnd_ok (n := n + 4) (S := S1) Y (hq.neg.mono (by decide)) hp.neg (by omega) w.flip
    rw [rnd_flip] at this
    exact this)
  have st4 := v4_ok (callN G (n + 10)) lap (some (.p (.int low))) (some (.p (.tuple ((numL b low k).map qD)))) t (some (.p (.int b))) (some (.p (.int (low + k)))) (some (.p (qD q))) twice due und ovr nxt S1 (fun w => rnd b (low + k) w p q) (fun w => (rnd b (low + k) w p q).map (fun x => -x)) (fun w => by
    have := turned_ok (n := n + 9) (S := S1) ((rnd b (low + k) w p q).map (fun x => -x))
    rw [map_neg_neg] at this
    exact this)
  have tw := times_ok (n := n + 8) (S := S1) g27 (frac2 g26) (hq.mono (by decide)) sm2
  rw [q21] at tw
  have st5 := fun told back => v5_ok (callN G (n + 10)) lap (some (.p (.tuple ((numL b low k).map qD)))) t told back twice due und ovr nxt S1 b low (low + k) q (fun w => (rnd b (low + k) w p q).map (fun x => x * 2)) tw (fun w => by
    have := rnd_ok (n := n + 4) (S := S1) Y2 (q := q * 2) (p := p + 1) ((hq.mul sm2').mono (by decide)) hp.twice (by omega) w
    have e : low + 1 + (k : Int) = low + k + 1 := by omega
    rw [e, rnd_twice] at this
    exact this)
  have st6 := fun back => v6_ok (callN G (n + 10)) lap (some (.p (.int low))) (some (.p (.tuple ((numL b low k).map qD)))) t (some (.p (.int b))) (some (.p (.int (low + k)))) (some (.p (qD q))) back due und ovr nxt S1 (fun w => rnd b (low + k) w p q) (fun w => (rnd b (low + k) w p q).map (fun x => x * 2)) (fun w => rfl) (fun w x hx => by
    have := times_ok (n := n + 8) (S := S1) g27 (frac2 g26) (rnd_sm y2 hq (by omega) hx) sm2
    rw [q21] at this
    exact this)
  have st7 := fun told back twice => v7_ok (callN G (n + 10)) lap (some (.p (.int low))) t (some (.p (.int b))) (some (.p (.int (low + k)))) told back twice due und ovr nxt S1 q (numL b low k) (fun x hx => is_less_ok (n := n + 9) g28 (smN x hx) (hq.mono (by decide))) (fun x hx => is_less_ok (n := n + 9) g28 (hq.mono (by decide)) (smN x hx))
  have st8 := fun told back twice => v8_ok (callN G (n + 10)) lap (some (.p (.int low))) (some (.p (.tuple ((numL b low k).map qD)))) t (some (.p (.int b))) (some (.p (.int (low + k)))) (some (.p (qD q))) told back twice due nxt S1 ((numL b low k).filter (fun x => decide (x < q))) ((numL b low k).filter (fun x => decide (q < x)))
  obtain ⟨d, S2, d1, _, _, P2', _, _⟩ := below_ok (n := n + 9) (m := 0) (S := S1) g30 (by decide) (by decide) ⟨by decide, by decide⟩ P1 (by omega) (k := 2) (by decide) (by decide)
  have st9 := fun told back twice due und ovr => v9_ok (callN G (n + 10)) lap (some (.p (.tuple ((numL b low k).map qD)))) t told back twice due und ovr nxt S1 S2 b low (low + k) q d _ d1 (next_ok (n := n + 3) Y (hq.mono (by decide)))
  have okp : ∀ U O : List Rat, okSame 2 (pairB U O) := fun U O y hy => by
    simp only [List.mem_cons, List.not_mem_nil, or_false] at hy
    have oo : ∀ o : Option Rat, okSame 1 (oD o) := fun o => by
      cases o with
      | none => trivial
      | some x => exact okSame_qD 0 x
    rcases hy with rfl | rfl <;> exact oo _
  have st10 := fun told back twice und ovr => v10_ok (callN G (n + 10)) lap (some (.p (.int low))) (some (.p (.tuple ((numL b low k).map qD)))) t (some (.p (.int b))) (some (.p (.int (low + k)))) (some (.p (qD q))) told back twice und ovr S2 _ (same_ok g29 2 _ (n + 7) S2 (okp ((numL b low k).filter (fun x => decide (x < q))) ((numL b low k).filter (fun x => decide (q < x)))))
  have glast := numL_last y1 low k
  have gm : gr b (low + k) ∈ numL b low k := List.mem_of_getLast? glast
  have hl : L2.atI (((numL b low k).map qD).map D.p) (-1) = some (.p (qD (gr b (low + k)))) := by
    rw [at_last _ (List.ne_nil_of_mem gm), glast]
    rfl
  have st11 := fun back twice due und ovr => v11_ok (callN G (n + 10)) lap (some (.p (.int low))) t (some (.p (.int b))) (some (.p (.int (low + k)))) back twice due und ovr S2 q (fun w => rnd b (low + k) w p q) (numL b low k) (gr b (low + k)) _ ((numL b low k).filter (fun x => decide (x < q))) ((numL b low k).filter (fun x => decide (q < x))) hl (is_less_ok (n := n + 9) g28 (smN _ gm) (hq.abs.mono (by decide))) (fun hn hc => between y1 (numL_up y1 low k) (numL_nums y1 low k) (Rat.not_lt.mp (of_decide_eq_false hc)) hn hp)
  exact ⟨_, _, _, _, _, _, _, _, S2, seq_nx st1 (seq_nx st2 (seq_nx (st3 _) (seq_nx st4 (seq_nx (st5 _ _) (seq_nx (st6 _) (seq_nx (st7 _ _ _) (seq_nx (st8 _ _ _) (seq_nx (st9 _ _ _ _ _ _) (seq_nx (st10 _ _ _ _ _) (seq_nx (st11 _ _ _ _ _) (evS_skip _ _ _))))))))))), P2'⟩
end ZK11
set_option Elab.async false
set_option linter.all false
set_option maxHeartbeats 1000000
set_option maxRecDepth 10000
/-! k11: the laps, the law -/
namespace ZK11
open PySem PySem.W Core
def u4 : CS := (.for_ (.nm 4) .rng1 (.cons (.con (.int 12)) .nil) turn)
def lapB : CS := .seq u1 (.seq u2 (.seq u3 (.seq u4 .skip)))
def w1 : CS := (.for_ (.nm 1) .rng1 (.cons (.con (.int 7)) .nil) lapB)
def w2 : CS := (.ret (.cmp .eq (.tup (.cons (.call 24 (.cons (.con (.int 2)) (.cons (.con (.int 0)) (.cons (.con (.int 1)) (.cons (.tup (.cons (.con (.int 4)) (.cons (.con (.int 1)) .nil))) .nil))))) (.cons (.call 24 (.cons (.con (.int 2)) (.cons (.con (.int 0)) (.cons (.con (.int 1)) (.cons (.tup (.cons (.con (.int 13)) (.cons (.con (.int 2)) .nil))) .nil))))) .nil))) (.tup (.cons (.tup (.cons (.tup (.cons (.con (.int 3)) (.cons (.con (.int 1)) .nil))) (.cons (.tup (.cons (.con (.int 6)) (.cons (.con (.int 1)) .nil))) .nil))) (.cons (.tup (.cons (.tup (.cons (.con (.int 6)) (.cons (.con (.int 1)) .nil))) (.cons (.con (.none)) .nil))) .nil)))))
theorem b33_eq : b33 = .seq w1 (.seq w2 .skip) := rfl
variable {n : Nat} {S : Store} {b : Nat} {low : Int} {k : Nat}
theorem u4_ok (lap t told back twice due und ovr nxt val : Option D) (Y : Fmt b low k) (Y2 : Fmt b (low + 1) k) {N0 : Nat} (P : Pool S 0 N0) (hN : N0 ≤ 100000) :
    ∃ t' val' told' back' twice' due' und' ovr' nxt' S', evS (callN G (n + 10)) u4 (Gk lap (some (.p (.int low))) (some (.p (.tuple ((numL b low k).map qD)))) t (some (.p (.int b))) (some (.p (.int (low + k)))) val told back twice due und ovr nxt) S = .nx (Gk lap (some (.p (.int low))) (some (.p (.tuple ((numL b low k).map qD)))) t' (some (.p (.int b))) (some (.p (.int (low + k)))) val' told' back' twice' due' und' ovr' nxt') S' ∧ Pool S' 0 (N0 + 100) := by
  obtain ⟨Γ', S', hfor, hI⟩ := forR_rng (F := callN G (n + 10)) (t := .nm 4) (k := .rng1) (b := turn) (Γ := Gk lap (some (.p (.int low))) (some (.p (.tuple ((numL b low k).map qD)))) t (some (.p (.int b))) (some (.p (.int (low + k)))) val told back twice due und ovr nxt) (S := S) (ds := [.p (.int 12)]) (lo := 0) (m := 12)
    (fun j Γ S => Pool S 0 (N0 + 6 * j) ∧ ∃ t val told back twice due und ovr nxt, Γ = Gk lap (some (.p (.int low))) (some (.p (.tuple ((numL b low k).map qD)))) t (some (.p (.int b))) (some (.p (.int (low + k)))) val told back twice due und ovr nxt) (by
      simp only [srcOf, srcR1]
      rw [if_pos (by decide)]
      rfl) ⟨P, _, _, _, _, _, _, _, _, _, rfl⟩ (fun j Γ S hj q => by
      obtain ⟨P, t, val, told, back, twice, due, und, ovr, nxt, rfl⟩ := q
      obtain ⟨a1, a2, a3, a4, a5, a6, a7, a8, S2, st, P2'⟩ := turn_ok (n := n) lap (some (.p (.int (0 + j)))) told back twice due und ovr nxt val Y Y2 P (by omega)
      exact ⟨_, _, S2, rfl, st, P2'.mono (by omega), _, _, _, _, _, _, _, _, _, rfl⟩)
  obtain ⟨P', t', a1, a2, a3, a4, a5, a6, a7, a8, rfl⟩ := hI
  exact ⟨t', a1, a2, a3, a4, a5, a6, a7, a8, S', by simp [u4, hfor], P'.mono (by omega)⟩
theorem lap_ok (lap low rows t b hi told back twice due und ovr nxt val : Option D) {N0 : Nat} (P : Pool S 0 N0) (hN : N0 ≤ 10000) :
    ∃ low' rows' t' b' hi' val' told' back' twice' due' und' ovr' nxt' S', evS (callN G (n + 10)) lapB (Gk lap low rows t b hi val told back twice due und ovr nxt) S = .nx (Gk lap low' rows' t' b' hi' val' told' back' twice' due' und' ovr' nxt') S' ∧ Pool S' 0 (N0 + 110) := by
  obtain ⟨r1, S1, d1, a1, a2, P1, _, _⟩ := below_ok (n := n + 9) (m := 0) (S := S) g30 (by decide) (by decide) ⟨by decide, by decide⟩ P (by omega) (k := 9) (by decide) (by decide)
  obtain ⟨r2, S2, d2, b1, b2, P2', _, _⟩ := below_ok (n := n + 9) (m := 0) (S := S1) g30 (by decide) (by decide) ⟨by decide, by decide⟩ P1 (by omega) (k := 4) (by decide) (by decide)
  obtain ⟨r3, S3, d3, c1, c2, P3, _, _⟩ := below_ok (n := n + 9) (m := 0) (S := S2) g30 (by decide) (by decide) ⟨by decide, by decide⟩ P2' (by omega) (k := 4) (by decide) (by decide)
  obtain ⟨k2, rfl⟩ := Int.eq_ofNat_of_zero_le b1
  obtain ⟨k3, rfl⟩ := Int.eq_ofNat_of_zero_le c1
  have Y : Fmt (1 + k2) (r1 - 6) k3 := ⟨by omega, by omega, by omega, by omega, by omega⟩
  have Y2 : Fmt (1 + k2) (r1 - 6 + 1) k3 := ⟨by omega, by omega, by omega, by omega, by omega⟩
  have st1 := u1_ok (callN G (n + 10)) lap low rows t b hi val told back twice due und ovr nxt S S1 r1 d1
  have st2 := u2_ok (callN G (n + 10)) lap rows t b hi val told back twice due und ovr nxt S1 (r1 - 6) (k2 : Int) (k3 : Int) S2 S3 d2 d3
  have e : (1 + (k2 : Int)) = ((1 + k2 : Nat) : Int) := by omega
  rw [e] at st2
  have st3 := u3_ok (callN G (n + 10)) lap rows t val told back twice due und ovr nxt S3 ((1 + k2 : Nat) : Int) (r1 - 6) (r1 - 6 + k3) _ (told_ok (n := n + 4) Y)
  obtain ⟨t', x1, x2, x3, x4, x5, x6, x7, x8, S4, st4, P4⟩ := u4_ok (n := n) lap t told back twice due und ovr nxt val Y Y2 P3 (by omega)
  exact ⟨_, _, t', _, _, x1, x2, x3, x4, x5, x6, x7, x8, S4, seq_nx st1 (seq_nx st2 (seq_nx st3 (seq_nx st4 (evS_skip _ _ _)))), P4.mono (by omega)⟩
theorem w1_ok {N0 : Nat} (P : Pool S 0 N0) (hN : N0 ≤ 100) : ∃ Γ' S', evS (callN G (n + 10)) w1 (startL 18 [.loc 0]) S = .nx Γ' S' ∧ Pool S' 0 10000 := by
  obtain ⟨Γ', S', hfor, hI⟩ := forR_rng (F := callN G (n + 10)) (t := .nm 1) (k := .rng1) (b := lapB) (Γ := Gk none none none none none none none none none none none none none none) (S := S) (ds := [.p (.int 7)]) (lo := 0) (m := 7)
    (fun j Γ S => Pool S 0 (N0 + 110 * j) ∧ ∃ lap low rows t b hi val told back twice due und ovr nxt, Γ = Gk lap low rows t b hi val told back twice due und ovr nxt) (by
      simp only [srcOf, srcR1]
      rw [if_pos (by decide)]
      rfl) ⟨P, _, _, _, _, _, _, _, _, _, _, _, _, _, _, rfl⟩ (fun j Γ S hj q => by
      obtain ⟨P, lap, low, rows, t, b, hi, val, told, back, twice, due, und, ovr, nxt, rfl⟩ := q
      obtain ⟨a1, a2, a3, a4, a5, a6, a7, a8, a9, a10, a11, a12, a13, S2, st, P2'⟩ := lap_ok (n := n) (some (.p (.int (0 + j)))) low rows t b hi told back twice due und ovr nxt val P (by omega)
      exact ⟨_, _, S2, rfl, st, P2'.mono (by omega), _, _, _, _, _, _, _, _, _, _, _, _, _, _, rfl⟩)
  exact ⟨Γ', S', by
    have e : startL 18 [D.loc 0] = Gk none none none none none none none none none none none none none none := rfl
    rw [e]
    simp [w1, hfor], hI.1.mono (by omega)⟩
theorem nums201 : numL 2 0 1 = [-6, -4, -3, -2, -1, 0, 1, 2, 3, 4, 6] := by decide +kernel
theorem w2_fin (F : Calls) (Γ : Core.Loc) (S : Store) (x y : PyData) (h1 : F 24 [.p (.int 2), .p (.int 0), .p (.int 1), .p (.tuple [.int 4, .int 1])] S = .ok (.p x) S) (h2 : F 24 [.p (.int 2), .p (.int 0), .p (.int 1), .p (.tuple [.int 13, .int 2])] S = .ok (.p y) S)
    (h3 : eqP (.tuple [x, y]) (.tuple [.tuple [.tuple [.int 3, .int 1], .tuple [.int 6, .int 1]], .tuple [.tuple [.int 6, .int 1], .none]]) = some true) :
    evS F w2 Γ S = .rt (.p (.bool true)) S := by
  simp [w2, h1, h2, h3, two_line]
theorem q41 : qD (4 : Rat) = .tuple [.int 4, .int 1] := by rfl
theorem half13 : (13 / 2 : Rat).num = 13 ∧ (13 / 2 : Rat).den = 2 := by decide +kernel
theorem q132 : qD (13 / 2 : Rat) = .tuple [.int 13, .int 2] := by
  unfold qD
  rw [half13.1, half13.2]
  rfl
theorem f1 : ([-6, -4, -3, -2, -1, 0, 1, 2, 3, 4, 6] : List Rat).filter (fun r => decide (r < 4)) = [-6, -4, -3, -2, -1, 0, 1, 2, 3] := by decide +kernel
theorem f2 : ([-6, -4, -3, -2, -1, 0, 1, 2, 3, 4, 6] : List Rat).filter (fun r => decide (4 < r)) = [6] := by decide +kernel
theorem f3 : ([-6, -4, -3, -2, -1, 0, 1, 2, 3, 4, 6] : List Rat).filter (fun r => decide (r < 13 / 2)) = [-6, -4, -3, -2, -1, 0, 1, 2, 3, 4, 6] := by decide +kernel
theorem f4 : ([-6, -4, -3, -2, -1, 0, 1, 2, 3, 4, 6] : List Rat).filter (fun r => decide (13 / 2 < r)) = [] := by decide +kernel
theorem w2_ok (Γ : Core.Loc) (S : Store) : evS (callN G (n + 10)) w2 Γ S = .rt (.p (.bool true)) S := by
  have Y : Fmt 2 0 1 := ⟨by decide, by decide, by decide, by decide, by decide⟩
  have h1 := next_ok (n := n + 3) (S := S) Y (q := 4) (smQ_int (k := 2999) (z := 4) (sm_small _ (by decide)))
  have h2 := next_ok (n := n + 3) (S := S) Y (q := 13 / 2) ⟨by rw [half13.1]; exact sm_small _ (by decide), by rw [half13.2]; exact sm_small _ (by decide)⟩
  rw [nums201] at h1 h2
  rw [f1, f2, q41] at h1
  rw [f3, f4, q132] at h2
  refine w2_fin _ Γ S _ _ h1 h2 ?_
  have e1 : oD (some (3 : Rat)) = .tuple [.int 3, .int 1] := rfl
  have e2 : oD (some (6 : Rat)) = .tuple [.int 6, .int 1] := rfl
  have k1 := fitK_oD (some (3 : Rat))
  have k2 := fitK_oD (some (6 : Rat))
  have k3 := fitK_oD none
  have v1 := eqv_oD (some (3 : Rat))
  have v2 := eqv_oD (some (6 : Rat))
  have v3 := eqv_oD none
  show eqP (.tuple [.tuple [oD (some 3), oD (some 6)], .tuple [oD (some 6), oD none]]) (.tuple [.tuple [oD (some 3), oD (some 6)], .tuple [oD (some 6), oD none]]) = some true
  have K : FitK 3 (.tuple [.tuple [oD (some (3 : Rat)), oD (some (6 : Rat))], .tuple [oD (some (6 : Rat)), oD none]]) := fitK_tup fun x hx => by
    simp only [List.mem_cons, List.not_mem_nil, or_false] at hx
    rcases hx with rfl | rfl
    · exact fitK_tup fun x hx => by
        simp only [List.mem_cons, List.not_mem_nil, or_false] at hx
        rcases hx with rfl | rfl <;> exact fitK_oD _
    · exact fitK_tup fun x hx => by
        simp only [List.mem_cons, List.not_mem_nil, or_false] at hx
        rcases hx with rfl | rfl <;> exact fitK_oD _
  rw [eqP_of K K]
  simp [PyData.eqv, PyData.eqvAll, eqv_oD]
theorem right_ok (n : Nat) (a b c : Int) (ha : 0 ≤ a) (hb : 0 ≤ b) (hb2 : b < 2147483648) (hc : 0 ≤ c) (hc2 : c ≤ 0) : ∃ (ys : List PyData) (T : Store), evS (callN G (n + 10)) b33 (startL 18 [.loc 0]) [.lst [.p (.int a), .p (.int b), .p (.int c)]] = .rt (.p (.bool true)) (.lst (ys.map D.p) :: T) := by
  have P : Pool [.lst [.p (.int a), .p (.int b), .p (.int c)]] 0 0 := ⟨a, b, c, rfl, ha, hb, hb2, hc, by omega⟩
  obtain ⟨Γ1, S1, st1, P1⟩ := w1_ok (n := n) P (by omega)
  obtain ⟨ys, T, rfl, _⟩ := P1.cons
  refine ⟨ys, T, ?_⟩
  rw [b33_eq]
  refine seq_nx st1 ?_
  rw [evS_seq, w2_ok]
def depth : Nat := 12
theorem math (ns : List Int) (h : ns.length ≤ 63) : ∃ S, callN LW.fns depth 34 [.ro (ns.map PyData.int)] [] = .ok (.p (.bool true)) S :=
  law_ok (n := 10) (G := G) (iR := 33) (iP := 25) (sl := 18) (body := b33) g34 g25 rfl (by decide) (by decide) (right_ok 0) ns
end ZK11
set_option Elab.async false
set_option linter.all false
set_option maxRecDepth 100000
open PySem PySem.W PyProof.Rows
set_option maxRecDepth 100000 in
set_option maxHeartbeats 0 in
theorem PySem.Challenge.cw_roundtexts_k11_whole_mirrored_rounding_a_holds : PySem.Challenge.rw_roundtexts_k11_whole_mirrored_rounding_a.Holds := by
  w_on; o_law; k_head; (case hw => w_witness2)
  k_fill
  refine Core.law_walk (l := PySem.Challenge.rw_roundtexts_k11_whole_mirrored_rounding_a) (L := ZK11.LW) (rows := ZK11.rows) (r := ZK11.r34) (n := ZK11.depth) (i := 34) rfl rfl (fun w h Y => PySem.W.kIn_of Y) ⟨rfl, by decide, by decide⟩ rfl rfl rfl ?U ZK11.math
  case U =>
    intro w mg h KX G
    refine { names := rfl, defs := ZK11.all_ok, at_ := ?at_, blt := ?blt, gcd := ?gcd, con := ?con }
    case at_ =>
      refine List.forall_mem_cons.mpr ⟨?_, List.forall_mem_cons.mpr ⟨?_, List.forall_mem_cons.mpr ⟨?_, List.forall_mem_cons.mpr ⟨?_, List.forall_mem_cons.mpr ⟨?_, List.forall_mem_cons.mpr ⟨?_, List.forall_mem_cons.mpr ⟨?_, List.forall_mem_cons.mpr ⟨?_, List.forall_mem_cons.mpr ⟨?_, List.forall_mem_cons.mpr ⟨?_, List.forall_mem_cons.mpr ⟨?_, List.forall_mem_cons.mpr ⟨?_, List.forall_mem_cons.mpr ⟨?_, List.forall_mem_cons.mpr ⟨?_, List.forall_mem_cons.mpr ⟨?_, List.forall_mem_cons.mpr ⟨?_, List.forall_mem_cons.mpr ⟨?_, List.forall_mem_cons.mpr ⟨?_, List.forall_mem_cons.mpr ⟨?_, List.forall_mem_cons.mpr ⟨?_, List.forall_mem_cons.mpr ⟨?_, List.forall_mem_cons.mpr ⟨?_, List.forall_mem_cons.mpr ⟨?_, List.forall_mem_cons.mpr ⟨?_, List.forall_mem_cons.mpr ⟨?_, List.forall_mem_cons.mpr ⟨?_, List.forall_mem_cons.mpr ⟨?_, List.forall_mem_cons.mpr ⟨?_, List.forall_mem_cons.mpr ⟨?_, List.forall_mem_cons.mpr ⟨?_, List.forall_mem_cons.mpr ⟨?_, List.forall_mem_cons.mpr ⟨?_, List.forall_mem_cons.mpr ⟨?_, List.forall_mem_cons.mpr ⟨?_, List.forall_mem_cons.mpr ⟨?_, List.forall_mem_nil _⟩⟩⟩⟩⟩⟩⟩⟩⟩⟩⟩⟩⟩⟩⟩⟩⟩⟩⟩⟩⟩⟩⟩⟩⟩⟩⟩⟩⟩⟩⟩⟩⟩⟩⟩
      all_goals (refine' Core.fnAt_mk KX G ?a ?l ?c ?k; (case a => k_is); (case l => k_is); (case c => k_is); (case k => k_is))
    case blt =>
      refine List.forall_mem_cons.mpr ⟨?_, List.forall_mem_cons.mpr ⟨?_, List.forall_mem_cons.mpr ⟨?_, List.forall_mem_cons.mpr ⟨?_, List.forall_mem_cons.mpr ⟨?_, List.forall_mem_cons.mpr ⟨?_, List.forall_mem_cons.mpr ⟨?_, List.forall_mem_cons.mpr ⟨?_, List.forall_mem_cons.mpr ⟨?_, List.forall_mem_cons.mpr ⟨?_, List.forall_mem_cons.mpr ⟨?_, List.forall_mem_cons.mpr ⟨?_, List.forall_mem_cons.mpr ⟨?_, List.forall_mem_cons.mpr ⟨?_, List.forall_mem_cons.mpr ⟨?_, List.forall_mem_cons.mpr ⟨?_, List.forall_mem_nil _⟩⟩⟩⟩⟩⟩⟩⟩⟩⟩⟩⟩⟩⟩⟩⟩
      all_goals exact PySem.W.mg_none_of KX G (by k_is)
    case gcd =>
      exact fun _ => PySem.W.mg_of KX G (by k_is)
    case con =>
      refine' Core.con_cons ?_ (Core.con_cons ?_ (Core.con_cons ?_ (Core.con_cons ?_ (Core.con_cons ?_ (Core.con_cons ?_ (Core.con_cons ?_ (Core.con_cons ?_ (Core.con_cons ?_ (Core.con_cons ?_ (Core.con_nil))))))))))
      · refine' Core.con_mk KX G ?a ?g
        (case a => k_is)
        case g =>
          refine' Core.KGood.tup ?l ?c ?d ?s ?r
          (case l => k_is)
          (case c => rfl)
          (case d => rfl)
          (case s => decide)
          case r =>
            refine' .cons ?_ (.cons ?_ (.cons ?_ (.cons ?_ (.cons ?_ (.nil)))))
            · exact Core.kg_str
            · exact Core.kg_str
            · exact Core.kg_str
            · exact Core.kg_str
            · exact Core.kg_str
      · refine' Core.con_mk KX G ?a ?g
        (case a => k_is)
        case g =>
          exact Core.kg_str
      · refine' Core.con_mk KX G ?a ?g
        (case a => k_is)
        case g =>
          exact Core.kg_str
      · refine' Core.con_mk KX G ?a ?g
        (case a => k_is)
        case g =>
          exact Core.kg_str
      · refine' Core.con_mk KX G ?a ?g
        (case a => k_is)
        case g =>
          exact Core.kg_str
      · refine' Core.con_mk KX G ?a ?g
        (case a => k_is)
        case g =>
          refine' Core.KGood.tup ?l ?c ?d ?s ?r
          (case l => k_is)
          (case c => rfl)
          (case d => rfl)
          (case s => decide)
          case r =>
            refine' .cons ?_ (.cons ?_ (.nil))
            · exact Core.kg_int
            · exact Core.kg_int
      · refine' Core.con_mk KX G ?a ?g
        (case a => k_is)
        case g =>
          exact Core.kg_int
      · refine' Core.con_mk KX G ?a ?g
        (case a => k_is)
        case g =>
          exact Core.kg_int
      · refine' Core.con_mk KX G ?a ?g
        (case a => k_is)
        case g =>
          exact Core.kg_int
      · refine' Core.con_mk KX G ?a ?g
        (case a => k_is)
        case g =>
          exact Core.kg_int
