import PyProof.Rows.All
import Wide.All
import OpenK.AllK
import Wide.FinOn
import HandS.Base
import PyProof.ReprRoads
import HandS.Call
import HandS.List
import HandS.TupAny
import HandS.TupMul
import HandS.Exc
import HandS.Lambda
import HandS.Words
import HandS.Wide
import HandS.IsInst
import HandS.Flow
import HandS.Deep
import HandS.TupLe
import HandS.Style
import PyProof.ListMulRoad
import PyProof.FactsAll.tuple_2
import HandS.Comp
import HandS.Iter
import HandS.Zip
import KE.GoesMore
import KE.KDictZip
import HandS.GenList
import HandS.Keys
import HandS.TryMany
import HandS.ExcOwn
import HandS.Defaults
import HandS.Head0
import HandS.Head1
import HandS.Head2
import HandS.HeadEnd
import HandS.HeadHook1
import HandS.HeadHook2
import HandS.HeadHook3
import HandS.HeadHook4
import HandS.HeadWalk
import HandS.EndTab
import PyProof.Rows.StrJoinMade
import PyProof.FitsInt
import PySem.Challenge.RW_shellgate_k09_squeezes_of_runs
set_option Elab.async false
set_option linter.all false
/-! Gx: a total evaluator for the sublanguage: pure values, a store of mutable objects. -/
namespace Gx
open PySem

inductive D where
  | non | bl (b : Bool) | int (i : Int) | str (x : Str)
  | tup (xs : List D) | lst (xs : List D) | scr (xs : List D)
  | loc (k : Nat) | fn (f : Nat) | ty (n : String)
inductive Ob where
  | lst (xs : List D)
abbrev Sto := List Ob
abbrev Env := List (Option D)
/-- a result: a value and the store behind it; an error (class, its told value); no claim -/
inductive R (α : Type) where
  | ok (a : α) (S : Sto) | exc (c : Str) (p : Option D) (S : Sto) | stuck
def R.bind {α β : Type} (r : R α) (k : α → Sto → R β) : R β := match r with
  | .ok a S => k a S
  | .exc c p S => .exc c p S
  | .stuck => .stuck
/-- an option as a result -/
def opt {α : Type} (o : Option α) (S : Sto) : R α := match o with
  | some a => .ok a S
  | none => .stuck
/-- a list object read as its list -/
def der (S : Sto) : D → D
  | .loc k => match S[k]? with
    | some (.lst xs) => .lst xs
    | none => .loc k
  | d => d
/-! ### data -/
mutual
def toPy : D → Option PyData
  | .non => some .none
  | .bl b => some (.bool b)
  | .int i => some (.int i)
  | .str x => some (.str x)
  | .tup xs => (toPyL xs).map .tuple
  | .lst xs => (toPyL xs).map .list
  | _ => none
def toPyL : List D → Option (List PyData)
  | [] => some []
  | x :: xs => match toPy x, toPyL xs with
    | some a, some b => some (a :: b)
    | _, _ => none
end
def eqP (x y : D) : Option Bool := match toPy x, toPy y with
  | some a, some b => if SeqAt.shaped a && SeqAt.shaped b then some (PyData.eqv a b) else none
  | _, _ => none
def eqD (x y : D) : Option Bool := match x, y with
  | .str a, .str b => some (a == b)
  | x, y => eqP x y
theorem eqD_cases {x y : D} {k : Bool} (h : eqD x y = some k) : (∃ a b, x = .str a ∧ y = .str b ∧ k = (a == b)) ∨ eqP x y = some k := by
  unfold eqD at h
  split at h
  · cases h
    exact .inl ⟨_, _, rfl, rfl, rfl⟩
  · exact .inr h
def flat : D → Bool
  | .non => true | .bl _ => true | .int _ => true | .str _ => true
  | _ => false
def toV : D → L2.V
  | .bl b => .bl b
  | .int i => .int i
  | .str x => .str x
  | _ => .non
def isD : D → D → Option Bool
  | .non, .non => some true
  | _, .non => some false
  | .bl a, .bl b => some (decide (a = b))
  | _, _ => none
def sz : Nat := 16777216
def mulOk (i j : Int) : Bool := (decide (-18446744073709551616 < i) && decide (i < 18446744073709551616)) || (decide (-18446744073709551616 < j) && decide (j < 18446744073709551616))
def powOk (i j : Int) : Bool := decide (0 ≤ j) && decide (j ≤ 1000000) && decide (i.natAbs < 18446744073709551616)
def repT (xs : List D) (k : Int) : List D := (List.replicate k.toNat xs).flatten
def bopD (op : Operator) (x y : D) : Option D := match op, x, y with
  | .Add, .int i, .int j => some (.int (i + j))
  | .Add, .str a, .str b => if a.length + b.length ≤ sz then some (.str (a ++ b)) else none
  | .Add, .tup a, .tup b => if a.length + b.length ≤ sz then some (.tup (a ++ b)) else none
  | .Sub, .int i, .int j => some (.int (i - j))
  | .Mult, .int i, .int j => if mulOk i j then some (.int (i * j)) else none
  | .Mult, .tup a, .int k => if a.length * k.toNat ≤ sz ∧ -9223372036854775808 ≤ k ∧ k < 9223372036854775808 then some (.tup (repT a k)) else none
  | .FloorDiv, .int i, .int j => if 0 < j ∧ j < 2 ^ 256 then some (.int (i / j)) else none
  | .Mod, .int i, .int j => if 0 < j then some (.int (i % j)) else none
  | .Pow, .int i, .int j => if powOk i j then some (.int (i ^ j.toNat)) else none
  | .LShift, .int i, .int j => if powOk i j then some (.int (i * 2 ^ j.toNat)) else none
  | .RShift, .int i, .int j => if 0 ≤ j then some (.int (i / 2 ^ j.toNat)) else none
  | .BitAnd, .int i, .int j => some (.int (Builtin.bitAnd i j))
  | .BitXor, .int i, .int j => some (.int (Builtin.bitXor i j))
  | _, _, _ => none
/-- a list made by an operator -/
def lopD (op : Operator) (x y : D) : Option (List D) := match op, x, y with
  | .Add, .lst a, .lst b => if a.length + b.length ≤ sz then some (a ++ b) else none
  | .Mult, .lst a, .int k => if a.length * k.toNat ≤ sz ∧ -9223372036854775808 ≤ k ∧ k < 9223372036854775808 then some (repT a k) else none
  | _, _, _ => none
def inD (x : D) (ys : List D) : Option Bool := if flat x && ys.all flat then some (L2.inV (toV x) (ys.map toV)) else
  match toPy x, toPyL ys with
  | some a, some b => if SeqAt.shaped a && SeqAt.shaped (.list b) then some (b.any fun z => PyData.eqv z a) else none
  | _, _ => none
def cmpD (op : CmpOp) (x y : D) : Option Bool := match op with
  | .Eq => eqD x y
  | .NotEq => (eqD x y).map (!·)
  | .Is => isD x y
  | .IsNot => (isD x y).map (!·)
  | .In => match y with
    | .tup ys => inD x ys
    | .lst ys => inD x ys
    | _ => none
  | .NotIn => match y with
    | .tup ys => (inD x ys).map (!·)
    | .lst ys => (inD x ys).map (!·)
    | _ => none
  | .Lt => match x, y with | .int i, .int j => some (decide (i < j)) | _, _ => none
  | .LtE => match x, y with | .int i, .int j => some (decide (i ≤ j)) | _, _ => none
  | .Gt => match x, y with | .int i, .int j => some (decide (j < i)) | _, _ => none
  | .GtE => match x, y with | .int i, .int j => some (decide (j ≤ i)) | _, _ => none
def truD : D → Option Bool
  | .non => some false
  | .bl b => some b
  | .int i => some (i != 0)
  | .tup xs => some (!xs.isEmpty)
  | .lst xs => some (!xs.isEmpty)
  | _ => none
def ixD (x i : D) : Option D := match x, i with
  | .tup xs, .int i => L2.atI xs i
  | .lst xs, .int i => L2.atI xs i
  | .scr xs, .int i => L2.atI xs i
  | _, _ => none
def cutD (xs : List D) (lo hi : Option Int) : List D := (xs.drop (HT.sIx xs.length 0 lo)).take (HT.sIx xs.length xs.length hi - HT.sIx xs.length 0 lo)
/-- built-ins of values -/
inductive Bi where
  | len | tuple | all | any | abs | int | max2 | min2 | sum | repr
  deriving DecidableEq
def blsD : List D → Option (List Bool)
  | [] => some []
  | .bl b :: r => (blsD r).map (b :: ·)
  | _ => none
def intsD : List D → Option (List Int)
  | [] => some []
  | .int b :: r => (intsD r).map (b :: ·)
  | _ => none
/-- the text of a value, as repr tells it -/
def shownD (p : PyData) : Option D := if SeqAt.shaped p && PyData.showable p && !PyData.hasDict p && decide ((PyData.shown p).length ≤ sz) then some (.str (PyData.shown p)) else none
def biD (b : Bi) (as : List D) : Option D := match b, as with
  | .len, [.tup xs] => some (.int xs.length)
  | .len, [.lst xs] => some (.int xs.length)
  | .len, [.scr xs] => some (.int xs.length)
  | .len, [.str x] => if x.length ≤ sz then some (.int x.length) else none
  | .tuple, [.tup xs] => some (.tup xs)
  | .tuple, [.lst xs] => some (.tup xs)
  | .all, [.lst xs] => (blsD xs).map fun l => .bl (l.all id)
  | .any, [.lst xs] => (blsD xs).map fun l => .bl (l.any id)
  | .abs, [.int i] => some (.int (if i < 0 then -i else i))
  | .int, [.int i] => some (.int i)
  | .int, [.bl k] => some (.int (if k then 1 else 0))
  | .max2, [.int i, .int j] => some (.int (if j > i then j else i))
  | .min2, [.int i, .int j] => some (.int (if j < i then j else i))
  | .sum, [.lst xs] => (intsD xs).map fun l => .int l.sum
  | .repr, [d] => (toPy d).bind shownD
  | _, _ => none
/-- built-in types asked by isinstance -/
inductive Ty where
  | int | bool | str | tuple | list
  deriving DecidableEq
def isiD (d : D) : List Ty → Option Bool
  | ts => match d with
    | .non => some false
    | .bl _ => some (ts.any fun t => t == .bool || t == .int)
    | .int _ => some (ts.any (· == .int))
    | .str _ => some (ts.any (· == .str))
    | .tup _ => some (ts.any (· == .tuple))
    | .lst _ => some (ts.any (· == .list))
    | _ => none
/-! ### core terms -/
inductive Cst where
  | non | bl (b : Bool) | int (i : Int) | str (x : Str)
  deriving DecidableEq
def Cst.d : Cst → D
  | .non => .non | .bl b => .bl b | .int i => .int i | .str x => .str x
mutual
inductive CE where
  | var (i : Nat) | cst (c : Cst) | glob (x : Str) (d : D)
  | bop (op : Operator) (a b : CE) | neg (a : CE) | notV (a : CE)
  | cmp (op : CmpOp) (a b : CE) | chain (o1 o2 : CmpOp) (a b c : CE)
  | andV (a b : CE) | orV (a b : CE) | ife (t : CT) (a b : CE)
  | tup (es : CEs) | fl (f : CF) | ml (f : CF)
  | ix (a b : CE) | sl (a : CE) (lo hi : CO) | rev (a : CE)
  | call (f : Nat) (x : Str) (es : CEs) | callv (i : Nat) (es : CEs) | lam (g : Nat) (x : Str) (b : CE)
  | bi (b : Bi) (es : CEs) | isi (a : CE) (ts : List Ty)
inductive CEs where
  | nil | cons (a : CE) (r : CEs)
inductive CO where
  | non | som (a : CE)
inductive CT where
  | cmp (op : CmpOp) (a b : CE) | chain (o1 o2 : CmpOp) (a b c : CE)
  | not (t : CT) | and (t u : CT) | or (t u : CT) | tru (a : CE)
inductive CTo where
  | non | som (t : CT)
inductive CF where
  | disp (es : CEs) | comp (own : List Nat) (tg : CTg) (it : CI) (t : CTo) (e : CE)
  | op (o : Operator) (a b : CE) | ofs (a : CE) | sl (a : CE) (lo hi : CO) | zips (a b : CE)
inductive CI where
  | seq (a : CE) | rng1 (a : CE) | rng2 (a b : CE) | zip (a b : CE) | enum (a : CE)
inductive CTg where
  | nm (i : Nat) | tp (ts : CTgs) | sub (a b : CE)
inductive CTgs where
  | nil | cons (t : CTg) (r : CTgs)
end
/-- what an except clause hands back -/
inductive HE where
  | cst (c : Cst) | tup (es : List HE) | fld
structure Hd where
  cls : Str
  as_ : Option Nat
  ret : HE
mutual
inductive CS where
  | asg (tg : CTg) (e : CE) | par (is : List Nat) (es : CEs) | asgc (m : Bool) (i : Nat) (f : CF)
  | exp (e : CE) | ret (e : CE) | retN | ite (t : CT) (a b : CSs)
  | forS (tg : CTg) (it : CI) (b : CSs) | whl (t : CT) (b : CSs) | brk | cnt | pass
  | rse (c : Str) | tryE (isRet : Bool) (e : CE) (hs : List Hd)
  | app (i : Nat) (e : CE) | ext (i : Nat) (e : CE)
inductive CSs where
  | nil | cons (s : CS) (r : CSs)
end
/-! ### evaluation -/
inductive Out where
  | nx (ρ : Env) | bk (ρ : Env) | ct (ρ : Env) | rt (d : D)
structure Orc where
  call : Nat → List D → Sto → R D
  lam : Nat → (Sto → R D) → Sto → R D
  W : Nat
/-- the items of a thing that is walked -/
inductive Its where
  | items (l : List D) | at_ (k : Nat)
def rngD (lo hi : Int) : List D := (List.range (hi - lo).toNat).map fun (i : Nat) => D.int (lo + (i : Int))
def smallI (i : Int) : Bool := decide (-4611686018427387904 ≤ i) && decide (i < 4611686018427387904)
def seqD : D → Option Its
  | .tup xs => some (.items xs)
  | .lst xs => some (.items xs)
  | .scr xs => some (.items xs)
  | .loc k => some (.at_ k)
  | _ => none
def seqL : D → Option (List D)
  | .tup xs => some xs
  | .lst xs => some xs
  | .scr xs => some xs
  | _ => none
def extL : D → Option (List D)
  | .lst xs => some xs
  | .tup xs => some xs
  | _ => none
def pairsD (as bs : List D) : List D := (as.zip bs).map fun p => .tup [p.1, p.2]
def enumD : Nat → List D → List D
  | _, [] => []
  | n, x :: r => .tup [.int (n : Int), x] :: enumD (n + 1) r
/-- what a loop's turn leaves: go on, or an end -/
def turn (o : Out) (S : Sto) (k : Env → Sto → R Out) : R Out := match o with
  | .nx ρ => k ρ S
  | .ct ρ => k ρ S
  | .bk ρ => .ok (.nx ρ) S
  | .rt d => .ok (.rt d) S
def forL (f : D → Env → Sto → R Out) : List D → Env → Sto → R Out
  | [], ρ, S => .ok (.nx ρ) S
  | d :: r, ρ, S => (f d ρ S).bind fun o S1 => turn o S1 (forL f r)
def forAt (f : D → Env → Sto → R Out) (k : Nat) : Nat → Nat → Env → Sto → R Out
  | 0, _, _, _ => .stuck
  | n + 1, i, ρ, S => match S[k]? with
    | some (.lst xs) => match xs[i]? with
      | some d => (f d ρ S).bind fun o S1 => turn o S1 (forAt f k n (i + 1))
      | none => .ok (.nx ρ) S
    | none => .stuck
def whileL (t : Env → Sto → R Bool) (f : Env → Sto → R Out) : Nat → Env → Sto → R Out
  | 0, _, _ => .stuck
  | n + 1, ρ, S => (t ρ S).bind fun b S1 => if b then (f ρ S1).bind fun o S2 => turn o S2 (whileL t f n) else .ok (.nx ρ) S1
/-- a comprehension: no error leaves it -/
def noX {α : Type} : R α → R α
  | .exc _ _ _ => .stuck
  | r => r
def compL (f : D → Sto → R (Option D)) : List D → Sto → R (List D)
  | [], S => .ok [] S
  | d :: r, S => (f d S).bind fun o S1 => (compL f r S1).bind fun ys S2 => .ok (match o with | some y => y :: ys | none => ys) S2
/-- the same over a list object as it stands at each turn -/
def compK (f : D → Sto → R (Option D)) (k : Nat) : Nat → Nat → Sto → R (List D)
  | 0, _, _ => .stuck
  | n + 1, i, S => match S[k]? with
    | some (.lst xs) => match xs[i]? with
      | some d => (f d S).bind fun o S1 => (compK f k n (i + 1) S1).bind fun ys S2 => .ok (match o with | some y => y :: ys | none => ys) S2
      | none => .ok [] S
    | none => .stuck
def wipeE (ρ : Env) : List Nat → Env
  | [] => ρ
  | i :: r => (wipeE ρ r).set i none
def valO : Option Int → D := fun o => match o with | some i => .int i | none => .non
def cntT : CTgs → Nat
  | .nil => 0
  | .cons _ r => cntT r + 1
mutual
def evE (O : Orc) : CE → Env → Sto → R D
  | .var i, ρ, S => match ρ[i]? with
    | some (some d) => .ok d S
    | _ => .stuck
  | .cst c, _, S => .ok c.d S
  | .glob _ d, _, S => .ok d S
  | .bop op a b, ρ, S => (evE O a ρ S).bind fun x S1 => (evE O b ρ S1).bind fun y S2 => opt (bopD op x y) S2
  | .neg a, ρ, S => (evE O a ρ S).bind fun x S1 => match x with
    | .int i => .ok (.int (-i)) S1
    | _ => .stuck
  | .notV a, ρ, S => (evE O a ρ S).bind fun x S1 => opt ((truD (der S1 x)).map fun b => .bl (!b)) S1
  | .cmp op a b, ρ, S => (evE O a ρ S).bind fun x S1 => (evE O b ρ S1).bind fun y S2 => opt ((cmpD op (der S2 x) (der S2 y)).map .bl) S2
  | .chain o1 o2 a b c, ρ, S => (evE O a ρ S).bind fun x S1 => (evE O b ρ S1).bind fun y S2 => (opt (cmpD o1 (der S2 x) (der S2 y)) S2).bind fun k S3 =>
      if k then (evE O c ρ S3).bind fun z S4 => opt ((cmpD o2 (der S4 y) (der S4 z)).map .bl) S4 else .ok (.bl false) S3
  | .andV a b, ρ, S => (evE O a ρ S).bind fun x S1 => (opt (truD (der S1 x)) S1).bind fun k S2 => if k then evE O b ρ S2 else .ok x S2
  | .orV a b, ρ, S => (evE O a ρ S).bind fun x S1 => (opt (truD (der S1 x)) S1).bind fun k S2 => if k then .ok x S2 else evE O b ρ S2
  | .ife t a b, ρ, S => (evT O t ρ S).bind fun k S1 => if k then evE O a ρ S1 else evE O b ρ S1
  | .tup es, ρ, S => (evEs O es ρ S).bind fun xs S1 => if xs.length ≤ sz then .ok (.tup xs) S1 else .stuck
  | .fl f, ρ, S => (evF O f ρ S).bind fun xs S1 => .ok (.lst xs) S1
  | .ml f, ρ, S => (evF O f ρ S).bind fun xs S1 => .ok (.loc S1.length) (S1 ++ [.lst xs])
  | .ix a b, ρ, S => (evE O a ρ S).bind fun x S1 => (evE O b ρ S1).bind fun y S2 => opt (ixD (der S2 x) y) S2
  | .sl a lo hi, ρ, S => (evE O a ρ S).bind fun x S1 => (evO O lo ρ S1).bind fun l S2 => (evO O hi ρ S2).bind fun h S3 => match x with
    | .tup xs => .ok (.tup (cutD xs l h)) S3
    | _ => .stuck
  | .rev a, ρ, S => (evE O a ρ S).bind fun x S1 => match x with
    | .tup xs => .ok (.tup xs.reverse) S1
    | _ => .stuck
  | .call f _ es, ρ, S => (evEs O es ρ S).bind fun xs S1 => O.call f xs S1
  | .callv i es, ρ, S => match ρ[i]? with
    | some (some (.fn f)) => (evEs O es ρ S).bind fun xs S1 => O.call f xs S1
    | _ => .stuck
  | .lam g _ b, ρ, S => O.lam g (fun S1 => evE O b ρ S1) S
  | .bi b es, ρ, S => (evEs O es ρ S).bind fun xs S1 => opt (biD b (xs.map (der S1))) S1
  | .isi a ts, ρ, S => (evE O a ρ S).bind fun x S1 => opt ((isiD (der S1 x) ts).map .bl) S1
def evEs (O : Orc) : CEs → Env → Sto → R (List D)
  | .nil, _, S => .ok [] S
  | .cons a r, ρ, S => (evE O a ρ S).bind fun x S1 => (evEs O r ρ S1).bind fun xs S2 => .ok (x :: xs) S2
def evO (O : Orc) : CO → Env → Sto → R (Option Int)
  | .non, _, S => .ok none S
  | .som a, ρ, S => (evE O a ρ S).bind fun x S1 => match x with
    | .int i => .ok (some i) S1
    | _ => .stuck
def evT (O : Orc) : CT → Env → Sto → R Bool
  | .cmp op a b, ρ, S => (evE O a ρ S).bind fun x S1 => (evE O b ρ S1).bind fun y S2 => opt (cmpD op (der S2 x) (der S2 y)) S2
  | .chain o1 o2 a b c, ρ, S => (evE O a ρ S).bind fun x S1 => (evE O b ρ S1).bind fun y S2 => (opt (cmpD o1 (der S2 x) (der S2 y)) S2).bind fun k S3 =>
      if k then (evE O c ρ S3).bind fun z S4 => opt (cmpD o2 (der S4 y) (der S4 z)) S4 else .ok false S3
  | .not t, ρ, S => (evT O t ρ S).bind fun k S1 => .ok (!k) S1
  | .and t u, ρ, S => (evT O t ρ S).bind fun k S1 => if k then evT O u ρ S1 else .ok false S1
  | .or t u, ρ, S => (evT O t ρ S).bind fun k S1 => if k then .ok true S1 else evT O u ρ S1
  | .tru a, ρ, S => (evE O a ρ S).bind fun x S1 => opt (truD (der S1 x)) S1
def evTo (O : Orc) : CTo → Env → Sto → R Bool
  | .non, _, S => .ok true S
  | .som t, ρ, S => evT O t ρ S
def evF (O : Orc) : CF → Env → Sto → R (List D)
  | .disp es, ρ, S => (evEs O es ρ S).bind fun xs S1 => if xs.length ≤ sz then .ok xs S1 else .stuck
  | .comp own tg it t e, ρ, S => (evI O it ρ S).bind fun z S1 => match z with
    | .items l => if l.length ≤ sz then noX (compL (fun d S2 => (evTg O tg d (wipeE ρ own) S2).bind fun ρ1 S3 => (evTo O t ρ1 S3).bind fun b S4 =>
        if b then (evE O e ρ1 S4).bind fun y S5 => .ok (some y) S5 else .ok none S4) l S1) else .stuck
    | .at_ k => match S1[k]? with
      | some (.lst xs) => if xs.length ≤ sz then noX (compK (fun d S2 => (evTg O tg d (wipeE ρ own) S2).bind fun ρ1 S3 => (evTo O t ρ1 S3).bind fun b S4 =>
        if b then (evE O e ρ1 S4).bind fun y S5 => .ok (some y) S5 else .ok none S4) k (xs.length + 1) 0 S1) else .stuck
      | none => .stuck
  | .op o a b, ρ, S => (evE O a ρ S).bind fun x S1 => (evE O b ρ S1).bind fun y S2 => opt (lopD o (der S2 x) (der S2 y)) S2
  | .ofs a, ρ, S => (evE O a ρ S).bind fun x S1 => opt (seqL (der S1 x)) S1
  | .sl a lo hi, ρ, S => (evE O a ρ S).bind fun x S1 => (evO O lo ρ S1).bind fun l S2 => (evO O hi ρ S2).bind fun h S3 => match der S3 x with
    | .lst xs => .ok (cutD xs l h) S3
    | .scr xs => .ok (cutD xs l h) S3
    | _ => .stuck
  | .zips a b, ρ, S => (evE O a ρ S).bind fun x S1 => (evE O b ρ S1).bind fun y S2 => match x, y with
    | .tup xs, .lst ys => .ok (pairsD xs ys) S2
    | _, _ => .stuck
def evI (O : Orc) : CI → Env → Sto → R Its
  | .seq a, ρ, S => (evE O a ρ S).bind fun x S1 => opt (seqD x) S1
  | .rng1 a, ρ, S => (evE O a ρ S).bind fun x S1 => match x with
    | .int j => if smallI j then .ok (.items (rngD 0 j)) S1 else .stuck
    | _ => .stuck
  | .rng2 a b, ρ, S => (evE O a ρ S).bind fun x S1 => (evE O b ρ S1).bind fun y S2 => match x, y with
    | .int i, .int j => if smallI i && smallI j then .ok (.items (rngD i j)) S2 else .stuck
    | _, _ => .stuck
  | .zip a b, ρ, S => (evE O a ρ S).bind fun x S1 => (evE O b ρ S1).bind fun y S2 => match x, y with
    | .tup xs, .tup ys => .ok (.items (pairsD xs ys)) S2
    | .lst xs, .lst ys => .ok (.items (pairsD xs ys)) S2
    | .tup xs, .lst ys => .ok (.items (pairsD xs ys)) S2
    | _, _ => .stuck
  | .enum a, ρ, S => (evE O a ρ S).bind fun x S1 => match x with
    | .lst xs => .ok (.items (enumD 0 xs)) S1
    | .tup xs => .ok (.items (enumD 0 xs)) S1
    | _ => .stuck
def evTg (O : Orc) : CTg → D → Env → Sto → R Env
  | .nm i, d, ρ, S => if i < ρ.length then .ok (ρ.set i (some d)) S else .stuck
  | .tp ts, d, ρ, S => match d with
    | .tup xs => if xs.length = cntT ts then evTgs O ts xs ρ S else .stuck
    | _ => .stuck
  | .sub a b, d, ρ, S => (evE O a ρ S).bind fun x S1 => (evE O b ρ S1).bind fun y S2 => match x, y with
    | .loc k, .int i => match S2[k]? with
      | some (.lst xs) => match L2.ixN xs.length i with
        | some j => .ok ρ (S2.set k (.lst (xs.set j d)))
        | none => .stuck
      | none => .stuck
    | _, _ => .stuck
def evTgs (O : Orc) : CTgs → List D → Env → Sto → R Env
  | .nil, [], ρ, S => .ok ρ S
  | .cons t r, d :: ds, ρ, S => (evTg O t d ρ S).bind fun ρ1 S1 => noX (evTgs O r ds ρ1 S1)
  | _, _, _, _ => .stuck
end
/-- the told value of an error, as a clause sees it -/
def evH (p : Option D) : HE → Option D
  | .cst c => some c.d
  | .fld => p
  | .tup es => (evHL p es).map .tup
where evHL (p : Option D) : List HE → Option (List D)
  | [] => some []
  | e :: r => match evH p e, evHL p r with
    | some a, some b => some (a :: b)
    | _, _ => none
/-- is an error of the class c caught by a clause that names k: sub tells the classes above -/
def catch_ (sub : Str → Str → Option Bool) (c : Str) (p : Option D) (S : Sto) : List Hd → R Out
  | [] => .exc c p S
  | h :: r => match sub c h.cls with
    | some true => (opt (evH p h.ret) S).bind fun d S1 => .ok (.rt d) S1
    | some false => catch_ sub c p S r
    | none => .stuck
def setAll (ρ : Env) : List Nat → List D → Option Env
  | [], [] => some ρ
  | i :: is, d :: ds => if i < ρ.length then setAll (ρ.set i (some d)) is ds else none
  | _, _ => none
mutual
def exS (sub : Str → Str → Option Bool) (O : Orc) : CS → Env → Sto → R Out
  | .asg tg e, ρ, S => (evE O e ρ S).bind fun d S1 => (evTg O tg d ρ S1).bind fun ρ1 S2 => .ok (.nx ρ1) S2
  | .par is es, ρ, S => (evEs O es ρ S).bind fun ds S1 => (opt (setAll ρ is ds) S1).bind fun ρ1 S2 => .ok (.nx ρ1) S2
  | .asgc m i f, ρ, S => (evF O f ρ S).bind fun xs S1 => if i < ρ.length then
      (if m then .ok (.nx (ρ.set i (some (.loc S1.length)))) (S1 ++ [.lst xs]) else .ok (.nx (ρ.set i (some (.lst xs)))) S1) else .stuck
  | .exp e, ρ, S => (evE O e ρ S).bind fun _ S1 => .ok (.nx ρ) S1
  | .ret e, ρ, S => (evE O e ρ S).bind fun d S1 => .ok (.rt d) S1
  | .retN, _, S => .ok (.rt .non) S
  | .ite t a b, ρ, S => (evT O t ρ S).bind fun k S1 => if k then exSs sub O a ρ S1 else exSs sub O b ρ S1
  | .forS tg it b, ρ, S => (evI O it ρ S).bind fun z S1 => match z with
    | .items l => forL (fun d ρ1 S2 => (evTg O tg d ρ1 S2).bind fun ρ2 S3 => exSs sub O b ρ2 S3) l ρ S1
    | .at_ k => match S1[k]? with
      | some (.lst xs) => forAt (fun d ρ1 S2 => (evTg O tg d ρ1 S2).bind fun ρ2 S3 => exSs sub O b ρ2 S3) k (xs.length + 1) 0 ρ S1
      | none => .stuck
  | .whl t b, ρ, S => whileL (fun ρ1 S1 => evT O t ρ1 S1) (fun ρ1 S1 => exSs sub O b ρ1 S1) O.W ρ S
  | .brk, ρ, S => .ok (.bk ρ) S
  | .cnt, ρ, S => .ok (.ct ρ) S
  | .pass, ρ, S => .ok (.nx ρ) S
  | .rse c, _, S => .exc c none S
  | .tryE r e hs, ρ, S => match evE O e ρ S with
    | .ok d S1 => .ok (if r then .rt d else .nx ρ) S1
    | .exc c p S1 => catch_ sub c p S1 hs
    | .stuck => .stuck
  | .app i e, ρ, S => match ρ[i]? with
    | some (some (.loc k)) => (evE O e ρ S).bind fun d S1 => match S1[k]? with
      | some (.lst xs) => if xs.length < sz then .ok (.nx ρ) (S1.set k (.lst (xs ++ [d]))) else .stuck
      | none => .stuck
    | _ => .stuck
  | .ext i e, ρ, S => match ρ[i]? with
    | some (some (.loc k)) => (evE O e ρ S).bind fun d S1 => match extL (der S1 d), S1[k]? with
      | some ys, some (.lst xs) => if xs.length + ys.length ≤ sz then .ok (.nx ρ) (S1.set k (.lst (xs ++ ys))) else .stuck
      | _, _ => .stuck
    | _ => .stuck
def exSs (sub : Str → Str → Option Bool) (O : Orc) : CSs → Env → Sto → R Out
  | .nil, ρ, S => .ok (.nx ρ) S
  | .cons s r, ρ, S => (exS sub O s ρ S).bind fun o S1 => match o with
    | .nx ρ1 => exSs sub O r ρ1 S1
    | o => .ok o S1
end
/-! ### functions -/
structure Fn where
  np : Nat
  ns : Nat
  keep : Bool
  body : CSs
/-- what stands beyond place n is taken along with a value -/
def frz (n : Nat) (S : Sto) : Nat → D → Option D
  | 0, _ => none
  | m + 1, d => match d with
    | .loc k => if k < n then some (.loc k) else match S[k]? with
      | some (.lst xs) => (xs.mapM (frz n S m)).map .lst
      | none => none
    | .tup xs => (xs.mapM (frz n S m)).map .tup
    | .lst xs => (xs.mapM (frz n S m)).map .lst
    | .scr xs => none
    | d => some d
mutual
def noloc : D → Bool
  | .loc _ => false
  | .tup xs => nolocL xs
  | .lst xs => nolocL xs
  | .scr xs => nolocL xs
  | _ => true
def nolocL : List D → Bool
  | [] => true
  | x :: xs => noloc x && nolocL xs
end
def shut (S : Sto) : Bool := S.all fun | .lst xs => nolocL xs
def leave (kp : Bool) (n : Nat) (d : D) (S : Sto) : R D := if kp = true ∨ S.length ≤ n then .ok d S else if shut (S.take n) then opt (frz n S 8 d) (S.take n) else .stuck
def okP : Option D → Bool
  | none => true
  | some d => flat d
def ends (kp : Bool) (n : Nat) (r : R Out) : R D := match r with
  | .ok (.rt d) S => leave kp n d S
  | .ok (.nx _) S => leave kp n .non S
  | .ok _ _ => .stuck
  | .exc c p S => if okP p then (if S.length ≤ n then .exc c p S else if shut (S.take n) then .exc c p (S.take n) else .stuck) else .stuck
  | .stuck => .stuck
/-- a function that calls the lambda it is given, first of all, in a try -/
structure GFn where
  isRet : Bool
  hs : List Hd
  ns : Nat
  rest : CSs
structure Prg where
  fns : List Fn
  gs : List GFn
  sub : Str → Str → Option Bool
def run (P : Prg) (O : Orc) (f : Nat) (as : List D) (S : Sto) : R D := match P.fns[f]? with
  | some d => if as.length = d.np then ends d.keep S.length (exSs P.sub O d.body (as.map some ++ List.replicate (d.ns - d.np) none) S) else .stuck
  | none => .stuck
def runG (P : Prg) (O : Orc) (g : Nat) (t : Sto → R D) (S : Sto) : R D := match P.gs[g]? with
  | some d => noX (ends false S.length (match t S with
    | .ok v S1 => if d.isRet then .ok (.rt v) S1 else exSs P.sub O d.rest (List.replicate d.ns none) S1
    | .exc c p S1 => catch_ P.sub c p S1 d.hs
    | .stuck => .stuck))
  | none => .stuck
structure Lv where
  call : Nat → List D → Sto → R D
  lam : Nat → (Sto → R D) → Sto → R D
def lv (P : Prg) (W : Nat) : Nat → Lv
  | 0 => ⟨fun _ _ _ => .stuck, fun _ _ _ => .stuck⟩
  | n + 1 => ⟨fun f as S => run P ⟨(lv P W n).call, (lv P W n).lam, W⟩ f as S,
      fun g t S => runG P ⟨(lv P W n).call, (lv P W n).lam, W⟩ g t S⟩
end Gx
set_option Elab.async false
set_option linter.all false
set_option maxRecDepth 100000
/-! Gx: how values and the store lie in the abstract heap. -/
namespace Gx
open PySem PySem.Spec PyProof.Rows L2
structure Gl where
  K : PySem.W.Frag
  mg : Str → Option Value
  names : List Str
  T : List (Addr × Str)
  rps : List Nat
mutual
def Rep (G : Gl) (F : Hp) (ι : List Addr) : D → V → Prop
  | .non, v => v = .non
  | .bl b, v => v = .bl b
  | .int i, v => v = .int i
  | .str x, v => v = .str x
  | .tup xs, v => ∃ a vs, v = .ref a ∧ SqT G.K F a vs ∧ RepL G F ι xs vs
  | .lst xs, v => ∃ a vs, v = .ref a ∧ F a = some (.lst vs) ∧ RepL G F ι xs vs
  | .scr xs, v => ∃ a vs, v = .ref a ∧ SqL G.K F a vs ∧ RepL G F ι xs vs
  | .loc k, v => ∃ a, v = .ref a ∧ ι[k]? = some a
  | .fn f, v => ∃ x a, G.names[f]? = some x ∧ v = .ref a ∧ G.mg x = some (.ref a)
  | .ty n, v => v = .ty n
def RepL (G : Gl) (F : Hp) (ι : List Addr) : List D → List V → Prop
  | [], vs => vs = []
  | x :: xs, vs => ∃ w ws, vs = w :: ws ∧ Rep G F ι x w ∧ RepL G F ι xs ws
end
theorem SqT.fmono {K : PySem.W.Frag} {F F' : Hp} {a : Addr} {vs : List V} (h : ∀ b o, F b = some o → F' b = some o) (q : SqT K F a vs) : SqT K F' a vs := by
  rcases q with (q | ⟨o, q⟩) | q
  · exact .inl (.inl (h _ _ q))
  · exact .inl (.inr ⟨o, h _ _ q⟩)
  · exact .inr q
theorem SqL.fmono {K : PySem.W.Frag} {F F' : Hp} {a : Addr} {vs : List V} (h : ∀ b o, F b = some o → F' b = some o) (q : SqL K F a vs) : SqL K F' a vs := by
  rcases q with (q | ⟨o, q⟩) | q
  · exact .inl (.inl (h _ _ q))
  · exact .inl (.inr ⟨o, h _ _ q⟩)
  · exact .inr q
mutual
theorem Rep.mono {G : Gl} {F F' : Hp} {ι ι' : List Addr} (hf : ∀ b o, F b = some o → F' b = some o) (hi : ∀ (k : Nat) (a : Addr), ι[k]? = some a → ι'[k]? = some a) : ∀ (d : D) (v : V), Rep G F ι d v → Rep G F' ι' d v
  | .non, _, h => h
  | .bl _, _, h => h
  | .int _, _, h => h
  | .str _, _, h => h
  | .tup xs, v, h => by
    obtain ⟨a, vs, e, q, r⟩ := h
    exact ⟨a, vs, e, SqT.fmono hf q, RepL.mono hf hi xs vs r⟩
  | .lst xs, v, h => by
    obtain ⟨a, vs, e, q, r⟩ := h
    exact ⟨a, vs, e, hf _ _ q, RepL.mono hf hi xs vs r⟩
  | .scr xs, v, h => by
    obtain ⟨a, vs, e, q, r⟩ := h
    exact ⟨a, vs, e, SqL.fmono hf q, RepL.mono hf hi xs vs r⟩
  | .loc k, v, h => by
    obtain ⟨a, e, q⟩ := h
    exact ⟨a, e, hi _ _ q⟩
  | .fn _, _, h => h
  | .ty _, _, h => h
theorem RepL.mono {G : Gl} {F F' : Hp} {ι ι' : List Addr} (hf : ∀ b o, F b = some o → F' b = some o) (hi : ∀ (k : Nat) (a : Addr), ι[k]? = some a → ι'[k]? = some a) : ∀ (ds : List D) (vs : List V), RepL G F ι ds vs → RepL G F' ι' ds vs
  | [], _, h => h
  | x :: xs, _, h => by
    obtain ⟨w, ws, e, q, r⟩ := h
    exact ⟨w, ws, e, Rep.mono hf hi x w q, RepL.mono hf hi xs ws r⟩
end
theorem RepL.length {G : Gl} {F : Hp} {ι : List Addr} : ∀ {ds : List D} {vs : List V}, RepL G F ι ds vs → ds.length = vs.length
  | [], _, h => by cases (show _ = _ from h); rfl
  | x :: xs, _, h => by
    obtain ⟨w, ws, rfl, _, r⟩ := h
    simp [RepL.length r]
theorem RepL.nil_iff {G : Gl} {F : Hp} {ι : List Addr} {ds : List D} {vs : List V} (h : RepL G F ι ds vs) : vs = [] ↔ ds = [] := by
  have := h.length
  constructor
  · intro e; subst e; exact List.length_eq_zero_iff.mp (by simpa using this)
  · intro e; subst e; exact h
theorem RepL.get {G : Gl} {F : Hp} {ι : List Addr} : ∀ {ds : List D} {vs : List V} {i : Nat} {d : D}, RepL G F ι ds vs → ds[i]? = some d → ∃ v, vs[i]? = some v ∧ Rep G F ι d v
  | [], _, _, _, _, e => by simp at e
  | x :: xs, _, 0, d, h, e => by
    obtain ⟨w, ws, rfl, q, r⟩ := h
    simp at e; subst e
    exact ⟨w, rfl, q⟩
  | x :: xs, _, i + 1, d, h, e => by
    obtain ⟨w, ws, rfl, q, r⟩ := h
    obtain ⟨v, e1, q1⟩ := RepL.get (i := i) r (by simpa using e)
    exact ⟨v, by simpa using e1, q1⟩
theorem RepL.append {G : Gl} {F : Hp} {ι : List Addr} : ∀ {as bs : List D} {us ws : List V}, RepL G F ι as us → RepL G F ι bs ws → RepL G F ι (as ++ bs) (us ++ ws)
  | [], _, _, _, h, q => by cases (show _ = _ from h); exact q
  | x :: xs, _, _, _, h, q => by
    obtain ⟨w, ws, rfl, a, r⟩ := h
    exact ⟨w, _, rfl, a, RepL.append r q⟩
theorem RepL.snoc {G : Gl} {F : Hp} {ι : List Addr} {as : List D} {us : List V} {d : D} {v : V} (h : RepL G F ι as us) (q : Rep G F ι d v) : RepL G F ι (as ++ [d]) (us ++ [v]) := h.append ⟨v, [], rfl, q, rfl⟩
theorem RepL.take {G : Gl} {F : Hp} {ι : List Addr} : ∀ (n : Nat) {as : List D} {us : List V}, RepL G F ι as us → RepL G F ι (as.take n) (us.take n)
  | 0, _, _, _ => by simp [RepL]
  | n + 1, [], _, h => by cases (show _ = _ from h); simp [RepL]
  | n + 1, x :: xs, _, h => by
    obtain ⟨w, ws, rfl, a, r⟩ := h
    exact ⟨w, _, rfl, a, RepL.take n r⟩
theorem RepL.drop {G : Gl} {F : Hp} {ι : List Addr} : ∀ (n : Nat) {as : List D} {us : List V}, RepL G F ι as us → RepL G F ι (as.drop n) (us.drop n)
  | 0, _, _, h => h
  | n + 1, [], _, h => by cases (show _ = _ from h); simp [RepL]
  | n + 1, x :: xs, _, h => by
    obtain ⟨w, ws, rfl, a, r⟩ := h
    exact RepL.drop n r
theorem RepL.set {G : Gl} {F : Hp} {ι : List Addr} {d : D} {v : V} (q : Rep G F ι d v) : ∀ {as : List D} {us : List V} (i : Nat), RepL G F ι as us → RepL G F ι (as.set i d) (us.set i v)
  | [], _, _, h => by cases (show _ = _ from h); simp [RepL]
  | x :: xs, _, 0, h => by
    obtain ⟨w, ws, rfl, a, r⟩ := h
    exact ⟨v, ws, rfl, q, r⟩
  | x :: xs, _, i + 1, h => by
    obtain ⟨w, ws, rfl, a, r⟩ := h
    exact ⟨w, _, rfl, a, RepL.set q i r⟩
theorem RepL.rep {G : Gl} {F : Hp} {ι : List Addr} {as : List D} {us : List V} (h : RepL G F ι as us) : ∀ n : Nat, RepL G F ι (List.replicate n as).flatten (List.replicate n us).flatten
  | 0 => rfl
  | n + 1 => by
    rw [List.replicate_succ, List.replicate_succ, List.flatten_cons, List.flatten_cons]
    exact h.append (RepL.rep h n)
theorem RepL.cutD {G : Gl} {F : Hp} {ι : List Addr} {as : List D} {us : List V} (h : RepL G F ι as us) (lo hi : Option Int) : RepL G F ι (Gx.cutD as lo hi) (cutV us lo hi) := by
  unfold Gx.cutD cutV
  rw [h.length]
  exact (h.drop _).take _
/-! ### the state -/
def ObR (G : Gl) (F : Hp) (ι : List Addr) (H : Hp) (a : Addr) : Ob → Prop
  | .lst xs => ∃ vs, H a = some (.lst vs) ∧ RepL G F ι xs vs
structure RL (G : Gl) (S : Sto) (F : Hp) (ι : List Addr) (H : Hp) : Prop where
  sub : ∀ a o, F a = some o → H a = some o
  ft : ∀ a ps, F a ≠ some (.tbl ps)
  len : ι.length = S.length
  nd : ι.Nodup
  out : ∀ a ∈ ι, F a = none
  obj : ∀ (k : Nat) (a : Addr) (o : Ob), ι[k]? = some a → S[k]? = some o → ObR G F ι H a o
  tabs : LamX.Tabs G.T H
/-- nothing stands there but perhaps a table -/
def Frs (H : Hp) (a : Addr) : Prop := ∀ o, H a = some o → ∃ ps, o = .tbl ps
theorem frs_none {H : Hp} {a : Addr} (h : H a = none) : Frs H a := fun o e => by rw [h] at e; cases e
structure Ext (F : Hp) (ι : List Addr) (H : Hp) (F' : Hp) (ι' : List Addr) (H' : Hp) : Prop where
  f : ∀ a o, F a = some o → F' a = some o
  i : ∃ more, ι' = ι ++ more ∧ ∀ a ∈ more, Frs H a
  h : ∀ b o, H b = some o → b ∉ ι → (∀ ps, o ≠ .tbl ps) → H' b = some o
  g : ∀ a o, F' a = some o → F a = some o ∨ Frs H a
theorem Ext.refl {F : Hp} {ι : List Addr} {H : Hp} : Ext F ι H F ι H :=
  ⟨fun _ _ h => h, ⟨[], by simp, by simp⟩, fun _ _ h _ _ => h, fun _ _ h => .inl h⟩
theorem RL.tracked {G : Gl} {S : Sto} {F : Hp} {ι : List Addr} {H : Hp} (r : RL G S F ι H) {a : Addr} (h : a ∈ ι) : ∃ vs, H a = some (.lst vs) := by
  obtain ⟨k, hk, e⟩ := List.mem_iff_getElem.mp h
  have e1 : ι[k]? = some a := by rw [List.getElem?_eq_getElem hk, e]
  have hk2 : k < S.length := by rw [← r.len]; exact hk
  have := r.obj k a S[k] e1 (List.getElem?_eq_getElem hk2)
  cases q : S[k] with
  | lst xs =>
    rw [q] at this
    obtain ⟨vs, h1, _⟩ := this
    exact ⟨vs, h1⟩
theorem Ext.none_of {G : Gl} {S' : Sto} {F F' : Hp} {ι ι' : List Addr} {H H' : Hp} (e : Ext F ι H F' ι' H') (r : RL G S' F' ι' H') {a : Addr} (h : Frs H' a) : Frs H a := fun o q => by
  by_cases hi : a ∈ ι
  · obtain ⟨more, e1, _⟩ := e.i
    obtain ⟨vs, z⟩ := r.tracked (a := a) (by rw [e1]; exact List.mem_append_left _ hi)
    obtain ⟨ps, z2⟩ := h _ z
    cases z2
  · cases o with
    | tbl ps => exact ⟨ps, rfl⟩
    | _ => exact h _ (e.h a _ q hi (by intro ps z; cases z))
theorem Ext.trans {G : Gl} {S1 : Sto} {F F1 F2 : Hp} {ι ι1 ι2 : List Addr} {H H1 H2 : Hp} (a : Ext F ι H F1 ι1 H1) (r : RL G S1 F1 ι1 H1) (b : Ext F1 ι1 H1 F2 ι2 H2) : Ext F ι H F2 ι2 H2 := by
  obtain ⟨m1, e1, n1⟩ := a.i
  obtain ⟨m2, e2, n2⟩ := b.i
  refine ⟨fun c o h => b.f c o (a.f c o h), ⟨m1 ++ m2, by rw [e2, e1, List.append_assoc], fun c hc => ?_⟩, fun c o h hi ht => ?_, fun c o h => ?_⟩
  · rcases List.mem_append.mp hc with z | z
    · exact n1 c z
    · exact a.none_of r (n2 c z)
  · refine b.h c o (a.h c o h hi ht) (fun z => ?_) ht
    rw [e1] at z
    rcases List.mem_append.mp z with z | z
    · exact hi z
    · obtain ⟨ps, q⟩ := n1 c z o h
      exact ht ps q
  · rcases b.g c o h with z | z
    · exact a.g c o z
    · exact .inr (a.none_of r z)
theorem Ext.ix {F F' : Hp} {ι ι' : List Addr} {H H' : Hp} (e : Ext F ι H F' ι' H') : ∀ (k : Nat) (a : Addr), ι[k]? = some a → ι'[k]? = some a := fun k a h => by
  obtain ⟨m, e1, _⟩ := e.i
  rw [e1, List.getElem?_append_left (List.getElem?_eq_some_iff.mp h).1]
  exact h
theorem Ext.rep {G : Gl} {F F' : Hp} {ι ι' : List Addr} {H H' : Hp} (e : Ext F ι H F' ι' H') {d : D} {v : V} (h : Rep G F ι d v) : Rep G F' ι' d v := Rep.mono e.f e.ix d v h
theorem Ext.repL {G : Gl} {F F' : Hp} {ι ι' : List Addr} {H H' : Hp} (e : Ext F ι H F' ι' H') {d : List D} {v : List V} (h : RepL G F ι d v) : RepL G F' ι' d v := RepL.mono e.f e.ix d v h
/-! ### new things -/
section
variable {G : Gl} {S : Sto} {F : Hp} {ι : List Addr} {H : Hp} {p : Addr}
theorem RL.fnone (r : RL G S F ι H) (hp : H p = none) : F p = none := by
  cases q : F p with
  | none => rfl
  | some o => rw [r.sub _ _ q] at hp; cases hp
theorem RL.notIn (r : RL G S F ι H) (hp : H p = none) : p ∉ ι := fun h => by
  obtain ⟨vs, z⟩ := r.tracked h
  rw [hp] at z; cases z
theorem tabs_keep {T : List (Addr × Str)} {H H' : Hp} (h : LamX.Tabs T H) (k : ∀ b o, H b = some o → H' b = some o) : LamX.Tabs T H' := h.ext k
theorem upd_keep {o : HO} (hp : H p = none) : ∀ b u, H b = some u → upd H p o b = some u := fun b u h => by
  rw [upd_ne (ne_of_none h hp)]; exact h
/-- a new frozen thing -/
theorem RL.frz (r : RL G S F ι H) (hp : H p = none) (o : HO) (ho : ∀ ps, o ≠ .tbl ps) : Ext F ι H (upd F p o) ι (upd H p o) ∧ RL G S (upd F p o) ι (upd H p o) := by
  have fp := r.fnone hp
  have pn := r.notIn hp
  refine ⟨⟨fun a u h => upd_keep fp a u h, ⟨[], by simp, by simp⟩, fun b u h _ _ => upd_keep hp b u h, fun a u h => ?_⟩, ⟨fun a u h => ?_, fun a ps h => ?_, r.len, r.nd, fun a ha => ?_, fun k a u h1 h2 => ?_, tabs_keep r.tabs (upd_keep hp)⟩⟩
  · by_cases e : a = p
    · subst e; exact .inr (frs_none hp)
    · rw [upd_ne e] at h; exact .inl h
  · by_cases e : a = p
    · subst e; rw [upd_same] at h ⊢; exact h
    · rw [upd_ne e] at h ⊢; exact r.sub _ _ h
  · by_cases e : a = p
    · subst e; rw [upd_same] at h; exact ho ps (Option.some.inj h)
    · rw [upd_ne e] at h; exact r.ft _ _ h
  · have e : a ≠ p := fun e => pn (e ▸ ha)
    rw [upd_ne e]; exact r.out a ha
  · have := r.obj k a u h1 h2
    cases u with
    | lst xs =>
      obtain ⟨vs, q1, q2⟩ := this
      exact ⟨vs, upd_keep hp _ _ q1, RepL.mono (upd_keep fp) (fun _ _ h => h) _ _ q2⟩
/-- a new list that may change -/
theorem RL.new (r : RL G S F ι H) (hp : H p = none) {xs : List D} {vs : List V} (q : RepL G F ι xs vs) : Ext F ι H F (ι ++ [p]) (upd H p (.lst vs)) ∧ RL G (S ++ [.lst xs]) F (ι ++ [p]) (upd H p (.lst vs)) := by
  have fp := r.fnone hp
  have pn := r.notIn hp
  have ix : ∀ (k : Nat) (a : Addr), ι[k]? = some a → (ι ++ [p])[k]? = some a := fun k a h => by
    rw [List.getElem?_append_left (List.getElem?_eq_some_iff.mp h).1]; exact h
  refine ⟨⟨fun a u h => h, ⟨[p], rfl, by simpa using frs_none hp⟩, fun b u h _ _ => upd_keep hp b u h, fun a u h => .inl h⟩, ⟨fun a u h => upd_keep hp _ _ (r.sub _ _ h), r.ft, by simp [r.len], ?_, fun a ha => ?_, fun k a u h1 h2 => ?_, tabs_keep r.tabs (upd_keep hp)⟩⟩
  · rw [List.nodup_append]
    exact ⟨r.nd, by simp, fun a ha b hb e => pn (by simp at hb; rw [← hb, ← e]; exact ha)⟩
  · rcases List.mem_append.mp ha with z | z
    · exact r.out a z
    · simp at z; subst z; exact fp
  · by_cases hk : k < ι.length
    · rw [List.getElem?_append_left hk] at h1
      rw [List.getElem?_append_left (by rw [← r.len]; exact hk)] at h2
      have := r.obj k a u h1 h2
      cases u with
      | lst xs =>
        obtain ⟨vs, q1, q2⟩ := this
        exact ⟨vs, upd_keep hp _ _ q1, RepL.mono (fun _ _ h => h) ix _ _ q2⟩
    · have hk1 : k = ι.length := by
        have := (List.getElem?_eq_some_iff.mp h1).1
        simp at this; omega
      subst hk1
      rw [List.getElem?_append_right (Nat.le_refl _)] at h1
      rw [r.len, List.getElem?_append_right (Nat.le_refl _)] at h2
      simp at h1 h2
      subst h1 h2
      exact ⟨vs, upd_same, RepL.mono (fun _ _ h => h) ix _ _ q⟩
/-- a list is changed -/
theorem RL.wr (r : RL G S F ι H) {k : Nat} {a : Addr} (hk : ι[k]? = some a) {xs : List D} {vs : List V} (q : RepL G F ι xs vs) : Ext F ι H F ι (upd H a (.lst vs)) ∧ RL G (S.set k (.lst xs)) F ι (upd H a (.lst vs)) := by
  have ha : a ∈ ι := List.mem_of_getElem? hk
  obtain ⟨vs0, tr⟩ := r.tracked ha
  have fa := r.out a ha
  refine ⟨⟨fun a u h => h, ⟨[], by simp, by simp⟩, fun b u h hi _ => ?_, fun a u h => .inl h⟩, ⟨fun b u h => ?_, r.ft, by simp [r.len], r.nd, r.out, fun j b u h1 h2 => ?_, fun p hp => ?_⟩⟩
  · rw [upd_ne (fun e => hi (by rw [e]; exact ha))]; exact h
  · rw [upd_ne (fun e => by rw [e, fa] at h; cases h)]; exact r.sub _ _ h
  · by_cases e : j = k
    · subst e
      rw [hk] at h1; cases h1
      rw [List.getElem?_set_self (by rw [← r.len]; exact (List.getElem?_eq_some_iff.mp hk).1)] at h2
      cases h2
      exact ⟨vs, upd_same, q⟩
    · rw [List.getElem?_set_ne (Ne.symm e)] at h2
      have ne : b ≠ a := fun z => e (by
        obtain ⟨k1, z1⟩ := List.getElem?_eq_some_iff.mp h1
        obtain ⟨k2, z2⟩ := List.getElem?_eq_some_iff.mp hk
        exact (List.getElem_inj r.nd).mp (z1.trans (z.trans z2.symm)))
      have := r.obj j b u h1 h2
      cases u with
      | lst ys =>
        obtain ⟨ws, q1, q2⟩ := this
        exact ⟨ws, by rw [upd_ne ne]; exact q1, q2⟩
  · obtain ⟨ps, a1, a2, a3⟩ := r.tabs p hp
    refine ⟨ps, by rw [upd_ne (fun e => by rw [e, tr] at a1; cases a1)]; exact a1, a2, fun pos cv hc => ?_⟩
    obtain ⟨c, e1, e2⟩ := a3 pos cv hc
    exact ⟨c, e1, by rw [upd_ne (fun e => by rw [e, tr] at e2; unfold LamX.CodeO at e2; cases e2)]; exact e2⟩
/-- a list read -/
theorem RL.loc (r : RL G S F ι H) {k : Nat} {a : Addr} {xs : List D} (hk : ι[k]? = some a) (hs : S[k]? = some (.lst xs)) : ∃ vs, H a = some (.lst vs) ∧ RepL G F ι xs vs := r.obj k a _ hk hs
/-- what is read of a value -/
def RepH (G : Gl) (F : Hp) (ι : List Addr) (H : Hp) : D → V → Prop
  | .lst xs, v => ∃ a vs, v = .ref a ∧ H a = some (.lst vs) ∧ RepL G F ι xs vs
  | d, v => Rep G F ι d v
theorem RL.der (r : RL G S F ι H) {d : D} {v : V} (h : Rep G F ι d v) : RepH G F ι H (Gx.der S d) v := by
  cases d with
  | loc k =>
    obtain ⟨a, e, q⟩ := h
    cases hs : S[k]? with
    | none =>
      have e1 : Gx.der S (.loc k) = .loc k := by simp only [Gx.der, hs]
      rw [e1]
      exact ⟨a, e, q⟩
    | some o =>
      cases o with
      | lst xs =>
        have e1 : Gx.der S (.loc k) = .lst xs := by simp only [Gx.der, hs]
        rw [e1]
        obtain ⟨vs, z1, z2⟩ := r.loc q hs
        exact ⟨a, vs, e, z1, z2⟩
  | lst xs =>
    obtain ⟨a, vs, e, q, z⟩ := h
    exact ⟨a, vs, e, r.sub _ _ q, z⟩
  | _ => exact h
theorem RL.sqT (r : RL G S F ι H) {a : Addr} {vs : List V} (h : SqT G.K F a vs) : SqT G.K H a vs := SqT.fmono r.sub h
theorem RL.sqL (r : RL G S F ι H) {a : Addr} {vs : List V} (h : SqL G.K F a vs) : SqL G.K H a vs := SqL.fmono r.sub h
end
/-! ### data -/
mutual
theorem dp_of {G : Gl} {S : Sto} {F : Hp} {ι : List Addr} {H : Hp} (r : RL G S F ι H) : ∀ (d : D) (v : V) (p : PyData), Rep G F ι d v → toPy d = some p → Dp G.K H v p
  | .non, v, p, h, e => by cases (show _ = _ from h); cases e; exact .non
  | .bl b, v, p, h, e => by cases (show _ = _ from h); cases e; exact .bl b
  | .int i, v, p, h, e => by cases (show _ = _ from h); cases e; exact .int i
  | .str x, v, p, h, e => by cases (show _ = _ from h); cases e; exact .str x
  | .tup xs, v, p, h, e => by
    obtain ⟨a, vs, rfl, q, z⟩ := h
    simp only [toPy, Option.map_eq_some_iff] at e
    obtain ⟨ps, e1, rfl⟩ := e
    exact .tup (r.sqT q) (dp_ofL r xs vs ps z e1)
  | .lst xs, v, p, h, e => by
    obtain ⟨a, vs, rfl, q, z⟩ := h
    simp only [toPy, Option.map_eq_some_iff] at e
    obtain ⟨ps, e1, rfl⟩ := e
    exact .lst (SqL.of (r.sub _ _ q)) (dp_ofL r xs vs ps z e1)
  | .scr _, _, _, _, e => by simp [toPy] at e
  | .loc _, _, _, _, e => by simp [toPy] at e
  | .fn _, _, _, _, e => by simp [toPy] at e
  | .ty _, _, _, _, e => by simp [toPy] at e
theorem dp_ofL {G : Gl} {S : Sto} {F : Hp} {ι : List Addr} {H : Hp} (r : RL G S F ι H) : ∀ (ds : List D) (vs : List V) (ps : List PyData), RepL G F ι ds vs → toPyL ds = some ps → DpAll G.K H vs ps
  | [], vs, ps, h, e => by cases (show _ = _ from h); cases e; exact .nil
  | x :: xs, vs, ps, h, e => by
    obtain ⟨w, ws, rfl, q, z⟩ := h
    simp only [toPyL] at e
    split at e
    · rename_i a b e1 e2
      cases e
      exact .cons (dp_of r x w a q e1) (dp_ofL r xs ws b z e2)
    · cases e
end
theorem dp_der {G : Gl} {S : Sto} {F : Hp} {ι : List Addr} {H : Hp} (r : RL G S F ι H) {d : D} {v : V} {p : PyData} (h : RepH G F ι H d v) (e : toPy d = some p) : Dp G.K H v p := by
  cases d with
  | lst xs =>
    obtain ⟨a, vs, rfl, q, z⟩ := h
    simp only [toPy, Option.map_eq_some_iff] at e
    obtain ⟨ps, e1, rfl⟩ := e
    exact .lst (SqL.of q) (dp_ofL r xs vs ps z e1)
  | _ => exact dp_of r _ _ _ h e
end Gx
set_option Elab.async false
set_option linter.all false
set_option maxRecDepth 100000
set_option maxHeartbeats 1000000
/-! Gx: the operations of the evaluator keep to the machine. -/
namespace Gx
open PySem PySem.Spec PyProof.Rows L2
theorem sz_eq : sz = sizeLine := by rw [sizeLine_eq]; rfl
/-- a value is handed on, whatever was newly laid -/
def Goes (G : Gl) (S : Sto) (F : Hp) (ι : List Addr) (H : Hp) (d : D) (Q : VK) : Prop :=
  ∀ F' H' v, Ext F ι H F' ι H' → RL G S F' ι H' → Rep G F' ι d v → Q v H'
section
variable {G : Gl} {S : Sto} {F : Hp} {ι : List Addr} {H : Hp} {Q : VK} {d : D} {v : V}
theorem Goes.here (k : Goes G S F ι H d Q) (r : RL G S F ι H) (h : Rep G F ι d v) : Q v H := k F H v Ext.refl r h
theorem Goes.tup {xs : List D} {vs : List V} {p : Addr} (k : Goes G S F ι H (.tup xs) Q) (r : RL G S F ι H) (hp : H p = none) (h : RepL G F ι xs vs) : Q (.ref p) (upd H p (.tup vs)) := by
  obtain ⟨e, r'⟩ := r.frz hp (.tup vs) (fun _ z => by cases z)
  exact k _ _ _ e r' ⟨p, vs, rfl, SqT.of upd_same, e.repL h⟩
theorem Goes.lst {xs : List D} {vs : List V} {p : Addr} (k : Goes G S F ι H (.lst xs) Q) (r : RL G S F ι H) (hp : H p = none) (h : RepL G F ι xs vs) : Q (.ref p) (upd H p (.lst vs)) := by
  obtain ⟨e, r'⟩ := r.frz hp (.lst vs) (fun _ z => by cases z)
  exact k _ _ _ e r' ⟨p, vs, rfl, upd_same, e.repL h⟩
end
variable {X : Cx} {G : Gl}
/-! ### two-place operators -/
def rB (G : Gl) (op : Operator) : R2 := fun x y H Q => ∃ dx dy S F ι d, RL G S F ι H ∧ Rep G F ι dx x ∧ Rep G F ι dy y ∧ bopD op dx dy = some d ∧ Goes G S F ι H d Q
theorem b_add (hK : X.K = G.K) : OpR X (binaryOp .Add) (rB G .Add) := by
  intro pins s σ H x y v u Q I rx ry ⟨dx, dy, S, F, ι, d, r, h1, h2, e, k⟩
  cases dx <;> cases dy <;> simp only [bopD] at e <;> try (cases e; done)
  · cases e
    exact op_add pins s σ H x y v u Q I rx ry ⟨_, _, h1, h2, k.here r rfl⟩
  · split at e
    · cases e
      exact op_add_str pins s σ H x y v u Q I rx ry ⟨_, _, h1, h2, by rw [← sz_eq]; assumption, k.here r rfl⟩
    · cases e
  · rename_i as bs
    split at e
    · rename_i hz
      cases e
      obtain ⟨a, us, e1, q1, l1⟩ := h1
      obtain ⟨b, ws, e2, q2, l2⟩ := h2
      refine op_catA pins s σ H x y v u Q I rx ry ⟨a, b, us, ws, e1, e2, by rw [hK]; exact r.sqT q1, by rw [hK]; exact r.sqT q2, by rw [← l1.length, ← l2.length, ← sz_eq]; exact hz, fun e0 => ?_, fun e0 e3 => ?_, fun _ _ p hp => ?_⟩
      · have := l1.nil_iff.mp e0; subst this
        exact k.here r ⟨b, ws, rfl, q2, l2⟩
      · have := l2.nil_iff.mp e3; subst this
        rw [List.append_nil] at k
        exact k.here r ⟨a, us, rfl, q1, l1⟩
      · exact k.tup r hp (l1.append l2)
    · cases e
theorem b_sub : OpR X (binaryOp .Sub) (rB G .Sub) := by
  intro pins s σ H x y v u Q I rx ry ⟨dx, dy, S, F, ι, d, r, h1, h2, e, k⟩
  cases dx <;> cases dy <;> simp only [bopD] at e <;> try (cases e; done)
  cases e
  exact op_sub pins s σ H x y v u Q I rx ry ⟨_, _, h1, h2, k.here r rfl⟩
theorem mulOk_c {i j : Int} (h : mulOk i j = true) : CMul i j := by
  unfold mulOk at h
  simp only [Bool.or_eq_true, Bool.and_eq_true, decide_eq_true_eq] at h
  rcases h with h | h
  · exact .inl (by omega)
  · exact .inr (by omega)
theorem powOk_c {i j : Int} (h : powOk i j = true) : CPow i j := by
  unfold powOk at h
  simp only [Bool.and_eq_true, decide_eq_true_eq] at h
  exact ⟨h.1.1, h.1.2, by have := h.2; omega⟩
theorem b_fdiv : OpR X (binaryOp .FloorDiv) (rB G .FloorDiv) := by
  intro pins s σ H x y v u Q I rx ry ⟨dx, dy, S, F, ι, d, r, h1, h2, e, k⟩
  cases dx <;> cases dy <;> simp only [bopD] at e <;> try (cases e; done)
  rename_i i j
  split at e
  · rename_i hc
    cases e
    exact op_fdivW pins s σ H x y v u Q I rx ry ⟨i, j, h1, h2, wide_div (b := 256) hc.1 (by have := hc.2; omega) (by decide) (by decide), k.here r rfl⟩
  · cases e
theorem b_mod : OpR X (binaryOp .Mod) (rB G .Mod) := by
  intro pins s σ H x y v u Q I rx ry ⟨dx, dy, S, F, ι, d, r, h1, h2, e, k⟩
  cases dx <;> cases dy <;> simp only [bopD] at e <;> try (cases e; done)
  rename_i i j
  split at e
  · rename_i hc
    cases e
    exact op_mod pins s σ H x y v u Q I rx ry ⟨i, j, h1, h2, hc, k.here r rfl⟩
  · cases e
theorem b_pow : OpR X (binaryOp .Pow) (rB G .Pow) := by
  intro pins s σ H x y v u Q I rx ry ⟨dx, dy, S, F, ι, d, r, h1, h2, e, k⟩
  cases dx <;> cases dy <;> simp only [bopD] at e <;> try (cases e; done)
  rename_i i j
  split at e
  · rename_i hc
    cases e
    exact op_pow pins s σ H x y v u Q I rx ry ⟨i, j, h1, h2, powOk_c hc, k.here r rfl⟩
  · cases e
theorem b_shl : OpR X (binaryOp .LShift) (rB G .LShift) := by
  intro pins s σ H x y v u Q I rx ry ⟨dx, dy, S, F, ι, d, r, h1, h2, e, k⟩
  cases dx <;> cases dy <;> simp only [bopD] at e <;> try (cases e; done)
  rename_i i j
  split at e
  · rename_i hc
    cases e
    exact op_shl pins s σ H x y v u Q I rx ry ⟨i, j, h1, h2, powOk_c hc, k.here r rfl⟩
  · cases e
theorem b_shr : OpR X (binaryOp .RShift) (rB G .RShift) := by
  intro pins s σ H x y v u Q I rx ry ⟨dx, dy, S, F, ι, d, r, h1, h2, e, k⟩
  cases dx <;> cases dy <;> simp only [bopD] at e <;> try (cases e; done)
  rename_i i j
  split at e
  · rename_i hc
    cases e
    exact op_shr pins s σ H x y v u Q I rx ry ⟨i, j, h1, h2, hc, k.here r rfl⟩
  · cases e
theorem b_and : OpR X (binaryOp .BitAnd) (rB G .BitAnd) := by
  intro pins s σ H x y v u Q I rx ry ⟨dx, dy, S, F, ι, d, r, h1, h2, e, k⟩
  cases dx <;> cases dy <;> simp only [bopD] at e <;> try (cases e; done)
  cases e
  exact op_and pins s σ H x y v u Q I rx ry ⟨_, _, h1, h2, k.here r rfl⟩
theorem b_xor : OpR X (binaryOp .BitXor) (rB G .BitXor) := by
  intro pins s σ H x y v u Q I rx ry ⟨dx, dy, S, F, ι, d, r, h1, h2, e, k⟩
  cases dx <;> cases dy <;> simp only [bopD] at e <;> try (cases e; done)
  cases e
  exact op_xor pins s σ H x y v u Q I rx ry ⟨_, _, h1, h2, k.here r rfl⟩
theorem b_none {op : Operator} (h : ∀ dx dy, bopD op dx dy = none) : OpR X (binaryOp op) (rB G op) := by
  intro pins s σ H x y v u Q I rx ry ⟨dx, dy, S, F, ι, d, r, h1, h2, e, k⟩
  rw [h] at e; cases e
/-! ### comparisons -/
def rC (G : Gl) (op : CmpOp) : R2 := fun x y H Q => ∃ dx dy S F ι k, RL G S F ι H ∧ Rep G F ι dx x ∧ Rep G F ι dy y ∧ cmpD op (der S dx) (der S dy) = some k ∧ Q (.bl k) H
theorem c_eqD {x y : V} {H : Hp} {dx dy : D} {S : Sto} {F : Hp} {ι : List Addr} {k : Bool} (r : RL G S F ι H) (h1 : Rep G F ι dx x) (h2 : Rep G F ι dy y) (e : eqP (der S dx) (der S dy) = some k) :
    ∃ p q, Dp G.K H x p ∧ Dp G.K H y q ∧ SeqAt.shaped p = true ∧ SeqAt.shaped q = true ∧ k = PyData.eqv p q := by
  unfold eqP at e
  split at e
  · rename_i a b e1 e2
    split at e
    · rename_i hs
      rw [Bool.and_eq_true] at hs
      cases e
      exact ⟨a, b, dp_der r (r.der h1) e1, dp_der r (r.der h2) e2, hs.1, hs.2, rfl⟩
    · cases e
  · cases e
theorem c_eq (hK : X.K = G.K) (hu : X.A.units + 64 < cLine) : OpR X (compareOp .Eq) (rC G .Eq) := by
  intro pins s σ H x y v u Q I rx ry ⟨dx, dy, S, F, ι, k, r, h1, h2, e, q⟩
  rcases eqD_cases e with ⟨a, b, e1, e2, rfl⟩ | e
  · have a1 := r.der h1
    have a2 := r.der h2
    rw [e1] at a1
    rw [e2] at a2
    cases (show x = .str a from a1)
    cases (show y = .str b from a2)
    obtain ⟨t1, rfl⟩ := rx
    obtain ⟨t2, rfl⟩ := ry
    exact eq_str ⟨.bl _, H, I, rfl, q⟩
  obtain ⟨p, p', d1, d2, s1, s2, rfl⟩ := c_eqD r h1 h2 e
  exact op_eqD hu pins s σ H x y v u Q I rx ry ⟨p, p', by rw [hK]; exact d1, by rw [hK]; exact d2, s1, s2, q⟩
theorem c_ne (hK : X.K = G.K) (hu : X.A.units + 64 < cLine) : OpR X (compareOp .NotEq) (rC G .NotEq) := by
  intro pins s σ H x y v u Q I rx ry ⟨dx, dy, S, F, ι, k, r, h1, h2, e, q⟩
  simp only [cmpD, Option.map_eq_some_iff] at e
  obtain ⟨k', e, rfl⟩ := e
  rcases eqD_cases e with ⟨a, b, e1, e2, rfl⟩ | e
  · have a1 := r.der h1
    have a2 := r.der h2
    rw [e1] at a1
    rw [e2] at a2
    cases (show x = .str a from a1)
    cases (show y = .str b from a2)
    obtain ⟨t1, rfl⟩ := rx
    obtain ⟨t2, rfl⟩ := ry
    exact ne_str ⟨.bl _, H, I, rfl, q⟩
  obtain ⟨p, p', d1, d2, s1, s2, rfl⟩ := c_eqD r h1 h2 e
  exact op_neD hu pins s σ H x y v u Q I rx ry ⟨p, p', by rw [hK]; exact d1, by rw [hK]; exact d2, s1, s2, q⟩
theorem RepH.int {F : Hp} {ι : List Addr} {H : Hp} {i : Int} {v : V} (h : RepH G F ι H (.int i) v) : v = .int i := h
theorem c_int {op : CmpOp} {g : Int → Int → Bool} (hr : OpR X (compareOp op) (rI0 fun i j => .bl (g i j))) (hd : ∀ dx dy k, cmpD op dx dy = some k → ∃ i j, dx = .int i ∧ dy = .int j ∧ k = g i j) : OpR X (compareOp op) (rC G op) := by
  intro pins s σ H x y v u Q I rx ry ⟨dx, dy, S, F, ι, k, r, h1, h2, e, q⟩
  obtain ⟨i, j, e1, e2, rfl⟩ := hd _ _ _ e
  have a1 := r.der h1
  have a2 := r.der h2
  rw [e1] at a1
  rw [e2] at a2
  exact hr pins s σ H x y v u Q I rx ry ⟨i, j, a1, a2, q⟩
theorem c_lt : OpR X (compareOp .Lt) (rC G .Lt) := c_int op_lt fun dx dy k e => by
  cases dx <;> cases dy <;> simp only [cmpD] at e <;> try (cases e; done)
  cases e; exact ⟨_, _, rfl, rfl, rfl⟩
theorem c_le : OpR X (compareOp .LtE) (rC G .LtE) := c_int op_le fun dx dy k e => by
  cases dx <;> cases dy <;> simp only [cmpD] at e <;> try (cases e; done)
  cases e; exact ⟨_, _, rfl, rfl, rfl⟩
theorem c_gt : OpR X (compareOp .Gt) (rC G .Gt) := c_int op_gt fun dx dy k e => by
  cases dx <;> cases dy <;> simp only [cmpD] at e <;> try (cases e; done)
  cases e; exact ⟨_, _, rfl, rfl, rfl⟩
theorem c_ge : OpR X (compareOp .GtE) (rC G .GtE) := c_int op_ge fun dx dy k e => by
  cases dx <;> cases dy <;> simp only [cmpD] at e <;> try (cases e; done)
  cases e; exact ⟨_, _, rfl, rfl, rfl⟩
theorem isD_spec {F : Hp} {ι : List Addr} {H : Hp} {x y : V} {dx dy : D} {k : Bool} (h1 : RepH G F ι H dx x) (h2 : RepH G F ι H dy y) (e : isD dx dy = some k) :
    (y = .non ∧ k = decide (x = .non)) ∨ (∃ a b, x = .bl a ∧ y = .bl b ∧ k = decide (a = b)) := by
  cases dy with
  | non =>
    refine .inl ⟨h2, ?_⟩
    cases dx with
    | non => cases e; cases (show x = .non from h1); rfl
    | bl b => cases e; cases (show x = _ from h1); rfl
    | int b => cases e; cases (show x = _ from h1); rfl
    | str b => cases e; cases (show x = _ from h1); rfl
    | tup b => cases e; obtain ⟨a, vs, rfl, _⟩ := h1; rfl
    | lst b => cases e; obtain ⟨a, vs, rfl, _⟩ := h1; rfl
    | scr b => cases e; obtain ⟨a, vs, rfl, _⟩ := h1; rfl
    | loc b => cases e; obtain ⟨a, rfl, _⟩ := h1; rfl
    | fn b => cases e; obtain ⟨a, vs, _, rfl, _⟩ := h1; rfl
    | ty b => cases e; cases (show x = _ from h1); rfl
  | bl b =>
    cases dx <;> simp only [isD] at e <;> try (cases e; done)
    cases e
    exact .inr ⟨_, _, h1, h2, rfl⟩
  | _ => cases dx <;> simp only [isD] at e <;> cases e
theorem c_is : OpR X (compareOp .Is) (rC G .Is) := by
  intro pins s σ H x y v u Q I rx ry ⟨dx, dy, S, F, ι, k, r, h1, h2, e, q⟩
  rcases isD_spec (r.der h1) (r.der h2) e with ⟨rfl, rfl⟩ | ⟨a, b, rfl, rfl, rfl⟩
  · exact op_isN pins s σ H x _ v u Q I rx ry ⟨rfl, q⟩
  · exact op_is_bl pins s σ H _ _ v u Q I rx ry ⟨a, b, rfl, rfl, q⟩
theorem c_isnot : OpR X (compareOp .IsNot) (rC G .IsNot) := by
  intro pins s σ H x y v u Q I rx ry ⟨dx, dy, S, F, ι, k, r, h1, h2, e, q⟩
  simp only [cmpD, Option.map_eq_some_iff] at e
  obtain ⟨k', e, rfl⟩ := e
  rcases isD_spec (r.der h1) (r.der h2) e with ⟨rfl, rfl⟩ | ⟨a, b, rfl, rfl, rfl⟩
  · exact op_notN pins s σ H x _ v u Q I rx ry ⟨rfl, q⟩
  · exact op_isnot_bl pins s σ H _ _ v u Q I rx ry ⟨a, b, rfl, rfl, q⟩
theorem flat_v {F : Hp} {ι : List Addr} {d : D} {v : V} (f : flat d = true) (h : Rep G F ι d v) : v = toV d ∧ flatV v = true := by
  cases d <;> simp only [flat] at f <;> try (cases f; done)
  all_goals (cases (show v = _ from h); exact ⟨rfl, rfl⟩)
theorem flatL_v {F : Hp} {ι : List Addr} : ∀ {ds : List D} {vs : List V}, ds.all flat = true → RepL G F ι ds vs → vs = ds.map toV ∧ vs.all flatV = true
  | [], _, _, h => by cases (show _ = _ from h); exact ⟨rfl, rfl⟩
  | d :: ds, _, f, h => by
    obtain ⟨w, ws, rfl, a, b⟩ := h
    rw [List.all_cons, Bool.and_eq_true] at f
    obtain ⟨e1, f1⟩ := flat_v f.1 a
    obtain ⟨e2, f2⟩ := flatL_v f.2 b
    exact ⟨by rw [e1, e2]; rfl, by rw [List.all_cons, f1, f2]; rfl⟩
theorem repH_flat {F : Hp} {ι : List Addr} {H : Hp} {d : D} {v : V} (f : flat d = true) (h : RepH G F ι H d v) : Rep G F ι d v := by
  cases d <;> first | exact h | (simp only [flat] at f; cases f)
theorem c_in (hK : X.K = G.K) (hu : X.A.units + 65 < cLine) : OpR X (compareOp .In) (rC G .In) := by
  intro pins s σ H x y v u Q I rx ry ⟨dx, dy, S, F, ι, k, r, h1, h2, e, q⟩
  have a1 := r.der h1
  have a2 := r.der h2
  revert a1 a2 e
  generalize Gx.der S dx = ex
  generalize Gx.der S dy = ey
  intro e a1 a2
  simp only [cmpD] at e
  split at e
  · rename_i ys
    have a3 := a2
    obtain ⟨b, ws, rfl, q2, l2⟩ := a2
    unfold inD at e
    split at e
    · rename_i hf
      have hf' := hf
      rw [Bool.and_eq_true] at hf'
      cases e
      obtain ⟨f1, f2⟩ := flat_v hf'.1 (repH_flat hf'.1 a1)
      obtain ⟨f3, f4⟩ := flatL_v hf'.2 l2
      subst f1 f3
      exact op_in_seq pins s σ H _ _ v u Q I rx ry ⟨b, _, rfl, .inr (by rw [hK]; exact r.sqT q2), f2, f4, q⟩
    · split at e
      · rename_i p ps e1 e2
        split at e
        · rename_i hs
          rw [Bool.and_eq_true] at hs
          cases e
          obtain ⟨as, r1⟩ := Dp.reads I p _ v (by rw [hK]; exact dp_der r a1 e1) rx
          obtain ⟨bs, r2⟩ := Dp.reads I (.tuple ps) _ u (by rw [hK]; exact dp_der r a3 (by simp only [toPy, e2, Option.map_some])) ry
          exact SeqAt.in_tuple_reads r2 r1 (SeqAt.canLay_of_shaped hs.2) (SeqAt.canLay_of_shaped hs.1) (room_in_shaped hs.1 hu) ⟨.bl _, H, I, rfl, q⟩
        · cases e
      · cases e
  · rename_i ys
    obtain ⟨b, ws, rfl, q2, l2⟩ := a2
    unfold inD at e
    split at e
    · rename_i hf
      have hf' := hf
      rw [Bool.and_eq_true] at hf'
      cases e
      obtain ⟨f1, f2⟩ := flat_v hf'.1 (repH_flat hf'.1 a1)
      obtain ⟨f3, f4⟩ := flatL_v hf'.2 l2
      subst f1 f3
      exact op_in_seq pins s σ H _ _ v u Q I rx ry ⟨b, _, rfl, .inl (SqL.of q2), f2, f4, q⟩
    · split at e
      · rename_i p ps e1 e2
        split at e
        · rename_i hs
          rw [Bool.and_eq_true] at hs
          cases e
          exact op_inD hu pins s σ H _ _ v u Q I rx ry ⟨p, ps, by rw [hK]; exact dp_der r a1 e1, by rw [hK]; exact .lst (SqL.of q2) (dp_ofL r _ _ _ l2 e2), hs.1, hs.2, q⟩
        · cases e
      · cases e
  · cases e
theorem c_notin (hK : X.K = G.K) (hu : X.A.units + 65 < cLine) : OpR X (compareOp .NotIn) (rC G .NotIn) := by
  intro pins s σ H x y v u Q I rx ry ⟨dx, dy, S, F, ι, k, r, h1, h2, e, q⟩
  have a1 := r.der h1
  have a2 := r.der h2
  revert a1 a2 e
  generalize Gx.der S dx = ex
  generalize Gx.der S dy = ey
  intro e a1 a2
  simp only [cmpD] at e
  split at e
  · rename_i ys
    rw [Option.map_eq_some_iff] at e
    obtain ⟨k', e, rfl⟩ := e
    have a3 := a2
    obtain ⟨b, ws, rfl, q2, l2⟩ := a2
    unfold inD at e
    split at e
    · rename_i hf
      have hf' := hf
      rw [Bool.and_eq_true] at hf'
      cases e
      obtain ⟨f1, f2⟩ := flat_v hf'.1 (repH_flat hf'.1 a1)
      obtain ⟨f3, f4⟩ := flatL_v hf'.2 l2
      subst f1 f3
      exact op_notIn_seq pins s σ H _ _ v u Q I rx ry ⟨b, _, rfl, .inr (by rw [hK]; exact r.sqT q2), f2, f4, q⟩
    · split at e
      · rename_i p ps e1 e2
        split at e
        · rename_i hs
          rw [Bool.and_eq_true] at hs
          cases e
          obtain ⟨as, r1⟩ := Dp.reads I p _ v (by rw [hK]; exact dp_der r a1 e1) rx
          obtain ⟨bs, r2⟩ := Dp.reads I (.tuple ps) _ u (by rw [hK]; exact dp_der r a3 (by simp only [toPy, e2, Option.map_some])) ry
          exact SeqAt.notIn_tuple_reads r2 r1 (SeqAt.canLay_of_shaped hs.2) (SeqAt.canLay_of_shaped hs.1) (room_in_shaped hs.1 hu) ⟨.bl _, H, I, rfl, q⟩
        · cases e
      · cases e
  · rename_i ys
    rw [Option.map_eq_some_iff] at e
    obtain ⟨k', e, rfl⟩ := e
    obtain ⟨b, ws, rfl, q2, l2⟩ := a2
    unfold inD at e
    split at e
    · rename_i hf
      have hf' := hf
      rw [Bool.and_eq_true] at hf'
      cases e
      obtain ⟨f1, f2⟩ := flat_v hf'.1 (repH_flat hf'.1 a1)
      obtain ⟨f3, f4⟩ := flatL_v hf'.2 l2
      subst f1 f3
      exact op_notIn_seq pins s σ H _ _ v u Q I rx ry ⟨b, _, rfl, .inl (SqL.of q2), f2, f4, q⟩
    · split at e
      · rename_i p ps e1 e2
        split at e
        · rename_i hs
          rw [Bool.and_eq_true] at hs
          cases e
          exact op_notInD hu pins s σ H _ _ v u Q I rx ry ⟨p, ps, by rw [hK]; exact dp_der r a1 e1, by rw [hK]; exact .lst (SqL.of q2) (dp_ofL r _ _ _ l2 e2), hs.1, hs.2, q⟩
        · cases e
      · cases e
  · cases e
theorem c_all (hK : X.K = G.K) (hu : X.A.units + 65 < cLine) (op : CmpOp) : OpR X (compareOp op) (rC G op) := by
  cases op
  · exact c_eq hK (by omega)
  · exact c_ne hK (by omega)
  · exact c_lt
  · exact c_le
  · exact c_gt
  · exact c_ge
  · exact c_is
  · exact c_isnot
  · exact c_in hK hu
  · exact c_notin hK hu
/-! ### truth -/
theorem repL_empty {F : Hp} {ι : List Addr} {ds : List D} {vs : List V} (h : RepL G F ι ds vs) : (!ds.isEmpty) = !vs.isEmpty := by
  have := h.length
  cases ds <;> cases vs <;> simp at this ⊢
theorem tru_v {S : Sto} {F : Hp} {ι : List Addr} {H : Hp} (r : RL G S F ι H) {d : D} {v : V} {k : Bool} (h : RepH G F ι H d v) (e : truD d = some k) : TruV G.K v H k := by
  cases d with
  | non => cases (show v = _ from h); cases e; rfl
  | bl b => cases (show v = _ from h); cases e; rfl
  | int b => cases (show v = _ from h); cases e; rfl
  | tup b =>
    obtain ⟨a, vs, rfl, q, l⟩ := h
    cases e
    exact .inr (.inl ⟨vs, r.sqT q, repL_empty l⟩)
  | lst b =>
    obtain ⟨a, vs, rfl, q, l⟩ := h
    cases e
    exact .inl ⟨vs, SqL.of q, repL_empty l⟩
  | _ => simp only [truD] at e; cases e
/-! ### items, slices -/
def rIx (G : Gl) : R2 := fun x y H Q => ∃ dx dy S F ι d, RL G S F ι H ∧ Rep G F ι dx x ∧ Rep G F ι dy y ∧ ixD (der S dx) dy = some d ∧ Goes G S F ι H d Q
theorem repL_atI {F : Hp} {ι : List Addr} {ds : List D} {vs : List V} {i : Int} {d : D} (h : RepL G F ι ds vs) (e : atI ds i = some d) : ∃ v, atI vs i = some v ∧ Rep G F ι d v := by
  unfold atI at e ⊢
  rw [← h.length]
  cases q : ixN ds.length i with
  | none => rw [q] at e; cases e
  | some j =>
    rw [q] at e
    exact h.get e
theorem ix_all (hK : X.K = G.K) : IxR X (rIx G) := by
  intro value slice pins s σ H x y v u Q I rx ry ⟨dx, dy, S, F, ι, d, r, h1, h2, e, k⟩ hs
  have a1 := r.der h1
  revert a1 e
  generalize Gx.der S dx = ex
  intro e a1
  cases ex <;> cases dy <;> simp only [ixD] at e <;> try (cases e; done)
  · obtain ⟨b, ws, rfl, q2, l2⟩ := a1
    obtain ⟨w, e2, rw'⟩ := repL_atI l2 e
    exact ix_tup value slice pins s σ H _ _ v u Q I rx ry ⟨b, ws, _, w, rfl, h2, by rw [hK]; exact r.sqT q2, e2, k.here r rw'⟩ hs
  · obtain ⟨b, ws, rfl, q2, l2⟩ := a1
    obtain ⟨w, e2, rw'⟩ := repL_atI l2 e
    exact ix_list value slice pins s σ H _ _ v u Q I rx ry ⟨b, ws, _, w, rfl, h2, SqL.of q2, e2, k.here r rw'⟩ hs
  · obtain ⟨b, ws, rfl, q2, l2⟩ := a1
    obtain ⟨w, e2, rw'⟩ := repL_atI l2 e
    exact ix_list value slice pins s σ H _ _ v u Q I rx ry ⟨b, ws, _, w, rfl, h2, by rw [hK]; exact r.sqL q2, e2, k.here r rw'⟩ hs
def rSl (G : Gl) : V → Option Int → Option Int → Hp → VK → Prop := fun x lo hi H Q => ∃ xs S F ι, RL G S F ι H ∧ Rep G F ι (.tup xs) x ∧ Goes G S F ι H (.tup (cutD xs lo hi)) Q
theorem sl_t (hK : X.K = G.K) : SlR X (rSl G) := by
  intro pins s σ H x v vl vu lo hi sl Q I rx hs pl pu ⟨xs, S, F, ι, r, h, k⟩
  obtain ⟨a, vs, e, q, l⟩ := h
  refine sl_tupA pins s σ H x v vl vu lo hi sl Q I rx hs pl pu ⟨a, vs, e, by rw [hK]; exact r.sqT q, fun z => ?_, fun _ p hp => k.tup r hp (l.cutD lo hi)⟩
  have e1 : Gx.cutD xs lo hi = xs := by
    unfold Gx.cutD
    rw [l.length, z.1, z.2, ← l.length]
    simp
  rw [e1] at k
  exact k.here r ⟨a, vs, rfl, q, l⟩
/-! ### built-ins -/
def rBi (G : Gl) (b : Bi) : List V → Hp → VK → Prop := fun xs H Q => ∃ ds S F ι d, RL G S F ι H ∧ RepL G F ι ds xs ∧ biD b (ds.map (der S)) = some d ∧ Goes G S F ι H d Q
theorem RepL.one {F : Hp} {ι : List Addr} {d : D} {vs : List V} (h : RepL G F ι [d] vs) : ∃ v, vs = [v] ∧ Rep G F ι d v := by
  obtain ⟨w, ws, rfl, a, b⟩ := h
  cases (show ws = [] from b)
  exact ⟨w, rfl, a⟩
theorem RepL.two {F : Hp} {ι : List Addr} {d e : D} {vs : List V} (h : RepL G F ι [d, e] vs) : ∃ v w, vs = [v, w] ∧ Rep G F ι d v ∧ Rep G F ι e w := by
  obtain ⟨w, ws, rfl, a, b⟩ := h
  obtain ⟨v, rfl, b'⟩ := RepL.one b
  exact ⟨w, v, rfl, a, b'⟩
theorem bls_v {F : Hp} {ι : List Addr} : ∀ {ds : List D} {vs : List V} {bs : List Bool}, RepL G F ι ds vs → blsD ds = some bs → vs = bs.map V.bl
  | [], _, _, h, e => by cases (show _ = _ from h); cases e; rfl
  | d :: ds, _, _, h, e => by
    obtain ⟨w, ws, rfl, a, b⟩ := h
    cases d <;> simp only [blsD] at e <;> try (cases e; done)
    rw [Option.map_eq_some_iff] at e
    obtain ⟨bs', e1, rfl⟩ := e
    rw [bls_v b e1, (show w = _ from a)]
    rfl
theorem ints_v {F : Hp} {ι : List Addr} : ∀ {ds : List D} {vs : List V} {bs : List Int}, RepL G F ι ds vs → intsD ds = some bs → vs = bs.map V.int
  | [], _, _, h, e => by cases (show _ = _ from h); cases e; rfl
  | d :: ds, _, _, h, e => by
    obtain ⟨w, ws, rfl, a, b⟩ := h
    cases d <;> simp only [intsD] at e <;> try (cases e; done)
    rw [Option.map_eq_some_iff] at e
    obtain ⟨bs', e1, rfl⟩ := e
    rw [ints_v b e1, (show w = _ from a)]
    rfl
/-- one argument, read -/
theorem bi_one {b : Bi} {xs : List V} {H : Hp} {Q : VK} {P : Prop} (h : rBi G b xs H Q) (hl : ∀ as d, biD b as = some d → as.length = 1)
    (k : ∀ e v S F ι d, RL G S F ι H → RepH G F ι H e v → xs = [v] → biD b [e] = some d → Goes G S F ι H d Q → P) : P := by
  obtain ⟨ds, S, F, ι, d, r, l, e, g⟩ := h
  have := hl _ _ e
  match ds, this with
  | [x], _ =>
    obtain ⟨v, rfl, a⟩ := l.one
    exact k _ v S F ι d r (r.der a) rfl e g
theorem bi_len (hK : X.K = G.K) : CallR X (.builtin "len") (rBi G .len) := by
  intro pins s σ H xs us Q I rx h
  refine bi_one h (fun as d e => by
    cases as with
    | nil => cases e
    | cons a r => cases r with
      | nil => rfl
      | cons b r => cases a <;> cases e) fun e v S F ι d r a e1 e2 g => ?_
  subst e1
  cases e <;> simp only [biD] at e2 <;> try (cases e2; done)
  · rename_i x
    cases (show v = _ from a)
    split at e2
    · cases e2
      exact L2.call_len pins s σ H _ us Q I rx ⟨_, x.length, rfl, ⟨by rw [← sz_eq]; assumption, rfl⟩, g.here r rfl⟩
    · cases e2
  · obtain ⟨b, ws, rfl, q2, l2⟩ := a
    cases e2
    exact L2.call_len pins s σ H _ us Q I rx ⟨_, ws.length, rfl, .inr ⟨ws, by rw [hK]; exact r.sqT q2, rfl⟩, g.here r (by rw [l2.length]; rfl)⟩
  · obtain ⟨b, ws, rfl, q2, l2⟩ := a
    cases e2
    exact L2.call_len pins s σ H _ us Q I rx ⟨_, ws.length, rfl, .inl ⟨ws, SqL.of q2, rfl⟩, g.here r (by rw [l2.length]; rfl)⟩
  · obtain ⟨b, ws, rfl, q2, l2⟩ := a
    cases e2
    exact L2.call_len pins s σ H _ us Q I rx ⟨_, ws.length, rfl, .inl ⟨ws, by rw [hK]; exact r.sqL q2, rfl⟩, g.here r (by rw [l2.length]; rfl)⟩
theorem bi_tuple (hK : X.K = G.K) : CallR X (.type "tuple") (rBi G .tuple) := by
  intro pins s σ H xs us Q I rx h
  refine bi_one h (fun as d e => by
    cases as with
    | nil => cases e
    | cons a r => cases r with
      | nil => rfl
      | cons b r => cases a <;> cases e) fun e v S F ι d r a e1 e2 g => ?_
  subst e1
  cases e <;> simp only [biD] at e2 <;> try (cases e2; done)
  · obtain ⟨b, ws, rfl, q2, l2⟩ := a
    cases e2
    exact call_tuple_of pins s σ H _ us Q I rx ⟨b, ws, rfl, .inr ⟨by rw [hK]; exact r.sqT q2, g.here r ⟨b, ws, rfl, q2, l2⟩⟩⟩
  · obtain ⟨b, ws, rfl, q2, l2⟩ := a
    cases e2
    exact call_tuple_of pins s σ H _ us Q I rx ⟨b, ws, rfl, .inl ⟨SqL.of q2, fun l hl => g.tup r hl l2⟩⟩
theorem bi_all (hc : X.calm = true) : CallR X (.builtin "all") (rBi G .all) := by
  intro pins s σ H xs us Q I rx h
  refine bi_one h (fun as d e => by
    cases as with
    | nil => cases e
    | cons a r => cases r with
      | nil => rfl
      | cons b r => cases a <;> cases e) fun e v S F ι d r a e1 e2 g => ?_
  subst e1
  cases e <;> simp only [biD] at e2 <;> try (cases e2; done)
  obtain ⟨b, ws, rfl, q2, l2⟩ := a
  rw [Option.map_eq_some_iff] at e2
  obtain ⟨bs, e3, rfl⟩ := e2
  exact cr_all hc pins s σ H _ us Q I rx ⟨b, bs, rfl, SqL.of (by rw [q2, bls_v l2 e3]), g.here r rfl⟩
theorem bi_any (hc : X.calm = true) : CallR X (.builtin "any") (rBi G .any) := by
  intro pins s σ H xs us Q I rx h
  refine bi_one h (fun as d e => by
    cases as with
    | nil => cases e
    | cons a r => cases r with
      | nil => rfl
      | cons b r => cases a <;> cases e) fun e v S F ι d r a e1 e2 g => ?_
  subst e1
  cases e <;> simp only [biD] at e2 <;> try (cases e2; done)
  obtain ⟨b, ws, rfl, q2, l2⟩ := a
  rw [Option.map_eq_some_iff] at e2
  obtain ⟨bs, e3, rfl⟩ := e2
  exact cr_any hc pins s σ H _ us Q I rx ⟨b, bs, rfl, SqL.of (by rw [q2, bls_v l2 e3]), g.here r rfl⟩
theorem bi_sum (hc : X.calm = true) : CallR X (.builtin "sum") (rBi G .sum) := by
  intro pins s σ H xs us Q I rx h
  refine bi_one h (fun as d e => by
    cases as with
    | nil => cases e
    | cons a r => cases r with
      | nil => rfl
      | cons b r => cases a <;> cases e) fun e v S F ι d r a e1 e2 g => ?_
  subst e1
  cases e <;> simp only [biD] at e2 <;> try (cases e2; done)
  obtain ⟨b, ws, rfl, q2, l2⟩ := a
  rw [Option.map_eq_some_iff] at e2
  obtain ⟨bs, e3, rfl⟩ := e2
  exact cr_sum hc pins s σ H _ us Q I rx ⟨b, bs, rfl, SqL.of (by rw [q2, ints_v l2 e3]), g.here r rfl⟩
theorem bi_abs : CallR X (.builtin "abs") (rBi G .abs) := by
  intro pins s σ H xs us Q I rx h
  refine bi_one h (fun as d e => by
    cases as with
    | nil => cases e
    | cons a r => cases r with
      | nil => rfl
      | cons b r => cases a <;> cases e) fun e v S F ι d r a e1 e2 g => ?_
  subst e1
  cases e <;> simp only [biD] at e2 <;> try (cases e2; done)
  cases (show v = _ from a)
  cases e2
  exact call_abs pins s σ H _ us Q I rx ⟨_, rfl, g.here r rfl⟩
theorem bi_int : CallR X (.type "int") (rBi G .int) := by
  intro pins s σ H xs us Q I rx h
  refine bi_one h (fun as d e => by
    cases as with
    | nil => cases e
    | cons a r => cases r with
      | nil => rfl
      | cons b r => cases a <;> cases e) fun e v S F ι d r a e1 e2 g => ?_
  subst e1
  cases e <;> simp only [biD] at e2 <;> try (cases e2; done)
  · cases (show v = _ from a)
    cases e2
    exact call_int1 pins s σ H _ us Q I rx (.inr ⟨_, rfl, g.here r rfl⟩)
  · cases (show v = _ from a)
    cases e2
    exact call_int1 pins s σ H _ us Q I rx (.inl ⟨_, rfl, g.here r rfl⟩)
/-- two arguments, read -/
theorem bi_two {b : Bi} {xs : List V} {H : Hp} {Q : VK} {P : Prop} (h : rBi G b xs H Q) (hl : ∀ as d, biD b as = some d → ∃ i j, as = [.int i, .int j])
    (k : ∀ i j S F ι d, RL G S F ι H → xs = [.int i, .int j] → biD b [.int i, .int j] = some d → Goes G S F ι H d Q → P) : P := by
  obtain ⟨ds, S, F, ι, d, r, l, e, g⟩ := h
  obtain ⟨i, j, e1⟩ := hl _ _ e
  rw [e1] at e
  rcases ds with _ | ⟨x, _ | ⟨y, _ | ⟨z, r'⟩⟩⟩
  · simp at e1
  · simp at e1
  · obtain ⟨v, w, rfl, a, b⟩ := l.two
    have a' := r.der a
    have b' := r.der b
    simp only [List.map_cons, List.map_nil, List.cons.injEq, and_true] at e1
    rw [e1.1] at a'
    rw [e1.2] at b'
    exact k i j S F ι d r (by rw [(show v = _ from a'), (show w = _ from b')]) e g
  · simp at e1
theorem bi2 {b : Bi} (hb : b = .max2 ∨ b = .min2) (as : List D) (d : D) (e : biD b as = some d) : ∃ i j, as = [.int i, .int j] := by
  rcases as with _ | ⟨x, _ | ⟨y, _ | ⟨z, r⟩⟩⟩
  · rcases hb with rfl | rfl <;> cases e
  · rcases hb with rfl | rfl <;> cases x <;> cases e
  · rcases hb with rfl | rfl <;> cases x <;> first | cases e | (cases y <;> first | exact ⟨_, _, rfl⟩ | cases e)
  · rcases hb with rfl | rfl <;> cases x <;> first | cases e | (cases y <;> cases e)
theorem bi_max (hc : X.calm = true) : CallR X (.builtin "max") (rBi G .max2) := by
  intro pins s σ H xs us Q I rx h
  refine bi_two h (bi2 (.inl rfl)) fun i j S F ι d r e1 e2 g => ?_
  subst e1
  cases e2
  exact call_max2 hc pins s σ H _ us Q I rx ⟨_, _, rfl, g.here r rfl⟩
theorem bi_min (hc : X.calm = true) : CallR X (.builtin "min") (rBi G .min2) := by
  intro pins s σ H xs us Q I rx h
  refine bi_two h (bi2 (.inr rfl)) fun i j S F ι d r e1 e2 g => ?_
  subst e1
  cases e2
  exact call_min2 hc pins s σ H _ us Q I rx ⟨_, _, rfl, g.here r rfl⟩
/-! ### repr -/
theorem repr_reads {P : Program} {w : World} {A : Around} {E : Value → Shared → Prop} {s : Shared} {u : Value} {p : PyData} {as : List Addr} {Q : Value → Shared → Prop} (r : Reads s.heap u p as) (hs : SeqAt.shaped p = true) (h1 : p.showable = true) (h2 : p.hasDict = false) (h3 : p.shown.length ≤ sizeLine) (hg : A.guards = some []) (hu : A.units + 65 < cLine)
    (k : ∀ h' t tk, (∀ b o, s.heap.get? b = some o → h'.get? b = some o) → Q (.str p.shown t) { s with heap := h', toks := tk }) : wpAny (model P w) A (call (.builtin "repr") [u]) Q E s := by
  have dp : A.units + (p.depth + 1) < cLine := by
    have := SeqAt.depth_of_shaped hs
    omega
  have nd : p.hasDict = true → sysModules ∉ as := fun z => by rw [h2] at z; cases z
  cases r with
  | none => exact PySem.P.repr_of_none (k _ _ _ fun _ _ e => e)
  | bool b => exact PySem.P.repr_of_bool (by cases b <;> exact k _ _ _ fun _ _ e => e)
  | int i t => exact PySem.P.repr_of_int (of_decide_eq_true h1) (k _ _ _ fun _ _ e => e)
  | str x t => exact PySem.P.repr_of_str (k _ _ _ fun _ _ e => e) h3
  | list a b c d => exact repr_of_reads' (Reads.list a b c d) h1 nd hg dp (fun _ _ e => e) k h3
  | tuple a b c d => exact repr_of_reads' (Reads.tuple a b c d) h1 nd hg dp (fun _ _ e => e) k h3
  | dict => cases h2
theorem bi_repr (hK : X.K = G.K) (hg : X.A.guards = some []) (hu : X.A.units + 65 < cLine) : CallR X (.builtin "repr") (rBi G .repr) := by
  intro pins s σ H xs us Q I rx h
  refine bi_one h (fun as d e => by
    cases as with
    | nil => cases e
    | cons a r => cases r with
      | nil => rfl
      | cons b r => cases a <;> cases e) fun e v S F ι d r a e1 e2 g => ?_
  subst e1
  obtain ⟨p, hp, e3⟩ := Option.bind_eq_some_iff.mp (show (toPy e).bind shownD = some d from e2)
  unfold shownD at e3
  split at e3
  · rename_i hq
    simp only [Bool.and_eq_true, Bool.not_eq_true', decide_eq_true_eq] at hq
    cases e3
    obtain ⟨u, rfl, ru⟩ := vals1 rx
    obtain ⟨as, rd⟩ := Dp.reads I p v u (by rw [hK]; exact dp_der r a hp) ru
    exact repr_reads rd hq.1.1.1 hq.1.1.2 hq.1.2 (by rw [← sz_eq]; exact hq.2) hg hu fun h' t tk hk => ⟨.str _, H, I.kept (t' := tk) hk, ⟨t, rfl⟩, g.here r rfl⟩
  · cases e3
end Gx
set_option Elab.async false
set_option linter.all false
set_option maxRecDepth 100000
set_option maxHeartbeats 4000000
/-! Gx: a tuple or a list, some times. -/
namespace Gx
open PySem PySem.Spec PyProof.Rows L2
abbrev tobj (dd : Option Addr) (items : Array Value) (n : Nat) (sl : Array (Option Value)) : Obj := { cls := .type "tuple", dict := dd, data := .seq items n, slots := sl }
/-- once, or nothing at all: the tuple itself -/
theorem mulT_same (l : Addr) (items : Array Value) (n : Nat) (dd : Option Addr) (sl : Array (Option Value)) (x : Int) (u : Tok)
    (c0 : (decide (x < -(2 ^ 63)) || decide (x ≥ 2 ^ 63)) = false) (c1 : (items.isEmpty || x == 1) = true) :
    Meets (Builtin.«tuple.__mul__» ⟨[.ref l, .int x u], []⟩) fun _ R s => s.heap.get? l = some (tobj dd items n sl) ∧ R (.ok (.ret (Value.ref l))) s :=
  .of_wp fun prog w A R s h => by
    obtain ⟨hp, g, d, tk, os⟩ := s
    obtain ⟨hl, h⟩ := h
    have f1 := AutoSeq1.idx_int
    wp_walk using wpAny_loadPart' hl
    repeat (first
      | (refine wpAny_ite_false (decide_eq_false (by rw [c0]; exact Bool.false_ne_true)) ?_; wp_walk using wpAny_loadPart' hl)
      | (refine wpAny_ite_true (decide_eq_true c1) ?_; wp_walk using wpAny_loadPart' hl))
    exact ⟨_, rfl, h⟩
/-- no time: an empty tuple, new -/
theorem mulT_none (l : Addr) (items : Array Value) (n : Nat) (dd : Option Addr) (sl : Array (Option Value)) (x : Int) (u : Tok)
    (c0 : (decide (x < -(2 ^ 63)) || decide (x ≥ 2 ^ 63)) = false) (c1 : (items.isEmpty || x == 1) = false) (c2 : (decide (x ≤ 0) || items.isEmpty) = true) :
    Meets (Builtin.«tuple.__mul__» ⟨[.ref l, .int x u], []⟩) fun _ R s => s.heap.get? l = some (tobj dd items n sl) ∧
      R (.ok (.ret (Value.ref s.heap.objs.size))) { s with heap := s.heap.push { cls := Value.type "tuple", data := Data.seq #[] } } :=
  .of_wp fun prog w A R s h => by
    obtain ⟨hp, g, d, tk, os⟩ := s
    obtain ⟨hl, h⟩ := h
    have f1 := AutoSeq1.idx_int
    wp_walk using wpAny_loadPart' hl
    repeat (first
      | (refine wpAny_ite_false (decide_eq_false (by rw [c0]; exact Bool.false_ne_true)) ?_; wp_walk using wpAny_loadPart' hl)
      | (refine wpAny_ite_false (decide_eq_false (by rw [c1]; exact Bool.false_ne_true)) ?_; wp_walk using wpAny_loadPart' hl)
      | (refine wpAny_ite_true (decide_eq_true c2) ?_; wp_walk using wpAny_loadPart' hl))
    exact ⟨_, rfl, h⟩
variable {X : Cx} {G : Gl}
theorem rep1 {α : Type} (xs : List α) : (List.replicate 1 xs).flatten = xs := by simp
theorem rep_nil {α : Type} (n : Nat) : (List.replicate n ([] : List α)).flatten = [] := by simp
/-- tuple * int, any int of the machine's size -/
def rRepG (K : PySem.W.Frag) : R2 := fun x y H Q => ∃ l k xs, x = .ref l ∧ y = .int k ∧ SqT K H l xs ∧ -(2 ^ 63) ≤ k ∧ k < 2 ^ 63 ∧ xs.length * k.toNat ≤ sizeLine ∧
  ((List.replicate k.toNat xs).flatten = xs → Q (.ref l) H) ∧ ∀ p, H p = none → Q (.ref p) (upd H p (.tup (List.replicate k.toNat xs).flatten))
theorem op_repG : OpR X (binaryOp .Mult) (rRepG X.K) := by
  intro pins s σ H x y v u Q I rx ry ⟨l, k, xs, e1, e2, hT, lo, hi, hz, q1, q2⟩
  subst e1 e2
  cases rx
  obtain ⟨tk, rfl⟩ := ry
  obtain ⟨its, r, ⟨⟨cl, dd, dat, sl⟩, ho, hcl, n, hdt⟩, hs⟩ := I.tuple hT
  dsimp only at hcl hdt
  subst hcl hdt
  have len : its.length = xs.length := r.length.symm
  have c0 : (decide (k < -(2 ^ 63)) || decide (k ≥ 2 ^ 63)) = false := by
    rw [decide_eq_false (by omega), decide_eq_false (by omega)] <;> rfl
  by_cases h1 : (its.toArray.isEmpty || k == 1) = true
  · have same : (List.replicate k.toNat xs).flatten = xs := by
      rw [Bool.or_eq_true] at h1
      rcases h1 with h1 | h1
      · have : its = [] := by cases its <;> first | rfl | cases h1
        subst this
        have : xs = [] := List.eq_nil_of_length_eq_zero (by rw [← len]; rfl)
        rw [this]; exact rep_nil _
      · rw [eq_of_beq h1]; exact rep1 xs
    refine wpAny_binaryOp_repeat_ref (T := "tuple") (U := "int") (by decide) ⟨_, ho, rfl⟩ (fun s' => typeIs_int s' k tk) noFill_tuple_mul F.fills_int_mul F.slot_int_rmul repeat_tuple F.slot_int_index.lookup
      (call_meets F.slot_int_rmul (typeIs_int s k tk) F.entry_int_rmul (F.args_int_rmul_2 _ _) (int_rmul_tuple k tk l its.toArray n dd sl)
        ⟨ho, rfl, ⟨_, ho, rfl⟩, call_meets F.slot_tuple_mul ⟨_, ho, rfl⟩ F.entry_tuple_mul (F.args_tuple_mul_2 _ _) (mulT_same l its.toArray n dd sl k tk c0 h1) ⟨ho, ?_⟩⟩)
    exact ⟨.ref l, H, I, rfl, q1 same⟩
  · have c1 : (its.toArray.isEmpty || k == 1) = false := by simpa using h1
    have ne : its.toArray.isEmpty = false := (Bool.or_eq_false_iff.mp c1).1
    by_cases h2 : k ≤ 0
    · have c2 : (decide (k ≤ 0) || its.toArray.isEmpty) = true := by rw [decide_eq_true h2] <;> rfl
      have emp : (List.replicate k.toNat xs).flatten = [] := by
        have : k.toNat = 0 := by omega
        rw [this]; rfl
      refine wpAny_binaryOp_repeat_ref (T := "tuple") (U := "int") (by decide) ⟨_, ho, rfl⟩ (fun s' => typeIs_int s' k tk) noFill_tuple_mul F.fills_int_mul F.slot_int_rmul repeat_tuple F.slot_int_index.lookup
        (call_meets F.slot_int_rmul (typeIs_int s k tk) F.entry_int_rmul (F.args_int_rmul_2 _ _) (int_rmul_tuple k tk l its.toArray n dd sl)
          ⟨ho, rfl, ⟨_, ho, rfl⟩, call_meets F.slot_tuple_mul ⟨_, ho, rfl⟩ F.entry_tuple_mul (F.args_tuple_mul_2 _ _) (mulT_none l its.toArray n dd sl k tk c0 c1 c2) ⟨ho, ?_⟩⟩)
      refine ⟨.ref s.heap.objs.size, _, I.laid (t' := s.toks) (o := .tup []) (fun b ob z => Heap.get?_push_of_some _ z) (Nat.le_refl _) ?_, rfl, ?_⟩
      · exact ⟨Nat.zero_le _, [], .nil, IsTup.new _ _⟩
      · have := q2 _ (I.hok.fresh (Nat.le_refl _))
        rw [emp] at this
        exact this
    · have c2 : (decide (k ≤ 0) || its.toArray.isEmpty) = false := by rw [decide_eq_false h2, ne] <;> rfl
      have sz0 : its.toArray.size = xs.length := by rw [List.size_toArray, len]
      have big : ((its.toArray.size : Nat) : Int) * k ≤ 16777216 := by
        rw [sz0]
        rw [sizeLine_eq] at hz
        have : ((xs.length * k.toNat : Nat) : Int) ≤ 16777216 := by omega
        rw [Int.natCast_mul] at this
        have kk : ((k.toNat : Nat) : Int) = k := by omega
        rw [kk] at this
        exact this
      have c4 : Builtin.Tuple.tupleTooMany (((its.toArray.size : Nat) : Int) * k) = false := by
        unfold Builtin.Tuple.tupleTooMany
        rw [sizeLine_eq]
        exact decide_eq_false (by omega)
      have fl : (List.replicate k.toNat its).flatten.length ≤ sizeLine := by
        rw [PyProof.Rows.lm_len_rep_flat, len, Nat.mul_comm]
        exact hz
      refine wpAny_binaryOp_repeat_ref (T := "tuple") (U := "int") (by decide) ⟨_, ho, rfl⟩ (fun s' => typeIs_int s' k tk) noFill_tuple_mul F.fills_int_mul F.slot_int_rmul repeat_tuple F.slot_int_index.lookup
        (call_meets F.slot_int_rmul (typeIs_int s k tk) F.entry_int_rmul (F.args_int_rmul_2 _ _) (int_rmul_tuple k tk l its.toArray n dd sl)
          ⟨ho, rfl, ⟨_, ho, rfl⟩, call_meets F.slot_tuple_mul ⟨_, ho, rfl⟩ F.entry_tuple_mul (F.args_tuple_mul_2 _ _) (tuple_mulW l its.toArray n dd sl k tk c0 c1 c2 (by omega) c4 (by rw [size_rep, List.size_toArray]; exact fl)) ⟨ho, ?_⟩⟩)
      rw [size_rep]
      refine ⟨.ref s.heap.objs.size, _, I.laid (t' := s.toks) (o := .tup (List.replicate k.toNat xs).flatten) (fun b ob z => Heap.get?_push_of_some _ z) (Nat.le_refl _) ?_, rfl, q2 _ (I.hok.fresh (Nat.le_refl _))⟩
      exact ⟨by rw [PyProof.Rows.lm_len_rep_flat, Nat.mul_comm]; exact hz, _, r.rep k.toNat, IsTup.new _ _⟩
theorem b_mul (hK : X.K = G.K) : OpR X (binaryOp .Mult) (rB G .Mult) := by
  intro pins s σ H x y v u Q I rx ry ⟨dx, dy, S, F, ι, d, r, h1, h2, e, k⟩
  cases dx <;> cases dy <;> simp only [bopD] at e <;> try (cases e; done)
  · split at e
    · cases e
      exact op_mul pins s σ H x y v u Q I rx ry ⟨_, _, h1, h2, mulOk_c (by assumption), k.here r rfl⟩
    · cases e
  · rename_i xs n
    split at e
    · rename_i hc
      cases e
      obtain ⟨a, vs, e1, q, l⟩ := h1
      refine op_repG pins s σ H x y v u Q I rx ry ⟨a, n, vs, e1, h2, by rw [hK]; exact r.sqT q, by omega, by omega, by rw [← l.length, ← sz_eq]; exact hc.1, fun same => ?_, fun p hp => k.tup r hp (l.rep n.toNat)⟩
      have := l.rep n.toNat
      rw [same] at this
      exact k.here r ⟨a, vs, rfl, q, this⟩
    · cases e
/-! ### lists made by an operator -/
def GoesL (G : Gl) (S : Sto) (F : Hp) (ι : List Addr) (H : Hp) (ds : List D) (Q : VK) : Prop := ∀ p vs, H p = none → RepL G F ι ds vs → Q (.ref p) (upd H p (.lst vs))
def rL (G : Gl) (op : Operator) : R2 := fun x y H Q => ∃ dx dy S F ι ds, RL G S F ι H ∧ Rep G F ι dx x ∧ Rep G F ι dy y ∧ lopD op (der S dx) (der S dy) = some ds ∧ GoesL G S F ι H ds Q
theorem l_add : OpR X (binaryOp .Add) (rL G .Add) := by
  intro pins s σ H x y v u Q I rx ry ⟨dx, dy, S, F, ι, ds, r, h1, h2, e, k⟩
  have a1 := r.der h1
  have a2 := r.der h2
  revert a1 a2 e
  generalize Gx.der S dx = ex
  generalize Gx.der S dy = ey
  intro e a1 a2
  cases ex <;> cases ey <;> simp only [lopD] at e <;> try (cases e; done)
  split at e
  · rename_i hz
    cases e
    obtain ⟨a, us, e1, q1, l1⟩ := a1
    obtain ⟨b, ws, e2, q2, l2⟩ := a2
    exact op_cat pins s σ H x y v u Q I rx ry ⟨a, b, us, ws, e1, e2, q1, q2, by rw [← l1.length, ← l2.length, ← sz_eq]; exact hz, fun p hp => k p _ hp (l1.append l2)⟩
  · cases e
theorem l_mul : OpR X (binaryOp .Mult) (rL G .Mult) := by
  intro pins s σ H x y v u Q I rx ry ⟨dx, dy, S, F, ι, ds, r, h1, h2, e, k⟩
  have a1 := r.der h1
  have a2 := r.der h2
  revert a1 a2 e
  generalize Gx.der S dx = ex
  generalize Gx.der S dy = ey
  intro e a1 a2
  cases ex <;> cases ey <;> simp only [lopD] at e <;> try (cases e; done)
  split at e
  · rename_i hz
    cases e
    obtain ⟨a, us, e1, q1, l1⟩ := a1
    exact op_rep pins s σ H x y v u Q I rx ry ⟨a, _, us, e1, a2, q1, by omega, by omega, by rw [← l1.length, ← sz_eq]; exact hz.1, fun p hp => k p _ hp (l1.rep _)⟩
  · cases e
theorem l_all (op : Operator) : OpR X (binaryOp op) (rL G op) := by
  cases op
  case Add => exact l_add
  case Mult => exact l_mul
  all_goals
    intro pins s σ H x y v u Q I rx ry ⟨dx, dy, S, F, ι, ds, r, h1, h2, e, k⟩
    revert e
    generalize Gx.der S dx = ex
    generalize Gx.der S dy = ey
    intro e
    cases ex <;> cases ey <;> cases e
end Gx
set_option Elab.async false
set_option linter.all false
set_option maxRecDepth 100000
set_option maxHeartbeats 1000000
/-! Gx: results as readings. -/
namespace Gx
open PySem PySem.Spec PyProof.Rows L2
/-- how an error lies -/
def ExR (G : Gl) (H : Hp) (c : Str) (p : Option D) (cls : Value) (dd : Option Addr) : Prop :=
  (∃ C, G.mg c = some (.ref C) ∧ cls = .ref C) ∧ match p with
    | none => dd = none
    | some d => flat d = true ∧ ∃ dx fld, dd = some dx ∧ H dx = some (.xd [(fld, toV d)])
def Pst (G : Gl) (W : WX) (σ : L2.St) (F : Hp) (ι : List Addr) (H : Hp) {α : Type} (r : R α) (Q : α → Sto → Hp → List Addr → Hp → Prop) : Prop := match r with
  | .ok a S' => ∀ F' ι' H', Ext F ι H F' ι' H' → RL G S' F' ι' H' → Q a S' F' ι' H'
  | .exc c p S' => ∀ cls dd F' ι' H', Ext F ι H F' ι' H' → RL G S' F' ι' H' → ExR G H' c p cls dd → W cls dd σ H'
  | .stuck => False
def ER (G : Gl) (F : Hp) (ι : List Addr) (ρ : Env) (σ : L2.St) : Prop := ρ.length = σ.length ∧ ∀ (i : Nat) (d : D), ρ[i]? = some (some d) → ∃ v, σ[i]? = some (some v) ∧ Rep G F ι d v
section
variable {G : Gl} {W : WX} {σ : L2.St} {S S' : Sto} {F F' : Hp} {ι ι' : List Addr} {H H' : Hp} {α β : Type} {ρ : Env}
theorem ER.ext (h : ER G F ι ρ σ) (e : Ext F ι H F' ι' H') : ER G F' ι' ρ σ := ⟨h.1, fun i d hi => by
  obtain ⟨v, a, b⟩ := h.2 i d hi
  exact ⟨v, a, e.rep b⟩⟩
theorem ER.set (h : ER G F ι ρ σ) {i : Nat} {d : D} {v : V} (r : Rep G F ι d v) : ER G F ι (ρ.set i (some d)) (σ.set i (some v)) := by
  refine ⟨by simp [h.1], fun j e hj => ?_⟩
  by_cases q : j = i
  · subst q
    have hl : j < ρ.length := by
      have := (List.getElem?_eq_some_iff.mp hj).1
      simpa using this
    rw [List.getElem?_set_self hl] at hj
    cases hj
    exact ⟨v, List.getElem?_set_self (by rw [← h.1]; exact hl), r⟩
  · rw [List.getElem?_set_ne (Ne.symm q)] at hj
    rw [List.getElem?_set_ne (Ne.symm q)]
    exact h.2 j e hj
theorem ER.unset (h : ER G F ι ρ σ) (i : Nat) : ER G F ι (ρ.set i none) (σ.set i none) := by
  refine ⟨by simp [h.1], fun j e hj => ?_⟩
  by_cases q : j = i
  · subst q
    have hl : j < ρ.length := by
      have := (List.getElem?_eq_some_iff.mp hj).1
      simpa using this
    rw [List.getElem?_set_self hl] at hj
    cases hj
  · rw [List.getElem?_set_ne (Ne.symm q)] at hj
    rw [List.getElem?_set_ne (Ne.symm q)]
    exact h.2 j e hj
theorem ER.wipe (h : ER G F ι ρ σ) : ∀ own : List Nat, ER G F ι (wipeE ρ own) (L2.wipe σ own)
  | [] => h
  | i :: r => (ER.wipe h r).unset i
theorem Pst.imp {r : R α} {Q Q' : α → Sto → Hp → List Addr → Hp → Prop} (h : Pst G W σ F ι H r Q) (k : ∀ a S' F' ι' H', Ext F ι H F' ι' H' → RL G S' F' ι' H' → Q a S' F' ι' H' → Q' a S' F' ι' H') : Pst G W σ F ι H r Q' := by
  cases r with
  | ok a S' => exact fun F' ι' H' e l => k _ _ _ _ _ e l (h F' ι' H' e l)
  | exc c p S' => exact h
  | stuck => exact h
/-- a bound result: the first, then the rest from where it left -/
theorem Pst.bind {r : R α} {f : α → Sto → R β} {Q : β → Sto → Hp → List Addr → Hp → Prop} (h : Pst G W σ F ι H (r.bind f) Q) : Pst G W σ F ι H r fun a S1 F1 ι1 H1 => Pst G W σ F1 ι1 H1 (f a S1) Q := by
  cases r with
  | ok a S1 =>
    intro F1 ι1 H1 e l
    have h' : Pst G W σ F ι H (f a S1) Q := h
    cases q : f a S1 with
    | ok b S2 => rw [q] at h'; exact fun F2 ι2 H2 e2 l2 => h' F2 ι2 H2 (e.trans l e2) l2
    | exc c p S2 => rw [q] at h'; exact fun cls dd F2 ι2 H2 e2 l2 => h' cls dd F2 ι2 H2 (e.trans l e2) l2
    | stuck => rw [q] at h'; exact h'
  | exc c p S1 => exact h
  | stuck => exact h
theorem Pst.opt {o : Option α} {Q : α → Sto → Hp → List Addr → Hp → Prop} (h : Pst G W σ F ι H (Gx.opt o S) Q) : ∃ a, o = some a ∧ ∀ F' ι' H', Ext F ι H F' ι' H' → RL G S F' ι' H' → Q a S F' ι' H' := by
  cases o with
  | none => exact (show False from h).elim
  | some a => exact ⟨a, rfl, h⟩
/-! ### readings -/
def tE (G : Gl) (W : WX) (f : Env → Sto → R D) : TE := fun σ H Q => ∃ ρ S F ι, ER G F ι ρ σ ∧ RL G S F ι H ∧ Pst G W σ F ι H (f ρ S) fun d _ F' ι' H' => ∀ v, Rep G F' ι' d v → Q v H'
def tT (G : Gl) (W : WX) (f : Env → Sto → R Bool) : TT := fun σ H Q => ∃ ρ S F ι, ER G F ι ρ σ ∧ RL G S F ι H ∧ Pst G W σ F ι H (f ρ S) fun b _ _ _ H' => Q b H'
def tEs (G : Gl) (W : WX) (f : Env → Sto → R (List D)) : TA := fun σ H Q => ∃ ρ S F ι, ER G F ι ρ σ ∧ RL G S F ι H ∧ Pst G W σ F ι H (f ρ S) fun ds _ F' ι' H' => ∀ vs, RepL G F' ι' ds vs → Q vs H'
def tO (G : Gl) (W : WX) (f : Env → Sto → R (Option Int)) : L2.TO := fun σ H Q => ∃ ρ S F ι, ER G F ι ρ σ ∧ RL G S F ι H ∧ Pst G W σ F ι H (f ρ S) fun o _ _ _ H' => Q o H'
/-- a new list -/
def tF (G : Gl) (W : WX) (f : Env → Sto → R (List D)) : TE := fun σ H Q => ∃ ρ S F ι, ER G F ι ρ σ ∧ RL G S F ι H ∧ Pst G W σ F ι H (f ρ S) fun ds _ F' ι' H' => ∀ p vs, H' p = none → RepL G F' ι' ds vs → Q (.ref p) (upd H' p (.lst vs))
/-- what is walked yields these -/
def ItOk (G : Gl) (J : It) (l : List D) (F : Hp) (ι : List Addr) (H : Hp) : Prop := ∀ (i : Nat) (S' : Sto) (F' : Hp) (ι' : List Addr) (H' : Hp), Ext F ι H F' ι' H' → RL G S' F' ι' H' →
  (l.length ≤ i → J.stop i H') ∧ ∀ d, l[i]? = some d → J.go i H' ∧ ∀ x H'', J.yld i H' x H'' → ∃ F'', Ext F' ι' H' F'' ι' H'' ∧ RL G S' F'' ι' H'' ∧ Rep G F'' ι' d x
def tI (G : Gl) (W : WX) (f : Env → Sto → R Its) : TI := fun σ H R => ∃ ρ S F ι, ER G F ι ρ σ ∧ RL G S F ι H ∧ Pst G W σ F ι H (f ρ S) fun z _ F' ι' H' => match z with
  | .items l => ∀ J, ItOk G J l F' ι' H' → R J H'
  | .at_ k => ∀ a, ι'[k]? = some a → R (Itl G.K a) H'
/-- a target: what it leaves alone -/
def tG (G : Gl) (W : WX) (ns : List Nat) (f : D → Env → Sto → R Env) : TG := fun v σ H Q => ∃ d ρ S F ι, ER G F ι ρ σ ∧ RL G S F ι H ∧ Rep G F ι d v ∧ Pst G W σ F ι H (f d ρ S) fun ρ' _ F' ι' H' => ∀ σ', ER G F' ι' ρ' σ' → σ'.length = σ.length → (∀ i, i ∉ ns → σ'[i]? = σ[i]?) → Q σ' H'
def tGs (G : Gl) (W : WX) (ns : List Nat) (f : List D → Env → Sto → R Env) : TGs := fun vs σ H Q => ∃ ds ρ S F ι, ER G F ι ρ σ ∧ RL G S F ι H ∧ RepL G F ι ds vs ∧ Pst G W σ F ι H (f ds ρ S) fun ρ' _ F' ι' H' => ∀ σ', ER G F' ι' ρ' σ' → σ'.length = σ.length → (∀ i, i ∉ ns → σ'[i]? = σ[i]?) → Q σ' H'
theorem pe_weak {X : Cx} {e : Expr} {t t' : TE} (h : PE X e t) (k : ∀ σ H Q, t' σ H Q → t σ H Q) : PE X e t' := ⟨fun pins s σ H Q I q => h.run pins s σ H Q I (k _ _ _ q)⟩
theorem pt_weak {X : Cx} {e : Expr} {t t' : TT} (h : PT X e t) (k : ∀ σ H Q, t' σ H Q → t σ H Q) : PT X e t' := ⟨fun pins s σ H Q I q => h.run pins s σ H Q I (k _ _ _ q)⟩
theorem pw_weak {X : Cx} {e : Expr} {t t' : TT} (h : PW X e t) (k : ∀ σ H Q, t' σ H Q → t σ H Q) : PW X e t' := ⟨fun wh pins s σ H Q I q => h.run wh pins s σ H Q I (k _ _ _ q)⟩
theorem pa_weak {X : Cx} {e : List Expr} {t t' : TA} (h : PA X e t) (k : ∀ σ H Q, t' σ H Q → t σ H Q) : PA X e t' := ⟨fun pos pins s σ H Q I q => h.run pos pins s σ H Q I (k _ _ _ q)⟩
theorem pi_weak {X : Cx} {tg e : Expr} {t t' : TI} (h : PI X tg e t) (k : ∀ σ H Q, t' σ H Q → t σ H Q) : PI X tg e t' := ⟨fun pins s σ H Q I q => h.run pins s σ H Q I (k _ _ _ q)⟩
theorem pg_weak {X : Cx} {e : Expr} {t t' : TG} (h : PG X e t) (k : ∀ v σ H Q, t' v σ H Q → t v σ H Q) : PG X e t' := ⟨fun pins s σ H v u Q I r q => h.run pins s σ H v u Q I r (k _ _ _ _ q)⟩
theorem pgs_weak {X : Cx} {e : List Expr} {t t' : TGs} (h : PGs X e t) (k : ∀ v σ H Q, t' v σ H Q → t v σ H Q) : PGs X e t' := ⟨fun pins s σ H v u Q I r q => h.run pins s σ H v u Q I r (k _ _ _ _ q)⟩
theorem ps_weak {X : Cx} {e : Stmt} {t t' : TS} (h : PS X e t) (k : ∀ D σ H, t' D σ H → t D σ H) : PS X e t' := ⟨fun pins s σ H D I q => h.run pins s σ H D I (k _ _ _ q)⟩
theorem pss_weak {X : Cx} {e : List Stmt} {t t' : TS} (h : PSs X e t) (k : ∀ D σ H, t' D σ H → t D σ H) : PSs X e t' := ⟨fun pins s σ H D I q => h.run pins s σ H D I (k _ _ _ q)⟩
end
/-! ### functions -/
/-- what a function of the evaluator promises -/
def spF (G : Gl) (np : Nat) (c : List D → Sto → R D) : Sp := fun vs H Q E => vs.length = np ∧ ∃ ds S F ι, RL G S F ι H ∧ RepL G F ι ds vs ∧ Pst G (fun cls dd _ H' => E cls dd H') [] F ι H (c ds S) fun d _ F' ι' H' => ∀ v, Rep G F' ι' d v → Q v H'
/-- how its arguments bind -/
def BindU (fd : FuncData) (ps : List Str) : Prop := ∀ (s : Shared) (us : List Value), us.length = ps.length → BindsTo s fd ⟨us, []⟩ (ps.zip us)
/-- a promise kept where no text is being shown -/
structure FnG (P : Program) (w : World) (K : PySem.W.Frag) (mg : Str → Option Value) (base : Heap) (rp : Bool) (k : Nat) (f : Addr) (fd : FuncData) (ps : List Str) (sp : Sp) : Prop where
  len : ∀ vs H Q E, sp vs H Q E → vs.length = ps.length
  run : ∀ (A : Around) (outer : List PySem.Env) (s : Shared) (H : Hp) (args : Args) (us : List Value) (vs : List V) (Q : VK) (E : XK), Room k A → (rp = true → A.guards = some []) → Env0 P w K mg base A outer s H → BindsTo s fd args (ps.zip us) → Vals vs us → sp vs H Q E →
    codeAny (model P w) A (.call (.ref f) args) (CR (L2.CX P w) outer P w H s Q E) s
section
variable {X : Cx} {W : WX} {k : Nat} {f : Addr} {fd : FuncData} {ps : List Str} {sp : Sp} {pins : List (Addr × Obj)} {σ : L2.St} {H : Hp} {s : Shared}
theorem run_g {Q : VK} {vs : List V} {us : List Value} {rp : Bool} (fn : FnG X.prog X.w X.K X.mg X.base rp k f fd ps sp) (tk : Takes X W) (hr : Room k X.A) (hg : rp = true → X.A.guards = some []) (hb : BindU fd ps) (I : Inv X pins σ H s) (rel : Vals vs us)
    (h : sp vs H Q fun cls d H' => W cls d σ H') : wpAny (model X.prog X.w) X.A (call (.ref f) us) (EP X pins σ Q) X.xe s := by
  have same : us.length = ps.length := rel.length.symm.trans (fn.len _ _ _ _ h)
  have bd : BindsTo s fd ⟨us, []⟩ (ps.zip us) := by
    exact hb s us same
  have c := fn.run X.A X.stack s H ⟨us, []⟩ us vs Q _ hr hg I.env0 bd rel h
  refine wpAny_call (codeAny_mono c ?_)
  intro res s2 q
  rcases res with e | fl
  · exact tk e s2 (XE.of_call I (fun _ _ _ z => z) q)
  · cases fl with
    | ret u => exact I.after q
    | _ => exact (show False from q).elim
end
end Gx
set_option Elab.async false
set_option linter.all false
set_option maxRecDepth 100000
set_option maxHeartbeats 1000000
/-! Gx: does a core term tell a text? -/
namespace Gx
open PySem PySem.Spec PyProof.Rows L2
mutual
def beqD : D → D → Bool
  | .non, .non => true
  | .bl a, .bl b => a == b
  | .int a, .int b => a == b
  | .str a, .str b => a == b
  | .tup a, .tup b => beqDL a b
  | .fn a, .fn b => a == b
  | _, _ => false
def beqDL : List D → List D → Bool
  | [], [] => true
  | a :: as, b :: bs => beqD a b && beqDL as bs
  | _, _ => false
end
mutual
theorem beqD_eq : ∀ {a b : D}, beqD a b = true → a = b
  | .non, b, h => by cases b <;> first | rfl | (simp [beqD] at h)
  | .bl a, b, h => by cases b <;> first | (simp [beqD] at h; subst h; rfl) | (simp [beqD] at h)
  | .int a, b, h => by cases b <;> first | (simp [beqD] at h; subst h; rfl) | (simp [beqD] at h)
  | .str a, b, h => by cases b <;> first | (simp [beqD] at h; subst h; rfl) | (simp [beqD] at h)
  | .tup a, b, h => by
    cases b <;> first | (simp only [beqD] at h; rw [beqDL_eq h]) | (simp [beqD] at h)
  | .fn a, b, h => by cases b <;> first | (simp [beqD] at h; subst h; rfl) | (simp [beqD] at h)
  | .lst a, b, h => by cases b <;> simp [beqD] at h
  | .scr a, b, h => by cases b <;> simp [beqD] at h
  | .loc a, b, h => by cases b <;> simp [beqD] at h
  | .ty a, b, h => by cases b <;> simp [beqD] at h
theorem beqDL_eq : ∀ {a b : List D}, beqDL a b = true → a = b
  | [], [], _ => rfl
  | a :: as, b :: bs, h => by
    simp only [beqDL, Bool.and_eq_true] at h
    rw [beqD_eq h.1, beqDL_eq h.2]
  | [], _ :: _, h => by simp [beqDL] at h
  | _ :: _, [], h => by simp [beqDL] at h
end
/-- the tables a text is matched against -/
structure Mx where
  N : List Str
  fns : List Str
  gs : List Str
  glob : List (Str × D)
  free : List Str
  rps : List Nat
def vis (sc : Scope) (x : Str) : Bool := match sc.names.lookup x with
  | some .local => true | some .cell => true | some .free => true
  | _ => false
def isGl (sc : Scope) (x : Str) : Bool := match sc.names.lookup x with
  | some .globalImplicit => true
  | _ => false
def nd (x : Str) : Bool := !(x == ("__debug__" : Str)) && !(x == ("__classdict__" : Str)) && !(x == ("__name__" : Str))
def biN : Bi → Str
  | .len => "len" | .tuple => "tuple" | .all => "all" | .any => "any" | .abs => "abs" | .int => "int" | .max2 => "max" | .min2 => "min" | .sum => "sum" | .repr => "repr"
def tyN : Ty → Str
  | .int => "int" | .bool => "bool" | .str => "str" | .tuple => "tuple" | .list => "list"
structure Sc where
  s : Scope
  lam : Bool
  rp : Bool
/-- a built-in's name as it stands here -/
def bltn (M : Mx) (sc : Sc) (x : Str) : Bool := isGl sc.s x && M.free.contains x && nd x
def mTy (M : Mx) (sc : Sc) (t : Ty) : Expr → Bool
  | .Name x _ => decide (x = tyN t) && bltn M sc x
  | _ => false
def mTys (M : Mx) (sc : Sc) : List Ty → List Expr → Bool
  | [], [] => true
  | t :: ts, e :: es => mTy M sc t e && mTys M sc ts es
  | _, _ => false
def mIsi (M : Mx) (sc : Sc) (ts : List Ty) : Expr → Bool
  | .Name z p => match ts with
    | [t] => mTy M sc t (.Name z p)
    | _ => false
  | .Tuple es _ _ => mTys M sc ts es
  | _ => false
def plainIxB : Expr → Bool
  | .Slice .. => false
  | _ => true
def plainTB : Expr → Bool
  | .UnaryOp .Not .. => false | .BoolOp .. => false | .IfExp .. => false | .Compare .. => false
  | _ => true
def isTupX : Expr → Bool
  | .Tuple .. => true
  | _ => false
def okX : Expr → Bool
  | .Starred .. => false | .Set .. => false | .Slice .. => false
  | _ => true
def argB (a : Arguments) (ps : List Str) : Bool := a.posonlyargs.isEmpty && decide (a.args.map (·.arg) = ps) && a.vararg.isNone && a.kwonlyargs.isEmpty && a.kwarg.isNone && decide ps.Nodup
/-! names of a target -/
mutual
def tgN : CTg → List Nat
  | .nm i => [i]
  | .tp ts => tgNs ts
  | .sub _ _ => []
def tgNs : CTgs → List Nat
  | .nil => []
  | .cons t r => tgN t ++ tgNs r
end
mutual
def mE (M : Mx) (sc : Sc) : CE → Expr → Bool
  | .var i, e => match e with
    | .Name x _ => decide (M.N[i]? = some x) && vis sc.s x && nd x
    | _ => false
  | .cst c, e => match e with
    | .Constant k _ _ => match c, k with
      | .non, .none => true
      | .bl a, .bool b => a == b
      | .int a, .int b => decide (a = b)
      | .str a, .str b => decide (a = b)
      | _, _ => false
    | _ => false
  | .glob x d, e => match e with
    | .Name y _ => decide (y = x) && isGl sc.s x && nd x && (match M.glob.lookup x with | some d' => beqD d d' | none => false)
    | _ => false
  | .bop op a b, e => match e with
    | .BinOp a' op' b' _ => decide (op' = op) && mE M sc a a' && mE M sc b b'
    | _ => false
  | .neg a, e => match e with
    | .UnaryOp .USub a' _ => mE M sc a a'
    | _ => false
  | .notV a, e => match e with
    | .UnaryOp .Not a' _ => mE M sc a a'
    | _ => false
  | .cmp op a b, e => match e with
    | .Compare a' [op'] [b'] _ => decide (op' = op) && mE M sc a a' && mE M sc b b'
    | _ => false
  | .chain o1 o2 a b c, e => match e with
    | .Compare a' [o1', o2'] [b', c'] _ => decide (o1' = o1) && decide (o2' = o2) && mE M sc a a' && mE M sc b b' && mE M sc c c'
    | _ => false
  | .andV a b, e => match e with
    | .BoolOp .And [a', b'] _ => mE M sc a a' && mE M sc b b'
    | .BoolOp .And (a' :: b' :: c' :: r) pos => mE M sc a a' && mE M sc b (.BoolOp .And (b' :: c' :: r) pos)
    | _ => false
  | .orV a b, e => match e with
    | .BoolOp .Or [a', b'] _ => mE M sc a a' && mE M sc b b'
    | .BoolOp .Or (a' :: b' :: c' :: r) pos => mE M sc a a' && mE M sc b (.BoolOp .Or (b' :: c' :: r) pos)
    | _ => false
  | .ife t a b, e => match e with
    | .IfExp t' a' b' _ => mT M sc t t' && mE M sc a a' && mE M sc b b'
    | _ => false
  | .tup es, e => match e with
    | .Tuple es' _ _ => mEs M sc es es'
    | _ => false
  | .fl f, e => mF M sc f e
  | .ml f, e => mF M sc f e
  | .ix a b, e => match e with
    | .Subscript a' b' _ => mE M sc a a' && mE M sc b b'
    | _ => false
  | .sl a lo hi, e => match e with
    | .Subscript a' (.Slice lo' hi' none _) _ => mE M sc a a' && mO M sc lo lo' && mO M sc hi hi'
    | _ => false
  | .rev a, e => match e with
    | .Subscript a' (.Slice none none (some (.UnaryOp .USub (.Constant (.int i) _ _) _)) _) _ => decide (i = 1) && mE M sc a a'
    | _ => false
  | .call f x es, e => match e with
    | .Call (.Name y _) es' [] _ => decide (y = x) && isGl sc.s x && nd x && decide (M.fns[f]? = some x) && (!M.rps.contains f || sc.rp) && mEs M sc es es'
    | _ => false
  | .callv i es, e => match e with
    | .Call (.Name y _) (e' :: es') [] _ => decide (M.N[i]? = some y) && vis sc.s y && nd y && (M.rps.isEmpty || sc.rp) && mEs M sc es (e' :: es')
    | _ => false
  | .lam g x b, e => match e with
    | .Call (.Name y _) [.Lambda ps body lsc _] [] _ => decide (y = x) && isGl sc.s x && nd x && decide (M.gs[g]? = some x) && sc.lam && LamX.lamSB sc.s lsc && argB ps [] && ps.defaults.isEmpty && ps.kw_defaults.isEmpty && mE M ⟨lsc, false, false⟩ b body
    | _ => false
  | .bi b es, e => match e with
    | .Call (.Name y _) (e' :: es') [] _ => decide (y = biN b) && bltn M sc y && (decide (b ≠ .repr) || sc.rp) && mEs M sc es (e' :: es')
    | _ => false
  | .isi a ts, e => match e with
    | .Call (.Name y _) [a', T] [] _ => decide (y = "isinstance") && bltn M sc y && decide (ts.length ≤ 8) && mE M sc a a' && mIsi M sc ts T
    | _ => false
def mEs (M : Mx) (sc : Sc) : CEs → List Expr → Bool
  | .nil, es => match es with
    | [] => true
    | _ => false
  | .cons a r, es => match es with
    | e :: es' => mE M sc a e && mEs M sc r es'
    | _ => false
def mO (M : Mx) (sc : Sc) : CO → Option Expr → Bool
  | .non, e => match e with
    | none => true
    | _ => false
  | .som a, e => match e with
    | some a' => mE M sc a a'
    | _ => false
def mT (M : Mx) (sc : Sc) : CT → Expr → Bool
  | .cmp op a b, e => match e with
    | .Compare a' [op'] [b'] _ => decide (op' = op) && mE M sc a a' && mE M sc b b'
    | _ => false
  | .chain o1 o2 a b c, e => match e with
    | .Compare a' [o1', o2'] [b', c'] _ => decide (o1' = o1) && decide (o2' = o2) && mE M sc a a' && mE M sc b b' && mE M sc c c'
    | _ => false
  | .not t, e => match e with
    | .UnaryOp .Not a' _ => mT M sc t a'
    | _ => false
  | .and t u, e => match e with
    | .BoolOp .And [a', b'] _ => mT M sc t a' && mT M sc u b'
    | .BoolOp .And (a' :: b' :: c' :: r) pos => mT M sc t a' && mT M sc u (.BoolOp .And (b' :: c' :: r) pos)
    | _ => false
  | .or t u, e => match e with
    | .BoolOp .Or [a', b'] _ => mT M sc t a' && mT M sc u b'
    | .BoolOp .Or (a' :: b' :: c' :: r) pos => mT M sc t a' && mT M sc u (.BoolOp .Or (b' :: c' :: r) pos)
    | _ => false
  | .tru a, e => plainTB e && mE M sc a e
def mTo (M : Mx) (sc : Sc) : CTo → List Expr → Bool
  | .non, es => match es with
    | [] => true
    | _ => false
  | .som t, es => match es with
    | [e] => mT M sc t e
    | _ => false
def mF (M : Mx) (sc : Sc) : CF → Expr → Bool
  | .disp es, e => match e with
    | .List es' _ => mEs M sc es es'
    | _ => false
  | .comp own tg it t el, e => match e with
    | .ListComp el' [⟨tg', it', ifs, 0⟩] csc _ => mI M sc tg' it it' && blkC M.N sc.s csc (own.filterMap fun i => (M.N[i]?).map fun x => (x, i)) && decide ((own.filterMap fun i => (M.N[i]?).map fun x => (x, i)).map (·.2) = own) &&
        ((tgN tg).all fun i => own.contains i) && mTg M csc ⟨relS csc sc.s, sc.lam, sc.rp⟩ tg tg' && mTo M ⟨relS csc sc.s, sc.lam, sc.rp⟩ t ifs && mE M ⟨relS csc sc.s, sc.lam, sc.rp⟩ el el'
    | _ => false
  | .op o a b, e => match e with
    | .BinOp a' op' b' _ => decide (op' = o) && mE M sc a a' && mE M sc b b'
    | _ => false
  | .ofs a, e => match e with
    | .Call (.Name y _) [a'] [] _ => decide (y = "list") && bltn M sc y && mE M sc a a'
    | _ => false
  | .sl a lo hi, e => match e with
    | .Subscript a' (.Slice lo' hi' none _) _ => mE M sc a a' && mO M sc lo lo' && mO M sc hi hi'
    | _ => false
  | .zips a b, e => match e with
    | .Call (.Name y _) [.Call (.Name y2 _) [a', b'] [] _] [] _ => decide (y = "list") && decide (y2 = "zip") && bltn M sc y && bltn M sc y2 && mE M sc a a' && mE M sc b b'
    | _ => false
def mI (M : Mx) (sc : Sc) (tg : Expr) : CI → Expr → Bool
  | .seq a, e => mE M sc a e
  | .rng1 a, e => match e with
    | .Call (.Name y _) [a'] [] _ => decide (y = "range") && bltn M sc y && mE M sc a a'
    | _ => false
  | .rng2 a b, e => match e with
    | .Call (.Name y _) [a', b'] [] _ => decide (y = "range") && bltn M sc y && mE M sc a a' && mE M sc b b'
    | _ => false
  | .zip a b, e => match e with
    | .Call (.Name y _) [a', b'] [] _ => decide (y = "zip") && isTupX tg && bltn M sc y && mE M sc a a' && mE M sc b b'
    | _ => false
  | .enum a, e => match e with
    | .Call (.Name y _) [a'] [] _ => decide (y = "enumerate") && isTupX tg && bltn M sc y && mE M sc a a'
    | _ => false

def mTg (M : Mx) (osc : Scope) (sc : Sc) : CTg → Expr → Bool
  | .nm i, e => match e with
    | .Name x _ => decide (M.N[i]? = some x) && (decide (osc.names.lookup x = some .local) || decide (osc.names.lookup x = some .cell)) && (decide (sc.s.names.lookup x = some .local) || decide (sc.s.names.lookup x = some .cell))
    | _ => false
  | .tp ts, e => match e with
    | .Tuple es _ _ => mTgs M osc sc ts es
    | _ => false
  | .sub a b, e => match e with
    | .Subscript a' b' _ => plainIxB b' && mE M sc a a' && mE M sc b b'
    | _ => false
def mTgs (M : Mx) (osc : Scope) (sc : Sc) : CTgs → List Expr → Bool
  | .nil, es => match es with
    | [] => true
    | _ => false
  | .cons t r, es => match es with
    | e :: es' => mTg M osc sc t e && mTgs M osc sc r es'
    | _ => false
end
/-! what is matched is a plain expression -/
theorem mF_ok (M : Mx) (sc : Sc) (f : CF) (e : Expr) (h : mF M sc f e = true) : okX e = true := by
  cases f <;> simp only [mF] at h <;> split at h <;> first | rfl | cases h
theorem mE_ok (M : Mx) (sc : Sc) (c : CE) (e : Expr) (h : mE M sc c e = true) : okX e = true := by
  cases c
  case fl f => exact mF_ok M sc f e (by simpa only [mE] using h)
  case ml f => exact mF_ok M sc f e (by simpa only [mE] using h)
  all_goals (simp only [mE] at h; split at h <;> first | rfl | cases h)
theorem mI_ok (M : Mx) (sc : Sc) (tg : Expr) (c : CI) (e : Expr) (h : mI M sc tg c e = true) : okX e = true := by
  cases c
  case seq a => exact mE_ok M sc a e (by simpa only [mI] using h)
  all_goals (simp only [mI] at h; split at h <;> first | rfl | cases h)
theorem star_of {e : Expr} {es : List Expr} {env : PySem.Env} (h : okX e = true) : starEach (e :: es) env = (false, eval e env) :: starEach es env := by
  cases e <;> first | rfl | cases h
theorem mEs_plain (M : Mx) (sc : Sc) (env : PySem.Env) (pos : Pos) : ∀ (c : CEs) (es : List Expr), mEs M sc c es = true → (backTo pos (starEach es env)).any (·.1) = false
  | .nil, es, h => by
    simp only [mEs] at h
    split at h
    · rfl
    · cases h
  | .cons a r, es, h => by
    simp only [mEs] at h
    split at h
    · rename_i e es'
      rw [Bool.and_eq_true] at h
      rw [star_of (mE_ok M sc a e h.1)]
      exact mEs_plain M sc env pos r es' h.2
    · cases h
theorem mark_of {op : CmpOp} {e : Expr} (h : okX e = true) : behindInMarks op e = false := by
  cases e <;> first | rfl | cases h
theorem ix_of {e : Expr} (h : okX e = true) : PlainIx e := by
  intro o i
  cases e <;> first | rfl | cases h
theorem tr_of {e : Expr} {env : PySem.Env} (h : plainTB e = true) : ∀ whole, isTrue e env whole = (do let v ← whole; standAt e.pos; holding [v] (truthy v)) := by
  intro whole
  cases e
  case UnaryOp op a p => cases op <;> first | rfl | cases h
  all_goals first | rfl | cases h
theorem fold_of {e : Expr} {env : PySem.Env} (h : okX e = true) : ∀ x, foldedSetIterable e env x = pure x := by
  intro x
  cases e <;> first | rfl | cases h
end Gx
set_option Elab.async false
set_option linter.all false
set_option maxRecDepth 100000
set_option maxHeartbeats 2000000
/-! Gx: expressions keep to the machine. -/
namespace Gx
open PySem PySem.Spec PyProof.Rows L2
structure Good (G : Gl) (P : Program) (w : World) (base : Heap) (k : Nat) (M : Mx) (sc : Scope) (X : Cx) : Prop where
  pP : X.prog = P
  pw : X.w = w
  pb : X.base = base
  pK : X.K = G.K
  pm : X.mg = G.mg
  pN : X.N = M.N
  nd : X.N.Nodup
  sc : X.env.scope = sc
  calm : X.calm = true
  room : Room k X.A
def FnsOk (G : Gl) (P : Program) (w : World) (base : Heap) (k : Nat) (call : Nat → List D → Sto → R D) : Prop := ∀ f x, G.names[f]? = some x →
  ∃ a fd ps, G.mg x = some (.ref a) ∧ PySem.W.keepIn G.K (.ref a) = true ∧ BindU fd ps ∧ (∀ ds S, ds.length ≠ ps.length → call f ds S = .stuck) ∧ FnG P w G.K G.mg base (G.rps.contains f) k a fd ps (spF G ps.length (call f))
structure LamOk (G : Gl) (X : Cx) : Prop where
  ex : ∃ c P, LamX.TabB X.base X.mg c P ∧ X.env.code = .ref c ∧ (P, X.env.qual ++ "<lambda>") ∈ G.T ∧ ∀ p ∈ G.T, p.1 = P → p.2 = X.env.qual ++ "<lambda>"
/-- what the flags of a scope stand for -/
def Hl (G : Gl) (k j : Nat) (sc : Sc) (X : Cx) : Prop := (sc.lam = true → k + 2 ≤ j ∧ LamOk G X) ∧ (sc.rp = true → X.A.guards = some [])
def LamProp (G : Gl) (M : Mx) (P : Program) (w : World) (base : Heap) (k : Nat) (O : Orc) : Prop := ∀ (X : Cx) (W : WX) (sc : Sc) (g : Nat) (x : Str) (b : CE) (e : Expr), Good G P w base (k + 2) M sc.s X → LamOk G X → Takes X W → mE M sc (.lam g x b) e = true →
    (∀ (X : Cx) (W : WX) (sc : Scope) (e : Expr), Good G P w base k M sc X → Takes X W → mE M ⟨sc, false, false⟩ b e = true → PE X e (tE G W fun ρ S => evE O b ρ S)) → PE X e (tE G W fun ρ S => evE O (.lam g x b) ρ S)
structure Amb (G : Gl) (M : Mx) (P : Program) (w : World) (base : Heap) (k : Nat) (O : Orc) : Prop where
  nm : M.fns = G.names
  rps : M.rps = G.rps
  glob : ∀ x d, M.glob.lookup x = some d → ∃ u v, G.mg x = some u ∧ RelV v u ∧ ∀ F ι, Rep G F ι d v
  free : ∀ x, M.free.contains x = true → G.mg x = none
  fns : FnsOk G P w base k O.call
  lam : LamProp G M P w base k O
/-! ### names of the scope -/
theorem vis_of {sc : Scope} {x : Str} (h : vis sc x = true) : Vis sc x := by
  unfold vis at h
  split at h
  · exact .inl (by assumption)
  · exact .inr (.inl (by assumption))
  · exact .inr (.inr (by assumption))
  · cases h
theorem gl_of {sc : Scope} {x : Str} (h : isGl sc x = true) : sc.names.lookup x = some .globalImplicit := by
  unfold isGl at h
  split at h
  · assumption
  · cases h
theorem nd_of {x : Str} (h : nd x = true) : (x == ("__debug__" : Str)) = false ∧ (x == ("__classdict__" : Str)) = false ∧ x ≠ "__name__" := by
  unfold nd at h
  simp only [Bool.and_eq_true, Bool.not_eq_true'] at h
  exact ⟨h.1.1, h.1.2, by have := h.2; simpa using this⟩
section
variable {G : Gl} {M : Mx} {P : Program} {w : World} {base : Heap} {k : Nat} {O : Orc} {X : Cx} {W : WX} {sc : Scope} {σ : L2.St} {H : Hp} {Q : VK}
theorem Good.gl (g : Good G P w base k M sc X) {x : Str} (h : isGl sc x = true) : L2.Gl X x := by
  show X.env.kindOf x = _
  unfold Env.kindOf
  rw [g.sc]
  exact gl_of h
theorem Good.mono {j : Nat} (g : Good G P w base k M sc X) (h : j ≤ k) : Good G P w base j M sc X := ⟨g.pP, g.pw, g.pb, g.pK, g.pm, g.pN, g.nd, g.sc, g.calm, g.room.mono h⟩
theorem Good.hu (g : Good G P w base k M sc X) : X.A.units + 65 < cLine := by have := g.room.un; omega
theorem tE_two {fa fb : Env → Sto → R D} {kk : D → D → Sto → R D} {r : R2}
    (hr : ∀ x y H Q dx dy S F ι σ, RL G S F ι H → Rep G F ι dx x → Rep G F ι dy y → Pst G W σ F ι H (kk dx dy S) (fun d _ F' ι' H' => ∀ v, Rep G F' ι' d v → Q v H') → r x y H Q)
    (h : tE G W (fun ρ S => (fa ρ S).bind fun x S1 => (fb ρ S1).bind fun y S2 => kk x y S2) σ H Q) : tOp r (tE G W fa) (tE G W fb) σ H Q := by
  obtain ⟨ρ, S, F, ι, er, rl, p⟩ := h
  refine ⟨ρ, S, F, ι, er, rl, p.bind.imp fun dx S1 F1 ι1 H1 e1 l1 p1 x rx => ?_⟩
  refine ⟨ρ, S1, F1, ι1, er.ext e1, l1, p1.bind.imp fun dy S2 F2 ι2 H2 e2 l2 p2 y ry => ?_⟩
  exact hr x y H2 Q dx dy S2 F2 ι2 σ l2 (e2.rep rx) ry p2
theorem tE_one {fa : Env → Sto → R D} {kk : D → Sto → R D} {r : V → Hp → VK → Prop}
    (hr : ∀ x H Q dx S F ι σ, RL G S F ι H → Rep G F ι dx x → Pst G W σ F ι H (kk dx S) (fun d _ F' ι' H' => ∀ v, Rep G F' ι' d v → Q v H') → r x H Q)
    (h : tE G W (fun ρ S => (fa ρ S).bind fun x S1 => kk x S1) σ H Q) : tE G W fa σ H fun x H1 => r x H1 Q := by
  obtain ⟨ρ, S, F, ι, er, rl, p⟩ := h
  refine ⟨ρ, S, F, ι, er, rl, p.bind.imp fun dx S1 F1 ι1 H1 e1 l1 p1 x rx => ?_⟩
  exact hr x H1 Q dx S1 F1 ι1 σ l1 rx p1
theorem b_all (hK : X.K = G.K) (op : Operator) (hne : op ≠ .Mult) : OpR X (binaryOp op) (rB G op) := by
  cases op
  · exact b_add hK
  · exact b_sub
  · exact absurd rfl hne
  · exact b_none fun dx dy => by cases dx <;> cases dy <;> rfl
  · exact b_none fun dx dy => by cases dx <;> cases dy <;> rfl
  · exact b_mod
  · exact b_pow
  · exact b_shl
  · exact b_shr
  · exact b_none fun dx dy => by cases dx <;> cases dy <;> rfl
  · exact b_xor
  · exact b_and
  · exact b_fdiv
/-- results that are truths -/
theorem Pst.blD {o : Option Bool} {S : Sto} {F : Hp} {ι : List Addr} (p : Pst G W σ F ι H (Gx.opt (o.map D.bl) S) fun d _ F' ι' H' => ∀ v, Rep G F' ι' d v → Q v H') (rl : RL G S F ι H) : ∃ c, o = some c ∧ Q (.bl c) H := by
  obtain ⟨d, e, q⟩ := p.opt
  rw [Option.map_eq_some_iff] at e
  obtain ⟨c, e1, rfl⟩ := e
  exact ⟨c, e1, q F ι H Ext.refl rl _ rfl⟩
theorem tEs_cons {a : CE} {r : CEs} {t : TA} {Q : List V → Hp → Prop} (hr : ∀ σ H Q, tEs G W (fun ρ S => evEs O r ρ S) σ H Q → t σ H Q) (h : tEs G W (fun ρ S => evEs O (.cons a r) ρ S) σ H Q) : tCons (tE G W fun ρ S => evE O a ρ S) t σ H Q := by
  obtain ⟨ρ, S, F, ι, er, rl, p⟩ := h
  simp only [evEs] at p
  refine ⟨ρ, S, F, ι, er, rl, p.bind.imp fun dx S1 F1 ι1 H1 e1 l1 p1 x rx => hr _ _ _ ?_⟩
  refine ⟨ρ, S1, F1, ι1, er.ext e1, l1, p1.bind.imp fun ds S2 F2 ι2 H2 e2 l2 p2 vs rs => ?_⟩
  exact p2 F2 ι2 H2 Ext.refl l2 _ ⟨x, vs, rfl, e2.rep rx, rs⟩
def tyS : Ty → String
  | .int => "int" | .bool => "bool" | .str => "str" | .tuple => "tuple" | .list => "list"
theorem ty_bltn {j : Nat} {sc : Sc} (A : Amb G M P w base k O) (g : Good G P w base j M sc.s X) {t : Ty} {z : Str} {p : Pos} (h : mTy M sc t (.Name z p) = true) : PE X (.Name z p) (tC (.ty (tyS t))) := by
  simp only [mTy, bltn, Bool.and_eq_true, decide_eq_true_eq] at h
  obtain ⟨rfl, ⟨h1, h2⟩, h3⟩ := h
  obtain ⟨n1, n2, n3⟩ := nd_of h3
  have hb : bootBuiltins (tyN t) = some (.type (tyS t)) := by cases t <;> decide +kernel
  exact pe_bltn (g.gl h1) (by rw [g.pm]; exact A.free _ h2) hb rfl n3 n1
theorem rep_len {F : Hp} {ι : List Addr} {ds : List D} {vs : List V} (l : RepL G F ι ds vs) (h : ds.length ≤ sz) : vs.length ≤ sizeLine := by rw [← l.length, ← sz_eq]; exact h
/-! ### isinstance -/
theorem isi_ty {S : Sto} {F : Hp} {ι : List Addr} {H : Hp} {d : D} {v : V} {ts : List Ty} {b : Bool} (r : RL G S F ι H) (h : RepH G F ι H d v) (e : isiD d ts = some b) :
    ∃ t, TyX G.K H v t ∧ ∀ K, PySem.W.kitAny K t (ts.map fun t => .type (tyS t)) = some b := by
  have go : ∀ (K : PySem.W.Frag) (t : Value) (p : Ty → Bool), (∀ q, PySem.W.kitOne K t (.type (tyS q)) = some (p q)) → ∀ l : List Ty, PySem.W.kitAny K t (l.map fun t => .type (tyS t)) = some (l.any p) := by
    intro K t p hp l
    induction l with
    | nil => rfl
    | cons q l ih =>
      rw [List.map_cons, List.any_cons]
      unfold PySem.W.kitAny
      rw [hp q]
      cases p q with
      | true => rfl
      | false => exact ih
  cases d with
  | non => cases (show v = _ from h); cases e; refine ⟨_, .base .non, fun K => ?_⟩; rw [go K _ (fun _ => false) (fun q => by cases q <;> rfl)]; simp
  | bl c => cases (show v = _ from h); cases e; exact ⟨_, .base (.bl c), fun K => go K _ _ (fun q => by cases q <;> rfl) ts⟩
  | int c => cases (show v = _ from h); cases e; exact ⟨_, .base (.int c), fun K => go K _ _ (fun q => by cases q <;> rfl) ts⟩
  | str c => cases (show v = _ from h); cases e; exact ⟨_, .base (.str c), fun K => go K _ _ (fun q => by cases q <;> rfl) ts⟩
  | tup c =>
    obtain ⟨a, vs, rfl, q, l⟩ := h
    cases e
    rcases r.sqT q with (z | ⟨o, z⟩) | ⟨o, its, n, z1, z2, z3⟩
    · exact ⟨_, .base (.tup z), fun K => go K _ _ (fun q => by cases q <;> rfl) ts⟩
    · exact ⟨_, .fTuple z, fun K => go K _ _ (fun q => by cases q <;> rfl) ts⟩
    · exact ⟨_, .kTuple z1 z2, fun K => go K _ _ (fun q => by cases q <;> rfl) ts⟩
  | lst c =>
    obtain ⟨a, vs, rfl, q, l⟩ := h
    cases e
    exact ⟨_, .base (.lst q), fun K => go K _ _ (fun q => by cases q <;> rfl) ts⟩
  | _ => simp only [isiD] at e; cases e
end
end Gx
set_option Elab.async false
set_option linter.all false
set_option maxRecDepth 100000
set_option maxHeartbeats 4000000
/-! Gx: expressions keep to the machine, all of them. -/
namespace Gx
open PySem PySem.Spec PyProof.Rows L2
variable {G : Gl} {M : Mx} {P : Program} {w : World} {base : Heap} {k j : Nat} {O : Orc} {X : Cx} {W : WX} {sc : Sc} {σ : L2.St} {H : Hp}
theorem Good.gl' (g : Good G P w base j M sc.s X) {x : Str} (h : isGl sc.s x = true) : L2.Gl X x := g.gl h
theorem bl_free (A : Amb G M P w base k O) (g : Good G P w base j M sc.s X) {x : Str} (h : bltn M sc x = true) : L2.Gl X x ∧ X.mg x = none ∧ (x == ("__debug__" : Str)) = false ∧ x ≠ "__name__" := by
  simp only [bltn, Bool.and_eq_true] at h
  obtain ⟨n1, _, n3⟩ := nd_of h.2
  exact ⟨g.gl h.1.1, by rw [g.pm]; exact A.free _ h.1.2, n1, n3⟩
/-- the callee, from the arguments on -/
theorem call_fin (A : Amb G M P w base k O) (hj : k ≤ j) (g : Good G P w base j M sc.s X) (tk : Takes X W) {f : Nat} {x : Str} (hx : G.names[f]? = some x) (hr : G.rps.contains f = true → X.A.guards = some []) : ∃ a, G.mg x = some (.ref a) ∧ PySem.W.keepIn X.K (.ref a) = true ∧
    ∀ {pins : List (Addr × Obj)} {us : List Value} {s1 : Shared} {vs : List V} {H1 : Hp} {ds : List D} {S1 : Sto} {F1 : Hp} {ι1 : List Addr} {Q : VK}, Inv X pins σ H1 s1 → Vals vs us → RL G S1 F1 ι1 H1 → RepL G F1 ι1 ds vs →
      Pst G W σ F1 ι1 H1 (O.call f ds S1) (fun d _ F' ι' H' => ∀ v, Rep G F' ι' d v → Q v H') → wpAny (model X.prog X.w) X.A (call (.ref a) us) (EP X pins σ Q) X.xe s1 := by
  obtain ⟨a, fd, ps, m, kp, bd, ar, fn⟩ := A.fns f x hx
  have fn' : FnG X.prog X.w X.K X.mg X.base (G.rps.contains f) k a fd ps (spF G ps.length (O.call f)) := by rw [g.pP, g.pw, g.pb, g.pK, g.pm]; exact fn
  refine ⟨a, m, by rw [g.pK]; exact kp, ?_⟩
  intro pins us s1 vs H1 ds S1 F1 ι1 Q I1 rv rl1 rp pst1
  have hl : ds.length = ps.length := by
    apply Decidable.byContradiction
    intro ne
    rw [ar ds S1 ne] at pst1
    exact pst1
  refine run_g fn' tk (g.room.mono hj) hr bd I1 rv ⟨by rw [← rp.length]; exact hl, ds, S1, F1, ι1, rl1, rp, ?_⟩
  cases q : O.call f ds S1 with
  | ok d S2 => rw [q] at pst1; exact pst1
  | exc c p S2 => rw [q] at pst1; exact pst1
  | stuck => rw [q] at pst1; exact pst1
/-- a call of a def of the text -/
theorem call_pe (A : Amb G M P w base k O) (hj : k ≤ j) (g : Good G P w base j M sc.s X) (tk : Takes X W) {f : Nat} {x : Str} {p pos : Pos} {c : CEs} {es : List Expr}
    (hx : G.names[f]? = some x) (hr : G.rps.contains f = true → X.A.guards = some []) (hg : isGl sc.s x = true) (hn : nd x = true) (hm : mEs M sc c es = true) (ha : PA X es (tEs G W fun ρ S => evEs O c ρ S)) :
    PE X (.Call (.Name x p) es [] pos) (tE G W fun ρ S => (evEs O c ρ S).bind fun xs S1 => O.call f xs S1) := by
  obtain ⟨n1, n2, n3⟩ := nd_of hn
  refine ⟨fun pins s σ H Q I h => ?_⟩
  obtain ⟨a, m, kp, fin⟩ := call_fin (σ := σ) A hj g tk hx hr
  obtain ⟨ρ, S, F0, ι, er, rl, pst⟩ := h
  refine wpAny_Call_Name_kw (ld_glob I (g.gl hg) (by rw [g.pm]; exact m) ?_ n1)
  cases c with
  | nil =>
    simp only [mEs] at hm
    split at hm
    · exact PySem.W.callWith_K0 I.kIn kp (fin (us := []) I .nil rl (show RepL G F0 ι [] [] from rfl) pst)
    · cases hm
  | cons a0 r =>
    simp only [mEs] at hm
    split at hm
    · rename_i e0 es'
      rw [Bool.and_eq_true] at hm
      refine PySem.W.callWith_K (h₀ := X.base) I.ok.mod.kin kp (thn (ha.run pos pins s σ H _ I ⟨ρ, S, F0, ι, er, rl, pst.bind.imp fun ds S1 F1 ι1 H1 e1 l1 p1 vs rv => (⟨ds, S1, F1, ι1, l1, rv, p1⟩ : ∃ ds S1 F1 ι1, RL G S1 F1 ι1 H1 ∧ RepL G F1 ι1 ds vs ∧ Pst G W σ F1 ι1 H1 (O.call f ds S1) (fun d _ F' ι' H' => ∀ v, Rep G F' ι' d v → Q v H'))⟩) fun us s1 ⟨vs, H1, I1, rv, ds, S1, F1, ι1, l1, rp, p1⟩ => ⟨I1.kIn, ?_⟩)
        (star_of (mE_ok M sc a0 e0 hm.1)) (mEs_plain M sc X.env pos r es' hm.2)
      exact fin I1 rv l1 rp p1
    · cases hm
/-- .. of a def that a name of the frame holds -/
theorem callv_pe (A : Amb G M P w base k O) (hj : k ≤ j) (g : Good G P w base j M sc.s X) (tk : Takes X W) {i : Nat} {y : Str} {p pos : Pos} {c : CEs} {e0 : Expr} {es' : List Expr}
    (hi : M.N[i]? = some y) (hv : vis sc.s y = true) (hn : nd y = true) (hr : ∀ f, G.rps.contains f = true → X.A.guards = some []) (hm : mEs M sc c (e0 :: es') = true) (ha : PA X (e0 :: es') (tEs G W fun ρ S => evEs O c ρ S)) :
    PE X (.Call (.Name y p) (e0 :: es') [] pos) (tE G W fun ρ S => evE O (.callv i c) ρ S) := by
  obtain ⟨n1, n2, n3⟩ := nd_of hn
  refine ⟨fun pins s σ H Q I h => ?_⟩
  obtain ⟨ρ, S, F0, ι, er, rl, pst⟩ := h
  simp only [evE] at pst
  split at pst
  · rename_i f hf
    obtain ⟨v, hσ, x, a', hx, rfl, hmg⟩ := er.2 i _ hf
    obtain ⟨a, m, kp, fin⟩ := call_fin (σ := σ) A hj g tk hx (hr f)
    have ea : a' = a := by rw [hmg] at m; cases m; rfl
    subst ea
    refine wpAny_Call_Name_kw (thn ((pe_var (X := X) (pos := p) (i := i) (x := y) (by rw [g.pN]; exact hi) (by rw [g.sc]; exact vis_of hv) n1 n2).run pins s σ H (fun v H1 => v = .ref a' ∧ H1 = H) I ⟨.ref a', hσ, rfl, rfl⟩) fun u s1 ⟨v, H1, I1, r1, e1, e2⟩ => ?_)
    subst e1 e2
    cases r1
    cases c with
    | nil => simp only [mEs] at hm; cases hm
    | cons a0 r =>
      simp only [mEs, Bool.and_eq_true] at hm
      refine PySem.W.callWith_K (h₀ := X.base) I1.ok.mod.kin kp (thn (ha.run pos pins s1 σ H1 _ I1 ⟨ρ, S, F0, ι, er, rl, pst.bind.imp fun ds S1 F1 ι1 H2 e1 l1 p1 vs rv => (⟨ds, S1, F1, ι1, l1, rv, p1⟩ : ∃ ds S1 F1 ι1, RL G S1 F1 ι1 H2 ∧ RepL G F1 ι1 ds vs ∧ Pst G W σ F1 ι1 H2 (O.call f ds S1) (fun d _ F' ι' H' => ∀ v, Rep G F' ι' d v → Q v H'))⟩) fun us s2 ⟨vs, H2, I2, rv, ds, S1, F1, ι1, l1, rp, p1⟩ => ⟨I2.kIn, ?_⟩)
        (star_of (mE_ok M sc a0 e0 hm.1)) (mEs_plain M sc X.env pos r es' hm.2)
      exact fin I2 rv l1 rp p1
  · exact (show False from pst).elim
/-- a call of a built-in -/
theorem bi_pe (A : Amb G M P w base k O) (g : Good G P w base j M sc.s X) {b : Bi} {p pos : Pos} {c : CEs} {e0 : Expr} {es' : List Expr} {y : Str} (hrp : b = .repr → X.A.guards = some []) (hy : y = biN b) (hb : bltn M sc y = true) (hm : mEs M sc c (e0 :: es') = true) (ha : PA X (e0 :: es') (tEs G W fun ρ S => evEs O c ρ S)) :
    PE X (.Call (.Name y p) (e0 :: es') [] pos) (tE G W fun ρ S => evE O (.bi b c) ρ S) := by
  obtain ⟨h1, h2, h3, h4⟩ := bl_free A g hb
  have st : starEach (e0 :: es') X.env = (false, eval e0 X.env) :: starEach es' X.env ∧ ∀ pos, (backTo pos (starEach es' X.env)).any (·.1) = false := by
    cases c with
    | nil => simp only [mEs] at hm; cases hm
    | cons a0 r =>
      simp only [mEs, Bool.and_eq_true] at hm
      exact ⟨star_of (mE_ok M sc a0 e0 hm.1), fun pos => mEs_plain M sc X.env pos r es' hm.2⟩
  have conv : ∀ σ H Q, tE G W (fun ρ S => evE O (.bi b c) ρ S) σ H Q → tCB (rBi G b) (tEs G W fun ρ S => evEs O c ρ S) σ H Q := by
    intro σ H Q ⟨ρ, S, F, ι, er, rl, pst⟩
    simp only [evE] at pst
    refine ⟨ρ, S, F, ι, er, rl, pst.bind.imp fun ds S1 F1 ι1 H1 e1 l1 p1 vs rv => ?_⟩
    obtain ⟨d, e, q⟩ := p1.opt
    exact ⟨ds, S1, F1, ι1, d, l1, rv, e, fun F' H' v ex rl' rp => q F' ι1 H' ex rl' v rp⟩
  subst hy
  cases b
  · exact pe_weak (pe_callB (bi_len g.pK) h1 h2 (by decide +kernel) ha h4 h3 st.1 (st.2 _)) conv
  · exact pe_weak (pe_callTy (bi_tuple g.pK) h1 h2 (by decide +kernel) ha h4 h3 st.1 (st.2 _)) conv
  · exact pe_weak (pe_callB (bi_all g.calm) h1 h2 (by decide +kernel) ha h4 h3 st.1 (st.2 _)) conv
  · exact pe_weak (pe_callB (bi_any g.calm) h1 h2 (by decide +kernel) ha h4 h3 st.1 (st.2 _)) conv
  · exact pe_weak (pe_callB bi_abs h1 h2 (by decide +kernel) ha h4 h3 st.1 (st.2 _)) conv
  · exact pe_weak (pe_callTy bi_int h1 h2 (by decide +kernel) ha h4 h3 st.1 (st.2 _)) conv
  · exact pe_weak (pe_callB (bi_max g.calm) h1 h2 (by decide +kernel) ha h4 h3 st.1 (st.2 _)) conv
  · exact pe_weak (pe_callB (bi_min g.calm) h1 h2 (by decide +kernel) ha h4 h3 st.1 (st.2 _)) conv
  · exact pe_weak (pe_callB (bi_sum g.calm) h1 h2 (by decide +kernel) ha h4 h3 st.1 (st.2 _)) conv
  · exact pe_weak (pe_callB (bi_repr g.pK (hrp rfl) g.hu) h1 h2 (by decide +kernel) ha h4 h3 st.1 (st.2 _)) conv
/-- isinstance -/
theorem isi_pe (A : Amb G M P w base k O) (g : Good G P w base j M sc.s X) {a : CE} {a' T : Expr} {ts : List Ty} {p pos : Pos} {y : Str} (hy : y = "isinstance") (hb : bltn M sc y = true) (h8 : ts.length ≤ 8) (hm : mE M sc a a' = true) (ih : PE X a' (tE G W fun ρ S => evE O a ρ S))
    (hT : mIsi M sc ts T = true) : PE X (.Call (.Name y p) [a', T] [] pos) (tE G W fun ρ S => evE O (.isi a ts) ρ S) := by
  obtain ⟨h1, h2, h3, h4⟩ := bl_free A g hb
  subst hy
  have st1 := star_of (es := [T]) (env := X.env) (mE_ok M sc a a' hm)
  have okT : okX T = true := by
    cases T <;> first | rfl | cases hT
  have st2 := star_of (es := []) (env := X.env) okT
  have pl : ∀ pos, (backTo pos (starEach [T] X.env)).any (·.1) = false := fun pos => by rw [st2]; rfl
  have tys : ∀ (ts : List Ty) (es : List Expr), mTys M sc ts es = true → PA X es (fun _ H Q => Q (ts.map fun t => V.ty (tyS t)) H) := by
    intro ts
    induction ts with
    | nil =>
      intro es h
      cases es with
      | nil => exact pa_nil
      | cons e es => simp only [mTys] at h; cases h
    | cons t ts ih =>
      intro es h
      cases es with
      | nil => simp only [mTys] at h; cases h
      | cons e es =>
        simp only [mTys, Bool.and_eq_true] at h
        cases e <;> try (simp only [mTy] at h; cases h.1; done)
        exact pa_weak (pa_cons (ty_bltn A g h.1) (ih es h.2) (star_of rfl)) fun _ _ _ q => q
  cases T <;> try (cases hT; done)
  case Name z p' =>
    simp only [mIsi] at hT
    split at hT <;> try (cases hT; done)
    rename_i t
    refine pe_weak (pe_callB call_isi h1 h2 (by decide +kernel) (pa_cons ih (pa_cons (ty_bltn A g hT) pa_nil st2) st1) h4 h3 st1 (pl _)) fun σ H Q h => ?_
    show tE G W (fun ρ S => evE O a ρ S) σ H fun x H1 => rIsi X.K [x, .ty (tyS t)] H1 Q
    simp only [evE] at h
    refine tE_one (r := fun x H Q => rIsi X.K [x, .ty (tyS t)] H Q) (fun x H Q dx S F ι σ rl rx pst => ?_) h
    obtain ⟨b, e, q⟩ := pst.blD rl
    obtain ⟨tv, h1, h2⟩ := isi_ty rl (rl.der rx) e
    refine ⟨x, .ty (tyS t), tv, .type (tyS t), b, rfl, .ty _, by rw [g.pK]; exact h1, ?_, q⟩
    have := h2 X.K
    simp only [List.map_cons, List.map_nil] at this
    unfold PySem.W.kitAny at this
    split at this <;> first | (cases this; assumption) | (unfold PySem.W.kitAny at this; cases this; assumption) | cases this
  case Tuple es k' p' =>
    refine pe_weak (pe_callB call_isiT h1 h2 (by decide +kernel) (pa_cons ih (pa_cons (pe_tup (tys ts es hT)) pa_nil st2) st1) h4 h3 st1 (pl _)) fun σ H Q h => ?_
    show tE G W (fun ρ S => evE O a ρ S) σ H fun x H1 => (ts.map fun t => V.ty (tyS t)).length ≤ sizeLine ∧ ∀ tp, H1 tp = none → rIsiT X.K [x, .ref tp] (upd H1 tp (.tup (ts.map fun t => V.ty (tyS t)))) Q
    simp only [evE] at h
    refine tE_one (r := fun x H1 Q => (ts.map fun t => V.ty (tyS t)).length ≤ sizeLine ∧ ∀ tp, H1 tp = none → rIsiT X.K [x, .ref tp] (upd H1 tp (.tup (ts.map fun t => V.ty (tyS t)))) Q) (fun x H Q dx S F ι σ rl rx pst => ?_) h
    obtain ⟨b, e, q⟩ := pst.opt
    rw [Option.map_eq_some_iff] at e
    obtain ⟨c, e, rfl⟩ := e
    refine ⟨?_, fun tp htp => ?_⟩
    · rw [List.length_map, sizeLine_eq]
      omega
    · obtain ⟨ex, rl'⟩ := rl.frz htp (.tup (ts.map fun t => V.ty (tyS t))) (fun _ z => by cases z)
      obtain ⟨tv, h1, h2⟩ := isi_ty rl' (rl'.der (ex.rep rx)) e
      have pr : ∀ l : List Ty, Paired ClsV (l.map fun t => V.ty (tyS t)) (l.map fun t => Value.type (tyS t)) := fun l => by
        induction l with
        | nil => exact .nil
        | cons t l ih => exact .cons (.ty _) ih
      exact ⟨x, tp, _, tv, _, c, rfl, upd_same, pr ts, by rw [g.pK]; exact h1, h2 X.K, q _ _ _ ex rl' _ rfl⟩
end Gx
set_option Elab.async false
set_option linter.all false
set_option maxRecDepth 100000
set_option maxHeartbeats 4000000
/-! Gx: what is walked; comprehensions. -/
namespace Gx
open PySem PySem.Spec PyProof.Rows L2
variable {G : Gl} {S : Sto} {F : Hp} {ι : List Addr} {H : Hp}
theorem it_list {xs : List D} {a : Addr} {vs : List V} (q : SqL G.K F a vs) (l : RepL G F ι xs vs) : ItOk G (Itl G.K a) xs F ι H := by
  intro i S' F' ι' H' e r
  have q' : SqL G.K H' a vs := SqL.fmono r.sub (SqL.fmono e.f q)
  refine ⟨fun h => ⟨vs, q', by rw [← l.length]; exact h⟩, fun d hd => ?_⟩
  obtain ⟨v, hv, rv⟩ := l.get hd
  refine ⟨⟨vs, v, q', hv⟩, fun x H'' ⟨e1, e2⟩ => ?_⟩
  subst e1
  have := (e2 vs q').symm.trans hv
  cases this
  exact ⟨F', Ext.refl, r, e.rep rv⟩
theorem it_tup {xs : List D} {a : Addr} {vs : List V} (q : SqT G.K F a vs) (l : RepL G F ι xs vs) : ItOk G (Itt G.K a) xs F ι H := by
  intro i S' F' ι' H' e r
  have q' : SqT G.K H' a vs := SqT.fmono r.sub (SqT.fmono e.f q)
  refine ⟨fun h => ⟨vs, q', by rw [← l.length]; exact h⟩, fun d hd => ?_⟩
  obtain ⟨v, hv, rv⟩ := l.get hd
  refine ⟨⟨vs, v, q', hv⟩, fun x H'' ⟨e1, e2⟩ => ?_⟩
  subst e1
  have := (e2 vs q').symm.trans hv
  cases this
  exact ⟨F', Ext.refl, r, e.rep rv⟩
theorem rngD_get {lo hi : Int} {i : Nat} {d : D} (h : (rngD lo hi)[i]? = some d) : i < (hi - lo).toNat ∧ d = .int (lo + (i : Int)) := by
  unfold rngD at h
  rw [List.getElem?_map, Option.map_eq_some_iff] at h
  obtain ⟨j, h1, rfl⟩ := h
  obtain ⟨k1, k2⟩ := List.getElem?_eq_some_iff.mp h1
  rw [List.getElem_range] at k2
  rw [List.length_range] at k1
  subst k2
  exact ⟨k1, rfl⟩
theorem it_rng {lo hi : Int} : ItOk G (Itr lo (hi - lo).toNat) (rngD lo hi) F ι H := by
  intro i S' F' ι' H' e r
  refine ⟨fun h => by show (hi - lo).toNat ≤ i; unfold rngD at h; rw [List.length_map, List.length_range] at h; exact h, fun d hd => ?_⟩
  obtain ⟨h1, rfl⟩ := rngD_get hd
  refine ⟨h1, fun x H'' ⟨e1, e2⟩ => ?_⟩
  subst e1 e2
  exact ⟨F', Ext.refl, r, rfl⟩
theorem pairs_get {as bs : List D} {i : Nat} {d : D} (h : (pairsD as bs)[i]? = some d) : ∃ a b, as[i]? = some a ∧ bs[i]? = some b ∧ d = .tup [a, b] := by
  unfold pairsD at h
  rw [List.getElem?_map, Option.map_eq_some_iff] at h
  obtain ⟨p, h1, rfl⟩ := h
  rw [List.getElem?_zip_eq_some] at h1
  exact ⟨_, _, h1.1, h1.2, rfl⟩
theorem pairs_len {as bs : List D} {i : Nat} (h : (pairsD as bs).length ≤ i) : as.length ≤ i ∨ bs.length ≤ i := by
  unfold pairsD at h
  rw [List.length_map, List.length_zip] at h
  omega
theorem it_zipT {xs ys : List D} {a b : Addr} {vs ws : List V} (q : SqT G.K F a vs) (l : RepL G F ι xs vs) (q2 : SqT G.K F b ws) (l2 : RepL G F ι ys ws) : ItOk G (RZ.ItzT G.K a b) (pairsD xs ys) F ι H := by
  intro i S' F' ι' H' e r
  have q' : SqT G.K H' a vs := SqT.fmono r.sub (SqT.fmono e.f q)
  have q2' : SqT G.K H' b ws := SqT.fmono r.sub (SqT.fmono e.f q2)
  refine ⟨fun h => ⟨vs, ws, q', q2', by rw [← l.length, ← l2.length]; exact pairs_len h⟩, fun d hd => ?_⟩
  obtain ⟨d1, d2, h1, h2, rfl⟩ := pairs_get hd
  obtain ⟨v, hv, rv⟩ := l.get h1
  obtain ⟨u, hu, ru⟩ := l2.get h2
  refine ⟨⟨vs, ws, v, u, q', q2', hv, hu⟩, fun x H'' ⟨T, x1, y1, e0, hT, e1, e2, e3⟩ => ?_⟩
  subst e0 e1
  have z1 := (e2 vs q').symm.trans hv
  have z2 := (e3 ws q2').symm.trans hu
  cases z1
  cases z2
  obtain ⟨ex, r'⟩ := r.frz hT (.tup [v, u]) (fun _ z => by cases z)
  exact ⟨_, ex, r', T, _, rfl, SqT.of upd_same, v, [u], rfl, ex.rep (e.rep rv), u, [], rfl, ex.rep (e.rep ru), rfl⟩
theorem it_zipL {xs ys : List D} {a b : Addr} {vs ws : List V} (q : SqL G.K F a vs) (l : RepL G F ι xs vs) (q2 : SqL G.K F b ws) (l2 : RepL G F ι ys ws) : ItOk G (Itz G.K a b) (pairsD xs ys) F ι H := by
  intro i S' F' ι' H' e r
  have q' : SqL G.K H' a vs := SqL.fmono r.sub (SqL.fmono e.f q)
  have q2' : SqL G.K H' b ws := SqL.fmono r.sub (SqL.fmono e.f q2)
  refine ⟨fun h => ⟨vs, ws, q', q2', by rw [← l.length, ← l2.length]; exact pairs_len h⟩, fun d hd => ?_⟩
  obtain ⟨d1, d2, h1, h2, rfl⟩ := pairs_get hd
  obtain ⟨v, hv, rv⟩ := l.get h1
  obtain ⟨u, hu, ru⟩ := l2.get h2
  refine ⟨⟨vs, ws, v, u, q', q2', hv, hu⟩, fun x H'' ⟨T, x1, y1, e0, hT, e1, e2, e3⟩ => ?_⟩
  subst e0 e1
  have z1 := (e2 vs q').symm.trans hv
  have z2 := (e3 ws q2').symm.trans hu
  cases z1
  cases z2
  obtain ⟨ex, r'⟩ := r.frz hT (.tup [v, u]) (fun _ z => by cases z)
  exact ⟨_, ex, r', T, _, rfl, SqT.of upd_same, v, [u], rfl, ex.rep (e.rep rv), u, [], rfl, ex.rep (e.rep ru), rfl⟩
theorem enum_get : ∀ {xs : List D} {n i : Nat} {d : D}, (enumD n xs)[i]? = some d → ∃ a, xs[i]? = some a ∧ d = .tup [.int ((n + i : Nat) : Int), a]
  | [], n, i, d, h => by simp [enumD] at h
  | x :: r, n, 0, d, h => by
    simp [enumD] at h
    exact ⟨x, rfl, h.symm⟩
  | x :: r, n, i + 1, d, h => by
    obtain ⟨a, h1, h2⟩ := enum_get (xs := r) (n := n + 1) (i := i) (d := d) (by simpa [enumD] using h)
    refine ⟨a, by simpa using h1, ?_⟩
    rw [h2]
    have : n + 1 + i = n + (i + 1) := by omega
    rw [this]
theorem enum_len : ∀ {xs : List D} {n : Nat}, (enumD n xs).length = xs.length
  | [], _ => rfl
  | x :: r, n => by simp [enumD, enum_len (xs := r)]
theorem it_enum {xs : List D} {a : Addr} {vs : List V} (q : SqL G.K F a vs) (l : RepL G F ι xs vs) : ItOk G (Ite G.K a) (enumD 0 xs) F ι H := by
  intro i S' F' ι' H' e r
  have q' : SqL G.K H' a vs := SqL.fmono r.sub (SqL.fmono e.f q)
  refine ⟨fun h => ⟨vs, q', by rw [← l.length, ← enum_len (xs := xs) (n := 0)]; exact h⟩, fun d hd => ?_⟩
  obtain ⟨d1, h1, rfl⟩ := enum_get hd
  obtain ⟨v, hv, rv⟩ := l.get h1
  refine ⟨⟨vs, v, q', hv⟩, fun x H'' ⟨T, x1, e0, hT, e1, e2⟩ => ?_⟩
  subst e0 e1
  have z1 := (e2 vs q').symm.trans hv
  cases z1
  obtain ⟨ex, r'⟩ := r.frz hT (.tup [.int (i : Nat), v]) (fun _ z => by cases z)
  refine ⟨_, ex, r', T, _, rfl, SqT.of upd_same, .int (i : Nat), [v], rfl, ?_, v, [], rfl, ex.rep (e.rep rv), rfl⟩
  show V.int _ = V.int _
  rw [Nat.zero_add]
/-! ### an address that is nobody's -/
theorem RL.off {D0 : Addr} {o o' : HO} (r : RL G S F ι H) (h : H D0 = some o) (ho : ∀ ps, o ≠ .tbl ps) (ho2 : ∀ c q, o ≠ LamX.CodeO c q) (f : F D0 = none) (n : D0 ∉ ι) : RL G S F ι (upd H D0 o') := by
  refine ⟨fun a u z => ?_, r.ft, r.len, r.nd, r.out, fun k a u h1 h2 => ?_, fun p hp => ?_⟩
  · rw [upd_ne (fun e => by rw [e, f] at z; cases z)]; exact r.sub _ _ z
  · have := r.obj k a u h1 h2
    cases u with
    | lst xs =>
      obtain ⟨vs, q1, q2⟩ := this
      exact ⟨vs, by rw [upd_ne (fun e => n (by rw [← e]; exact List.mem_of_getElem? h1))]; exact q1, q2⟩
  · obtain ⟨ps, a1, a2, a3⟩ := r.tabs p hp
    refine ⟨ps, by rw [upd_ne (fun e => by rw [e, h] at a1; exact ho ps (Option.some.inj a1))]; exact a1, a2, fun pos cv hc => ?_⟩
    obtain ⟨c, e1, e2⟩ := a3 pos cv hc
    exact ⟨c, e1, by rw [upd_ne (fun e => by rw [e, h] at e2; exact ho2 _ _ (Option.some.inj e2))]; exact e2⟩
theorem Ext.off {F' : Hp} {ι' : List Addr} {H' : Hp} {D0 : Addr} {o' : HO} (e : Ext F ι H F' ι' H') (h : H D0 = none) : Ext F ι H F' ι' (upd H' D0 o') := by
  refine ⟨e.f, e.i, fun b u z hi ht => ?_, e.g⟩
  rw [upd_ne (fun q => by rw [q, h] at z; cases z)]; exact e.h b u z hi ht
/-- without what stands at D0 -/
def less (H : Hp) (D0 : Addr) : Hp := fun b => if b = D0 then none else H b
theorem less_upd {D0 : Addr} {o : HO} (h : H D0 = some o) : upd (less H D0) D0 o = H := by
  funext b
  by_cases e : b = D0
  · subst e; rw [upd_same, h]
  · rw [upd_ne e]; unfold less; rw [if_neg e]
theorem less_ne {D0 b : Addr} (h : b ≠ D0) : less H D0 b = H b := if_neg h
theorem RL.less {D0 : Addr} {o : HO} (r : RL G S F ι H) (h : H D0 = some o) (ho : ∀ ps, o ≠ .tbl ps) (ho2 : ∀ c q, o ≠ LamX.CodeO c q) (f : F D0 = none) (n : D0 ∉ ι) : RL G S F ι (Gx.less H D0) := by
  refine ⟨fun a u z => ?_, r.ft, r.len, r.nd, r.out, fun k a u h1 h2 => ?_, fun p hp => ?_⟩
  · rw [less_ne (fun e => by rw [e, f] at z; cases z)]; exact r.sub _ _ z
  · have := r.obj k a u h1 h2
    cases u with
    | lst xs =>
      obtain ⟨vs, q1, q2⟩ := this
      exact ⟨vs, by rw [less_ne (fun e => n (by rw [← e]; exact List.mem_of_getElem? h1))]; exact q1, q2⟩
  · obtain ⟨ps, a1, a2, a3⟩ := r.tabs p hp
    refine ⟨ps, by rw [less_ne (fun e => by rw [e, h] at a1; exact ho ps (Option.some.inj a1))]; exact a1, a2, fun pos cv hc => ?_⟩
    obtain ⟨c, e1, e2⟩ := a3 pos cv hc
    exact ⟨c, e1, by rw [less_ne (fun e => by rw [e, h] at e2; exact ho2 _ _ (Option.some.inj e2))]; exact e2⟩
theorem Ext.less {F' : Hp} {ι' : List Addr} {H' : Hp} {D0 : Addr} (e : Ext F ι H F' ι' H') (h : H D0 = none) : Ext F ι H F' ι' (Gx.less H' D0) := by
  refine ⟨e.f, e.i, fun b u z hi ht => ?_, e.g⟩
  rw [less_ne (fun q => by rw [q, h] at z; cases z)]; exact e.h b u z hi ht
/-! ### results that are there -/
theorem bind_ok {α β : Type} {r : R α} {f : α → Sto → R β} {b : β} {S2 : Sto} (h : r.bind f = .ok b S2) : ∃ a S1, r = .ok a S1 ∧ f a S1 = .ok b S2 := by
  cases r with
  | ok a S1 => exact ⟨a, S1, rfl, h⟩
  | exc c p S1 => cases h
  | stuck => cases h
theorem noX_pst {W : WX} {σ : L2.St} {α : Type} {r : R α} {Q : α → Sto → Hp → List Addr → Hp → Prop} (h : Pst G W σ F ι H (noX r) Q) : ∃ a S', r = .ok a S' ∧ ∀ F' ι' H', Ext F ι H F' ι' H' → RL G S' F' ι' H' → Q a S' F' ι' H' := by
  cases r with
  | ok a S' => exact ⟨a, S', rfl, h⟩
  | exc c p S' => exact h.elim
  | stuck => exact h.elim
theorem noX_any {W W' : WX} {σ σ' : L2.St} {α : Type} {r : R α} {Q : α → Sto → Hp → List Addr → Hp → Prop} (h : Pst G W σ F ι H (noX r) Q) : Pst G W' σ' F ι H r Q := by
  cases r with
  | ok a S' => exact h
  | exc c p S' => exact h.elim
  | stuck => exact h.elim
theorem ok_pst {W : WX} {σ : L2.St} {α : Type} {r : R α} {a : α} {S' : Sto} {Q : α → Sto → Hp → List Addr → Hp → Prop} (h : r = .ok a S') (k : ∀ F' ι' H', Ext F ι H F' ι' H' → RL G S' F' ι' H' → Q a S' F' ι' H') : Pst G W σ F ι H r Q := by
  rw [h]; exact k
theorem wipe_same : ∀ {own : List Nat} {σ σ' : L2.St}, σ'.length = σ.length → (∀ i, i ∉ own → σ'[i]? = σ[i]?) → L2.wipe σ' own = L2.wipe σ own := by
  intro own σ σ' hl h
  have key : ∀ (own : List Nat) (σ : L2.St) (i : Nat), (L2.wipe σ own)[i]? = if i ∈ own ∧ i < σ.length then some none else σ[i]? := by
    intro own
    induction own with
    | nil => intro σ i; simp [L2.wipe]
    | cons v r ih =>
      intro σ i
      show ((L2.wipe σ r).set v none)[i]? = _
      by_cases e : v = i
      · subst e
        by_cases hv : v < σ.length
        · rw [List.getElem?_set_self (by rw [L2.wipe_length]; exact hv)]
          simp [hv]
        · rw [List.getElem?_eq_none (by rw [List.length_set, L2.wipe_length]; omega)]
          simp [hv]
      · rw [List.getElem?_set_ne e, ih]
        simp [Ne.symm e]
  apply List.ext_getElem?
  intro i
  rw [key, key, hl]
  by_cases hi : i ∈ own
  · by_cases hlt : i < σ.length
    · simp [hi, hlt]
    · simp only [hi, hlt, and_false, if_false]
      rw [List.getElem?_eq_none (by omega), List.getElem?_eq_none (by omega)]
  · simp only [hi, false_and, if_false]
    exact h i hi
end Gx
set_option Elab.async false
set_option linter.all false
set_option maxRecDepth 100000
set_option maxHeartbeats 4000000
/-! Gx: enumerate over a tuple, tuple[::-1], zip of a tuple and a list. -/
namespace Gx
open PySem PySem.Spec PyProof.Rows L2
section
variable {P : Program} {w : World} {A : Around}
theorem ti_ne {h : Heap} {a it : Addr} {xs : Array Value} {i : Nat} (p : h.IsTuple a xs) (q : h.IsTupleIter it a i) : a ≠ it := by
  rintro rfl
  obtain ⟨o1, e1, c1, _⟩ := p
  obtain ⟨o2, e2, c2, _⟩ := q
  rw [e1] at e2
  cases e2
  rw [c1] at c2
  exact absurd c2 (by decide)
theorem li_ne {h : Heap} {a it : Addr} {xs : Array Value} {i : Nat} (p : h.IsList a xs) (q : h.IsListIter it a i) : a ≠ it := by
  rintro rfl
  obtain ⟨o1, e1, c1, _⟩ := p
  obtain ⟨o2, e2, c2, _⟩ := q
  rw [e1] at e2
  cases e2
  rw [c1] at c2
  exact absurd c2 (by decide)
/-- a tuple's iterator that is at its end -/
theorem overT (hh : A.handled = none) {it t : Addr} {xs : Array Value} {i : Nat} (hx : xs[i]? = none) :
    Draws P w A it [it, t] i (fun _ _ => False) (fun j h => j = i ∧ h.IsTupleIter it t j ∧ h.IsTuple t xs) :=
  ⟨fun _ _ z => let ⟨o, ho, _⟩ := z.2.1; ⟨o, ho⟩,
   fun _ _ _ z k => ⟨z.1, z.2.1.at fun o e => k it (by simp) o e, z.2.2.at fun o e => k t (by simp) o e⟩,
   fun _ _ _ _ lt z _ => absurd lt (by rw [z.1]; exact Nat.lt_irrefl _),
   fun s Q E z k => wpAny_nextOf_tuple_end hh z.2.1 z.2.2 hx k⟩
/-- a list's iterator that is at its end -/
theorem overL (hh : A.handled = none) {it t : Addr} {xs : Array Value} {i : Nat} (hx : xs[i]? = none) :
    Draws P w A it [it, t] i (fun _ _ => False) (fun j h => j = i ∧ h.IsListIter it t j ∧ h.IsList t xs) :=
  ⟨fun _ _ z => let ⟨o, ho, _⟩ := z.2.1; ⟨o, ho⟩,
   fun _ _ _ z k => ⟨z.1, z.2.1.at fun o e => k it (by simp) o e, z.2.2.at fun o e => k t (by simp) o e⟩,
   fun _ _ _ _ lt z _ => absurd lt (by rw [z.1]; exact Nat.lt_irrefl _),
   fun s Q E z k => wpAny_nextOf_list_end hh z.2.1 z.2.2 hx k⟩
end
/-! ### enumerate over a tuple -/
set_option maxHeartbeats 4000000 in
theorem newEnumT {v : Value} {o : Obj} {Hs : Heap → Prop} (B : Begins v o Hs) : Meets (Builtin.«enumerate.__new__» ⟨[.type "enumerate", v], []⟩) (fun _ R s =>
    Hs s.heap ∧ R (.ok (.ret (.ref (s.heap.push o).objs.size))) { s with heap := (s.heap.push o).push { cls := .type "enumerate", data := .fields #[.none, .bool false, .ref s.heap.objs.size, rawInt 0, .none, .none] } }) :=
  .of_wp fun prog w A R s hR => by
    obtain ⟨hp, gs, dr, tk, os⟩ := s
    obtain ⟨hb, hR⟩ := hR
    have sb := sub_enumerate
    have bg : ∀ {A1 : Around} {E1 : Value → Shared → Prop} {Q1 : Value → Shared → Prop}, Q1 (.ref hp.objs.size) ⟨hp.push o, gs, dr, tk, os⟩ → wpAny (model prog w) A1 (pyIter v) Q1 E1 ⟨hp, gs, dr, tk, os⟩ :=
      fun z => B.iter prog w _ _ ⟨hp, gs, dr, tk, os⟩ _ hb z
    wp_walk using bg
    refine wpAny_stack_any fun _ => wpAny_pure ?_
    split
    · rename_i cl _ _ _ _ _
      cases (cl == Value.type "enumerate") <;> (wp_walk using bg; exact ⟨_, rfl, hR⟩)
    · wp_walk using bg
      exact ⟨_, rfl, hR⟩
theorem callEnumT {prog : Program} {w : World} {A : Around} {E : Value → Shared → Prop} {s : Shared} {a : Addr} {xs : Array Value} {Q : Value → Shared → Prop} (ha : s.heap.IsTuple a xs)
    (k : ∀ h', IsEnum h' (s.heap.objs.size + 1) s.heap.objs.size 0 .none → h'.IsTupleIter s.heap.objs.size a 0 → (∀ b u, s.heap.get? b = some u → h'.get? b = some u) →
      Q (.ref (s.heap.objs.size + 1)) { s with heap := h' }) : wpAny (model prog w) A (call (.type "enumerate") [.ref a]) Q E s := by
  refine callType_new F.called_enumerate (by decide) (F.typeCall_enumerate_1 _) (F.newCall_enumerate_1 _) (fun obj => F.args_object_init_2 obj _) F.entry_enumerate_new (newEnumT (begins_tuple a xs)) ⟨ha, ?_⟩
  have z1 : (s.heap.push { cls := .type "tuple_iterator", data := .fields #[.ref a, .int 0 0] }).objs.size = s.heap.objs.size + 1 := Heap.size_push ..
  show _ ∧ _
  rw [z1]
  have en : IsEnum ((s.heap.push { cls := .type "tuple_iterator", data := .fields #[.ref a, .int 0 0] }).push { cls := .type "enumerate", data := .fields #[.none, .bool false, .ref s.heap.objs.size, rawInt 0, .none, .none] })
      (s.heap.objs.size + 1) s.heap.objs.size 0 .none := by
    have q := Heap.get?_push_size (s.heap.push { cls := .type "tuple_iterator", data := .fields #[.ref a, .int 0 0] }) (o := { cls := .type "enumerate", data := .fields #[.none, .bool false, .ref s.heap.objs.size, rawInt 0, .none, .none] }) rfl
    rw [z1] at q
    exact q
  exact ⟨⟨_, en, rfl⟩, k _ en ⟨_, Heap.get?_push_of_some _ (Heap.get?_push_size _ rfl), rfl, rfl⟩ fun b u z => Heap.get?_push_of_some _ (Heap.get?_push_of_some _ z)⟩
/-- the tuple at a, each item in a new pair -/
def IteT (K : PySem.W.Frag) (a : Addr) : It :=
  ⟨fun i H => ∃ (xs : List V) (x : V), SqT K H a xs ∧ xs[i]? = some x,
    fun i H v H' => ∃ T x, v = .ref T ∧ H T = none ∧ H' = upd H T (.tup [.int (i : Nat), x]) ∧ ∀ xs, SqT K H a xs → xs[i]? = some x,
    fun i H => ∃ xs : List V, SqT K H a xs ∧ xs.length ≤ i⟩
theorem turnEnumT {P : Program} {w : World} {K : PySem.W.Frag} {elts : List Expr} {kk : Nat} {tpos : Pos} (a e it : Addr) :
    Turn P w K (.Tuple elts kk tpos) (IteT K a) [e, it] e (fun i h => (∃ old, IsEnum h e it ((i : Nat) : Int) old) ∧ h.IsTupleIter it a i ∧ e ≠ it ∧ e ≠ a) where
  mem := by simp
  obj := fun i h z b hb => by
    obtain ⟨⟨old, he⟩, ⟨o, ho, hc, hd⟩, _⟩ := z
    rcases (by simpa using hb : b = e ∨ b = it) with rfl | rfl
    · exact ⟨_, he, fun v q => nomatch q⟩
    · exact ⟨o, ho, fun v q => by rw [hd] at q; cases q⟩
  keep := fun i h h' z k => by
    obtain ⟨⟨old, he⟩, hi, n1, n2⟩ := z
    exact ⟨⟨old, k e (by simp) _ he⟩, hi.at fun o q => k it (by simp) o q, n1, n2⟩
  item := by
    intro X hP hw hK hc i pins s σ H E I hf z hg
    subst hP hw hK
    obtain ⟨⟨old, he⟩, hit, n1, n2⟩ := z
    obtain ⟨xs, x, hq, hx⟩ := hg
    obtain ⟨its, rv, p, _⟩ := I.tuple hq
    obtain ⟨u, hu, ru⟩ := rv.get hx
    have le : e < s.heap.objs.size := Heap.lt_size he
    have lt : it < s.heap.objs.size := by obtain ⟨_, q, _⟩ := hit; exact Heap.lt_size q
    have p' : s.heap.IsTuple a its.toArray := p
    have hui : its[i]? = some u := hu
    have D := Draws.tuple (prog := X.prog) (w := X.w) (A := X.A.in1) (I.ok.hd hc) it a (ti_ne p' hit) its.toArray
    refine wpAny_pyNext_enum_itemD D he ⟨hit, p'⟩ (by simpa using (List.getElem?_eq_some_iff.mp hui).1) n1 (by simp [n1, n2]) fun x1 h' tk hx1 ho hit' hT hsz hk => ?_
    have ex : x1 = u := by
      have q1 : its[i]? = some x1 := by simpa using hx1
      exact Option.some.inj (q1.symm.trans hui)
    subst ex
    refine ⟨_, rfl, wpAny_letOwnedTupleGo_enum (s := { s with heap := h', toks := tk + 1 }) ho fun h'' he' sb => ?_⟩
    have hT2 : h''.get? s.heap.objs.size = some { cls := .type "tuple", data := .seq #[.int i tk, x1] } := (sb.2 _ (Nat.ne_of_gt le)).trans hT
    have nw : ObjOk X.prog X.w (upd H s.heap.objs.size (.tup [.int (i : Nat), x])) h'' s.heap.objs.size (.tup [.int (i : Nat), x]) :=
      ⟨by show 2 ≤ sizeLine; decide, [.int i tk, x1], .cons ⟨_, rfl⟩ (.cons ru .nil), ⟨_, hT2, rfl, _, rfl⟩⟩
    have I1 : Inv X pins σ (upd H s.heap.objs.size (.tup [.int (i : Nat), x])) { s with heap := h'', toks := tk + 1 } :=
      I.turnedNew (ch := [e, it]) (fun b ob hb q => (sb.2 b (fun z => hb (by simp [z]))).trans (hk b ob (fun z => hb (by simp [z])) (fun z => hb (by simp [z])) q)) hf (Nat.le_refl _) nw
    refine ⟨.ref s.heap.objs.size, _, I1, rfl, ⟨_, x, rfl, I.hok.fresh (Nat.le_refl _), rfl, fun ys hy => by rw [I.tuple_inj hy hq]; exact hx⟩, ⟨⟨x1, ?_⟩, hit'.1.at fun o q => (sb.2 it (Ne.symm n1)).trans q, n1, n2⟩, fun b hb => ?_⟩
    · rw [(by omega : ((i + 1 : Nat) : Int) = (i : Int) + 1)]
      exact he'
    · have lb : b < s.heap.objs.size := by
        rcases (by simpa using hb : b = e ∨ b = it) with rfl | rfl
        · exact le
        · exact lt
      rw [upd_ne (Nat.ne_of_lt lb)]
      exact (hf b hb).1
  done := by
    intro X hP hw hK hc i pins s σ H E I hf z hg
    subst hP hw hK
    obtain ⟨⟨old, he⟩, hit, n1, n2⟩ := z
    obtain ⟨xs, hq, hx⟩ := hg
    obtain ⟨its, rv, p, _⟩ := I.tuple hq
    obtain ⟨f0, f1, f2, f3, f4, f5⟩ := hf it (by simp)
    have hl := rv.length
    have p' : s.heap.IsTuple a its.toArray := p
    have hn : its.toArray[i]? = none := by simp; omega
    exact wpAny_pyNext_enum_endD (overT (P := X.prog) (w := X.w) (A := X.A.in1) (I.ok.hd hc) hn) he ⟨rfl, hit, p'⟩ fun h' eb => ⟨rfl, I.turned (t' := s.toks) (fun b o hb q => eb b o hb q) f0 f1 f3 f4 f5⟩
  self := fun A i s Q E z h => let ⟨⟨_, he⟩, _⟩ := z; wpAny_pyIter_enum he h
def iEnumA (K : PySem.W.Frag) (ta : TA) : TI := fun σ H R => ta σ H fun vs H1 => ∃ a xs, vs = [.ref a] ∧ ((SqL K H1 a xs ∧ R (Ite K a) H1) ∨ (SqT K H1 a xs ∧ R (IteT K a) H1))
theorem piEnumA {X : Cx} {e : Expr} {ta : TA} {p pos tpos : Pos} {elts : List Expr} {kk : Nat} (hg : L2.Gl X "enumerate") (hm : X.mg "enumerate" = none) (ha : PA X [e] ta) (hs : starEach [e] X.env = [(false, eval e X.env)]) :
    PI X (.Tuple elts kk tpos) (.Call (.Name "enumerate" p) [e] [] pos) (iEnumA X.K ta) := by
  refine ⟨fun pins s σ H R I h => Call_ (ld_blt I hg hm boot_enumerate (PyProof.Rows.callWith_type1 (thn (ha.run pos pins s σ H _ I h) fun us s1 ⟨vs, H1, I1, r1, q1⟩ => ?_) hs rfl))⟩
  obtain ⟨a, xs, ex, q1⟩ := q1
  subst ex
  cases r1 with
  | cons r rr =>
    cases rr
    cases r
    have fp : ∀ b, b ∈ [s1.heap.objs.size + 1, s1.heap.objs.size] → FpOk X pins H1 b := fun b hb => by
      have le : s1.heap.objs.size ≤ b := by
        rcases (by simpa using hb : b = s1.heap.objs.size + 1 ∨ b = s1.heap.objs.size) with z | z <;> omega
      exact I1.fpOk le (I1.hok.fresh le)
    rcases q1 with ⟨hq, q⟩ | ⟨hq, q⟩
    · obtain ⟨its, rv, p', _⟩ := I1.list hq
      refine call_enumerate_list p'.isList fun h' he hit hsz hk => wpAny_pyIter_enum he ?_
      exact ⟨s1.heap.objs.size + 1, [s1.heap.objs.size + 1, s1.heap.objs.size], _, _, H1, rfl, I1.kept (t' := s1.toks) hk, turn_enum a (s1.heap.objs.size + 1) s1.heap.objs.size, ⟨⟨.none, he⟩, hit, Nat.succ_ne_self _⟩, fp, q⟩
    · obtain ⟨its, rv, p', _⟩ := I1.tuple hq
      have p2 : s1.heap.IsTuple a its.toArray := p'
      have la : a < s1.heap.objs.size := by obtain ⟨_, z, _⟩ := p2; exact Heap.lt_size z
      refine callEnumT p2 fun h' he hit hk => wpAny_pyIter_enum he ?_
      exact ⟨s1.heap.objs.size + 1, [s1.heap.objs.size + 1, s1.heap.objs.size], _, _, H1, rfl, I1.kept (t' := s1.toks) hk, turnEnumT a (s1.heap.objs.size + 1) s1.heap.objs.size, ⟨⟨.none, he⟩, hit, Nat.succ_ne_self _, Ne.symm (Nat.ne_of_lt (Nat.lt_succ_of_lt la))⟩, fp, q⟩
theorem it_enumT {G : Gl} {F : Hp} {ι : List Addr} {H : Hp} {xs : List D} {a : Addr} {vs : List V} (q : SqT G.K F a vs) (l : RepL G F ι xs vs) : ItOk G (IteT G.K a) (enumD 0 xs) F ι H := by
  intro i S' F' ι' H' e r
  have q' : SqT G.K H' a vs := SqT.fmono r.sub (SqT.fmono e.f q)
  refine ⟨fun h => ⟨vs, q', by rw [← l.length, ← enum_len (xs := xs) (n := 0)]; exact h⟩, fun d hd => ?_⟩
  obtain ⟨d1, h1, rfl⟩ := enum_get hd
  obtain ⟨v, hv, rv⟩ := l.get h1
  refine ⟨⟨vs, v, q', hv⟩, fun x H'' ⟨T, x1, e0, hT, e1, e2⟩ => ?_⟩
  subst e0 e1
  have z1 := (e2 vs q').symm.trans hv
  cases z1
  obtain ⟨ex, r'⟩ := r.frz hT (.tup [.int (i : Nat), v]) (fun _ z => by cases z)
  refine ⟨_, ex, r', T, _, rfl, SqT.of upd_same, .int (i : Nat), [v], rfl, ?_, v, [], rfl, ex.rep (e.rep rv), rfl⟩
  show V.int _ = V.int _
  rw [Nat.zero_add]
/-! ### t[::-1] -/
def tRevT (K : PySem.W.Frag) (te : TE) : TE := fun σ H Q => te σ H fun x H1 => ∃ a xs, x = .ref a ∧ SqT K H1 a xs ∧ ∀ p, H1 p = none → Q (.ref p) (upd H1 p (.tup xs.reverse))
theorem revPick (xs : Array Value) : ((List.range xs.size).filterMap fun (m : Nat) => xs[(((xs.size : Int) - 1) + (m : Int) * (-1)).toNat]?).toArray = xs.toList.reverse.toArray := by
  have e1 : (List.range xs.size).filterMap (fun (m : Nat) => xs[(((xs.size : Int) - 1) + (m : Int) * (-1)).toNat]?) = ((List.range xs.size).map fun k => xs.size - 1 - k).filterMap (xs[·]?) := by
    rw [List.filterMap_map]
    congr 1
    funext m
    show xs[(((xs.size : Int) - 1) + (m : Int) * (-1)).toNat]? = xs[xs.size - 1 - m]?
    rw [(by omega : (((xs.size : Int) - 1) + (m : Int) * (-1)).toNat = xs.size - 1 - m)]
  rw [e1, PySem.W.krv_range, List.filterMap_reverse, PySem.W.krv_all]
section
variable {prog : Program} {w : World} {A : Around} {E : Value → Shared → Prop} {s : Shared}
theorem applyRev {sl : Addr} {vs : Value} {n : Nat} {Q : Int × Int × Nat → Shared → Prop} (hs : s.heap.IsSliceOf sl .none .none vs) (ps : IsPart vs (some (-1)))
    (k : Q ((n : Int) - 1, -1, n) s) : wpAny (model prog w) A (Builtin.Slice.sliceApplied (.ref sl) (pure (n : Int))) Q E s := by
  obtain ⟨o, ho, _, hd⟩ := id hs
  unfold Builtin.Slice.sliceApplied Builtin.Slice.sliceFields
  refine wpAny_bind (wpAny_bind (wpAny_field ho hd (x := .none) rfl (wpAny_bind (wpAny_field ho hd (x := .none) rfl (wpAny_bind (wpAny_field ho hd (x := vs) rfl (wpAny_pure ?_)))))))
  refine wpAny_bind (HT.slicePart_ ps ?_)
  show wpAny _ _ (if ((-1 : Int) == 0) = true then _ else _) _ _ s
  rw [if_neg (by decide)]
  refine wpAny_bind (HT.slicePart_ .none (wpAny_bind (HT.slicePart_ .none (wpAny_bind (wpAny_pure ?_)))))
  have e2 : Builtin.Slice.sliceAdjust none none (-1) (n : Int) = ((n : Int) - 1, -1) := rfl
  have e3 : Builtin.Slice.slicePlaces ((n : Int) - 1) (-1) (-1) = n := by
    unfold Builtin.Slice.slicePlaces
    rw [if_neg (by decide)]
    split
    · rw [(by decide : (- -1 : Int) = 1), Int.ediv_one]
      omega
    · omega
  show wpAny _ _ (match Builtin.Slice.sliceAdjust none none (-1) (n : Int) with | (a, b) => pure (a, (-1 : Int), Builtin.Slice.slicePlaces a b (-1))) _ _ s
  rw [e2]
  show wpAny _ _ (pure ((n : Int) - 1, (-1 : Int), Builtin.Slice.slicePlaces ((n : Int) - 1) (-1) (-1))) _ _ s
  rw [e3]
  exact wpAny_pure k
theorem itemRev {t sl : Addr} {xs : Array Value} {vs : Value} {Q : Value → Shared → Prop} (ht : IsTup s.heap t xs) (hs : s.heap.IsSliceOf sl .none .none vs) (ps : IsPart vs (some (-1))) (hz : xs.size ≤ sizeLine)
    (k : Q (.ref s.heap.objs.size) { s with heap := s.heap.push { cls := .type "tuple", data := .seq xs.toList.reverse.toArray } }) : wpAny (model prog w) A (getItem (.ref t) (.ref sl)) Q E s := by
  have fits : sizeOk (.seq xs.toList.reverse.toArray) := by
    show xs.toList.reverse.toArray.size ≤ sizeLine
    rw [List.size_toArray, List.length_reverse, Array.length_toList]
    exact hz
  obtain ⟨o, ho, hc, hd⟩ := id hs
  have hTy : s.TypeIs (.ref sl) "slice" := ⟨o, ho, hc⟩
  unfold getItem
  try with_reducible refine wpAny_holding ?_
  first | refine wpAny_bind (wpAny_pure ?_) | skip
  refine wpAny_bind (wpAny_sequenceKey ht.typeIs (by decide) (wpAny_bind (wpAny_callSpecial?_slot (name := Str.ofString "__getitem__") ht.typeIs PyProof.Rows.slot_tuple_getitem
    (wpAny_call_entry PyProof.Rows.slot_tuple_getitem ht.typeIs PyProof.Rows.entry_tuple_getitem ?_ (PyProof.Rows.args_tuple_getitem _ _)))))
  show wpAny _ _ (Builtin.Tuple.tupleItemsOf (.ref t) >>= _) _ _ s
  refine wpAny_bind (PyProof.Rows.tupleItemsOf_ ht (wpAny_bind (wpAny_typeOf hTy ?_)))
  rw [if_pos (by decide)]
  refine wpAny_bind (applyRev hs ps ?_)
  have no : ¬ ((((xs.size : Int) - 1) == 0 && (-1 : Int) == 1 && xs.size == xs.size) = true) := by
    rw [(by decide : ((-1 : Int) == 1) = false), Bool.and_false, Bool.false_and]
    exact Bool.false_ne_true
  show wpAny _ _ (if (((xs.size : Int) - 1) == 0 && (-1 : Int) == 1 && xs.size == xs.size) = true then _ else _) _ _ s
  rw [if_neg no, revPick]
  first
    | exact wpAny_bind (m := Builtin.Tuple.tupleExact _) (wpAny_newObj_type (wpAny_pure ⟨_, rfl, wpAny_pure k⟩) fits)
    | exact wpAny_bind (m := Builtin.Tuple.tupleExact _) (wpAny_newObj_type (wpAny_bind (wpAny_pure (wpAny_pure ⟨_, rfl, wpAny_pure k⟩))) fits)
    | exact wpAny_bind (wpAny_bind (m := Builtin.Tuple.tupleExact _) (wpAny_newObj_type (wpAny_pure (wpAny_pure ⟨_, rfl, wpAny_pure k⟩)) fits))
    | exact wpAny_bind (wpAny_bind (m := Builtin.Tuple.tupleExact _) (wpAny_newObj_type (wpAny_pure ⟨_, rfl, wpAny_pure k⟩) fits))
end
theorem peRevT {X : Cx} {e : Expr} {te : TE} {k : Nat} {p1 p2 p3 pos : Pos} (he : PE X e te) : PE X (.Subscript e (.Slice none none (some (.UnaryOp .USub (.Constant (.int 1) k p1) p2)) p3) pos) (tRevT X.K te) := by
  refine ⟨fun pins s σ H Q I h => Subscript_ (thn (he.run pins s σ H _ I h) fun v s1 ⟨x, H1, I1, r1, q1⟩ => ?_)⟩
  obtain ⟨a, xs, ex, hx, q⟩ := q1
  subst ex
  cases r1
  have part : PO X (some (.UnaryOp .USub (.Constant (.int 1) k p1) p2)) (tPart (tUn (rU fun i => .int (-i)) (tC (.int 1)))) := po_some (pe_un un_neg pe_int)
  refine wpAny_Slice ?_
  rw [evalPart_none]
  refine wpAny_pure (wpAny_pure (thn (part.run pins s1 σ H1 (fun o H2 => o = some (-1) ∧ H2 = H1) I1 ⟨1, rfl, -1, rfl, rfl, rfl⟩) fun vs s4 ⟨o, H4, I4, ps, eo, e4⟩ => ?_))
  subst eo e4
  have I5 : Inv X pins σ H4 { s4 with heap := s4.heap.push { cls := .type "slice", data := .fields #[.none, .none, vs] } } := I4.kept (t' := s4.toks) fun b ob z => Heap.get?_push_of_some _ z
  obtain ⟨its, r, ht, hz⟩ := I5.tuple hx
  have hlen := r.length
  show wpAny (model X.prog X.w) X.A (subscriptTail e (.Slice none none (some (.UnaryOp .USub (.Constant (.int 1) k p1) p2)) p3) (.ref a) (.ref s4.heap.objs.size)) (EP X pins σ Q) X.xe { s4 with heap := s4.heap.push { cls := .type "slice", data := .fields #[.none, .none, vs] } }
  refine tail_any (ops := [.ref a, .ref s4.heap.objs.size]) ht.typeIs PyProof.Rows.slot_tuple_getitem.lookup (itemRev ht (Heap.IsSliceOf.new _ .none .none vs) ps (by rw [List.size_toArray]; omega) ?_) (by with_unfolding_all rfl)
  refine ⟨.ref _, _, I5.laid (t' := s4.toks) (o := .tup xs.reverse) (fun b ob z => Heap.get?_push_of_some _ z) (Nat.le_refl _) ?_, rfl, q _ (I5.hok.fresh (Nat.le_refl _))⟩
  exact ⟨by rw [List.length_reverse]; exact hz, _, r.reverse, IsTup.new _ _⟩
end Gx
set_option Elab.async false
set_option linter.all false
set_option maxRecDepth 100000
set_option maxHeartbeats 4000000
/-! Gx: zip of a tuple and a list; list(zip(..)). -/
namespace Gx
open PySem PySem.Spec PyProof.Rows L2
/-- a zip of a tuple and a list, at turn i; its pair may be out -/
structure ZTL (h : Heap) (z TI TO i1 i2 a b : Addr) (i : Nat) : Prop where
  own : (IsZip h z TI TO .none ∧ ∃ x y, PySem.IsPair h TO x y) ∨ ∃ T f o, IsZipHeld h z TI TO T f ∧ h.get? T = some o ∧ o.cls = .type "tuple" ∧ T ≠ z ∧ T ≠ TI ∧ T ≠ TO ∧ T ≠ i1 ∧ T ≠ i2
  ins : PySem.IsPair h TI (.ref i1) (.ref i2)
  one : h.IsTupleIter i1 a i
  two : h.IsListIter i2 b i
section
variable {P : Program} {w : World} {A : Around} {E : Value → Shared → Prop} {s : Shared} {z TI TO i1 i2 a b : Addr} {i : Nat} {xs ys : Array Value}
theorem ZTL.lean {h h' : Heap} {S : Addr} {oS : Obj} (st : ZTL h z TI TO i1 i2 a b i) (hS : h.get? S = some oS) (hc : oS.cls = .type "list") (hn : S ∉ [z, TI, TO, i1, i2]) (k : ∀ c u, c ≠ S → h.get? c = some u → h'.get? c = some u) : ZTL h' z TI TO i1 i2 a b i := by
  have ne : ∀ c, c ∈ [z, TI, TO, i1, i2] → c ≠ S := fun c hc e => hn (e ▸ hc)
  obtain ⟨own, ins, one, two⟩ := st
  refine ⟨?_, k _ _ (ne _ (by simp)) ins, one.at fun o q => k i1 o (ne _ (by simp)) q, two.at fun o q => k i2 o (ne _ (by simp)) q⟩
  rcases own with ⟨hz, x0, y0, hTO⟩ | ⟨T, f, o, hz, hT, n0, r⟩
  · exact .inl ⟨k _ _ (ne _ (by simp)) hz, x0, y0, k _ _ (ne _ (by simp)) hTO⟩
  · refine .inr ⟨T, f, o, k _ _ (ne _ (by simp)) hz, k _ _ (fun e => ?_) hT, n0, r⟩
    subst e
    rw [hS] at hT
    cases hT
    rw [hc] at n0
    exact absurd n0 (by decide)
theorem sep2 (D : ZipApart z TI TO i1 i2 a b) : ZipSep2 z TI TO i1 i2 [i1, a] [i2, b] :=
  ⟨D.TIz, D.TOz, D.TITO, D.TIi1, by simp, by simp [Ne.symm D.i1z, Ne.symm D.l1z], by simp [D.TOi1, Ne.symm D.l1TO], D.TIi2, by simp, by simp [Ne.symm D.i2z, Ne.symm D.l2z], by simp [D.TOi2, Ne.symm D.l2TO],
    by simp [D.i12, Ne.symm D.l2i1], by simp [Ne.symm D.i12, Ne.symm D.l1i2]⟩
/-- the pair is out and known to be: the next turn -/
theorem heldItem {T : Addr} {f : Bool} {o : Obj} {x y : Value} {Q : Value → Shared → Prop} (D : ZipApart z TI TO i1 i2 a b) (hz : IsZipHeld s.heap z TI TO T f) (hT : s.heap.get? T = some o)
    (hTI : PySem.IsPair s.heap TI (.ref i1) (.ref i2)) (h1 : s.heap.IsTupleIter i1 a i) (h2 : s.heap.IsListIter i2 b i) (p1 : s.heap.IsTuple a xs) (p2 : s.heap.IsList b ys) (hx : xs[i]? = some x) (hy : ys[i]? = some y)
    (k : ∀ h', IsZipHeld h' z TI TO T true → h'.IsTupleIter i1 a (i + 1) → h'.IsListIter i2 b (i + 1) → PySem.IsPair h' s.heap.objs.size x y → (∀ c u, c ≠ z → c ≠ i1 → c ≠ i2 → s.heap.get? c = some u → h'.get? c = some u) →
      Q (.ref s.heap.objs.size) { s with heap := h' }) :
    wpAny (model P w) A (Builtin.«zip.__next__» ⟨[.ref z], []⟩) (fun fin s' => ∃ v, fin = .done (.ret v) ∧ Q v s') E s := by
  show wpAny _ _ (field (.ref z) 2 >>= _) _ _ _
  refine wpAny_bind (wpAny_field hz rfl (x := .bool false) rfl ?_)
  show wpAny _ _ (field (.ref z) 3 >>= _) _ _ _
  refine wpAny_bind (wpAny_field hz rfl (x := .ref TI) rfl (wpAny_bind (wpAny_seqItems hTI rfl ?_)))
  show wpAny _ _ (Builtin.SmallTypes.ownedTupleIsFree (.ref z) >>= _) _ _ _
  refine wpAny_bind (wpAny_tupleHeld_zip hz hT fun g0 gz s0 => ?_)
  simp only [Bool.false_eq_true, if_false]
  refine wpAny_bind ?_
  rw [← Array.forIn_toList]
  simp only [List.forIn_cons, List.forIn_nil]
  refine wpAny_bind (wpAny_bind (wpAny_holding ?_))
  show wpAny _ _ (Builtin.SmallTypes.nextOf (.ref i1) >>= _) _ _ _
  refine wpAny_bind (wpAny_nextOf_tuple_item (s := { s with heap := g0 }) (h1.extBut s0.extBut D.i1z) (p1.extBut s0.extBut D.l1z) hx fun g1 j1 s1 => wpAny_pure (wpAny_pure ?_))
  refine wpAny_bind (wpAny_bind (wpAny_holding ?_))
  show wpAny _ _ (Builtin.SmallTypes.nextOf (.ref i2) >>= _) _ _ _
  refine wpAny_bind (wpAny_nextOf_list_item (s := { s with heap := g1 }) ((h2.extBut s0.extBut D.i2z).extBut s1.extBut D.i12.symm) ((p2.extBut s0.extBut D.l2z).extBut s1.extBut D.l2i1) hy fun g2 j2 s2 => wpAny_pure (wpAny_pure (wpAny_pure ?_)))
  show wpAny _ _ (newTuple [x, y] >>= _) _ _ _
  refine wpAny_bind (wpAny_newTuple (wpAny_pure ⟨_, rfl, ?_⟩))
  have es : g2.objs.size = s.heap.objs.size := by rw [s2.1, s1.1, s0.1]
  have gz2 : IsZipHeld g2 z TI TO T true := s2.extBut _ _ D.i2z.symm (s1.extBut _ _ D.i1z.symm gz)
  show Q (.ref g2.objs.size) _
  have pr : PySem.IsPair (g2.push { cls := .type "tuple", data := .seq #[x, y] }) g2.objs.size x y := Heap.get?_push_size _ rfl
  rw [es] at pr ⊢
  exact k _ (Heap.get?_push_of_some _ gz2) ((j1.extBut s2.extBut D.i12).at fun u q => Heap.get?_push_of_some _ q) (j2.at fun u q => Heap.get?_push_of_some _ q) pr
    fun c u c1 c2 c3 q => Heap.get?_push_of_some _ (s2.extBut _ _ c3 (s1.extBut _ _ c2 (s0.extBut _ _ c1 q)))
theorem heldEnd {T : Addr} {f : Bool} {o : Obj} {Q : Fin → Shared → Prop} (hh : A.handled = none) (D : ZipApart z TI TO i1 i2 a b) (hz : IsZipHeld s.heap z TI TO T f) (hT : s.heap.get? T = some o)
    (hTI : PySem.IsPair s.heap TI (.ref i1) (.ref i2)) (h1 : s.heap.IsTupleIter i1 a i) (h2 : s.heap.IsListIter i2 b i) (p1 : s.heap.IsTuple a xs) (p2 : s.heap.IsList b ys) (he : xs[i]? = none ∨ ys[i]? = none)
    (k : ∀ h' e, (∀ c u, c ≠ z → c ≠ i1 → c ≠ i2 → s.heap.get? c = some u → h'.get? c = some u) → (∃ u, h'.get? e = some u ∧ u.cls = .type "StopIteration") → E (.ref e) { s with heap := h' }) :
    wpAny (model P w) A (Builtin.«zip.__next__» ⟨[.ref z], []⟩) Q E s := by
  show wpAny _ _ (field (.ref z) 2 >>= _) _ _ _
  refine wpAny_bind (wpAny_field hz rfl (x := .bool false) rfl ?_)
  show wpAny _ _ (field (.ref z) 3 >>= _) _ _ _
  refine wpAny_bind (wpAny_field hz rfl (x := .ref TI) rfl (wpAny_bind (wpAny_seqItems hTI rfl ?_)))
  show wpAny _ _ (Builtin.SmallTypes.ownedTupleIsFree (.ref z) >>= _) _ _ _
  refine wpAny_bind (wpAny_tupleHeld_zip hz hT fun g0 gz s0 => ?_)
  simp only [Bool.false_eq_true, if_false]
  refine wpAny_bind ?_
  rw [← Array.forIn_toList]
  simp only [List.forIn_cons, List.forIn_nil]
  refine wpAny_bind (wpAny_bind (wpAny_holding ?_))
  show wpAny _ _ (Builtin.SmallTypes.nextOf (.ref i1) >>= _) _ _ _
  cases hx : xs[i]? with
  | none =>
    exact wpAny_bind (wpAny_nextOf_tuple_end (s := { s with heap := g0 }) hh (h1.extBut s0.extBut D.i1z) (p1.extBut s0.extBut D.l1z) hx fun g1 e s1 q => k g1 e (fun c u c1 c2 _ r => s1 _ _ c2 (s0.extBut _ _ c1 r)) q)
  | some x =>
    have hy : ys[i]? = none := he.resolve_left (by rw [hx]; exact Option.some_ne_none x)
    refine wpAny_bind (wpAny_nextOf_tuple_item (s := { s with heap := g0 }) (h1.extBut s0.extBut D.i1z) (p1.extBut s0.extBut D.l1z) hx fun g1 j1 s1 => wpAny_pure (wpAny_pure ?_))
    refine wpAny_bind (wpAny_bind (wpAny_holding ?_))
    show wpAny _ _ (Builtin.SmallTypes.nextOf (.ref i2) >>= _) _ _ _
    exact wpAny_bind (wpAny_nextOf_list_end (s := { s with heap := g1 }) hh ((h2.extBut s0.extBut D.i2z).extBut s1.extBut D.i12.symm) ((p2.extBut s0.extBut D.l2z).extBut s1.extBut D.l2i1) hy
      fun g2 e s2 q => k g2 e (fun c u c1 c2 c3 r => s2 _ _ c3 (s1.extBut _ _ c2 (s0.extBut _ _ c1 r))) q)
/-- a turn of such a zip -/
theorem zItem {x y : Value} {Q : Option Value → Shared → Prop} (hh : A.handled = none) (D : ZipApart z TI TO i1 i2 a b) (st : ZTL s.heap z TI TO i1 i2 a b i) (p1 : s.heap.IsTuple a xs) (p2 : s.heap.IsList b ys) (hx : xs[i]? = some x) (hy : ys[i]? = some y)
    (k : ∀ h' tk, ZTL h' z TI TO i1 i2 a b (i + 1) → PySem.IsPair h' s.heap.objs.size x y → (∀ c u, c ∉ [z, TI, TO, i1, i2] → s.heap.get? c = some u → h'.get? c = some u) → Q (some (.ref s.heap.objs.size)) { s with heap := h', toks := tk }) :
    wpAny (model P w) A (pyNext (.ref z)) Q E s := by
  obtain ⟨own, ins, one, two⟩ := st
  rcases own with ⟨hz, x0, y0, hTO⟩ | ⟨T, f, o, hz, hT, n0, n1, n2, n3, n4, n5⟩
  · refine wpAny_pyNext_zipD2_item (sep2 D) (Draws.tuple (prog := P) (w := w) (A := A.in1) hh i1 a D.l1i1 xs) (Draws.list (prog := P) (w := w) (A := A.in1) hh i2 b D.l2i2 ys) hz ins hTO ⟨one, p1⟩ ⟨two, p2⟩
      (Array.getElem?_eq_some_iff.mp hx).1 (Array.getElem?_eq_some_iff.mp hy).1 fun x1 x2 h' tk e1 e2 hz' hTO' s1 s2 pr sz kp => ?_
    have q1 : x1 = x := Option.some.inj (e1.symm.trans hx)
    have q2 : x2 = y := Option.some.inj (e2.symm.trans hy)
    subst q1 q2
    have lt : ∀ {c u}, s.heap.get? c = some u → s.heap.objs.size ≠ c := fun q => Ne.symm (Nat.ne_of_lt (Heap.lt_size q))
    have l1 : s.heap.objs.size ≠ i1 := by obtain ⟨_, q, _⟩ := one; exact lt q
    have l2 : s.heap.objs.size ≠ i2 := by obtain ⟨_, q, _⟩ := two; exact lt q
    exact k h' tk ⟨.inr ⟨_, false, _, hz', pr, rfl, lt hz, lt ins, lt hTO, l1, l2⟩, kp _ _ D.TIz D.TITO D.TIi1 D.TIi2 ins, s1.1, s2.1⟩ pr
      fun c u hc q => kp c u (fun e => hc (by simp [e])) (fun e => hc (by simp [e])) (fun e => hc (by simp [e])) (fun e => hc (by simp [e])) q
  · have ty : s.TypeIs (.ref z) "zip" := ⟨_, hz, rfl⟩
    unfold pyNext
    refine wpAny_bind (wpAny_attempt (wpAny_callSpecial?_slot (name := Str.ofString "__next__") ty F.slot_zip_next (wpAny_call_entry F.slot_zip_next ty F.entry_zip_next
      (heldItem D hz hT ins one two p1 p2 hx hy fun h' hz' j1 j2 pr kp => wpAny_pure ?_) (F.args_zip_next_1 _))))
    exact k h' s.toks ⟨.inr ⟨T, true, o, hz', kp T o n1 n4 n5 hT, n0, n1, n2, n3, n4, n5⟩, kp _ _ D.TIz D.TIi1 D.TIi2 ins, j1, j2⟩ pr
      fun c u hc q => kp c u (fun e => hc (by simp [e])) (fun e => hc (by simp [e])) (fun e => hc (by simp [e])) q
theorem zEnd {Q : Option Value → Shared → Prop} (hh : A.handled = none) (D : ZipApart z TI TO i1 i2 a b) (st : ZTL s.heap z TI TO i1 i2 a b i) (p1 : s.heap.IsTuple a xs) (p2 : s.heap.IsList b ys) (he : xs[i]? = none ∨ ys[i]? = none)
    (k : ∀ h' tk, (∀ c u, c ∉ [z, TI, TO, i1, i2] → s.heap.get? c = some u → h'.get? c = some u) → Q none { s with heap := h', toks := tk }) : wpAny (model P w) A (pyNext (.ref z)) Q E s := by
  obtain ⟨own, ins, one, two⟩ := st
  rcases own with ⟨hz, x0, y0, hTO⟩ | ⟨T, f, o, hz, hT, n0, n1, n2, n3, n4, n5⟩
  · have fin : ∀ h' tk, (∀ c u, c ≠ z → c ≠ TO → c ≠ i1 → c ≠ i2 → s.heap.get? c = some u → h'.get? c = some u) → Q none { s with heap := h', toks := tk } := fun h' tk kp =>
      k h' tk fun c u hc q => kp c u (fun e => hc (by simp [e])) (fun e => hc (by simp [e])) (fun e => hc (by simp [e])) (fun e => hc (by simp [e])) q
    cases hx : xs[i]? with
    | none =>
      cases hy : ys[i]? with
      | none => exact wpAny_pyNext_zipD2_end (sep2 D) (overT (P := P) (w := w) (A := A.in1) hh hx) (overL (P := P) (w := w) (A := A.in1) hh hy) hz ins hTO ⟨rfl, one, p1⟩ ⟨rfl, two, p2⟩ (Nat.le_refl _) (Nat.le_refl _) (.inl rfl) fin
      | some y => exact wpAny_pyNext_zipD2_end (sep2 D) (overT (P := P) (w := w) (A := A.in1) hh hx) (Draws.list (prog := P) (w := w) (A := A.in1) hh i2 b D.l2i2 ys) hz ins hTO ⟨rfl, one, p1⟩ ⟨two, p2⟩ (Nat.le_refl _) (Nat.le_of_lt (Array.getElem?_eq_some_iff.mp hy).1) (.inl rfl) fin
    | some x =>
      have hy : ys[i]? = none := he.resolve_left (by rw [hx]; exact Option.some_ne_none x)
      exact wpAny_pyNext_zipD2_end (sep2 D) (Draws.tuple (prog := P) (w := w) (A := A.in1) hh i1 a D.l1i1 xs) (overL (P := P) (w := w) (A := A.in1) hh hy) hz ins hTO ⟨one, p1⟩ ⟨rfl, two, p2⟩ (Nat.le_of_lt (Array.getElem?_eq_some_iff.mp hx).1) (Nat.le_refl _) (.inr rfl) fin
  · have ty : s.TypeIs (.ref z) "zip" := ⟨_, hz, rfl⟩
    unfold pyNext
    refine wpAny_bind (wpAny_attempt (wpAny_callSpecial?_slot (name := Str.ofString "__next__") ty F.slot_zip_next (wpAny_call_entry F.slot_zip_next ty F.entry_zip_next
      (heldEnd hh D hz hT ins one two p1 p2 he fun h' e kp q => ?_) (F.args_zip_next_1 _))))
    obtain ⟨u, hu, hc⟩ := q
    refine wpAny_bind (wpAny_isInstance (T := "StopIteration") (b := true) ⟨u, hu, hc⟩ isSubtype_stop (wpAny_pure (k h' s.toks ?_)))
    exact fun c u hc q => kp c u (fun e => hc (by simp [e])) (fun e => hc (by simp [e])) (fun e => hc (by simp [e])) q
end
end Gx
set_option Elab.async false
set_option linter.all false
set_option maxRecDepth 100000
set_option maxHeartbeats 4000000
/-! Gx: for over zip of a tuple and a list; list(zip(..)). -/
namespace Gx
open PySem PySem.Spec PyProof.Rows L2
/-- zip of the tuple at a and the list at b, each turn a new pair -/
def ItzTL (K : PySem.W.Frag) (a b : Addr) : It :=
  ⟨fun i H => ∃ (xs ys : List V) (x y : V), SqT K H a xs ∧ SqL K H b ys ∧ xs[i]? = some x ∧ ys[i]? = some y,
    fun i H v H' => ∃ T x y, v = .ref T ∧ H T = none ∧ H' = upd H T (.tup [x, y]) ∧ (∀ xs, SqT K H a xs → xs[i]? = some x) ∧ ∀ ys, SqL K H b ys → ys[i]? = some y,
    fun i H => ∃ xs ys : List V, SqT K H a xs ∧ SqL K H b ys ∧ (xs.length ≤ i ∨ ys.length ≤ i)⟩
theorem turnTL {P : Program} {w : World} {K : PySem.W.Frag} {elts : List Expr} {kk : Nat} {tpos : Pos} {a b z TI TO i1 i2 : Addr} (D : ZipApart z TI TO i1 i2 a b) :
    Turn P w K (.Tuple elts kk tpos) (ItzTL K a b) [z, TI, TO, i1, i2] z (fun i h => IsZip h z TI TO .none ∧ PySem.IsPair h TI (.ref i1) (.ref i2) ∧ (∃ x y, PySem.IsPair h TO x y) ∧ h.IsTupleIter i1 a i ∧ h.IsListIter i2 b i) where
  mem := by simp
  obj := fun i h st c hc => by
    obtain ⟨hz, hTI, ⟨x, y, hTO⟩, ⟨o1, e1, _, d1⟩, ⟨o2, e2, _, d2⟩⟩ := st
    rcases (by simpa using hc : c = z ∨ c = TI ∨ c = TO ∨ c = i1 ∨ c = i2) with rfl | rfl | rfl | rfl | rfl
    · exact ⟨_, hz, fun v q => nomatch q⟩
    · exact ⟨_, hTI, fun v q => nomatch q⟩
    · exact ⟨_, hTO, fun v q => nomatch q⟩
    · exact ⟨o1, e1, fun v q => by rw [d1] at q; cases q⟩
    · exact ⟨o2, e2, fun v q => by rw [d2] at q; cases q⟩
  keep := fun i h h' st k => by
    obtain ⟨hz, hTI, ⟨x, y, hTO⟩, h1, h2⟩ := st
    exact ⟨k z (by simp) _ hz, k TI (by simp) _ hTI, ⟨x, y, k TO (by simp) _ hTO⟩, h1.at fun o q => k i1 (by simp) o q, h2.at fun o q => k i2 (by simp) o q⟩
  item := by
    intro X hP hw hK hc i pins s σ H E I hf st hg
    subst hP hw hK
    obtain ⟨hz, hTI, ⟨x0, y0, hTO⟩, h1, h2⟩ := st
    obtain ⟨xs, ys, x, y, qx, qy, hx, hy⟩ := hg
    obtain ⟨its, rv, p, _⟩ := I.tuple qx
    obtain ⟨it2, rv2, p2, _⟩ := I.list qy
    obtain ⟨u, hu, ru⟩ := rv.get hx
    obtain ⟨u2, hu2, ru2⟩ := rv2.get hy
    have lz : z < s.heap.objs.size := Heap.lt_size hz
    have p' : s.heap.IsTuple a its.toArray := p
    have e1 : its.toArray[i]? = some u := by simpa using hu
    have e2 : it2.toArray[i]? = some u2 := by simpa using hu2
    have hd := I.ok.hd hc
    refine wpAny_pyNext_zipD2_item (sep2 D) (Draws.tuple (prog := X.prog) (w := X.w) (A := X.A.in1) hd i1 a D.l1i1 its.toArray) (Draws.list (prog := X.prog) (w := X.w) (A := X.A.in1) hd i2 b D.l2i2 it2.toArray) hz hTI hTO ⟨h1, p'⟩ ⟨h2, p2.isList⟩
      (Array.getElem?_eq_some_iff.mp e1).1 (Array.getElem?_eq_some_iff.mp e2).1 fun x1 x2 h' tk z1 z2 hz' TO' s1 s2 hT hsz hk => ?_
    have w1 : x1 = u := Option.some.inj (z1.symm.trans e1)
    have w2 : x2 = u2 := Option.some.inj (z2.symm.trans e2)
    subst w1 w2
    refine ⟨_, rfl, wpAny_letOwnedTupleGo_zip (s := { s with heap := h', toks := tk }) hz' fun h'' z'' sb => ?_⟩
    have hT2 : h''.get? s.heap.objs.size = some { cls := .type "tuple", data := .seq #[x1, x2] } := (sb.2 _ (Nat.ne_of_gt lz)).trans hT
    have nw : ObjOk X.prog X.w (upd H s.heap.objs.size (.tup [x, y])) h'' s.heap.objs.size (.tup [x, y]) :=
      ⟨by show 2 ≤ sizeLine; decide, [x1, x2], .cons ru (.cons ru2 .nil), ⟨_, hT2, rfl, _, rfl⟩⟩
    have I1 : Inv X pins σ (upd H s.heap.objs.size (.tup [x, y])) { s with heap := h'', toks := tk } :=
      I.turnedNew (ch := [z, TI, TO, i1, i2]) (fun c o hb q => (sb.2 c (fun e => hb (by simp [e]))).trans (hk c o (fun e => hb (by simp [e])) (fun e => hb (by simp [e])) (fun e => hb (by simp [e])) (fun e => hb (by simp [e])) q)) hf (Nat.le_refl _) nw
    refine ⟨.ref s.heap.objs.size, _, I1, rfl, ⟨_, x, y, rfl, I.hok.fresh (Nat.le_refl _), rfl, fun l hl => by rw [I.tuple_inj hl qx]; exact hx, fun l hl => by rw [I.list_inj hl qy]; exact hy⟩, ⟨z'', ?_, ⟨x1, x2, ?_⟩, ?_, ?_⟩, fun c hcm => ?_⟩
    · exact (sb.2 _ D.TIz).trans (hk _ _ D.TIz D.TITO D.TIi1 D.TIi2 hTI)
    · exact (sb.2 _ D.TOz).trans TO'
    · exact s1.1.at fun o q => (sb.2 _ D.i1z).trans q
    · exact s2.1.at fun o q => (sb.2 _ D.i2z).trans q
    · have lt : c < s.heap.objs.size := by
        rcases (by simpa using hcm : c = z ∨ c = TI ∨ c = TO ∨ c = i1 ∨ c = i2) with rfl | rfl | rfl | rfl | rfl
        · exact lz
        · exact Heap.lt_size hTI
        · exact Heap.lt_size hTO
        · obtain ⟨_, e, _⟩ := h1; exact Heap.lt_size e
        · obtain ⟨_, e, _⟩ := h2; exact Heap.lt_size e
      rw [upd_ne (Nat.ne_of_lt lt)]
      exact (hf c hcm).1
  done := by
    intro X hP hw hK hc i pins s σ H E I hf st hg
    subst hP hw hK
    obtain ⟨hz, hTI, hTO, h1, h2⟩ := st
    obtain ⟨xs, ys, qx, qy, he⟩ := hg
    obtain ⟨its, rv, p, _⟩ := I.tuple qx
    obtain ⟨it2, rv2, p2, _⟩ := I.list qy
    have l1 := rv.length
    have l2 := rv2.length
    have p' : s.heap.IsTuple a its.toArray := p
    have h0 : its.toArray[i]? = none ∨ it2.toArray[i]? = none := by
      rcases he with q | q
      · exact .inl (by simp; omega)
      · exact .inr (by simp; omega)
    exact zEnd (P := X.prog) (w := X.w) (I.ok.hd hc) D ⟨.inl ⟨hz, hTO⟩, hTI, h1, h2⟩ p' p2.isList h0 fun h' tk hk => ⟨rfl, I.turnedL (t' := tk) (ch := [z, TI, TO, i1, i2]) hk hf⟩
  self := fun A i s Q E st h => wpAny_pyIter_zip st.1 h
theorem it_zipTL {G : Gl} {F : Hp} {ι : List Addr} {H : Hp} {xs ys : List D} {a b : Addr} {vs ws : List V} (q : SqT G.K F a vs) (l : RepL G F ι xs vs) (q2 : SqL G.K F b ws) (l2 : RepL G F ι ys ws) : ItOk G (ItzTL G.K a b) (pairsD xs ys) F ι H := by
  intro i S' F' ι' H' e r
  have q' : SqT G.K H' a vs := SqT.fmono r.sub (SqT.fmono e.f q)
  have q2' : SqL G.K H' b ws := SqL.fmono r.sub (SqL.fmono e.f q2)
  refine ⟨fun h => ⟨vs, ws, q', q2', by rw [← l.length, ← l2.length]; exact pairs_len h⟩, fun d hd => ?_⟩
  obtain ⟨d1, d2, h1, h2, rfl⟩ := pairs_get hd
  obtain ⟨v, hv, rv⟩ := l.get h1
  obtain ⟨u, hu, ru⟩ := l2.get h2
  refine ⟨⟨vs, ws, v, u, q', q2', hv, hu⟩, fun x H'' ⟨T, x1, y1, e0, hT, e1, e2, e3⟩ => ?_⟩
  subst e0 e1
  have z1 := (e2 vs q').symm.trans hv
  have z2 := (e3 ws q2').symm.trans hu
  cases z1
  cases z2
  obtain ⟨ex, r'⟩ := r.frz hT (.tup [v, u]) (fun _ z => by cases z)
  exact ⟨_, ex, r', T, _, rfl, SqT.of upd_same, v, [u], rfl, ex.rep (e.rep rv), u, [], rfl, ex.rep (e.rep ru), rfl⟩
def iZipB (K : PySem.W.Frag) (ta : TA) : TI := fun σ H R => ta σ H fun vs H1 => ∃ a b xs ys, vs = [.ref a, .ref b] ∧
  (((SqL K H1 a xs ∧ SqL K H1 b ys ∧ R (Itz K a b) H1) ∨ (SqT K H1 a xs ∧ SqT K H1 b ys ∧ R (RZ.ItzT K a b) H1)) ∨ (SqT K H1 a xs ∧ SqL K H1 b ys ∧ R (ItzTL K a b) H1))
theorem piZipB {X : Cx} {e e2 : Expr} {ta : TA} {p pos tpos : Pos} {elts : List Expr} {kk : Nat} (hg : L2.Gl X "zip") (hm : X.mg "zip" = none) (ha : PA X [e, e2] ta)
    (hs : starEach [e, e2] X.env = (false, eval e X.env) :: starEach [e2] X.env) (hpl : (backTo pos (starEach [e2] X.env)).any (·.1) = false) :
    PI X (.Tuple elts kk tpos) (.Call (.Name "zip" p) [e, e2] [] pos) (iZipB X.K ta) := by
  refine ⟨fun pins s σ H R I h => Call_ (ld_blt I hg hm PyProof.Rows.boot_zip (PyProof.Rows.callWith_type1 (thn (ha.run pos pins s σ H _ I h) fun us s1 ⟨vs, H1, I1, r1, q1⟩ => ?_) hs hpl))⟩
  obtain ⟨a, b, xs, ys, ex, q1⟩ := q1
  subst ex
  cases r1 with
  | cons r rr =>
    cases rr with
    | cons r' rr =>
      cases rr
      cases r
      cases r'
      have fp : ∀ c, c ∈ [s1.heap.objs.size + 4, s1.heap.objs.size + 2, s1.heap.objs.size + 3, s1.heap.objs.size, s1.heap.objs.size + 1] → FpOk X pins H1 c := fun c hc => by
        have le : s1.heap.objs.size ≤ c := by
          rcases (by simpa using hc : c = s1.heap.objs.size + 4 ∨ c = s1.heap.objs.size + 2 ∨ c = s1.heap.objs.size + 3 ∨ c = s1.heap.objs.size ∨ c = s1.heap.objs.size + 1) with q | q | q | q | q <;> (rw [q]; first | exact Nat.le_refl _ | exact Nat.le_add_right _ _)
        exact I1.fpOk le (I1.hok.fresh le)
      rcases q1 with (⟨qx, qy, q⟩ | ⟨qx, qy, q⟩) | ⟨qx, qy, q⟩
      · obtain ⟨its, rv, p1, _⟩ := I1.list qx
        obtain ⟨it2, rv2, p2, _⟩ := I1.list qy
        refine call_zip_2 p1.isList p2.isList fun h' hz hTI hTO h1 h2 hsz hk => wpAny_pyIter_zip hz ?_
        exact ⟨s1.heap.objs.size + 4, [s1.heap.objs.size + 4, s1.heap.objs.size + 2, s1.heap.objs.size + 3, s1.heap.objs.size, s1.heap.objs.size + 1], _, _, H1, rfl, I1.kept (t' := s1.toks) hk, turn_zip (PySem.W.ktu_apart s1.heap.objs.size a b p1.lt p2.lt), ⟨hz, hTI, ⟨_, _, hTO⟩, h1, h2⟩, fp, q⟩
      · obtain ⟨its, rv, p1, _⟩ := I1.tuple qx
        obtain ⟨it2, rv2, p2, _⟩ := I1.tuple qy
        obtain ⟨o1, ho1, _⟩ := id p1
        obtain ⟨o2, ho2, _⟩ := id p2
        refine RZ.call_zipT (show s1.heap.IsTuple a its.toArray from p1) (show s1.heap.IsTuple b it2.toArray from p2) fun h' hz hTI hTO h1 h2 hsz hk => wpAny_pyIter_zip hz ?_
        exact ⟨s1.heap.objs.size + 4, [s1.heap.objs.size + 4, s1.heap.objs.size + 2, s1.heap.objs.size + 3, s1.heap.objs.size, s1.heap.objs.size + 1], _, _, H1, rfl, I1.kept (t' := s1.toks) hk, RZ.turn_zipT (PySem.W.ktu_apart s1.heap.objs.size a b (Heap.lt_size ho1) (Heap.lt_size ho2)), ⟨hz, hTI, ⟨_, _, hTO⟩, h1, h2⟩, fp, q⟩
      · obtain ⟨its, rv, p1, _⟩ := I1.tuple qx
        obtain ⟨it2, rv2, p2, _⟩ := I1.list qy
        obtain ⟨o1, ho1, _⟩ := id p1
        refine zip_begins2 (begins_tuple a its.toArray) (begins_list b it2.toArray) (show s1.heap.IsTuple a its.toArray from p1) p2.isList fun h' hz hTI hTO g1 g2 hsz hk => wpAny_pyIter_zip hz ?_
        exact ⟨s1.heap.objs.size + 4, [s1.heap.objs.size + 4, s1.heap.objs.size + 2, s1.heap.objs.size + 3, s1.heap.objs.size, s1.heap.objs.size + 1], _, _, H1, rfl, I1.kept (t' := s1.toks) hk, turnTL (PySem.W.ktu_apart s1.heap.objs.size a b (Heap.lt_size ho1) p2.lt), ⟨hz, hTI, ⟨_, _, hTO⟩, ⟨_, g1, rfl, rfl⟩, ⟨_, g2, rfl, rfl⟩⟩, fp, q⟩
end Gx
set_option Elab.async false
set_option linter.all false
set_option maxRecDepth 100000
set_option maxHeartbeats 4000000
/-! Gx: list(zip(tuple, list)). -/
namespace Gx
open PySem PySem.Spec PyProof.Rows L2
/-- pairs laid one by one as new tuples -/
inductive Prs : Hp → List (V × V) → List V → Hp → Prop
  | nil {H : Hp} : Prs H [] [] H
  | cons {H H' : Hp} {T : Addr} {x y : V} {r : List (V × V)} {Ts : List V} : H T = none → Prs (upd H T (.tup [x, y])) r Ts H' → Prs H ((x, y) :: r) (.ref T :: Ts) H'
theorem Prs.len {H H' : Hp} {r : List (V × V)} {Ts : List V} (p : Prs H r Ts H') : Ts.length = r.length := by
  induction p with
  | nil => rfl
  | cons _ _ ih => simp [ih]
theorem loopTL {X : Cx} (hc : X.calm = true) {A : Around} (hh : A.handled = none) {pins : List (Addr × Obj)} {σ : L2.St} {z TI TO i1 i2 a b S : Addr} (D : ZipApart z TI TO i1 i2 a b) (hlt : ∀ q, q ∈ [z, TI, TO, i1, i2] → q < S)
    {vs ws : List V} (hz : vs.length ≤ sizeLine) {res : Value} {R : Result → Shared → Prop} :
    ∀ (r : List (V × V)) (i : Nat) (s : Shared) (H : Hp) (Ts : List V) (acc : Array Value) (c : Nat), (vs.zip ws).drop i = r → Ts.length = i → Inv X pins σ H s → (∀ q, q ∈ [z, TI, TO, i1, i2] → FpOk X pins H q) → FpOk X pins H S →
      SqT X.K H a vs → SqL X.K H b ws → ZTL s.heap z TI TO i1 i2 a b i → s.heap.get? S = some (lstObj acc c) → Vals Ts acc.toList →
      (∀ s' H' Ts' acc' c', Inv X pins σ H' s' → FpOk X pins H' S → Prs H r Ts' H' → s'.heap.get? S = some (lstObj acc' c') → Vals (Ts ++ Ts') acc'.toList → R (.ok (.ret res)) s') →
      codeAny (model X.prog X.w) A (.builtin "list.extend.loop" ⟨[.ref S, .ref z, res], []⟩) R s := by
  have hS : S ∉ [z, TI, TO, i1, i2] := fun h => Nat.lt_irrefl _ (hlt S h)
  intro r
  induction r with
  | nil =>
    intro i s H Ts acc c hr hT I fp fS qa qb st hS1 hv k
    obtain ⟨its, rv, p, _⟩ := I.tuple qa
    obtain ⟨it2, rv2, p2, _⟩ := I.list qb
    have l1 := rv.length
    have l2 := rv2.length
    have hl := List.drop_eq_nil_iff.mp hr
    rw [List.length_zip] at hl
    have he : its.toArray[i]? = none ∨ it2.toArray[i]? = none := by
      rcases (by omega : vs.length ≤ i ∨ ws.length ≤ i) with q | q
      · exact .inl (by simp; omega)
      · exact .inr (by simp; omega)
    refine codeAny_builtin F.entry_extend_loop ?_
    rw [Around.under_plainId F.plain_extend_loop _]
    show wpAny _ A.in1 (pyNext (.ref z) >>= _) _ _ s
    refine wpAny_bind (zEnd (A := A.in1) hh D st (show s.heap.IsTuple a its.toArray from p) p2.isList he fun h' tk kp => wpAny_pure ?_)
    exact k _ H [] acc c (I.turnedL (t' := tk) (ch := [z, TI, TO, i1, i2]) kp fp) fS .nil (kp S _ hS hS1) (by rw [List.append_nil]; exact hv)
  | cons xy r ih =>
    obtain ⟨x, y⟩ := xy
    intro i s H Ts acc c hr hT I fp fS qa qb st hS1 hv k
    obtain ⟨its, rv, p, _⟩ := I.tuple qa
    obtain ⟨it2, rv2, p2, _⟩ := I.list qb
    have hg : (vs.zip ws)[i]? = some (x, y) := by
      have q : ((vs.zip ws).drop i)[0]? = some (x, y) := by rw [hr]; rfl
      rw [List.getElem?_drop, Nat.add_zero] at q
      exact q
    have hr2 : (vs.zip ws).drop (i + 1) = r := by
      rw [← List.drop_drop, hr] <;> rfl
    obtain ⟨hx, hy⟩ := List.getElem?_zip_eq_some.mp hg
    obtain ⟨u, hu, ru⟩ := rv.get hx
    obtain ⟨u2, hu2, ru2⟩ := rv2.get hy
    have hi : i < vs.length := (List.getElem?_eq_some_iff.mp hx).1
    have ha : acc.size = i := by
      have q := hv.length
      rw [hT] at q
      rw [q, Array.length_toList]
    refine codeAny_builtin F.entry_extend_loop ?_
    rw [Around.under_plainId F.plain_extend_loop _]
    show wpAny _ A.in1 (pyNext (.ref z) >>= _) _ _ s
    refine wpAny_bind (zItem (A := A.in1) hh D st (show s.heap.IsTuple a its.toArray from p) p2.isList (x := u) (y := u2) (by simpa using hu) (by simpa using hu2) fun h' tk st' pr kp => ?_)
    have nS : s.heap.objs.size ≠ S := Ne.symm (Nat.ne_of_lt (Heap.lt_size hS1))
    have hS2 := kp S _ hS hS1
    have nw : ObjOk X.prog X.w (upd H s.heap.objs.size (.tup [x, y])) h' s.heap.objs.size (.tup [x, y]) :=
      ⟨by show 2 ≤ sizeLine; decide, [u, u2], .cons ru (.cons ru2 .nil), ⟨_, pr, rfl, _, rfl⟩⟩
    have I1 : Inv X pins σ (upd H s.heap.objs.size (.tup [x, y])) { s with heap := h', toks := tk } := I.turnedNew (ch := [z, TI, TO, i1, i2]) kp fp (Nat.le_refl _) nw
    have hn : H s.heap.objs.size = none := I.hok.fresh (Nat.le_refl _)
    have fr : ∀ {q}, FpOk X pins H q → (q < s.heap.objs.size) → FpOk X pins (upd H s.heap.objs.size (.tup [x, y])) q := fun f lt => ⟨by rw [upd_ne (Nat.ne_of_lt lt)]; exact f.1, f.2⟩
    have lz : ∀ q, q ∈ [z, TI, TO, i1, i2] → q < s.heap.objs.size := fun q hq => Nat.lt_trans (hlt q hq) (Heap.lt_size hS1)
    show wpAny _ A.in1 (updateSeq S (·.push (.ref s.heap.objs.size)) >>= _) _ _ _
    refine wpAny_bind ?_
    have oth : ∀ c u, c ≠ S → h'.get? c = some u → (h'.update S (Obj.mapSeq (·.push (Value.ref s.heap.objs.size)))).get? c = some u := fun c u hc e => (Heap.get?_update_other _ _ (Ne.symm hc)).trans e
    have hS3 := Heap.get?_update_self (Obj.mapSeq (·.push (Value.ref s.heap.objs.size))) hS2 rfl
    obtain ⟨f0, f1, f2, f3, f4, f5⟩ := fr fS (Heap.lt_size hS1)
    have vl : Vals (Ts ++ [.ref s.heap.objs.size]) (acc.push (.ref s.heap.objs.size)).toList := by
      rw [Array.toList_push]
      exact hv.append (.cons rfl .nil)
    refine wpAny_updateSeq hS2 rfl (wpAny_pure ⟨plainId_quiet F.plain_extend_loop _, ih (i + 1) _ (upd H s.heap.objs.size (.tup [x, y])) (Ts ++ [.ref s.heap.objs.size]) (acc.push (.ref s.heap.objs.size)) _ hr2 (by rw [List.length_append, hT]; rfl)
      (I1.turned (t' := tk) oth f0 f1 f3 f4 f5) (fun q hq => fr (fp q hq) (lz q hq)) ⟨f0, f1, f2, f3, f4, f5⟩ (SqT.fmono (fun c v e => by rw [upd_ne (ne_of_none e hn)]; exact e) qa) (SqL.fmono (fun c v e => by rw [upd_ne (ne_of_none e hn)]; exact e) qb)
      (st'.lean hS2 rfl hS oth) hS3 vl fun s' H' Ts' acc' c' I' f' pr' e' v' => k s' H' (.ref s.heap.objs.size :: Ts') acc' c' I' f' (.cons hn pr') e' (by rw [List.append_assoc] at v'; exact v')⟩)
      (by rw [ha]; omega) (by show (acc.push (Value.ref s.heap.objs.size)).size ≤ sizeLine + 1; rw [Array.size_push, ha]; omega)
theorem zipNoLen : typeLookup (.type "zip") "__len__" = pure none := by
  rw [typeLookup_type, builtinLookup_eq_fast]
  kernel_rfl
theorem zipNoHint : typeLookup (.type "zip") "__length_hint__" = pure none := by
  rw [typeLookup_type, builtinLookup_eq_fast]
  kernel_rfl
theorem callListZ {X : Cx} (hc : X.calm = true) {pins : List (Addr × Obj)} {σ : L2.St} {H : Hp} {s : Shared} {z TI TO i1 i2 a b : Addr} (D : ZipApart z TI TO i1 i2 a b) {vs ws : List V} {Q : VK} (I : Inv X pins σ H s)
    (fp : ∀ q, q ∈ [z, TI, TO, i1, i2] → FpOk X pins H q) (hlt : ∀ q, q ∈ [z, TI, TO, i1, i2] → q < s.heap.objs.size) (qa : SqT X.K H a vs) (qb : SqL X.K H b ws) (hz : IsZip s.heap z TI TO .none) (hTI : PySem.IsPair s.heap TI (.ref i1) (.ref i2)) (hTO : ∃ x y, PySem.IsPair s.heap TO x y)
    (h1 : s.heap.IsTupleIter i1 a 0) (h2 : s.heap.IsListIter i2 b 0) (k : ∀ H' Ts l, Prs H (vs.zip ws) Ts H' → H' l = none → Q (.ref l) (upd H' l (.lst Ts))) :
    wpAny (model X.prog X.w) X.A (call (.type "list") [.ref z]) (EP X pins σ Q) X.xe s := by
  obtain ⟨its, rv, p, zl⟩ := I.tuple qa
  have hl := rv.length
  have hh := I.ok.hd hc
  have Sz : s.heap.objs.size ≠ z := Ne.symm (Nat.ne_of_lt (hlt z (by simp)))
  refine callType_codes (Q₁ := fun obj s₁ => obj = .ref s.heap.objs.size ∧ s₁ = { s with heap := s.heap.push { cls := .type "list", data := .seq #[] } }) F.called_list (F.typeCall_list_1 _) F.entry_list_init (code_list_new _ ⟨rfl, rfl⟩) fun obj s₁ h₁ => ?_
  obtain ⟨rfl, rfl⟩ := h₁
  have g0 : (s.heap.push { cls := .type "list", data := .seq #[] }).get? s.heap.objs.size = some { cls := .type "list", data := .seq #[] } := Heap.get?_push_size _ rfl
  refine ⟨⟨_, g0, rfl⟩, F.args_list_init_2 _ _, ?_⟩
  show wpAny _ X.A.in1.in1 (Builtin.List.listItems (.ref s.heap.objs.size) >>= fun old => Builtin.List.listUpdate (.ref s.heap.objs.size) (fun _ => #[]) >>= fun _ => letGo old.toList.reverse >>= fun _ => Builtin.List.listExtendWith (.ref s.heap.objs.size) (.ref z) .none) _ _ _
  refine wpAny_bind ?_
  unfold Builtin.List.listItems
  refine wpAny_bind (wpAny_seqItems g0 rfl (wpAny_pure ?_))
  show wpAny _ X.A.in1.in1 (updateSeq s.heap.objs.size (fun _ => #[]) >>= fun _ => letGo (#[] : Array Value).toList.reverse >>= fun _ => Builtin.List.listExtendWith (.ref s.heap.objs.size) (.ref z) .none) _ _ _
  refine wpAny_bind (wpAny_updateSeq g0 rfl ?_)
  have g2 := Heap.get?_update_self (Obj.mapSeq (fun _ => (#[] : Array Value))) g0 rfl
  refine wpAny_bind (wpAny_letGo ?_)
  unfold Builtin.List.listExtendWith
  have up : ∀ (h : Heap) (f : Obj → Obj), (∀ c u, s.heap.get? c = some u → h.get? c = some u) → ∀ c u, s.heap.get? c = some u → (h.update s.heap.objs.size f).get? c = some u := fun h f q c u e =>
    (Heap.get?_update_other _ _ (Ne.symm (Nat.ne_of_lt (Heap.lt_size e)))).trans (q c u e)
  have k1 : ∀ c u, s.heap.get? c = some u → (s.heap.push { cls := .type "list", data := .seq #[] }).get? c = some u := fun c u e => Heap.get?_push_of_some _ e
  have k2 := up _ (Obj.mapSeq (fun _ => (#[] : Array Value))) k1
  have ty : ∀ {h : Heap}, (∀ c u, s.heap.get? c = some u → h.get? c = some u) → Shared.TypeIs { s with heap := h } (.ref z) "zip" := fun {h} q => ⟨_, q _ _ hz, rfl⟩
  refine wpAny_bind (wpAny_typeOf (ty k2) ?_)
  have n1 : Builtin.List.listSameRef (.ref s.heap.objs.size) (.ref z) = false := by simp [Builtin.List.listSameRef, Sz]
  have n2 : (Value.type "zip" == Value.type "list") = false := by decide
  have n3 : (Value.type "zip" == Value.type "tuple") = false := by decide
  simp only [n1, n2, n3, Bool.or_false, Bool.false_eq_true, if_false]
  refine wpAny_bind (wpAny_pyIter_zip (k2 _ _ hz) (wpAny_bind (wpAny_holding ?_)))
  unfold Builtin.List.listLengthHint
  refine wpAny_bind (wpAny_specialOf (ty k2) zipNoLen ?_)
  show wpAny _ X.A.in1.in1 (specialOf (Value.ref z) (Str.ofString "__length_hint__") >>= _) _ _ _
  refine wpAny_bind (wpAny_specialOf (ty k2) zipNoHint (wpAny_pure ?_))
  show wpAny _ X.A.in1.in1 (rule "list.extend.makes-room" >>= fun _ => Builtin.List.listTouch (.ref s.heap.objs.size) >>= fun _ => again (.builtin "list.extend.loop" ⟨[.ref s.heap.objs.size, .ref z, .none], []⟩)) _ _ _
  refine wpAny_bind (wpAny_rule (wpAny_bind ?_))
  show wpAny _ X.A.in1.in1 (updateSeq s.heap.objs.size (·.push .none) >>= fun _ => updateSeq s.heap.objs.size (·.pop)) _ _ _
  refine wpAny_bind (wpAny_updateSeq g2 rfl ?_)
  have g3 := Heap.get?_update_self (Obj.mapSeq (·.push Value.none)) g2 rfl
  refine wpAny_updateSeq (hz := by seq_fits) g3 rfl ?_
  have g4 := Heap.get?_update_self (Obj.mapSeq (·.pop)) g3 rfl
  have k4 := up _ (Obj.mapSeq (·.pop)) (up _ (Obj.mapSeq (·.push Value.none)) k2)
  have fS : FpOk X pins H s.heap.objs.size := I.fpOk (Nat.le_refl _) (I.hok.fresh (Nat.le_refl _))
  refine wpAny_pure ⟨plainId_quiet F.plain_extend_loop _, loopTL (X := X) hc (A := X.A.in1) hh D hlt (vs := vs) (ws := ws) zl (vs.zip ws) 0 _ H [] _ _ (by rw [List.drop_zero]) rfl (I.kept (t' := s.toks) k4) fp fS qa qb
    ⟨.inl ⟨k4 _ _ hz, let ⟨x, y, q⟩ := hTO; ⟨x, y, k4 _ _ q⟩⟩, k4 _ _ hTI, h1.at fun o q => k4 _ o q, h2.at fun o q => k4 _ o q⟩ g4 .nil fun s' H' Ts acc c I' f' pr e v => ⟨rfl, ?_⟩⟩
  have lenT := pr.len
  rw [List.length_zip] at lenT
  exact ⟨.ref s.heap.objs.size, _, I'.take (t' := s'.toks) (o := .lst Ts) (fun _ _ _ q => q) f' ⟨by omega, acc.toList, c, v, by rw [e]⟩, rfl, k H' Ts _ pr f'.1⟩
def tListZ (K : PySem.W.Frag) (ta : TA) : TE := fun σ H Q => ta σ H fun us H1 => ∃ a b vs ws, us = [.ref a, .ref b] ∧ SqT K H1 a vs ∧ SqL K H1 b ws ∧ ∀ H' Ts l, Prs H1 (vs.zip ws) Ts H' → H' l = none → Q (.ref l) (upd H' l (.lst Ts))
theorem bootLst : bootBuiltins ("list" : Str) = some (.type "list") := by decide +kernel
theorem peListZ {X : Cx} {e e2 : Expr} {ta : TA} {p p2 q pos : Pos} (hg : L2.Gl X "list") (hm : X.mg "list" = none) (hg2 : L2.Gl X "zip") (hm2 : X.mg "zip" = none) (hc : X.calm = true) (ha : PA X [e, e2] ta)
    (hs : starEach [e, e2] X.env = (false, eval e X.env) :: starEach [e2] X.env) (hpl : (backTo q (starEach [e2] X.env)).any (·.1) = false) :
    PE X (.Call (.Name "list" p) [.Call (.Name "zip" p2) [e, e2] [] q] [] pos) (tListZ X.K ta) := by
  refine ⟨fun pins s σ H Q I h => Call_ (ld_blt I hg hm bootLst (PyProof.Rows.callWith_type1 (PyProof.Rows.args_cons ?_ rfl) rfl rfl))⟩
  refine Call_ (ld_blt I hg2 hm2 PyProof.Rows.boot_zip (PyProof.Rows.callWith_type1 (thn (ha.run q pins s σ H _ I h) fun us s1 ⟨vs, H1, I1, r1, q1⟩ => ?_) hs hpl))
  obtain ⟨a, b, vs, ws, ex, qx, qy, k⟩ := q1
  subst ex
  cases r1 with
  | cons r rr =>
    cases rr with
    | cons r' rr =>
      cases rr
      cases r
      cases r'
      obtain ⟨its, rv, p1, _⟩ := I1.tuple qx
      obtain ⟨it2, rv2, p2, _⟩ := I1.list qy
      obtain ⟨o1, ho1, _⟩ := id p1
      refine zip_begins2 (begins_tuple a its.toArray) (begins_list b it2.toArray) (show s1.heap.IsTuple a its.toArray from p1) p2.isList fun h' hz hTI hTO g1 g2 hsz hk => PyProof.Rows.args_nil ?_
      have cs : ∀ c, c ∈ [s1.heap.objs.size + 4, s1.heap.objs.size + 2, s1.heap.objs.size + 3, s1.heap.objs.size, s1.heap.objs.size + 1] → s1.heap.objs.size ≤ c ∧ c < s1.heap.objs.size + 5 := fun c hc => by
        rcases (by simpa using hc : c = s1.heap.objs.size + 4 ∨ c = s1.heap.objs.size + 2 ∨ c = s1.heap.objs.size + 3 ∨ c = s1.heap.objs.size ∨ c = s1.heap.objs.size + 1) with e | e | e | e | e <;> (rw [e]; refine ⟨?_, ?_⟩ <;> first | exact Nat.le_refl _ | exact Nat.le_add_right _ _ | exact Nat.add_lt_add_left (by decide) _ | exact Nat.lt_add_of_pos_right (by decide))
      exact callListZ hc (PySem.W.ktu_apart s1.heap.objs.size a b (Heap.lt_size ho1) p2.lt) (I1.kept (t' := s1.toks) hk) (fun c hc => I1.fpOk (cs c hc).1 (I1.hok.fresh (cs c hc).1)) (fun c hc => by show c < h'.objs.size; rw [hsz]; exact (cs c hc).2) qx qy hz hTI ⟨_, _, hTO⟩ ⟨_, g1, rfl, rfl⟩ ⟨_, g2, rfl, rfl⟩ k
theorem prs_rep {G : Gl} {S : Sto} {ι : List Addr} : ∀ {xs ys : List D} {vs ws : List V} {F H H' : Hp} {Ts : List V}, RepL G F ι xs vs → RepL G F ι ys ws → RL G S F ι H → Prs H (vs.zip ws) Ts H' →
    ∃ F', Ext F ι H F' ι H' ∧ RL G S F' ι H' ∧ RepL G F' ι (pairsD xs ys) Ts
  | [], ys, vs, ws, F, H, H', Ts, r1, r2, l, p => by
    have e : vs = [] := r1
    subst e
    cases p
    exact ⟨F, Ext.refl, l, rfl⟩
  | x :: xs, [], vs, ws, F, H, H', Ts, r1, r2, l, p => by
    have e : ws = [] := r2
    subst e
    rw [List.zip_nil_right] at p
    cases p
    exact ⟨F, Ext.refl, l, rfl⟩
  | x :: xs, y :: ys, vs, ws, F, H, H', Ts, r1, r2, l, p => by
    obtain ⟨v, vs', rfl, a1, b1⟩ := r1
    obtain ⟨u, ws', rfl, a2, b2⟩ := r2
    rw [List.zip_cons_cons] at p
    cases p with
    | cons hn p' =>
      rename_i T Ts'
      obtain ⟨ex, l2⟩ := l.frz hn (.tup [v, u]) (fun _ z => by cases z)
      obtain ⟨F', ex2, l3, rp⟩ := prs_rep (ex.repL b1) (ex.repL b2) l2 p'
      exact ⟨F', ex.trans l2 ex2, l3, .ref T, Ts', rfl, ex2.rep ⟨T, [v, u], rfl, SqT.of upd_same, v, [u], rfl, ex.rep a1, u, [], rfl, ex.rep a2, rfl⟩, rp⟩
theorem RepL.rev {G : Gl} {F : Hp} {ι : List Addr} : ∀ {ds : List D} {vs : List V}, RepL G F ι ds vs → RepL G F ι ds.reverse vs.reverse
  | [], vs, h => by
    have e : vs = [] := h
    subst e
    exact rfl
  | d :: ds, vs, h => by
    obtain ⟨v, vs', rfl, a, b⟩ := h
    rw [List.reverse_cons, List.reverse_cons]
    exact (RepL.rev b).snoc a
/-! ### xs.extend(tuple) -/
theorem extTup (l : Addr) (xs : Array Value) (n : Nat) (b : Addr) (ys : Array Value) (n2 : Nat) (dc : Option Addr) (sl : Array (Option Value)) (c0 : ¬(!xs.isEmpty && Builtin.List.listTooLong (xs.size + ys.size)) = true) (c1 : xs.size ≤ sizeLine) (c2 : xs.size + ys.size ≤ sizeLine + 1) :
    Meets (Builtin.«list.extend» ⟨[.ref l, .ref b], []⟩) (fun _ R s => s.heap.get? l = some { cls := .type "list", dict := none, data := .seq xs n, slots := #[] } ∧ s.heap.get? b = some { cls := .type "tuple", dict := dc, data := .seq ys n2, slots := sl } ∧
      R (.ok (.ret Value.none)) { s with heap := s.heap.update l (Obj.mapSeq fun x => x ++ ys), toks := s.toks }) :=
  .of_wp fun prog w A R s h => by
    obtain ⟨hp, gs, dr, tk, os⟩ := s
    obtain ⟨e1, e2, h⟩ := h
    have f1 := AutoSeq1.idx_int
    have f2 := sub_tuple_tuple
    have f3 := sub_list_list
    have f4 := sub_tuple_list
    have f5 := sub_list_tuple
    have hz' : (xs ++ ys).size ≤ sizeLine + 1 := by rw [Array.size_append]; exact c2
    wp_walk using (wpAny_updateSeq e1 rfl (hz := c1) (_hz' := hz')), AutoSeq1.wpAny_loadPart' e1, AutoSeq1.wpAny_loadPart' e2
    exact ⟨_, rfl, h⟩
def rExtA (K : PySem.W.Frag) : V → List V → Hp → VK → Prop := fun x vs H Q => ∃ l b xs zs, x = .ref l ∧ vs = [.ref b] ∧ H l = some (.lst xs) ∧ (H b = some (.lst zs) ∨ SqT K H b zs) ∧ xs.length + zs.length ≤ sizeLine ∧ Q .non (upd H l (.lst (xs ++ zs)))
theorem mtExtA {X : Cx} : MtM X "list.extend" (rExtA X.K) := by
  intro pins s σ H x vs v us Q I rx rv h
  obtain ⟨l, b, xs, zs, rfl, rfl, hH, hB, hz, q⟩ := h
  rcases hB with hB | hB
  · exact mt_extend pins s σ H _ _ v us Q I rx rv ⟨l, b, xs, zs, rfl, rfl, hH, hB, hz, q⟩
  · cases rx
    obtain ⟨u, rfl, ru⟩ := rv.one
    cases ru
    obtain ⟨z, its, n, r, hl, e⟩ := I.lstM hH
    obtain ⟨it2, r2, ⟨⟨cl, dc, dt, sl⟩, ho, hc, n2, hd⟩, z2⟩ := I.tuple hB
    replace hc : cl = .type "tuple" := hc
    replace hd : dt = .seq it2.toArray n2 := hd
    subst hc hd
    have l2 := r2.length
    have sz : its.toArray.size + it2.toArray.size ≤ sizeLine := by rw [List.size_toArray, List.size_toArray]; omega
    have no : ¬ (!its.toArray.isEmpty && Builtin.List.listTooLong (its.toArray.size + it2.toArray.size)) = true := by
      rw [notLongL sz, Bool.and_false]
      exact Bool.false_ne_true
    refine call_meets F.slot_list_extend ⟨_, e, rfl⟩ F.entry_list_extend (F.args_list_extend_2 _ _) (extTup l its.toArray n b it2.toArray n2 dc sl no (by rw [List.size_toArray]; omega) (by omega)) ⟨e, ho, ?_⟩
    exact ⟨.non, _, I.lset (its' := its ++ it2) hH e (by simp) (r.append r2) (by rw [List.length_append]; omega), rfl, q⟩
end Gx
set_option Elab.async false
set_option linter.all false
set_option maxRecDepth 100000
set_option maxHeartbeats 4000000
/-! Gx: comprehensions keep to the machine. -/
namespace Gx
open PySem PySem.Spec PyProof.Rows L2
variable {G : Gl} {S : Sto} {F : Hp} {ι : List Addr} {H : Hp} {O : Orc} {W : WX} {σ : L2.St}
theorem RL.fresh {p : Addr} {o : HO} (r : RL G S F ι H) (hp : H p = none) : RL G S F ι (upd H p o) :=
  ⟨fun a u z => upd_keep hp _ _ (r.sub _ _ z), r.ft, r.len, r.nd, r.out, fun k a u h1 h2 => by
    have := r.obj k a u h1 h2
    cases u with
    | lst xs =>
      obtain ⟨vs, q1, q2⟩ := this
      exact ⟨vs, upd_keep hp _ _ q1, q2⟩, tabs_keep r.tabs (upd_keep hp)⟩
theorem Ext.aside {F' : Hp} {ι' : List Addr} {H' : Hp} {D0 : Addr} {a : List V} (e : Ext F ι H F' ι' H') (h : H D0 = some (.lst a)) (f : F D0 = none) (n : D0 ∉ ι) : H' D0 = some (.lst a) ∧ F' D0 = none ∧ D0 ∉ ι' := by
  refine ⟨e.h _ _ h n (fun _ z => by cases z), ?_, fun z => ?_⟩
  · cases q : F' D0 with
    | none => rfl
    | some o =>
      rcases e.g _ _ q with z | z
      · rw [f] at z; cases z
      · obtain ⟨ps, q2⟩ := z _ h
        cases q2
  · obtain ⟨m, e1, e2⟩ := e.i
    rw [e1] at z
    rcases List.mem_append.mp z with z | z
    · exact n z
    · obtain ⟨ps, q2⟩ := e2 _ z _ h
      cases q2
abbrev WF : WX := fun _ _ _ _ => False
/-- what a turn of a comprehension does -/
def cF (O : Orc) (own : List Nat) (tg : CTg) (t : CTo) (e : CE) (ρ : Env) : D → Sto → R (Option D) := fun d S2 => (evTg O tg d (wipeE ρ own) S2).bind fun ρ1 S3 => (evTo O t ρ1 S3).bind fun b S4 =>
  if b then (evE O e ρ1 S4).bind fun y S5 => .ok (some y) S5 else .ok none S4
/-- between two turns -/
structure CInv (G : Gl) (f : D → Sto → R (Option D)) (l ys : List D) (S2 : Sto) (D0 : Addr) (F1 : Hp) (ι1 : List Addr) (H1 : Hp) (i m : Nat) (H' : Hp) : Prop where
  hm : m = l.length - i
  hi : i ≤ l.length
  ex : ∃ acc accv S' F' ι' rest, RL G S' F' ι' H' ∧ Ext F1 ι1 H1 F' ι' H' ∧ H' D0 = some (.lst accv) ∧ F' D0 = none ∧ D0 ∉ ι' ∧ RepL G F' ι' acc accv ∧ acc.length ≤ i ∧ compL f (l.drop i) S' = .ok rest S2 ∧ acc ++ rest = ys
/-- between two turns over a list object -/
structure CInvK (G : Gl) (f : D → Sto → R (Option D)) (k n0 : Nat) (ys : List D) (S2 : Sto) (D0 : Addr) (F1 : Hp) (ι1 : List Addr) (H1 : Hp) (i m : Nat) (H' : Hp) : Prop where
  hm : m = n0 - i
  ex : ∃ acc accv S' F' ι' rest, RL G S' F' ι' H' ∧ Ext F1 ι1 H1 F' ι' H' ∧ H' D0 = some (.lst accv) ∧ F' D0 = none ∧ D0 ∉ ι' ∧ RepL G F' ι' acc accv ∧ acc.length ≤ i ∧ compK f k (n0 - i) i S' = .ok rest S2 ∧ acc ++ rest = ys
theorem wipe_own {own : List Nat} {j : Nat} : ∀ (σ : L2.St), j ∉ own → (L2.wipe σ own)[j]? = σ[j]? := by
  intro σ
  induction own with
  | nil => intro _; rfl
  | cons v r ih =>
    intro hn
    simp only [List.mem_cons, not_or] at hn
    show ((L2.wipe σ r).set v none)[j]? = _
    rw [List.getElem?_set_ne (Ne.symm hn.1), ih hn.2]
theorem comp_conv {own : List Nat} {tg : CTg} {it : CI} {t : CTo} {e : CE} {Q : VK} (hsub : ∀ i ∈ tgN tg, i ∈ own) (h : tF G W (fun ρ S => evF O (.comp own tg it t e) ρ S) σ H Q) :
    tLc (tI G W fun ρ S => evI O it ρ S) (tG G WF (tgN tg) fun d ρ S => evTg O tg d ρ S) (tT G WF fun ρ S => evTo O t ρ S) (tE G WF fun ρ S => evE O e ρ S) own σ H Q := by
  obtain ⟨ρ, S, F, ι, er, rl, p⟩ := h
  simp only [evF] at p
  refine ⟨ρ, S, F, ι, er, rl, p.bind.imp fun z S1 F1 ι1 H1 e1 l1 p1 => ?_⟩
  cases z with
  | at_ k =>
    intro a ha D0 hD
    have p1' : Pst G W σ F1 ι1 H1 (match S1[k]? with
      | some (.lst xs) => if xs.length ≤ sz then noX (compK (cF O own tg t e ρ) k (xs.length + 1) 0 S1) else .stuck
      | none => .stuck) fun ds _ F' ι' H' => ∀ p vs, H' p = none → RepL G F' ι' ds vs → Q (.ref p) (upd H' p (.lst vs)) := p1
    cases hk : S1[k]? with
    | none => rw [hk] at p1'; exact (show False from p1').elim
    | some ob =>
      rw [hk] at p1'
      cases ob with
      | lst xs0 =>
        dsimp only at p1'
        by_cases hz : xs0.length ≤ sz
        case neg => rw [if_neg hz] at p1'; exact (show False from p1').elim
        rw [if_pos hz] at p1'
        obtain ⟨ys, S2, hc, q⟩ := noX_pst p1'
        refine ⟨CInvK G (cF O own tg t e ρ) k (xs0.length + 1) ys S2 D0 F1 ι1 H1, ⟨xs0.length + 1, ⟨by simp, [], [], S1, F1, ι1, ys, l1.fresh hD, Ext.refl.off hD, upd_same, l1.fnone hD, l1.notIn hD, rfl, Nat.le_refl _, hc, rfl⟩⟩, ?_⟩
        rintro i m H' ⟨rfl, acc, accv, S', F', ι', rest, rl', ex, hacc, fD, nD, rep, hal, hcl, hys⟩
        have ha' : ι'[k]? = some a := by
          obtain ⟨mo, e1, e2⟩ := ex.i
          rw [e1, List.getElem?_append_left (List.getElem?_eq_some_iff.mp ha).1]
          exact ha
        obtain ⟨n, hn⟩ : ∃ n, xs0.length + 1 - i = n + 1 := by
          cases hq : xs0.length + 1 - i with
          | zero => rw [hq] at hcl; cases hcl
          | succ n => exact ⟨n, rfl⟩
        rw [hn] at hcl
        unfold compK at hcl
        cases hS : S'[k]? with
        | none => rw [hS] at hcl; cases hcl
        | some ob =>
          rw [hS] at hcl
          cases ob with
          | lst xs =>
            dsimp only at hcl
            obtain ⟨vs, q1, q2⟩ := rl'.obj k a _ ha' hS
            cases hx : xs[i]? with
            | none =>
              rw [hx] at hcl
              cases hcl
              refine .inl ⟨⟨vs, SqL.of q1, by rw [← q2.length]; exact List.getElem?_eq_none_iff.mp hx⟩, ?_⟩
              have := q F' ι' (less H' D0) (ex.less hD) (rl'.less hacc (fun _ z => by cases z) (fun _ _ z => by unfold LamX.CodeO at z; cases z) fD nD) D0 accv (by unfold less; rw [if_pos rfl]) (by rw [← hys, List.append_nil]; exact rep)
              rw [less_upd hacc] at this
              exact this
            | some d =>
              rw [hx] at hcl
              dsimp only at hcl
              obtain ⟨v, hv, rv0⟩ := q2.get hx
              obtain ⟨o, S3, hf, h2⟩ := bind_ok hcl
              obtain ⟨ys', S4, hc', h3⟩ := bind_ok h2
              cases h3
              have hi : i < xs0.length := by
                cases n with
                | zero => cases hc'
                | succ n => omega
              have hn' : xs0.length + 1 - (i + 1) = n := by omega
              refine .inr ⟨⟨vs, v, SqL.of q1, hv⟩, CInvK G (cF O own tg t e ρ) k (xs0.length + 1) ys S2 D0 F1 ι1 H1 (i + 1) (xs0.length + 1 - (i + 1)), fun H'' n => ⟨_, by omega, n⟩, fun x H'' ⟨y1, y2⟩ => ?_⟩
              subst y1
              have z1 := (y2 vs (SqL.of q1)).symm.trans hv
              cases z1
              obtain ⟨ρ1, Sa, ha2, h4⟩ := bind_ok hf
              obtain ⟨b, Sb, hb, h5⟩ := bind_ok h4
              refine ⟨d, wipeE ρ own, S', F', ι', ((er.ext e1).ext ex).wipe own, rl', rv0, ok_pst ha2 fun Fa ιa Ha ea la σ' er' hlen hsame => ?_⟩
              obtain ⟨b1, b2, b3⟩ := ea.aside hacc fD nD
              refine ⟨?_, ρ1, Sa, Fa, ιa, er', la, ok_pst hb fun Fb ιb Hb eb lb => ?_⟩
              · rw [wipe_same (σ := L2.wipe σ own) hlen fun j hj => hsame j fun z => hj (hsub j z)]
                exact wipe_same (L2.wipe_length σ own) fun j hj => wipe_own σ hj
              · obtain ⟨c1, c2, c3⟩ := eb.aside b1 b2 b3
                have E2 := (ex.trans rl' ea).trans la eb
                cases b with
                | true =>
                  rw [if_pos rfl] at h5
                  obtain ⟨y, Sc, hy', h6⟩ := bind_ok h5
                  cases h6
                  rw [if_pos rfl]
                  refine ⟨ρ1, Sb, Fb, ιb, er'.ext eb, lb, ok_pst hy' fun Fc ιc Hc ec lc v' rv => ?_⟩
                  obtain ⟨d1, d2, d3⟩ := ec.aside c1 c2 c3
                  have hlen2 : accv.length < sizeLine := by rw [← rep.length, ← sz_eq]; omega
                  refine ⟨accv, d1, hlen2, rfl, acc ++ [y], accv ++ [v'], S3, Fc, ιc, ys', lc.off d1 (fun _ z => by cases z) (fun _ _ z => by unfold LamX.CodeO at z; cases z) d2 d3, ((E2.trans lb ec).off hD), upd_same, d2, d3,
                    (ec.repL (eb.repL (ea.repL rep))).snoc rv, by simp; omega, by rw [hn']; exact hc', by simpa using hys⟩
                | false =>
                  rw [if_neg Bool.false_ne_true] at h5
                  cases h5
                  rw [if_neg Bool.false_ne_true]
                  exact ⟨rfl, acc, accv, S3, Fb, ιb, ys', lb, E2, c1, c2, c3, eb.repL (ea.repL rep), by omega, by rw [hn']; exact hc', hys⟩
  | items l =>
    intro J hJ D0 hD
    have p1' : Pst G W σ F1 ι1 H1 (if l.length ≤ sz then noX (compL (cF O own tg t e ρ) l S1) else .stuck) fun ds _ F' ι' H' => ∀ p vs, H' p = none → RepL G F' ι' ds vs → Q (.ref p) (upd H' p (.lst vs)) := p1
    by_cases hz : l.length ≤ sz
    case neg => rw [if_neg hz] at p1'; exact (show False from p1').elim
    rw [if_pos hz] at p1'
    obtain ⟨ys, S2, hc, q⟩ := noX_pst p1'
    refine ⟨CInv G (cF O own tg t e ρ) l ys S2 D0 F1 ι1 H1, ⟨l.length, ⟨by simp, Nat.zero_le _, [], [], S1, F1, ι1, ys, l1.fresh hD, Ext.refl.off hD, upd_same, l1.fnone hD, l1.notIn hD, rfl, Nat.le_refl _, hc, rfl⟩⟩, ?_⟩
    rintro i m H' ⟨rfl, hi, acc, accv, S', F', ι', rest, rl', ex, hacc, fD, nD, rep, hal, hcl, hys⟩
    have okJ := hJ i S' F' ι' H' ex rl'
    by_cases hlt : i < l.length
    · refine .inr ⟨(okJ.2 l[i] (List.getElem?_eq_getElem hlt)).1, CInv G (cF O own tg t e ρ) l ys S2 D0 F1 ι1 H1 (i + 1) (l.length - (i + 1)), fun H'' n => ⟨_, by omega, n⟩, fun x H'' hy => ?_⟩
      obtain ⟨F'', ex2, rl2, rx⟩ := (okJ.2 l[i] (List.getElem?_eq_getElem hlt)).2 x H'' hy
      obtain ⟨a1, a2, a3⟩ := ex2.aside hacc fD nD
      rw [List.drop_eq_getElem_cons hlt] at hcl
      obtain ⟨o, S3, hf, h2⟩ := bind_ok hcl
      obtain ⟨ys', S4, hc', h3⟩ := bind_ok h2
      cases h3
      obtain ⟨ρ1, Sa, ha, h4⟩ := bind_ok hf
      obtain ⟨b, Sb, hb, h5⟩ := bind_ok h4
      refine ⟨l[i], wipeE ρ own, S', F'', ι', (((er.ext e1).ext ex).ext ex2).wipe own, rl2, rx, ok_pst ha fun Fa ιa Ha ea la σ' er' hlen hsame => ?_⟩
      obtain ⟨b1, b2, b3⟩ := ea.aside a1 a2 a3
      refine ⟨?_, ρ1, Sa, Fa, ιa, er', la, ok_pst hb fun Fb ιb Hb eb lb => ?_⟩
      · rw [wipe_same (σ := L2.wipe σ own) hlen fun j hj => hsame j fun z => hj (hsub j z)]
        refine wipe_same (L2.wipe_length σ own) fun j hj => ?_
        have : ∀ (r : List Nat), j ∉ r → (L2.wipe σ r)[j]? = σ[j]? := by
          intro r
          induction r with
          | nil => intro _; rfl
          | cons v r ih =>
            intro hn
            simp only [List.mem_cons, not_or] at hn
            show ((L2.wipe σ r).set v none)[j]? = _
            rw [List.getElem?_set_ne (Ne.symm hn.1), ih hn.2]
        exact this own hj
      · obtain ⟨c1, c2, c3⟩ := eb.aside b1 b2 b3
        have E2 := ((ex.trans rl' ex2).trans rl2 ea).trans la eb
        cases b with
        | true =>
          rw [if_pos rfl] at h5
          obtain ⟨y, Sc, hy', h6⟩ := bind_ok h5
          cases h6
          rw [if_pos rfl]
          refine ⟨ρ1, Sb, Fb, ιb, er'.ext eb, lb, ok_pst hy' fun Fc ιc Hc ec lc v rv => ?_⟩
          obtain ⟨d1, d2, d3⟩ := ec.aside c1 c2 c3
          have hlen2 : accv.length < sizeLine := by rw [← rep.length, ← sz_eq]; omega
          refine ⟨accv, d1, hlen2, rfl, hlt, acc ++ [y], accv ++ [v], S3, Fc, ιc, ys', lc.off d1 (fun _ z => by cases z) (fun _ _ z => by unfold LamX.CodeO at z; cases z) d2 d3, ((E2.trans lb ec).off hD), upd_same, d2, d3,
            (ec.repL (eb.repL (ea.repL (ex2.repL rep)))).snoc rv, by simp; omega, hc', by simpa using hys⟩
        | false =>
          rw [if_neg Bool.false_ne_true] at h5
          cases h5
          rw [if_neg Bool.false_ne_true]
          exact ⟨rfl, hlt, acc, accv, S3, Fb, ιb, ys', lb, E2, c1, c2, c3, eb.repL (ea.repL (ex2.repL rep)), by omega, hc', hys⟩
    · have e0 : i = l.length := by omega
      subst e0
      rw [List.drop_length] at hcl
      cases hcl
      refine .inl ⟨okJ.1 (Nat.le_refl _), ?_⟩
      have := q F' ι' (less H' D0) (ex.less hD) (rl'.less hacc (fun _ z => by cases z) (fun _ _ z => by unfold LamX.CodeO at z; cases z) fD nD) D0 accv (by unfold less; rw [if_pos rfl]) (by rw [← hys, List.append_nil]; exact rep)
      rw [less_upd hacc] at this
      exact this
end Gx
set_option Elab.async false
set_option linter.all false
set_option maxRecDepth 100000
set_option maxHeartbeats 8000000
/-! Gx: THE EXPRESSIONS: what matches runs as the evaluator says. -/
namespace Gx
open PySem PySem.Spec PyProof.Rows L2
variable {G : Gl} {M : Mx} {P : Program} {w : World} {base : Heap} {k : Nat} {O : Orc}
theorem Good.blk {j : Nat} {sc : Scope} {X : Cx} (g : Good G P w base j M sc X) (s : Shared) (H : Hp) (C : Addr) (cl : List (Str × Addr)) (fp : List Addr) (csc : Scope) : Good G P w base j M (relS csc sc) (X.blk s H csc (compEnvC csc cl C X.env) fp) :=
  ⟨g.pP, g.pw, g.pb, g.pK, g.pm, g.pN, g.nd, by show relS csc X.env.scope = _; rw [g.sc], g.calm, g.room⟩
theorem Hl.blk {j : Nat} {sc : Sc} {X : Cx} (h : Hl G k j sc X) (s : Shared) (H : Hp) (C : Addr) (cl : List (Str × Addr)) (fp : List Addr) (csc : Scope) : Hl G k j ⟨relS csc sc.s, sc.lam, sc.rp⟩ (X.blk s H csc (compEnvC csc cl C X.env) fp) :=
  ⟨fun z => ⟨(h.1 z).1, ⟨(h.1 z).2.ex⟩⟩, h.2⟩
theorem takesF {X : Cx} (h : X.xe = fun _ _ => False) : Takes X WF := fun _ _ ⟨_, _, _, _, _, _, _, _, _, _, _, _, _, _, _, _, z⟩ => z.elim
theorem tF_tE {X : Cx} {W : WX} {e : Expr} {f : Env → Sto → R (List D)} (h : PE X e (tF G W f)) : PE X e (tE G W fun ρ S => (f ρ S).bind fun xs S1 => .ok (.lst xs) S1) :=
  pe_weak h fun σ H Q ⟨ρ, S, F, ι, er, rl, p⟩ => ⟨ρ, S, F, ι, er, rl, p.bind.imp fun ds S1 F1 ι1 H1 e1 l1 p1 pp vs hp rv => by
    obtain ⟨ex, l2⟩ := l1.frz hp (.lst vs) (fun _ z => by cases z)
    exact p1 _ _ _ ex l2 _ ⟨pp, vs, rfl, upd_same, ex.repL rv⟩⟩
theorem tF_tM {X : Cx} {W : WX} {e : Expr} {f : Env → Sto → R (List D)} (h : PE X e (tF G W f)) : PE X e (tE G W fun ρ S => (f ρ S).bind fun xs S1 => .ok (.loc S1.length) (S1 ++ [.lst xs])) :=
  pe_weak h fun σ H Q ⟨ρ, S, F, ι, er, rl, p⟩ => ⟨ρ, S, F, ι, er, rl, p.bind.imp fun ds S1 F1 ι1 H1 e1 l1 p1 pp vs hp rv => by
    obtain ⟨ex, l2⟩ := l1.new hp rv
    exact p1 _ _ _ ex l2 _ ⟨pp, rfl, by rw [← l1.len, List.getElem?_append_right (Nat.le_refl _)]; simp⟩⟩
theorem le_sz {F : Hp} {ι : List Addr} {ds : List D} {vs : List V} {α : Type} {W : WX} {σ : L2.St} {H : Hp} {S : Sto} {a : α} {Q : α → Sto → Hp → List Addr → Hp → Prop} (l : RepL G F ι ds vs) (p : Pst G W σ F ι H (if ds.length ≤ sz then .ok a S else .stuck) Q) : vs.length ≤ sizeLine ∧ Pst G W σ F ι H (.ok a S) Q := by
  by_cases h : ds.length ≤ sz
  · rw [if_pos h] at p
    exact ⟨rep_len l h, p⟩
  · rw [if_neg h] at p
    exact (show False from p).elim
/-- a slice of a list -/
def rSlF (G : Gl) : V → Option Int → Option Int → Hp → VK → Prop := fun x lo hi H Q => ∃ a vs ds S F ι, x = .ref a ∧ RL G S F ι H ∧ SqL G.K H a vs ∧ RepL G F ι ds vs ∧ GoesL G S F ι H (cutD ds lo hi) Q
theorem sl_f {X : Cx} (hK : X.K = G.K) : SlR X (rSlF G) := by
  intro pins s σ H x v vl vu lo hi sl Q I rx hs pl pu ⟨a, vs, ds, S, F, ι, e, r, q, l, k⟩
  exact sl_list pins s σ H x v vl vu lo hi sl Q I rx hs pl pu ⟨a, vs, e, by rw [hK]; exact q, fun p hp => k p _ hp (l.cutD lo hi)⟩
theorem and_go {X : Cx} {W : WX} {t u : CT} {a' b' : Expr} {r : List Expr} {pos : Pos} (ha : PT X a' (tT G W fun ρ S => evT O t ρ S)) (hb : PW X (.BoolOp .And (b' :: r) pos) (tT G W fun ρ S => evT O u ρ S)) : PW X (.BoolOp .And (a' :: b' :: r) pos) (tT G W fun ρ S => evT O (.and t u) ρ S) := by
  refine pw_weak (pw_and ha hb) fun σ H Q ⟨ρ, S, F, ι, er, rl, p⟩ => ?_
  simp only [evT] at p
  refine ⟨ρ, S, F, ι, er, rl, p.bind.imp fun c0 S1 F1 ι1 H1 e1 l1 p1 => ?_⟩
  cases c0 with
  | false => rw [if_neg Bool.false_ne_true] at p1 ⊢; exact p1 F1 ι1 H1 Ext.refl l1
  | true => rw [if_pos rfl] at p1 ⊢; exact ⟨ρ, S1, F1, ι1, er.ext e1, l1, p1⟩
theorem or_go {X : Cx} {W : WX} {t u : CT} {a' b' : Expr} {r : List Expr} {pos : Pos} (ha : PT X a' (tT G W fun ρ S => evT O t ρ S)) (hb : PW X (.BoolOp .Or (b' :: r) pos) (tT G W fun ρ S => evT O u ρ S)) : PW X (.BoolOp .Or (a' :: b' :: r) pos) (tT G W fun ρ S => evT O (.or t u) ρ S) := by
  refine pw_weak (pw_or ha hb) fun σ H Q ⟨ρ, S, F, ι, er, rl, p⟩ => ?_
  simp only [evT] at p
  refine ⟨ρ, S, F, ι, er, rl, p.bind.imp fun c0 S1 F1 ι1 H1 e1 l1 p1 => ?_⟩
  cases c0 with
  | false => rw [if_neg Bool.false_ne_true] at p1 ⊢; exact ⟨ρ, S1, F1, ι1, er.ext e1, l1, p1⟩
  | true => rw [if_pos rfl] at p1 ⊢; exact p1 F1 ι1 H1 Ext.refl l1
theorem mTg_each (M : Mx) (osc : Scope) (sc : Sc) (t : CTg) (e : Expr) (h : mTg M osc sc t e = true) (es : List Expr) (env : PySem.Env) : assignEach (e :: es) env = (false, assign e env) :: assignEach es env := by
  cases t <;> simp only [mTg] at h <;> split at h <;> first | rfl | cases h
theorem mTgs_cnt (M : Mx) (osc : Scope) (sc : Sc) : ∀ (ts : CTgs) (es : List Expr), mTgs M osc sc ts es = true → ∀ env : PySem.Env, (assignEach es env).length = cntT ts ∧ (assignEach es env).findIdx? (·.1) = none
  | .nil, es, h, env => by
    simp only [mTgs] at h
    split at h <;> first | exact ⟨rfl, rfl⟩ | cases h
  | .cons t r, es, h, env => by
    simp only [mTgs] at h
    split at h <;> try (cases h; done)
    rename_i e es'
    rw [Bool.and_eq_true] at h
    obtain ⟨a, b⟩ := mTgs_cnt M osc sc r es' h.2 env
    rw [mTg_each M osc sc t e h.1 es' env]
    refine ⟨by simp only [List.length_cons, a, cntT], ?_⟩
    rw [List.findIdx?_cons]
    simp [b]
theorem assign_sub {o i : Expr} {pos : Pos} {env : PySem.Env} (h : plainIxB i = true) (v : Value) : assign (.Subscript o i pos) env v = (do
      let ov ← holding [v] (eval o env)
      let iv ← holding [v, ov] (eval i env)
      standAt pos
      holding [v, ov, iv] (setItem ov iv v)
      release [v, ov, iv] []) := by
  cases i <;> first | rfl | cases h
def isBO : Expr → Bool
  | .BoolOp .. => true
  | _ => false
mutual
theorem sE (A : Amb G M P w base k O) : ∀ (c : CE) (e : Expr) (j : Nat) (sc : Sc) (X : Cx) (W : WX), k ≤ j → Hl G k j sc X → Good G P w base j M sc.s X → Takes X W → mE M sc c e = true → PE X e (tE G W fun ρ S => evE O c ρ S)
  | .var i, e, j, sc, X, W, hj, hl, g, tk, h => by
    simp only [mE] at h
    split at h <;> try (cases h; done)
    rename_i x p
    simp only [Bool.and_eq_true, decide_eq_true_eq] at h
    obtain ⟨⟨h1, h2⟩, h3⟩ := h
    obtain ⟨n1, n2, n3⟩ := nd_of h3
    refine pe_weak (pe_var (i := i) (by rw [g.pN]; exact h1) (by rw [g.sc]; exact vis_of h2) n1 n2) fun σ H Q ⟨ρ, S, F, ι, er, rl, q⟩ => ?_
    simp only [evE] at q
    split at q
    · obtain ⟨v, hv, hr⟩ := er.2 i _ (by assumption)
      exact ⟨v, hv, q F ι H Ext.refl rl v hr⟩
    · exact (show False from q).elim
  | .cst c, e, j, sc, X, W, hj, hl, g, tk, h => by
    simp only [mE] at h
    split at h <;> try (cases h; done)
    rename_i kk p1 p2
    have fin : ∀ {v : V}, PE X (.Constant kk p1 p2) (tC v) → (∀ F ι, Rep G F ι c.d v) → PE X (.Constant kk p1 p2) (tE G W fun ρ S => evE O (.cst c) ρ S) := fun hp hv =>
      pe_weak hp fun σ H Q ⟨ρ, S, F, ι, er, rl, q⟩ => (show Pst G W σ F ι H (.ok c.d S) _ from q) F ι H Ext.refl rl _ (hv F ι)
    split at h
    · exact fin pe_non fun _ _ => rfl
    · have := eq_of_beq h; subst this; exact fin pe_bl fun _ _ => rfl
    · have := of_decide_eq_true h; subst this; exact fin pe_int fun _ _ => rfl
    · have := of_decide_eq_true h; subst this; exact fin pe_str fun _ _ => rfl
    · cases h
  | .glob x d, e, j, sc, X, W, hj, hl, g, tk, h => by
    simp only [mE] at h
    split at h <;> try (cases h; done)
    rename_i y p
    simp only [Bool.and_eq_true, decide_eq_true_eq] at h
    obtain ⟨⟨⟨rfl, h2⟩, h3⟩, h4⟩ := h
    obtain ⟨n1, n2, n3⟩ := nd_of h3
    split at h4
    · rename_i d' hd
      obtain rfl := beqD_eq h4
      obtain ⟨u, v, m, rv, rep⟩ := A.glob _ _ hd
      refine pe_weak (pe_glob (g.gl h2) (by rw [g.pm]; exact m) rv n1) fun σ H Q ⟨ρ, S, F, ι, er, rl, q⟩ => ?_
      simp only [evE] at q
      exact q F ι H Ext.refl rl v (rep F ι)
    · cases h4
  | .bop op a b, e, j, sc, X, W, hj, hl, g, tk, h => by
    simp only [mE] at h
    split at h <;> try (cases h; done)
    rename_i a' op' b' p
    simp only [Bool.and_eq_true, decide_eq_true_eq] at h
    obtain ⟨⟨rfl, h1⟩, h2⟩ := h
    have ho : OpR X (binaryOp op') (rB G op') := by
      by_cases e : op' = .Mult
      · subst e; exact b_mul g.pK
      · exact b_all g.pK _ e
    refine pe_weak (pe_op ho (sE A a a' j sc X W hj hl g tk h1) (sE A b b' j sc X W hj hl g tk h2)) fun σ H Q q => ?_
    simp only [evE] at q
    refine tE_two (fun x y H Q dx dy S F ι σ rl rx ry p => ?_) q
    obtain ⟨d, e, q⟩ := p.opt
    exact ⟨dx, dy, S, F, ι, d, rl, rx, ry, e, fun F' H' v ex rl' rp => q F' ι H' ex rl' v rp⟩
  | .neg a, e, j, sc, X, W, hj, hl, g, tk, h => by
    simp only [mE] at h
    split at h <;> try (cases h; done)
    rename_i a' p
    refine pe_weak (pe_un un_neg (sE A a a' j sc X W hj hl g tk h)) fun σ H Q q => ?_
    simp only [evE] at q
    refine tE_one (r := rU fun i => V.int (-i)) (fun x H Q dx S F ι σ rl rx p => ?_) q
    split at p
    · exact ⟨_, rx, p F ι H Ext.refl rl _ rfl⟩
    · exact (show False from p).elim
  | .notV a, e, j, sc, X, W, hj, hl, g, tk, h => by
    simp only [mE] at h
    split at h <;> try (cases h; done)
    rename_i a' p
    refine pe_weak (pe_notT (sE A a a' j sc X W hj hl g tk h)) fun σ H Q q => ?_
    simp only [evE] at q
    refine tE_one (r := fun x H Q => ∃ c, TruV X.K x H c ∧ Q (.bl (!c)) H) (fun x H Q dx S F ι σ rl rx p => ?_) q
    obtain ⟨d, e, q⟩ := p.opt
    rw [Option.map_eq_some_iff] at e
    obtain ⟨c, e, rfl⟩ := e
    exact ⟨c, by rw [g.pK]; exact tru_v rl (rl.der rx) e, q F ι H Ext.refl rl _ rfl⟩
  | .cmp op a b, e, j, sc, X, W, hj, hl, g, tk, h => by
    simp only [mE] at h
    split at h <;> try (cases h; done)
    rename_i a' op' b' p
    simp only [Bool.and_eq_true, decide_eq_true_eq] at h
    obtain ⟨⟨rfl, h1⟩, h2⟩ := h
    refine pe_weak (pe_cmpR (c_all g.pK g.hu op') (sE A a a' j sc X W hj hl g tk h1) (sE A b b' j sc X W hj hl g tk h2) (mark_of (mE_ok M sc b b' h2))) fun σ H Q q => ?_
    simp only [evE] at q
    refine tE_two (fun x y H Q dx dy S F ι σ rl rx ry p => ?_) q
    obtain ⟨c, e, q⟩ := p.blD rl
    exact ⟨dx, dy, S, F, ι, c, rl, rx, ry, e, q⟩
  | .chain o1 o2 a b c, e, j, sc, X, W, hj, hl, g, tk, h => by
    simp only [mE] at h
    split at h <;> try (cases h; done)
    rename_i a' o1' o2' b' c' p
    simp only [Bool.and_eq_true, decide_eq_true_eq] at h
    obtain ⟨⟨⟨⟨rfl, rfl⟩, h1⟩, h2⟩, h3⟩ := h
    refine pe_weak (pe_chain (c_all g.pK g.hu o1') (c_all g.pK g.hu o2') (sE A a a' j sc X W hj hl g tk h1) (sE A b b' j sc X W hj hl g tk h2) (sE A c c' j sc X W hj hl g tk h3) (mark_of (mE_ok M sc c c' h3))) fun σ H Q ⟨ρ, S, F, ι, er, rl, p⟩ => ?_
    simp only [evE] at p
    refine ⟨ρ, S, F, ι, er, rl, p.bind.imp fun dx S1 F1 ι1 H1 e1 l1 p1 x rx => ?_⟩
    refine ⟨ρ, S1, F1, ι1, er.ext e1, l1, p1.bind.imp fun dy S2 F2 ι2 H2 e2 l2 p2 y ry => ?_⟩
    obtain ⟨c0, h4, q⟩ := p2.bind.opt
    have q := q F2 ι2 H2 Ext.refl l2
    refine ⟨dx, dy, S2, F2, ι2, c0, l2, e2.rep rx, ry, h4, c0, rfl, ?_⟩
    cases c0 with
    | false =>
      rw [if_neg Bool.false_ne_true] at q ⊢
      exact q F2 ι2 H2 Ext.refl l2 _ rfl
    | true =>
      rw [if_pos rfl] at q ⊢
      refine ⟨ρ, S2, F2, ι2, (er.ext e1).ext e2, l2, q.bind.imp fun dz S3 F3 ι3 H3 e3 l3 p3 z rz => ?_⟩
      obtain ⟨c1, h5, q⟩ := p3.blD l3
      exact ⟨dy, dz, S3, F3, ι3, c1, l3, e3.rep ry, rz, h5, q⟩
  | .andV a b, e, j, sc, X, W, hj, hl, g, tk, h => by
    have go : ∀ {a' b' : Expr} {r : List Expr} {pos : Pos}, PE X a' (tE G W fun ρ S => evE O a ρ S) → PE X (.BoolOp .And (b' :: r) pos) (tE G W fun ρ S => evE O b ρ S) → PE X (.BoolOp .And (a' :: b' :: r) pos) (tE G W fun ρ S => evE O (.andV a b) ρ S) := by
      intro a' b' r pos ha hb
      refine pe_weak (pe_andT ha hb) fun σ H Q ⟨ρ, S, F, ι, er, rl, p⟩ => ?_
      simp only [evE] at p
      refine ⟨ρ, S, F, ι, er, rl, p.bind.imp fun dx S1 F1 ι1 H1 e1 l1 p1 x rx => ?_⟩
      obtain ⟨c0, h4, q⟩ := p1.bind.opt
      have q := q F1 ι1 H1 Ext.refl l1
      refine ⟨c0, by rw [g.pK]; exact tru_v l1 (l1.der rx) h4, ?_⟩
      cases c0 with
      | false => rw [if_neg Bool.false_ne_true] at q ⊢; exact q F1 ι1 H1 Ext.refl l1 _ rx
      | true => rw [if_pos rfl] at q ⊢; exact ⟨ρ, S1, F1, ι1, er.ext e1, l1, q⟩
    simp only [mE] at h
    split at h <;> try (cases h; done)
    · rename_i a' b' p
      rw [Bool.and_eq_true] at h
      exact go (sE A a a' j sc X W hj hl g tk h.1) (pe_one (sE A b b' j sc X W hj hl g tk h.2))
    · rename_i a' b' c' r p
      rw [Bool.and_eq_true] at h
      exact go (sE A a a' j sc X W hj hl g tk h.1) (sE A b _ j sc X W hj hl g tk h.2)
  | .orV a b, e, j, sc, X, W, hj, hl, g, tk, h => by
    have go : ∀ {a' b' : Expr} {r : List Expr} {pos : Pos}, PE X a' (tE G W fun ρ S => evE O a ρ S) → PE X (.BoolOp .Or (b' :: r) pos) (tE G W fun ρ S => evE O b ρ S) → PE X (.BoolOp .Or (a' :: b' :: r) pos) (tE G W fun ρ S => evE O (.orV a b) ρ S) := by
      intro a' b' r pos ha hb
      refine pe_weak (pe_orT ha hb) fun σ H Q ⟨ρ, S, F, ι, er, rl, p⟩ => ?_
      simp only [evE] at p
      refine ⟨ρ, S, F, ι, er, rl, p.bind.imp fun dx S1 F1 ι1 H1 e1 l1 p1 x rx => ?_⟩
      obtain ⟨c0, h4, q⟩ := p1.bind.opt
      have q := q F1 ι1 H1 Ext.refl l1
      refine ⟨c0, by rw [g.pK]; exact tru_v l1 (l1.der rx) h4, ?_⟩
      cases c0 with
      | false => rw [if_neg Bool.false_ne_true] at q ⊢; exact ⟨ρ, S1, F1, ι1, er.ext e1, l1, q⟩
      | true => rw [if_pos rfl] at q ⊢; exact q F1 ι1 H1 Ext.refl l1 _ rx
    simp only [mE] at h
    split at h <;> try (cases h; done)
    · rename_i a' b' p
      rw [Bool.and_eq_true] at h
      exact go (sE A a a' j sc X W hj hl g tk h.1) (pe_one (sE A b b' j sc X W hj hl g tk h.2))
    · rename_i a' b' c' r p
      rw [Bool.and_eq_true] at h
      exact go (sE A a a' j sc X W hj hl g tk h.1) (sE A b _ j sc X W hj hl g tk h.2)
  | .ife t a b, e, j, sc, X, W, hj, hl, g, tk, h => by
    simp only [mE] at h
    split at h <;> try (cases h; done)
    rename_i t' a' b' p
    simp only [Bool.and_eq_true] at h
    refine pe_weak (pe_ifExp (sT A t t' j sc X W hj hl g tk h.1.1) (sE A a a' j sc X W hj hl g tk h.1.2) (sE A b b' j sc X W hj hl g tk h.2)) fun σ H Q ⟨ρ, S, F, ι, er, rl, p⟩ => ?_
    simp only [evE] at p
    refine ⟨ρ, S, F, ι, er, rl, p.bind.imp fun c0 S1 F1 ι1 H1 e1 l1 p1 => ?_⟩
    cases c0 with
    | false => rw [if_neg Bool.false_ne_true] at p1 ⊢; exact ⟨ρ, S1, F1, ι1, er.ext e1, l1, p1⟩
    | true => rw [if_pos rfl] at p1 ⊢; exact ⟨ρ, S1, F1, ι1, er.ext e1, l1, p1⟩
  | .tup es, e, j, sc, X, W, hj, hl, g, tk, h => by
    simp only [mE] at h
    split at h <;> try (cases h; done)
    rename_i es' k' p
    refine pe_weak (pe_tup (sEs A es es' j sc X W hj hl g tk h)) fun σ H Q ⟨ρ, S, F, ι, er, rl, p⟩ => ?_
    simp only [evE] at p
    refine ⟨ρ, S, F, ι, er, rl, p.bind.imp fun ds S1 F1 ι1 H1 e1 l1 p1 vs rv => ?_⟩
    obtain ⟨hz, p1⟩ := le_sz rv p1
    refine ⟨hz, fun pp hp => ?_⟩
    obtain ⟨ex, l2⟩ := l1.frz hp (.tup vs) (fun _ z => by cases z)
    exact p1 _ _ _ ex l2 _ ⟨pp, vs, rfl, SqT.of upd_same, ex.repL rv⟩
  | .fl f, e, j, sc, X, W, hj, hl, g, tk, h => by
    simp only [mE] at h
    have := tF_tE (sF A f e j sc X W hj hl g tk h)
    simpa only [evE] using this
  | .ml f, e, j, sc, X, W, hj, hl, g, tk, h => by
    simp only [mE] at h
    have := tF_tM (sF A f e j sc X W hj hl g tk h)
    simpa only [evE] using this
  | .ix a b, e, j, sc, X, W, hj, hl, g, tk, h => by
    simp only [mE] at h
    split at h <;> try (cases h; done)
    rename_i a' b' p
    rw [Bool.and_eq_true] at h
    refine pe_weak (pe_ix (ix_all g.pK) (sE A a a' j sc X W hj hl g tk h.1) (sE A b b' j sc X W hj hl g tk h.2) (ix_of (mE_ok M sc b b' h.2))) fun σ H Q q => ?_
    simp only [evE] at q
    refine tE_two (fun x y H Q dx dy S F ι σ rl rx ry p => ?_) q
    obtain ⟨d, e, q⟩ := p.opt
    exact ⟨dx, dy, S, F, ι, d, rl, rx, ry, e, fun F' H' v ex rl' rp => q F' ι H' ex rl' v rp⟩
  | .sl a lo hi, e, j, sc, X, W, hj, hl, g, tk, h => by
    simp only [mE] at h
    split at h <;> try (cases h; done)
    rename_i a' lo' hi' p1 p2
    simp only [Bool.and_eq_true] at h
    refine pe_weak (pe_slice (sl_t g.pK) (sE A a a' j sc X W hj hl g tk h.1.1) (sO A lo lo' j sc X W hj hl g tk h.1.2) (sO A hi hi' j sc X W hj hl g tk h.2)) fun σ H Q ⟨ρ, S, F, ι, er, rl, p⟩ => ?_
    simp only [evE] at p
    refine ⟨ρ, S, F, ι, er, rl, p.bind.imp fun dx S1 F1 ι1 H1 e1 l1 p1 x rx => ?_⟩
    refine ⟨ρ, S1, F1, ι1, er.ext e1, l1, p1.bind.imp fun l S2 F2 ι2 H2 e2 l2 p2 => ?_⟩
    refine ⟨ρ, S2, F2, ι2, (er.ext e1).ext e2, l2, p2.bind.imp fun u S3 F3 ι3 H3 e3 l3 p3 => ?_⟩
    split at p3
    · exact ⟨_, S3, F3, ι3, l3, e3.rep (e2.rep rx), fun F' H' v ex rl' rp => p3 F' ι3 H' ex rl' v rp⟩
    · exact (show False from p3).elim
  | .rev a, e, j, sc, X, W, hj, hl, g, tk, h => by
    simp only [mE] at h
    split at h <;> try (cases h; done)
    rename_i a' i p1 p2 p3 p4 p5
    simp only [Bool.and_eq_true, decide_eq_true_eq] at h
    obtain ⟨rfl, h⟩ := h
    refine pe_weak (peRevT (sE A a a' j sc X W hj hl g tk h)) fun σ H Q ⟨ρ, S, F, ι, er, rl, p⟩ => ?_
    simp only [evE] at p
    refine ⟨ρ, S, F, ι, er, rl, p.bind.imp fun dx S1 F1 ι1 H1 e1 l1 p1 x rx => ?_⟩
    split at p1
    · obtain ⟨b, ws, rfl, q2, ll⟩ := rx
      refine ⟨b, ws, rfl, by rw [g.pK]; exact l1.sqT q2, fun l hn => ?_⟩
      obtain ⟨ex, l2⟩ := l1.frz hn (.tup ws.reverse) (fun _ z => by cases z)
      exact p1 _ _ _ ex l2 _ ⟨l, _, rfl, SqT.of upd_same, ex.repL ll.rev⟩
    · exact (show False from p1).elim
  | .call f x es, e, j, sc, X, W, hj, hl, g, tk, h => by
    simp only [mE] at h
    split at h <;> try (cases h; done)
    rename_i y p1 es' p2
    simp only [Bool.and_eq_true, decide_eq_true_eq] at h
    obtain ⟨⟨⟨⟨⟨rfl, h1⟩, h2⟩, h3⟩, h5⟩, h4⟩ := h
    have hr : G.rps.contains f = true → X.A.guards = some [] := fun z => hl.2 (by rw [← A.rps] at z; rw [z] at h5; simpa using h5)
    have := call_pe (p := p1) (pos := p2) A hj g tk (f := f) (x := y) (c := es) (by rw [← A.nm]; exact h3) hr h1 h2 h4 (sEs A es es' j sc X W hj hl g tk h4)
    simpa only [evE] using this
  | .callv i es, e, j, sc, X, W, hj, hl, g, tk, h => by
    simp only [mE] at h
    split at h <;> try (cases h; done)
    rename_i y p1 e0 es' p2
    simp only [Bool.and_eq_true, decide_eq_true_eq] at h
    obtain ⟨⟨⟨⟨h1, h2⟩, h3⟩, h5⟩, h4⟩ := h
    have hr : ∀ f, G.rps.contains f = true → X.A.guards = some [] := fun f z => hl.2 (by
      rw [← A.rps] at z
      cases q : sc.rp with
      | true => rfl
      | false =>
        rw [q, Bool.or_false] at h5
        rw [List.isEmpty_iff.mp h5] at z
        cases z)
    exact callv_pe (p := p1) (pos := p2) A hj g tk h1 h2 h3 hr h4 (sEs A es (e0 :: es') j sc X W hj hl g tk h4)
  | .lam gg x b, e, j, sc, X, W, hj, hl, g, tk, h => by
    have hlam : sc.lam = true := by
      simp only [mE] at h
      split at h <;> try (cases h; done)
      simp only [Bool.and_eq_true] at h
      exact h.1.1.1.1.1.2
    exact A.lam X W sc gg x b e (g.mono (hl.1 hlam).1) (hl.1 hlam).2 tk h fun X W sc e g tk h => sE A b e k ⟨sc, false, false⟩ X W (Nat.le_refl _) ⟨fun z => (by cases z), fun z => (by cases z)⟩ g tk h
  | .bi b es, e, j, sc, X, W, hj, hl, g, tk, h => by
    simp only [mE] at h
    split at h <;> try (cases h; done)
    rename_i y p1 e0 es' p2
    rw [Bool.and_eq_true, Bool.and_eq_true, Bool.and_eq_true, decide_eq_true_eq] at h
    obtain ⟨⟨⟨h1, h2⟩, h4⟩, h3⟩ := h
    exact bi_pe (p := p1) (pos := p2) A g (fun z => hl.2 (by subst z; simpa using h4)) h1 h2 h3 (sEs A es (e0 :: es') j sc X W hj hl g tk h3)
  | .isi a ts, e, j, sc, X, W, hj, hl, g, tk, h => by
    simp only [mE] at h
    split at h <;> try (cases h; done)
    rename_i y p1 a' T p2
    simp only [Bool.and_eq_true, decide_eq_true_eq] at h
    obtain ⟨⟨⟨⟨h1, h2⟩, h8⟩, h3⟩, h4⟩ := h
    exact isi_pe (p := p1) (pos := p2) A g h1 h2 h8 h3 (sE A a a' j sc X W hj hl g tk h3) h4
theorem sEs (A : Amb G M P w base k O) : ∀ (c : CEs) (e : List Expr) (j : Nat) (sc : Sc) (X : Cx) (W : WX), k ≤ j → Hl G k j sc X → Good G P w base j M sc.s X → Takes X W → mEs M sc c e = true → PA X e (tEs G W fun ρ S => evEs O c ρ S)
  | .nil, e, j, sc, X, W, hj, hl, g, tk, h => by
    simp only [mEs] at h
    split at h <;> try (cases h; done)
    refine pa_weak pa_nil fun σ H Q ⟨ρ, S, F, ι, er, rl, p⟩ => ?_
    simp only [evEs] at p
    exact p F ι H Ext.refl rl _ rfl
  | .cons a r, e, j, sc, X, W, hj, hl, g, tk, h => by
    simp only [mEs] at h
    split at h <;> try (cases h; done)
    rename_i e0 es'
    rw [Bool.and_eq_true] at h
    exact pa_weak (pa_cons (sE A a e0 j sc X W hj hl g tk h.1) (sEs A r es' j sc X W hj hl g tk h.2) (star_of (mE_ok M sc a e0 h.1))) fun σ H Q q => tEs_cons (fun _ _ _ z => z) q
theorem sO (A : Amb G M P w base k O) : ∀ (c : CO) (e : Option Expr) (j : Nat) (sc : Sc) (X : Cx) (W : WX), k ≤ j → Hl G k j sc X → Good G P w base j M sc.s X → Takes X W → mO M sc c e = true → PO X e (tO G W fun ρ S => evO O c ρ S)
  | .non, e, j, sc, X, W, hj, hl, g, tk, h => by
    simp only [mO] at h
    split at h <;> try (cases h; done)
    refine ⟨fun pins s σ H Q I ⟨ρ, S, F, ι, er, rl, p⟩ => po_none.run pins s σ H Q I ?_⟩
    simp only [evO] at p
    exact p F ι H Ext.refl rl
  | .som a, e, j, sc, X, W, hj, hl, g, tk, h => by
    simp only [mO] at h
    split at h <;> try (cases h; done)
    rename_i a'
    refine ⟨fun pins s σ H Q I ⟨ρ, S, F, ι, er, rl, p⟩ => (po_some (sE A a a' j sc X W hj hl g tk h)).run pins s σ H Q I ?_⟩
    simp only [evO] at p
    refine ⟨ρ, S, F, ι, er, rl, p.bind.imp fun dx S1 F1 ι1 H1 e1 l1 p1 x rx => ?_⟩
    split at p1
    · exact ⟨_, rx, p1 F1 ι1 H1 Ext.refl l1⟩
    · exact (show False from p1).elim
theorem sT (A : Amb G M P w base k O) : ∀ (c : CT) (e : Expr) (j : Nat) (sc : Sc) (X : Cx) (W : WX), k ≤ j → Hl G k j sc X → Good G P w base j M sc.s X → Takes X W → mT M sc c e = true → PT X e (tT G W fun ρ S => evT O c ρ S)
  | .cmp op a b, e, j, sc, X, W, hj, hl, g, tk, h => by
    simp only [mT] at h
    split at h <;> try (cases h; done)
    rename_i a' op' b' p
    simp only [Bool.and_eq_true, decide_eq_true_eq] at h
    obtain ⟨⟨rfl, h1⟩, h2⟩ := h
    refine pt_weak (pt_cmpR (c_all g.pK g.hu op') (sE A a a' j sc X W hj hl g tk h1) (sE A b b' j sc X W hj hl g tk h2) (mark_of (mE_ok M sc b b' h2))) fun σ H Q ⟨ρ, S, F, ι, er, rl, p⟩ => ?_
    simp only [evT] at p
    refine ⟨ρ, S, F, ι, er, rl, p.bind.imp fun dx S1 F1 ι1 H1 e1 l1 p1 x rx => ?_⟩
    refine ⟨ρ, S1, F1, ι1, er.ext e1, l1, p1.bind.imp fun dy S2 F2 ι2 H2 e2 l2 p2 y ry => ?_⟩
    obtain ⟨c0, h4, q⟩ := p2.opt
    exact ⟨dx, dy, S2, F2, ι2, c0, l2, e2.rep rx, ry, h4, c0, rfl, q F2 ι2 H2 Ext.refl l2⟩
  | .chain o1 o2 a b c, e, j, sc, X, W, hj, hl, g, tk, h => by
    simp only [mT] at h
    split at h <;> try (cases h; done)
    rename_i a' o1' o2' b' c' p
    simp only [Bool.and_eq_true, decide_eq_true_eq] at h
    obtain ⟨⟨⟨⟨rfl, rfl⟩, h1⟩, h2⟩, h3⟩ := h
    refine pt_weak (pt_chain (c_all g.pK g.hu o1') (c_all g.pK g.hu o2') (sE A a a' j sc X W hj hl g tk h1) (sE A b b' j sc X W hj hl g tk h2) (sE A c c' j sc X W hj hl g tk h3) (mark_of (mE_ok M sc c c' h3))) fun σ H Q ⟨ρ, S, F, ι, er, rl, p⟩ => ?_
    simp only [evT] at p
    refine ⟨ρ, S, F, ι, er, rl, p.bind.imp fun dx S1 F1 ι1 H1 e1 l1 p1 x rx => ?_⟩
    refine ⟨ρ, S1, F1, ι1, er.ext e1, l1, p1.bind.imp fun dy S2 F2 ι2 H2 e2 l2 p2 y ry => ?_⟩
    obtain ⟨c0, h4, q⟩ := p2.bind.opt
    have q := q F2 ι2 H2 Ext.refl l2
    refine ⟨dx, dy, S2, F2, ι2, c0, l2, e2.rep rx, ry, h4, c0, rfl, ?_⟩
    cases c0 with
    | false =>
      rw [if_neg Bool.false_ne_true] at q ⊢
      exact ⟨false, rfl, q F2 ι2 H2 Ext.refl l2⟩
    | true =>
      rw [if_pos rfl] at q ⊢
      refine ⟨ρ, S2, F2, ι2, (er.ext e1).ext e2, l2, q.bind.imp fun dz S3 F3 ι3 H3 e3 l3 p3 z rz => ?_⟩
      obtain ⟨c1, h5, q⟩ := p3.opt
      exact ⟨dy, dz, S3, F3, ι3, c1, l3, e3.rep ry, rz, h5, c1, rfl, q F3 ι3 H3 Ext.refl l3⟩
  | .not t, e, j, sc, X, W, hj, hl, g, tk, h => by
    simp only [mT] at h
    split at h <;> try (cases h; done)
    rename_i a' p
    refine pt_weak (pt_not (sT A t a' j sc X W hj hl g tk h)) fun σ H Q ⟨ρ, S, F, ι, er, rl, p⟩ => ?_
    simp only [evT] at p
    exact ⟨ρ, S, F, ι, er, rl, p.bind.imp fun c0 S1 F1 ι1 H1 e1 l1 p1 => p1 F1 ι1 H1 Ext.refl l1⟩
  | .and t u, e, j, sc, X, W, hj, hl, g, tk, h => by
    simp only [mT] at h
    split at h <;> try (cases h; done)
    · rename_i a' b' p
      rw [Bool.and_eq_true] at h
      exact (and_go (sT A t a' j sc X W hj hl g tk h.1) (pw_and1 (sT A u b' j sc X W hj hl g tk h.2))).pt
    · rename_i a' b' c' r p
      rw [Bool.and_eq_true] at h
      exact (and_go (sT A t a' j sc X W hj hl g tk h.1) (sW A u _ j sc X W hj hl g tk h.2 rfl)).pt
  | .or t u, e, j, sc, X, W, hj, hl, g, tk, h => by
    simp only [mT] at h
    split at h <;> try (cases h; done)
    · rename_i a' b' p
      rw [Bool.and_eq_true] at h
      exact (or_go (sT A t a' j sc X W hj hl g tk h.1) (pw_or1 (sT A u b' j sc X W hj hl g tk h.2))).pt
    · rename_i a' b' c' r p
      rw [Bool.and_eq_true] at h
      exact (or_go (sT A t a' j sc X W hj hl g tk h.1) (sW A u _ j sc X W hj hl g tk h.2 rfl)).pt
  | .tru a, e, j, sc, X, W, hj, hl, g, tk, h => by
    simp only [mT, Bool.and_eq_true] at h
    refine pt_weak (pt_truth (sE A a e j sc X W hj hl g tk h.2) (tr_of h.1)) fun σ H Q ⟨ρ, S, F, ι, er, rl, p⟩ => ?_
    simp only [evT] at p
    refine ⟨ρ, S, F, ι, er, rl, p.bind.imp fun dx S1 F1 ι1 H1 e1 l1 p1 x rx => ?_⟩
    obtain ⟨c0, h4, q⟩ := p1.opt
    exact ⟨c0, by rw [g.pK]; exact tru_v l1 (l1.der rx) h4, q F1 ι1 H1 Ext.refl l1⟩
theorem sW (A : Amb G M P w base k O) : ∀ (c : CT) (e : Expr) (j : Nat) (sc : Sc) (X : Cx) (W : WX), k ≤ j → Hl G k j sc X → Good G P w base j M sc.s X → Takes X W → mT M sc c e = true → isBO e = true → PW X e (tT G W fun ρ S => evT O c ρ S)
  | .and t u, e, j, sc, X, W, hj, hl, g, tk, h, hb => by
    clear hb
    simp only [mT] at h
    split at h <;> try (cases h; done)
    · rename_i a' b' p
      rw [Bool.and_eq_true] at h
      exact and_go (sT A t a' j sc X W hj hl g tk h.1) (pw_and1 (sT A u b' j sc X W hj hl g tk h.2))
    · rename_i a' b' c' r p
      rw [Bool.and_eq_true] at h
      exact and_go (sT A t a' j sc X W hj hl g tk h.1) (sW A u _ j sc X W hj hl g tk h.2 rfl)
  | .or t u, e, j, sc, X, W, hj, hl, g, tk, h, hb => by
    clear hb
    simp only [mT] at h
    split at h <;> try (cases h; done)
    · rename_i a' b' p
      rw [Bool.and_eq_true] at h
      exact or_go (sT A t a' j sc X W hj hl g tk h.1) (pw_or1 (sT A u b' j sc X W hj hl g tk h.2))
    · rename_i a' b' c' r p
      rw [Bool.and_eq_true] at h
      exact or_go (sT A t a' j sc X W hj hl g tk h.1) (sW A u _ j sc X W hj hl g tk h.2 rfl)
  | .cmp op a b, e, j, sc, X, W, hj, hl, g, tk, h, hb => by
    simp only [mT] at h
    split at h <;> first | cases h | cases hb
  | .chain o1 o2 a b c, e, j, sc, X, W, hj, hl, g, tk, h, hb => by
    simp only [mT] at h
    split at h <;> first | cases h | cases hb
  | .not t, e, j, sc, X, W, hj, hl, g, tk, h, hb => by
    simp only [mT] at h
    split at h <;> first | cases h | cases hb
  | .tru a, e, j, sc, X, W, hj, hl, g, tk, h, hb => by
    simp only [mT, Bool.and_eq_true] at h
    cases e <;> first | exact absurd h.1 Bool.false_ne_true | exact absurd hb Bool.false_ne_true
theorem sTo (A : Amb G M P w base k O) : ∀ (c : CTo) (e : List Expr) (j : Nat) (sc : Sc) (X : Cx) (W : WX), k ≤ j → Hl G k j sc X → Good G P w base j M sc.s X → Takes X W → mTo M sc c e = true → PTs X e (tT G W fun ρ S => evTo O c ρ S)
  | .non, e, j, sc, X, W, hj, hl, g, tk, h => by
    simp only [mTo] at h
    split at h <;> try (cases h; done)
    refine ⟨fun pins s σ H Q I ⟨ρ, S, F, ι, er, rl, p⟩ => pts_nil.run pins s σ H Q I ?_⟩
    simp only [evTo] at p
    exact p F ι H Ext.refl rl
  | .som t, e, j, sc, X, W, hj, hl, g, tk, h => by
    simp only [mTo] at h
    split at h <;> try (cases h; done)
    rename_i e0
    refine ⟨fun pins s σ H Q I q => (pts_one (sT A t e0 j sc X W hj hl g tk h)).run pins s σ H Q I ?_⟩
    simpa only [evTo] using q
theorem sF (A : Amb G M P w base k O) : ∀ (c : CF) (e : Expr) (j : Nat) (sc : Sc) (X : Cx) (W : WX), k ≤ j → Hl G k j sc X → Good G P w base j M sc.s X → Takes X W → mF M sc c e = true → PE X e (tF G W fun ρ S => evF O c ρ S)
  | .disp es, e, j, sc, X, W, hj, hl, g, tk, h => by
    simp only [mF] at h
    split at h <;> try (cases h; done)
    rename_i es' p
    refine pe_weak (pe_lst (sEs A es es' j sc X W hj hl g tk h)) fun σ H Q ⟨ρ, S, F, ι, er, rl, p⟩ => ?_
    simp only [evF] at p
    refine ⟨ρ, S, F, ι, er, rl, p.bind.imp fun ds S1 F1 ι1 H1 e1 l1 p1 vs rv => ?_⟩
    obtain ⟨hz, p1⟩ := le_sz rv p1
    exact ⟨hz, fun pp hp => p1 F1 ι1 H1 Ext.refl l1 pp vs hp rv⟩
  | .comp own tg it t el, e, j, sc, X, W, hj, hl, g, tk, h => by
    simp only [mF] at h
    split at h <;> try (cases h; done)
    rename_i el' tg' it' ifs csc p
    simp only [Bool.and_eq_true, decide_eq_true_eq] at h
    obtain ⟨⟨⟨⟨⟨⟨h1, h2⟩, h3⟩, h4⟩, h5⟩, h6⟩, h7⟩ := h
    have hsub : ∀ i ∈ tgN tg, i ∈ own := fun i hi => by
      have := List.all_eq_true.mp h4 i hi
      simpa using this
    have bok : BlkOk X.N X.env.scope csc (own.filterMap fun i => (M.N[i]?).map fun x => (x, i)) := by
      rw [g.pN, g.sc]; exact blkOk_by h2
    have := pe_lc (pos := p) g.calm g.nd (sI A it tg' it' j sc X W hj hl g tk h1) bok
      (fun s H C cl fp => sTg A tg tg' j csc ⟨relS csc sc.s, sc.lam, sc.rp⟩ (X.blk s H csc (compEnvC csc cl C X.env) fp) WF hj (hl.blk s H C cl fp csc) (g.blk s H C cl fp csc) (takesF rfl) (fun x hx => by
        rcases hx with hx | hx
        · refine .inr ?_
          show (relS csc X.env.scope).names.lookup x = _
          exact L2.lookup_relS_keep (by decide) hx
        · refine .inl ?_
          show (csc.names.lookup x == some .cell) = true
          rw [hx]; rfl) h5)
      (fun s H C cl fp => sTo A t ifs j ⟨relS csc sc.s, sc.lam, sc.rp⟩ (X.blk s H csc (compEnvC csc cl C X.env) fp) WF hj (hl.blk s H C cl fp csc) (g.blk s H C cl fp csc) (takesF rfl) h6)
      (fun s H C cl fp => sE A el el' j ⟨relS csc sc.s, sc.lam, sc.rp⟩ (X.blk s H csc (compEnvC csc cl C X.env) fp) WF hj (hl.blk s H C cl fp csc) (g.blk s H C cl fp csc) (takesF rfl) h7)
      (fold_of (mI_ok M sc tg' it it' h1))
    refine pe_weak this fun σ H Q q => ?_
    rw [h3]
    exact comp_conv hsub q
  | .op o a b, e, j, sc, X, W, hj, hl, g, tk, h => by
    simp only [mF] at h
    split at h <;> try (cases h; done)
    rename_i a' op' b' p
    simp only [Bool.and_eq_true, decide_eq_true_eq] at h
    obtain ⟨⟨rfl, h1⟩, h2⟩ := h
    refine pe_weak (pe_op (l_all (G := G) op') (sE A a a' j sc X W hj hl g tk h1) (sE A b b' j sc X W hj hl g tk h2)) fun σ H Q ⟨ρ, S, F, ι, er, rl, p⟩ => ?_
    simp only [evF] at p
    refine ⟨ρ, S, F, ι, er, rl, p.bind.imp fun dx S1 F1 ι1 H1 e1 l1 p1 x rx => ?_⟩
    refine ⟨ρ, S1, F1, ι1, er.ext e1, l1, p1.bind.imp fun dy S2 F2 ι2 H2 e2 l2 p2 y ry => ?_⟩
    obtain ⟨ds, h4, q⟩ := p2.opt
    exact ⟨dx, dy, S2, F2, ι2, ds, l2, e2.rep rx, ry, h4, q F2 ι2 H2 Ext.refl l2⟩
  | .ofs a, e, j, sc, X, W, hj, hl, g, tk, h => by
    simp only [mF] at h
    split at h <;> try (cases h; done)
    rename_i y p1 a' p2
    simp only [Bool.and_eq_true, decide_eq_true_eq] at h
    obtain ⟨⟨h1, h2⟩, h3⟩ := h
    obtain ⟨b1, b2, b3, b4⟩ := bl_free A g h2
    subst h1
    have st := star_of (es := []) (env := X.env) (mE_ok M sc a a' h3)
    refine pe_weak (pe_callTy call_list_of b1 b2 (by decide +kernel) (pa_cons (sE A a a' j sc X W hj hl g tk h3) pa_nil st) b4 b3 st (by rfl)) fun σ H Q ⟨ρ, S, F, ι, er, rl, p⟩ => ?_
    simp only [evF] at p
    refine ⟨ρ, S, F, ι, er, rl, p.bind.imp fun dx S1 F1 ι1 H1 e1 l1 p1 x rx => ?_⟩
    obtain ⟨ds, h4, q⟩ := p1.opt
    have a1 := l1.der rx
    revert a1 h4
    generalize Gx.der S1 dx = ex
    intro h4 a1
    cases ex <;> simp only [seqL] at h4 <;> try (cases h4; done)
    · cases h4
      obtain ⟨b, ws, rfl, q2, ll⟩ := a1
      exact ⟨b, ws, rfl, .inr (by rw [g.pK]; exact l1.sqT q2), fun l hl => q F1 ι1 H1 Ext.refl l1 l ws hl ll⟩
    · cases h4
      obtain ⟨b, ws, rfl, q2, ll⟩ := a1
      exact ⟨b, ws, rfl, .inl (SqL.of q2), fun l hl => q F1 ι1 H1 Ext.refl l1 l ws hl ll⟩
    · cases h4
      obtain ⟨b, ws, rfl, q2, ll⟩ := a1
      exact ⟨b, ws, rfl, .inl (by rw [g.pK]; exact l1.sqL q2), fun l hl => q F1 ι1 H1 Ext.refl l1 l ws hl ll⟩
  | .sl a lo hi, e, j, sc, X, W, hj, hl, g, tk, h => by
    simp only [mF] at h
    split at h <;> try (cases h; done)
    rename_i a' lo' hi' p1 p2
    simp only [Bool.and_eq_true] at h
    refine pe_weak (pe_slice (sl_f g.pK) (sE A a a' j sc X W hj hl g tk h.1.1) (sO A lo lo' j sc X W hj hl g tk h.1.2) (sO A hi hi' j sc X W hj hl g tk h.2)) fun σ H Q ⟨ρ, S, F, ι, er, rl, p⟩ => ?_
    simp only [evF] at p
    refine ⟨ρ, S, F, ι, er, rl, p.bind.imp fun dx S1 F1 ι1 H1 e1 l1 p1 x rx => ?_⟩
    refine ⟨ρ, S1, F1, ι1, er.ext e1, l1, p1.bind.imp fun l S2 F2 ι2 H2 e2 l2 p2 => ?_⟩
    refine ⟨ρ, S2, F2, ι2, (er.ext e1).ext e2, l2, p2.bind.imp fun u S3 F3 ι3 H3 e3 l3 p3 => ?_⟩
    have a1 := l3.der (e3.rep (e2.rep rx))
    revert a1 p3
    generalize Gx.der S3 dx = ex
    intro p3 a1
    cases ex <;> try (exact (show False from p3).elim)
    · obtain ⟨b, ws, rfl, q2, ll⟩ := a1
      exact ⟨b, ws, _, S3, F3, ι3, rfl, l3, SqL.of q2, ll, p3 F3 ι3 H3 Ext.refl l3⟩
    · obtain ⟨b, ws, rfl, q2, ll⟩ := a1
      exact ⟨b, ws, _, S3, F3, ι3, rfl, l3, l3.sqL q2, ll, p3 F3 ι3 H3 Ext.refl l3⟩
  | .zips a b, e, j, sc, X, W, hj, hl, g, tk, h => by
    simp only [mF] at h
    split at h <;> try (cases h; done)
    rename_i y p1 y2 p2 a' b' p3 p4
    simp only [Bool.and_eq_true, decide_eq_true_eq] at h
    obtain ⟨⟨⟨⟨⟨h1, h2⟩, h3⟩, h4⟩, h5⟩, h6⟩ := h
    obtain ⟨b1, b2, b3, b4⟩ := bl_free A g h3
    obtain ⟨c1, c2, c3, c4⟩ := bl_free A g h4
    subst h1 h2
    have st2 := star_of (es := []) (env := X.env) (mE_ok M sc b b' h6)
    have st := star_of (es := [b']) (env := X.env) (mE_ok M sc a a' h5)
    refine pe_weak (peListZ b1 b2 c1 c2 g.calm (pa_cons (sE A a a' j sc X W hj hl g tk h5) (pa_cons (sE A b b' j sc X W hj hl g tk h6) pa_nil st2) st) st (by rw [st2]; rfl)) fun σ H Q ⟨ρ, S, F, ι, er, rl, p⟩ => ?_
    simp only [evF] at p
    refine ⟨ρ, S, F, ι, er, rl, p.bind.imp fun dx S1 F1 ι1 H1 e1 l1 p1 x rx => ?_⟩
    refine ⟨ρ, S1, F1, ι1, er.ext e1, l1, p1.bind.imp fun dy S2 F2 ι2 H2 e2 l2 p2 y ry => ?_⟩
    split at p2 <;> try (exact (show False from p2).elim)
    obtain ⟨a0, vs, rfl, q1, r1⟩ := e2.rep rx
    obtain ⟨b0, ws, rfl, q2, r2⟩ := ry
    refine ⟨a0, b0, vs, ws, rfl, by rw [g.pK]; exact l2.sqT q1, SqL.of (l2.sub _ _ q2), fun H' Ts l pr hl => ?_⟩
    obtain ⟨F3, ex, l3, rp⟩ := prs_rep r1 r2 l2 pr
    exact p2 F3 ι2 H' ex l3 l Ts hl rp
theorem sI (A : Amb G M P w base k O) : ∀ (c : CI) (tg e : Expr) (j : Nat) (sc : Sc) (X : Cx) (W : WX), k ≤ j → Hl G k j sc X → Good G P w base j M sc.s X → Takes X W → mI M sc tg c e = true → PI X tg e (tI G W fun ρ S => evI O c ρ S)
  | .seq a, tg, e, j, sc, X, W, hj, hl, g, tk, h => by
    simp only [mI] at h
    have he := sE A a e j sc X W hj hl g tk h
    refine ⟨fun pins s σ H R I ⟨ρ, S, F, ι, er, rl, p⟩ => ?_⟩
    simp only [evI] at p
    cases q : evE O a ρ S with
    | stuck => rw [q] at p; exact (show False from p).elim
    | exc c pl S1 =>
      refine (pi_list he).run pins s σ H R I ⟨ρ, S, F, ι, er, rl, ?_⟩
      show Pst G W σ F ι H (evE O a ρ S) _
      rw [q] at p ⊢
      exact p
    | ok d S1 =>
      rw [q] at p
      have p : Pst G W σ F ι H (opt (seqD d) S1) _ := p
      obtain ⟨z, hz, p⟩ := p.opt
      cases d <;> simp only [seqD] at hz <;> try (cases hz; done)
      · rename_i xs
        cases hz
        refine (pi_tup he).run pins s σ H R I ⟨ρ, S, F, ι, er, rl, ?_⟩
        show Pst G W σ F ι H (evE O a ρ S) _
        rw [q]
        intro F1 ι1 H1 e1 l1 v ⟨a0, vs, e0, q1, r1⟩
        exact ⟨a0, e0, ⟨vs, by rw [g.pK]; exact l1.sqT q1⟩, by rw [g.pK]; exact p F1 ι1 H1 e1 l1 _ (it_tup q1 r1)⟩
      · rename_i xs
        cases hz
        refine (pi_list he).run pins s σ H R I ⟨ρ, S, F, ι, er, rl, ?_⟩
        show Pst G W σ F ι H (evE O a ρ S) _
        rw [q]
        intro F1 ι1 H1 e1 l1 v ⟨a0, vs, e0, q1, r1⟩
        exact ⟨a0, e0, ⟨vs, by rw [g.pK]; exact l1.sqL (SqL.of q1)⟩, by rw [g.pK]; exact p F1 ι1 H1 e1 l1 _ (it_list (SqL.of q1) r1)⟩
      · rename_i xs
        cases hz
        refine (pi_list he).run pins s σ H R I ⟨ρ, S, F, ι, er, rl, ?_⟩
        show Pst G W σ F ι H (evE O a ρ S) _
        rw [q]
        intro F1 ι1 H1 e1 l1 v ⟨a0, vs, e0, q1, r1⟩
        exact ⟨a0, e0, ⟨vs, by rw [g.pK]; exact l1.sqL q1⟩, by rw [g.pK]; exact p F1 ι1 H1 e1 l1 _ (it_list q1 r1)⟩
      · rename_i k0
        cases hz
        refine (pi_list he).run pins s σ H R I ⟨ρ, S, F, ι, er, rl, ?_⟩
        show Pst G W σ F ι H (evE O a ρ S) _
        rw [q]
        intro F1 ι1 H1 e1 l1 v ⟨a0, e0, q1⟩
        obtain ⟨vs, h1⟩ := l1.tracked (List.mem_of_getElem? q1)
        exact ⟨a0, e0, ⟨vs, SqL.of h1⟩, by rw [g.pK]; exact p F1 ι1 H1 e1 l1 _ q1⟩
  | .rng1 a, tg, e, j, sc, X, W, hj, hl, g, tk, h => by
    simp only [mI] at h
    split at h <;> try (cases h; done)
    rename_i y p1 a' p2
    simp only [Bool.and_eq_true, decide_eq_true_eq] at h
    obtain ⟨⟨h1, h2⟩, h3⟩ := h
    obtain ⟨b1, b2, b3, b4⟩ := bl_free A g h2
    subst h1
    have st := star_of (es := []) (env := X.env) (mE_ok M sc a a' h3)
    refine pi_weak (pi_range1 b1 b2 (pa_cons (sE A a a' j sc X W hj hl g tk h3) pa_nil st) st) fun σ H R ⟨ρ, S, F, ι, er, rl, p⟩ => ?_
    simp only [evI] at p
    refine ⟨ρ, S, F, ι, er, rl, p.bind.imp fun dx S1 F1 ι1 H1 e1 l1 p1 x rx => ?_⟩
    split at p1 <;> try (exact (show False from p1).elim)
    rename_i n
    split at p1 <;> try (exact (show False from p1).elim)
    rename_i hs
    simp only [smallI, Bool.and_eq_true, decide_eq_true_eq] at hs
    have := p1 F1 ι1 H1 Ext.refl l1 (Itr 0 (n - 0).toNat) it_rng
    rw [Int.sub_zero] at this
    exact ⟨n, by rw [(show x = V.int n from rx)], by omega, by omega, this⟩
  | .rng2 a b, tg, e, j, sc, X, W, hj, hl, g, tk, h => by
    simp only [mI] at h
    split at h <;> try (cases h; done)
    rename_i y p1 a' b' p2
    simp only [Bool.and_eq_true, decide_eq_true_eq] at h
    obtain ⟨⟨⟨h1, h2⟩, h3⟩, h4⟩ := h
    obtain ⟨b1, b2, b3, b4⟩ := bl_free A g h2
    subst h1
    have st2 := star_of (es := []) (env := X.env) (mE_ok M sc b b' h4)
    have st := star_of (es := [b']) (env := X.env) (mE_ok M sc a a' h3)
    refine pi_weak (pi_range2 b1 b2 (pa_cons (sE A a a' j sc X W hj hl g tk h3) (pa_cons (sE A b b' j sc X W hj hl g tk h4) pa_nil st2) st) (by rw [st, st2]; rfl) st2) fun σ H R ⟨ρ, S, F, ι, er, rl, p⟩ => ?_
    simp only [evI] at p
    refine ⟨ρ, S, F, ι, er, rl, p.bind.imp fun dx S1 F1 ι1 H1 e1 l1 p1 x rx => ?_⟩
    refine ⟨ρ, S1, F1, ι1, er.ext e1, l1, p1.bind.imp fun dy S2 F2 ι2 H2 e2 l2 p2 y ry => ?_⟩
    split at p2 <;> try (exact (show False from p2).elim)
    rename_i lo hi
    split at p2 <;> try (exact (show False from p2).elim)
    rename_i hs
    simp only [smallI, Bool.and_eq_true, decide_eq_true_eq] at hs
    exact ⟨lo, hi, by rw [(show x = V.int lo from rx), (show y = V.int hi from ry)], ⟨by omega, by omega, by omega, by omega⟩, p2 F2 ι2 H2 Ext.refl l2 _ it_rng⟩
  | .zip a b, tg, e, j, sc, X, W, hj, hl, g, tk, h => by
    simp only [mI] at h
    split at h <;> try (cases h; done)
    rename_i y p1 a' b' p2
    simp only [Bool.and_eq_true, decide_eq_true_eq] at h
    obtain ⟨⟨⟨⟨h1, h5⟩, h2⟩, h3⟩, h4⟩ := h
    obtain ⟨b1, b2, b3, b4⟩ := bl_free A g h2
    subst h1
    have st2 := star_of (es := []) (env := X.env) (mE_ok M sc b b' h4)
    have st := star_of (es := [b']) (env := X.env) (mE_ok M sc a a' h3)
    cases tg <;> try (cases h5; done)
    refine pi_weak (piZipB b1 b2 (pa_cons (sE A a a' j sc X W hj hl g tk h3) (pa_cons (sE A b b' j sc X W hj hl g tk h4) pa_nil st2) st) st (by rw [st2]; rfl)) fun σ H R ⟨ρ, S, F, ι, er, rl, p⟩ => ?_
    simp only [evI] at p
    refine ⟨ρ, S, F, ι, er, rl, p.bind.imp fun dx S1 F1 ι1 H1 e1 l1 p1 x rx => ?_⟩
    refine ⟨ρ, S1, F1, ι1, er.ext e1, l1, p1.bind.imp fun dy S2 F2 ι2 H2 e2 l2 p2 y ry => ?_⟩
    split at p2 <;> try (exact (show False from p2).elim)
    · obtain ⟨a0, vs, rfl, q1, r1⟩ := e2.rep rx
      obtain ⟨b0, ws, rfl, q2, r2⟩ := ry
      exact ⟨a0, b0, vs, ws, rfl, .inl (.inr ⟨by rw [g.pK]; exact l2.sqT q1, by rw [g.pK]; exact l2.sqT q2, by rw [g.pK]; exact p2 F2 ι2 H2 Ext.refl l2 _ (it_zipT q1 r1 q2 r2)⟩)⟩
    · obtain ⟨a0, vs, rfl, q1, r1⟩ := e2.rep rx
      obtain ⟨b0, ws, rfl, q2, r2⟩ := ry
      exact ⟨a0, b0, vs, ws, rfl, .inl (.inl ⟨SqL.of (l2.sub _ _ q1), SqL.of (l2.sub _ _ q2), by rw [g.pK]; exact p2 F2 ι2 H2 Ext.refl l2 _ (it_zipL (SqL.of q1) r1 (SqL.of q2) r2)⟩)⟩
    · obtain ⟨a0, vs, rfl, q1, r1⟩ := e2.rep rx
      obtain ⟨b0, ws, rfl, q2, r2⟩ := ry
      exact ⟨a0, b0, vs, ws, rfl, .inr ⟨by rw [g.pK]; exact l2.sqT q1, SqL.of (l2.sub _ _ q2), by rw [g.pK]; exact p2 F2 ι2 H2 Ext.refl l2 _ (it_zipTL q1 r1 (SqL.of q2) r2)⟩⟩
  | .enum a, tg, e, j, sc, X, W, hj, hl, g, tk, h => by
    simp only [mI] at h
    split at h <;> try (cases h; done)
    rename_i y p1 a' p2
    simp only [Bool.and_eq_true, decide_eq_true_eq] at h
    obtain ⟨⟨⟨h1, h5⟩, h2⟩, h3⟩ := h
    obtain ⟨b1, b2, b3, b4⟩ := bl_free A g h2
    subst h1
    have st := star_of (es := []) (env := X.env) (mE_ok M sc a a' h3)
    cases tg <;> try (cases h5; done)
    refine pi_weak (piEnumA b1 b2 (pa_cons (sE A a a' j sc X W hj hl g tk h3) pa_nil st) st) fun σ H R ⟨ρ, S, F, ι, er, rl, p⟩ => ?_
    simp only [evI] at p
    refine ⟨ρ, S, F, ι, er, rl, p.bind.imp fun dx S1 F1 ι1 H1 e1 l1 p1 x rx => ?_⟩
    split at p1 <;> try (exact (show False from p1).elim)
    · obtain ⟨a0, vs, rfl, q1, r1⟩ := rx
      exact ⟨a0, vs, rfl, .inl ⟨SqL.of (l1.sub _ _ q1), by rw [g.pK]; exact p1 F1 ι1 H1 Ext.refl l1 _ (it_enum (SqL.of q1) r1)⟩⟩
    · obtain ⟨a0, vs, rfl, q1, r1⟩ := rx
      exact ⟨a0, vs, rfl, .inr ⟨by rw [g.pK]; exact l1.sqT q1, by rw [g.pK]; exact p1 F1 ι1 H1 Ext.refl l1 _ (it_enumT q1 r1)⟩⟩
theorem sTg (A : Amb G M P w base k O) : ∀ (c : CTg) (e : Expr) (j : Nat) (osc : Scope) (sc : Sc) (X : Cx) (W : WX), k ≤ j → Hl G k j sc X → Good G P w base j M sc.s X → Takes X W → (∀ x, osc.names.lookup x = some .local ∨ osc.names.lookup x = some .cell → X.fn x = true ∨ X.env.scope.names.lookup x = some .local) → mTg M osc sc c e = true →
    PG X e (tG G W (tgN c) fun d ρ S => evTg O c d ρ S)
  | .nm i, e, j, osc, sc, X, W, hj, hl, g, tk, hf, h => by
    simp only [mTg] at h
    split at h <;> try (cases h; done)
    rename_i x p
    simp only [Bool.and_eq_true, Bool.or_eq_true, decide_eq_true_eq] at h
    obtain ⟨⟨h1, h2⟩, h3⟩ := h
    refine pg_weak (pg_name (i := i) g.nd (by rw [g.pN]; exact h1) (by rw [g.sc]; exact h3) (hf x h2)) fun v σ H Q ⟨d, ρ, S, F, ι, er, rl, rv, p⟩ => ?_
    simp only [evTg] at p
    split at p <;> try (exact (show False from p).elim)
    refine p F ι H Ext.refl rl (σ.set i (some v)) (er.set rv) (by simp) fun q hq => ?_
    simp only [tgN, List.mem_singleton] at hq
    exact List.getElem?_set_ne (Ne.symm hq)
  | .tp ts, e, j, osc, sc, X, W, hj, hl, g, tk, hf, h => by
    simp only [mTg] at h
    split at h <;> try (cases h; done)
    rename_i es k' p
    have cc := mTgs_cnt M osc sc ts es h X.env
    refine pg_weak (pg_tup g.calm (sTgs A ts es j osc sc X W hj hl g tk hf h) cc.1 cc.2) fun v σ H Q ⟨d, ρ, S, F, ι, er, rl, rv, p⟩ => ?_
    simp only [evTg] at p
    split at p <;> try (exact (show False from p).elim)
    split at p <;> try (exact (show False from p).elim)
    rename_i xs hlen
    obtain ⟨a0, vs, e0, q1, r1⟩ := rv
    exact ⟨a0, vs, e0, by rw [g.pK]; exact rl.sqT q1, by rw [← r1.length]; exact hlen, xs, ρ, S, F, ι, er, rl, r1, p⟩
  | .sub a b, e, j, osc, sc, X, W, hj, hl, g, tk, hf, h => by
    simp only [mTg] at h
    split at h <;> try (cases h; done)
    rename_i a' b' p
    simp only [Bool.and_eq_true] at h
    refine pg_weak (pg_sub (sE A a a' j sc X W hj hl g tk h.1.2) (sE A b b' j sc X W hj hl g tk h.2) set_list (fun v => assign_sub h.1.1 v)) fun v σ H Q ⟨d, ρ, S, F, ι, er, rl, rv, p⟩ => ?_
    simp only [evTg] at p
    refine ⟨ρ, S, F, ι, er, rl, p.bind.imp fun dx S1 F1 ι1 H1 e1 l1 p1 x rx => ?_⟩
    refine ⟨ρ, S1, F1, ι1, er.ext e1, l1, p1.bind.imp fun dy S2 F2 ι2 H2 e2 l2 p2 y ry => ?_⟩
    split at p2 <;> try (exact (show False from p2).elim)
    rename_i k0 i0
    split at p2 <;> try (exact (show False from p2).elim)
    rename_i xs hxs
    split at p2 <;> try (exact (show False from p2).elim)
    rename_i j0 hj0
    obtain ⟨a0, rfl, hk⟩ := e2.rep rx
    obtain ⟨vs, z1, z2⟩ := l2.loc hk hxs
    obtain ⟨ex, l3⟩ := l2.wr hk (RepL.set (e2.rep (e1.rep rv)) j0 z2)
    exact ⟨a0, vs, i0, j0, rfl, ry, z1, by rw [← z2.length]; exact hj0, p2 _ _ _ ex l3 σ (((er.ext e1).ext e2).ext ex) rfl fun _ _ => rfl⟩
theorem sTgs (A : Amb G M P w base k O) : ∀ (c : CTgs) (e : List Expr) (j : Nat) (osc : Scope) (sc : Sc) (X : Cx) (W : WX), k ≤ j → Hl G k j sc X → Good G P w base j M sc.s X → Takes X W → (∀ x, osc.names.lookup x = some .local ∨ osc.names.lookup x = some .cell → X.fn x = true ∨ X.env.scope.names.lookup x = some .local) → mTgs M osc sc c e = true →
    PGs X e (tGs G W (tgNs c) fun d ρ S => evTgs O c d ρ S)
  | .nil, e, j, osc, sc, X, W, hj, hl, g, tk, hf, h => by
    simp only [mTgs] at h
    split at h <;> try (cases h; done)
    refine pgs_weak pgs_nil fun vs σ H Q ⟨ds, ρ, S, F, ι, er, rl, rv, p⟩ => ?_
    cases ds with
    | nil =>
      simp only [evTgs] at p
      exact ⟨rv, p F ι H Ext.refl rl σ er rfl fun _ _ => rfl⟩
    | cons d ds => simp only [evTgs] at p; exact (show False from p).elim
  | .cons t r, e, j, osc, sc, X, W, hj, hl, g, tk, hf, h => by
    simp only [mTgs] at h
    split at h <;> try (cases h; done)
    rename_i e0 es'
    rw [Bool.and_eq_true] at h
    have asg : (assignEach (e0 :: es') X.env).map (·.2) = assign e0 X.env :: (assignEach es' X.env).map (·.2) := by rw [mTg_each M osc sc t e0 h.1 es' X.env]; rfl
    refine pgs_weak (pgs_cons (sTg A t e0 j osc sc X W hj hl g tk hf h.1) (sTgs A r es' j osc sc X W hj hl g tk hf h.2) asg) fun vs σ H Q ⟨ds, ρ, S, F, ι, er, rl, rv, p⟩ => ?_
    cases ds with
    | nil => simp only [evTgs] at p; exact (show False from p).elim
    | cons d ds =>
      simp only [evTgs] at p
      obtain ⟨w, ws, rfl, rw', rs⟩ := rv
      refine ⟨w, ws, rfl, d, ρ, S, F, ι, er, rl, rw', p.bind.imp fun ρ1 S1 F1 ι1 H1 e1 l1 p1 σ1 er1 hl1 hs1 => ?_⟩
      refine ⟨ds, ρ1, S1, F1, ι1, er1, l1, e1.repL rs, (noX_any p1).imp fun ρ2 S2 F2 ι2 H2 e2 l2 p2 σ2 er2 hl2 hs2 => ?_⟩
      refine p2 σ2 er2 (hl2.trans hl1) fun i hi => ?_
      simp only [tgNs, List.mem_append, not_or] at hi
      rw [hs2 i hi.2, hs1 i hi.1]
end
end Gx
set_option Elab.async false
set_option linter.all false
set_option maxRecDepth 100000
set_option maxHeartbeats 8000000
/-! Gx: statements: matched, and sound. -/
namespace Gx
open PySem PySem.Spec PyProof.Rows L2
def notComp : Expr → Bool
  | .ListComp .. => false | .SetComp .. => false | .DictComp .. => false
  | _ => true
def isNm : Expr → Bool
  | .Name .. => true
  | _ => false
def noSt : Expr → Bool
  | .Starred .. => false
  | _ => true
/-- an assignment whose stores come in their order -/
def locNm (sc : Scope) : Expr → Bool
  | .Name x _ => decide (sc.names.lookup x = some .local)
  | _ => false
def noSw (sc : Scope) : Expr → Expr → Bool
  | .Tuple ts _ _, .Tuple vs _ _ => !(ts.length == 2 || ts.length == 3) || vs.all (foldedForSure 8) || ts.any fun t => !locNm sc t
  | .List .., _ => false
  | _, _ => true
def locB (sc : Scope) (x : Str) : Bool := decide (sc.names.lookup x = some .local)
def valsOk (vs : List Expr) : Bool := vs.all noSt && !vs.all (foldedForSure 8) && !vs.all (constantsAlone 8)
def parOk (M : Mx) (sc : Sc) (is : List Nat) (ts vs : List Expr) : Bool := match is, ts, vs with
  | [i, j], [.Name x p, .Name y q], [a, b] => decide (M.N[i]? = some x) && decide (M.N[j]? = some y) && decide (i ≠ j) && decide (x ≠ y) && locB sc.s x && locB sc.s y && decide (q.line = p.line) && valsOk [a, b]
  | [i, j, l], [.Name x p, .Name y q, .Name z r], [a, b, c] => decide (M.N[i]? = some x) && decide (M.N[j]? = some y) && decide (M.N[l]? = some z) && decide (i ≠ j) && decide (i ≠ l) && decide (j ≠ l) && decide (x ≠ y) && decide (x ≠ z) && decide (y ≠ z)
      && locB sc.s x && locB sc.s y && locB sc.s z && decide (q.line = p.line) && decide (r.line = p.line) && valsOk [a, b, c]
  | _, _, _ => false
def lcSw (py : Pos) (y : Str) : Expr → Bool
  | .ListComp _ _ scope pos => (py.line == pos.line) && !(scope.names.any fun (n, k) => n == y && (k == .local || k == .cell))
  | _ => false
def isC : CF → Bool
  | .comp .. => true
  | _ => false
def mHE : HE → Expr → Bool
  | .cst c, e => match e with
    | .Constant k _ _ => match c, k with
      | .non, .none => true
      | .bl a, .bool b => a == b
      | .int a, .int b => decide (a = b)
      | .str a, .str b => decide (a = b)
      | _, _ => false
    | _ => false
  | .tup es, e => match e with
    | .Tuple xs _ _ => decide (es.length ≤ sz) && mHEs es xs
    | _ => false
  | .fld, _ => false
where mHEs : List HE → List Expr → Bool
  | [], [] => true
  | h :: hs, e :: es => mHE h e && mHEs hs es
  | _, _ => false
def mHd (exs : List Str) (sc : Sc) (h : Hd) : ExceptHandler → Bool
  | .ExceptHandler (some (.Name x _)) none [.Return (some e) _] _ => decide (x = h.cls) && exs.contains x && isGl sc.s x && nd x && mHE h.ret e
  | _ => false
def mHds (exs : List Str) (sc : Sc) : List Hd → List ExceptHandler → Bool
  | [], [] => true
  | h :: hs, e :: es => mHd exs sc h e && mHds exs sc hs es
  | _, _ => false
def nonNil {α : Type} : List α → Bool
  | [] => false
  | _ => true
mutual
def mS (M : Mx) (exs : List Str) (sc : Sc) : CS → Stmt → Bool
  | .asg tg e, st => match st with
    | .Assign [t] e' _ => noSw sc.s t e' && notComp e' && mTg M sc.s sc tg t && mE M sc e e'
    | _ => false
  | .par is es, st => match st with
    | .Assign [.Tuple ts _ _] (.Tuple vs _ _) _ => parOk M sc is ts vs && mEs M sc es vs
    | _ => false
  | .asgc m i f, st => match st with
    | .Assign [.Name y py] e' _ => decide (M.N[i]? = some y) && locB sc.s y && isC f && lcSw py y e' && mF M sc f e'
    | _ => false
  | .exp e, st => match st with
    | .Expr e' _ => notComp e' && mE M sc e e'
    | _ => false
  | .ret e, st => match st with
    | .Return (some e') _ => mE M sc e e'
    | _ => false
  | .retN, st => match st with
    | .Return none _ => true
    | _ => false
  | .ite t a b, st => match st with
    | .If t' a' b' _ => mT M sc t t' && mSs M exs sc a a' && mSs M exs sc b b'
    | _ => false
  | .forS tg it b, st => match st with
    | .For tg' it' b' [] _ => mI M sc tg' it it' && mTg M sc.s sc tg tg' && mSs M exs sc b b'
    | _ => false
  | .whl t b, st => match st with
    | .While t' b' [] _ => mT M sc t t' && mSs M exs sc b b'
    | _ => false
  | .brk, st => match st with
    | .Break _ => true
    | _ => false
  | .cnt, st => match st with
    | .Continue _ => true
    | _ => false
  | .pass, st => match st with
    | .Pass _ => true
    | .Expr (.Constant (.str _) _ _) _ => true
    | _ => false
  | .rse c, st => match st with
    | .Raise (some (.Call (.Name x _) [.Constant (.str _) _ _] [] _)) none _ => decide (x = c) && exs.contains x && isGl sc.s x && nd x
    | _ => false
  | .tryE r e hs, st => match st with
    | .Try [.Return (some e') _] hs' [] [] _ => r && mE M sc e e' && nonNil hs && mHds exs sc hs hs'
    | .Try [.Expr e' _] hs' [] [] _ => !r && notComp e' && mE M sc e e' && nonNil hs && mHds exs sc hs hs'
    | _ => false
  | .app i e, st => match st with
    | .Expr (.Call (.Attribute (.Name x p) nm apos) [e'] [] cpos) _ => decide (nm = "append") && decide (M.N[i]? = some x) && vis sc.s x && nd x && (apos.endLine == cpos.line) && mE M sc e e'
    | _ => false
  | .ext i e, st => match st with
    | .Expr (.Call (.Attribute (.Name x p) nm apos) [e'] [] cpos) _ => decide (nm = "extend") && decide (M.N[i]? = some x) && vis sc.s x && nd x && (apos.endLine == cpos.line) && mE M sc e e'
    | _ => false
def mSs (M : Mx) (exs : List Str) (sc : Sc) : CSs → List Stmt → Bool
  | .nil, sts => match sts with
    | [] => true
    | _ => false
  | .cons s r, sts => match sts with
    | st :: rest => mS M exs sc s st && mSs M exs sc r rest
    | _ => false
end
/-- what is known of the exceptions -/
structure AmbX (G : Gl) (sub : Str → Str → Option Bool) (exs : List Str) : Prop where
  rse : ∀ x, exs.contains x = true → ∃ C bmB B newId initId, ExcBaseFacts B newId initId bmB ∧ PySem.W.excIn G.K C bmB newId = true ∧ G.mg x = some (.ref C) ∧ PySem.W.keepIn G.K (.ref C) = true ∧ PySem.W.subIn G.K (.ref C) (.type "BaseException") = some true ∧ PySem.W.typeIn G.K (.ref C) = some (.type "type")
  sub : ∀ c k b, sub c k = some b → ∀ C C', G.mg c = some (.ref C) → G.mg k = some (.ref C') → PySem.W.exmOne G.K (.ref C) (.ref C') = some b
structure GoodS (X : Cx) : Prop where
  own : PassesOwn (model X.prog X.w) X.A X.env X.xe
  stk : X.stack = X.env :: X.outer
  fr : X.env.frame = some X.env.locals
  kd : X.env.scope.kind = .function
  fn : ∀ x, X.env.scope.names.lookup x = some .local ∨ X.env.scope.names.lookup x = some .cell → X.fn x = true ∨ X.env.scope.names.lookup x = some .local
/-! ### readings of statements -/
def OutQ (G : Gl) (D : Ends) : Out → Sto → Hp → List Addr → Hp → Prop := fun o _ F' ι' H' => match o with
  | .nx ρ => ∀ σ', ER G F' ι' ρ σ' → D.nx σ' H'
  | .bk ρ => ∀ σ', ER G F' ι' ρ σ' → D.bk σ' H'
  | .ct ρ => ∀ σ', ER G F' ι' ρ σ' → D.ct σ' H'
  | .rt d => ∀ v, Rep G F' ι' d v → D.rt v H'
abbrev Wk (E : XK) : WX := fun cls d _ H => E cls d H
def tS (G : Gl) (E : XK) (f : Env → Sto → R Out) : TS := fun D σ H => ∃ ρ S F ι, ER G F ι ρ σ ∧ RL G S F ι H ∧ Pst G (Wk E) σ F ι H (f ρ S) (OutQ G D)
section
variable {G : Gl} {E : XK} {σ σ' : L2.St} {S S' : Sto} {F F' : Hp} {ι ι' : List Addr} {H H' : Hp} {α β : Type} {ρ : Env}
theorem Pst.st {r : R α} {Q : α → Sto → Hp → List Addr → Hp → Prop} (h : Pst G (Wk E) σ F ι H r Q) : Pst G (Wk E) σ' F ι H r Q := by
  cases r with
  | ok a S' => exact h
  | exc c p S' => exact h
  | stuck => exact h
theorem Pst.shift {W : WX} {r : R α} {Q : α → Sto → Hp → List Addr → Hp → Prop} (h : Pst G W σ F ι H r Q) (e : Ext F ι H F' ι' H') (l : RL G S F' ι' H') : Pst G W σ F' ι' H' r Q := by
  cases r with
  | ok a S' => exact fun F2 ι2 H2 e2 l2 => h F2 ι2 H2 (e.trans l e2) l2
  | exc c p S' => exact fun cls dd F2 ι2 H2 e2 l2 => h cls dd F2 ι2 H2 (e.trans l e2) l2
  | stuck => exact h
theorem fm_lt {α β : Type} (f : α → Option β) : ∀ (l : List α), (∃ a ∈ l, f a = none) → (l.filterMap f).length ≠ l.length
  | [], h => by obtain ⟨a, h, _⟩ := h; cases h
  | x :: r, h => by
    have le := List.length_filterMap_le f r
    rw [List.filterMap_cons]
    cases q : f x with
    | none => simp only [List.length_cons]; omega
    | some b =>
      obtain ⟨a, ha, e⟩ := h
      rcases List.mem_cons.mp ha with z | z
      · rw [z, q] at e; cases e
      · have := fm_lt f r ⟨a, z, e⟩
        simp only [List.length_cons]; omega
theorem sw_noneT {ts vs : List Expr} {kt : Nat} {pt : Pos} {kv : Nat} {pv : Pos} {env : PySem.Env} {sc : Scope} (hsc : env.scope = sc) (h : noSw sc (.Tuple ts kt pt) (.Tuple vs kv pv) = true) : swappedStores [.Tuple ts kt pt] (.Tuple vs kv pv) env = pure none := by
  simp only [noSw, Bool.or_eq_true] at h
  unfold swappedStores
  dsimp only
  split
  · rfl
  rename_i h1
  split
  · rfl
  split
  · rfl
  rename_i h3
  split
  · rfl
  rename_i h4
  exfalso
  rcases h with (h | h) | h
  · exact h1 (by rw [h]; rfl)
  · exact h4 h
  · refine h3 ?_
    obtain ⟨t, ht, e⟩ := List.any_eq_true.mp h
    rw [Bool.or_eq_true]
    refine .inl ?_
    rw [bne_iff_ne]
    refine fm_lt _ ts ⟨t, ht, ?_⟩
    cases t <;> try rfl
    rename_i x px
    have hx : ¬ env.kindOf x = some .local := fun z => by
      have z' : env.scope.names.lookup x = some .local := z
      rw [hsc] at z'
      rw [show locNm sc (.Name x px) = true from decide_eq_true z'] at e
      cases e
    dsimp only
    rw [if_neg]
    intro q
    rw [Bool.and_eq_true] at q
    exact hx (eq_of_beq q.1)
theorem st_no {vs : List Expr} (h : vs.all noSt = true) (f : Expr → Bool) (hf : ∀ e, noSt e = true → f e = false) : ¬ (vs.any f = true) := fun k => by
  obtain ⟨e, he, q⟩ := List.any_eq_true.mp k
  rw [hf e (List.all_eq_true.mp h e he)] at q
  cases q
theorem vals_of {vs : List Expr} (hv : valsOk vs = true) : vs.all noSt = true ∧ vs.all (foldedForSure 8) = false ∧ vs.all (constantsAlone 8) = false := by
  unfold valsOk at hv
  cases h2 : vs.all (foldedForSure 8) <;> cases h3 : vs.all (constantsAlone 8) <;> rw [h2, h3] at hv <;> cases h1 : vs.all noSt <;> rw [h1] at hv <;> first | exact ⟨rfl, rfl, rfl⟩ | cases hv
theorem sw_two {x y : Str} {a b : Expr} {px py pt : Pos} {kt k2 pt2} {env : PySem.Env} (hk : env.scope.kind = .function) (hx : env.scope.names.lookup x = some .local) (hy : env.scope.names.lookup y = some .local) (ne : x ≠ y) (hl : py.line = px.line) (hv : valsOk [a, b] = true) :
    swappedStores [.Tuple [.Name x px, .Name y py] kt pt] (.Tuple [a, b] k2 pt2) env = pure (some [x, y]) := by
  have kx : env.kindOf x = some .local := hx
  have ky : env.kindOf y = some .local := hy
  have hb : env.blockKind = .function := by unfold Env.blockKind; rw [hk]; rfl
  obtain ⟨v1, v2, v3⟩ := vals_of hv
  unfold swappedStores
  dsimp only
  split
  · rename_i h; rw [hb] at h; exact absurd h Bool.false_ne_true
  split
  · rename_i h; exact absurd h (st_no v1 _ fun e h => by cases e <;> first | rfl | cases h)
  have e1 : (Expr.Name x px).pos = px := rfl
  simp only [List.head?_cons, Option.map_some, Option.getD_some, e1, kx, ky, hl, List.filterMap_cons, List.filterMap_nil, beq_self_eq_true, Bool.and_self, if_true]
  split
  · rename_i h; simp [List.eraseDups_cons, ne, Ne.symm ne] at h
  rw [v2, v3]
  rfl
theorem sw_three {x y z : Str} {a b c : Expr} {px py pz pt : Pos} {kt k2 pt2} {env : PySem.Env} (hk : env.scope.kind = .function) (hx : env.scope.names.lookup x = some .local) (hy : env.scope.names.lookup y = some .local) (hz : env.scope.names.lookup z = some .local) (ne : x ≠ y) (ne2 : x ≠ z) (ne3 : y ≠ z) (hl : py.line = px.line) (hl2 : pz.line = px.line) (hv : valsOk [a, b, c] = true) :
    swappedStores [.Tuple [.Name x px, .Name y py, .Name z pz] kt pt] (.Tuple [a, b, c] k2 pt2) env = pure (some [x, y, z]) := by
  have kx : env.kindOf x = some .local := hx
  have ky : env.kindOf y = some .local := hy
  have kz : env.kindOf z = some .local := hz
  have hb : env.blockKind = .function := by unfold Env.blockKind; rw [hk]; rfl
  obtain ⟨v1, v2, v3⟩ := vals_of hv
  unfold swappedStores
  dsimp only
  split
  · rename_i h; rw [hb] at h; exact absurd h Bool.false_ne_true
  split
  · rename_i h; exact absurd h (st_no v1 _ fun e h => by cases e <;> first | rfl | cases h)
  have e1 : (Expr.Name x px).pos = px := rfl
  simp only [List.head?_cons, Option.map_some, Option.getD_some, e1, kx, ky, kz, hl, hl2, List.filterMap_cons, List.filterMap_nil, beq_self_eq_true, Bool.and_self, if_true]
  split
  · rename_i h; simp [List.eraseDups_cons, ne, Ne.symm ne, ne2, Ne.symm ne2, ne3, Ne.symm ne3] at h
  rw [v2, v3]
  rfl

theorem sw_none {t e : Expr} {env : PySem.Env} {sc : Scope} (hsc : env.scope = sc) (h : noSw sc t e = true) : swappedStores [t] e env = pure none := by
  cases t <;> cases e <;> first
    | exact sw_noneT hsc h
    | rfl
    | (exact absurd h Bool.false_ne_true)
theorem swW_none {e : Expr} {t : Option Expr} {l : Nat} {env : PySem.Env} (h : notComp e = true) : swapsWith e t l env = pure false := by
  cases e <;> first | rfl | (exact absurd h Bool.false_ne_true)
theorem setAll2 {i j : Nat} {ds : List D} {ρ1 : Env} (h : setAll ρ [i, j] ds = some ρ1) : ∃ d e, ds = [d, e] ∧ ρ1 = (ρ.set i (some d)).set j (some e) := by
  cases ds with
  | nil => simp [setAll] at h
  | cons d r =>
    cases r with
    | nil =>
      simp only [setAll] at h
      split at h <;> cases h
    | cons e r =>
      simp only [setAll] at h
      split at h <;> try (cases h; done)
      split at h <;> try (cases h; done)
      cases r with
      | nil => simp only [setAll] at h; cases h; exact ⟨d, e, rfl, rfl⟩
      | cons f r => simp only [setAll] at h; cases h
theorem setAll3 {i j l : Nat} {ds : List D} {ρ1 : Env} (h : setAll ρ [i, j, l] ds = some ρ1) : ∃ d e f, ds = [d, e, f] ∧ ρ1 = ((ρ.set i (some d)).set j (some e)).set l (some f) := by
  cases ds with
  | nil => simp [setAll] at h
  | cons d r =>
    cases r with
    | nil =>
      simp only [setAll] at h
      split at h <;> cases h
    | cons e r =>
      cases r with
      | nil =>
        simp only [setAll] at h
        split at h <;> try (cases h; done)
        split at h <;> cases h
      | cons f r =>
        simp only [setAll] at h
        split at h <;> try (cases h; done)
        split at h <;> try (cases h; done)
        split at h <;> try (cases h; done)
        cases r with
        | nil => simp only [setAll] at h; cases h; exact ⟨d, e, f, rfl, rfl⟩
        | cons g r => simp only [setAll] at h; cases h
end
/-! ### what a clause hands back -/
def tH (G : Gl) (p : Option D) (h : HE) : TE := fun σ H Q => ∃ S F ι d, RL G S F ι H ∧ evH p h = some d ∧ ∀ F' H', Ext F ι H F' ι H' → RL G S F' ι H' → ∀ v, Rep G F' ι d v → Q v H'
def tHs (G : Gl) (p : Option D) (hs : List HE) : TA := fun σ H Q => ∃ S F ι ds, RL G S F ι H ∧ evH.evHL p hs = some ds ∧ ∀ F' H', Ext F ι H F' ι H' → RL G S F' ι H' → ∀ vs, RepL G F' ι ds vs → Q vs H'
theorem mHE_ok {h : HE} {e : Expr} (k : mHE h e = true) : okX e = true := by
  cases h <;> simp only [mHE] at k <;> first | (split at k <;> first | rfl | cases k) | cases k
theorem evHL_len {p : Option D} : ∀ {hs : List HE} {ds : List D}, evH.evHL p hs = some ds → ds.length = hs.length
  | [], ds, e => by simp only [evH.evHL] at e; cases e; rfl
  | h :: hs, ds, e => by
    simp only [evH.evHL] at e
    split at e <;> try (cases e; done)
    rename_i d1 ds1 e1 e2
    cases e
    rw [List.length_cons, List.length_cons, evHL_len e2]
mutual
theorem pe_he {G : Gl} {Y : Cx} {p : Option D} : ∀ (h : HE) (e : Expr), mHE h e = true → PE Y e (tH G p h)
  | .cst c, e, k => by
    simp only [mHE] at k
    split at k <;> try (cases k; done)
    rename_i kk p1 p2
    have fin : ∀ {v : V}, PE Y (.Constant kk p1 p2) (tC v) → (∀ F ι, Rep G F ι c.d v) → PE Y (.Constant kk p1 p2) (tH G p (.cst c)) := fun hp hv =>
      pe_weak hp fun σ H Q ⟨S, F, ι, d, rl, e, q⟩ => by
        simp only [evH] at e
        cases e
        exact q F H Ext.refl rl _ (hv F ι)
    split at k
    · exact fin pe_non fun _ _ => rfl
    · have := eq_of_beq k; subst this; exact fin pe_bl fun _ _ => rfl
    · have := of_decide_eq_true k; subst this; exact fin pe_int fun _ _ => rfl
    · have := of_decide_eq_true k; subst this; exact fin pe_str fun _ _ => rfl
    · cases k
  | .tup es, e, k => by
    simp only [mHE] at k
    split at k <;> try (cases k; done)
    rename_i xs k' p'
    rw [Bool.and_eq_true, decide_eq_true_eq] at k
    refine pe_weak (pe_tup (pe_hes (G := G) (p := p) es xs k.2)) fun σ H Q ⟨S, F, ι, d, rl, e, q⟩ => ?_
    simp only [evH, Option.map_eq_some_iff] at e
    obtain ⟨ds, e, rfl⟩ := e
    refine ⟨S, F, ι, ds, rl, e, fun F1 H1 ex1 rl1 vs rv => ⟨rep_len rv (by rw [evHL_len e]; exact k.1), fun pp hp => ?_⟩⟩
    obtain ⟨ex, l2⟩ := rl1.frz hp (.tup vs) (fun _ z => by cases z)
    exact q _ _ (ex1.trans rl1 ex) l2 _ ⟨pp, vs, rfl, SqT.of upd_same, ex.repL rv⟩
  | .fld, e, k => by cases k
theorem pe_hes {G : Gl} {Y : Cx} {p : Option D} : ∀ (hs : List HE) (es : List Expr), mHE.mHEs hs es = true → PA Y es (tHs G p hs)
  | [], es, k => by
    cases es with
    | nil =>
      refine pa_weak pa_nil fun σ H Q ⟨S, F, ι, d, rl, e, q⟩ => ?_
      simp only [evH.evHL] at e
      cases e
      exact q F H Ext.refl rl _ rfl
    | cons x r => cases k
  | h :: hs, es, k => by
    cases es with
    | nil => cases k
    | cons x r =>
      simp only [mHE.mHEs, Bool.and_eq_true] at k
      refine pa_weak (pa_cons (pe_he (G := G) (p := p) h x k.1) (pe_hes (G := G) (p := p) hs r k.2) (star_of (mHE_ok k.1))) fun σ H Q ⟨S, F, ι, d, rl, e, q⟩ => ?_
      simp only [evH.evHL] at e
      split at e <;> try (cases e; done)
      rename_i d1 ds1 e1 e2
      cases e
      refine ⟨S, F, ι, d1, rl, e1, fun F1 H1 ex1 rl1 v rv => ⟨S, F1, ι, ds1, rl1, e2, fun F2 H2 ex2 rl2 vs rvs => ?_⟩⟩
      exact q F2 H2 (ex1.trans rl1 ex2) rl2 _ ⟨v, vs, rfl, ex2.rep rv, rvs⟩
end

/-! ### except clauses -/
def clsV (G : Gl) (x : Str) : Value := (G.mg x).getD .none
def tsH (G : Gl) (h : Hd) : Addr → Value → Option Addr → TS := fun _ _ _ D σ H => ∃ p, tRet (tH G p h.ret) D σ H
def lOf (G : Gl) (hs : List Hd) : List (Value × (Addr → Value → Option Addr → TS)) := hs.map fun h => (clsV G h.cls, tsH G h)
variable {G : Gl} {M : Mx} {P : Program} {w : World} {base : Heap} {k : Nat} {O : Orc} {sub : Str → Str → Option Bool} {exs : List Str}
theorem AmbX.cls (A : AmbX G sub exs) {x : Str} (h : exs.contains x = true) : ∃ C, G.mg x = some (.ref C) := by
  obtain ⟨C, _, _, _, _, _, _, m, _⟩ := A.rse x h
  exact ⟨C, m⟩
theorem hds_ok (A : AmbX G sub exs) {j : Nat} {sc : Sc} {X : Cx} (g : Good G P w base j M sc.s X) : ∀ (hs : List Hd) (es : List ExceptHandler), mHds exs sc hs es = true → HdsOk X es (lOf G hs)
  | [], [], _ => .nil
  | [], _ :: _, h => by cases h
  | _ :: _, [], h => by cases h
  | h :: hs, e :: es, k => by
    simp only [mHds, Bool.and_eq_true] at k
    have k1 := k.1
    unfold mHd at k1
    split at k1 <;> try (cases k1; done)
    rename_i x np e' rp pos'
    simp only [Bool.and_eq_true, decide_eq_true_eq] at k1
    obtain ⟨⟨⟨⟨rfl, h1⟩, h2⟩, h3⟩, h4⟩ := k1
    obtain ⟨n1, n2, n3⟩ := nd_of h3
    obtain ⟨C, m⟩ := A.cls h1
    have hc : Names X h.cls (clsV G h.cls) := ⟨g.gl h2, n1, .inl (by rw [g.pm, clsV, m]; rfl)⟩
    refine .cons hc (fun a oe cls d pn hz hd => pss_one ⟨fun pins s σ H D I ⟨p, q⟩ => (ps_ret (pe_he h.ret e' h4)).run pins s σ H D I q⟩) (hds_ok A g hs es k.2)
theorem many_of (A : AmbX G sub exs) {sc : Sc} {E : XK} {En : Ends} {σ : L2.St} {F : Hp} {ι : List Addr} {H : Hp} {c : Str} {p : Option D} {S1 : Sto} {F1 : Hp} {ι1 : List Addr} {H1 : Hp} {cls : Value} {dd : Option Addr} (ex : Ext F ι H F1 ι1 H1) (rl : RL G S1 F1 ι1 H1) (er : ExR G H1 c p cls dd) :
    ∀ (hs : List Hd) (es : List ExceptHandler), mHds exs sc hs es = true → Pst G (Wk E) σ F ι H (catch_ sub c p S1 hs) (OutQ G En) → wMany G.K (Wk E) En (lOf G hs) cls dd σ H1
  | [], [], _, q => q cls dd F1 ι1 H1 ex rl er
  | [], _ :: _, h, _ => by cases h
  | _ :: _, [], h, _ => by cases h
  | h :: hs, e :: es, k, q => by
    simp only [mHds, Bool.and_eq_true] at k
    have k1 := k.1
    unfold mHd at k1
    split at k1 <;> try (cases k1; done)
    simp only [Bool.and_eq_true, decide_eq_true_eq] at k1
    obtain ⟨⟨⟨⟨rfl, h1⟩, h2⟩, h3⟩, h4⟩ := k1
    obtain ⟨C', m⟩ := A.cls h1
    obtain ⟨⟨C, mc, rfl⟩, _⟩ := id er
    simp only [catch_] at q
    cases hb : sub c h.cls with
    | none => rw [hb] at q; exact (show False from q).elim
    | some b =>
      rw [hb] at q
      have ea := A.sub c h.cls b hb C C' mc m
      refine ⟨b, by show PySem.W.exmOne G.K (.ref C) (clsV G h.cls) = some b; rw [clsV, m]; exact ea, fun eb a ha => ?_, fun eb => ?_⟩
      · subst eb
        cases e1 : evH p h.ret with
        | none => rw [e1] at q; exact (show False from q).elim
        | some d =>
          rw [e1] at q
          refine ⟨p, S1, F1, ι1, d, rl, e1, fun F2 H2 ex2 rl2 v rv => ?_⟩
          exact q F2 ι1 H2 (ex.trans rl ex2) rl2 v rv
      · subst eb
        exact many_of A ex rl er hs es k.2 q

/-! ### loops -/
section
variable {E : XK} {σ : L2.St} {F : Hp} {ι : List Addr} {H : Hp} {D' : Ends}
/-- one turn's end -/
theorem turn_of {En : Ends} {N : L2.St → Hp → Prop} {k : Env → Sto → R Out} {o : Out} {S1 : Sto} {F1 : Hp} {ι1 : List Addr} {H1 : Hp} (l1 : RL G S1 F1 ι1 H1) (q : Pst G (Wk E) σ F1 ι1 H1 (turn o S1 k) (OutQ G En))
    (hN : ∀ ρ1 σ1, ER G F1 ι1 ρ1 σ1 → Pst G (Wk E) σ F1 ι1 H1 (k ρ1 S1) (OutQ G En) → N σ1 H1) : OutQ G { En with nx := N, ct := N, bk := En.nx } o S1 F1 ι1 H1 := by
  cases o with
  | nx ρ1 => exact fun σ' er => hN ρ1 σ' er q
  | ct ρ1 => exact fun σ' er => hN ρ1 σ' er q
  | bk ρ1 => exact fun σ' er => q F1 ι1 H1 Ext.refl l1 σ' er
  | rt d => exact fun v rv => q F1 ι1 H1 Ext.refl l1 v rv
theorem while_of {t : Env → Sto → R Bool} {f : Env → Sto → R Out} {n : Nat} {σ : L2.St} {H : Hp} {En : Ends} (h : tS G E (whileL t f n) En σ H) : tWhile (tT G (Wk E) t) (tS G E f) En σ H := by
  refine ⟨fun m => tS G E (whileL t f m) En, ⟨n, h⟩, fun m σ H h => ?_⟩
  obtain ⟨ρ, S, F, ι, er, rl, p⟩ := h
  cases m with
  | zero => exact (show False from p).elim
  | succ m =>
    refine ⟨ρ, S, F, ι, er, rl, p.bind.imp fun b S1 F1 ι1 H1 e1 l1 p1 => ?_⟩
    cases b with
    | false => rw [if_neg Bool.false_ne_true] at p1 ⊢; exact p1 F1 ι1 H1 Ext.refl l1 σ (er.ext e1)
    | true =>
      rw [if_pos rfl] at p1 ⊢
      refine ⟨tS G E (whileL t f m) En, fun σ' H' n => ⟨m, Nat.lt_succ_self _, n⟩, ρ, S1, F1, ι1, er.ext e1, l1, p1.bind.imp fun o S2 F2 ι2 H2 e2 l2 p2 => ?_⟩
      exact turn_of l2 p2 fun ρ1 σ1 er1 q => ⟨ρ1, S2, F2, ι2, er1, l2, q.st⟩
theorem for_items {tg : D → Env → Sto → R Env} {ns : List Nat} {b : Env → Sto → R Out} {l : List D} {J : It} {En : Ends} {ρ : Env} {S1 : Sto} {F1 : Hp} {ι1 : List Addr} {H1 : Hp} (er : ER G F1 ι1 ρ σ) (l1 : RL G S1 F1 ι1 H1) (hJ : ItOk G J l F1 ι1 H1)
    (p : Pst G (Wk E) σ F1 ι1 H1 (forL (fun d ρ1 S2 => (tg d ρ1 S2).bind fun ρ2 S3 => b ρ2 S3) l ρ S1) (OutQ G En)) :
    ∃ W : Nat → Nat → L2.St → Hp → Prop, (∃ m, W 0 m σ H1) ∧ ∀ i m σ H, W i m σ H →
  (J.stop i H ∧ En.nx σ H) ∨ (J.go i H ∧ ∃ N : L2.St → Hp → Prop, (∀ σ' H', N σ' H' → ∃ m', m' < m ∧ W (i + 1) m' σ' H') ∧ ∀ x H', J.yld i H x H' → tG G (Wk E) ns tg x σ H' fun σ2 H2 => tS G E b { En with nx := N, ct := N, bk := En.nx } σ2 H2) := by
  refine ⟨fun i m σ H => m = l.length - i ∧ i ≤ l.length ∧ ∃ ρ S F ι, Ext F1 ι1 H1 F ι H ∧ ER G F ι ρ σ ∧ RL G S F ι H ∧ Pst G (Wk E) σ F ι H (forL (fun d ρ1 S2 => (tg d ρ1 S2).bind fun ρ2 S3 => b ρ2 S3) (l.drop i) ρ S) (OutQ G En), ⟨l.length, by simp, Nat.zero_le _, ρ, S1, F1, ι1, Ext.refl, er, l1, p⟩, ?_⟩
  rintro i m σ H ⟨rfl, hi, ρ, S, F, ι, ex, er, rl, p⟩
  have ok := hJ i S F ι H ex rl
  by_cases hlt : i < l.length
  · have okd := ok.2 l[i] (List.getElem?_eq_getElem hlt)
    refine .inr ⟨okd.1, fun σ' H' => (i + 1 ≤ l.length ∧ ∃ ρ S F ι, Ext F1 ι1 H1 F ι H' ∧ ER G F ι ρ σ' ∧ RL G S F ι H' ∧ Pst G (Wk E) σ' F ι H' (forL (fun d ρ1 S2 => (tg d ρ1 S2).bind fun ρ2 S3 => b ρ2 S3) (l.drop (i + 1)) ρ S) (OutQ G En)), fun σ' H' n => ⟨l.length - (i + 1), by omega, rfl, n⟩, fun x H' y => ?_⟩
    obtain ⟨F', ex', rl', rx⟩ := okd.2 x H' y
    rw [List.drop_eq_getElem_cons hlt] at p
    have p := p.shift ex' rl'
    refine ⟨l[i], ρ, S, F', ι, er.ext ex', rl', rx, p.bind.bind.imp fun ρ2 S2 F2 ι2 H2 e2 l2 p2 σ2 er2 hl2 hs2 => ?_⟩
    refine ⟨ρ2, S2, F2, ι2, er2, l2, p2.st.imp fun o S3 F3 ι3 H3 e3 l3 p3 => ?_⟩
    exact turn_of l3 p3 fun ρ3 σ3 er3 q => ⟨hlt, ρ3, S3, F3, ι3, (ex.trans rl (ex'.trans rl' (e2.trans l2 e3))), er3, l3, q.st⟩
  · have e : i = l.length := by omega
    refine .inl ⟨ok.1 (by omega), ?_⟩
    rw [e, List.drop_length] at p
    exact p F ι H Ext.refl rl σ er
theorem for_at {tg : D → Env → Sto → R Env} {ns : List Nat} {b : Env → Sto → R Out} {k0 : Nat} {a : Addr} {En : Ends} {ρ : Env} {S1 : Sto} {F1 : Hp} {ι1 : List Addr} {H1 : Hp} {n0 : Nat} (er : ER G F1 ι1 ρ σ) (l1 : RL G S1 F1 ι1 H1) (hk : ι1[k0]? = some a)
    (p : Pst G (Wk E) σ F1 ι1 H1 (forAt (fun d ρ1 S2 => (tg d ρ1 S2).bind fun ρ2 S3 => b ρ2 S3) k0 n0 0 ρ S1) (OutQ G En)) :
    ∃ W : Nat → Nat → L2.St → Hp → Prop, (∃ m, W 0 m σ H1) ∧ ∀ i m σ H, W i m σ H →
  ((Itl G.K a).stop i H ∧ En.nx σ H) ∨ ((Itl G.K a).go i H ∧ ∃ N : L2.St → Hp → Prop, (∀ σ' H', N σ' H' → ∃ m', m' < m ∧ W (i + 1) m' σ' H') ∧ ∀ x H', (Itl G.K a).yld i H x H' → tG G (Wk E) ns tg x σ H' fun σ2 H2 => tS G E b { En with nx := N, ct := N, bk := En.nx } σ2 H2) := by
  refine ⟨fun i m σ H => ∃ ρ S F ι, Ext F1 ι1 H1 F ι H ∧ ER G F ι ρ σ ∧ RL G S F ι H ∧ Pst G (Wk E) σ F ι H (forAt (fun d ρ1 S2 => (tg d ρ1 S2).bind fun ρ2 S3 => b ρ2 S3) k0 m i ρ S) (OutQ G En), ⟨n0, ρ, S1, F1, ι1, Ext.refl, er, l1, p⟩, ?_⟩
  rintro i m σ H ⟨ρ, S, F, ι, ex, er, rl, p⟩
  cases m with
  | zero => exact (show False from p).elim
  | succ m =>
    simp only [forAt] at p
    split at p <;> try (exact (show False from p).elim)
    rename_i xs hxs
    obtain ⟨vs, z1, z2⟩ := rl.loc (ex.ix _ _ hk) hxs
    split at p
    · rename_i d hd
      obtain ⟨v, hv, rv⟩ := z2.get hd
      refine .inr ⟨⟨vs, v, SqL.of z1, hv⟩, fun σ' H' => ∃ ρ S F ι, Ext F1 ι1 H1 F ι H' ∧ ER G F ι ρ σ' ∧ RL G S F ι H' ∧ Pst G (Wk E) σ' F ι H' (forAt (fun d ρ1 S2 => (tg d ρ1 S2).bind fun ρ2 S3 => b ρ2 S3) k0 m (i + 1) ρ S) (OutQ G En), fun σ' H' n => ⟨m, Nat.lt_succ_self _, n⟩, fun x H' y => ?_⟩
      obtain ⟨e1, e2⟩ := y
      subst e1
      have := (e2 vs (SqL.of z1)).symm.trans hv
      cases this
      refine ⟨d, ρ, S, F, ι, er, rl, rv, p.bind.bind.imp fun ρ2 S2 F2 ι2 H2 e2 l2 p2 σ2 er2 hl2 hs2 => ?_⟩
      refine ⟨ρ2, S2, F2, ι2, er2, l2, p2.st.imp fun o S3 F3 ι3 H3 e3 l3 p3 => ?_⟩
      exact turn_of l3 p3 fun ρ3 σ3 er3 q => ⟨ρ3, S3, F3, ι3, (ex.trans rl (e2.trans l2 e3)), er3, l3, q.st⟩
    · rename_i hn
      refine .inl ⟨⟨vs, SqL.of z1, ?_⟩, p F ι H Ext.refl rl σ er⟩
      rw [← z2.length]
      exact List.getElem?_eq_none_iff.mp hn
end

theorem pe_blkF (A : Amb G M P w base k O) {own : List Nat} {tg : CTg} {it : CI} {t : CTo} {el : CE} {e : Expr} {j : Nat} {sc : Sc} {X : Cx} {E : XK} {i : Nat} {y : Str} {py spos : Pos} (hj : k ≤ j) (hl : Hl G k j sc X) (g : Good G P w base j M sc.s X) (gs : GoodS X) (tk : Takes X (Wk E))
    (hi : M.N[i]? = some y) (hy : locB sc.s y = true) (hs : lcSw py y e = true) (h : mF M sc (.comp own tg it t el) e = true) :
    PS X (.Assign [.Name y py] e spos) (fun En σ H => tF G (Wk E) (fun ρ S => evF O (.comp own tg it t el) ρ S) σ H fun x H1 => En.nx (σ.set i (some x)) H1) := by
  simp only [mF] at h
  split at h <;> try (cases h; done)
  rename_i el' tg' it' ifs csc p
  simp only [Bool.and_eq_true, decide_eq_true_eq] at h
  obtain ⟨⟨⟨⟨⟨⟨h1, h2⟩, h3⟩, h4⟩, h5⟩, h6⟩, h7⟩ := h
  have hsub : ∀ i ∈ tgN tg, i ∈ own := fun i hi => by
    have := List.all_eq_true.mp h4 i hi
    simpa using this
  have bok : BlkOk X.N X.env.scope csc (own.filterMap fun i => (M.N[i]?).map fun x => (x, i)) := by
    rw [g.pN, g.sc]; exact blkOk_by h2
  simp only [lcSw, Bool.and_eq_true, Bool.not_eq_true'] at hs
  have hyl : X.env.scope.names.lookup y = some .local := by rw [g.sc]; exact of_decide_eq_true hy
  have := ps_setLc (pos := p) (spos := spos) g.calm g.nd (by rw [g.pN]; exact hi) hyl (sw_true gs.kd hyl hs.1 hs.2) (sI A it tg' it' j sc X (Wk E) hj hl g tk h1) bok
    (fun s H C cl fp => sTg A tg tg' j csc ⟨relS csc sc.s, sc.lam, sc.rp⟩ (X.blk s H csc (compEnvC csc cl C X.env) fp) WF hj (hl.blk s H C cl fp csc) (g.blk s H C cl fp csc) (takesF rfl) (fun x hx => by
      rcases hx with hx | hx
      · refine .inr ?_
        show (relS csc X.env.scope).names.lookup x = _
        exact L2.lookup_relS_keep (by decide) hx
      · refine .inl ?_
        show (csc.names.lookup x == some .cell) = true
        rw [hx]; rfl) h5)
    (fun s H C cl fp => sTo A t ifs j ⟨relS csc sc.s, sc.lam, sc.rp⟩ (X.blk s H csc (compEnvC csc cl C X.env) fp) WF hj (hl.blk s H C cl fp csc) (g.blk s H C cl fp csc) (takesF rfl) h6)
    (fun s H C cl fp => sE A el el' j ⟨relS csc sc.s, sc.lam, sc.rp⟩ (X.blk s H csc (compEnvC csc cl C X.env) fp) WF hj (hl.blk s H C cl fp csc) (g.blk s H C cl fp csc) (takesF rfl) h7)
    (fold_of (mI_ok M sc tg' it it' h1))
  refine ps_weak this fun En σ H q => ?_
  rw [h3]
  exact comp_conv hsub q
/-- a method of a list that a name of the frame holds -/
theorem Hl.try {j : Nat} {sc : Sc} {X : Cx} (h : Hl G k j sc X) (pn : List (Addr × Obj)) (xe : Value → Shared → Prop) : Hl G k j sc (X.tr pn xe) := ⟨fun z => ⟨(h.1 z).1, ⟨(h.1 z).2.ex⟩⟩, h.2⟩
theorem Good.try {j : Nat} {sc : Scope} {X : Cx} (g : Good G P w base j M sc X) (pn : List (Addr × Obj)) (xe : Value → Shared → Prop) : Good G P w base j M sc (X.tr pn xe) := ⟨g.pP, g.pw, g.pb, g.pK, g.pm, g.pN, g.nd, g.sc, g.calm, g.room⟩
theorem catch_run {E : XK} {j : Nat} {sc : Sc} {X : Cx} {e : CE} {hs : List Hd} {es : List ExceptHandler} {body : List Stmt} {pos : Pos} {fin : D → Env → Out} (A : AmbX G sub exs) (g : Good G P w base j M sc.s X) (gs : GoodS X) (tk : Takes X (Wk E)) (hn : nonNil hs = true) (hh : mHds exs sc hs es = true) {tb : WX → TS}
    (hb : ∀ (W : WX) (pn : List (Addr × Obj)) (xe : Value → Shared → Prop), Takes (X.tr pn xe) W → PSs (X.tr pn xe) body (tb W))
    (htb : ∀ W En σ H, (∃ ρ S F ι, ER G F ι ρ σ ∧ RL G S F ι H ∧ Pst G W σ F ι H (evE O e ρ S) fun d S1 F1 ι1 H1 => OutQ G En (fin d ρ) S1 F1 ι1 H1) → tb W En σ H) :
    PS X (.Try body es [] [] pos) (tS G E fun ρ S => match evE O e ρ S with
      | .ok d S1 => .ok (fin d ρ) S1
      | .exc c p S1 => catch_ sub c p S1 hs
      | .stuck => .stuck) := by
  cases es with
  | nil =>
    cases hs with
    | nil => cases hn
    | cons h r => cases hh
  | cons e0 er =>
    refine ps_weak (ps_try_many (l := lOf G hs) gs.stk gs.fr tk (fun W pn xe t _ => hb W pn xe t) (hds_ok A g hs (e0 :: er) hh)) fun En σ H ⟨ρ, S, F, ι, er', rl, p⟩ => ?_
    refine htb _ _ _ _ ⟨ρ, S, F, ι, er', rl, ?_⟩
    dsimp only at p
    cases q : evE O e ρ S with
    | ok d S1 =>
      rw [q] at p
      exact p
    | stuck => rw [q] at p; exact (show False from p).elim
    | exc c pl S1 =>
      rw [q] at p
      intro cls dd F1 ι1 H1 ex l1 exr
      rw [g.pK]
      exact many_of A ex l1 exr hs (e0 :: er) hh p
mutual
theorem sS (A : Amb G M P w base k O) (B : AmbX G sub exs) : ∀ (c : CS) (st : Stmt) (j : Nat) (sc : Sc) (X : Cx) (E : XK), k ≤ j → Hl G k j sc X → Good G P w base j M sc.s X → GoodS X → Takes X (Wk E) → mS M exs sc c st = true → PS X st (tS G E fun ρ S => exS sub O c ρ S)
  | .asg tg e, st, j, sc, X, E, hj, hl, g, gs, tk, h => by
    simp only [mS] at h
    split at h <;> try (cases h; done)
    rename_i t e' pos
    simp only [Bool.and_eq_true] at h
    obtain ⟨⟨⟨h1, h2⟩, h3⟩, h4⟩ := h
    refine ps_weak (ps_asg (sE A e e' j sc X (Wk E) hj hl g tk h4) (sTg A tg t j sc.s sc X (Wk E) hj hl g tk (fun x hx => gs.fn x (by rw [g.sc]; exact hx)) h3) (swW_none h2) (sw_none g.sc h1) (by rw [mTg_each M sc.s sc tg t h3 [] X.env]; rfl)) fun En σ H ⟨ρ, S, F, ι, er, rl, p⟩ => ?_
    simp only [exS] at p
    refine ⟨ρ, S, F, ι, er, rl, p.bind.imp fun d S1 F1 ι1 H1 e1 l1 p1 v rv => ?_⟩
    refine ⟨d, ρ, S1, F1, ι1, er.ext e1, l1, rv, p1.bind.imp fun ρ1 S2 F2 ι2 H2 e2 l2 p2 σ' er' hl' hs' => ?_⟩
    exact p2 F2 ι2 H2 Ext.refl l2 σ' er'
  | .par is es, st, j, sc, X, E, hj, hl, g, gs, tk, h => by
    simp only [mS] at h
    split at h <;> try (cases h; done)
    rename_i ts kt pt vs k2 pt2 pos
    rw [Bool.and_eq_true] at h
    obtain ⟨h1, h2⟩ := h
    have hes := sEs A es vs j sc X (Wk E) hj hl g tk h2
    unfold parOk at h1
    split at h1
    · rename_i i j' x p y q a b
      simp only [Bool.and_eq_true, decide_eq_true_eq, locB] at h1
      obtain ⟨⟨⟨⟨⟨⟨⟨a1, a2⟩, a3⟩, a4⟩, a5⟩, a6⟩, a7⟩, a8⟩ := h1
      have lx : X.env.scope.names.lookup x = some .local := by rw [g.sc]; exact a5
      have ly : X.env.scope.names.lookup y = some .local := by rw [g.sc]; exact a6
      refine ps_weak (ps_par g.calm g.nd (by rw [g.pN]; exact a1) (by rw [g.pN]; exact a2) a3 lx ly hes (sw_two gs.kd lx ly a4 a7 a8)) fun En σ H ⟨ρ, S, F, ι, er, rl, p⟩ => ?_
      simp only [exS] at p
      refine ⟨ρ, S, F, ι, er, rl, p.bind.imp fun ds S1 F1 ι1 H1 e1 l1 p1 us rv => ?_⟩
      obtain ⟨ρ1, z, q1⟩ := p1.bind.opt
      obtain ⟨d1, d2, rfl, rfl⟩ := setAll2 z
      obtain ⟨u1, us1, rfl, r1, u2, us2, rfl, r2, e⟩ := rv
      cases (show _ = _ from e)
      exact ⟨u1, u2, rfl, q1 F1 ι1 H1 Ext.refl l1 F1 ι1 H1 Ext.refl l1 _ (((er.ext e1).set r1).set r2)⟩
    · rename_i i j' l x p y q z r a b c
      simp only [Bool.and_eq_true, decide_eq_true_eq, locB] at h1
      obtain ⟨⟨⟨⟨⟨⟨⟨⟨⟨⟨⟨⟨⟨⟨a1, a2⟩, a3⟩, a4⟩, a5⟩, a6⟩, a7⟩, a8⟩, a9⟩, b1⟩, b2⟩, b3⟩, b4⟩, b5⟩, b6⟩ := h1
      have lx : X.env.scope.names.lookup x = some .local := by rw [g.sc]; exact b1
      have ly : X.env.scope.names.lookup y = some .local := by rw [g.sc]; exact b2
      have lz : X.env.scope.names.lookup z = some .local := by rw [g.sc]; exact b3
      refine ps_weak (ps_par3 g.calm g.nd (by rw [g.pN]; exact a1) (by rw [g.pN]; exact a2) (by rw [g.pN]; exact a3) a4 a5 a6 lx ly lz hes (sw_three gs.kd lx ly lz a7 a8 a9 b4 b5 b6)) fun En σ H ⟨ρ, S, F, ι, er, rl, p⟩ => ?_
      simp only [exS] at p
      refine ⟨ρ, S, F, ι, er, rl, p.bind.imp fun ds S1 F1 ι1 H1 e1 l1 p1 us rv => ?_⟩
      obtain ⟨ρ1, z, q1⟩ := p1.bind.opt
      obtain ⟨d1, d2, d3, rfl, rfl⟩ := setAll3 z
      obtain ⟨u1, us1, rfl, r1, u2, us2, rfl, r2, u3, us3, rfl, r3, e⟩ := rv
      cases (show _ = _ from e)
      exact ⟨u1, u2, u3, rfl, q1 F1 ι1 H1 Ext.refl l1 F1 ι1 H1 Ext.refl l1 _ ((((er.ext e1).set r1).set r2).set r3)⟩
    · cases h1
  | .asgc m i f, st, j, sc, X, E, hj, hl, g, gs, tk, h => by
    simp only [mS] at h
    split at h <;> try (cases h; done)
    rename_i y py e' pos
    simp only [Bool.and_eq_true, decide_eq_true_eq] at h
    obtain ⟨⟨⟨⟨h1, h2⟩, h3⟩, h4⟩, h5⟩ := h
    cases f <;> try (cases h3; done)
    refine ps_weak (pe_blkF A hj hl g gs tk h1 h2 h4 h5) fun En σ H ⟨ρ, S, F, ι, er, rl, p⟩ => ?_
    simp only [exS] at p
    refine ⟨ρ, S, F, ι, er, rl, p.bind.imp fun ds S1 F1 ι1 H1 e1 l1 p1 pp vs hp rv => ?_⟩
    split at p1 <;> try (exact (show False from p1).elim)
    cases m with
    | true =>
      rw [if_pos rfl] at p1
      obtain ⟨ex, l2⟩ := l1.new hp rv
      refine p1 _ _ _ ex l2 _ (((er.ext e1).ext ex).set ⟨pp, rfl, ?_⟩)
      rw [← l1.len, List.getElem?_append_right (Nat.le_refl _)]; simp
    | false =>
      rw [if_neg Bool.false_ne_true] at p1
      obtain ⟨ex, l2⟩ := l1.frz hp (.lst vs) (fun _ z => by cases z)
      exact p1 _ _ _ ex l2 _ (((er.ext e1).ext ex).set ⟨pp, vs, rfl, upd_same, ex.repL rv⟩)
  | .exp e, st, j, sc, X, E, hj, hl, g, gs, tk, h => by
    simp only [mS] at h
    split at h <;> try (cases h; done)
    rename_i e' pos
    rw [Bool.and_eq_true] at h
    refine ps_weak (ps_expr (sE A e e' j sc X (Wk E) hj hl g tk h.2) (swW_none h.1)) fun En σ H ⟨ρ, S, F, ι, er, rl, p⟩ => ?_
    simp only [exS] at p
    exact ⟨ρ, S, F, ι, er, rl, p.bind.imp fun d S1 F1 ι1 H1 e1 l1 p1 v rv => p1 F1 ι1 H1 Ext.refl l1 σ (er.ext e1)⟩
  | .ret e, st, j, sc, X, E, hj, hl, g, gs, tk, h => by
    simp only [mS] at h
    split at h <;> try (cases h; done)
    rename_i e' pos
    refine ps_weak (ps_ret (sE A e e' j sc X (Wk E) hj hl g tk h)) fun En σ H ⟨ρ, S, F, ι, er, rl, p⟩ => ?_
    simp only [exS] at p
    exact ⟨ρ, S, F, ι, er, rl, p.bind.imp fun d S1 F1 ι1 H1 e1 l1 p1 v rv => p1 F1 ι1 H1 Ext.refl l1 v rv⟩
  | .retN, st, j, sc, X, E, hj, hl, g, gs, tk, h => by
    simp only [mS] at h
    split at h <;> try (cases h; done)
    refine ps_weak ps_retN fun En σ H ⟨ρ, S, F, ι, er, rl, p⟩ => ?_
    simp only [exS] at p
    exact p F ι H Ext.refl rl _ rfl
  | .ite t a b, st, j, sc, X, E, hj, hl, g, gs, tk, h => by
    simp only [mS] at h
    split at h <;> try (cases h; done)
    rename_i t' a' b' pos
    simp only [Bool.and_eq_true] at h
    refine ps_weak (ps_if (sT A t t' j sc X (Wk E) hj hl g tk h.1.1) (sSs A B a a' j sc X E hj hl g gs tk h.1.2) (sSs A B b b' j sc X E hj hl g gs tk h.2)) fun En σ H ⟨ρ, S, F, ι, er, rl, p⟩ => ?_
    simp only [exS] at p
    refine ⟨ρ, S, F, ι, er, rl, p.bind.imp fun c S1 F1 ι1 H1 e1 l1 p1 => ?_⟩
    cases c with
    | true => rw [if_pos rfl] at p1 ⊢; exact ⟨ρ, S1, F1, ι1, er.ext e1, l1, p1⟩
    | false => rw [if_neg Bool.false_ne_true] at p1 ⊢; exact ⟨ρ, S1, F1, ι1, er.ext e1, l1, p1⟩
  | .forS tg it b, st, j, sc, X, E, hj, hl, g, gs, tk, h => by
    simp only [mS] at h
    split at h <;> try (cases h; done)
    rename_i tg' it' b' pos
    simp only [Bool.and_eq_true] at h
    refine ps_weak (ps_for gs.own g.calm (sI A it tg' it' j sc X (Wk E) hj hl g tk h.1.1) (sTg A tg tg' j sc.s sc X (Wk E) hj hl g tk (fun x hx => gs.fn x (by rw [g.sc]; exact hx)) h.1.2) (sSs A B b b' j sc X E hj hl g gs tk h.2) (fold_of (mI_ok M sc tg' it it' h.1.1))) fun En σ H ⟨ρ, S, F, ι, er, rl, p⟩ => ?_
    simp only [exS] at p
    refine ⟨ρ, S, F, ι, er, rl, p.bind.imp fun z S1 F1 ι1 H1 e1 l1 p1 => ?_⟩
    cases z with
    | items l => exact fun J hJ => for_items (tg := fun d ρ S => evTg O tg d ρ S) (b := fun ρ S => exSs sub O b ρ S) (er.ext e1) l1 hJ p1
    | at_ k0 =>
      intro a hk
      dsimp only at p1
      split at p1 <;> try (exact (show False from p1).elim)
      exact for_at (tg := fun d ρ S => evTg O tg d ρ S) (b := fun ρ S => exSs sub O b ρ S) (er.ext e1) l1 hk p1
  | .whl t b, st, j, sc, X, E, hj, hl, g, gs, tk, h => by
    simp only [mS] at h
    split at h <;> try (cases h; done)
    rename_i t' b' pos
    rw [Bool.and_eq_true] at h
    refine ps_weak (ps_while gs.own (sT A t t' j sc X (Wk E) hj hl g tk h.1) (sSs A B b b' j sc X E hj hl g gs tk h.2)) fun En σ H q => ?_
    simp only [exS] at q
    exact while_of q
  | .brk, st, j, sc, X, E, hj, hl, g, gs, tk, h => by
    simp only [mS] at h
    split at h <;> try (cases h; done)
    refine ps_weak ps_break fun En σ H ⟨ρ, S, F, ι, er, rl, p⟩ => ?_
    simp only [exS] at p
    exact p F ι H Ext.refl rl σ er
  | .cnt, st, j, sc, X, E, hj, hl, g, gs, tk, h => by
    simp only [mS] at h
    split at h <;> try (cases h; done)
    refine ps_weak ps_continue fun En σ H ⟨ρ, S, F, ι, er, rl, p⟩ => ?_
    simp only [exS] at p
    exact p F ι H Ext.refl rl σ er
  | .pass, st, j, sc, X, E, hj, hl, g, gs, tk, h => by
    simp only [mS] at h
    split at h <;> try (cases h; done)
    · refine ps_weak ps_pass fun En σ H ⟨ρ, S, F, ι, er, rl, p⟩ => ?_
      simp only [exS] at p
      exact p F ι H Ext.refl rl σ er
    · refine ps_weak ps_doc fun En σ H ⟨ρ, S, F, ι, er, rl, p⟩ => ?_
      simp only [exS] at p
      exact p F ι H Ext.refl rl σ er
  | .rse c, st, j, sc, X, E, hj, hl, g, gs, tk, h => by
    simp only [mS] at h
    split at h <;> try (cases h; done)
    simp only [Bool.and_eq_true, decide_eq_true_eq] at h
    obtain ⟨⟨⟨rfl, h1⟩, h2⟩, h3⟩ := h
    obtain ⟨n1, n2, n3⟩ := nd_of h3
    obtain ⟨C, bmB, B0, newId, initId, f1, f2, f3, f4, f5, f6⟩ := B.rse _ h1
    refine ps_weak (ps_raise g.calm tk (pmk_own f1 (by rw [g.pK]; exact f2) (by rw [g.pm]; exact f3) (by rw [g.pK]; exact f4) (raises_own (by rw [g.pK]; exact f5) (by rw [g.pK]; exact f6)) (g.gl h2) n1)) fun En σ H ⟨ρ, S, F, ι, er, rl, p⟩ => ?_
    simp only [exS] at p
    exact p _ _ F ι H Ext.refl rl ⟨⟨C, f3, rfl⟩, rfl⟩
  | .tryE r e hs, st, j, sc, X, E, hj, hl, g, gs, tk, h => by
    simp only [mS] at h
    split at h <;> try (cases h; done)
    · rename_i e' rp hs' pos
      simp only [Bool.and_eq_true] at h
      obtain ⟨⟨⟨rfl, h1⟩, h2⟩, h3⟩ := h
      have := catch_run (pos := pos) (body := [.Return (some e') rp]) (O := O) (e := e) (fin := fun d _ => .rt d) (tb := fun W => tRet (tE G W fun ρ S => evE O e ρ S)) B g gs tk h2 h3 (fun W pn xe t => pss_one (ps_ret (sE A e e' j sc (X.tr pn xe) W hj (hl.try pn xe) (g.try pn xe) t h1))) (fun W En σ H ⟨ρ, S, F, ι, er, rl, p⟩ => ⟨ρ, S, F, ι, er, rl, p⟩)
      refine ps_weak this fun En σ H ⟨ρ, S, F, ι, er, rl, p⟩ => ⟨ρ, S, F, ι, er, rl, ?_⟩
      simp only [exS, if_true] at p
      exact p
    · rename_i e' rp hs' pos
      simp only [Bool.and_eq_true, Bool.not_eq_true'] at h
      obtain ⟨⟨⟨⟨rfl, h0⟩, h1⟩, h2⟩, h3⟩ := h
      have := catch_run (pos := pos) (body := [.Expr e' rp]) (O := O) (e := e) (fin := fun _ ρ => .nx ρ) (tb := fun W => tDrop (tE G W fun ρ S => evE O e ρ S)) B g gs tk h2 h3 (fun W pn xe t => pss_one (ps_expr (sE A e e' j sc (X.tr pn xe) W hj (hl.try pn xe) (g.try pn xe) t h1) (swW_none h0))) (fun W En σ H ⟨ρ, S, F, ι, er, rl, p⟩ => ⟨ρ, S, F, ι, er, rl, p.imp fun d S1 F1 ι1 H1 e1 l1 q v rv => q σ (er.ext e1)⟩)
      refine ps_weak this fun En σ H ⟨ρ, S, F, ι, er, rl, p⟩ => ⟨ρ, S, F, ι, er, rl, ?_⟩
      simp only [exS, Bool.false_eq_true, if_false] at p
      exact p
  | .app i e, st, j, sc, X, E, hj, hl, g, gs, tk, h => by
    simp only [mS] at h
    split at h <;> try (cases h; done)
    rename_i x p nm apos e' cpos pos
    simp only [Bool.and_eq_true, decide_eq_true_eq] at h
    obtain ⟨⟨⟨⟨⟨rfl, h1⟩, h2⟩, h3⟩, h4⟩, h5⟩ := h
    obtain ⟨n1, n2, n3⟩ := nd_of h3
    have st := star_of (es := []) (env := X.env) (mE_ok M sc e e' h5)
    refine ps_weak (ps_expr (pe_bm F.plainAttrs_list F.slot_list_append (by first | rfl | decide +kernel) mt_append (pe_var (i := i) (by rw [g.pN]; exact h1) (by rw [g.sc]; exact vis_of h2) n1 n2) (pa_cons (sE A e e' j sc X (Wk E) hj hl g tk h5) pa_nil st) rfl (by rw [st]; rfl) h4 st rfl) (swW_none rfl)) fun En σ H ⟨ρ, S, F0, ι, er, rl, p⟩ => ?_
    simp only [exS] at p
    split at p <;> try (exact (show False from p).elim)
    rename_i k0 hk0
    obtain ⟨v, hv, a0, rfl, hk⟩ := er.2 i _ hk0
    obtain ⟨vs0, tr⟩ := rl.tracked (List.mem_of_getElem? hk)
    refine ⟨_, hv, ⟨?_, ρ, S, F0, ι, er, rl, p.bind.imp fun d S1 F1 ι1 H1 e1 l1 p1 v rv => ?_⟩⟩
    · exact .inl ⟨rfl, vs0, SqL.of tr⟩
    split at p1 <;> try (exact (show False from p1).elim)
    rename_i xs hxs
    split at p1 <;> try (exact (show False from p1).elim)
    rename_i hz
    obtain ⟨vs, z1, z2⟩ := l1.loc (e1.ix _ _ hk) hxs
    obtain ⟨ex, l2⟩ := l1.wr (e1.ix _ _ hk) (z2.snoc rv)
    exact ⟨a0, vs, v, rfl, rfl, z1, by rw [← z2.length]; exact hz, p1 _ _ _ ex l2 σ ((er.ext e1).ext ex)⟩
  | .ext i e, st, j, sc, X, E, hj, hl, g, gs, tk, h => by
    simp only [mS] at h
    split at h <;> try (cases h; done)
    rename_i x p nm apos e' cpos pos
    simp only [Bool.and_eq_true, decide_eq_true_eq] at h
    obtain ⟨⟨⟨⟨⟨rfl, h1⟩, h2⟩, h3⟩, h4⟩, h5⟩ := h
    obtain ⟨n1, n2, n3⟩ := nd_of h3
    have st := star_of (es := []) (env := X.env) (mE_ok M sc e e' h5)
    refine ps_weak (ps_expr (pe_bm F.plainAttrs_list F.slot_list_extend (by first | rfl | decide +kernel) mtExtA (pe_var (i := i) (by rw [g.pN]; exact h1) (by rw [g.sc]; exact vis_of h2) n1 n2) (pa_cons (sE A e e' j sc X (Wk E) hj hl g tk h5) pa_nil st) rfl (by rw [st]; rfl) h4 st rfl) (swW_none rfl)) fun En σ H ⟨ρ, S, F0, ι, er, rl, p⟩ => ?_
    simp only [exS] at p
    split at p <;> try (exact (show False from p).elim)
    rename_i k0 hk0
    obtain ⟨v, hv, a0, rfl, hk⟩ := er.2 i _ hk0
    obtain ⟨vs0, tr⟩ := rl.tracked (List.mem_of_getElem? hk)
    refine ⟨_, hv, ⟨?_, ρ, S, F0, ι, er, rl, p.bind.imp fun d S1 F1 ι1 H1 e1 l1 p1 v rv => ?_⟩⟩
    · exact .inl ⟨rfl, vs0, SqL.of tr⟩
    split at p1 <;> try (exact (show False from p1).elim)
    rename_i ys xs hys hxs
    split at p1 <;> try (exact (show False from p1).elim)
    rename_i hz
    obtain ⟨vs, z1, z2⟩ := l1.loc (e1.ix _ _ hk) hxs
    have dd := l1.der rv
    revert hys dd
    generalize Gx.der S1 d = d'
    intro hys dd
    cases d' <;> simp only [extL] at hys <;> try (cases hys; done)
    · cases hys
      obtain ⟨b0, ws, rfl, q1, q2⟩ := dd
      obtain ⟨ex, l2⟩ := l1.wr (e1.ix _ _ hk) (z2.append q2)
      exact ⟨a0, b0, vs, ws, rfl, rfl, z1, .inr (by rw [g.pK]; exact l1.sqT q1), by rw [← z2.length, ← q2.length]; exact hz, p1 _ _ _ ex l2 σ ((er.ext e1).ext ex)⟩
    · cases hys
      obtain ⟨b0, ws, rfl, q1, q2⟩ := dd
      obtain ⟨ex, l2⟩ := l1.wr (e1.ix _ _ hk) (z2.append q2)
      exact ⟨a0, b0, vs, ws, rfl, rfl, z1, .inl q1, by rw [← z2.length, ← q2.length]; exact hz, p1 _ _ _ ex l2 σ ((er.ext e1).ext ex)⟩
theorem sSs (A : Amb G M P w base k O) (B : AmbX G sub exs) : ∀ (c : CSs) (sts : List Stmt) (j : Nat) (sc : Sc) (X : Cx) (E : XK), k ≤ j → Hl G k j sc X → Good G P w base j M sc.s X → GoodS X → Takes X (Wk E) → mSs M exs sc c sts = true → PSs X sts (tS G E fun ρ S => exSs sub O c ρ S)
  | .nil, sts, j, sc, X, E, hj, hl, g, gs, tk, h => by
    simp only [mSs] at h
    split at h <;> try (cases h; done)
    refine pss_weak pss_nil fun En σ H ⟨ρ, S, F, ι, er, rl, p⟩ => ?_
    simp only [exSs] at p
    exact p F ι H Ext.refl rl σ er
  | .cons c r, sts, j, sc, X, E, hj, hl, g, gs, tk, h => by
    simp only [mSs] at h
    split at h <;> try (cases h; done)
    rename_i st rest
    rw [Bool.and_eq_true] at h
    refine pss_weak (pss_cons (sS A B c st j sc X E hj hl g gs tk h.1) (sSs A B r rest j sc X E hj hl g gs tk h.2)) fun En σ H ⟨ρ, S, F, ι, er, rl, p⟩ => ?_
    simp only [exSs] at p
    refine ⟨ρ, S, F, ι, er, rl, p.bind.imp fun o S1 F1 ι1 H1 e1 l1 p1 => ?_⟩
    cases o with
    | nx ρ1 => exact fun σ' er' => ⟨ρ1, S1, F1, ι1, er', l1, p1.st⟩
    | bk ρ1 => exact p1 F1 ι1 H1 Ext.refl l1
    | ct ρ1 => exact p1 F1 ι1 H1 Ext.refl l1
    | rt d => exact p1 F1 ι1 H1 Ext.refl l1
end
end Gx
set_option Elab.async false
set_option linter.all false
set_option maxRecDepth 100000
set_option maxHeartbeats 8000000
/-! Gx: functions keep their promises, level by level. -/
namespace Gx
open PySem PySem.Spec PyProof.Rows L2
/-! ### what a function leaves behind -/
mutual
theorem Rep.free {G : Gl} {F F' : Hp} {ι ι' : List Addr} (hf : ∀ b o, F b = some o → F' b = some o) : ∀ (d : D) (v : V), noloc d = true → Rep G F ι d v → Rep G F' ι' d v
  | .non, _, _, h => h
  | .bl _, _, _, h => h
  | .int _, _, _, h => h
  | .str _, _, _, h => h
  | .tup xs, v, n, h => by
    obtain ⟨a, vs, e, q, r⟩ := h
    exact ⟨a, vs, e, SqT.fmono hf q, RepL.free hf xs vs n r⟩
  | .lst xs, v, n, h => by
    obtain ⟨a, vs, e, q, r⟩ := h
    exact ⟨a, vs, e, hf _ _ q, RepL.free hf xs vs n r⟩
  | .scr xs, v, n, h => by
    obtain ⟨a, vs, e, q, r⟩ := h
    exact ⟨a, vs, e, SqL.fmono hf q, RepL.free hf xs vs n r⟩
  | .loc k, v, n, h => by cases n
  | .fn _, _, _, h => h
  | .ty _, _, _, h => h
theorem RepL.free {G : Gl} {F F' : Hp} {ι ι' : List Addr} (hf : ∀ b o, F b = some o → F' b = some o) : ∀ (ds : List D) (vs : List V), nolocL ds = true → RepL G F ι ds vs → RepL G F' ι' ds vs
  | [], _, _, h => h
  | x :: xs, _, n, h => by
    simp only [nolocL, Bool.and_eq_true] at n
    obtain ⟨w, ws, e, q, r⟩ := h
    exact ⟨w, ws, e, Rep.free hf x w n.1 q, RepL.free hf xs ws n.2 r⟩
end
section
variable {G : Gl} {S S1 : Sto} {F F' : Hp} {ι ι' : List Addr} {H H' : Hp}
/-- what was made within is frozen -/
def cutF (F' : Hp) (ι' : List Addr) (n : Nat) (H' : Hp) : Hp := fun a => if a ∈ ι'.drop n then H' a else F' a
theorem mapM_rep {f : D → Option D} {F'' : Hp} (hf : ∀ d d' v, f d = some d' → Rep G F' ι' d v → Rep G F'' ι d' v) : ∀ (xs ys : List D) (vs : List V), xs.mapM f = some ys → RepL G F' ι' xs vs → RepL G F'' ι ys vs
  | [], ys, vs, e, h => by
    simp only [List.mapM_nil] at e
    cases e
    exact h
  | x :: xs, ys, vs, e, h => by
    rw [List.mapM_cons] at e
    obtain ⟨w, ws, rfl, q, r⟩ := h
    cases e1 : f x with
    | none => rw [e1] at e; cases e
    | some d' =>
      rw [e1] at e
      cases e2 : xs.mapM f with
      | none => rw [e2] at e; cases e
      | some ys' =>
        rw [e2] at e
        cases e
        exact ⟨w, ws, rfl, hf _ _ _ e1 q, mapM_rep hf xs ys' ws e2 r⟩
theorem cut (rl : RL G S F ι H) (ex : Ext F ι H F' ι' H') (l1 : RL G S1 F' ι' H') (hn : S.length ≤ S1.length) (hs : shut (S1.take S.length) = true) :
    ∃ F'', Ext F ι H F'' ι H' ∧ RL G (S1.take S.length) F'' ι H' ∧ ∀ m d d' v, frz S.length S1 m d = some d' → Rep G F' ι' d v → Rep G F'' ι d' v := by
  obtain ⟨more, e1, e2⟩ := ex.i
  have hlen : ι.length = S.length := rl.len
  have hdrop : ι'.drop S.length = more := by rw [e1, ← hlen, List.drop_left]
  have old : ∀ b o, F' b = some o → cutF F' ι' S.length H' b = some o := fun b o h => by
    unfold cutF
    split
    · rename_i hm
      rw [l1.out b (List.mem_of_mem_drop hm)] at h
      cases h
    · exact h
  have nd := l1.nd
  rw [e1] at nd
  have apart : ∀ a ∈ ι, a ∉ more := fun a h1 h2 => (List.nodup_append.mp nd).2.2 a h1 a h2 rfl
  refine ⟨cutF F' ι' S.length H', ⟨fun a o h => old _ _ (ex.f a o h), ⟨[], by simp, by simp⟩, ex.h, fun a o h => ?_⟩, ⟨fun a o h => ?_, fun a ps h => ?_, ?_, rl.nd, fun a ha => ?_, fun k a o h1 h2 => ?_, l1.tabs⟩, ?_⟩
  · unfold cutF at h
    split at h
    · rename_i hm
      rw [hdrop] at hm
      exact .inr (e2 a hm)
    · exact ex.g a o h
  · unfold cutF at h
    split at h
    · exact h
    · exact l1.sub _ _ h
  · unfold cutF at h
    split at h
    · rename_i hm
      obtain ⟨vs, z⟩ := l1.tracked (List.mem_of_mem_drop hm)
      rw [z] at h; cases h
    · exact l1.ft _ _ h
  · rw [List.length_take]; omega
  · unfold cutF
    rw [hdrop, if_neg (apart a ha)]
    exact l1.out a (by rw [e1]; exact List.mem_append_left _ ha)
  · have hk := (List.getElem?_eq_some_iff.mp h1).1
    have h3 : S1[k]? = some o := by
      rw [List.getElem?_take] at h2
      split at h2
      · exact h2
      · cases h2
    have := l1.obj k a o (ex.ix _ _ h1) h3
    cases o with
    | lst xs =>
      obtain ⟨vs, q1, q2⟩ := this
      refine ⟨vs, q1, RepL.free old xs vs ?_ q2⟩
      have := List.all_eq_true.mp hs _ (List.mem_of_getElem? h2)
      exact this
  · intro m
    induction m with
    | zero => intro d d' v e _; cases e
    | succ m ih =>
      intro d d' v e h
      cases d with
      | loc k =>
        simp only [frz] at e
        split at e
        · rename_i hk
          cases e
          obtain ⟨a, ev, q⟩ := h
          refine ⟨a, ev, ?_⟩
          rw [e1, List.getElem?_append_left (by rw [hlen]; exact hk)] at q
          exact q
        · rename_i hk
          split at e <;> try (cases e; done)
          rename_i xs hxs
          rw [Option.map_eq_some_iff] at e
          obtain ⟨ys, e3, rfl⟩ := e
          obtain ⟨a, ev, q⟩ := h
          obtain ⟨vs, q1, q2⟩ := l1.loc q hxs
          refine ⟨a, vs, ev, ?_, mapM_rep (fun d d' v => ih d d' v) xs ys vs e3 q2⟩
          unfold cutF
          rw [if_pos]
          · exact q1
          · rw [List.mem_iff_getElem?]
            exact ⟨k - S.length, by rw [List.getElem?_drop]; rw [Nat.add_sub_cancel' (Nat.le_of_not_lt hk)]; exact q⟩
      | tup xs =>
        simp only [frz, Option.map_eq_some_iff] at e
        obtain ⟨ys, e3, rfl⟩ := e
        obtain ⟨a, vs, ev, q, r⟩ := h
        exact ⟨a, vs, ev, SqT.fmono old q, mapM_rep (fun d d' v => ih d d' v) xs ys vs e3 r⟩
      | lst xs =>
        simp only [frz, Option.map_eq_some_iff] at e
        obtain ⟨ys, e3, rfl⟩ := e
        obtain ⟨a, vs, ev, q, r⟩ := h
        exact ⟨a, vs, ev, old _ _ q, mapM_rep (fun d d' v => ih d d' v) xs ys vs e3 r⟩
      | scr xs => cases e
      | non => cases e; exact h
      | bl _ => cases e; exact h
      | int _ => cases e; exact h
      | str _ => cases e; exact h
      | fn _ => cases e; exact h
      | ty _ => cases e; exact h
/-- a function's end -/
theorem ends_of {E : XK} {r : R Out} {Q : VK} (rl : RL G S F ι H) {kp : Bool} (p : Pst G (fun cls dd _ H' => E cls dd H') [] F ι H (ends kp S.length r) fun d _ F' ι' H' => ∀ v, Rep G F' ι' d v → Q v H') {σ : L2.St} :
    Pst G (Wk E) σ F ι H r (OutQ G { nx := fun _ H' => Q .non H', rt := Q }) := by
  have lv : ∀ (d : D) (S1 : Sto), Pst G (fun cls dd _ H' => E cls dd H') [] F ι H (leave kp S.length d S1) (fun d _ F' ι' H' => ∀ v, Rep G F' ι' d v → Q v H') → ∀ F' ι' H', Ext F ι H F' ι' H' → RL G S1 F' ι' H' → ∀ v, Rep G F' ι' d v → Q v H' := by
    intro d S1 q F' ι' H' ex l1 v rv
    unfold leave at q
    split at q
    · exact q F' ι' H' ex l1 v rv
    · rename_i hle
      rw [not_or] at hle
      split at q <;> try (exact (show False from q).elim)
      rename_i hs
      obtain ⟨F'', a, b, c⟩ := cut rl ex l1 (by omega) hs
      cases e : frz S.length S1 8 d with
      | none => rw [e] at q; exact (show False from q).elim
      | some d' =>
        rw [e] at q
        exact q F'' ι H' a b v (c 8 d d' v e rv)
  cases r with
  | ok o S1 =>
    cases o with
    | rt d => exact lv d S1 p
    | nx ρ => exact fun F' ι' H' ex l1 σ' _ => lv .non S1 p F' ι' H' ex l1 _ rfl
    | bk ρ => exact (show False from p).elim
    | ct ρ => exact (show False from p).elim
  | stuck => exact (show False from p).elim
  | exc c pl S1 =>
    intro cls dd F' ι' H' ex l1 er
    simp only [ends] at p
    split at p <;> try (exact (show False from p).elim)
    split at p
    · exact p cls dd F' ι' H' ex l1 er
    · split at p <;> try (exact (show False from p).elim)
      rename_i hle hs
      obtain ⟨F'', a, b, c⟩ := cut rl ex l1 (by omega) hs
      exact p cls dd F'' ι H' a b er
end
/-! ### arguments -/
theorem zip_lookup_some : ∀ {ps : List Str} {us : List Value} {n : Str}, us.length = ps.length → n ∈ ps → ((ps.zip us).lookup n).isNone = false
  | p :: ps, u :: us, n, hl, h => by
    rw [List.zip_cons_cons, List.lookup_cons]
    cases q : n == p with
    | true => rfl
    | false =>
      refine zip_lookup_some (by simpa using hl) ?_
      rcases List.mem_cons.mp h with z | z
      · rw [z] at q; simp at q
      · exact z
  | [], _, _, _, h => by cases h
  | _ :: _, [], _, hl, _ => by cases hl
theorem zip_filterMap : ∀ {ps : List Str} {us : List Value} {m : List (Str × Value)}, us.length = ps.length → ps.Nodup → (∀ n ∈ ps, m.lookup n = (ps.zip us).lookup n) → (ps.filterMap fun n => (m.lookup n).map fun x => (n, x)) = ps.zip us
  | [], _, _, _, _, _ => rfl
  | _ :: _, [], _, hl, _, _ => by cases hl
  | p :: ps, u :: us, m, hl, nd, h => by
    have hp := h p List.mem_cons_self
    rw [List.zip_cons_cons, List.lookup_cons, beq_self_eq_true] at hp
    rw [List.filterMap_cons, hp]
    show (p, u) :: _ = _
    rw [List.zip_cons_cons, zip_filterMap (m := m) (by simpa using hl) (List.nodup_cons.mp nd).2 fun n hn => ?_]
    rw [h n (List.mem_cons_of_mem _ hn), List.zip_cons_cons, List.lookup_cons]
    have : (n == p) = false := by
      rw [beq_eq_false_iff_ne]
      intro e
      exact (List.nodup_cons.mp nd).1 (e ▸ hn)
    rw [this]
theorem bind_plain {fd : FuncData} {ps : List Str} {us : List Value} (h1 : fd.params.posonlyargs = []) (h2 : fd.params.args.map (·.arg) = ps) (h3 : fd.params.vararg = none) (h4 : fd.params.kwonlyargs = []) (h5 : fd.params.kwarg = none) (hd : fd.defaults = .none) (hl : us.length = ps.length) (nd : ps.Nodup) :
    bindArgs fd ⟨us, []⟩ = pure (ps.zip us) := by
  unfold bindArgs
  simp only [h1, h2, h3, h4, h5, hd, List.map_nil, List.nil_append, List.append_nil]
  have e1 : seqItems? .none = pure none := by rfl
  rw [e1]
  rw [List.forIn_nil]
  rw [pure_bind, pure_bind]
  dsimp only
  have f0 : (Option.getD (none : Option (Array Value)) #[]).toList = [] := rfl
  rw [f0]
  rw [if_neg (by simp [hl])]
  simp only [List.length_nil, Nat.zero_sub, List.drop_nil, Nat.sub_zero, List.take_length, List.drop_length, List.zip_nil_left, List.zip_nil_right]
  have fl : (ps.filter fun n => ((ps.zip us).lookup n).isNone) = [] := List.filter_eq_nil_iff.mpr fun n hn => by rw [zip_lookup_some hl hn]; exact Bool.false_ne_true
  rw [fl]
  rw [if_neg (by decide), List.forIn_nil, pure_bind]
  rw [List.forIn_nil, pure_bind]
  rw [if_neg (show ¬ ((!([] : List Str).isEmpty) = true) from Bool.false_ne_true)]
  show pure (ps.filterMap fun n => ((ps.zip us).lookup n).map fun x => (n, x)) = _
  rw [zip_filterMap hl nd fun n _ => rfl]
/-! ### the text's functions -/
def lvK : Nat → Nat
  | 0 => 0
  | n + 1 => lvK n + 3
section
variable {G : Gl} {M : Mx} {P : Program} {w : World} {base : Heap} {mk : List Str → Mx} {exs : List Str} {prg : Prg} {k : Nat} {O : Orc}
theorem er_start {F : Hp} {ι : List Addr} : ∀ {ds : List D} {vs : List V} {n : Nat}, RepL G F ι ds vs → ER G F ι (ds.map some ++ List.replicate n none) (vs.map some ++ List.replicate n none) := by
  intro ds vs n h
  refine ⟨by simp [h.length], fun i d hi => ?_⟩
  by_cases q : i < ds.length
  · rw [List.getElem?_append_left (by simpa using q), List.getElem?_map] at hi
    rw [Option.map_eq_some_iff] at hi
    obtain ⟨d', e1, e2⟩ := hi
    cases e2
    obtain ⟨v, e3, r⟩ := h.get e1
    exact ⟨v, by rw [List.getElem?_append_left (by simpa [← h.length] using q), List.getElem?_map, e3]; rfl, r⟩
  · rw [List.getElem?_append_right (by simpa using Nat.le_of_not_lt q)] at hi
    have := List.mem_of_getElem? hi
    rw [List.mem_replicate] at this
    cases this.2
/-- what is known of a def of the text -/
structure DefAt (G : Gl) (base : Heap) (mk : List Str → Mx) (exs : List Str) (rp : Bool) (x : Str) (d : Fn) (a : Addr) (fd : FuncData) (N ps : List Str) (params : Arguments) (body : List Stmt) (scope : Scope) (lam : Bool) : Prop where
  m : G.mg x = some (.ref a)
  FD : FunD G.K x x params body scope [] [] a fd
  SC : FnScope N ps scope
  bd : BindU fd ps
  np : ps.length = d.np
  ns : N.length = d.ns
  ms : mSs (mk N) exs ⟨scope, lam, rp⟩ d.body body = true
  tab : lam = true → ∃ c P, fd.code = .ref c ∧ LamX.TabB base G.mg c P ∧ (P, (x ++ ".<locals>.") ++ "<lambda>") ∈ G.T ∧ ∀ p ∈ G.T, p.1 = P → p.2 = (x ++ ".<locals>.") ++ "<lambda>"
def DefOk (G : Gl) (base : Heap) (mk : List Str → Mx) (exs : List Str) (rp : Bool) (x : Str) (d : Fn) : Prop := ∃ a fd N ps params body scope lam, DefAt G base mk exs rp x d a fd N ps params body scope lam
structure PrgOk (G : Gl) (P : Program) (w : World) (base : Heap) (mk : List Str → Mx) (exs : List Str) (prg : Prg) : Prop where
  N : ∀ n, (mk n).N = n
  fns : ∀ n, (mk n).fns = G.names
  rps : ∀ n, (mk n).rps = G.rps
  glob : ∀ n x d, (mk n).glob.lookup x = some d → ∃ u v, G.mg x = some u ∧ RelV v u ∧ ∀ F ι, Rep G F ι d v
  free : ∀ n x, (mk n).free.contains x = true → G.mg x = none
  len : G.names.length = prg.fns.length
  exc : AmbX G prg.sub exs
  defs : ∀ f x d, G.names[f]? = some x → prg.fns[f]? = some d → DefOk G base mk exs (G.rps.contains f) x d
theorem fnG_of {x : Str} {d : Fn} {rp : Bool} {a : Addr} {fd : FuncData} {N ps : List Str} {params : Arguments} {body : List Stmt} {scope : Scope} {lam : Bool} (D0 : DefAt G base mk exs rp x d a fd N ps params body scope lam) (hN : ∀ n, (mk n).N = n) (A : ∀ n, Amb G (mk n) P w base k O) (B : AmbX G prg.sub exs) {call : List D → Sto → R D}
    (hcall : ∀ as S, call as S = if as.length = d.np then ends d.keep S.length (exSs prg.sub O d.body (as.map some ++ List.replicate (d.ns - d.np) none) S) else .stuck) : FnG P w G.K G.mg base rp (k + 3) a fd ps (spF G ps.length call) := by
  obtain ⟨m, FD, SC, bd, h1, h2, h3, h4⟩ := D0
  refine ⟨fun vs H Q E h => h.1, ?_⟩
  intro A0 outer s H args us vs Q E hr hg e0 bt rel sp
  obtain ⟨oc, od, dV, kV, doc, pm, an, cdv, ct, osl, rfl, lk, hcd, _, _⟩ := FD.ex
  obtain ⟨hl, ds, S, F, ι, rl, rv, p⟩ := sp
  refine LamX.run_ofS (CX := L2.CX P w) (k := k + 2) lk hcd SC hr e0 bt rel hl fun hr' => ?_
  rw [hcall, if_pos (by rw [rv.length, hl, h1])] at p
  refine ⟨_, sSs (A N) B d.body body (k + 2) ⟨scope, lam, rp⟩ (cxOf (L2.CX P w) P w G.K G.mg base N x scope a cdv A0 outer s H E) E (by omega) ⟨fun z => ⟨Nat.le_refl _, ⟨?_⟩⟩, fun z => ?_⟩ ?_ ?_ ?_ h3, ?_⟩
  · obtain ⟨c, P', e1, e2, e3, e4⟩ := h4 z
    exact ⟨c, P', e2, e1, e3, e4⟩
  · have := hg z
    first
      | exact this
      | (show (A0.deeper _).guards = some []; exact this)
  · exact ⟨rfl, rfl, rfl, rfl, rfl, (hN N).symm, SC.nd, rfl, rfl, hr'⟩
  · exact ⟨passes_of rfl, rfl, rfl, SC.kind, fun x hx => .inl rfl⟩
  · exact takes_of rfl rfl rfl rfl
  · have en : N.length - vs.length = d.ns - d.np := by rw [h2, hl, h1]
    refine ⟨ds.map some ++ List.replicate (d.ns - d.np) none, S, F, ι, ?_, rl, ends_of rl p⟩
    show ER G F ι _ (vs.map some ++ List.replicate (N.length - vs.length) none)
    rw [en]
    exact er_start rv
theorem fns_zero (T : PrgOk G P w base mk exs prg) (Wn : Nat) : FnsOk G P w base (lvK 0) (lv prg Wn 0).call := by
  intro f x hx
  have hf : f < prg.fns.length := by rw [← T.len]; exact (List.getElem?_eq_some_iff.mp hx).1
  obtain ⟨a, fd, N, ps, params, body, scope, lam, D0⟩ := T.defs f x _ hx (List.getElem?_eq_getElem hf)
  refine ⟨a, fd, ps, D0.m, D0.FD.kp, D0.bd, fun _ _ _ => rfl, fun vs H Q E h => h.1, ?_⟩
  intro A0 outer s H args us vs Q E hr hg e0 bt rel sp
  obtain ⟨hl, ds, S, F, ι, rl, rv, p⟩ := sp
  exact (show False from p).elim
theorem fns_step (T : PrgOk G P w base mk exs prg) (Wn n : Nat) (A : ∀ N, Amb G (mk N) P w base (lvK n) ⟨(lv prg Wn n).call, (lv prg Wn n).lam, Wn⟩) : FnsOk G P w base (lvK (n + 1)) (lv prg Wn (n + 1)).call := by
  intro f x hx
  have hf : f < prg.fns.length := by rw [← T.len]; exact (List.getElem?_eq_some_iff.mp hx).1
  have e := List.getElem?_eq_getElem hf
  obtain ⟨a, fd, N, ps, params, body, scope, lam, D0⟩ := T.defs f x _ hx e
  have hc : ∀ as S, (lv prg Wn (n + 1)).call f as S = if as.length = prg.fns[f].np then ends prg.fns[f].keep S.length (exSs prg.sub ⟨(lv prg Wn n).call, (lv prg Wn n).lam, Wn⟩ prg.fns[f].body (as.map some ++ List.replicate (prg.fns[f].ns - prg.fns[f].np) none) S) else .stuck := fun as S => by
    show run prg _ f as S = _
    unfold run
    rw [e]
  exact ⟨a, fd, ps, D0.m, D0.FD.kp, D0.bd, fun ds S ne => by rw [hc, if_neg (by rw [← D0.np]; exact ne)], fnG_of D0 T.N A T.exc hc⟩
theorem lam_none (h : M.gs = []) : LamProp G M P w base k O := by
  intro X W sc g x b e _ _ _ hm _
  simp only [mE] at hm
  split at hm <;> try (cases hm; done)
  simp only [Bool.and_eq_true, decide_eq_true_eq, h] at hm
  exact absurd hm.1.1.1.1.1.1.2 (by simp)
end
end Gx
set_option Elab.async false
set_option linter.all false
set_option maxRecDepth 100000
set_option maxHeartbeats 8000000
/-! Gx: a def that calls the lambda it is given, in a try. -/
namespace Gx
open PySem PySem.Spec PyProof.Rows L2
def mG (M : Mx) (exs : List Str) (sg : Scope) (a : Str) (d : GFn) : List Stmt → Bool
  | .Try [.Return (some (.Call (.Name y _) [] [] _)) _] hs [] [] _ :: rest => d.isRet && decide (y = a) && nonNil d.hs && mHds exs ⟨sg, false, false⟩ d.hs hs && rest.isEmpty
  | .Try [.Expr (.Call (.Name y _) [] [] _) _] hs [] [] _ :: rest => !d.isRet && decide (y = a) && nonNil d.hs && mHds exs ⟨sg, false, false⟩ d.hs hs && mSs M exs ⟨sg, false, false⟩ d.rest rest
  | _ => false
structure GAt (G : Gl) (mk : List Str → Mx) (exs : List Str) (x : Str) (d : GFn) (g : Addr) (fd : FuncData) (N : List Str) (a : Str) (params : Arguments) (body : List Stmt) (scope : Scope) : Prop where
  m : G.mg x = some (.ref g)
  FD : FunD G.K x x params body scope [] [] g fd
  SC : FnScope N [a] scope
  bd : BindU fd [a]
  n0 : N[0]? = some a
  va : Vis scope a
  ns : N.length = d.ns
  na : nd a = true
  ms : mG (mk N) exs scope a d body = true
def GsOk (G : Gl) (mk : List Str → Mx) (exs : List Str) (prg : Prg) : Prop := ∀ (N : List Str) (g : Nat) (x : Str), (mk N).gs[g]? = some x → ∃ d ga fd Ng a params body scope, prg.gs[g]? = some d ∧ GAt G mk exs x d ga fd Ng a params body scope
theorem catch_rt {sub : Str → Str → Option Bool} {c : Str} {p : Option D} {S : Sto} : ∀ (hs : List Hd) {o : Out} {S' : Sto}, catch_ sub c p S hs = .ok o S' → ∃ d, o = .rt d
  | [], o, S', h => by cases h
  | h :: r, o, S', e => by
    simp only [catch_] at e
    split at e
    · cases q : evH p h.ret with
      | none => rw [q] at e; cases e
      | some d => rw [q] at e; cases e; exact ⟨d, rfl⟩
    · exact catch_rt r e
    · cases e
section
variable {G : Gl} {M : Mx} {P : Program} {w : World} {base : Heap} {mk : List Str → Mx} {exs : List Str} {prg : Prg} {k : Nat} {O : Orc} {X : Cx}
theorem ext_n {S : Sto} {F : Hp} {ι : List Addr} {H H1 : Hp} (rl : RL G S F ι H) (e : LamX.ExtN H H1) (t : LamX.Tabs G.T H1) : Ext F ι H F ι H1 ∧ RL G S F ι H1 := by
  refine ⟨⟨fun _ _ h => h, ⟨[], by simp, by simp⟩, fun b o h _ ht => e b o h ht, fun _ _ h => .inl h⟩, fun a o h => e _ _ (rl.sub _ _ h) fun ps z => rl.ft a ps (by rw [h, z]), rl.ft, rl.len, rl.nd, rl.out, fun k a o h1 h2 => ?_, t⟩
  have := rl.obj k a o h1 h2
  cases o with
  | lst xs =>
    obtain ⟨vs, q1, q2⟩ := this
    exact ⟨vs, e _ _ q1 (fun _ z => by cases z), q2⟩
/-- what the def makes of the lambda's reading -/
def TTg (G : Gl) (prg : Prg) (O : Orc) (g : Nat) : (XK → Hp → VK → Prop) → Hp → VK → Prop := fun tl H Q => ∃ (t : Sto → R D) (S : Sto) (F : Hp) (ι : List Addr), RL G S F ι H ∧
  (∀ (E : XK) (F1 : Hp) (ι1 : List Addr) (H1 : Hp) (Q1 : VK), Ext F ι H F1 ι1 H1 → RL G S F1 ι1 H1 → Pst G (Wk E) [] F1 ι1 H1 (t S) (fun d _ F' ι' H' => ∀ v, Rep G F' ι' d v → Q1 v H') → tl E H1 Q1) ∧
  Pst G (fun _ _ _ _ => False) [] F ι H (runG prg O g t S) fun d _ F' ι' H' => ∀ v, Rep G F' ι' d v → Q v H'
theorem er_none {F : Hp} {ι : List Addr} {n : Nat} {Ng : List Str} {f : V} (h : Ng.length = n) (h0 : 0 < n) : ER G F ι (List.replicate n none) (L2.start Ng [f]) := by
  refine ⟨?_, fun i d e => ?_⟩
  · unfold L2.start
    rw [List.length_append, List.length_map, List.length_replicate, List.length_replicate, List.length_singleton, h]
    omega
  · have := List.mem_of_getElem? e
    rw [List.mem_replicate] at this
    cases this.2
theorem gives (B : AmbX G prg.sub exs) {x : Str} {d : GFn} {gi : Nat} {ga : Addr} {fd : FuncData} {Ng : List Str} {a : Str} {params : Arguments} {body : List Stmt} {scope : Scope} (D0 : GAt G mk exs x d ga fd Ng a params body scope) (hd : prg.gs[gi]? = some d) (hN : ∀ n, (mk n).N = n) (A : ∀ n, Amb G (mk n) P w base k O) {sc : Scope} (good : Good G P w base (k + 1) M sc X) (hr : Room (k + 2) X.A) {cdg : Value} {q : Str} :
    LamX.GivesTo X Ng x scope ga cdg body a q (TTg G prg O gi) := by
  obtain ⟨m, FD, SC, bd, n0, va, ns, na, ms⟩ := D0
  intro f c' s H Q tl act hc ⟨t, S, F, ι, rl, hl, p⟩
  have g1 : Good G P w base (k + 1) (mk Ng) scope (cxOf C8.CX0 X.prog X.w X.K X.mg X.base Ng x scope ga cdg X.A X.stack s H C8.E0).nox := ⟨good.pP, good.pw, good.pb, good.pK, good.pm, (hN Ng).symm, SC.nd, rfl, rfl, hr.deeper _⟩
  have gs1 : GoodS (cxOf C8.CX0 X.prog X.w X.K X.mg X.base Ng x scope ga cdg X.A X.stack s H C8.E0).nox := ⟨PassesOwn.never, rfl, rfl, SC.kind, fun _ _ => .inl rfl⟩
  have tk1 : Takes (cxOf C8.CX0 X.prog X.w X.K X.mg X.base Ng x scope ga cdg X.A X.stack s H C8.E0).nox (Wk fun _ _ _ => False) := takesF rfl
  have hst : (L2.start Ng [V.ref f])[0]? = some (some (V.ref f)) := rfl
  unfold runG at p
  rw [hd] at p
  have p := ends_of rl (E := fun _ _ _ => False) (σ := L2.start Ng [V.ref f]) (noX_any (W' := fun _ _ _ _ => False) (σ' := []) p)
  have h0 : 0 < d.ns := by
    rw [← ns]
    cases Ng with
    | nil => cases n0
    | cons _ _ => exact Nat.succ_pos _
  unfold mG at ms
  split at ms
  · rename_i y p1 p2 p3 hs p4 rest
    simp only [Bool.and_eq_true, decide_eq_true_eq, List.isEmpty_iff] at ms
    obtain ⟨⟨⟨⟨r1, rfl⟩, r2⟩, r3⟩, rfl⟩ := ms
    cases hs with
    | nil =>
      cases hh : d.hs with
      | nil => rw [hh] at r2; cases r2
      | cons _ _ => rw [hh] at r3; cases r3
    | cons e0 er =>
      refine ⟨_, pss_one (ps_try_many (l := lOf G d.hs) (Wout := Wk fun _ _ _ => False) (tb := fun W D σ H => ∃ Ech : XK, (∀ cls dd σ' H', Ech cls dd H' → W cls dd σ' H') ∧ σ[0]? = some (some (.ref f)) ∧ H c' = some (LamX.CodeO c' q) ∧ tl Ech H D.rt) rfl rfl tk1
        (fun W pn xe tk _ => ⟨fun pins s' σ H' D I ⟨Ech, hW, h1, h2, h3⟩ => (pss_one (ps_ret (pos := p3) (act W pn xe Ech p1 p2 tk hW))).run pins s' σ H' D I ⟨h1, h2, h3⟩⟩) (hds_ok B (j := k + 1) (sc := ⟨scope, false, false⟩) g1 d.hs (e0 :: er) r3)), ?_⟩
      refine ⟨fun cls dd H' => ∀ σ', wMany X.K (Wk fun _ _ _ => False) { nx := fun _ H' => Q .non H', rt := Q } (lOf G d.hs) cls dd σ' H', fun cls dd σ' H' z => z σ', hst, hc, hl _ F ι H Q Ext.refl rl ?_⟩
      cases e : t S with
      | stuck => rw [e] at p; exact (show False from p).elim
      | ok v S1 =>
        rw [e, r1] at p
        exact p
      | exc c pl S1 =>
        rw [e] at p
        intro cls dd F1 ι1 H1 ex l1 exr σ'
        rw [good.pK]
        exact many_of B ex l1 exr d.hs (e0 :: er) r3 p.st
  · rename_i y p1 p2 p3 hs p4 rest
    simp only [Bool.and_eq_true, decide_eq_true_eq, Bool.not_eq_true'] at ms
    obtain ⟨⟨⟨⟨r1, rfl⟩, r2⟩, r3⟩, r4⟩ := ms
    cases hs with
    | nil =>
      cases hh : d.hs with
      | nil => rw [hh] at r2; cases r2
      | cons _ _ => rw [hh] at r3; cases r3
    | cons e0 er =>
      have rs := sSs (A Ng) B d.rest rest (k + 1) ⟨scope, false, false⟩ (cxOf C8.CX0 X.prog X.w X.K X.mg X.base Ng x scope ga cdg X.A X.stack s H C8.E0).nox (fun _ _ _ => False) (by omega) ⟨fun z => (by cases z), fun z => (by cases z)⟩ g1 gs1 tk1 r4
      refine ⟨_, pss_cons (ps_try_many (l := lOf G d.hs) (Wout := Wk fun _ _ _ => False) (tb := fun W D σ H => ∃ Ech : XK, (∀ cls dd σ' H', Ech cls dd H' → W cls dd σ' H') ∧ σ[0]? = some (some (.ref f)) ∧ H c' = some (LamX.CodeO c' q) ∧ tl Ech H fun _ H1 => D.nx σ H1) rfl rfl tk1
        (fun W pn xe tk _ => ⟨fun pins s' σ H' D I ⟨Ech, hW, h1, h2, h3⟩ => (pss_one (ps_expr (pos := p3) (act W pn xe Ech p1 p2 tk hW) rfl)).run pins s' σ H' D I ⟨h1, h2, h3⟩⟩) (hds_ok B (j := k + 1) (sc := ⟨scope, false, false⟩) g1 d.hs (e0 :: er) r3)) rs, ?_⟩
      refine ⟨fun cls dd H' => ∀ σ', wMany X.K (Wk fun _ _ _ => False) _ (lOf G d.hs) cls dd σ' H', fun cls dd σ' H' z => z σ', hst, hc, hl _ F ι H _ Ext.refl rl ?_⟩
      cases e : t S with
      | stuck => rw [e] at p; exact (show False from p).elim
      | ok v S1 =>
        rw [e] at p
        dsimp only at p
        rw [r1, if_neg Bool.false_ne_true] at p
        intro F1 ι1 H1 ex l1 v' rv
        exact ⟨List.replicate d.ns none, S1, F1, ι1, er_none ns h0, l1, p.shift ex l1⟩
      | exc c pl S1 =>
        rw [e] at p
        intro cls dd F1 ι1 H1 ex l1 exr σ'
        rw [good.pK]
        refine many_of B ex l1 exr d.hs (e0 :: er) r3 (σ := σ') ?_
        have p : Pst G (Wk fun _ _ _ => False) (L2.start Ng [V.ref f]) F ι H (catch_ prg.sub c pl S1 d.hs) (OutQ G { nx := fun _ H' => Q .non H', rt := Q }) := p
        cases e2 : catch_ prg.sub c pl S1 d.hs with
        | stuck => rw [e2] at p; exact (show False from p).elim
        | exc _ _ _ => rw [e2] at p; exact p
        | ok o S2 =>
          obtain ⟨dd', rfl⟩ := catch_rt d.hs e2
          rw [e2] at p
          exact p
  · cases ms
theorem noX_any' {W W' : WX} {σ σ' : L2.St} {F : Hp} {ι : List Addr} {H : Hp} {α : Type} {r : R α} {Q : α → Sto → Hp → List Addr → Hp → Prop} (h : Pst G W σ F ι H (noX r) Q) : Pst G W' σ' F ι H (noX r) Q := by
  cases r with
  | ok a S' => exact h
  | exc c p S' => exact h.elim
  | stuck => exact h.elim
theorem tLam_of {T : List (Addr × Str)} {gi : Nat} {b : CE} {O' : Orc} {W : WX} {σ : L2.St} {H : Hp} {Q : VK} {f : (Sto → R D) → Sto → R D} (hf : ∀ t S, f t S = runG prg O' gi t S) (hT : T = G.T) (h : tE G W (fun ρ S => f (fun S1 => evE O b ρ S1) S) σ H Q) :
    LamX.tLam T (TTg G prg O' gi) (fun E => tE G (Wk E) fun ρ S => evE O b ρ S) σ H Q := by
  subst hT
  obtain ⟨ρ, S, F, ι, er, rl, p⟩ := h
  refine ⟨rl.tabs, fun H1 e t => ?_⟩
  obtain ⟨ex, rl1⟩ := ext_n rl e t
  refine ⟨fun S1 => evE O b ρ S1, S, F, ι, rl1, fun E F1 ι1 H2 Q1 ex1 rl2 q => ⟨ρ, S, F1, ι1, er.ext ex1, rl2, q.st⟩, ?_⟩
  dsimp only at p
  rw [hf] at p
  unfold runG at p ⊢
  split at p
  · rename_i d hd
    exact (noX_any' p).shift ex rl1
  · exact (show False from p).elim
theorem lam_prop (B : AmbX G prg.sub exs) (GS : GsOk G mk exs prg) (hN : ∀ n, (mk n).N = n) (hK : G.K = G.K) {O' : Orc} {k' : Nat} (hk : k' ≤ k) (A' : ∀ n, Amb G (mk n) P w base k' O') (hO : ∀ g t S, O.lam g t S = runG prg O' g t S) (Ng0 : List Str) :
    LamProp G (mk Ng0) P w base k O := by
  intro X W sc gi x b e good lo tk hm hb
  simp only [mE] at hm
  split at hm <;> try (cases hm; done)
  rename_i y p1 ps body lsc p2 p3
  simp only [Bool.and_eq_true, decide_eq_true_eq, List.isEmpty_iff] at hm
  obtain ⟨⟨⟨⟨⟨⟨⟨⟨⟨rfl, h1⟩, h2⟩, h3⟩, h4⟩, h5⟩, h6⟩, h7⟩, h8⟩, h9⟩ := hm
  obtain ⟨d, ga, fd, Ng, a, params, gbody, scope, hd, D0⟩ := GS Ng0 gi y h3
  have D1 := D0
  obtain ⟨m, FD, SC, bd, n0, va, ns, na, ms⟩ := D0
  obtain ⟨oc, od, dV, kV, doc, pm, an, cdv, ct, osl, rfl, lk, hcd, _, _⟩ := FD.ex
  obtain ⟨c, Pp, TB, hcode, hmT, hu⟩ := lo.ex
  obtain ⟨n1, n2, n3⟩ := nd_of h2
  obtain ⟨m1, m2, m3⟩ := nd_of na
  simp only [argB, Bool.and_eq_true, decide_eq_true_eq, List.isEmpty_iff, Option.isNone_iff_eq_none] at h6
  obtain ⟨⟨⟨⟨⟨b1, b2⟩, b3⟩, b4⟩, b5⟩, b6⟩ := h6
  have hdef : defaultsOf ps X.env = ([], []) := by
    obtain ⟨q1, q2, q3, q4, q5, q6, q7⟩ := ps
    cases (show q7 = [] from h7)
    cases (show q5 = [] from h8)
    rfl
  have hbn : L2.Binds X.K (PySem.W.fnOf y y params gbody scope dV kV doc pm an cdv ct) [a] [] := fun s us _ hl => by
    have := bd s us (by simpa using hl)
    simpa using this
  have gv := gives (gi := gi) B D1 hd hN A' (good.mono (by omega)) (good.room.mono (by omega)) (cdg := cdv) (q := X.env.qual ++ "<lambda>")
  refine pe_weak (LamX.pe_lamcall (T := G.T) (TT := TTg G prg O' gi) (t := fun E => tE G (Wk E) fun ρ S => evE O b ρ S) (k := k) (g := ga) (a := a) (Ng := Ng) (good.gl h1) (by rw [good.pm]; exact m) (by rw [good.pK]; exact FD.kp) (by rw [good.pK]; exact lk) (by rw [good.pK]; exact hcd) hbn SC n0 va gv TB hcode hmT hu good.room (LamX.lamS_by (by rw [good.sc]; exact h5)) hdef
    (fun q cl pm cv ctv => by
      have := bind_plain (fd := PySem.W.kla_fn "<lambda>" q ps body lsc cl pm cv ctv) (ps := []) (us := []) b1 b2 b3 b4 b5 rfl rfl List.nodup_nil
      exact this)
    (fun A outer s H E f c' hr => hb (LamX.lamCx X A outer s H E lsc f c') (Wk E) lsc body ⟨good.pP, good.pw, good.pb, good.pK, good.pm, good.pN, good.nd, rfl, rfl, hr⟩ (takes_of rfl rfl rfl rfl) h9) n1 m1 m2) fun σ H Q q => ?_
  simp only [evE] at q
  exact tLam_of (f := fun t S => O.lam gi t S) (fun t S => hO gi t S) rfl q
/-- the levels -/
theorem levels (T : PrgOk G P w base mk exs prg) (GS : GsOk G mk exs prg) (Wn : Nat) : ∀ n N, Amb G (mk N) P w base (lvK n) ⟨(lv prg Wn n).call, (lv prg Wn n).lam, Wn⟩
  | 0, N => ⟨T.fns N, T.rps N, T.glob N, T.free N, fns_zero T Wn, fun X W sc g x b e _ _ _ _ _ => ⟨fun pins s σ H Q I h => by
      obtain ⟨ρ, S, F, ι, er, rl, p⟩ := h
      simp only [evE] at p
      exact (show False from p).elim⟩⟩
  | n + 1, N => ⟨T.fns N, T.rps N, T.glob N, T.free N, fns_step T Wn n (levels T GS Wn n), lam_prop T.exc GS T.N rfl (k' := lvK n) (by show lvK n ≤ lvK n + 3; omega) (levels T GS Wn n) (fun g t S => rfl) N⟩
end
end Gx
set_option Elab.async false
set_option linter.all false
set_option maxRecDepth 100000
set_option maxHeartbeats 8000000
/-! Gx: from a row's head to its text's functions. -/
namespace Gx
open PySem PySem.Spec PyProof.Rows L2
/-! ### the tables of a text -/
structure Df where
  x : Str
  st : Stmt
  N : List Str
  ps : List Str
  lam : Bool
  d : Fn
structure Gf where
  x : Str
  st : Stmt
  N : List Str
  a : Str
  d : GFn
structure Tb where
  defs : List Df
  gds : List Gf
  glob : List (Str × D)
  free : List Str
  rps : List Nat
  exs : List Str
  subs : List (Str × Str × Bool)
def Tb.names (T : Tb) : List Str := T.defs.map (·.x)
def fnGl : Nat → List Str → List (Str × D)
  | _, [] => []
  | i, x :: r => (x, .fn i) :: fnGl (i + 1) r
def Tb.mx (T : Tb) (N : List Str) : Mx := ⟨N, T.names, T.gds.map (·.x), T.glob ++ fnGl 0 T.names, T.free, T.rps⟩
def Tb.sub (T : Tb) : Str → Str → Option Bool := fun c k => (T.subs.find? fun t => decide (t.1 = c) && decide (t.2.1 = k)).map (·.2.2)
def Tb.prg (T : Tb) : Prg := ⟨T.defs.map (·.d), T.gds.map (·.d), T.sub⟩
def Df.toD (f : Df) : He.DefD := ⟨(f.x, none), f.x, f.x, defArgs f.st, defBody f.st, defScope f.st, [], []⟩
def Gf.toD (f : Gf) : He.DefD := ⟨(f.x, none), f.x, f.x, defArgs f.st, defBody f.st, defScope f.st, [], []⟩
def Tb.fa (T : Tb) : List He.Fa := (T.names ++ T.gds.map (·.x)).map .glo ++ T.exs.map .glo ++ T.exs.map .exc ++ T.free.map .free ++ T.subs.map fun t => .exm t.1 t.2.1 t.2.2
def Tb.fn (T : Tb) : List He.DefD := T.defs.map Df.toD ++ T.gds.map Gf.toD
def Tb.lams (T : Tb) : List He.Defn := (T.defs.filter (·.lam)).map fun f => (f.x, none)
def Tb.TT (T : Tb) (K : PySem.W.Frag) : List (Addr × Str) := T.lams.map fun p => ((He.cT K p).2, (p.1 ++ ".<locals>.") ++ "<lambda>")
mutual
def dB (K : PySem.W.Frag) : D → Value → Bool
  | .non, .none => true
  | .bl a, .bool b => a == b
  | .int i, .int j _ => decide (i = j)
  | .str x, .str y _ => decide (x = y)
  | .tup xs, .ref a => match K.lookup a with
    | some ⟨.type c, _, .seq its _, _⟩ => decide (c = "tuple") && decide (its.size ≤ sizeLine) && dBL K xs its.toList
    | _ => false
  | _, _ => false
def dBL (K : PySem.W.Frag) : List D → List Value → Bool
  | [], [] => true
  | x :: xs, u :: us => dB K x u && dBL K xs us
  | _, _ => false
end
mutual
theorem dB_ok {G : Gl} : ∀ (d : D) (u : Value), dB G.K d u = true → ∃ v, RelV v u ∧ ∀ F ι, Rep G F ι d v
  | .non, u, h => by
    cases u <;> simp only [dB] at h <;> first | cases h | skip
    exact ⟨.non, rfl, fun _ _ => rfl⟩
  | .bl a, u, h => by
    cases u <;> simp only [dB] at h <;> first | (cases h; done) | skip
    cases eq_of_beq h
    exact ⟨.bl a, rfl, fun _ _ => rfl⟩
  | .int i, u, h => by
    cases u <;> simp only [dB] at h <;> first | (cases h; done) | skip
    cases of_decide_eq_true h
    exact ⟨.int i, ⟨_, rfl⟩, fun _ _ => rfl⟩
  | .str i, u, h => by
    cases u <;> simp only [dB] at h <;> first | (cases h; done) | skip
    cases of_decide_eq_true h
    exact ⟨.str i, ⟨_, rfl⟩, fun _ _ => rfl⟩
  | .tup xs, u, h => by
    cases u <;> simp only [dB] at h <;> first | (cases h; done) | skip
    rename_i a
    split at h <;> try (cases h; done)
    rename_i c od its n sl lk
    simp only [Bool.and_eq_true, decide_eq_true_eq] at h
    obtain ⟨⟨rfl, h1⟩, h2⟩ := h
    obtain ⟨vs, rv, rp⟩ := dBL_ok xs its.toList h2
    exact ⟨.ref a, rfl, fun F ι => ⟨a, vs, rfl, .inr ⟨_, its, n, lk, rfl, rfl, h1, rv⟩, rp F ι⟩⟩
  | .lst _, u, h => by simp only [dB] at h; cases h
  | .scr _, u, h => by simp only [dB] at h; cases h
  | .loc _, u, h => by simp only [dB] at h; cases h
  | .fn _, u, h => by simp only [dB] at h; cases h
  | .ty _, u, h => by simp only [dB] at h; cases h
theorem dBL_ok {G : Gl} : ∀ (ds : List D) (us : List Value), dBL G.K ds us = true → ∃ vs, Vals vs us ∧ ∀ F ι, RepL G F ι ds vs
  | [], us, h => by
    cases us with
    | nil => exact ⟨[], .nil, fun _ _ => rfl⟩
    | cons _ _ => simp only [dBL] at h; cases h
  | x :: xs, us, h => by
    cases us with
    | nil => simp only [dBL] at h; cases h
    | cons u us =>
      simp only [dBL, Bool.and_eq_true] at h
      obtain ⟨v, r, p⟩ := dB_ok x u h.1
      obtain ⟨vs, rs, ps⟩ := dBL_ok xs us h.2
      exact ⟨v :: vs, .cons r rs, fun F ι => ⟨v, vs, rfl, p F ι, ps F ι⟩⟩
end
theorem look_mem {α : Type} {x : Str} {d : α} : ∀ {l : List (Str × α)}, l.lookup x = some d → (x, d) ∈ l
  | [], h => by cases h
  | (y, e) :: r, h => by
    rw [List.lookup_cons] at h
    split at h
    · rename_i q
      cases h
      rw [eq_of_beq q]
      exact List.mem_cons_self
    · exact List.mem_cons_of_mem _ (look_mem h)
theorem fnGl_mem {x : Str} {d : D} : ∀ {l : List Str} {j : Nat}, (x, d) ∈ fnGl j l → ∃ i, l[i]? = some x ∧ d = .fn (j + i)
  | [], _, h => by cases h
  | y :: r, j, h => by
    rcases List.mem_cons.mp h with z | z
    · cases z
      exact ⟨0, rfl, rfl⟩
    · obtain ⟨i, e1, e2⟩ := fnGl_mem z
      exact ⟨i + 1, by simpa using e1, by rw [e2, Nat.add_assoc, Nat.add_comm 1]⟩
def gB (K : PySem.W.Frag) (x : Str) (d : D) : Bool := match PySem.W.nsIn K mainGlobals x with
  | some (some u) => dB K d u
  | _ => false
def Tb.ex (T : Tb) (K : PySem.W.Frag) : Bool := (T.glob.all fun p => gB K p.1 p.2) && T.lams.all fun p => T.lams.all fun p' => !decide ((He.cT K p).2 = (He.cT K p').2) || decide (p.1 = p'.1)
def scB (N ps : List Str) (sc : Scope) : Bool := decide (sc.kind = .function) && !sc.isCoroutine && !sc.isGenerator && decide N.Nodup && decide (N.take ps.length = ps) && ps.all (fun x => decide (sc.names.lookup x = some .local) || decide (sc.names.lookup x = some .cell)) && sc.names.all fun y => decide (y.2 ≠ .free)
theorem scB_ok {N ps : List Str} {sc : Scope} (h : scB N ps sc = true) : FnScope N ps sc := by
  simp only [scB, Bool.and_eq_true, decide_eq_true_eq, Bool.not_eq_true'] at h
  obtain ⟨⟨⟨⟨⟨⟨h1, h2⟩, h3⟩, h4⟩, h5⟩, h6⟩, h7⟩ := h
  refine ⟨h1, h2, h3, h4, h5, fun x hx => ?_, fun y hy => ?_⟩
  · have := List.all_eq_true.mp h6 x hx
    simpa using this
  · have := List.all_eq_true.mp h7 y hy
    simpa using this
def chkD (T : Tb) (i : Nat) (f : Df) : Bool := argB (defArgs f.st) f.ps && scB f.N f.ps (defScope f.st) && decide (f.ps.length = f.d.np) && decide (f.N.length = f.d.ns) && mSs (T.mx f.N) T.exs ⟨defScope f.st, f.lam, T.rps.contains i⟩ f.d.body (defBody f.st)
def chkAll (T : Tb) : Nat → List Df → Bool
  | _, [] => true
  | i, f :: r => chkD T i f && chkAll T (i + 1) r
def chkG (T : Tb) (f : Gf) : Bool := argB (defArgs f.st) [f.a] && scB f.N [f.a] (defScope f.st) && decide (f.N[0]? = some f.a) && vis (defScope f.st) f.a && decide (f.N.length = f.d.ns) && nd f.a && mG (T.mx f.N) T.exs (defScope f.st) f.a f.d (defBody f.st)
def Tb.chk (T : Tb) : Bool := chkAll T 0 T.defs && T.gds.all (chkG T) && T.subs.all fun t => T.exs.contains t.1 && T.exs.contains t.2.1
theorem chkAll_get {T : Tb} : ∀ {l : List Df} {j i : Nat} {f : Df}, chkAll T j l = true → l[i]? = some f → chkD T (j + i) f = true
  | [], _, _, _, _, e => by cases e
  | g :: r, j, 0, f, h, e => by
    simp only [chkAll, Bool.and_eq_true] at h
    cases e
    exact h.1
  | g :: r, j, i + 1, f, h, e => by
    simp only [chkAll, Bool.and_eq_true] at h
    have := chkAll_get (i := i) h.2 (by simpa using e)
    rw [Nat.add_assoc, Nat.add_comm 1] at this
    exact this
theorem argB_ok {a : Arguments} {ps : List Str} (h : argB a ps = true) {x q : Str} {body : List Stmt} {scope : Scope} {dV kV doc pm cdv ct : Value} {an : Option Addr} (hd : dV = .none) : BindU (PySem.W.fnOf x q a body scope dV kV doc pm an cdv ct) ps := by
  simp only [argB, Bool.and_eq_true, decide_eq_true_eq, List.isEmpty_iff, Option.isNone_iff_eq_none] at h
  obtain ⟨⟨⟨⟨⟨h1, h2⟩, h3⟩, h4⟩, h5⟩, h6⟩ := h
  exact fun s us hl => .of_eq (bind_plain h1 h2 h3 h4 h5 hd hl h6)
def glOf (T : Tb) (K : PySem.W.Frag) (mg : Str → Option Value) (TT : List (Addr × Str)) : Gl := ⟨K, mg, T.names, TT, T.rps⟩
section
variable {T : Tb} {P : Program} {w : World} {K : PySem.W.Frag} {mg : Str → Option Value} {base h : Heap} {tf : List He.Defn} {TT : List (Addr × Str)} {k : Nat}
theorem fa_ok {ts : List He.Tab} (c : He.SaysX T.fa T.fn ts tf T.ex w h K) {f : He.Fa} (hf : f ∈ T.fa) : f.ok K = true := He.SaysD.facts c.t.d hf
theorem mem_names {x : Str} (hx : x ∈ T.names) : He.Fa.glo x ∈ T.fa := by
  unfold Tb.fa
  simp only [List.mem_append]
  exact .inl (.inl (.inl (.inl (List.mem_map.mpr ⟨x, List.mem_append.mpr (.inl hx), rfl⟩))))
theorem mem_gnames {x : Str} (hx : x ∈ T.gds.map (·.x)) : He.Fa.glo x ∈ T.fa := by
  unfold Tb.fa
  simp only [List.mem_append]
  exact .inl (.inl (.inl (.inl (List.mem_map.mpr ⟨x, List.mem_append.mpr (.inr hx), rfl⟩))))
theorem mem_exs {x : Str} (hx : x ∈ T.exs) : He.Fa.glo x ∈ T.fa ∧ He.Fa.exc x ∈ T.fa := by
  unfold Tb.fa
  simp only [List.mem_append, List.mem_map]
  exact ⟨.inl (.inl (.inl (.inr ⟨x, hx, rfl⟩))), .inl (.inl (.inr ⟨x, hx, rfl⟩))⟩
theorem mem_free {x : Str} (hx : x ∈ T.free) : He.Fa.free x ∈ T.fa := by
  unfold Tb.fa
  simp only [List.mem_append, List.mem_map]
  exact .inl (.inr ⟨x, hx, rfl⟩)
theorem mem_subs {t : Str × Str × Bool} (ht : t ∈ T.subs) : He.Fa.exm t.1 t.2.1 t.2.2 ∈ T.fa := by
  unfold Tb.fa
  simp only [List.mem_append, List.mem_map]
  exact .inr ⟨t, ht, rfl⟩
theorem at_of {ts : List He.Tab} (hc : T.chk = true) (KX : K.In h) (Gn : h.Ns mainGlobals mg) (c : He.SaysX T.fa T.fn ts tf T.ex w h K)
    (tab : ∀ f ∈ T.defs, f.lam = true → ∀ fd, FunD K f.x f.x (defArgs f.st) (defBody f.st) (defScope f.st) [] [] (He.ga K f.x) fd → ∃ c P, fd.code = .ref c ∧ LamX.TabB base mg c P ∧ (P, (f.x ++ ".<locals>.") ++ "<lambda>") ∈ TT ∧ ∀ p ∈ TT, p.1 = P → p.2 = (f.x ++ ".<locals>.") ++ "<lambda>")
    {i : Nat} {f : Df} (hf : T.defs[i]? = some f) {fd : FuncData} (FD : FunD K f.x f.x (defArgs f.st) (defBody f.st) (defScope f.st) [] [] (He.ga K f.x) fd) :
    DefAt (glOf T K mg TT) base T.mx T.exs (T.rps.contains i) f.x f.d (He.ga K f.x) fd f.N f.ps (defArgs f.st) (defBody f.st) (defScope f.st) f.lam := by
  have h1 : chkAll T 0 T.defs = true := by
    unfold Tb.chk at hc
    exact (Bool.and_eq_true_iff.mp (Bool.and_eq_true_iff.mp hc).1).1
  have h2 := chkAll_get h1 hf
  rw [Nat.zero_add] at h2
  simp only [chkD, Bool.and_eq_true, decide_eq_true_eq] at h2
  obtain ⟨⟨⟨⟨h3, h4⟩, h5⟩, h6⟩, h7⟩ := h2
  have hm : f ∈ T.defs := List.mem_of_getElem? hf
  refine ⟨He.glo_ok KX Gn (fa_ok c (mem_names (List.mem_map.mpr ⟨f, hm, rfl⟩))), FD, scB_ok h4, ?_, h5, h6, h7, fun z => tab f hm z fd FD⟩
  obtain ⟨oc, od, dV, kV, doc, pm, an, cdv, ct, osl, rfl, lk, hcd, hD, hK⟩ := FD.ex
  refine argB_ok h3 ?_
  rcases hD with ⟨_, e⟩ | ⟨e, _⟩
  · exact e
  · exact absurd rfl e
theorem prg_ok {ts : List He.Tab} (hc : T.chk = true) (KX : K.In h) (Gn : h.Ns mainGlobals mg) (c : He.SaysX T.fa T.fn ts tf T.ex w h K)
    (tab : ∀ f ∈ T.defs, f.lam = true → ∀ fd, FunD K f.x f.x (defArgs f.st) (defBody f.st) (defScope f.st) [] [] (He.ga K f.x) fd → ∃ c P, fd.code = .ref c ∧ LamX.TabB base mg c P ∧ (P, (f.x ++ ".<locals>.") ++ "<lambda>") ∈ TT ∧ ∀ p ∈ TT, p.1 = P → p.2 = (f.x ++ ".<locals>.") ++ "<lambda>") :
    PrgOk (glOf T K mg TT) P w base T.mx T.exs T.prg := by
  refine ⟨fun _ => rfl, fun _ => rfl, fun _ => rfl, fun n x d e => ?_, fun n x e => ?_, ?_, ⟨fun x hx => ?_, fun c0 k0 b e C C' m1 m2 => ?_⟩, fun i x d hx hd => ?_⟩
  · have hm : (x, d) ∈ T.glob ++ fnGl 0 T.names := look_mem e
    rcases List.mem_append.mp hm with hm | hm
    case inr =>
      obtain ⟨i, e1, e2⟩ := fnGl_mem hm
      rw [Nat.zero_add] at e2
      subst e2
      have gl := He.glo_ok KX Gn (fa_ok c (mem_names (List.mem_of_getElem? e1)))
      exact ⟨_, .ref (He.ga K x), gl, rfl, fun F ι => ⟨x, _, e1, rfl, gl⟩⟩
    have := List.all_eq_true.mp (Bool.and_eq_true_iff.mp c.more).1 (x, d) hm
    unfold gB at this
    split at this
    · rename_i u hu
      obtain ⟨v, r, p⟩ := dB_ok (G := glOf T K mg TT) d u this
      exact ⟨u, v, PySem.W.mg_of KX Gn hu, r, p⟩
    · cases this
  · exact He.free_ok KX Gn (fa_ok c (mem_free (show x ∈ T.free from by have e : T.free.contains x = true := e; simpa using e)))
  · show T.names.length = (T.defs.map (·.d)).length
    unfold Tb.names
    rw [List.length_map, List.length_map]
  · have hx' : x ∈ T.exs := by simpa using hx
    obtain ⟨a, b⟩ := mem_exs hx'
    obtain ⟨q1, q2, q3, q4⟩ := He.exc_ok (fa_ok c b)
    exact ⟨He.ga K x, He.veBase, _, _, _, PySem.F.excBase_ValueError, q1, He.glo_ok KX Gn (fa_ok c a), q2, q3, q4⟩
  · have e : T.sub c0 k0 = some b := e
    unfold Tb.sub at e
    rw [Option.map_eq_some_iff] at e
    obtain ⟨t, e1, rfl⟩ := e
    have ht := List.mem_of_find?_eq_some e1
    have hp := List.find?_some e1
    simp only [Bool.and_eq_true, decide_eq_true_eq] at hp
    obtain ⟨rfl, rfl⟩ := hp
    have hs : (T.subs.all fun t => T.exs.contains t.1 && T.exs.contains t.2.1) = true := by
      unfold Tb.chk at hc
      exact (Bool.and_eq_true_iff.mp hc).2
    have := List.all_eq_true.mp hs t ht
    rw [Bool.and_eq_true] at this
    have g1 := He.glo_ok KX Gn (fa_ok c (mem_exs (by simpa using this.1)).1)
    have g2 := He.glo_ok KX Gn (fa_ok c (mem_exs (by simpa using this.2)).1)
    have e1 : C = He.ga K t.1 := by
      have := m1.symm.trans g1
      cases this
      rfl
    have e2 : C' = He.ga K t.2.1 := by
      have := m2.symm.trans g2
      cases this
      rfl
    rw [e1, e2]
    exact He.exm_ok (fa_ok c (mem_subs ht))
  · have hx : (T.defs.map (·.x))[i]? = some x := hx
    have hd : (T.defs.map (·.d))[i]? = some d := hd
    rw [List.getElem?_map, Option.map_eq_some_iff] at hx
    obtain ⟨f, hf, rfl⟩ := hx
    rw [List.getElem?_map, hf] at hd
    cases hd
    have hm : f.toD ∈ T.fn := List.mem_append.mpr (.inl (List.mem_map.mpr ⟨f, List.mem_of_getElem? hf, rfl⟩))
    obtain ⟨fd, FD⟩ := He.SaysD.defs c.t.d hm
    exact ⟨He.ga K f.x, fd, f.N, f.ps, defArgs f.st, defBody f.st, defScope f.st, f.lam, at_of hc KX Gn c tab hf FD⟩
/-- the abstract heap without its tables -/
def noTbl (H : Hp) : Hp := fun a => match H a with
  | some (.tbl _) => none
  | o => o
theorem noTbl_some {H : Hp} {a : Addr} {o : HO} (h : noTbl H a = some o) : H a = some o ∧ ∀ ps, o ≠ .tbl ps := by
  unfold noTbl at h
  split at h
  · cases h
  · rename_i hn
    exact ⟨h, fun ps z => hn ps (by rw [h, z])⟩
theorem noTbl_of {H : Hp} {a : Addr} {o : HO} (h : H a = some o) (n : ∀ ps, o ≠ .tbl ps) : noTbl H a = some o := by
  unfold noTbl
  rw [h]
  cases o <;> first | rfl | exact absurd rfl (n _)
theorem repL_ints {G : Gl} {F : Hp} {ι : List Addr} : ∀ (ns : List Int), RepL G F ι (ns.map D.int) (ns.map V.int)
  | [] => rfl
  | n :: r => ⟨.int n, r.map V.int, rfl, rfl, repL_ints r⟩
/-- the law's promise, from what the evaluator says -/
theorem law_sp {G : Gl} {H : Hp} {a : Addr} {ns : List Int} {call : List D → Sto → R D} {S' : Sto} (hT : LamX.Tabs G.T H) (hS : SqL G.K H a (ns.map V.int)) (hrun : call [.scr (ns.map D.int)] [] = .ok (.bl true) S') :
    spF G 1 call [.ref a] H (fun v _ => v = .bl true) fun _ _ _ => False := by
  have sq : SqL G.K (noTbl H) a (ns.map V.int) := by
    rcases hS with (q | ⟨o, q⟩) | q
    · exact .inl (.inl (noTbl_of q fun _ z => by cases z))
    · exact .inl (.inr ⟨o, noTbl_of q fun _ z => by cases z⟩)
    · exact .inr q
  refine ⟨rfl, [.scr (ns.map D.int)], [], noTbl H, [], ⟨fun a o h => (noTbl_some h).1, fun a ps h => (noTbl_some h).2 ps rfl, rfl, List.nodup_nil, fun a h => (by cases h), fun k a o h => (by cases h), hT⟩, ⟨.ref a, [], rfl, ⟨a, _, rfl, sq, repL_ints ns⟩, rfl⟩, ?_⟩
  rw [hrun]
  exact fun F' ι' H' _ _ v rv => rv
theorem tab_of {ts : List He.Tab} (c : He.SaysX T.fa T.fn ts T.lams T.ex w h K) (hB : ∀ p ∈ T.lams.map (He.cT K), LamX.TabB base mg p.1 p.2) : ∀ f ∈ T.defs, f.lam = true → ∀ fd, FunD K f.x f.x (defArgs f.st) (defBody f.st) (defScope f.st) [] [] (He.ga K f.x) fd → ∃ c P, fd.code = .ref c ∧ LamX.TabB base mg c P ∧ (P, (f.x ++ ".<locals>.") ++ "<lambda>") ∈ T.TT K ∧ ∀ p ∈ T.TT K, p.1 = P → p.2 = (f.x ++ ".<locals>.") ++ "<lambda>" := by
  intro f hf hl fd FD
  have hp : (f.x, none) ∈ T.lams := List.mem_map.mpr ⟨f, List.mem_filter.mpr ⟨hf, hl⟩, rfl⟩
  obtain ⟨oc, od, dV, kV, doc, pm, an, cdv, ct, osl, rfl, lk, hcd, _, _⟩ := FD.ex
  obtain ⟨c0, rfl⟩ := He.codeIn_ref hcd
  have ec : He.codeOf K (f.x, none) = c0 := He.codeOf_eq (p := (f.x, none)) lk rfl
  refine ⟨c0, (He.cT K (f.x, none)).2, rfl, ?_, List.mem_map.mpr ⟨_, hp, rfl⟩, fun p hp2 e => ?_⟩
  · have := hB _ (List.mem_map.mpr ⟨_, hp, rfl⟩)
    have e1 : (He.cT K (f.x, none)).1 = c0 := ec
    rw [e1] at this
    exact this
  · obtain ⟨p', hp', rfl⟩ := List.mem_map.mp hp2
    have := List.all_eq_true.mp (List.all_eq_true.mp (Bool.and_eq_true_iff.mp c.more).2 p' hp') (f.x, none) hp
    rw [Bool.or_eq_true] at this
    rcases this with z | z
    · rw [Bool.not_eq_true', decide_eq_false_iff_not] at z
      exact absurd e z
    · show (p'.1 ++ _) ++ _ = _
      rw [of_decide_eq_true z]
theorem gs_ok {ts : List He.Tab} {tf : List He.Defn} (hc : T.chk = true) (KX : K.In h) (Gn : h.Ns mainGlobals mg) (c : He.SaysX T.fa T.fn ts tf T.ex w h K) : GsOk (glOf T K mg TT) T.mx T.exs T.prg := by
  intro N g x hx
  have hx : (T.gds.map (·.x))[g]? = some x := hx
  rw [List.getElem?_map, Option.map_eq_some_iff] at hx
  obtain ⟨f, hf, rfl⟩ := hx
  have hmem := List.mem_of_getElem? hf
  have hm : f.toD ∈ T.fn := List.mem_append.mpr (.inr (List.mem_map.mpr ⟨f, hmem, rfl⟩))
  obtain ⟨fd, FD⟩ := He.SaysD.defs c.t.d hm
  have h2 : chkG T f = true := by
    unfold Tb.chk at hc
    exact List.all_eq_true.mp (Bool.and_eq_true_iff.mp (Bool.and_eq_true_iff.mp hc).1).2 f hmem
  simp only [chkG, Bool.and_eq_true, decide_eq_true_eq] at h2
  obtain ⟨⟨⟨⟨⟨⟨h3, h4⟩, h5⟩, h6⟩, h7⟩, h8⟩, h9⟩ := h2
  have hd : T.prg.gs[g]? = some f.d := by
    show (T.gds.map (·.d))[g]? = some f.d
    rw [List.getElem?_map, hf]
    rfl
  have FD1 : FunD K f.x f.x (defArgs f.st) (defBody f.st) (defScope f.st) [] [] (He.ga K f.x) fd := FD
  refine ⟨f.d, He.ga K f.x, fd, f.N, f.a, defArgs f.st, defBody f.st, defScope f.st, hd, He.glo_ok KX Gn (fa_ok c (mem_gnames (List.mem_map.mpr ⟨f, hmem, rfl⟩))), FD1, scB_ok h4, ?_, h5, vis_of h6, h7, h8, h9⟩
  obtain ⟨oc, od, dV, kV, doc, pm, an, cdv, ct, osl, rfl, lk, hcd, hD, hK⟩ := FD1.ex
  refine argB_ok h3 ?_
  rcases hD with ⟨_, e⟩ | ⟨e, _⟩
  · exact e
  · exact absurd rfl e
theorem law_at {l : PySem.W.OpenLaw} {ts : List He.Tab} {n m i Wn : Nat} {f : Df} {x : Str} {fa : Addr} (hP : P = l.prog) (hc : T.chk = true) (hr : T.rps = []) (KX : K.In h) (Gn : h.Ns mainGlobals mg) (c : He.SaysX T.fa T.fn ts T.lams T.ex w h K)
    (hf : T.defs[i]? = some f) (hx : f.ps = [x]) (hm : mg f.x = some (.ref fa))
    (hrun : ∀ ns : List Int, ns.length ≤ n → ∃ S', (lv T.prg Wn (m + 1)).call i [.scr (ns.map D.int)] [] = .ok (.bl true) S') : LamX.LawAtS l w K (L2.CX l.prog w) (lvK (m + 1)) n x mg fa h := by
  have hmem : f.toD ∈ T.fn := List.mem_append.mpr (.inl (List.mem_map.mpr ⟨f, List.mem_of_getElem? hf, rfl⟩))
  obtain ⟨fd, FD⟩ := He.SaysD.defs c.t.d hmem
  have FD : FunD K f.x f.x (defArgs f.st) (defBody f.st) (defScope f.st) [] [] (He.ga K f.x) fd := FD
  have AT := fun base hB => at_of (TT := T.TT K) hc KX Gn c (tab_of (base := base) c hB) hf FD
  have efa : fa = He.ga K f.x := by
    have := hm.symm.trans (He.glo_ok KX Gn (fa_ok c (mem_names (List.mem_map.mpr ⟨f, List.mem_of_getElem? hf, rfl⟩))))
    cases this
    rfl
  subst efa
  have hd : T.prg.fns[i]? = some f.d := by
    show (T.defs.map (·.d))[i]? = some f.d
    rw [List.getElem?_map, hf]
    rfl
  have hcl : ∀ as S, (lv T.prg Wn (m + 1)).call i as S = if as.length = f.d.np then ends f.d.keep S.length (exSs T.prg.sub ⟨(lv T.prg Wn m).call, (lv T.prg Wn m).lam, Wn⟩ f.d.body (as.map some ++ List.replicate (f.d.ns - f.d.np) none) S) else .stuck := fun as S => by
    show run T.prg _ i as S = _
    unfold run
    rw [hd]
  have one : f.ps.length = 1 := by rw [hx]; rfl
  have bnd : BindU fd f.ps := by
    have h1 : chkAll T 0 T.defs = true := by
      unfold Tb.chk at hc
      exact (Bool.and_eq_true_iff.mp (Bool.and_eq_true_iff.mp hc).1).1
    have h2 := chkAll_get h1 hf
    simp only [chkD, Bool.and_eq_true] at h2
    obtain ⟨oc, od, dV, kV, doc, pm, an, cdv, ct, osl, rfl, lk, hcd, hD, hK⟩ := FD.ex
    refine argB_ok h2.1.1.1.1 ?_
    rcases hD with ⟨_, e⟩ | ⟨e, _⟩
    · exact e
    · exact absurd rfl e
  refine ⟨fd, T.lams.map (He.cT K), spF (glOf T K mg (T.TT K)) f.ps.length ((lv T.prg Wn (m + 1)).call i), fun p hp => ?_, fun p hp => ?_, fun p hp => ?_, fun s u => ?_, fun H a ns hn _ hT hS => ?_, fun base kb gb hB => ?_⟩
  · obtain ⟨p', hp', rfl⟩ := List.mem_map.mp hp
    exact c.empty p' hp'
  · obtain ⟨p', hp', rfl⟩ := List.mem_map.mp hp
    exact c.out p' hp'
  · obtain ⟨p', hp', rfl⟩ := List.mem_map.mp hp
    exact PySem.W.codeHd_of_K KX (c.hd p' hp')
  · have := bnd s [u] (by rw [one]; rfl)
    rw [hx] at this
    exact this
  · obtain ⟨S', e⟩ := hrun ns hn
    rw [one]
    refine law_sp (G := glOf T K mg (T.TT K)) (fun p hp => ?_) hS e
    obtain ⟨p', hp', rfl⟩ := List.mem_map.mp hp
    exact LamX.TabS.nil (hT _ (List.mem_map.mpr ⟨p', hp', rfl⟩))
  · subst hP
    have PO : PrgOk (glOf T K mg (T.TT K)) l.prog w base T.mx T.exs T.prg := prg_ok hc KX Gn c (tab_of c hB)
    have LV := levels PO (gs_ok hc KX Gn c) Wn m
    have FG := fnG_of (AT base hB) PO.N LV PO.exc hcl
    have rp0 : T.rps.contains i = false := by rw [hr]; rfl
    rw [rp0] at FG
    rw [hx] at FG ⊢
    exact ⟨FG.len, fun A outer s H args us vs Q E hr e0 b r sp => FG.run A outer s H args us vs Q E hr (fun z => by cases z) e0 b r sp⟩
end
end Gx
set_option Elab.async false
set_option linter.all false
set_option maxRecDepth 100000
set_option maxHeartbeats 4000000
/-! Gx: reckoning with the evaluator. -/
namespace Gx
open PySem PySem.Spec PyProof.Rows L2
abbrev C (P : Prg) (W n : Nat) : Nat → List D → Sto → R D := (lv P W n).call
abbrev Oc (P : Prg) (W n : Nat) : Orc := ⟨(lv P W n).call, (lv P W n).lam, W⟩
theorem call_eq {P : Prg} {W n f : Nat} {d : Fn} {as : List D} {S : Sto} (h : P.fns[f]? = some d) (ha : as.length = d.np) :
    C P W (n + 1) f as S = ends d.keep S.length (exSs P.sub (Oc P W n) d.body (as.map some ++ List.replicate (d.ns - d.np) none) S) := by
  show run P _ f as S = _
  unfold run
  rw [h]
  exact if_pos ha
section
variable {α β : Type} {S S' : Sto}
@[simp] theorem bind_ok' (a : α) (k : α → Sto → R β) : (R.ok a S).bind k = k a S := rfl
@[simp] theorem bind_exc' (c : Str) (p : Option D) (k : α → Sto → R β) : (R.exc c p S).bind k = .exc c p S := rfl
@[simp] theorem opt_some' (a : α) : opt (some a) S = .ok a S := rfl
theorem forL_inv {f : D → Env → Sto → R Out} (I : Env → Sto → Prop) : ∀ (l : List D), (∀ d ∈ l, ∀ ρ S, I ρ S → ∃ ρ' S', f d ρ S = .ok (.nx ρ') S' ∧ I ρ' S') → ∀ ρ S, I ρ S → ∃ ρ' S', forL f l ρ S = .ok (.nx ρ') S' ∧ I ρ' S'
  | [], _, ρ, S, i => ⟨ρ, S, rfl, i⟩
  | d :: r, h, ρ, S, i => by
    obtain ⟨ρ1, S1, e, i1⟩ := h d List.mem_cons_self ρ S i
    obtain ⟨ρ2, S2, e2, i2⟩ := forL_inv I r (fun d hd => h d (List.mem_cons_of_mem _ hd)) ρ1 S1 i1
    refine ⟨ρ2, S2, ?_, i2⟩
    unfold forL
    rw [e]
    exact e2
/-- it ends well, so -/
def Wp {α : Type} (r : R α) (Q : α → Sto → Prop) : Prop := ∃ a S, r = .ok a S ∧ Q a S
theorem wp_ok {a : α} {Q : α → Sto → Prop} (h : Q a S) : Wp (.ok a S) Q := ⟨a, S, rfl, h⟩
theorem wp_eq {r : R α} {a : α} {Q : α → Sto → Prop} (e : r = .ok a S) (h : Q a S) : Wp r Q := ⟨a, S, e, h⟩
theorem wp_bind {r : R α} {k : α → Sto → R β} {Q : β → Sto → Prop} (h : Wp r fun a S => Wp (k a S) Q) : Wp (r.bind k) Q := by
  obtain ⟨a, S1, e, h⟩ := h
  rw [e]
  exact h
theorem wp_imp {r : R α} {Q Q' : α → Sto → Prop} (h : Wp r Q) (k : ∀ a S, Q a S → Q' a S) : Wp r Q' := by
  obtain ⟨a, S1, e, h⟩ := h
  exact ⟨a, S1, e, k _ _ h⟩
theorem wp_opt {o : Option α} {a : α} {Q : α → Sto → Prop} (e : o = some a) (h : Q a S) : Wp (opt o S) Q := by
  rw [e]
  exact wp_ok h
theorem wp_forL {f : D → Env → Sto → R Out} (I : Env → Sto → Prop) {l : List D} {ρ : Env} (i : I ρ S) (h : ∀ d ∈ l, ∀ ρ S, I ρ S → Wp (f d ρ S) fun o S' => ∃ ρ', o = .nx ρ' ∧ I ρ' S') {Q : Out → Sto → Prop} (q : ∀ ρ' S', I ρ' S' → Q (.nx ρ') S') : Wp (forL f l ρ S) Q := by
  obtain ⟨ρ', S', e, i'⟩ := forL_inv I l (fun d hd ρ S i => by
    obtain ⟨o, S', e, ρ', rfl, i'⟩ := h d hd ρ S i
    exact ⟨ρ', S', e, i'⟩) ρ S i
  exact ⟨_, _, e, q _ _ i'⟩
inductive All2 {α β : Type} (g : α → β → Prop) : List α → List β → Prop
  | nil : All2 g [] []
  | cons {a : α} {b : β} {as : List α} {bs : List β} (h : g a b) (t : All2 g as bs) : All2 g (a :: as) (b :: bs)
theorem All2.len {α β : Type} {g : α → β → Prop} {as : List α} {bs : List β} (h : All2 g as bs) : as.length = bs.length := by
  induction h with
  | nil => rfl
  | cons _ _ ih => simp [ih]
/-- a comprehension whose turns make values -/
theorem wp_comp {f : D → Sto → R (Option D)} (I : Sto → Prop) (g : D → D → Prop) : ∀ (l : List D) (S : Sto), I S → (∀ d ∈ l, ∀ S, I S → Wp (f d S) fun o S' => I S' ∧ ∃ y, o = some y ∧ g d y) → ∀ {Q : List D → Sto → Prop}, (∀ ys S', I S' → All2 g l ys → Q ys S') → Wp (noX (compL f l S)) Q
  | [], S, i, _, Q, q => ⟨[], S, rfl, q [] S i .nil⟩
  | d :: r, S, i, h, Q, q => by
    obtain ⟨o, S1, e, i1, y, rfl, gy⟩ := h d List.mem_cons_self S i
    obtain ⟨ys, S2, e2, i2, fa⟩ := wp_comp I g r S1 i1 (fun d hd => h d (List.mem_cons_of_mem _ hd)) (Q := fun ys S' => I S' ∧ All2 g r ys) (fun ys S' a b => ⟨a, b⟩)
    refine ⟨y :: ys, S2, ?_, q _ _ i2 (.cons gy fa)⟩
    unfold compL
    rw [e]
    show noX ((compL f r S1).bind _) = _
    cases e3 : compL f r S1 with
    | ok a S3 => rw [e3] at e2; cases e2; rfl
    | exc c p S3 => rw [e3] at e2; cases e2
    | stuck => rw [e3] at e2; cases e2
/-- a call of a def: its body -/
theorem wp_call {P : Prg} {W n f : Nat} {d : Fn} {as : List D} {Q : D → Sto → Prop} (h : P.fns[f]? = some d) (ha : as.length = d.np) (k : Wp (exSs P.sub (Oc P W n) d.body (as.map some ++ List.replicate (d.ns - d.np) none) S) fun o S' => Wp (ends d.keep S.length (.ok o S')) Q) :
    Wp (C P W (n + 1) f as S) Q := by
  rw [call_eq h ha]
  obtain ⟨o, S', e, q⟩ := k
  rw [e]
  exact q
end
theorem compL_map {f : D → Sto → R (Option D)} {g : D → D} {S : Sto} : ∀ (l : List D), (∀ d ∈ l, f d S = .ok (some (g d)) S) → compL f l S = .ok (l.map g) S
  | [], _ => rfl
  | d :: r, h => by
    unfold compL
    rw [h d List.mem_cons_self]
    show (compL f r S).bind _ = _
    rw [compL_map r fun d hd => h d (List.mem_cons_of_mem _ hd)]
    rfl
theorem ev_comp {O : Orc} {own : List Nat} {tg : CTg} {it : CI} {t : CTo} {e : CE} {ρ : Env} {S S1 S2 : Sto} {l ys : List D} (h : evI O it ρ S = .ok (.items l) S1) (hl : l.length ≤ sz) (hc : compL (cF O own tg t e ρ) l S1 = .ok ys S2) : evF O (.comp own tg it t e) ρ S = .ok ys S2 := by
  simp only [evF, h, bind_ok', if_pos hl]
  exact congrArg noX hc
/-- ints as a tuple -/
def tIs (l : List Int) : D := .tup (l.map D.int)
theorem tIs_len {l : List Int} : (l.map D.int).length = l.length := List.length_map _
def octs (l : List Int) : Prop := ∀ i ∈ l, 0 ≤ i ∧ i ≤ 255
def cupS (a b : Int) : Sto := [.lst [.int a, .int b]]
def cupOk (S : Sto) : Prop := ∃ a b : Int, S = cupS a b ∧ 0 ≤ a ∧ 0 ≤ b ∧ b < 4294967296
theorem cup_get {a b : Int} : (cupS a b)[0]? = some (.lst [.int a, .int b]) := rfl
theorem int_abs_nonneg (z : Int) : 0 ≤ (if z < 0 then -z else z) := by split <;> omega
theorem atI_mem {α : Type} {xs : List α} {r : Int} (h0 : 0 ≤ r) (h1 : r < xs.length) : ∃ x, L2.atI xs r = some x ∧ x ∈ xs := by
  have h2 : r.toNat < xs.length := by omega
  refine ⟨xs[r.toNat], ?_, List.getElem_mem h2⟩
  unfold L2.atI L2.ixN
  rw [if_pos h0, if_pos h1]
  simp [List.getElem?_eq_getElem h2]
theorem atI_nat {α : Type} {xs : List α} {r : Nat} (h1 : r < xs.length) : L2.atI xs (r : Int) = some xs[r] := by
  unfold L2.atI L2.ixN
  rw [if_pos (by omega), if_pos (by omega)]
  simp [List.getElem?_eq_getElem h1]
theorem rngD_len {m : Int} : (rngD 0 m).length = m.toNat := by
  unfold rngD
  rw [List.length_map, List.length_range, Int.sub_zero]
theorem wp_ends {kp : Bool} {d : D} {S' : Sto} {k : Nat} {Q : D → Sto → Prop} (h : S'.length ≤ k) (q : Q d S') : Wp (ends kp k (.ok (.rt d) S')) Q := by
  show Wp (if kp = true ∨ S'.length ≤ k then R.ok d S' else _) Q
  rw [if_pos (.inr h)]
  exact wp_ok q
theorem octs_of {ys : List D} (h : ∀ y ∈ ys, ∃ i : Int, y = .int i ∧ 0 ≤ i ∧ i ≤ 255) : ∃ l : List Int, ys = l.map D.int ∧ octs l := by
  induction ys with
  | nil => exact ⟨[], rfl, fun _ z => by cases z⟩
  | cons y r ih =>
    obtain ⟨i, rfl, a, b⟩ := h y List.mem_cons_self
    obtain ⟨l, rfl, o⟩ := ih fun y hy => h y (List.mem_cons_of_mem _ hy)
    exact ⟨i :: l, rfl, fun j hj => by
      rcases List.mem_cons.mp hj with z | z
      · rw [z]; exact ⟨a, b⟩
      · exact o j z⟩
theorem All2.right {α β : Type} {g : α → β → Prop} {as : List α} {bs : List β} (h : All2 g as bs) : ∀ b ∈ bs, ∃ a ∈ as, g a b := by
  induction h with
  | nil => intro b hb; cases hb
  | cons q _ ih =>
    intro b hb
    rcases List.mem_cons.mp hb with z | z
    · rw [z]; exact ⟨_, List.mem_cons_self, q⟩
    · obtain ⟨a, ha, ga⟩ := ih b z
      exact ⟨a, List.mem_cons_of_mem _ ha, ga⟩
/-! ### equality of ints and of tuples of ints -/
theorem toPy_ints : ∀ l : List Int, toPyL (l.map D.int) = some (l.map PyData.int)
  | [] => rfl
  | i :: r => by simp only [List.map_cons, toPyL, toPy, toPy_ints r]
theorem lay_ints : ∀ l : List Int, PyData.canLayAll0 (l.map PyData.int) = true
  | [] => rfl
  | i :: r => by simp only [List.map_cons, PyData.canLayAll0, PyData.canLay0, lay_ints r, Bool.and_self]
theorem depth_ints : ∀ l : List Int, PyData.depthAll (l.map PyData.int) = 0
  | [] => rfl
  | i :: r => by simp only [List.map_cons, PyData.depthAll, PyData.depth, depth_ints r, Nat.max_self]
theorem shaped_ints (l : List Int) : SeqAt.shaped (.tuple (l.map PyData.int)) = true := by
  unfold SeqAt.shaped
  simp only [PyData.canLay0, lay_ints, PyData.depth, depth_ints, Bool.true_and]
  rfl
theorem eqv_ints : ∀ a b : List Int, PyData.eqvAll (a.map PyData.int) (b.map PyData.int) = decide (a = b)
  | [], [] => rfl
  | [], _ :: _ => rfl
  | _ :: _, [] => rfl
  | i :: a, j :: b => by
    simp only [List.map_cons, PyData.eqvAll, PyData.eqv, eqv_ints a b]
    by_cases h : i = j <;> by_cases h2 : a = b <;> simp [h, h2]
theorem eqD_int (i j : Int) : eqD (.int i) (.int j) = some (decide (i = j)) := by
  have : PyData.eqv (.int i) (.int j) = decide (i = j) := by
    simp only [PyData.eqv]
    by_cases h : i = j <;> simp [h]
  show (if SeqAt.shaped (.int i) && SeqAt.shaped (.int j) then some (PyData.eqv (.int i) (.int j)) else none) = _
  rw [this]
  rfl
theorem eq_tIs (a b : List Int) : eqD (tIs a) (tIs b) = some (decide (a = b)) := by
  have ea : toPy (tIs a) = some (.tuple (a.map PyData.int)) := by simp only [tIs, toPy, toPy_ints, Option.map_some]
  have eb : toPy (tIs b) = some (.tuple (b.map PyData.int)) := by simp only [tIs, toPy, toPy_ints, Option.map_some]
  show eqP (tIs a) (tIs b) = _
  unfold eqP
  rw [ea, eb]
  simp only [shaped_ints, Bool.and_self, if_true, PyData.eqv, eqv_ints]
theorem ev_nil {O : Orc} {ρ : Gx.Env} {S : Sto} : evF O (.disp .nil) ρ S = .ok [] S := by simp [evF, evEs]
theorem rep_ints (i : Int) (k : Int) : repT [D.int i] k = (List.replicate k.toNat i).map D.int := by
  unfold repT
  induction k.toNat with
  | zero => rfl
  | succ n ih => rw [List.replicate_succ, List.replicate_succ, List.flatten_cons, ih]; rfl
theorem compL_none {f : D → Sto → R (Option D)} {S : Sto} : ∀ (l : List D), (∀ d ∈ l, f d S = .ok none S) → compL f l S = .ok [] S
  | [], _ => rfl
  | d :: r, h => by
    unfold compL
    rw [h d List.mem_cons_self]
    show (compL f r S).bind _ = _
    rw [compL_none r fun d hd => h d (List.mem_cons_of_mem _ hd)]
    rfl
theorem pairs_self {xs : List D} {d : D} (h : d ∈ pairsD xs xs) : ∃ x ∈ xs, d = .tup [x, x] := by
  induction xs with
  | nil => cases h
  | cons x r ih =>
    rcases List.mem_cons.mp (show d ∈ D.tup [x, x] :: pairsD r r from h) with z | z
    · exact ⟨x, List.mem_cons_self, z⟩
    · obtain ⟨y, hy, e⟩ := ih z
      exact ⟨y, List.mem_cons_of_mem _ hy, e⟩
theorem pairs_self_len {xs : List D} : (pairsD xs xs).length = xs.length := by
  unfold pairsD
  simp
theorem whileL_step {t : Gx.Env → Sto → R Bool} {f : Gx.Env → Sto → R Out} {n : Nat} {ρ ρ1 : Gx.Env} {S S1 S2 : Sto} (h : t ρ S = .ok true S1) (h2 : f ρ S1 = .ok (.nx ρ1) S2) : whileL t f (n + 1) ρ S = whileL t f n ρ1 S2 := by
  show (t ρ S).bind _ = _
  rw [h]
  show (f ρ S1).bind _ = _
  rw [h2]
  rfl
theorem whileL_stop {t : Gx.Env → Sto → R Bool} {f : Gx.Env → Sto → R Out} {n : Nat} {ρ : Gx.Env} {S S1 : Sto} (h : t ρ S = .ok false S1) : whileL t f (n + 1) ρ S = .ok (.nx ρ) S1 := by
  show (t ρ S).bind _ = _
  rw [h]
  rfl
/-! ### expressions and statements, one by one -/
theorem cut_ints (l : List Int) (lo hi : Option Int) : Gx.cutD (l.map D.int) lo hi = ((l.drop (HT.sIx l.length 0 lo)).take (HT.sIx l.length l.length hi - HT.sIx l.length 0 lo)).map D.int := by
  unfold Gx.cutD
  rw [List.length_map, List.map_take, List.map_drop]
def cutI (l : List Int) (lo hi : Option Int) : List Int := (l.drop (HT.sIx l.length 0 lo)).take (HT.sIx l.length l.length hi - HT.sIx l.length 0 lo)
theorem cut_tIs (l : List Int) (lo hi : Option Int) : D.tup (Gx.cutD (l.map D.int) lo hi) = tIs (cutI l lo hi) := congrArg D.tup (cut_ints l lo hi)
section
variable {O : Orc} {sub : Str → Str → Option Bool} {ρ ρ1 : Gx.Env} {S S1 S2 : Sto} {a b : CE} {va vb : D} {f i : Nat} {x : Str} {t u : CT}
theorem ev_var {d : D} (h : ρ[i]? = some (some d)) : evE O (.var i) ρ S = .ok d S := by
  simp only [evE, h]
theorem ev_cst {c : Cst} : evE O (.cst c) ρ S = .ok c.d S := by simp only [evE]
theorem s_ret {d : D} {r : CSs} (h : evE O a ρ S = .ok d S1) : exSs sub O (.cons (.ret a) r) ρ S = .ok (.rt d) S1 := by
  simp only [exSs, exS, h, bind_ok']
theorem t_cmp {op : CmpOp} {c : Bool} (ha : evE O a ρ S = .ok va S1) (hb : evE O b ρ S1 = .ok vb S2) (h : cmpD op (der S2 va) (der S2 vb) = some c) : evT O (.cmp op a b) ρ S = .ok c S2 := by
  simp only [evT, ha, hb, bind_ok', h, opt_some']
theorem ev_ife {c d : CE} {k : Bool} (ht : evT O t ρ S = .ok k S1) : evE O (.ife t c d) ρ S = if k = true then evE O c ρ S1 else evE O d ρ S1 := by
  simp only [evE, ht, bind_ok']
theorem ends_rt {kp : Bool} {d : D} : ends kp S.length (.ok (.rt d) S) = .ok d S := by
  show (if kp = true ∨ S.length ≤ S.length then R.ok d S else _) = _
  rw [if_pos (.inr (Nat.le_refl _))]
theorem ev_call1 (ha : evE O a ρ S = .ok va S1) : evE O (.call f x (.cons a .nil)) ρ S = O.call f [va] S1 := by
  simp only [evE, evEs, ha, bind_ok']
theorem ev_call2 (ha : evE O a ρ S = .ok va S1) (hb : evE O b ρ S1 = .ok vb S2) : evE O (.call f x (.cons a (.cons b .nil))) ρ S = O.call f [va, vb] S2 := by
  simp only [evE, evEs, ha, hb, bind_ok']
theorem ev_bop {op : Operator} {d : D} (ha : evE O a ρ S = .ok va S1) (hb : evE O b ρ S1 = .ok vb S2) (h : bopD op va vb = some d) : evE O (.bop op a b) ρ S = .ok d S2 := by
  simp only [evE, ha, hb, bind_ok', h, opt_some']
theorem ev_int {j : Int} (ha : evE O a ρ S = .ok (.int j) S1) : evE O (.bi .int (.cons a .nil)) ρ S = .ok (.int j) S1 := by
  simp [evE, evEs, ha, biD, der]
theorem mod_int {i j : Int} (h : 0 < j) : bopD .Mod (.int i) (.int j) = some (.int (i % j)) := by
  simp only [bopD]
  rw [if_pos h]
theorem ev_tup1 (ha : evE O a ρ S = .ok va S1) : evE O (.tup (.cons a .nil)) ρ S = .ok (.tup [va]) S1 := by
  simp [evE, evEs, ha, sz]
theorem ev_tup2 (ha : evE O a ρ S = .ok va S1) (hb : evE O b ρ S1 = .ok vb S2) : evE O (.tup (.cons a (.cons b .nil))) ρ S = .ok (.tup [va, vb]) S2 := by
  simp [evE, evEs, ha, hb, sz]
theorem ev_ix {d : D} (ha : evE O a ρ S = .ok va S1) (hb : evE O b ρ S1 = .ok vb S2) (h : ixD (der S2 va) vb = some d) : evE O (.ix a b) ρ S = .ok d S2 := by
  simp only [evE, ha, hb, bind_ok', h, opt_some']
theorem evs_cons {r : CEs} {vs : List D} (ha : evE O a ρ S = .ok va S1) (hr : evEs O r ρ S1 = .ok vs S2) : evEs O (.cons a r) ρ S = .ok (va :: vs) S2 := by
  simp only [evEs, ha, hr, bind_ok']
theorem evs_nil : evEs O .nil ρ S = .ok [] S := by simp only [evEs]
theorem ev_disp {es : CEs} {vs : List D} (h : evEs O es ρ S = .ok vs S1) (hl : vs.length ≤ sz) : evE O (.fl (.disp es)) ρ S = .ok (.lst vs) S1 := by
  simp only [evE, evF, h, bind_ok', if_pos hl]
theorem ev_tup {es : CEs} {vs : List D} (h : evEs O es ρ S = .ok vs S1) (hl : vs.length ≤ sz) : evE O (.tup es) ρ S = .ok (.tup vs) S1 := by
  simp only [evE, h, bind_ok', if_pos hl]
theorem ev_ixI {l : List Int} {k : Int} {d : D} (h : ρ[i]? = some (some (tIs l))) (hk : ixD (tIs l) (.int k) = some d) : evE O (.ix (.var i) (.cst (.int k))) ρ S = .ok d S :=
  ev_ix (ev_var h) ev_cst hk
theorem ev_len {xs : List D} (ha : evE O a ρ S = .ok (.tup xs) S1) : evE O (.bi .len (.cons a .nil)) ρ S = .ok (.int xs.length) S1 := by
  simp [evE, evEs, ha, biD, der]
theorem ev_sl {xs : List D} {lo hi : CO} {l h : Option Int} (ha : evE O a ρ S = .ok (.tup xs) S) (hl : evO O lo ρ S = .ok l S) (hh : evO O hi ρ S = .ok h S) : evE O (.sl a lo hi) ρ S = .ok (.tup (Gx.cutD xs l h)) S := by
  simp only [evE, ha, hl, hh, bind_ok']
theorem ev_slI {l : List Int} {j : Nat} {lo hi : CO} {p q : Option Int} (h : ρ[j]? = some (some (tIs l))) (hl : evO O lo ρ S = .ok p S) (hh : evO O hi ρ S = .ok q S) : evE O (.sl (.var j) lo hi) ρ S = .ok (tIs (cutI l p q)) S := by
  rw [← cut_tIs]
  exact ev_sl (ev_var h) hl hh
theorem ev_lenI {l : List Int} {j : Nat} (h : ρ[j]? = some (some (tIs l))) : evE O (.bi .len (.cons (.var j) .nil)) ρ S = .ok (.int l.length) S := by
  have := ev_len (O := O) (S := S) (S1 := S) (xs := l.map D.int) (ev_var (i := j) h)
  rw [List.length_map] at this
  exact this
theorem ev_o {j : Int} (ha : evE O a ρ S = .ok (.int j) S) : evO O (.som a) ρ S = .ok (some j) S := by
  simp only [evO, ha, bind_ok']
theorem wp_ev {α : Type} {r r' : R α} {Q : α → Sto → Prop} (e : r = r') (h : Wp r' Q) : Wp r Q := e ▸ h
theorem ss_nx {s : CS} {r : CSs} (h : exS sub O s ρ S = .ok (.nx ρ1) S1) : exSs sub O (.cons s r) ρ S = exSs sub O r ρ1 S1 := by
  simp only [exSs, h, bind_ok']
theorem s_asg {d : D} (h : evE O a ρ S = .ok d S1) (hi : i < ρ.length) : exS sub O (.asg (.nm i) a) ρ S = .ok (.nx (ρ.set i (some d))) S1 := by
  simp only [exS, h, bind_ok', evTg, if_pos hi]
theorem s_skip {A : CSs} (h : evT O t ρ S = .ok false S1) : exS sub O (.ite t A .nil) ρ S = .ok (.nx ρ) S1 := by
  simp only [exS, h, bind_ok', Bool.false_eq_true, if_false, exSs]
theorem t_or (h : evT O t ρ S = .ok false S1) : evT O (.or t u) ρ S = evT O u ρ S1 := by
  simp only [evT, h, bind_ok', Bool.false_eq_true, if_false]
theorem t_ne {c : Bool} (ha : evE O a ρ S = .ok va S1) (hb : evE O b ρ S1 = .ok vb S2) (h : eqD (der S2 va) (der S2 vb) = some c) : evT O (.cmp .NotEq a b) ρ S = .ok (!c) S2 := by
  simp only [evT, ha, hb, bind_ok', cmpD, h, Option.map_some, opt_some']
/-- a statement that draws -/
theorem wp_asg {r : CSs} {Q : Out → Sto → Prop} (hi : i < ρ.length) (h : Wp (evE O a ρ S) fun d S1 => Wp (exSs sub O r (ρ.set i (some d)) S1) Q) : Wp (exSs sub O (.cons (.asg (.nm i) a) r) ρ S) Q := by
  obtain ⟨d, S1, e, q⟩ := h
  rw [ss_nx (s_asg e hi)]
  exact q
theorem wp_ss {s : CS} {r : CSs} {Q : Out → Sto → Prop} (h : exS sub O s ρ S = .ok (.nx ρ1) S1) (q : Wp (exSs sub O r ρ1 S1) Q) : Wp (exSs sub O (.cons s r) ρ S) Q := by
  rw [ss_nx h]
  exact q
theorem octs_cut {l : List Int} {lo hi : Option Int} (h : octs l) : octs (cutI l lo hi) := fun i hi' => h i (List.mem_of_mem_drop (List.mem_of_mem_take hi'))
theorem len_cut {l : List Int} {lo hi : Option Int} : (cutI l lo hi).length ≤ l.length := by
  unfold cutI
  rw [List.length_take, List.length_drop]
  omega
theorem octs_app {a b : List Int} (h : octs a) (k : octs b) : octs (a ++ b) := fun i hi => (List.mem_append.mp hi).elim (h i) (k i)
theorem add_ints {a b : List Int} (h : a.length + b.length ≤ sz) : bopD .Add (tIs a) (tIs b) = some (tIs (a ++ b)) := by
  simp only [bopD, tIs, List.length_map]
  rw [if_pos h, List.map_append]
theorem mul_int1 {i k : Int} (h0 : 0 ≤ k) (h : k ≤ 16777216) : bopD .Mult (.tup [.int i]) (.int k) = some (tIs (List.replicate k.toNat i)) := by
  simp only [bopD, List.length_cons, List.length_nil, rep_ints]
  rw [if_pos ⟨by simp only [sz]; omega, by omega, by omega⟩]
  rfl
end
theorem evo_non {O : Orc} {ρ : Gx.Env} {S : Sto} : evO O .non ρ S = .ok none S := by simp only [evO]
theorem cut_take (l : List Int) (k : Nat) : cutI l none (some (k : Int)) = l.take k := by
  unfold cutI
  rw [HT.sIx_nat, HT.sIx_none, Nat.sub_zero, List.drop_zero, ← List.take_take, List.take_length]
theorem wp_nil {O : Orc} {sub : Str → Str → Option Bool} {ρ : Gx.Env} {S : Sto} {Q : Out → Sto → Prop} (q : Q (.nx ρ) S) : Wp (exSs sub O .nil ρ S) Q := by
  simp only [exSs]
  exact wp_ok q
theorem cup1 {S : Sto} (h : cupOk S) : S.length = 1 := by obtain ⟨a, b, rfl, _⟩ := h; rfl
theorem wp_for {O : Orc} {sub : Str → Str → Option Bool} {ρ : Gx.Env} {S S1 : Sto} {tg : CTg} {it : CI} {b r : CSs} {l : List D} {Q : Out → Sto → Prop} (h : evI O it ρ S = .ok (.items l) S1) (hb : Wp (forL (fun d ρ1 S2 => (evTg O tg d ρ1 S2).bind fun ρ2 S3 => exSs sub O b ρ2 S3) l ρ S1) fun o S2 => ∃ ρ2, o = .nx ρ2 ∧ Wp (exSs sub O r ρ2 S2) Q) : Wp (exSs sub O (.cons (.forS tg it b) r) ρ S) Q := by
  obtain ⟨o, S2, e, ρ2, rfl, q⟩ := hb
  have : exS sub O (.forS tg it b) ρ S = .ok (.nx ρ2) S2 := by
    simp only [exS, h, bind_ok']
    exact e
  rw [ss_nx this]
  exact q
theorem ei_seq {O : Orc} {a : CE} {ρ : Gx.Env} {S S1 : Sto} {d : D} {l : List D} (h : evE O a ρ S = .ok d S1) (hd : seqD d = some (.items l)) : evI O (.seq a) ρ S = .ok (.items l) S1 := by
  simp only [evI, h, bind_ok', hd, opt_some']
theorem ends_top (b : Bool) (S' : Sto) : ∃ S'', ends false 0 (.ok (.rt (.bl b)) S') = .ok (.bl b) S'' := by
  show ∃ S'', (if false = true ∨ S'.length ≤ 0 then R.ok (D.bl b) S' else if shut (S'.take 0) = true then opt (frz 0 S' 8 (.bl b)) (S'.take 0) else .stuck) = _
  split
  · exact ⟨_, rfl⟩
  · exact ⟨[], rfl⟩
theorem len12 {ρ : Gx.Env} (h : ρ.length = 12) : ∃ x0 x1 x2 x3 x4 x5 x6 x7 x8 x9 x10 x11, ρ = [x0, x1, x2, x3, x4, x5, x6, x7, x8, x9, x10, x11] := by
  match ρ, h with
  | [x0, x1, x2, x3, x4, x5, x6, x7, x8, x9, x10, x11], _ => exact ⟨_, _, _, _, _, _, _, _, _, _, _, _, rfl⟩
theorem turn12 {O : Orc} {sub : Str → Str → Option Bool} {ρ ρ2 ρ' : Gx.Env} {S S0 : Sto} {tg : CTg} {b : CSs} {d : D} (h0 : S = S0) (h2 : exSs sub O b ρ2 S = .ok (.nx ρ') S) (h1 : evTg O tg d ρ S = .ok ρ2 S) (h3 : ρ'.length = 12) :
    Wp ((evTg O tg d ρ S).bind fun ρ2 S3 => exSs sub O b ρ2 S3) fun o S' => ∃ ρ', o = .nx ρ' ∧ ρ'.length = 12 ∧ S' = S0 := by
  rw [h1]
  exact ⟨_, S, h2, ρ', rfl, h3, h0⟩
theorem ev_lop {O : Orc} {o : Operator} {a b : CE} {ρ : Gx.Env} {S S1 S2 : Sto} {va vb : D} {l : List D} (ha : evE O a ρ S = .ok va S1) (hb : evE O b ρ S1 = .ok vb S2) (h : lopD o (der S2 va) (der S2 vb) = some l) : evE O (.fl (.op o a b)) ρ S = .ok (.lst l) S2 := by
  simp only [evE, evF, ha, hb, bind_ok', h, opt_some']
theorem ev_fl {O : Orc} {f : CF} {ρ : Gx.Env} {S S1 : Sto} {l : List D} (h : evF O f ρ S = .ok l S1) : evE O (.fl f) ρ S = .ok (.lst l) S1 := by
  simp only [evE, h, bind_ok']
theorem ev_and_t {O : Orc} {a b : CE} {ρ : Gx.Env} {S S1 : Sto} (ha : evE O a ρ S = .ok (.bl true) S1) : evE O (.andV a b) ρ S = evE O b ρ S1 := by
  simp only [evE, ha, bind_ok', der, truD, opt_some', if_true]
theorem ev_cmp {O : Orc} {op : CmpOp} {a b : CE} {ρ : Gx.Env} {S S1 S2 : Sto} {va vb : D} {c : Bool} (ha : evE O a ρ S = .ok va S1) (hb : evE O b ρ S1 = .ok vb S2) (h : cmpD op (der S2 va) (der S2 vb) = some c) : evE O (.cmp op a b) ρ S = .ok (.bl c) S2 := by
  simp only [evE, ha, hb, bind_ok', h, Option.map_some, opt_some']
/-! ### numbers and octets -/
def octB : Nat → Int → List Int
  | 0, _ => []
  | m + 1, x => octB m (x / 256) ++ [x % 256]
def numB (l : List Int) : Int := l.foldl (fun f o => f * 256 + o) 0
theorem octB_len : ∀ (m : Nat) (x : Int), (octB m x).length = m
  | 0, _ => rfl
  | m + 1, x => by simp only [octB, List.length_append, octB_len m, List.length_cons, List.length_nil]
theorem octB_octs : ∀ (m : Nat) (x : Int), octs (octB m x)
  | 0, _ => fun _ h => by cases h
  | m + 1, x => octs_app (octB_octs m _) fun i hi => by
    simp only [List.mem_cons, List.not_mem_nil, or_false] at hi
    omega
theorem numB_snoc (l : List Int) (a : Int) : numB (l ++ [a]) = numB l * 256 + a := by
  unfold numB
  rw [List.foldl_append]
  rfl
theorem numB_octB : ∀ (m : Nat) (x : Int), 0 ≤ x → x < 256 ^ m → numB (octB m x) = x
  | 0, x, h0, h => by
    have : x = 0 := by simp at h; omega
    rw [this]
    rfl
  | m + 1, x, h0, h => by
    unfold octB
    rw [numB_snoc, numB_octB m (x / 256) (by omega) (by rw [Int.pow_succ] at h; omega)]
    omega
theorem snoc_cases {P : List Int → Prop} (h0 : P []) (h1 : ∀ l a, P l → P (l ++ [a])) (l : List Int) : P l := by
  have : ∀ r : List Int, P r.reverse := fun r => by
    induction r with
    | nil => exact h0
    | cons a r ih => rw [List.reverse_cons]; exact h1 _ a ih
  have := this l.reverse
  rw [List.reverse_reverse] at this
  exact this
theorem numB_bound (l : List Int) : octs l → 0 ≤ numB l ∧ numB l < 256 ^ l.length := by
  induction l using snoc_cases with
  | h0 => exact fun _ => ⟨by decide, by decide⟩
  | h1 l a ih =>
    intro o
    have := ih fun i hi => o i (List.mem_append_left _ hi)
    have oa := o a (List.mem_append_right _ List.mem_cons_self)
    rw [numB_snoc, List.length_append, List.length_singleton, Int.pow_succ]
    omega
theorem octB_numB (l : List Int) : octs l → octB l.length (numB l) = l := by
  induction l using snoc_cases with
  | h0 => exact fun _ => rfl
  | h1 l a ih =>
    intro o
    have ol : octs l := fun i hi => o i (List.mem_append_left _ hi)
    have oa := o a (List.mem_append_right _ List.mem_cons_self)
    rw [numB_snoc, List.length_append, List.length_singleton]
    unfold octB
    have e1 : (numB l * 256 + a) / 256 = numB l := by omega
    have e2 : (numB l * 256 + a) % 256 = a := by omega
    rw [e1, e2, ih ol]
theorem octB_range : ∀ (m : Nat) (x : Int), (List.range m).map (fun (i : Nat) => x / 2 ^ (8 * (m - 1 - i)) % 256) = octB m x
  | 0, _ => rfl
  | m + 1, x => by
    rw [List.range_succ, List.map_append]
    unfold octB
    rw [← octB_range m (x / 256)]
    congr 1
    · refine List.map_congr_left fun i hi => ?_
      have hi' := List.mem_range.mp hi
      have e : 8 * (m + 1 - 1 - i) = 8 + 8 * (m - 1 - i) := by omega
      have d : ∀ p : Int, x / (256 * p) = x / 256 / p := fun p => by rw [Int.ediv_ediv]; simp
      rw [e, Int.pow_add, show (2 : Int) ^ 8 = 256 from rfl, d]
    · simp
theorem small_nat {m : Nat} (h : m ≤ 1000000) : smallI (m : Int) = true := by
  unfold smallI
  rw [decide_eq_true (by omega), decide_eq_true (by omega)]
  rfl
theorem ei_rng1 {O : Orc} {a : CE} {ρ : Gx.Env} {S S1 : Sto} {j : Int} (h : evE O a ρ S = .ok (.int j) S1) (hs : smallI j = true) : evI O (.rng1 a) ρ S = .ok (.items (rngD 0 j)) S1 := by
  simp only [evI, h, bind_ok', if_pos hs]
theorem ev_tupB {O : Orc} {a : CE} {ρ : Gx.Env} {S S1 : Sto} {l : List D} (h : evE O a ρ S = .ok (.lst l) S1) : evE O (.bi .tuple (.cons a .nil)) ρ S = .ok (.tup l) S1 := by
  simp only [evE, evEs, h, bind_ok', List.map_cons, List.map_nil, der, biD, opt_some']
theorem ev_callN {O : Orc} {es : CEs} {ρ : Gx.Env} {S S1 : Sto} {vs : List D} {f : Nat} {x : Str} (h : evEs O es ρ S = .ok vs S1) : evE O (.call f x es) ρ S = O.call f vs S1 := by
  simp only [evE, h, bind_ok']
theorem s_exp {O : Orc} {sub : Str → Str → Option Bool} {a : CE} {ρ : Gx.Env} {S S1 : Sto} {d : D} (h : evE O a ρ S = .ok d S1) : exS sub O (.exp a) ρ S = .ok (.nx ρ) S1 := by
  simp only [exS, h, bind_ok']
theorem s_par2 {O : Orc} {sub : Str → Str → Option Bool} {es : CEs} {ρ : Gx.Env} {S S1 : Sto} {i j : Nat} {d e : D} (h : evEs O es ρ S = .ok [d, e] S1) (hi : i < ρ.length) (hj : j < ρ.length) : exS sub O (.par [i, j] es) ρ S = .ok (.nx ((ρ.set i (some d)).set j (some e))) S1 := by
  have hj' : j < (ρ.set i (some d)).length := by rw [List.length_set]; exact hj
  simp only [exS, h, bind_ok', setAll, if_pos hi, if_pos hj', opt_some']
theorem cut_drop (l : List Int) (k : Nat) (hk : k ≤ l.length) : cutI l (some (k : Int)) none = l.drop k := by
  unfold cutI
  rw [HT.sIx_nat, HT.sIx_none, Nat.min_eq_left hk]
  exact List.take_of_length_le (by rw [List.length_drop]; exact Nat.le_refl _)
theorem t_neI {O : Orc} {a b : CE} {ρ : Gx.Env} {S S1 S2 : Sto} {i : Int} (ha : evE O a ρ S = .ok (.int i) S1) (hb : evE O b ρ S1 = .ok (.int i) S2) : evT O (.cmp .NotEq a b) ρ S = .ok false S2 :=
  t_ne (c := true) ha hb (by show eqD (.int i) (.int i) = _; rw [eqD_int]; simp)
theorem t_neT {O : Orc} {a b : CE} {ρ : Gx.Env} {S S1 S2 : Sto} {l : List Int} (ha : evE O a ρ S = .ok (tIs l) S1) (hb : evE O b ρ S1 = .ok (tIs l) S2) : evT O (.cmp .NotEq a b) ρ S = .ok false S2 :=
  t_ne (c := true) ha hb (by show eqD (tIs l) (tIs l) = _; rw [eq_tIs]; simp)
theorem compL_all2 {f : D → Sto → R (Option D)} {S : Sto} {l ys : List D} (h : All2 (fun d y => f d S = .ok (some y) S) l ys) : compL f l S = .ok ys S := by
  induction h with
  | nil => rfl
  | cons q _ ih =>
    unfold compL
    rw [q]
    show (compL f _ S).bind _ = _
    rw [ih]
    rfl
theorem s_asgc {O : Orc} {sub : Str → Str → Option Bool} {f : CF} {ρ : Gx.Env} {S S1 : Sto} {i : Nat} {l : List D} (h : evF O f ρ S = .ok l S1) (hi : i < ρ.length) : exS sub O (.asgc false i f) ρ S = .ok (.nx (ρ.set i (some (.lst l)))) S1 := by
  simp only [exS, h, bind_ok', if_pos hi, Bool.false_eq_true, if_false]
/-! ### sums -/
theorem nat_xor_low (f o : Nat) (ho : o < 256) : f - f % 256 + ((f % 256) ^^^ o) = f ^^^ o := by
  have h1 : (f ^^^ o) / 2 ^ 8 = f / 2 ^ 8 := by
    rw [Nat.xor_div_two_pow, Nat.div_eq_of_lt (show o < 2 ^ 8 from ho), Nat.xor_zero]
  have h2 : (f ^^^ o) % 2 ^ 8 = (f % 2 ^ 8) ^^^ o := by
    rw [Nat.xor_mod_two_pow, Nat.mod_eq_of_lt (show o < 2 ^ 8 from ho)]
  have h3 := Nat.div_add_mod (f ^^^ o) (2 ^ 8)
  have h4 := Nat.div_add_mod f (2 ^ 8)
  rw [h1, h2] at h3
  have e : (2 : Nat) ^ 8 = 256 := rfl
  rw [e] at h3 h4
  omega
theorem xor_low {f o : Int} (hf : 0 ≤ f) (h0 : 0 ≤ o) (h1 : o ≤ 255) : f - f % 256 + Builtin.bitXor (f % 256) o = Builtin.bitXor f o := by
  rw [Bits.bitXor_pp (by omega) h0, Bits.bitXor_pp hf h0]
  have e : (f % 256).toNat = f.toNat % 256 := by omega
  rw [e]
  have := nat_xor_low f.toNat o.toNat (by omega)
  omega
theorem xor_bound {x y : Int} (n : Nat) (hx : 0 ≤ x) (hy : 0 ≤ y) (h1 : x < 2 ^ n) (h2 : y < 2 ^ n) : 0 ≤ Builtin.bitXor x y ∧ Builtin.bitXor x y < 2 ^ n := by
  rw [Bits.bitXor_pp hx hy]
  refine ⟨Int.natCast_nonneg _, ?_⟩
  have e : ((2 ^ n : Nat) : Int) = (2 : Int) ^ n := by simp
  have a1 : x.toNat < 2 ^ n := by omega
  have a2 : y.toNat < 2 ^ n := by omega
  have := Nat.xor_lt_two_pow a1 a2
  omega
def mixL (f o : Int) : Int := (Builtin.bitXor f o * 6364136223846793005 + 1442695040888963407) % 18446744073709551616
def stepL (f o : Int) : Int := Builtin.bitXor (mixL f o) (mixL f o / 536870912)
def sumL (a : Int) (l : List Int) : Int := l.foldl stepL a
theorem stepL_bound (f o : Int) : 0 ≤ stepL f o ∧ stepL f o < 18446744073709551616 := by
  have h : 0 ≤ mixL f o ∧ mixL f o < 18446744073709551616 := by unfold mixL; omega
  exact xor_bound 64 h.1 (by omega) h.2 (show mixL f o / 536870912 < 18446744073709551616 by omega)
theorem sumL_bound (l : List Int) (a : Int) (h : 0 ≤ a ∧ a < 18446744073709551616) : 0 ≤ sumL a l ∧ sumL a l < 18446744073709551616 := by
  induction l generalizing a with
  | nil => exact h
  | cons o r ih => exact ih _ (stepL_bound a o)
theorem sumL_app (a : Int) (l k : List Int) : sumL a (l ++ k) = sumL (sumL a l) k := List.foldl_append ..
theorem ev_mlop {O : Orc} {o : Operator} {a b : CE} {ρ : Gx.Env} {S S1 S2 : Sto} {va vb : D} {l : List D} (ha : evE O a ρ S = .ok va S1) (hb : evE O b ρ S1 = .ok vb S2) (h : lopD o (der S2 va) (der S2 vb) = some l) : evE O (.ml (.op o a b)) ρ S = .ok (.loc S2.length) (S2 ++ [.lst l]) := by
  simp only [evE, evF, ha, hb, bind_ok', h, opt_some']
theorem s_asgm {O : Orc} {sub : Str → Str → Option Bool} {f : CF} {ρ : Gx.Env} {S S1 : Sto} {i : Nat} {l : List D} (h : evF O f ρ S = .ok l S1) (hi : i < ρ.length) : exS sub O (.asgc true i f) ρ S = .ok (.nx (ρ.set i (some (.loc S1.length)))) (S1 ++ [.lst l]) := by
  simp only [exS, h, bind_ok', if_pos hi, if_true]
theorem s_app {O : Orc} {sub : Str → Str → Option Bool} {e : CE} {ρ : Gx.Env} {S S1 : Sto} {i k : Nat} {d : D} {xs : List D} (h0 : ρ[i]? = some (some (.loc k))) (h : evE O e ρ S = .ok d S1) (h1 : S1[k]? = some (.lst xs)) (h2 : xs.length < sz) : exS sub O (.app i e) ρ S = .ok (.nx ρ) (S1.set k (.lst (xs ++ [d]))) := by
  simp only [exS, h0, h, bind_ok', h1, if_pos h2]
end Gx
set_option Elab.async false
set_option linter.all false
set_option maxRecDepth 100000
set_option maxHeartbeats 4000000
/-! Gx: more reckoning. -/
namespace Gx
open PySem PySem.Spec PyProof.Rows L2
/-- the statements behind the first k -/
def cdrop : Nat → CSs → CSs
  | 0, s => s
  | _ + 1, .nil => .nil
  | k + 1, .cons _ r => cdrop k r
section
variable {O : Orc} {sub : Str → Str → Option Bool} {ρ ρ1 : Gx.Env} {S S1 S2 : Sto} {a b : CE} {va vb : D} {f i : Nat} {x : Str} {t u : CT}
theorem ev_glob {d : D} : evE O (.glob x d) ρ S = .ok d S := by simp only [evE]
theorem ev_slT {l : List Int} {lo hi : CO} {p q : Option Int} (ha : evE O a ρ S = .ok (tIs l) S1) (hl : evO O lo ρ S1 = .ok p S1) (hh : evO O hi ρ S1 = .ok q S1) : evE O (.sl a lo hi) ρ S = .ok (tIs (cutI l p q)) S1 := by
  rw [← cut_tIs]
  simp only [evE, ha, hl, hh, bind_ok', tIs]
theorem ev_lenT {l : List Int} (ha : evE O a ρ S = .ok (tIs l) S1) : evE O (.bi .len (.cons a .nil)) ρ S = .ok (.int l.length) S1 := by
  have := ev_len (xs := l.map D.int) ha
  rw [List.length_map] at this
  exact this
theorem ev_pw {i k : Int} {j : Int} (h : bopD .Pow (.int i) (.int k) = some (.int j)) : evE O (.bop .Pow (.cst (.int i)) (.cst (.int k))) ρ S = .ok (.int j) S :=
  ev_bop (va := .int i) (vb := .int k) (S1 := S) (ev_cst (c := .int i)) (ev_cst (c := .int k)) h
theorem t_eqI {i j : Int} (ha : evE O a ρ S = .ok (.int i) S1) (hb : evE O b ρ S1 = .ok (.int j) S2) : evT O (.cmp .Eq a b) ρ S = .ok (decide (i = j)) S2 :=
  t_cmp ha hb (by show eqD (.int i) (.int j) = _; rw [eqD_int])
theorem t_tru {c : Bool} (ha : evE O a ρ S = .ok (.bl c) S1) : evT O (.tru a) ρ S = .ok c S1 := by
  simp only [evT, ha, bind_ok', der, truD, opt_some']
theorem t_not {c : Bool} (h : evT O t ρ S = .ok c S1) : evT O (.not t) ρ S = .ok (!c) S1 := by
  simp only [evT, h, bind_ok']
theorem t_nt (h : evT O t ρ S = .ok true S1) : evT O (.not t) ρ S = .ok false S1 := t_not h
theorem t_nf (h : evT O t ρ S = .ok false S1) : evT O (.not t) ρ S = .ok true S1 := t_not h
theorem t_ntru (ha : evE O a ρ S = .ok (.bl true) S1) : evT O (.not (.tru a)) ρ S = .ok false S1 := t_nt (t_tru ha)
theorem t_or_t (h : evT O t ρ S = .ok true S1) : evT O (.or t u) ρ S = .ok true S1 := by
  simp only [evT, h, bind_ok', if_true]
theorem s_then {A B : CSs} {o : Out} (h : evT O t ρ S = .ok true S1) (q : exSs sub O A ρ S1 = .ok o S2) : exS sub O (.ite t A B) ρ S = .ok o S2 := by
  simp only [exS, h, bind_ok', if_true, q]
theorem ss_rt {s : CS} {r : CSs} {d : D} (h : exS sub O s ρ S = .ok (.rt d) S1) : exSs sub O (.cons s r) ρ S = .ok (.rt d) S1 := by
  simp only [exSs, h, bind_ok']
theorem ev_callN3 {c : CE} {vc : D} (ha : evE O a ρ S = .ok va S) (hb : evE O b ρ S = .ok vb S) (hc : evE O c ρ S = .ok vc S) : evE O (.call f x (.cons a (.cons b (.cons c .nil)))) ρ S = O.call f [va, vb, vc] S :=
  ev_callN (evs_cons ha (evs_cons hb (evs_cons hc evs_nil)))
end
theorem s_for {O : Orc} {sub : Str → Str → Option Bool} {ρ : Gx.Env} {S S1 S2 : Sto} {tg : CTg} {it : CI} {b : CSs} {l : List D} {o : Out} (h : evI O it ρ S = .ok (.items l) S1) (q : forL (fun d ρ1 S2 => (evTg O tg d ρ1 S2).bind fun ρ2 S3 => exSs sub O b ρ2 S3) l ρ S1 = .ok o S2) : exS sub O (.forS tg it b) ρ S = .ok o S2 := by
  simp only [exS, h, bind_ok']
  exact q
theorem forL_cons {f : D → Gx.Env → Sto → R Out} {d : D} {r : List D} {ρ ρ1 : Gx.Env} {S S1 : Sto} {z : R Out} (h : f d ρ S = .ok (.nx ρ1) S1) (q : forL f r ρ1 S1 = z) : forL f (d :: r) ρ S = z := by
  unfold forL
  rw [h]
  exact q
theorem forL_turn {O : Orc} {sub : Str → Str → Option Bool} {ρ ρ2 ρ3 : Gx.Env} {S S1 S2 : Sto} {tg : CTg} {b : CSs} {d : D} (h1 : evTg O tg d ρ S = .ok ρ2 S1) (h2 : exSs sub O b ρ2 S1 = .ok (.nx ρ3) S2) : ((evTg O tg d ρ S).bind fun ρ2 S3 => exSs sub O b ρ2 S3) = .ok (.nx ρ3) S2 := by
  rw [h1]
  exact h2
theorem tg_nm {O : Orc} {ρ : Gx.Env} {S : Sto} {i : Nat} {d : D} (hi : i < ρ.length) : evTg O (.nm i) d ρ S = .ok (ρ.set i (some d)) S := by
  simp only [evTg, if_pos hi]
theorem tg2 {O : Orc} {ρ : Gx.Env} {S : Sto} {i j : Nat} {a b : D} (hi : i < ρ.length) (hj : j < ρ.length) : evTg O (.tp (.cons (.nm i) (.cons (.nm j) .nil))) (.tup [a, b]) ρ S = .ok ((ρ.set i (some a)).set j (some b)) S := by
  have h2 : j < (ρ.set i (some a)).length := by rw [List.length_set]; exact hj
  have hc : [a, b].length = cntT (.cons (.nm i) (.cons (.nm j) .nil)) := rfl
  simp only [evTg, evTgs, if_pos hi, if_pos h2, if_pos hc, bind_ok', noX]
theorem tg3 {O : Orc} {ρ : Gx.Env} {S : Sto} {i j k : Nat} {a b c : D} (hi : i < ρ.length) (hj : j < ρ.length) (hk : k < ρ.length) : evTg O (.tp (.cons (.nm i) (.cons (.nm j) (.cons (.nm k) .nil)))) (.tup [a, b, c]) ρ S = .ok (((ρ.set i (some a)).set j (some b)).set k (some c)) S := by
  have h2 : j < (ρ.set i (some a)).length := by rw [List.length_set]; exact hj
  have h3 : k < ((ρ.set i (some a)).set j (some b)).length := by rw [List.length_set, List.length_set]; exact hk
  have hc : [a, b, c].length = cntT (.cons (.nm i) (.cons (.nm j) (.cons (.nm k) .nil))) := rfl
  simp only [evTg, evTgs, if_pos hi, if_pos h2, if_pos h3, if_pos hc, bind_ok', noX]
theorem exSs_nil {O : Orc} {sub : Str → Str → Option Bool} {ρ : Gx.Env} {S : Sto} : exSs sub O .nil ρ S = .ok (.nx ρ) S := by simp only [exSs]
theorem ends_nx {kp : Bool} {ρ : Gx.Env} {S : Sto} : ends kp S.length (.ok (.nx ρ) S) = .ok D.non S := by
  show (if kp = true ∨ S.length ≤ S.length then R.ok D.non S else _) = _
  rw [if_pos (.inr (Nat.le_refl _))]
/-- ends well and true -/
def okT (r : R Out) : Bool := match r with | .ok (.rt (.bl true)) _ => true | _ => false
theorem wp_okT {r : R Out} (h : okT r = true) : Wp r fun o _ => o = .rt (.bl true) := by
  unfold okT at h
  split at h
  · exact ⟨_, _, rfl, rfl⟩
  · cases h
end Gx
set_option Elab.async false
set_option linter.all false
set_option maxRecDepth 100000
set_option maxHeartbeats 4000000
/-! Gx: the end of a law in which texts are shown. -/
namespace Gx
open PySem PySem.Spec PyProof.Rows L2
section
variable {P : Program} {w : World} {K : PySem.W.Frag} {mg mb : Str → Option Value} {k : Nat} {fa a : Addr} {cs : List (Addr × Addr)} {fd : FuncData} {x : Str} {sp : Sp} {s : Shared} {vs : List Value} {ns : List Int}
/-- what is tracked at the start: the tables, and the script where the head does not hold it -/
structure At0 (K : PySem.W.Frag) (a : Addr) (ts : List Addr) (so : HO) (H : Hp) : Prop where
  t : ∀ b ∈ ts, H b = some (.tbl #[])
  o : ∀ b u, H b = some u → (b ∈ ts ∧ u = .tbl #[]) ∨ (b = a ∧ K.lookup a = none ∧ u = so)
  a : K.lookup a = none → H a = some so
theorem at0_ex (K : PySem.W.Frag) {a : Addr} {ts : List Addr} (so : HO) (na : a ∉ ts) : ∃ H : Hp, At0 K a ts so H := by
  refine ⟨fun b => if b ∈ ts then some (.tbl #[]) else if b = a ∧ K.lookup a = none then some so else none, fun b h => if_pos h, fun b u e => ?_, fun e => ?_⟩
  · split at e
    · cases e; exact .inl ⟨by assumption, rfl⟩
    · split at e
      · rename_i q
        cases e
        exact .inr ⟨q.1, q.2, rfl⟩
      · cases e
  · rw [if_neg na, if_pos ⟨rfl, e⟩]
theorem law_callG (KX : K.In s.heap) (hN : s.heap.Ns mainGlobals mg) (hB : s.heap.Ns builtinsNs mb) (hBB : ∀ x : Str, x ≠ "__name__" → mb x = bootBuiltins x) (hL : s.heap.NoLimit) (hg : s.gens = #[])
    (hT : ∀ p ∈ cs, s.heap.get? p.2 = some { cls := .none, data := .fields #[] }) (nT : ∀ p ∈ cs, K.lookup p.2 = none) (hC : ∀ p ∈ cs, PySem.W.CodeHd s.heap p.1 p.2)
    (hM : ∃ (bm : Addr) (ob : Obj), mg "__builtins__" = some (.ref bm) ∧ bm ≠ builtinsNs ∧ s.heap.get? bm = some ob ∧ ob.cls = .type "module" ∧ ob.dict = some builtinsNs ∧ ob.data = .plain)
    (ha : s.heap.get? a = some { cls := .type "list", data := .seq vs.toArray }) (hi : IntsAre vs ns) (hl : ns.length ≤ sizeLine) (hr : Room k callerA)
    (F : ∀ base : Heap, K.In base → base.Ns mainGlobals mg → (∀ p ∈ cs, LamX.TabB base mg p.1 p.2) → FnG P w K mg base true k fa fd [x] sp) (hb : ∀ (t : Shared) (u : Value), BindsTo t fd ⟨[u], []⟩ [(x, u)])
    (hs : ∀ H : Hp, (∀ p ∈ cs, H p.2 = some (.tbl #[])) → SqL K H a (ns.map V.int) → sp [.ref a] H (fun v _ => v = .bl true) fun _ _ _ => False)
    (hX : ∀ H e s', L2.CX P w [] H s (fun _ _ _ => False) e s' → False) :
    codeAny (model P w) callerA (.call (.ref fa) ⟨[.ref a], []⟩) (fun r s' => r = .ok (.ret (.bool true)) ∧ OldK s.heap s'.heap ∧ s'.os = s.os ∧ AllBare s'.gens) s := by
  have tg : ∀ b ∈ cs.map (·.2), s.heap.get? b = some { cls := .none, data := .fields #[] } := by
    intro b h
    obtain ⟨p, hp, rfl⟩ := List.mem_map.mp h
    exact hT p hp
  have tk : ∀ b ∈ cs.map (·.2), K.lookup b = none := by
    intro b h
    obtain ⟨p, hp, rfl⟩ := List.mem_map.mp h
    exact nT p hp
  have seqNo : ∀ {its : Array Value} {n : Nat} {o : Obj}, o.data = .seq its n → some o ≠ some ({ cls := .none, data := .fields #[] } : Obj) := by
    intro its n o h e
    cases e
    cases h
  obtain ⟨H, A0⟩ := at0_ex K (ts := cs.map (·.2)) (.frz { cls := .type "list", data := .seq vs.toArray } (.lst (ns.map V.int))) (fun h => seqNo (o := { cls := .type "list", data := .seq vs.toArray }) rfl (ha.symm.trans (tg a h)))
  have it := vals_ints hi
  have ln : (ns.map V.int).length ≤ sizeLine := by rw [List.length_map]; exact hl
  have hS : SqL K H a (ns.map V.int) := by
    cases q : K.lookup a with
    | none => exact .inl (.inr ⟨_, A0.a q⟩)
    | some o =>
      obtain rfl : o = { cls := .type "list", data := .seq vs.toArray } := Option.some.inj ((KX a o q).symm.trans ha)
      exact .inr ⟨_, _, _, q, rfl, rfl, rfl, by rw [List.size_toArray, ← it.length]; exact ln, by simpa using it⟩
  have ok : HOk P w H s.heap := by
    intro b u e
    rcases A0.o b u e with ⟨h, rfl⟩ | ⟨rfl, _, rfl⟩
    · exact tg b h
    · exact ⟨ha, ln, vs, _, it, ha⟩
  have see : ∀ {b : Addr} {o : Obj}, s.heap.get? b = some o → b ∉ cs.map (·.2) → (b = a → K.lookup a ≠ none) → H b = none := by
    intro b o e h1 h2
    cases q : H b with
    | none => rfl
    | some u =>
      rcases A0.o b u q with ⟨h, _⟩ | ⟨h, h', _⟩
      · exact (h1 h).elim
      · exact (h2 h h').elim
  have seeD : ∀ {b : Addr} {o : Obj}, s.heap.get? b = some o → (∀ its n, o.data ≠ .seq its n) → o.data ≠ .fields #[] → H b = none := by
    intro b o e h1 h2
    refine see e (fun h => ?_) fun h => ?_
    · have z := e.symm.trans (tg b h)
      cases z
      exact h2 rfl
    · subst h
      have z := e.symm.trans ha
      cases z
      exact (h1 _ _ rfl).elim
  have ns0 : ∀ {b : Addr} {m : Str → Option Value}, s.heap.Ns b m → (hidT s.heap H).Ns b m := by
    rintro b m ⟨o, es, ep, e, d, r⟩
    refine ⟨o, es, ep, hidT_get e (seeD e ?_ ?_), d, r⟩ <;> rw [d]
    · exact fun _ _ z => by cases z
    · exact fun z => by cases z
  have kin : K.In (hidT s.heap H) := by
    intro b o e
    refine hidT_get (KX b o e) (see (KX b o e) (fun h => ?_) fun h => ?_)
    · rw [tk b h] at e; cases e
    · rw [← h, e]; exact fun z => by cases z
  have tb : ∀ p ∈ cs, LamX.TabB (hidT s.heap H) mg p.1 p.2 := by
    intro p hp
    obtain ⟨bm, ob, m1, m2, m3, m4, m5, m6⟩ := hM
    obtain ⟨go, ges, gep, g1, g2, g3⟩ := id hN
    refine ⟨?_, ⟨bm, ob, m1, m2, fun q => ?_, fun q => ?_, hidT_get m3 (seeD m3 ?_ ?_), m4, m5, m6⟩, fun q => ?_⟩
    · obtain ⟨o, us, f1, f2, f3, f4, f5, f6, f7, e1, r1, r2, r3, rest⟩ := hC p hp
      refine ⟨o, us, f1, f2, f3, f4, f5, f6, f7, hidT_get e1 (seeD e1 ?_ ?_), r1, r2, r3, rest⟩ <;> rw [r2]
      · exact fun _ _ z => by cases z
      · intro z
        cases z
        simp at r3
    · rw [q, g1] at m3
      cases m3
      rw [g2] at m6
      cases m6
    · rw [q, hT p hp] at m3
      cases m3
      cases m6
    · rw [m6]; exact fun _ _ z => by cases z
    · rw [m6]; exact fun z => by cases z
    · rw [q, hT p hp] at g1
      cases g1
      cases g2
  have e0 : Env0 P w K mg (hidT s.heap H) callerA [] s H := by
    refine ⟨rfl, ⟨kin, ns0 hN, ⟨mb, ns0 hB, hBB⟩, ?_⟩, fun b o => of_hidT, Nat.le_of_eq (hidT_size _ _), trivial, fun b h => ?_, ok, .of_eq hg⟩
    · obtain ⟨mc, h1, h2⟩ := hL
      exact ⟨mc, ns0 h1, h2⟩
    · cases h
  refine codeAny_mono ((F _ kin (ns0 hN) tb).run callerA [] s H ⟨[.ref a], []⟩ [.ref a] [.ref a] _ _ hr (fun _ => rfl) e0 (hb s (.ref a)) (.cons rfl .nil) (hs H (fun p hp => A0.t _ (List.mem_map.mpr ⟨p, hp, rfl⟩)) hS)) ?_
  rintro (e | (_ | _ | _ | u)) s' h
  · exact (hX H e s' h).elim
  · exact h.elim
  · exact h.elim
  · exact h.elim
  · obtain ⟨v, H', os, bare, un, ok', r', q⟩ := h
    obtain rfl : v = .bl true := q
    obtain rfl : u = Value.bool true := r'
    have grew : ∀ b ∈ cs.map (·.2), ∃ more : Array Value, s'.heap.get? b = some { cls := .none, data := .fields more } := by
      intro b h
      obtain ⟨more, z⟩ := un.tbls b #[] (A0.t b h)
      exact ⟨_, ok' b _ z⟩
    have stay : ∀ b o, b ∉ cs.map (·.2) → s.heap.get? b = some o → s'.heap.get? b = some o := by
      intro b o n e
      cases z : H b with
      | none => exact un.keep b o e z (fun h => by cases h) fun h => by cases h
      | some u =>
        rcases A0.o b u z with ⟨h, _⟩ | ⟨rfl, _, rfl⟩
        · exact (n h).elim
        · obtain rfl := Option.some.inj (e.symm.trans (ok b _ z).1)
          exact (ok' b _ (un.frzs b _ _ z)).1
    refine ⟨rfl, ⟨fun b o e => ?_, fun b o e => ?_⟩, os, bare⟩
    · by_cases h : b ∈ cs.map (·.2)
      · obtain ⟨more, m⟩ := grew b h
        obtain ⟨p, hp, rfl⟩ := List.mem_map.mp h
        obtain rfl := Option.some.inj (e.symm.trans (hT p hp))
        exact .inr (.inl ⟨((hC p hp).tab (hT p hp)).isCodeTable, rfl, #[], more, rfl, by rw [Array.empty_append]; exact m⟩)
      · exact .inl (stay b o h e)
    · by_cases h : b ∈ cs.map (·.2)
      · obtain ⟨more, m⟩ := grew b h
        exact ⟨_, m⟩
      · exact ⟨o, stay b o h e⟩
end
/-- what is known of the law's promise at the head's heap, where texts may be shown -/
def LawAtG (l : PySem.W.OpenLaw) (w : World) (K : PySem.W.Frag) (k n : Nat) (x : Str) (mg : Str → Option Value) (fa : Addr) (h : Heap) : Prop :=
  ∃ (fd : FuncData) (cs : List (Addr × Addr)) (sp : Sp), (∀ p ∈ cs, h.get? p.2 = some { cls := .none, data := .fields #[] }) ∧ (∀ p ∈ cs, K.lookup p.2 = none) ∧ (∀ p ∈ cs, PySem.W.CodeHd h p.1 p.2) ∧ (∀ (t : Shared) (u : Value), BindsTo t fd ⟨[u], []⟩ [(x, u)]) ∧
    (∀ (H : Hp) (b : Addr) (zs : List Int), zs.length ≤ n → (∀ z ∈ zs, Builtin.Int.intBits z ≤ 1048576) → (∀ p ∈ cs, H p.2 = some (.tbl #[])) → SqL K H b (zs.map V.int) → sp [.ref b] H (fun v _ => v = .bl true) fun _ _ _ => False) ∧
    ∀ base : Heap, K.In base → base.Ns mainGlobals mg → (∀ p ∈ cs, LamX.TabB base mg p.1 p.2) → FnG l.prog w K mg base true k fa fd [x] sp
theorem walk_G {l : PySem.W.OpenLaw} {n k : Nat} {q : Program} {lo : List Str} {XP : (Str → Option Value) → Heap → Prop} {YP : World → Heap → Prop} {d : DefRec} {x : Str} (hn : l.most = some n) (hm : n ≤ sizeLine) (hd : d.params.defaults = []) (hr : Room k callerA)
    (F : ∀ (w : World) (mg : Str → Option Value) (fa : Addr) (h : Heap), YP w h → h.Ns mainGlobals mg → mg d.name = some (.ref fa) → ∃ K : PySem.W.Frag, K.In h ∧ LawAtG l w K k n x mg fa h)
    (hX : ∀ (w : World) (H : Hp) (s : Shared) (e : Value) (s' : Shared), L2.CX l.prog w [] H s (fun _ _ _ => False) e s' → False) :
    PySem.W.WalkO q lo XP YP l.row.toRowW d [] (fun f us => PySem.call f us) := by
  refine Att.attach_callB hn hd ?_
  intro w t₀ t mg mb fa o pm cd doc a vs zs G Y h1 h2 h3 h4 h5 h6 h7 h8 h9
  obtain ⟨K, KX, fd, cs, sp, hT, nT, hC, hb, hsp, hF⟩ := F w mg fa _ Y G.T.g h4
  refine law_callG KX G.T.g G.T.b G.T.builtins G.T.nolimit h9 hT nT hC G.T.bmain h5 h6 (Nat.le_trans h7 hm) hr hF hb ?_ fun H e t' => hX w H t e t'
  intro H z1 z2
  exact hsp H a zs h7 h8 z1 z2
section
variable {T : Tb} {P : Program} {w : World} {K : PySem.W.Frag} {mg : Str → Option Value} {base h : Heap} {tf : List He.Defn} {TT : List (Addr × Str)} {k : Nat}
theorem law_atG {l : PySem.W.OpenLaw} {ts : List He.Tab} {n m i Wn : Nat} {f : Df} {x : Str} {fa : Addr} (hP : P = l.prog) (hc : T.chk = true) (hr : T.rps.contains i = true) (KX : K.In h) (Gn : h.Ns mainGlobals mg) (c : He.SaysX T.fa T.fn ts T.lams T.ex w h K)
    (hf : T.defs[i]? = some f) (hx : f.ps = [x]) (hm : mg f.x = some (.ref fa))
    (hrun : ∀ ns : List Int, ns.length ≤ n → ∃ S', (lv T.prg Wn (m + 1)).call i [.scr (ns.map D.int)] [] = .ok (.bl true) S') : LawAtG l w K (lvK (m + 1)) n x mg fa h := by
  have hmem : f.toD ∈ T.fn := List.mem_append.mpr (.inl (List.mem_map.mpr ⟨f, List.mem_of_getElem? hf, rfl⟩))
  obtain ⟨fd, FD⟩ := He.SaysD.defs c.t.d hmem
  have FD : FunD K f.x f.x (defArgs f.st) (defBody f.st) (defScope f.st) [] [] (He.ga K f.x) fd := FD
  have AT := fun base hB => at_of (TT := T.TT K) hc KX Gn c (tab_of (base := base) c hB) hf FD
  have efa : fa = He.ga K f.x := by
    have := hm.symm.trans (He.glo_ok KX Gn (fa_ok c (mem_names (List.mem_map.mpr ⟨f, List.mem_of_getElem? hf, rfl⟩))))
    cases this
    rfl
  subst efa
  have hd : T.prg.fns[i]? = some f.d := by
    show (T.defs.map (·.d))[i]? = some f.d
    rw [List.getElem?_map, hf]
    rfl
  have hcl : ∀ as S, (lv T.prg Wn (m + 1)).call i as S = if as.length = f.d.np then ends f.d.keep S.length (exSs T.prg.sub ⟨(lv T.prg Wn m).call, (lv T.prg Wn m).lam, Wn⟩ f.d.body (as.map some ++ List.replicate (f.d.ns - f.d.np) none) S) else .stuck := fun as S => by
    show run T.prg _ i as S = _
    unfold run
    rw [hd]
  have one : f.ps.length = 1 := by rw [hx]; rfl
  have bnd : BindU fd f.ps := by
    have h1 : chkAll T 0 T.defs = true := by
      unfold Tb.chk at hc
      exact (Bool.and_eq_true_iff.mp (Bool.and_eq_true_iff.mp hc).1).1
    have h2 := chkAll_get h1 hf
    simp only [chkD, Bool.and_eq_true] at h2
    obtain ⟨oc, od, dV, kV, doc, pm, an, cdv, ct, osl, rfl, lk, hcd, hD, hK⟩ := FD.ex
    refine argB_ok h2.1.1.1.1 ?_
    rcases hD with ⟨_, e⟩ | ⟨e, _⟩
    · exact e
    · exact absurd rfl e
  refine ⟨fd, T.lams.map (He.cT K), spF (glOf T K mg (T.TT K)) f.ps.length ((lv T.prg Wn (m + 1)).call i), fun p hp => ?_, fun p hp => ?_, fun p hp => ?_, fun s u => ?_, fun H a ns hn _ hT hS => ?_, fun base kb gb hB => ?_⟩
  · obtain ⟨p', hp', rfl⟩ := List.mem_map.mp hp
    exact c.empty p' hp'
  · obtain ⟨p', hp', rfl⟩ := List.mem_map.mp hp
    exact c.out p' hp'
  · obtain ⟨p', hp', rfl⟩ := List.mem_map.mp hp
    exact PySem.W.codeHd_of_K KX (c.hd p' hp')
  · have := bnd s [u] (by rw [one]; rfl)
    rw [hx] at this
    exact this
  · obtain ⟨S', e⟩ := hrun ns hn
    rw [one]
    refine law_sp (G := glOf T K mg (T.TT K)) (fun p hp => ?_) hS e
    obtain ⟨p', hp', rfl⟩ := List.mem_map.mp hp
    exact LamX.TabS.nil (hT _ (List.mem_map.mpr ⟨p', hp', rfl⟩))
  · subst hP
    have PO : PrgOk (glOf T K mg (T.TT K)) l.prog w base T.mx T.exs T.prg := prg_ok hc KX Gn c (tab_of c hB)
    have LV := levels PO (gs_ok hc KX Gn c) Wn m
    have FG := fnG_of (AT base hB) PO.N LV PO.exc hcl
    rw [hr] at FG
    rw [hx] at FG ⊢
    exact FG
end
end Gx
set_option Elab.async false
set_option linter.all false
set_option maxRecDepth 100000
set_option maxHeartbeats 4000000
/-! Gx: reckoning with shown texts. -/
namespace Gx
open PySem PySem.Spec PyProof.Rows L2
/-- it can be shown -/
def Shows (v : D) : Prop := ∃ x : Str, biD .repr [v] = some (.str x)
theorem shows_of {v : D} {p : PyData} (h : toPy v = some p) (h1 : SeqAt.shaped p = true) (h2 : p.showable = true) (h3 : p.hasDict = false) (h4 : p.shown.length ≤ sz) : Shows v := by
  refine ⟨p.shown, ?_⟩
  show (toPy v).bind shownD = _
  rw [h]
  show shownD p = _
  unfold shownD
  rw [h1, h2, h3, decide_eq_true h4]
  rfl
theorem log_small {i : Int} (h0 : 0 ≤ i) (h1 : i < 18446744073709551616) : i.natAbs.log2 < 1920 := by
  have e : i.natAbs.log2 < 64 := by
    by_cases q : i.natAbs = 0
    · rw [q]; decide
    · rw [Nat.log2_lt q]
      omega
  omega
theorem int_len {i : Int} (h0 : 0 ≤ i) (h1 : i < 18446744073709551616) : (PyData.shown (.int i)).length ≤ 20 :=
  toString_length_le h0 (by decide) (by omega)
theorem shows_int {i : Int} (h0 : 0 ≤ i) (h1 : i < 18446744073709551616) : Shows (.int i) :=
  shows_of (p := .int i) rfl rfl (decide_eq_true (log_small h0 h1)) rfl (Nat.le_trans (int_len h0 h1) (by decide))
theorem shows_bl (b : Bool) : Shows (.bl b) := by
  cases b <;> exact shows_of rfl rfl rfl rfl (by decide +kernel)
theorem shows_non : Shows .non := shows_of rfl rfl rfl rfl (by decide +kernel)
theorem tuple_len (ts : List Str) (k : Nat) (h : ∀ t ∈ ts, t.length ≤ k) : (tupleText ts).length ≤ 3 + ts.length * (k + 2) := by
  have p : ∀ ts : List Str, (∀ t ∈ ts, t.length ≤ k) → piled ts ≤ ts.length * (k + 2) := by
    intro ts
    induction ts with
    | nil => intro _; exact Nat.zero_le _
    | cons t r ih =>
      intro h
      rw [piled_cons, List.length_cons, Nat.add_mul, Nat.one_mul]
      have := ih fun x hx => h x (List.mem_cons_of_mem _ hx)
      have := h t List.mem_cons_self
      omega
  have j : (Str.join ", " ts).length ≤ ts.length * (k + 2) := by
    cases ts with
    | nil => exact Nat.zero_le _
    | cons t r =>
      have := join_length_add (t :: r) (by simp)
      have := p _ h
      omega
  have e1 : (("(" : String) : Str).length = 1 := rfl
  unfold tupleText
  rw [strLen_append, strLen_append, e1]
  have e2 : ((if ts.length == 1 then ",)" else ")" : String) : Str).length ≤ 2 := by
    split <;> decide
  omega
theorem shownAll_len : ∀ ps : List PyData, (PyData.shownAll ps).length = ps.length
  | [] => rfl
  | p :: r => by simp only [PyData.shownAll, List.length_cons, shownAll_len r]
theorem shownAll_mem : ∀ {ps : List PyData} {t : Str}, t ∈ PyData.shownAll ps → ∃ p ∈ ps, t = p.shown
  | [], _, h => by cases h
  | p :: r, t, h => by
    rcases List.mem_cons.mp (show t ∈ p.shown :: PyData.shownAll r from h) with z | z
    · exact ⟨p, List.mem_cons_self, z⟩
    · obtain ⟨q, hq, e⟩ := shownAll_mem z
      exact ⟨q, List.mem_cons_of_mem _ hq, e⟩
theorem showable_ints : ∀ l : List Int, (∀ i ∈ l, 0 ≤ i ∧ i < 18446744073709551616) → PyData.showableAll (l.map PyData.int) = true
  | [], _ => rfl
  | i :: r, h => by
    simp only [List.map_cons, PyData.showableAll, showable_ints r fun j hj => h j (List.mem_cons_of_mem _ hj), Bool.and_true]
    exact decide_eq_true (log_small (h i List.mem_cons_self).1 (h i List.mem_cons_self).2)
theorem noDict_ints : ∀ l : List Int, PyData.hasDictAll (l.map PyData.int) = false
  | [] => rfl
  | i :: r => by simp only [List.map_cons, PyData.hasDictAll, PyData.hasDict, noDict_ints r, Bool.or_self]
theorem shows_ints (l : List Int) (h : ∀ i ∈ l, 0 ≤ i ∧ i < 18446744073709551616) (hl : l.length ≤ 500000) : Shows (tIs l) := by
  refine shows_of (p := .tuple (l.map PyData.int)) (by simp only [tIs, toPy, toPy_ints, Option.map_some]) (shaped_ints l) (showable_ints l h) (noDict_ints l) ?_
  refine Nat.le_trans (tuple_len _ 20 fun t ht => ?_) ?_
  · obtain ⟨p, hp, rfl⟩ := shownAll_mem ht
    obtain ⟨i, hi, rfl⟩ := List.mem_map.mp hp
    exact int_len (h i hi).1 (h i hi).2
  · rw [shownAll_len, List.length_map]
    simp only [sz]
    omega
theorem shows_octs (l : List Int) (h : octs l) (hl : l.length ≤ 500000) : Shows (tIs l) :=
  shows_ints l (fun i hi => by have := h i hi; omega) hl
theorem eqD_str (x : Str) : eqD (.str x) (.str x) = some true := by
  show some (x == x) = _
  simp
theorem ev_bi1 {O : Orc} {a : CE} {ρ : Gx.Env} {S S1 : Sto} {b : Bi} {v d : D} (h : evE O a ρ S = .ok v S1) (hd : biD b [der S1 v] = some d) : evE O (.bi b (.cons a .nil)) ρ S = .ok d S1 := by
  simp only [evE, evEs, h, bind_ok', List.map_cons, List.map_nil, hd, opt_some']
theorem t_same {O : Orc} {a b : CE} {ρ : Gx.Env} {S S1 S2 : Sto} {v : D} (ha : evE O a ρ S = .ok v S1) (hb : evE O b ρ S1 = .ok v S2) (h1 : der S1 v = v) (h2 : der S2 v = v) (hv : Shows v) : evE O (.cmp .Eq (.bi .repr (.cons a .nil)) (.bi .repr (.cons b .nil))) ρ S = .ok (.bl true) S2 := by
  obtain ⟨x, hx⟩ := hv
  exact ev_cmp (va := .str x) (vb := .str x) (S1 := S1) (ev_bi1 ha (by rw [h1]; exact hx)) (ev_bi1 hb (by rw [h2]; exact hx)) (eqD_str x)
end Gx
set_option Elab.async false
set_option linter.all false
set_option maxRecDepth 100000
set_option maxHeartbeats 4000000
/-! Gx: powers modulo 2147483647. -/
namespace Gx
open PySem PySem.Spec PyProof.Rows L2
abbrev pM : Int := 2147483647
theorem pow_mod (a : Int) : ∀ n : Nat, (a % pM) ^ n % pM = a ^ n % pM
  | 0 => by rw [Int.pow_zero, Int.pow_zero]
  | n + 1 => by rw [Int.pow_succ, Int.pow_succ, Int.mul_emod, pow_mod a n, Int.emod_emod, ← Int.mul_emod]
theorem mulL (a b : Int) : (a % pM) * b % pM = a * b % pM := by rw [Int.mul_emod, Int.emod_emod, ← Int.mul_emod]
theorem mulR (a b : Int) : a * (b % pM) % pM = a * b % pM := by rw [Int.mul_emod, Int.emod_emod, ← Int.mul_emod]
theorem mulRp (f a : Int) (n : Nat) : f * (a % pM) ^ n % pM = f * a ^ n % pM := by rw [← mulR, pow_mod, mulR]
theorem sq_pow (o : Int) (n : Nat) : (o * o) ^ n = o ^ (2 * n) := by
  rw [Int.pow_mul, Int.pow_succ, Int.pow_succ, Int.pow_zero, Int.one_mul]
theorem pow_even (f o : Int) (m : Nat) (h : m % 2 = 0) : f * (o * o % pM) ^ (m / 2) % pM = f * o ^ m % pM := by
  rw [mulRp, sq_pow, show 2 * (m / 2) = m by omega]
theorem pow_odd (f o : Int) (m : Nat) (h : m % 2 = 1) : (f * o % pM) * (o * o % pM) ^ (m / 2) % pM = f * o ^ m % pM := by
  rw [mulRp, mulL, sq_pow, Int.mul_assoc, ← Int.pow_succ', show 2 * (m / 2) + 1 = m by omega]
def fp : Nat → Int → Int → Nat → Int
  | 0, f, _, _ => f
  | k + 1, f, o, m => fp k (if m % 2 = 1 then f * o % pM else f) (o * o % pM) (m / 2)
theorem fp_eq : ∀ (k : Nat) (f o : Int) (m : Nat), m < 2 ^ k → 0 ≤ f → f < pM → fp k f o m = f * o ^ m % pM
  | 0, f, o, m, h, h0, h1 => by
    have : m = 0 := by simp at h; exact h
    rw [this, Int.pow_zero, Int.mul_one]
    exact (Int.emod_eq_of_lt h0 h1).symm
  | k + 1, f, o, m, h, h0, h1 => by
    have hk : m / 2 < 2 ^ k := by rw [Nat.pow_succ] at h; omega
    unfold fp
    by_cases q : m % 2 = 1
    · rw [if_pos q, fp_eq k _ _ _ hk (Int.emod_nonneg _ (by decide)) (Int.emod_lt_of_pos _ (by decide)), pow_odd f o m q]
    · rw [if_neg q, fp_eq k _ _ _ hk h0 h1, pow_even f o m (by omega)]
/-- 7 to the m, at the order of the group -/
theorem seven (m : Nat) (h : m = 2147483646) : (7 : Int) ^ m % pM = 1 := by
  have e := fp_eq 31 1 7 m (by rw [h]; decide) (by decide) (by decide)
  rw [Int.one_mul] at e
  rw [← e, h]
  decide +kernel
theorem pow_period (M : Nat) (h : (7 : Int) ^ M % pM = 1) (N : Nat) : (7 : Int) ^ N % pM = 7 ^ (N % M) % pM := by
  have e := Nat.div_add_mod N M
  have : (7 : Int) ^ N = (7 ^ M) ^ (N / M) * 7 ^ (N % M) := by rw [← Int.pow_mul, ← Int.pow_add, e]
  rw [this, ← mulL, ← pow_mod, h, Int.one_pow, mulL, Int.one_mul]
theorem seven_ne (M k : Nat) (h : (7 : Int) ^ M % pM = 1) (hk : k ≤ M) : (7 : Int) ^ k % pM ≠ 0 := by
  intro z
  have e : (7 : Int) ^ M = 7 ^ k * 7 ^ (M - k) := by rw [← Int.pow_add, Nat.add_sub_cancel' hk]
  rw [e, ← mulL, z, Int.zero_mul] at h
  exact absurd h (by decide)
/-- a signature made by the secret s with the nonce k is right -/
theorem sig_right (M k e s : Nat) (h : (7 : Int) ^ M % pM = 1) : (7 : Int) ^ ((k + e * s) % M) % pM = (7 ^ k % pM) * ((7 ^ s % pM) ^ e % pM) % pM := by
  rw [← pow_period M h, mulL, mulR, mulRp, ← Int.pow_mul, ← Int.pow_add, Nat.mul_comm s e]
def pwI (b m : Int) : Int := b ^ m.toNat % pM
theorem pwI_bound (b m : Int) : 0 ≤ pwI b m ∧ pwI b m < 2147483647 := ⟨Int.emod_nonneg _ (by decide), Int.emod_lt_of_pos _ (by decide)⟩
theorem fdiv_lit {i j : Int} (h : 0 < j) (h2 : j < 2 ^ 256) : bopD .FloorDiv (.int i) (.int j) = some (.int (i / j)) := by
  simp only [bopD]
  rw [if_pos ⟨h, h2⟩]
theorem mul31 {i j : Int} (h0 : 0 ≤ i) (h1 : i < 2147483648) : bopD .Mult (.int i) (.int j) = some (.int (i * j)) := by
  have : mulOk i j = true := by
    unfold mulOk
    rw [decide_eq_true (show -18446744073709551616 < i by omega), decide_eq_true (show i < 18446744073709551616 by omega)]
    rfl
  simp only [bopD]
  rw [if_pos this]
theorem s_par3 {O : Orc} {sub : Str → Str → Option Bool} {es : CEs} {ρ : Gx.Env} {S S1 : Sto} {i j k : Nat} {d e f : D} (h : evEs O es ρ S = .ok [d, e, f] S1) (hi : i < ρ.length) (hj : j < ρ.length) (hk : k < ρ.length) : exS sub O (.par [i, j, k] es) ρ S = .ok (.nx (((ρ.set i (some d)).set j (some e)).set k (some f))) S1 := by
  have hj' : j < (ρ.set i (some d)).length := by rw [List.length_set]; exact hj
  have hk' : k < ((ρ.set i (some d)).set j (some e)).length := by rw [List.length_set, List.length_set]; exact hk
  simp only [exS, h, bind_ok', setAll, if_pos hi, if_pos hj', if_pos hk', opt_some']
theorem t_chLL {O : Orc} {a b c : CE} {ρ : Gx.Env} {S : Sto} {i j l : Int} (ha : evE O a ρ S = .ok (.int i) S) (hb : evE O b ρ S = .ok (.int j) S) (hc : evE O c ρ S = .ok (.int l) S) : evT O (.chain .LtE .LtE a b c) ρ S = .ok (decide (i ≤ j) && decide (j ≤ l)) S := by
  by_cases h : i ≤ j <;> simp [evT, ha, hb, hc, der, cmpD, h]
theorem t_gtI {O : Orc} {a b : CE} {ρ : Gx.Env} {S S1 S2 : Sto} {i j : Int} (ha : evE O a ρ S = .ok (.int i) S1) (hb : evE O b ρ S1 = .ok (.int j) S2) : evT O (.cmp .Gt a b) ρ S = .ok (decide (j < i)) S2 := t_cmp ha hb rfl
theorem ev_eqI {O : Orc} {a b : CE} {ρ : Gx.Env} {S S1 S2 : Sto} {i j : Int} (ha : evE O a ρ S = .ok (.int i) S1) (hb : evE O b ρ S1 = .ok (.int j) S2) : evE O (.cmp .Eq a b) ρ S = .ok (.bl (decide (i = j))) S2 :=
  ev_cmp ha hb (by show eqD (.int i) (.int j) = _; rw [eqD_int])
theorem tg4 {O : Orc} {ρ : Gx.Env} {S : Sto} {i j k l : Nat} {a b c d : D} (hi : i < ρ.length) (hj : j < ρ.length) (hk : k < ρ.length) (hl : l < ρ.length) : evTg O (.tp (.cons (.nm i) (.cons (.nm j) (.cons (.nm k) (.cons (.nm l) .nil))))) (.tup [a, b, c, d]) ρ S = .ok ((((ρ.set i (some a)).set j (some b)).set k (some c)).set l (some d)) S := by
  have h2 : j < (ρ.set i (some a)).length := by rw [List.length_set]; exact hj
  have h3 : k < ((ρ.set i (some a)).set j (some b)).length := by rw [List.length_set, List.length_set]; exact hk
  have h4 : l < (((ρ.set i (some a)).set j (some b)).set k (some c)).length := by rw [List.length_set, List.length_set, List.length_set]; exact hl
  have hc : [a, b, c, d].length = cntT (.cons (.nm i) (.cons (.nm j) (.cons (.nm k) (.cons (.nm l) .nil)))) := rfl
  simp only [evTg, evTgs, if_pos hi, if_pos h2, if_pos h3, if_pos h4, if_pos hc, bind_ok', noX]
theorem s_asgt {O : Orc} {sub : Str → Str → Option Bool} {a : CE} {tg : CTg} {ρ ρ1 : Gx.Env} {S S1 S2 : Sto} {d : D} (h : evE O a ρ S = .ok d S1) (ht : evTg O tg d ρ S1 = .ok ρ1 S2) : exS sub O (.asg tg a) ρ S = .ok (.nx ρ1) S2 := by
  simp only [exS, h, bind_ok', ht]
theorem ev_callN4 {O : Orc} {ρ : Gx.Env} {S : Sto} {a b c d : CE} {va vb vc vd : D} {f : Nat} {x : Str} (ha : evE O a ρ S = .ok va S) (hb : evE O b ρ S = .ok vb S) (hc : evE O c ρ S = .ok vc S) (hd : evE O d ρ S = .ok vd S) : evE O (.call f x (.cons a (.cons b (.cons c (.cons d .nil))))) ρ S = O.call f [va, vb, vc, vd] S :=
  ev_callN (evs_cons ha (evs_cons hb (evs_cons hc (evs_cons hd evs_nil))))
end Gx
set_option Elab.async false
set_option linter.all false
set_option maxRecDepth 100000
set_option maxHeartbeats 4000000
/-! Gx: plain values of any shape. -/
namespace Gx
open PySem PySem.Spec PyProof.Rows L2
def Pl (m : Nat) : Nat → D → Prop
  | _, .non => True
  | _, .bl _ => True
  | _, .int _ => True
  | _, .str x => PyData.strOk x = true
  | k + 1, .tup xs => xs.length ≤ m ∧ ∀ x ∈ xs, Pl m k x
  | k + 1, .lst xs => xs.length ≤ m ∧ ∀ x ∈ xs, Pl m k x
  | _, _ => False
theorem pl_non {m k : Nat} : Pl m k .non := by cases k <;> trivial
theorem pl_bl {m k : Nat} {b : Bool} : Pl m k (.bl b) := by cases k <;> trivial
theorem pl_int {m k : Nat} {i : Int} : Pl m k (.int i) := by cases k <;> trivial
theorem pl_str {m k : Nat} {x : Str} (h : PyData.strOk x = true) : Pl m k (.str x) := by cases k <;> exact h
theorem pl_strOk {m k : Nat} {x : Str} (h : Pl m k (.str x)) : PyData.strOk x = true := by cases k <;> exact h
theorem pl_tup {m k : Nat} {xs : List D} (h : Pl m k (.tup xs)) : ∃ j, k = j + 1 ∧ xs.length ≤ m ∧ ∀ x ∈ xs, Pl m j x := by
  cases k with
  | zero => exact (show False from h).elim
  | succ j => exact ⟨j, rfl, h⟩
theorem pl_lst {m k : Nat} {xs : List D} (h : Pl m k (.lst xs)) : ∃ j, k = j + 1 ∧ xs.length ≤ m ∧ ∀ x ∈ xs, Pl m j x := by
  cases k with
  | zero => exact (show False from h).elim
  | succ j => exact ⟨j, rfl, h⟩
theorem pl_mono {m m' : Nat} (hm : m ≤ m') : ∀ (k k' : Nat) (v : D), k ≤ k' → Pl m k v → Pl m' k' v
  | k, k', .non, _, _ => pl_non
  | k, k', .bl _, _, _ => pl_bl
  | k, k', .int _, _, _ => pl_int
  | k, k', .str x, _, h => pl_str (pl_strOk h)
  | k + 1, 0, .tup xs, hk, h => by omega
  | k + 1, k' + 1, .tup xs, hk, h => ⟨Nat.le_trans h.1 hm, fun x hx => pl_mono hm k k' x (by omega) (h.2 x hx)⟩
  | k + 1, 0, .lst xs, hk, h => by omega
  | k + 1, k' + 1, .lst xs, hk, h => ⟨Nat.le_trans h.1 hm, fun x hx => pl_mono hm k k' x (by omega) (h.2 x hx)⟩
  | 0, _, .tup xs, _, h => (show False from h).elim
  | 0, _, .lst xs, _, h => (show False from h).elim
  | k, _, .scr _, _, h => by cases k <;> exact (show False from h).elim
  | k, _, .loc _, _, h => by cases k <;> exact (show False from h).elim
  | k, _, .fn _, _, h => by cases k <;> exact (show False from h).elim
  | k, _, .ty _, _, h => by cases k <;> exact (show False from h).elim
theorem pl_list {m k : Nat} (ih : ∀ v, Pl m k v → ∃ p, toPy v = some p ∧ p.canLay0 = true ∧ p.depth ≤ k) : ∀ xs : List D, (∀ x ∈ xs, Pl m k x) → ∃ ps, toPyL xs = some ps ∧ PyData.canLayAll0 ps = true ∧ PyData.depthAll ps ≤ k ∧ ps.length = xs.length
  | [], _ => ⟨[], rfl, rfl, Nat.zero_le _, rfl⟩
  | x :: r, h => by
    obtain ⟨p, h1, h2, h3⟩ := ih x (h x List.mem_cons_self)
    obtain ⟨ps, g1, g2, g3, g4⟩ := pl_list ih r fun y hy => h y (List.mem_cons_of_mem _ hy)
    refine ⟨p :: ps, ?_, ?_, ?_, ?_⟩
    · simp only [toPyL, h1, g1]
    · simp only [PyData.canLayAll0, h2, g2, Bool.and_self]
    · simp only [PyData.depthAll]; omega
    · simp only [List.length_cons, g4]
theorem pl_py {m : Nat} : ∀ (k : Nat) (v : D), Pl m k v → ∃ p, toPy v = some p ∧ p.canLay0 = true ∧ p.depth ≤ k
  | k, .non, _ => ⟨_, rfl, rfl, Nat.zero_le _⟩
  | k, .bl _, _ => ⟨_, rfl, rfl, Nat.zero_le _⟩
  | k, .int _, _ => ⟨_, rfl, rfl, Nat.zero_le _⟩
  | k, .str x, h => ⟨_, rfl, pl_strOk h, Nat.zero_le _⟩
  | k + 1, .tup xs, h => by
    obtain ⟨ps, g1, g2, g3, _⟩ := pl_list (pl_py k) xs h.2
    exact ⟨.tuple ps, by simp only [toPy, g1, Option.map_some], g2, by simp only [PyData.depth]; omega⟩
  | k + 1, .lst xs, h => by
    obtain ⟨ps, g1, g2, g3, _⟩ := pl_list (pl_py k) xs h.2
    exact ⟨.list ps, by simp only [toPy, g1, Option.map_some], g2, by simp only [PyData.depth]; omega⟩
  | 0, .tup xs, h => (show False from h).elim
  | 0, .lst xs, h => (show False from h).elim
  | k, .scr _, h => by cases k <;> exact (show False from h).elim
  | k, .loc _, h => by cases k <;> exact (show False from h).elim
  | k, .fn _, h => by cases k <;> exact (show False from h).elim
  | k, .ty _, h => by cases k <;> exact (show False from h).elim
theorem pl_shaped {m k : Nat} {v : D} (h : Pl m k v) (hk : k ≤ 64) : ∃ p, toPy v = some p ∧ SeqAt.shaped p = true := by
  obtain ⟨p, h1, h2, h3⟩ := pl_py k v h
  refine ⟨p, h1, ?_⟩
  unfold SeqAt.shaped
  rw [h2, decide_eq_true (by omega)]
  rfl
theorem pl_der {m k : Nat} {v : D} {S : Sto} (h : Pl m k v) : der S v = v := by
  cases v with
  | loc k' => cases k <;> exact (show False from h).elim
  | _ => rfl
theorem eqP_of {x y : D} {p q : PyData} (h1 : toPy x = some p) (h2 : toPy y = some q) (s1 : SeqAt.shaped p = true) (s2 : SeqAt.shaped q = true) : eqP x y = some (PyData.eqv p q) := by
  unfold eqP
  rw [h1, h2]
  simp only [s1, s2, Bool.and_self, if_true]
theorem eqD_of {x y : D} {p q : PyData} (h1 : toPy x = some p) (h2 : toPy y = some q) (s1 : SeqAt.shaped p = true) (s2 : SeqAt.shaped q = true) : ∃ c, eqD x y = some c := by
  unfold eqD
  split
  · exact ⟨_, rfl⟩
  · exact ⟨_, eqP_of h1 h2 s1 s2⟩
/-- is it the text x? -/
def isText (x : Str) (v : D) : Bool := (eqD v (.str x)).getD false
theorem eq_text {m k : Nat} {v : D} {x : Str} (h : Pl m k v) (hk : k ≤ 64) (hx : PyData.strOk x = true) : eqD v (.str x) = some (isText x v) := by
  obtain ⟨p, h1, h2⟩ := pl_shaped h hk
  obtain ⟨c, e⟩ := eqD_of (y := .str x) (q := .str x) h1 rfl h2 (show SeqAt.shaped (.str x) = true by unfold SeqAt.shaped; simp only [PyData.canLay0, hx, PyData.depth]; rfl)
  unfold isText
  rw [e]
  rfl
theorem eq_nilT {m k : Nat} {x : D} {xs : List D} (h : Pl m k (.tup (x :: xs))) (hk : k ≤ 64) : eqD (.tup (x :: xs)) (.tup []) = some false := by
  obtain ⟨p, h1, h2⟩ := pl_shaped h hk
  obtain ⟨j, rfl, h3, h4⟩ := pl_tup h
  obtain ⟨ps, g1, g2, g3, g4⟩ := pl_list (pl_py j) _ h4
  have e : p = .tuple ps := by
    simp only [toPy, g1, Option.map_some] at h1
    exact (Option.some.inj h1).symm
  subst e
  obtain ⟨q, qs, rfl⟩ : ∃ q qs, ps = q :: qs := by
    cases ps with
    | nil => simp at g4
    | cons q qs => exact ⟨q, qs, rfl⟩
  exact (eqP_of h1 (q := .tuple []) rfl h2 rfl).trans (by simp only [PyData.eqv, PyData.eqvAll])
theorem eq_nilL {m k : Nat} {xs : List D} (h : Pl m k (.lst xs)) (hk : k ≤ 64) : eqD (.lst xs) (.lst []) = some xs.isEmpty := by
  obtain ⟨p, h1, h2⟩ := pl_shaped h hk
  obtain ⟨j, rfl, h3, h4⟩ := pl_lst h
  obtain ⟨ps, g1, g2, g3, g4⟩ := pl_list (pl_py j) _ h4
  have e : p = .list ps := by
    simp only [toPy, g1, Option.map_some] at h1
    exact (Option.some.inj h1).symm
  subst e
  refine (eqP_of h1 (q := .list []) rfl h2 rfl).trans ?_
  cases xs with
  | nil =>
    have : ps = [] := by simpa using g4
    subst this
    rfl
  | cons x r =>
    obtain ⟨q, qs, rfl⟩ : ∃ q qs, ps = q :: qs := by
      cases ps with
      | nil => simp at g4
      | cons q qs => exact ⟨q, qs, rfl⟩
    simp only [PyData.eqv, PyData.eqvAll, List.isEmpty_cons]
/-! ### looking at any value -/
def wholeB (lo hi : Int) : D → Bool
  | .int i => decide (lo ≤ i) && decide (i ≤ hi)
  | _ => false
def tupB : D → Bool
  | .tup _ => true
  | _ => false
def strB : D → Bool
  | .str _ => true
  | _ => false
def octsB (m : Nat) : D → Bool
  | .tup xs => decide (xs.length ≤ m) && xs.all (wholeB 0 255)
  | _ => false
theorem isi_tup {m k : Nat} {v : D} (h : Pl m k v) : isiD v [.tuple] = some (tupB v) := by
  cases v with
  | scr | loc | fn | ty => cases k <;> exact (show False from h).elim
  | _ => rfl
theorem isi_str {m k : Nat} {v : D} (h : Pl m k v) : isiD v [.str] = some (strB v) := by
  cases v with
  | scr | loc | fn | ty => cases k <;> exact (show False from h).elim
  | _ => rfl
section
variable {O : Orc} {ρ : Gx.Env} {S S1 S2 : Sto} {a b : CE} {t u : CT} {v : D}
theorem ev_isi {ts : List Ty} {c : Bool} (h : evE O a ρ S = .ok v S1) (hd : isiD (der S1 v) ts = some c) : evE O (.isi a ts) ρ S = .ok (.bl c) S1 := by
  simp only [evE, h, bind_ok', hd, Option.map_some, opt_some']
theorem t_orB {c d : Bool} (h : evT O t ρ S = .ok c S) (k : c = false → evT O u ρ S = .ok d S) : evT O (.or t u) ρ S = .ok (c || d) S := by
  cases c with
  | true => exact t_or_t h
  | false => rw [t_or h, k rfl]; rfl
theorem t_notB {c : Bool} (h : evT O t ρ S = .ok c S) : evT O (.not t) ρ S = .ok (!c) S := t_not h
theorem ev_andB {c d : Bool} (h : evE O a ρ S = .ok (.bl c) S) (k : c = true → evE O b ρ S = .ok (.bl d) S) : evE O (.andV a b) ρ S = .ok (.bl (c && d)) S := by
  cases c with
  | true => rw [ev_and_t h, k rfl]; rfl
  | false => simp [evE, h, der, truD]
theorem t_neB {va vb : D} {c : Bool} (ha : evE O a ρ S = .ok va S) (hb : evE O b ρ S = .ok vb S) (h1 : der S va = va) (h2 : der S vb = vb) (h : eqD va vb = some c) : evT O (.cmp .NotEq a b) ρ S = .ok (!c) S :=
  t_ne ha hb (by rw [h1, h2]; exact h)
theorem s_iteB {sub : Str → Str → Option Bool} {c : Bool} {d : D} {A : CSs} (h : evT O t ρ S = .ok c S) (ha : exSs sub O A ρ S = .ok (.rt d) S) : exS sub O (.ite t A .nil) ρ S = .ok (if c then .rt d else .nx ρ) S := by
  cases c with
  | true => rw [s_then h ha]; rfl
  | false => rw [s_skip h]; rfl
end
theorem compL_filter {f : D → Sto → R (Option D)} {p : D → Bool} {S : Sto} : ∀ (l : List D), (∀ d ∈ l, f d S = .ok (if p d then some d else none) S) → compL f l S = .ok (l.filter p) S
  | [], _ => rfl
  | d :: r, h => by
    unfold compL
    rw [h d List.mem_cons_self]
    show (compL f r S).bind _ = _
    rw [compL_filter r fun e he => h e (List.mem_cons_of_mem _ he)]
    cases q : p d <;> simp [q, R.bind]
theorem filter_none (p : D → Bool) (xs : List D) : (xs.filter fun d => !p d).isEmpty = xs.all p := by
  induction xs with
  | nil => rfl
  | cons x r ih => cases q : p x <;> simp [q, ih]
theorem cF_eq {O : Orc} {own : List Nat} {tg : CTg} {e : CE} {ρ ρ1 : Gx.Env} {S S2 : Sto} {d y : D} (h : evTg O tg d (wipeE ρ own) S = .ok ρ1 S) (he : evE O e ρ1 S = .ok y S2) : cF O own tg .non e ρ d S = .ok (some y) S2 := by
  unfold cF
  rw [h]
  simp only [bind_ok', evTo, if_true, he]
theorem cF_if {O : Orc} {own : List Nat} {tg : CTg} {t : CT} {e : CE} {ρ ρ1 : Gx.Env} {S : Sto} {d y : D} {c : Bool} (h : evTg O tg d (wipeE ρ own) S = .ok ρ1 S) (ht : evT O t ρ1 S = .ok c S) (he : evE O e ρ1 S = .ok y S) : cF O own tg (.som t) e ρ d S = .ok (if c then some y else none) S := by
  unfold cF
  rw [h]
  simp only [bind_ok', evTo, ht]
  cases c with
  | true => simp only [if_true, he, bind_ok']
  | false => simp only [Bool.false_eq_true, if_false]
theorem forL_rt {f : D → Gx.Env → Sto → R Out} {d v : D} {r : List D} {ρ : Gx.Env} {S S1 : Sto} (h : f d ρ S = .ok (.rt v) S1) : forL f (d :: r) ρ S = .ok (.rt v) S1 := by
  unfold forL
  rw [h]
  rfl
theorem forL_tb {O : Orc} {sub : Str → Str → Option Bool} {ρ ρ2 : Gx.Env} {S S1 : Sto} {tg : CTg} {b : CSs} {d : D} {r : R Out} (h1 : evTg O tg d ρ S = .ok ρ2 S1) (h2 : exSs sub O b ρ2 S1 = r) : ((evTg O tg d ρ S).bind fun ρ2 S3 => exSs sub O b ρ2 S3) = r := by
  rw [h1]
  exact h2
theorem wp_forL_cons {f : D → Gx.Env → Sto → R Out} {d : D} {r : List D} {ρ : Gx.Env} {S : Sto} {Q : Out → Sto → Prop} (h : Wp (f d ρ S) fun o S1 => ∃ ρ1, o = .nx ρ1 ∧ Wp (forL f r ρ1 S1) Q) : Wp (forL f (d :: r) ρ S) Q := by
  obtain ⟨o, S1, e, ρ1, rfl, q⟩ := h
  unfold forL
  rw [e]
  exact q
theorem pl_tIs {m k : Nat} (l : List Int) (h : l.length ≤ m) : Pl m (k + 1) (tIs l) :=
  ⟨by rw [List.length_map]; exact h, fun x hx => by obtain ⟨i, _, rfl⟩ := List.mem_map.mp hx; exact pl_int⟩
theorem octsB_tIs {hi : Nat} {l : List Int} (h : octs l) (hl : l.length ≤ hi) : octsB hi (tIs l) = true := by
  show (decide ((l.map D.int).length ≤ hi) && (l.map D.int).all (wholeB 0 255)) = true
  rw [List.length_map, decide_eq_true hl, Bool.true_and, List.all_map]
  refine List.all_eq_true.mpr fun i hi => ?_
  have := h i hi
  show (decide (0 ≤ i) && decide (i ≤ 255)) = true
  rw [decide_eq_true this.1, decide_eq_true this.2]
  rfl
/-! ### what is common -/
def inB (k : List Int) (i : Int) : Bool := L2.inV (.int i) (k.map V.int)
theorem in_ints (k : List Int) (i : Int) : inD (.int i) (k.map D.int) = some (inB k i) := by
  have hf : (k.map D.int).all flat = true := List.all_eq_true.mpr fun x hx => by obtain ⟨j, _, rfl⟩ := List.mem_map.mp hx; rfl
  unfold inD
  rw [if_pos (by rw [hf]; rfl), List.map_map]
  rfl
theorem inB_head (i : Int) (r : List Int) : inB (i :: r) i = true := by
  unfold inB L2.inV
  simp [L2.eqV]
def fcI (l k : List Int) : Option Int := (l.filter (inB k)).head?
def optD : Option Int → D
  | some i => .int i
  | none => .non
def agrD : Option Int → Option Int → Option Int → D
  | some x, some y, some z => tIs [x, y, z]
  | _, _, _ => .non
theorem none_in (x y z : Option Int) : inD .non [optD x, optD y, optD z] = some (x.isNone || y.isNone || z.isNone) := by
  cases x <;> cases y <;> cases z <;> rfl
theorem filter_ints (p : Int → Bool) (q : D → Bool) (h : ∀ i, q (.int i) = p i) : ∀ l : List Int, (l.map D.int).filter q = (l.filter p).map D.int
  | [] => rfl
  | i :: r => by
    rw [List.map_cons, List.filter_cons, List.filter_cons, h i, filter_ints p q h r]
    cases p i <;> rfl
theorem shows_agr (x y z : Option Int) (h : ∀ i, (x = some i ∨ y = some i ∨ z = some i) → 0 ≤ i ∧ i < 18446744073709551616) : Shows (agrD x y z) := by
  cases x with
  | none => exact shows_non
  | some a => cases y with
    | none => exact shows_non
    | some b => cases z with
      | none => exact shows_non
      | some c => exact shows_ints _ (fun i hi => by
          simp only [List.mem_cons, List.not_mem_nil, or_false] at hi
          rcases hi with rfl | rfl | rfl
          · exact h _ (.inl rfl)
          · exact h _ (.inr (.inl rfl))
          · exact h _ (.inr (.inr rfl))) (by show 3 ≤ 500000; decide)
theorem fcI_mem {l k : List Int} {i : Int} (h : fcI l k = some i) : i ∈ l := by
  unfold fcI at h
  exact (List.mem_filter.mp (List.mem_of_head? h)).1
theorem fcI_self (l : List Int) : fcI l l = l.head? := by
  cases l with
  | nil => rfl
  | cons i r =>
    unfold fcI
    rw [List.filter_cons, if_pos (inB_head i r)]
    rfl
theorem take1 (l : List Int) : l.take 1 = l.head?.toList := by cases l <;> rfl
def lsD (w : Int) (a b c : List Int) : D := .tup [.str "lists", .int w, tIs a, tIs b, tIs c]
def lsOk (w : Int) (a b c : List Int) : Prop := 0 ≤ w ∧ w ≤ 18446744073709551615 ∧ (octs a ∧ a.length ≤ 4) ∧ (octs b ∧ b.length ≤ 4) ∧ octs c ∧ c.length ≤ 4
theorem pl_ls (w : Int) (a b c : List Int) (h : lsOk w a b c) : Pl 99 2 (lsD w a b c) := by
  obtain ⟨_, _, h1, h2, h3⟩ := h
  refine ⟨by show 5 ≤ 99; decide, fun x hx => ?_⟩
  simp only [List.mem_cons, List.not_mem_nil, or_false] at hx
  rcases hx with rfl | rfl | rfl | rfl | rfl
  · exact pl_str (by decide +kernel)
  · exact pl_int
  · exact pl_tIs a (by omega)
  · exact pl_tIs b (by omega)
  · exact pl_tIs c (by omega)
def rowL (w : Int) (a b c : List Int) : List Int := (((20 :: octB 8 w) ++ ((a.length : Int) :: a)) ++ ((b.length : Int) :: b)) ++ ((c.length : Int) :: c)
/-! ### cuts -/
theorem cut_mem {xs : List D} {lo hi : Option Int} {x : D} (h : x ∈ Gx.cutD xs lo hi) : x ∈ xs := List.mem_of_mem_drop (List.mem_of_mem_take h)
theorem cut_lo (xs : List D) (a : Nat) : (Gx.cutD xs none (some (a : Int))).length ≤ a := by
  unfold Gx.cutD
  rw [List.length_take, HT.sIx_nat, HT.sIx_none]
  omega
theorem cut_hi (xs : List D) (a : Nat) : (Gx.cutD xs (some (a : Int)) none).length ≤ xs.length - a := by
  unfold Gx.cutD
  rw [List.length_take, HT.sIx_nat, HT.sIx_none]
  omega
theorem cut_mid (xs : List D) (a b : Nat) : (Gx.cutD xs (some (a : Int)) (some (b : Int))).length ≤ b - a := by
  unfold Gx.cutD
  rw [List.length_take, HT.sIx_nat, HT.sIx_nat]
  omega
theorem add_tups {a b : List D} (h : a.length + b.length ≤ sz) : bopD .Add (.tup a) (.tup b) = some (.tup (a ++ b)) := by
  simp only [bopD]
  rw [if_pos h]
end Gx
set_option Elab.async false
set_option linter.all false
set_option maxRecDepth 100000
set_option maxHeartbeats 4000000
/-! Gx: 7 is a root of order 2147483646; agreed powers. -/
namespace Gx
open PySem PySem.Spec PyProof.Rows L2
def One (a : Nat) : Prop := (7 : Int) ^ a % pM = 1
theorem one_mod {a b : Nat} (ha : One a) (hb : One b) : One (a % b) := (pow_period b hb a).symm.trans ha
theorem one_gcd (a b : Nat) : One a → One b → One (Nat.gcd a b) := by
  induction a, b using Nat.gcd.induction with
  | H0 b => intro _ h; rw [Nat.gcd_zero_left]; exact h
  | H1 a b h0 ih => intro ha hb; rw [Nat.gcd_rec]; exact ih (one_mod hb ha) ha
theorem one_mul {g : Nat} (h : One g) (c : Nat) : One (g * c) := by
  unfold One at *
  rw [Int.pow_mul, ← pow_mod, h, Int.one_pow]
  decide
theorem one_no (k : Nat) (h : fp 31 1 7 k ≠ 1) (hk : k < 2 ^ 31) : ¬ One k := fun o => h (by rw [fp_eq 31 1 7 k hk (by decide) (by decide), Int.one_mul]; exact o)
theorem cop {c q : Nat} (hq : ∀ d, d < q + 1 → d ∣ q → d = 1 ∨ d = q) (h0 : 0 < q) (h : ¬ q ∣ c) : Nat.Coprime c q := by
  have d1 := Nat.gcd_dvd_right c q
  rcases hq _ (by have := Nat.le_of_dvd h0 d1; omega) d1 with e | e
  · exact e
  · exact absurd (e ▸ Nat.gcd_dvd_left c q) h
theorem seven_one (m : Nat) (h0 : 0 < m) (h1 : m < 2147483646) : ¬ One m := by
  intro hm
  obtain ⟨M, hM⟩ : ∃ M : Nat, M = 2147483646 := ⟨_, rfl⟩
  have hMo : One M := seven M hM
  have hg : One (Nat.gcd m M) := one_gcd m M hm hMo
  obtain ⟨c, hc⟩ := Nat.gcd_dvd_right m M
  have gm : Nat.gcd m M ≤ m := Nat.le_of_dvd h0 (Nat.gcd_dvd_left m M)
  generalize Nat.gcd m M = g at hg hc gm
  have no : ∀ q : Nat, 0 < q → (∀ k, q * k = 2147483646 → fp 31 1 7 k ≠ 1 ∧ k < 2 ^ 31) → ¬ q ∣ c := by
    rintro q hq0 hk ⟨d, rfl⟩
    have e : q * (g * d) = 2147483646 := by rw [← hM, hc, Nat.mul_left_comm]
    obtain ⟨a, b⟩ := hk _ e
    exact one_no _ a b (one_mul hg d)
  have wr : ∀ (q k : Nat), 0 < q → q * k = 2147483646 → fp 31 1 7 k ≠ 1 → k < 2 ^ 31 → ¬ q ∣ c := fun q k hq e h hk => no q hq fun k' e' => by
    have : k' = k := Nat.eq_of_mul_eq_mul_left hq (e'.trans e.symm)
    subst this
    exact ⟨h, hk⟩
  have n2 := wr 2 1073741823 (by decide) (by decide) (by decide +kernel) (by decide)
  have n3 := wr 3 715827882 (by decide) (by decide) (by decide +kernel) (by decide)
  have n7 := wr 7 306783378 (by decide) (by decide) (by decide +kernel) (by decide)
  have n11 := wr 11 195225786 (by decide) (by decide) (by decide +kernel) (by decide)
  have n31 := wr 31 69273666 (by decide) (by decide) (by decide +kernel) (by decide)
  have n151 := wr 151 14221746 (by decide) (by decide) (by decide +kernel) (by decide)
  have n331 := wr 331 6487866 (by decide) (by decide) (by decide +kernel) (by decide)
  have cM : Nat.Coprime c (2 * (3 * (3 * (7 * (11 * (31 * (151 * 331))))))) :=
    (cop (by decide +kernel) (by decide) n2).mul_right ((cop (by decide +kernel) (by decide) n3).mul_right ((cop (by decide +kernel) (by decide) n3).mul_right ((cop (by decide +kernel) (by decide) n7).mul_right ((cop (by decide +kernel) (by decide) n11).mul_right ((cop (by decide +kernel) (by decide) n31).mul_right ((cop (by decide +kernel) (by decide) n151).mul_right (cop (by decide +kernel) (by decide) n331)))))))
  have e : 2 * (3 * (3 * (7 * (11 * (31 * (151 * 331)))))) = M := by rw [hM]
  rw [e] at cM
  have c1 : c = 1 := by
    have : Nat.gcd c M = c := Nat.gcd_eq_left ⟨g, by rw [hc, Nat.mul_comm]⟩
    rw [← this]
    exact cM
  rw [c1, Nat.mul_one] at hc
  omega
theorem pw7_good (m : Int) (h0 : 1 ≤ m) (h1 : m ≤ 2147483645) : 2 ≤ pwI 7 m ∧ pwI 7 m ≤ 2147483646 := by
  have b := pwI_bound 7 m
  have n0 : pwI 7 m ≠ 0 := seven_ne 2147483646 m.toNat (seven _ rfl) (by omega)
  have n1 : pwI 7 m ≠ 1 := seven_one m.toNat (by omega) (by omega)
  omega
theorem dh (a b : Int) : pwI (pwI 7 b) a = pwI (pwI 7 a) b := by
  unfold pwI
  rw [pow_mod, pow_mod, ← Int.pow_mul, ← Int.pow_mul, Nat.mul_comm]
end Gx
set_option Elab.async false
set_option linter.all false
set_option maxRecDepth 100000
set_option maxHeartbeats 4000000
/-! Gx: lists that leave a def; streams and ciphers. -/
namespace Gx
open PySem PySem.Spec PyProof.Rows L2
theorem frz_ints (n : Nat) (S : Sto) (m : Nat) : ∀ l : List Int, (l.map D.int).mapM (frz n S (m + 1)) = some (l.map D.int)
  | [] => rfl
  | i :: r => by
    rw [List.map_cons, List.mapM_cons, frz_ints n S m r]
    rfl
theorem shut_cup {S : Sto} (h : cupOk S) : shut S = true := by
  obtain ⟨a, b, rfl, _⟩ := h
  rfl
theorem leave_loc {S : Sto} {l : List Int} (h : shut S = true) : leave false S.length (.loc S.length) (S ++ [.lst (l.map D.int)]) = .ok (.lst (l.map D.int)) S := by
  unfold leave
  rw [if_neg (by simp), List.take_left, if_pos h]
  have e : frz S.length (S ++ [.lst (l.map D.int)]) 8 (.loc S.length) = some (.lst (l.map D.int)) := by
    show (if S.length < S.length then _ else _) = _
    rw [if_neg (Nat.lt_irrefl _)]
    simp only [List.getElem?_append_right (Nat.le_refl _), Nat.sub_self, List.getElem?_cons_zero]
    rw [frz_ints]
    rfl
  rw [e]
  rfl
theorem leave_tI {S : Sto} {o : Ob} {l : List Int} (h : shut S = true) : leave false S.length (tIs l) (S ++ [o]) = .ok (tIs l) S := by
  unfold leave
  rw [if_neg (by simp), List.take_left, if_pos h]
  have e : frz S.length (S ++ [o]) 8 (tIs l) = some (tIs l) := by
    show ((l.map D.int).mapM (frz S.length (S ++ [o]) 7)).map D.tup = _
    rw [frz_ints]
    rfl
  rw [e]
  rfl
variable {O : Orc} {ρ : Gx.Env} {S S1 S2 : Sto} {a b : CE}
theorem ev_ml {f : CF} {l : List D} (h : evF O f ρ S = .ok l S1) : evE O (.ml f) ρ S = .ok (.loc S1.length) (S1 ++ [.lst l]) := by
  simp only [evE, h]
  rfl
theorem ef_disp0 : evF O (.disp .nil) ρ S = .ok [] S := by simp [evF, evEs]
theorem ev_zips {xs ys : List D} (ha : evE O a ρ S = .ok (.tup xs) S1) (hb : evE O b ρ S1 = .ok (.lst ys) S2) : evF O (.zips a b) ρ S = .ok (pairsD xs ys) S2 := by
  simp only [evF, ha, hb, bind_ok']
theorem ei_zipTL {xs ys : List D} (ha : evE O a ρ S = .ok (.tup xs) S1) (hb : evE O b ρ S1 = .ok (.lst ys) S2) : evI O (.zip a b) ρ S = .ok (.items (pairsD xs ys)) S2 := by
  simp only [evI, ha, hb, bind_ok']
theorem ei_enumT {xs : List D} (ha : evE O a ρ S = .ok (.tup xs) S1) : evI O (.enum a) ρ S = .ok (.items (enumD 0 xs)) S1 := by
  simp only [evI, ha, bind_ok']
def prI (p : Int × Int) : D := .tup [.int p.1, .int p.2]
theorem pairs_ints : ∀ a b : List Int, pairsD (a.map D.int) (b.map D.int) = (a.zip b).map prI
  | [], b => by simp [pairsD]
  | _ :: _, [] => by simp [pairsD]
  | x :: a, y :: b => by
    have := pairs_ints a b
    simp only [pairsD, List.map_cons, List.zip_cons_cons] at this ⊢
    rw [this]
    rfl
theorem at_end {o : Ob} : (S ++ [o])[S.length]? = some o := by
  rw [List.getElem?_append_right (Nat.le_refl _), Nat.sub_self]
  rfl
theorem set_end {o o' : Ob} : (S ++ [o]).set S.length o' = S ++ [o'] := by
  rw [List.set_append_right _ _ (Nat.le_refl _), Nat.sub_self]
  rfl
theorem der_end {xs : List D} : der (S ++ [.lst xs]) (.loc S.length) = .lst xs := by
  show (match (S ++ [Ob.lst xs])[S.length]? with | some (Ob.lst xs) => D.lst xs | none => D.loc S.length) = _
  rw [at_end]
theorem s_else {sub : Str → Str → Option Bool} {t : CT} {A B : CSs} {o : Out} (h : evT O t ρ S = .ok false S1) (q : exSs sub O B ρ S1 = .ok o S2) : exS sub O (.ite t A B) ρ S = .ok o S2 := by
  simp only [exS, h, bind_ok', Bool.false_eq_true, if_false]
  exact q
theorem all2_map {α : Type} {f : D → D → Prop} {g h : α → D} : ∀ (l : List α), (∀ q, f (g q) (h q)) → All2 f (l.map g) (l.map h)
  | [], _ => .nil
  | q :: r, k => .cons (k q) (all2_map r k)
/-! ### streams -/
def trn (t : Int) : Int := (t * 6364136223846793005 + 1442695040888963407) % 18446744073709551616
def strL : Nat → Int → List Int
  | 0, _ => []
  | m + 1, t => trn t / 72057594037927936 :: strL m (trn t)
def strm (k x : Int) (m : Nat) : List Int := strL m (sumL 17 (octB 8 k ++ octB 8 x))
theorem trn_bound (t : Int) : 0 ≤ trn t ∧ trn t < 18446744073709551616 := by
  unfold trn
  omega
theorem strL_octs : ∀ (m : Nat) (t : Int), octs (strL m t)
  | 0, _ => fun _ h => by cases h
  | m + 1, t => fun i hi => by
    have b := trn_bound t
    rcases List.mem_cons.mp hi with rfl | h
    · omega
    · exact strL_octs m _ i h
theorem strL_len : ∀ (m : Nat) (t : Int), (strL m t).length = m
  | 0, _ => rfl
  | m + 1, t => by simp [strL, strL_len m]
theorem strL_take : ∀ (m j : Nat) (t : Int), (strL m t).take j = strL (min j m) t
  | 0, j, t => by simp [strL]
  | m + 1, 0, t => by simp [strL]
  | m + 1, j + 1, t => by
    rw [Nat.succ_min_succ]
    simp only [strL, List.take_succ_cons]
    rw [strL_take m j]
theorem strL_snoc (l : List Int) (m : Nat) (t : Int) (F : List Int) : F ++ strL (m + 1) t = (F ++ [trn t / 72057594037927936]) ++ strL m (trn t) := by simp [strL]
/-- enciphered, octet by octet -/
def ciO (a : Int) (p : Int × Int) : Int := if a = 1 then Builtin.bitXor p.1 p.2 else (p.1 + p.2) % 256
def deO (a : Int) (p : Int × Int) : Int := if a = 1 then Builtin.bitXor p.1 p.2 else (p.1 - p.2) % 256
def cyL (f : Int → Int × Int → Int) (a k x : Int) (p : List Int) : List Int := if a = 0 then p else (p.zip (strm k x p.length)).map (f a)
theorem ciO_oct {a x y : Int} (h : 0 ≤ x ∧ x ≤ 255) (h2 : 0 ≤ y ∧ y ≤ 255) : 0 ≤ ciO a (x, y) ∧ ciO a (x, y) ≤ 255 := by
  unfold ciO
  split
  · have := xor_bound 8 h.1 h2.1 (by omega) (by omega)
    show 0 ≤ Builtin.bitXor x y ∧ Builtin.bitXor x y ≤ 255
    omega
  · omega
theorem deO_oct {a x y : Int} (h : 0 ≤ x ∧ x ≤ 255) (h2 : 0 ≤ y ∧ y ≤ 255) : 0 ≤ deO a (x, y) ∧ deO a (x, y) ≤ 255 := by
  unfold deO
  split
  · have := xor_bound 8 h.1 h2.1 (by omega) (by omega)
    show 0 ≤ Builtin.bitXor x y ∧ Builtin.bitXor x y ≤ 255
    omega
  · omega
theorem xor_back {x y : Int} (h : 0 ≤ x) (h2 : 0 ≤ y) : Builtin.bitXor (Builtin.bitXor x y) y = x := by
  rw [Bits.bitXor_pp h h2, Bits.bitXor_pp (Int.natCast_nonneg _) h2, Int.toNat_natCast, Nat.xor_assoc, Nat.xor_self, Nat.xor_zero]
  omega
theorem de_ci {a x y : Int} (h : 0 ≤ x ∧ x ≤ 255) (h2 : 0 ≤ y ∧ y ≤ 255) : deO a (ciO a (x, y), y) = x := by
  unfold deO ciO
  by_cases e : a = 1
  · rw [if_pos e, if_pos e]
    exact xor_back h.1 h2.1
  · rw [if_neg e, if_neg e]
    show ((x + y) % 256 - y) % 256 = x
    omega
theorem cyL_octs {f : Int → Int × Int → Int} (hf : ∀ a x y, (0 ≤ x ∧ x ≤ 255) → (0 ≤ y ∧ y ≤ 255) → 0 ≤ f a (x, y) ∧ f a (x, y) ≤ 255) (a k x : Int) {p : List Int} (h : octs p) : octs (cyL f a k x p) := by
  unfold cyL
  split
  · exact h
  · intro i hi
    obtain ⟨⟨u, v⟩, hm, rfl⟩ := List.mem_map.mp hi
    obtain ⟨m1, m2⟩ := List.of_mem_zip hm
    exact hf a u v (h u m1) (strL_octs _ _ v m2)
theorem cyL_len {f : Int → Int × Int → Int} (a k x : Int) (p : List Int) : (cyL f a k x p).length = p.length := by
  unfold cyL
  split
  · rfl
  · rw [List.length_map, List.length_zip]
    show min p.length (strL p.length _).length = _
    rw [strL_len, Nat.min_self]
theorem zip_back {a : Int} : ∀ (p q : List Int), octs p → octs q → p.length = q.length → (((p.zip q).map (ciO a)).zip q).map (deO a) = p
  | [], q, _, _, _ => by simp
  | x :: p, [], _, _, h => by simp at h
  | x :: p, y :: q, hp, hq, h => by
    simp only [List.zip_cons_cons, List.map_cons]
    rw [zip_back p q (fun i hi => hp i (List.mem_cons_of_mem _ hi)) (fun i hi => hq i (List.mem_cons_of_mem _ hi)) (by simpa using h)]
    have := de_ci (a := a) (hp x (by simp)) (hq y (by simp))
    rw [this]
theorem cy_back (a k x : Int) (p : List Int) (h : octs p) : cyL deO a k x (cyL ciO a k x p) = p := by
  have e := cyL_len (f := ciO) a k x p
  unfold cyL at e ⊢
  by_cases z : a = 0
  · rw [if_pos z, if_pos z]
  · rw [if_neg z] at e
    rw [if_neg z, if_neg z, e]
    exact zip_back p _ h (strL_octs _ _) (strL_len _ _).symm
theorem cy_take (f : Int → Int × Int → Int) (a k x : Int) (p : List Int) (j : Nat) : cyL f a k x (p.take j) = (cyL f a k x p).take j := by
  unfold cyL
  by_cases z : a = 0
  · rw [if_pos z, if_pos z]
  · rw [if_neg z, if_neg z, ← List.map_take]
    congr 1
    show (p.take j).zip (strL (p.take j).length _) = (p.zip (strL p.length _)).take j
    simp only [List.zip, List.take_zipWith, strL_take, List.length_take]
end Gx
set_option Elab.async false
set_option linter.all false
set_option maxRecDepth 100000
set_option maxHeartbeats 0
namespace K09
open PySem PySem.Spec PyProof.Rows L2 Gx
abbrev PR : Program := PySem.Challenge.pw_shellgate_k09_squeezes_of_runs
def top (i : Nat) : Stmt := PR.main.body.getD i (.Pass ⟨0, 0, 0, 0⟩)
def c_is_whole : CSs := (.cons (.ret (.andV (.isi (.var 0) [.int]) (.andV (.notV (.isi (.var 0) [.bool])) (.chain .LtE .LtE (.var 1) (.var 0) (.var 2))))) .nil)
def c_is_tuple_of : CSs := (.cons (.ret (.andV (.isi (.var 0) [.tuple]) (.chain .LtE .LtE (.var 1) (.bi .len (.cons (.var 0) .nil)) (.var 2)))) .nil)
def c_fits_octets : CSs := (.cons (.ret (.andV (.call 1 "is_tuple_of" (.cons (.var 0) (.cons (.var 1) (.cons (.var 2) .nil)))) (.bi .all (.cons (.fl (.comp [3] (.nm 3) (.seq (.var 0)) .non (.call 0 "is_whole" (.cons (.var 3) (.cons (.cst (.int 0)) (.cons (.cst (.int 255)) .nil)))))) .nil)))) .nil)
def c_need_number : CSs := (.cons (.ite (.not (.tru (.call 0 "is_whole" (.cons (.var 0) (.cons (.var 1) (.cons (.var 2) .nil)))))) (.cons (.rse "InvalidNumber") .nil) .nil) .nil)
def c_need_octets : CSs := (.cons (.ite (.not (.tru (.call 2 "fits_octets" (.cons (.var 0) (.cons (.cst (.int 0)) (.cons (.glob "MOST" (.int 20000)) .nil)))))) (.cons (.rse "InvalidOctets") .nil) .nil) .nil)
def c_runs_in_b1 : CSs := (.cons (.ite (.and (.cmp .NotEq (.var 1) (.fl (.disp .nil))) (.and (.cmp .Eq (.ix (.ix (.var 1) (.neg (.cst (.int 1)))) (.cst (.int 0))) (.var 2)) (.cmp .Lt (.ix (.ix (.var 1) (.neg (.cst (.int 1)))) (.cst (.int 1))) (.glob "LONGEST" (.int 250))))) (.cons (.asg (.sub (.var 1) (.neg (.cst (.int 1)))) (.tup (.cons (.var 2) (.cons (.bop .Add (.ix (.ix (.var 1) (.neg (.cst (.int 1)))) (.cst (.int 1))) (.cst (.int 1))) .nil)))) .nil) (.cons (.app 1 (.tup (.cons (.var 2) (.cons (.cst (.int 1)) .nil)))) .nil)) .nil)
def c_runs_in : CSs := (.cons (.asg (.nm 1) (.ml (.disp .nil))) (.cons (.forS (.nm 2) (.seq (.var 0)) c_runs_in_b1) (.cons (.ret (.var 1)) .nil)))
def c_run_octets : CSs := (.cons (.ret (.ife (.or (.cmp .GtE (.var 1) (.glob "LEAST" (.int 4))) (.cmp .Eq (.var 0) (.glob "MARK" (.int 254)))) (.tup (.cons (.glob "MARK" (.int 254)) (.cons (.var 1) (.cons (.var 0) .nil)))) (.bop .Mult (.tup (.cons (.var 0) .nil)) (.var 1)))) .nil)
def c_squeezed_in_b1 : CSs := (.cons (.ext 2 (.call 6 "run_octets" (.cons (.var 3) (.cons (.var 4) .nil)))) .nil)
def c_squeezed_in : CSs := (.cons (.ite (.cmp .Eq (.var 0) (.glob "PLAIN" (.int 1))) (.cons (.ret (.var 1)) .nil) .nil) (.cons (.asg (.nm 2) (.ml (.disp .nil))) (.cons (.forS (.tp (.cons (.nm 3) (.cons (.nm 4) .nil))) (.seq (.call 5 "runs_in" (.cons (.var 1) .nil))) c_squeezed_in_b1) (.cons (.ret (.bi .tuple (.cons (.var 2) .nil))) .nil))))
def c_unsqueezed_in_b1 : CSs := (.cons (.ite (.cmp .NotEq (.ix (.var 1) (.var 3)) (.glob "MARK" (.int 254))) (.cons (.app 2 (.ix (.var 1) (.var 3))) (.cons (.asg (.nm 3) (.bop .Add (.var 3) (.cst (.int 1)))) .nil)) (.cons (.ite (.and (.cmp .Lt (.bop .Add (.var 3) (.cst (.int 2))) (.bi .len (.cons (.var 1) .nil))) (.cmp .Gt (.ix (.var 1) (.bop .Add (.var 3) (.cst (.int 1)))) (.cst (.int 0)))) (.cons (.ext 2 (.bop .Mult (.tup (.cons (.ix (.var 1) (.bop .Add (.var 3) (.cst (.int 2)))) .nil)) (.ix (.var 1) (.bop .Add (.var 3) (.cst (.int 1)))))) (.cons (.asg (.nm 3) (.bop .Add (.var 3) (.cst (.int 3)))) .nil)) (.cons (.ret (.cst .non)) .nil)) .nil)) .nil)
def c_unsqueezed_in : CSs := (.cons (.ite (.cmp .Eq (.var 0) (.glob "PLAIN" (.int 1))) (.cons (.ret (.ife (.cmp .LtE (.bi .len (.cons (.var 1) .nil)) (.glob "PAYLOAD" (.int 300))) (.var 1) (.cst .non))) .nil) .nil) (.cons (.par [2, 3] (.cons (.ml (.disp .nil)) (.cons (.cst (.int 0)) .nil))) (.cons (.whl (.and (.cmp .Lt (.var 3) (.bi .len (.cons (.var 1) .nil))) (.cmp .LtE (.bi .len (.cons (.var 2) .nil)) (.glob "PAYLOAD" (.int 300)))) c_unsqueezed_in_b1) (.cons (.ret (.ife (.cmp .LtE (.bi .len (.cons (.var 2) .nil)) (.glob "PAYLOAD" (.int 300))) (.bi .tuple (.cons (.var 2) .nil)) (.cst .non))) .nil))))
def c_need_squeeze : CSs := (.cons (.exp (.call 3 "need_number" (.cons (.var 0) (.cons (.glob "PLAIN" (.int 1)) (.cons (.glob "RUNS" (.int 2)) .nil))))) .nil)
def c_squeezed : CSs := (.cons (.exp (.call 9 "need_squeeze" (.cons (.var 0) .nil))) (.cons (.ite (.not (.tru (.call 2 "fits_octets" (.cons (.var 1) (.cons (.cst (.int 0)) (.cons (.glob "PAYLOAD" (.int 300)) .nil)))))) (.cons (.rse "InvalidOctets") .nil) .nil) (.cons (.ret (.call 7 "squeezed_in" (.cons (.var 0) (.cons (.var 1) .nil)))) .nil)))
def c_unsqueezed : CSs := (.cons (.exp (.call 9 "need_squeeze" (.cons (.var 0) .nil))) (.cons (.exp (.call 4 "need_octets" (.cons (.var 1) .nil))) (.cons (.ret (.call 8 "unsqueezed_in" (.cons (.var 0) (.cons (.var 1) .nil)))) .nil)))
def c_law_cup : CSs := (.cons (.asg (.nm 1) (.bi .abs (.cons (.ix (.fl (.op .Add (.fl (.ofs (.var 0))) (.fl (.disp (.cons (.cst (.int 0)) .nil))))) (.cst (.int 0))) .nil))) (.cons (.ret (.ml (.disp (.cons (.ife (.cmp .GtE (.var 1) (.bop .Pow (.cst (.int 10)) (.cst (.int 18)))) (.bop .FloorDiv (.var 1) (.cst (.int 131))) (.cst (.int 0))) (.cons (.bop .Add (.bop .Mod (.bi .int (.cons (.bop .Add (.bop .Mult (.var 1) (.cst (.int 359))) (.cst (.int 2801))) .nil)) (.cst (.int 2077503011))) (.cst (.int 233))) .nil))))) .nil))
def c_law_roll : CSs := (.cons (.ite (.cmp .Gt (.ix (.var 0) (.cst (.int 0))) (.cst (.int 0))) (.cons (.asg (.nm 3) (.bop .Mod (.bi .int (.cons (.ix (.var 0) (.cst (.int 0))) .nil)) (.var 1))) (.cons (.asg (.sub (.var 0) (.cst (.int 0))) (.bop .FloorDiv (.ix (.var 0) (.cst (.int 0))) (.var 1))) (.cons (.ret (.var 3)) .nil))) .nil) (.cons (.asg (.sub (.var 0) (.cst (.int 1))) (.bop .Mod (.bi .int (.cons (.bop .Add (.bop .Mult (.ix (.var 0) (.cst (.int 1))) (.cst (.int 31181))) (.cst (.int 8123))) .nil)) (.cst (.int 2147483543)))) (.cons (.asg (.nm 2) (.bop .Mod (.bi .int (.cons (.bop .Mult (.ix (.var 0) (.cst (.int 1))) (.bop .Add (.ix (.var 0) (.cst (.int 1))) (.cst (.int 307)))) .nil)) (.cst (.int 2147483587)))) (.cons (.ret (.bop .Mod (.bi .int (.cons (.bop .FloorDiv (.var 2) (.cst (.int 907))) .nil)) (.var 1))) .nil))))
def c_law_some : CSs := (.cons (.ret (.ix (.var 1) (.call 13 "_law_roll" (.cons (.var 0) (.cons (.bi .len (.cons (.var 1) .nil)) .nil))))) .nil)
def c_law_bytes : CSs := (.cons (.ret (.bi .tuple (.cons (.fl (.comp [2] (.nm 2) (.rng1 (.var 1)) .non (.call 14 "_law_some" (.cons (.var 0) (.cons (.fl (.disp (.cons (.cst (.int 0)) (.cons (.cst (.int 1)) (.cons (.cst (.int 7)) (.cons (.cst (.int 254)) (.cons (.cst (.int 255)) (.cons (.call 13 "_law_roll" (.cons (.var 0) (.cons (.cst (.int 256)) .nil))) .nil)))))))) .nil))))) .nil))) .nil)
def c_law_squeezed_b1 : CSs := (.cons (.asg (.nm 3) (.bop .Add (.var 3) (.cst (.int 1)))) .nil)
def c_law_squeezed_b2 : CSs := (.cons (.asg (.nm 3) (.cst (.int 1))) (.cons (.whl (.and (.cmp .Lt (.var 3) (.cst (.int 250))) (.and (.cmp .Lt (.bop .Add (.var 2) (.var 3)) (.bi .len (.cons (.var 0) .nil))) (.cmp .Eq (.ix (.var 0) (.bop .Add (.var 2) (.var 3))) (.ix (.var 0) (.var 2))))) c_law_squeezed_b1) (.cons (.asg (.nm 1) (.bop .Add (.var 1) (.ife (.or (.cmp .Gt (.var 3) (.cst (.int 3))) (.cmp .Eq (.ix (.var 0) (.var 2)) (.cst (.int 254)))) (.tup (.cons (.cst (.int 254)) (.cons (.var 3) (.cons (.ix (.var 0) (.var 2)) .nil)))) (.sl (.var 0) (.som (.var 2)) (.som (.bop .Add (.var 2) (.var 3))))))) (.cons (.asg (.nm 2) (.bop .Add (.var 2) (.var 3))) .nil))))
def c_law_squeezed : CSs := (.cons (.asg (.tp (.cons (.nm 1) (.cons (.nm 2) .nil))) (.tup (.cons (.tup .nil) (.cons (.cst (.int 0)) .nil)))) (.cons (.whl (.cmp .Lt (.var 2) (.bi .len (.cons (.var 0) .nil))) c_law_squeezed_b2) (.cons (.ret (.var 1)) .nil)))
def c_law_same : CSs := (.cons (.ite (.or (.tru (.isi (.var 0) [.bool])) (.tru (.isi (.var 1) [.bool]))) (.cons (.ret (.andV (.isi (.var 0) [.bool]) (.andV (.isi (.var 1) [.bool]) (.cmp .Eq (.var 0) (.var 1))))) .nil) .nil) (.cons (.ite (.and (.tru (.isi (.var 0) [.tuple])) (.tru (.isi (.var 1) [.tuple]))) (.cons (.ret (.andV (.cmp .Eq (.bi .len (.cons (.var 0) .nil)) (.bi .len (.cons (.var 1) .nil))) (.cmp .Eq (.fl (.comp [2, 3] (.tp (.cons (.nm 2) (.cons (.nm 3) .nil))) (.zip (.var 0) (.var 1)) (.som (.not (.tru (.call 17 "_law_same" (.cons (.var 2) (.cons (.var 3) .nil)))))) (.cst (.int 1)))) (.fl (.disp .nil))))) .nil) .nil) (.cons (.ret (.andV (.notV (.isi (.var 0) [.tuple])) (.andV (.notV (.isi (.var 1) [.tuple])) (.cmp .Eq (.var 0) (.var 1))))) .nil)))
def c_law_back_b1 : CSs := (.cons (.ite (.cmp .NotEq (.ix (.var 0) (.var 2)) (.cst (.int 254))) (.cons (.par [1, 2] (.cons (.bop .Add (.var 1) (.tup (.cons (.ix (.var 0) (.var 2)) .nil))) (.cons (.bop .Add (.var 2) (.cst (.int 1))) .nil))) .nil) (.cons (.ite (.or (.cmp .GtE (.bop .Add (.var 2) (.cst (.int 2))) (.bi .len (.cons (.var 0) .nil))) (.cmp .Eq (.ix (.var 0) (.bop .Add (.var 2) (.cst (.int 1)))) (.cst (.int 0)))) (.cons (.ret (.cst .non)) .nil) (.cons (.par [1, 2] (.cons (.bop .Add (.var 1) (.bop .Mult (.tup (.cons (.ix (.var 0) (.bop .Add (.var 2) (.cst (.int 2)))) .nil)) (.ix (.var 0) (.bop .Add (.var 2) (.cst (.int 1)))))) (.cons (.bop .Add (.var 2) (.cst (.int 3))) .nil))) .nil)) .nil)) (.cons (.ite (.cmp .Gt (.bi .len (.cons (.var 1) .nil)) (.cst (.int 300))) (.cons (.ret (.cst .non)) .nil) .nil) .nil))
def c_law_back : CSs := (.cons (.asg (.tp (.cons (.nm 1) (.cons (.nm 2) .nil))) (.tup (.cons (.tup .nil) (.cons (.cst (.int 0)) .nil)))) (.cons (.whl (.cmp .Lt (.var 2) (.bi .len (.cons (.var 0) .nil))) c_law_back_b1) (.cons (.ret (.var 1)) .nil)))
def c_law_call : CSs := (.cons (.tryE true (.tup (.cons (.cst (.str "told")) (.cons (.callv 0 (.cons (.var 1) (.cons (.var 2) .nil))) .nil))) [⟨"InvalidNumber", none, (.tup [(.cst (.str "number")), (.cst (.int 0))])⟩, ⟨"InvalidOctets", none, (.tup [(.cst (.str "octets")), (.cst (.int 0))])⟩]) .nil)
def c_law_drawn_b1 : CSs := (.cons (.asg (.nm 3) (.call 14 "_law_some" (.cons (.var 0) (.cons (.fl (.disp (.cons (.cst (.int 1)) (.cons (.cst (.int 2)) (.cons (.cst (.int 3)) (.cons (.cst (.int 4)) (.cons (.cst (.int 5)) (.cons (.cst (.int 249)) (.cons (.cst (.int 250)) (.cons (.cst (.int 251)) (.cons (.cst (.int 300)) .nil))))))))))) .nil)))) (.cons (.asg (.nm 1) (.bop .Add (.var 1) (.call 14 "_law_some" (.cons (.var 0) (.cons (.fl (.disp (.cons (.bop .Mult (.tup (.cons (.call 14 "_law_some" (.cons (.var 0) (.cons (.fl (.disp (.cons (.cst (.int 0)) (.cons (.cst (.int 9)) (.cons (.cst (.int 254)) .nil))))) .nil))) .nil)) (.var 3)) (.cons (.call 15 "_law_bytes" (.cons (.var 0) (.cons (.bi .min2 (.cons (.var 3) (.cons (.cst (.int 9)) .nil))) .nil))) (.cons (.bop .Mult (.tup (.cons (.cst (.int 254)) (.cons (.cst (.int 7)) .nil))) (.cst (.int 3))) (.cons (.bop .Mult (.tup (.cons (.cst (.int 7)) (.cons (.cst (.int 254)) .nil))) (.cst (.int 3))) .nil)))))) .nil))))) .nil))
def c_law_drawn : CSs := (.cons (.asg (.nm 1) (.tup .nil)) (.cons (.forS (.nm 2) (.rng1 (.call 13 "_law_roll" (.cons (.var 0) (.cons (.cst (.int 6)) .nil)))) c_law_drawn_b1) (.cons (.ret (.sl (.var 1) .non (.som (.cst (.int 300))))) .nil)))
def c_law_b1 : CSs := (.cons (.ite (.not (.tru (.call 17 "_law_same" (.cons (.call 19 "_law_call" (.cons (.glob "unsqueezed" (.fn 11)) (.cons (.cst (.int 2)) (.cons (.var 5) .nil)))) (.cons (.tup (.cons (.cst (.str "told")) (.cons (.var 6) .nil))) .nil))))) (.cons (.ret (.cst (.bl false))) .nil) .nil) .nil)
def c_law_b2 : CSs := (.cons (.ite (.or (.cmp .NotEq (.call 10 "squeezed" (.cons (.cst (.int 2)) (.cons (.var 5) .nil))) (.var 6)) (.cmp .NotEq (.call 11 "unsqueezed" (.cons (.cst (.int 2)) (.cons (.var 6) .nil))) (.var 5))) (.cons (.ret (.cst (.bl false))) .nil) .nil) .nil)
def c_law_b3 : CSs := (.cons (.asg (.nm 5) (.call 20 "_law_drawn" (.cons (.var 1) .nil))) (.cons (.asg (.nm 6) (.call 16 "_law_squeezed" (.cons (.var 5) .nil))) (.cons (.ite (.or (.not (.tru (.call 17 "_law_same" (.cons (.call 19 "_law_call" (.cons (.glob "squeezed" (.fn 10)) (.cons (.cst (.int 2)) (.cons (.var 5) .nil)))) (.cons (.tup (.cons (.cst (.str "told")) (.cons (.var 6) .nil))) .nil))))) (.not (.tru (.call 17 "_law_same" (.cons (.call 19 "_law_call" (.cons (.glob "unsqueezed" (.fn 11)) (.cons (.cst (.int 2)) (.cons (.var 6) .nil)))) (.cons (.tup (.cons (.cst (.str "told")) (.cons (.var 5) .nil))) .nil)))))) (.cons (.ret (.cst (.bl false))) .nil) .nil) (.cons (.ite (.or (.not (.tru (.call 17 "_law_same" (.cons (.call 19 "_law_call" (.cons (.glob "squeezed" (.fn 10)) (.cons (.cst (.int 1)) (.cons (.var 5) .nil)))) (.cons (.tup (.cons (.cst (.str "told")) (.cons (.var 5) .nil))) .nil))))) (.not (.tru (.call 17 "_law_same" (.cons (.call 19 "_law_call" (.cons (.glob "unsqueezed" (.fn 11)) (.cons (.cst (.int 1)) (.cons (.var 5) .nil)))) (.cons (.tup (.cons (.cst (.str "told")) (.cons (.var 5) .nil))) .nil)))))) (.cons (.ret (.cst (.bl false))) .nil) .nil) (.cons (.ite (.cmp .Gt (.bi .len (.cons (.var 6) .nil)) (.bop .Add (.bop .Mult (.cst (.int 2)) (.bi .len (.cons (.var 5) .nil))) (.cst (.int 1)))) (.cons (.ret (.cst (.bl false))) .nil) .nil) (.cons (.asg (.nm 7) (.call 13 "_law_roll" (.cons (.var 1) (.cons (.bop .Add (.bi .len (.cons (.var 6) .nil)) (.cst (.int 1))) .nil)))) (.cons (.asg (.nm 8) (.call 14 "_law_some" (.cons (.var 1) (.cons (.fl (.disp (.cons (.cst (.int 0)) (.cons (.cst (.int 1)) (.cons (.cst (.int 2)) (.cons (.cst (.int 250)) (.cons (.cst (.int 251)) (.cons (.cst (.int 254)) (.cons (.cst (.int 255)) .nil))))))))) .nil)))) (.cons (.asg (.nm 9) (.call 14 "_law_some" (.cons (.var 1) (.cons (.fl (.disp (.cons (.sl (.var 6) .non (.som (.var 7))) (.cons (.bop .Add (.bop .Add (.sl (.var 6) .non (.som (.var 7))) (.tup (.cons (.var 8) .nil))) (.sl (.var 6) (.som (.bop .Add (.var 7) (.cst (.int 1)))) .non)) (.cons (.bop .Add (.bop .Add (.sl (.var 6) .non (.som (.var 7))) (.tup (.cons (.var 8) .nil))) (.sl (.var 6) (.som (.var 7)) .non)) (.cons (.bop .Add (.sl (.var 6) .non (.som (.var 7))) (.sl (.var 6) (.som (.bop .Add (.var 7) (.cst (.int 1)))) .non)) .nil)))))) .nil)))) (.cons (.ite (.not (.tru (.call 17 "_law_same" (.cons (.call 19 "_law_call" (.cons (.glob "unsqueezed" (.fn 11)) (.cons (.cst (.int 2)) (.cons (.var 9) .nil)))) (.cons (.tup (.cons (.cst (.str "told")) (.cons (.call 18 "_law_back" (.cons (.var 9) .nil)) .nil))) .nil))))) (.cons (.ret (.cst (.bl false))) .nil) .nil) .nil)))))))))
def c_law : CSs := (.cons (.asg (.nm 1) (.call 12 "_law_cup" (.cons (.var 0) .nil))) (.cons (.forS (.nm 2) (.rng1 (.cst (.int 3))) c_law_b3) (.cons (.asg (.nm 3) (.fl (.disp (.cons (.tup (.cons (.tup .nil) (.cons (.tup .nil) .nil))) (.cons (.tup (.cons (.tup (.cons (.cst (.int 1)) (.cons (.cst (.int 1)) (.cons (.cst (.int 1)) .nil)))) (.cons (.tup (.cons (.cst (.int 1)) (.cons (.cst (.int 1)) (.cons (.cst (.int 1)) .nil)))) .nil))) (.cons (.tup (.cons (.bop .Mult (.tup (.cons (.cst (.int 1)) .nil)) (.cst (.int 4))) (.cons (.tup (.cons (.cst (.int 254)) (.cons (.cst (.int 4)) (.cons (.cst (.int 1)) .nil)))) .nil))) (.cons (.tup (.cons (.tup (.cons (.cst (.int 254)) .nil)) (.cons (.tup (.cons (.cst (.int 254)) (.cons (.cst (.int 1)) (.cons (.cst (.int 254)) .nil)))) .nil))) (.cons (.tup (.cons (.tup (.cons (.cst (.int 254)) (.cons (.cst (.int 0)) (.cons (.cst (.int 254)) .nil)))) (.cons (.tup (.cons (.cst (.int 254)) (.cons (.cst (.int 1)) (.cons (.cst (.int 254)) (.cons (.cst (.int 0)) (.cons (.cst (.int 254)) (.cons (.cst (.int 1)) (.cons (.cst (.int 254)) .nil)))))))) .nil))) .nil)))))))) (.cons (.asg (.nm 3) (.fl (.op .Add (.var 3) (.fl (.disp (.cons (.tup (.cons (.bop .Mult (.tup (.cons (.cst (.int 3)) .nil)) (.cst (.int 250))) (.cons (.tup (.cons (.cst (.int 254)) (.cons (.cst (.int 250)) (.cons (.cst (.int 3)) .nil)))) .nil))) (.cons (.tup (.cons (.bop .Mult (.tup (.cons (.cst (.int 3)) .nil)) (.cst (.int 251))) (.cons (.tup (.cons (.cst (.int 254)) (.cons (.cst (.int 250)) (.cons (.cst (.int 3)) (.cons (.cst (.int 3)) .nil))))) .nil))) (.cons (.tup (.cons (.bop .Mult (.tup (.cons (.cst (.int 3)) .nil)) (.cst (.int 254))) (.cons (.tup (.cons (.cst (.int 254)) (.cons (.cst (.int 250)) (.cons (.cst (.int 3)) (.cons (.cst (.int 254)) (.cons (.cst (.int 4)) (.cons (.cst (.int 3)) .nil))))))) .nil))) (.cons (.tup (.cons (.bop .Mult (.tup (.cons (.cst (.int 0)) .nil)) (.cst (.int 300))) (.cons (.tup (.cons (.cst (.int 254)) (.cons (.cst (.int 250)) (.cons (.cst (.int 0)) (.cons (.cst (.int 254)) (.cons (.cst (.int 50)) (.cons (.cst (.int 0)) .nil))))))) .nil))) .nil))))))))) (.cons (.forS (.tp (.cons (.nm 5) (.cons (.nm 6) .nil))) (.seq (.var 3)) c_law_b2) (.cons (.asg (.nm 3) (.fl (.disp (.cons (.tup (.cons (.tup (.cons (.cst (.int 254)) .nil)) (.cons (.cst .non) .nil))) (.cons (.tup (.cons (.tup (.cons (.cst (.int 254)) (.cons (.cst (.int 1)) .nil))) (.cons (.cst .non) .nil))) (.cons (.tup (.cons (.tup (.cons (.cst (.int 254)) (.cons (.cst (.int 0)) (.cons (.cst (.int 1)) .nil)))) (.cons (.cst .non) .nil))) (.cons (.tup (.cons (.tup (.cons (.cst (.int 1)) (.cons (.cst (.int 254)) (.cons (.cst (.int 5)) .nil)))) (.cons (.cst .non) .nil))) (.cons (.tup (.cons (.tup (.cons (.cst (.int 254)) (.cons (.cst (.int 1)) (.cons (.cst (.int 5)) .nil)))) (.cons (.tup (.cons (.cst (.int 5)) .nil)) .nil))) (.cons (.tup (.cons (.tup (.cons (.cst (.int 254)) (.cons (.cst (.int 255)) (.cons (.cst (.int 5)) .nil)))) (.cons (.bop .Mult (.tup (.cons (.cst (.int 5)) .nil)) (.cst (.int 255))) .nil))) (.cons (.tup (.cons (.tup (.cons (.cst (.int 254)) (.cons (.cst (.int 250)) (.cons (.cst (.int 1)) (.cons (.cst (.int 254)) (.cons (.cst (.int 50)) (.cons (.cst (.int 1)) .nil))))))) (.cons (.bop .Mult (.tup (.cons (.cst (.int 1)) .nil)) (.cst (.int 300))) .nil))) .nil)))))))))) (.cons (.asg (.nm 3) (.fl (.op .Add (.var 3) (.fl (.disp (.cons (.tup (.cons (.tup (.cons (.cst (.int 254)) (.cons (.cst (.int 250)) (.cons (.cst (.int 1)) (.cons (.cst (.int 254)) (.cons (.cst (.int 51)) (.cons (.cst (.int 1)) .nil))))))) (.cons (.cst .non) .nil))) (.cons (.tup (.cons (.bop .Mult (.tup (.cons (.cst (.int 1)) .nil)) (.cst (.int 300))) (.cons (.bop .Mult (.tup (.cons (.cst (.int 1)) .nil)) (.cst (.int 300))) .nil))) (.cons (.tup (.cons (.bop .Mult (.tup (.cons (.cst (.int 1)) .nil)) (.cst (.int 301))) (.cons (.cst .non) .nil))) (.cons (.tup (.cons (.tup (.cons (.cst (.int 254)) (.cons (.cst (.int 250)) (.cons (.cst (.int 1)) (.cons (.cst (.int 254)) (.cons (.cst (.int 51)) (.cons (.cst (.int 1)) (.cons (.cst (.int 254)) .nil)))))))) (.cons (.cst .non) .nil))) .nil))))))))) (.cons (.forS (.tp (.cons (.nm 5) (.cons (.nm 6) .nil))) (.seq (.var 3)) c_law_b1) (.cons (.ite (.or (.cmp .IsNot (.call 11 "unsqueezed" (.cons (.cst (.int 1)) (.cons (.bop .Mult (.tup (.cons (.cst (.int 1)) .nil)) (.cst (.int 301))) .nil))) (.cst .non)) (.cmp .NotEq (.call 11 "unsqueezed" (.cons (.cst (.int 1)) (.cons (.bop .Mult (.tup (.cons (.cst (.int 254)) .nil)) (.cst (.int 300))) .nil))) (.bop .Mult (.tup (.cons (.cst (.int 254)) .nil)) (.cst (.int 300))))) (.cons (.ret (.cst (.bl false))) .nil) .nil) (.cons (.asgc false 4 (.comp [9] (.nm 9) (.seq (.tup (.cons (.cst .non) (.cons (.cst (.int 0)) (.cons (.cst (.int 3)) (.cons (.cst (.bl true)) .nil)))))) .non (.call 19 "_law_call" (.cons (.glob "squeezed" (.fn 10)) (.cons (.var 9) (.cons (.cst .non) .nil)))))) (.cons (.asg (.nm 4) (.fl (.op .Add (.var 4) (.fl (.comp [9] (.nm 9) (.seq (.tup (.cons (.cst .non) (.cons (.cst (.int 0)) (.cons (.cst (.int 3)) (.cons (.cst (.bl true)) .nil)))))) .non (.call 19 "_law_call" (.cons (.glob "unsqueezed" (.fn 11)) (.cons (.var 9) (.cons (.cst .non) .nil))))))))) (.cons (.asg (.nm 4) (.fl (.op .Add (.var 4) (.fl (.comp [9] (.nm 9) (.seq (.tup (.cons (.cst .non) (.cons (.fl (.disp (.cons (.cst (.int 1)) .nil))) (.cons (.tup (.cons (.cst (.int 256)) .nil)) (.cons (.bop .Mult (.tup (.cons (.cst (.int 1)) .nil)) (.cst (.int 301))) .nil)))))) .non (.call 19 "_law_call" (.cons (.glob "squeezed" (.fn 10)) (.cons (.cst (.int 2)) (.cons (.var 9) .nil))))))))) (.cons (.asg (.nm 4) (.fl (.op .Add (.var 4) (.fl (.comp [9] (.nm 9) (.seq (.tup (.cons (.cst .non) (.cons (.tup (.cons (.cst (.bl true)) .nil)) (.cons (.bop .Mult (.tup (.cons (.cst (.int 0)) .nil)) (.cst (.int 20001))) .nil))))) .non (.call 19 "_law_call" (.cons (.glob "unsqueezed" (.fn 11)) (.cons (.cst (.int 1)) (.cons (.var 9) .nil))))))))) (.cons (.ret (.cmp .Eq (.var 4) (.fl (.op .Add (.fl (.op .Mult (.fl (.disp (.cons (.tup (.cons (.cst (.str "number")) (.cons (.cst (.int 0)) .nil))) .nil))) (.cst (.int 8)))) (.fl (.op .Mult (.fl (.disp (.cons (.tup (.cons (.cst (.str "octets")) (.cons (.cst (.int 0)) .nil))) .nil))) (.cst (.int 7)))))))) .nil))))))))))))))
def T : Tb where
  defs := [
  ⟨"is_whole", top 6, ["value", "low", "high"], ["value", "low", "high"], false, ⟨3, 3, false, c_is_whole⟩⟩,
  ⟨"is_tuple_of", top 7, ["value", "low", "high"], ["value", "low", "high"], false, ⟨3, 3, false, c_is_tuple_of⟩⟩,
  ⟨"fits_octets", top 8, ["value", "low", "high", "own"], ["value", "low", "high"], false, ⟨3, 4, false, c_fits_octets⟩⟩,
  ⟨"need_number", top 9, ["value", "low", "high"], ["value", "low", "high"], false, ⟨3, 3, false, c_need_number⟩⟩,
  ⟨"need_octets", top 10, ["value"], ["value"], false, ⟨1, 1, false, c_need_octets⟩⟩,
  ⟨"runs_in", top 18, ["octets", "found", "own"], ["octets"], false, ⟨1, 3, false, c_runs_in⟩⟩,
  ⟨"run_octets", top 19, ["own", "many"], ["own", "many"], false, ⟨2, 2, false, c_run_octets⟩⟩,
  ⟨"squeezed_in", top 20, ["squeeze", "octets", "found", "own", "many"], ["squeeze", "octets"], false, ⟨2, 5, false, c_squeezed_in⟩⟩,
  ⟨"unsqueezed_in", top 21, ["squeeze", "octets", "found", "at"], ["squeeze", "octets"], false, ⟨2, 4, false, c_unsqueezed_in⟩⟩,
  ⟨"need_squeeze", top 22, ["value"], ["value"], false, ⟨1, 1, false, c_need_squeeze⟩⟩,
  ⟨"squeezed", top 23, ["squeeze", "octets"], ["squeeze", "octets"], false, ⟨2, 2, false, c_squeezed⟩⟩,
  ⟨"unsqueezed", top 24, ["squeeze", "octets"], ["squeeze", "octets"], false, ⟨2, 2, false, c_unsqueezed⟩⟩,
  ⟨"_law_cup", top 26, ["script", "cell"], ["script"], false, ⟨1, 2, true, c_law_cup⟩⟩,
  ⟨"_law_roll", top 27, ["cup", "many", "deep", "found"], ["cup", "many"], false, ⟨2, 4, false, c_law_roll⟩⟩,
  ⟨"_law_some", top 28, ["cup", "things"], ["cup", "things"], false, ⟨2, 2, false, c_law_some⟩⟩,
  ⟨"_law_bytes", top 29, ["cup", "many", "at"], ["cup", "many"], false, ⟨2, 3, false, c_law_bytes⟩⟩,
  ⟨"_law_squeezed", top 30, ["octets", "found", "at", "many"], ["octets"], false, ⟨1, 4, false, c_law_squeezed⟩⟩,
  ⟨"_law_same", top 31, ["one", "other", "own", "more"], ["one", "other"], false, ⟨2, 4, false, c_law_same⟩⟩,
  ⟨"_law_back", top 32, ["octets", "found", "at"], ["octets"], false, ⟨1, 3, false, c_law_back⟩⟩,
  ⟨"_law_call", top 33, ["call", "squeeze", "octets"], ["call", "squeeze", "octets"], false, ⟨3, 3, false, c_law_call⟩⟩,
  ⟨"_law_drawn", top 34, ["cup", "found", "turn", "many"], ["cup"], false, ⟨1, 4, false, c_law_drawn⟩⟩,
  ⟨"law", top 35, ["script", "cup", "turn", "rows", "words", "octets", "told", "at", "own", "odd"], ["script"], false, ⟨1, 10, false, c_law⟩⟩]
  gds := []
  glob := [("LEAST", .int 4), ("LONGEST", .int 250), ("MARK", .int 254), ("MOST", .int 20000), ("PAYLOAD", .int 300), ("PLAIN", .int 1), ("RUNS", .int 2)]
  free := ["abs", "all", "bool", "int", "isinstance", "len", "list", "min", "range", "tuple", "zip"]
  rps := []
  exs := ["InvalidNumber", "InvalidOctets"]
  subs := (([("InvalidNumber", "InvalidNumber", true), ("InvalidNumber", "InvalidOctets", false), ("InvalidOctets", "InvalidNumber", false), ("InvalidOctets", "InvalidOctets", true)] : List (Str × Str × Bool)))
def loose : List Str := (["GateError", "InvalidNumber", "InvalidOctets", "MOST", "is_whole", "is_tuple_of", "fits_octets", "need_number", "need_octets", "PLAIN", "RUNS", "MARK", "LONGEST", "LEAST", "PAYLOAD", "runs_in", "run_octets", "squeezed_in", "unsqueezed_in", "need_squeeze", "squeezed", "unsqueezed", "_law_cup", "_law_roll", "_law_some", "_law_bytes", "_law_squeezed", "_law_same", "_law_back", "_law_call"] : List Str) ++ (["_law_drawn"] : List Str)
end K09
set_option Elab.async false
set_option linter.all false
set_option maxRecDepth 100000
set_option maxHeartbeats 0
namespace K09
open PySem PySem.Spec PyProof.Rows L2 Gx
abbrev RowL : PySem.W.OpenLaw := PySem.Challenge.rw_shellgate_k09_squeezes_of_runs
abbrev R : PySem.W.OpenRow := PySem.W.OpenLaw.row RowL
abbrev hk : PySem.W.Hook := He.hookX 5 T.fa T.fn [] T.lams T.ex
def ob (s : PySem.W.SharedT) : He.AlX := He.obsX 5 T.fa T.fn [] T.lams T.ex (HandSHeadRun.getT s)
theorem ob_eq (s : PySem.W.SharedT) : ob s = hk.obs s.abs := He.obsX_eq (HandSHeadRun.getT_eq s)
theorem hrun (w : World) : HandSHeadRun.RunEq R (PySem.W.view R.prog [35]) hk ob 9000 loose w := by
  intro os
  kernel_rfl
theorem chk : T.chk = true := by kernel_rfl
end K09
set_option Elab.async false
set_option linter.all false
set_option maxRecDepth 100000
set_option maxHeartbeats 4000000
namespace K09
open PySem PySem.Spec PyProof.Rows L2 Gx
section
variable {W n : Nat} {S : Sto}
theorem is_whole (i lo hi : Int) (hn : 1 ≤ n) : C T.prg W n 0 [.int i, .int lo, .int hi] S = .ok (.bl (decide (lo ≤ i) && decide (i ≤ hi))) S := by
  obtain ⟨n, rfl⟩ : ∃ m, n = m + 1 := ⟨n - 1, by omega⟩
  rw [call_eq (d := ⟨3, 3, false, c_is_whole⟩) rfl rfl]
  by_cases h : lo ≤ i
  · by_cases h2 : i ≤ hi <;> simp [c_is_whole, ends, leave, exSs, exS, evE, evEs, isiD, der, truD, cmpD, h, h2, R.bind, opt]
  · simp [c_is_whole, ends, leave, exSs, exS, evE, evEs, isiD, der, truD, cmpD, h, R.bind, opt]
theorem is_tuple_of (xs : List D) (lo hi : Int) (hn : 1 ≤ n) : C T.prg W n 1 [.tup xs, .int lo, .int hi] S = .ok (.bl (decide (lo ≤ xs.length) && decide ((xs.length : Int) ≤ hi))) S := by
  obtain ⟨n, rfl⟩ : ∃ m, n = m + 1 := ⟨n - 1, by omega⟩
  rw [call_eq (d := ⟨3, 3, false, c_is_tuple_of⟩) rfl rfl]
  by_cases h : lo ≤ xs.length
  · by_cases h2 : (xs.length : Int) ≤ hi <;> simp [c_is_tuple_of, ends, leave, exSs, exS, evE, evEs, isiD, der, truD, cmpD, h, h2, R.bind, opt, biD]
  · simp [c_is_tuple_of, ends, leave, exSs, exS, evE, evEs, isiD, der, truD, cmpD, h, R.bind, opt, biD]
theorem all_map_true : ∀ (l : List D), biD .all [.lst (l.map fun _ => D.bl true)] = some (.bl true) := by
  intro l
  have : ∀ l : List D, blsD (l.map fun _ => D.bl true) = some (l.map fun _ => true) := by
    intro l
    induction l with
    | nil => rfl
    | cons d r ih => simp only [List.map_cons, blsD, ih, Option.map_some]
  show (blsD _).map _ = _
  rw [this]
  simp
theorem fits_octets (l : List Int) (lo hi : Int) (h : octs l) (h0 : lo ≤ l.length) (hl : (l.length : Int) ≤ hi) (hs : l.length ≤ 16777216) (hn : 2 ≤ n) : C T.prg W n 2 [tIs l, .int lo, .int hi] S = .ok (.bl true) S := by
  obtain ⟨n, rfl⟩ : ∃ m, n = m + 1 := ⟨n - 1, by omega⟩
  rw [call_eq (d := ⟨3, 4, false, c_fits_octets⟩) rfl rfl]
  have e1 : (lv T.prg W n).call 1 [.tup (l.map D.int), .int lo, .int hi] S = .ok (.bl true) S := by
    have := is_tuple_of (W := W) (S := S) (l.map D.int) lo hi (n := n) (by omega)
    rw [tIs_len] at this
    simpa [h0, hl] using this
  have e2 : ∀ ρ : Gx.Env, ρ.length = 4 → compL (cF (Oc T.prg W n) [3] (.nm 3) .non (.call 0 "is_whole" (.cons (.var 3) (.cons (.cst (.int 0)) (.cons (.cst (.int 255)) .nil)))) ρ) (l.map D.int) S = .ok ((l.map D.int).map fun _ => D.bl true) S := fun ρ hρ => compL_map _ fun d hd => by
    obtain ⟨i, hi', rfl⟩ := List.mem_map.mp hd
    obtain ⟨a, b⟩ := h i hi'
    have ew := is_whole (W := W) (S := S) i 0 255 (n := n) (by omega)
    obtain ⟨x1, x2, x3, x4, rfl⟩ : ∃ x1 x2 x3 x4, ρ = [x1, x2, x3, x4] := by
      match ρ, hρ with
      | [x1, x2, x3, x4], _ => exact ⟨x1, x2, x3, x4, rfl⟩
    simp [cF, wipeE, evTg, evTo, evE, evEs, Cst.d, ew, a, b]
  have e3 := ev_comp (O := Oc T.prg W n) (ρ := [some (.tup (l.map D.int)), some (.int lo), some (.int hi), none]) (it := .seq (.var 0)) (S := S) (l := l.map D.int) (S1 := S) (by simp [evI, evE, seqD]) (by rw [tIs_len]; exact hs) (e2 _ rfl)
  have e4 := all_map_true (l.map D.int)
  simp only [tIs, c_fits_octets, ends, leave, exSs, exS, evE, evEs, List.map_cons, List.map_nil, List.cons_append, List.nil_append, List.getElem?_cons_zero, List.getElem?_cons_succ, List.replicate, bind_ok', e1, der, truD, opt_some', if_true, e3, e4]
  simp
theorem fits_long (xs : List D) (lo hi : Int) (h : ¬ ((xs.length : Int) ≤ hi)) (hn : 2 ≤ n) : C T.prg W n 2 [.tup xs, .int lo, .int hi] S = .ok (.bl false) S := by
  obtain ⟨n, rfl⟩ : ∃ m, n = m + 1 := ⟨n - 1, by omega⟩
  rw [call_eq (d := ⟨3, 4, false, c_fits_octets⟩) rfl rfl]
  have e1 : (lv T.prg W n).call 1 [.tup xs, .int lo, .int hi] S = .ok (.bl false) S := by
    have := is_tuple_of (W := W) (S := S) xs lo hi (n := n) (by omega)
    rw [decide_eq_false h, Bool.and_false] at this
    exact this
  simp [c_fits_octets, ends, leave, exSs, exS, evE, evEs, e1, der, truD]
end
section
variable {W n : Nat} {S : Sto}
theorem law_cup (ns : List Int) (h : ns.length ≤ 63) (hn : 1 ≤ n) : Wp (C T.prg W n 12 [.scr (ns.map D.int)] []) fun d S' => d = .loc 0 ∧ cupOk S' := by
  obtain ⟨n, rfl⟩ : ∃ m, n = m + 1 := ⟨n - 1, by omega⟩
  obtain ⟨z, hz⟩ : ∃ z : Int, L2.atI (ns.map D.int ++ [D.int 0]) 0 = some (.int z) := by
    cases ns with
    | nil => exact ⟨0, rfl⟩
    | cons x r =>
      refine ⟨x, ?_⟩
      have := atI_nat (xs := (x :: r).map D.int ++ [D.int 0]) (by simp : 0 < _)
      simpa using this
  have hs : ns.length ≤ 16777215 := by omega
  have hp := int_abs_nonneg z
  generalize hc : (if z < 0 then -z else z) = c at hp
  have e : C T.prg W (n + 1) 12 [.scr (ns.map D.int)] [] = .ok (.loc 0) (cupS (if 1000000000000000000 ≤ c then c / 131 else 0) ((c * 359 + 2801) % 2077503011 + 233)) := by
    rw [call_eq (d := ⟨1, 2, true, c_law_cup⟩) rfl rfl]
    by_cases h1 : 1000000000000000000 ≤ c <;>
      simp [c_law_cup, ends, leave, exSs, exS, evE, evEs, evF, evT, evTg, der, seqL, lopD, ixD, hz, biD, hc, hs, sz, cmpD, bopD, powOk, mulOk, Cst.d, h1, cupS] <;> (try omega)
  refine wp_eq e ⟨rfl, _, _, rfl, ?_, ?_, ?_⟩
  · split <;> omega
  · omega
  · omega
theorem law_roll (hS : cupOk S) (m : Int) (hm : 0 < m) (hm2 : m ≤ 18446744073709551616) (hn : 1 ≤ n) : Wp (C T.prg W n 13 [.loc 0, .int m] S) fun d S' => (∃ r : Int, d = .int r ∧ 0 ≤ r ∧ r < m) ∧ cupOk S' := by
  obtain ⟨n, rfl⟩ : ∃ m, n = m + 1 := ⟨n - 1, by omega⟩
  obtain ⟨a, b, rfl, h1, h2, h3⟩ := hS
  have x0 : ∀ a b : Int, L2.atI [D.int a, D.int b] 0 = some (.int a) := fun _ _ => rfl
  have x1 : ∀ a b : Int, L2.atI [D.int a, D.int b] 1 = some (.int b) := fun _ _ => rfl
  have i0 : L2.ixN 2 0 = some 0 := rfl
  have i1 : L2.ixN 2 1 = some 1 := rfl
  have hm2 : m < 115792089237316195423570985008687907853269984665640564039457584007913129639936 := by omega
  by_cases ha : 0 < a
  · refine wp_eq (a := .int (a % m)) (S := cupS (a / m) b) ?_ ⟨⟨a % m, rfl, Int.emod_nonneg _ (by omega), Int.emod_lt_of_pos _ hm⟩, _, _, rfl, Int.ediv_nonneg h1 (by omega), h2, h3⟩
    rw [call_eq (d := ⟨2, 4, false, c_law_roll⟩) rfl rfl]
    simp [c_law_roll, cupS, ends, leave, exSs, exS, evE, evEs, evT, evTg, der, ixD, x0, i0, biD, cmpD, bopD, Cst.d, ha, hm, hm2]
  · have hb : 0 ≤ (b * 31181 + 8123) % 2147483543 ∧ (b * 31181 + 8123) % 2147483543 < 2147483543 := ⟨Int.emod_nonneg _ (by omega), Int.emod_lt_of_pos _ (by omega)⟩
    generalize hb' : (b * 31181 + 8123) % 2147483543 = b' at hb
    refine wp_eq (a := .int ((b' * (b' + 307)) % 2147483587 / 907 % m)) (S := cupS a b') ?_ ⟨⟨_, rfl, Int.emod_nonneg _ (by omega), Int.emod_lt_of_pos _ hm⟩, _, _, rfl, h1, hb.1, by omega⟩
    rw [call_eq (d := ⟨2, 4, false, c_law_roll⟩) rfl rfl]
    have k1 : mulOk b 31181 = true := by simp [mulOk]
    have k2 : mulOk b' (b' + 307) = true := by simp [mulOk]; omega
    simp [c_law_roll, cupS, ends, leave, exSs, exS, evE, evEs, evT, evTg, der, ixD, x0, x1, i1, biD, cmpD, bopD, Cst.d, ha, hm, k1, k2, hb']
theorem law_some (hS : cupOk S) (xs : List D) (hx : xs ≠ []) (hl : xs.length ≤ 16777216) (hn : 2 ≤ n) : Wp (C T.prg W n 14 [.loc 0, .lst xs] S) fun d S' => d ∈ xs ∧ cupOk S' := by
  obtain ⟨n, rfl⟩ : ∃ m, n = m + 1 := ⟨n - 1, by omega⟩
  have hp : 0 < xs.length := List.length_pos_iff.mpr hx
  have len : S.length = 1 := by obtain ⟨a, b, rfl, _⟩ := hS; rfl
  obtain ⟨d, S1, e, ⟨r, rfl, r0, r1⟩, c1⟩ := law_roll (W := W) (n := n) hS (xs.length : Int) (by omega) (by omega) (by omega)
  obtain ⟨x, ex, mx⟩ := atI_mem (xs := xs) r0 r1
  refine wp_eq (a := x) (S := S1) ?_ ⟨mx, c1⟩
  have len1 : S1.length = 1 := by obtain ⟨a, b, rfl, _⟩ := c1; rfl
  rw [call_eq (d := ⟨2, 2, false, c_law_some⟩) rfl rfl]
  have e : (lv T.prg W n).call 13 [.loc 0, .int (xs.length : Int)] S = .ok (.int r) S1 := e
  simp [c_law_some, ends, leave, exSs, exS, evE, evEs, der, ixD, biD, e, ex, len, len1]
theorem law_bytes (hS : cupOk S) (m : Int) (h0 : 0 ≤ m) (hm : m ≤ 16777216) (hn : 3 ≤ n) : Wp (C T.prg W n 15 [.loc 0, .int m] S) fun d S' => (∃ l : List Int, d = tIs l ∧ octs l ∧ (l.length : Int) = m) ∧ cupOk S' := by
  obtain ⟨n, rfl⟩ : ∃ m, n = m + 1 := ⟨n - 1, by omega⟩
  refine wp_call (d := ⟨2, 3, false, c_law_bytes⟩) rfl rfl ?_
  have key := wp_comp (f := cF (Oc T.prg W n) [2] (.nm 2) .non (.call 14 "_law_some" (.cons (.var 0) (.cons (.fl (.disp (.cons (.cst (.int 0)) (.cons (.cst (.int 1)) (.cons (.cst (.int 7)) (.cons (.cst (.int 254)) (.cons (.cst (.int 255)) (.cons (.call 13 "_law_roll" (.cons (.var 0) (.cons (.cst (.int 256)) .nil))) .nil)))))))) .nil))) [some (.loc 0), some (.int m), none])
    cupOk (fun _ y => ∃ i : Int, y = .int i ∧ 0 ≤ i ∧ i ≤ 255) (rngD 0 m) S hS (fun d hd S hS => by
      obtain ⟨d1, S1, e1, ⟨r, rfl, r0, r1⟩, c1⟩ := law_roll (W := W) (n := n) hS 256 (by omega) (by omega) (by omega)
      obtain ⟨d2, S2, e2, m2, c2⟩ := law_some (W := W) (n := n) c1 [.int 0, .int 1, .int 7, .int 254, .int 255, .int r] (by simp) (by simp) (by omega)
      have e1 : (lv T.prg W n).call 13 [.loc 0, .int 256] S = .ok (.int r) S1 := e1
      have e2 : (lv T.prg W n).call 14 [.loc 0, .lst [.int 0, .int 1, .int 7, .int 254, .int 255, .int r]] S1 = .ok d2 S2 := e2
      refine wp_eq (a := some d2) (S := S2) ?_ ⟨c2, d2, rfl, ?_⟩
      · simp [cF, wipeE, evTg, evTo, evE, evEs, evF, Cst.d, e1, e2, sz]
      · simp only [List.mem_cons, List.not_mem_nil, or_false] at m2
        rcases m2 with z | z | z | z | z | z <;> exact ⟨_, z, by omega, by omega⟩) (Q := fun ys S' => cupOk S' ∧ All2 (fun _ y => ∃ i : Int, y = .int i ∧ 0 ≤ i ∧ i ≤ 255) (rngD 0 m) ys) (fun ys S' a b => ⟨a, b⟩)
  obtain ⟨ys, S', e, c', fa⟩ := key
  obtain ⟨l, rfl, ol⟩ := octs_of (ys := ys) fun y hy => by
    obtain ⟨_, _, q⟩ := fa.right y hy
    exact q
  have hlen := fa.len
  rw [rngD_len, List.length_map] at hlen
  have len : S.length = 1 := by obtain ⟨a, b, rfl, _⟩ := hS; rfl
  have len1 : S'.length = 1 := by obtain ⟨a, b, rfl, _⟩ := c'; rfl
  have hsm : smallI m = true := by simp [smallI]; omega
  have hl : (rngD 0 m).length ≤ sz := by rw [rngD_len]; simp [sz]; omega
  refine wp_eq (a := .rt (tIs l)) (S := S') ?_ (wp_ends (by omega) ⟨⟨l, rfl, ol, by omega⟩, c'⟩)
  have e' : evF (Oc T.prg W n) (.comp [2] (.nm 2) (.rng1 (.var 1)) .non (.call 14 "_law_some" (.cons (.var 0) (.cons (.fl (.disp (.cons (.cst (.int 0)) (.cons (.cst (.int 1)) (.cons (.cst (.int 7)) (.cons (.cst (.int 254)) (.cons (.cst (.int 255)) (.cons (.call 13 "_law_roll" (.cons (.var 0) (.cons (.cst (.int 256)) .nil))) .nil)))))))) .nil)))) [some (.loc 0), some (.int m), none] S = .ok (l.map D.int) S' := by
    have ei : evI (Oc T.prg W n) (.rng1 (.var 1)) [some (.loc 0), some (.int m), none] S = .ok (.items (rngD 0 m)) S := by simp [evI, evE, hsm]
    simp only [evF, ei, bind_ok', if_pos hl]
    exact e
  simp only [c_law_bytes, exSs, exS, evE, evEs, List.map_cons, List.map_nil, List.cons_append, List.nil_append, List.replicate, e', bind_ok', biD, der, opt_some', tIs]
theorem law_same (v : D) (h : v = .non ∨ (∃ i, v = .int i) ∨ (∃ x, v = .str x)) (hs : SeqAt.shaped ((toPy v).getD .none) = true) (hn : 1 ≤ n) : C T.prg W n 17 [v, v] S = .ok (.bl true) S := by
  obtain ⟨n, rfl⟩ : ∃ m, n = m + 1 := ⟨n - 1, by omega⟩
  rw [call_eq (d := ⟨2, 4, false, c_law_same⟩) rfl rfl]
  rcases h with rfl | ⟨i, rfl⟩ | ⟨x, rfl⟩
  · have hs : SeqAt.shaped .none = true := hs
    simp [c_law_same, ends, leave, exSs, exS, evE, evEs, evT, isiD, der, truD, cmpD, eqD, eqP, toPy, hs, PyData.eqv]
  · have hs : SeqAt.shaped (.int i) = true := hs
    simp [c_law_same, ends, leave, exSs, exS, evE, evEs, evT, isiD, der, truD, cmpD, eqD, eqP, toPy, hs, PyData.eqv]
  · have hs : SeqAt.shaped (.str x) = true := hs
    simp [c_law_same, ends, leave, exSs, exS, evE, evEs, evT, isiD, der, truD, cmpD, eqD, eqP, toPy, hs, PyData.eqv]
theorem law_same_tup (xs : List D) (hx : ∀ x ∈ xs, ∀ S, C T.prg W n 17 [x, x] S = .ok (.bl true) S) (hl : xs.length ≤ 16777216) (S : Sto) : C T.prg W (n + 1) 17 [.tup xs, .tup xs] S = .ok (.bl true) S := by
  rw [call_eq (d := ⟨2, 4, false, c_law_same⟩) rfl rfl]
  have e1 : compL (cF (Oc T.prg W n) [2, 3] (.tp (.cons (.nm 2) (.cons (.nm 3) .nil))) (.som (.not (.tru (.call 17 "_law_same" (.cons (.var 2) (.cons (.var 3) .nil)))))) (.cst (.int 1)) [some (.tup xs), some (.tup xs), none, none]) (pairsD xs xs) S = .ok [] S := compL_none _ fun d hd => by
    obtain ⟨x, hx', rfl⟩ := pairs_self hd
    have e := hx x hx' S
    simp [cF, wipeE, evTg, evTgs, evTo, evT, evE, evEs, Cst.d, e, noX, cntT, truD, der]
  have e2 := ev_comp (O := Oc T.prg W n) (ρ := [some (.tup xs), some (.tup xs), none, none]) (it := .zip (.var 0) (.var 1)) (S := S) (l := pairsD xs xs) (S1 := S) (by simp [evI, evE]) (by rw [pairs_self_len]; exact hl) e1
  have e3 : eqD (.lst []) (.lst []) = some true := by decide +kernel
  simp [c_law_same, ends, leave, exSs, exS, evE, evEs, evT, isiD, der, truD, cmpD, biD, eqD_int, e2, e3, ev_nil]
theorem law_same_ints (l : List Int) (hl : l.length ≤ 16777216) (hn : 2 ≤ n) (S : Sto) : C T.prg W n 17 [tIs l, tIs l] S = .ok (.bl true) S := by
  obtain ⟨n, rfl⟩ : ∃ m, n = m + 1 := ⟨n - 1, by omega⟩
  refine law_same_tup _ (fun x hx S => ?_) (by rw [tIs_len]; exact hl) S
  obtain ⟨i, _, rfl⟩ := List.mem_map.mp hx
  exact law_same _ (.inr (.inl ⟨i, rfl⟩)) rfl (by omega)
end
end K09
set_option Elab.async false
set_option linter.all false
set_option maxRecDepth 100000
set_option maxHeartbeats 1000000
namespace K09
open PySem PySem.Spec PyProof.Rows L2 Gx
section
variable {W n : Nat} {S : Sto}
theorem need_ok (i lo hi : Int) (h1 : lo ≤ i) (h2 : i ≤ hi) (hn : 2 ≤ n) : C T.prg W n 3 [.int i, .int lo, .int hi] S = .ok .non S := by
  obtain ⟨n, rfl⟩ : ∃ m, n = m + 1 := ⟨n - 1, by omega⟩
  rw [call_eq (d := ⟨3, 3, false, c_need_number⟩) rfl rfl]
  have e1 : (lv T.prg W n).call 0 [.int i, .int lo, .int hi] S = .ok (.bl true) S := (is_whole i lo hi (by omega)).trans (by rw [decide_eq_true h1, decide_eq_true h2]; rfl)
  simp [c_need_number, ends, leave, exSs, exS, evE, evEs, evT, der, truD, e1]
theorem need_bad (v : D) (lo hi : D) (h : C T.prg W n 0 [v, lo, hi] S = .ok (.bl false) S) : C T.prg W (n + 1) 3 [v, lo, hi] S = .exc "InvalidNumber" none S := by
  rw [call_eq (d := ⟨3, 3, false, c_need_number⟩) rfl rfl]
  have e1 : (lv T.prg W n).call 0 [v, lo, hi] S = .ok (.bl false) S := h
  simp [c_need_number, ends, okP, exSs, exS, evE, evEs, evT, der, truD, e1]
end
section
variable {W n : Nat} {S : Sto}
theorem is_whole_bl (b : Bool) (lo hi : Int) (hn : 1 ≤ n) : C T.prg W n 0 [.bl b, .int lo, .int hi] S = .ok (.bl false) S := by
  obtain ⟨n, rfl⟩ : ∃ m, n = m + 1 := ⟨n - 1, by omega⟩
  rw [call_eq (d := ⟨3, 3, false, c_is_whole⟩) rfl rfl]
  simp [c_is_whole, ends, leave, exSs, exS, evE, evEs, isiD, der, truD, cmpD]
theorem all_map (g : D → Bool) (l : List D) : biD .all [.lst (l.map fun d => D.bl (g d))] = some (.bl (l.all g)) := by
  have : blsD (l.map fun d => D.bl (g d)) = some (l.map g) := by
    induction l with
    | nil => rfl
    | cons d r ih => simp only [List.map_cons, blsD, ih, Option.map_some]
  show (blsD _).map _ = _
  rw [this]
  simp [List.all_map]
theorem fits_gen (xs : List D) (lo hi : Int) (g : D → Bool) (hg : ∀ d ∈ xs, C T.prg W (n + 1) 0 [d, .int 0, .int 255] S = .ok (.bl (g d)) S) (h0 : lo ≤ xs.length) (hl : (xs.length : Int) ≤ hi) (hs : xs.length ≤ 16777216) : C T.prg W (n + 2) 2 [.tup xs, .int lo, .int hi] S = .ok (.bl (xs.all g)) S := by
  rw [call_eq (d := ⟨3, 4, false, c_fits_octets⟩) rfl rfl]
  have e1 : (lv T.prg W (n + 1)).call 1 [.tup xs, .int lo, .int hi] S = .ok (.bl true) S := by
    have := is_tuple_of (W := W) (S := S) xs lo hi (n := n + 1) (by omega)
    simpa [h0, hl] using this
  have e2 : compL (cF (Oc T.prg W (n + 1)) [3] (.nm 3) .non (.call 0 "is_whole" (.cons (.var 3) (.cons (.cst (.int 0)) (.cons (.cst (.int 255)) .nil)))) [some (.tup xs), some (.int lo), some (.int hi), none]) xs S = .ok (xs.map fun d => D.bl (g d)) S := compL_map _ fun d hd => by
    have ew : (lv T.prg W (n + 1)).call 0 [d, .int 0, .int 255] S = .ok (.bl (g d)) S := hg d hd
    simp [cF, wipeE, evTg, evTo, evE, evEs, Cst.d, ew]
  have e3 := ev_comp (O := Oc T.prg W (n + 1)) (ρ := [some (.tup xs), some (.int lo), some (.int hi), none]) (it := .seq (.var 0)) (S := S) (l := xs) (S1 := S) (by simp [evI, evE, seqD]) hs e2
  have e4 := all_map g xs
  simp only [c_fits_octets, ends, leave, exSs, exS, evE, evEs, List.map_cons, List.map_nil, List.cons_append, List.nil_append, List.getElem?_cons_zero, List.getElem?_cons_succ, List.replicate, bind_ok', e1, der, truD, opt_some', if_true, e3, e4]
  simp
theorem fits_not (v : D) (lo hi : Int) (hv : isiD v [.tuple] = some false) (hd : ∀ S, der S v = v) : C T.prg W (n + 2) 2 [v, .int lo, .int hi] S = .ok (.bl false) S := by
  rw [call_eq (d := ⟨3, 4, false, c_fits_octets⟩) rfl rfl]
  have e1 : (lv T.prg W (n + 1)).call 1 [v, .int lo, .int hi] S = .ok (.bl false) S := by
    show C T.prg W (n + 1) 1 _ S = _
    rw [call_eq (d := ⟨3, 3, false, c_is_tuple_of⟩) rfl rfl]
    simp [c_is_tuple_of, ends, leave, exSs, exS, evE, evEs, hv, hd, truD]
    simp [der]
  simp [c_fits_octets, ends, leave, exSs, exS, evE, evEs, e1, der, truD]
end
section
variable {W n : Nat} {S : Sto}
theorem is_whole_t (i lo hi : Int) (h1 : lo ≤ i) (h2 : i ≤ hi) (hn : 1 ≤ n) : C T.prg W n 0 [.int i, .int lo, .int hi] S = .ok (.bl true) S := by
  rw [is_whole i lo hi hn, decide_eq_true h1, decide_eq_true h2]
  rfl
theorem need_octets (l : List Int) (h : octs l) (hl : l.length ≤ 20000) (hn : 3 ≤ n) : C T.prg W n 4 [tIs l] S = .ok .non S := by
  obtain ⟨n, rfl⟩ : ∃ m, n = m + 1 := ⟨n - 1, by omega⟩
  rw [call_eq (d := ⟨1, 1, false, c_need_octets⟩) rfl rfl]
  have e1 : (lv T.prg W n).call 2 [.tup (l.map D.int), .int 0, .int 20000] S = .ok (.bl true) S := fits_octets l 0 20000 h (by omega) (by omega) (by omega) (by omega)
  simp [c_need_octets, tIs, ends, leave, exSs, exS, evE, evEs, evT, der, truD, Cst.d, e1]
end
end K09
set_option Elab.async false
set_option linter.all false
set_option maxRecDepth 100000
set_option maxHeartbeats 1000000
namespace K09
open PySem PySem.Spec PyProof.Rows L2 Gx
section
/-! ### runs, in plain -/
def cnt (x : Int) : Nat → List Int → Nat
  | 0, _ => 0
  | _ + 1, [] => 0
  | f + 1, y :: r => if y = x then cnt x f r + 1 else 0
theorem cnt_hit (x : Int) (f : Nat) (r : List Int) : cnt x (f + 1) (x :: r) = cnt x f r + 1 := by simp [cnt]
theorem cnt_le (x : Int) : ∀ (f : Nat) (l : List Int), cnt x f l ≤ l.length ∧ cnt x f l ≤ f
  | 0, l => ⟨Nat.zero_le _, Nat.le_refl _⟩
  | f + 1, [] => ⟨Nat.le_refl _, Nat.zero_le _⟩
  | f + 1, y :: r => by
    have := cnt_le x f r
    unfold cnt
    rw [List.length_cons]
    split <;> omega
def runs : List Int → List (Int × Nat)
  | [] => []
  | x :: r => (x, 1 + cnt x 249 r) :: runs (r.drop (cnt x 249 r))
termination_by l => l.length
decreasing_by
  rw [List.length_drop, List.length_cons]
  omega
theorem runs_nil : runs [] = [] := by rw [runs]
theorem runs_cons (x : Int) (r : List Int) : runs (x :: r) = (x, 1 + cnt x 249 r) :: runs (r.drop (cnt x 249 r)) := by rw [runs]
/-- runs, an octet at a time -/
def stp (F : List (Int × Nat)) (y : Int) : List (Int × Nat) := match F.getLast? with
  | some (x, m) => if x = y ∧ m < 250 then F.dropLast ++ [(y, m + 1)] else F ++ [(y, 1)]
  | none => [(y, 1)]
theorem stp_snoc (F : List (Int × Nat)) (x : Int) (m : Nat) (y : Int) : stp (F ++ [(x, m)]) y = if x = y ∧ m < 250 then F ++ [(y, m + 1)] else F ++ [(x, m)] ++ [(y, 1)] := by
  unfold stp
  rw [List.getLast?_concat, List.dropLast_concat]
theorem stp_nil (y : Int) : stp [] y = [(y, 1)] := rfl
theorem fold_snoc : ∀ (r : List Int) (F : List (Int × Nat)) (x : Int) (m : Nat), 1 ≤ m → m ≤ 250 → r.foldl stp (F ++ [(x, m)]) = F ++ (x, m + cnt x (250 - m) r) :: runs (r.drop (cnt x (250 - m) r))
  | [], F, x, m, h1, h2 => by
    have : cnt x (250 - m) [] = 0 := by cases (250 - m) <;> rfl
    rw [this, List.drop_nil, runs_nil]
    rfl
  | y :: r, F, x, m, h1, h2 => by
    rw [List.foldl_cons, stp_snoc]
    by_cases h : x = y ∧ m < 250
    · rw [if_pos h, ← h.1, fold_snoc r F x (m + 1) (by omega) (by omega)]
      have e : cnt x (250 - m) (x :: r) = cnt x (250 - (m + 1)) r + 1 := by
        rw [show 250 - m = (250 - (m + 1)) + 1 by omega]
        exact cnt_hit x _ r
      rw [e, List.drop_succ_cons, show m + 1 + cnt x (250 - (m + 1)) r = m + (cnt x (250 - (m + 1)) r + 1) by omega]
    · rw [if_neg h, fold_snoc r (F ++ [(x, m)]) y 1 (by omega) (by omega)]
      have e : cnt x (250 - m) (y :: r) = 0 := by
        by_cases hm : m < 250
        · rw [show 250 - m = (250 - (m + 1)) + 1 by omega]
          unfold cnt
          rw [if_neg (fun z => h ⟨z.symm, hm⟩)]
        · rw [show 250 - m = 0 by omega]
          rfl
      rw [e, List.drop_zero, runs_cons, List.append_assoc]
      rfl
theorem fold_runs (l : List Int) : l.foldl stp [] = runs l := by
  cases l with
  | nil => rw [runs_nil]; rfl
  | cons x r =>
    rw [List.foldl_cons, stp_nil]
    have := fold_snoc r [] x 1 (by omega) (by omega)
    rw [List.nil_append] at this
    rw [this, runs_cons]
    rfl
def rnO (x : Int) (m : Nat) : List Int := if 4 ≤ m ∨ x = 254 then [254, (m : Int), x] else List.replicate m x
def sqL (l : List Int) : List Int := (runs l).flatMap fun p => rnO p.1 p.2
theorem sq_nil : sqL [] = [] := by unfold sqL; rw [runs_nil]; rfl
theorem sq_cons (x : Int) (r : List Int) : sqL (x :: r) = rnO x (1 + cnt x 249 r) ++ sqL (r.drop (cnt x 249 r)) := by
  unfold sqL
  rw [runs_cons, List.flatMap_cons]
theorem cnt_rep (x : Int) : ∀ (f : Nat) (l : List Int), l = List.replicate (cnt x f l) x ++ l.drop (cnt x f l)
  | 0, l => by simp [cnt]
  | f + 1, [] => by simp [cnt]
  | f + 1, y :: r => by
    unfold cnt
    by_cases h : y = x
    · rw [if_pos h, List.replicate_succ, List.drop_succ_cons, List.cons_append, ← cnt_rep x f r, h]
    · rw [if_neg h]
      simp
theorem cnt_next (x : Int) : ∀ (f : Nat) (l : List Int), cnt x f l < f → ∀ y r, l.drop (cnt x f l) = y :: r → y ≠ x
  | 0, l, h => by omega
  | f + 1, [], h => by simp
  | f + 1, z :: l, h => by
    intro y r e
    unfold cnt at h e
    by_cases hz : z = x
    · rw [if_pos hz] at h e
      rw [List.drop_succ_cons] at e
      exact cnt_next x f l (by omega) y r e
    · rw [if_neg hz, List.drop_zero] at e
      cases e
      exact hz
theorem sq_octs : ∀ (k : Nat) (l : List Int), l.length ≤ k → octs l → octs (sqL l)
  | _, [], _, _ => by rw [sq_nil]; exact fun _ h => by cases h
  | 0, x :: r, h, _ => by simp at h
  | k + 1, x :: r, h, o => by
    have c := cnt_le x 249 r
    have ox := o x (by simp)
    rw [sq_cons]
    refine octs_app (fun i hi => ?_) (sq_octs k _ (by rw [List.length_drop]; simp only [List.length_cons] at h; omega) fun i hi => o i (List.mem_cons_of_mem _ (List.mem_of_mem_drop hi)))
    unfold rnO at hi
    split at hi
    · simp only [List.mem_cons, List.not_mem_nil, or_false] at hi
      rcases hi with rfl | rfl | rfl <;> omega
    · rw [(List.mem_replicate.mp hi).2]; exact ox
/-- at most two octets of one, and one more -/
theorem sq_len : ∀ (k : Nat) (l : List Int), l.length ≤ k → (sqL l).length ≤ 2 * l.length + 1 ∧ (∀ x r, l = x :: r → x ≠ 254 → (sqL l).length ≤ 2 * l.length)
  | _, [], _ => ⟨by rw [sq_nil]; exact Nat.zero_le _, fun x r h => by cases h⟩
  | 0, x :: r, h => by simp at h
  | k + 1, x :: r, h => by
    have c := cnt_le x 249 r
    simp only [List.length_cons] at h
    have ld : (r.drop (cnt x 249 r)).length = r.length - cnt x 249 r := List.length_drop
    obtain ⟨i1, i2⟩ := sq_len k (r.drop (cnt x 249 r)) (by omega)
    rw [sq_cons, List.length_append, List.length_cons]
    have lr : (rnO x (1 + cnt x 249 r)).length = if 4 ≤ 1 + cnt x 249 r ∨ x = 254 then 3 else 1 + cnt x 249 r := by
      unfold rnO
      split
      · rfl
      · rw [List.length_replicate]
    by_cases h4 : x = 254
    · have lr : (rnO x (1 + cnt x 249 r)).length = 3 := by rw [lr, if_pos (.inr h4)]
      refine ⟨?_, fun y q e hy => by cases e; exact absurd h4 hy⟩
      by_cases h0 : cnt x 249 r = 0
      · cases hd : r.drop (cnt x 249 r) with
        | nil => rw [hd, sq_nil] at *; simp only [List.length_nil] at *; omega
        | cons y q =>
          have t := i2 y q hd (fun z => cnt_next x 249 r (by omega) y q hd (by rw [z, h4]))
          rw [hd] at t ld
          omega
      · omega
    · have : (rnO x (1 + cnt x 249 r)).length ≤ 2 * (1 + cnt x 249 r) - 1 := by rw [lr]; split <;> omega
      exact ⟨by omega, fun y q e hy => by omega⟩
/-! ### and back -/
def un : List Int → Nat → Option (List Int)
  | [], _ => some []
  | [x], h => if x = 254 then none else if 300 < h + 1 then none else some [x]
  | [x, m], h => if x = 254 then none else if 300 < h + 1 then none else (un [m] (h + 1)).map (x :: ·)
  | x :: m :: y :: r, h => if x = 254 then (if m ≤ 0 then none else if 300 < h + m.toNat then none else (un r (h + m.toNat)).map (List.replicate m.toNat y ++ ·)) else if 300 < h + 1 then none else (un (m :: y :: r) (h + 1)).map (x :: ·)
theorem un_plain (x : Int) (r : List Int) (h : Nat) (hx : x ≠ 254) : un (x :: r) h = if 300 < h + 1 then none else (un r (h + 1)).map (x :: ·) := by
  rcases r with _ | ⟨m, _ | ⟨y, r⟩⟩
  · simp [un, hx]
  · simp [un, hx]
  · simp [un, hx]
theorem un_mark (m y : Int) (r : List Int) (h : Nat) : un (254 :: m :: y :: r) h = if m ≤ 0 then none else if 300 < h + m.toNat then none else (un r (h + m.toNat)).map (List.replicate m.toNat y ++ ·) := by
  rw [un, if_pos rfl]
theorem un_short {r : List Int} (h : Nat) (hr : r.length < 2) : un (254 :: r) h = none := by
  rcases r with _ | ⟨m, _ | ⟨y, r⟩⟩
  · simp [un]
  · simp [un]
  · simp only [List.length_cons] at hr; omega
theorem un_rep (x : Int) (hx : x ≠ 254) : ∀ (m : Nat) (r : List Int) (h : Nat), h + m ≤ 300 → un (List.replicate m x ++ r) h = (un r (h + m)).map (List.replicate m x ++ ·)
  | 0, r, h, _ => by simp
  | m + 1, r, h, hm => by
    rw [List.replicate_succ, List.cons_append, un_plain x _ h hx, if_neg (by omega), un_rep x hx m r (h + 1) (by omega), show h + 1 + m = h + (m + 1) by omega, Option.map_map]
    rfl
theorem un_run (x : Int) (m : Nat) (r : List Int) (h : Nat) (h1 : 1 ≤ m) (hm : h + m ≤ 300) : un (rnO x m ++ r) h = (un r (h + m)).map (List.replicate m x ++ ·) := by
  unfold rnO
  by_cases c : 4 ≤ m ∨ x = 254
  · rw [if_pos c]
    show un (254 :: (m : Int) :: x :: r) h = _
    rw [un_mark, if_neg (by omega), Int.toNat_natCast, if_neg (by omega)]
  · rw [if_neg c]
    exact un_rep x (fun z => c (.inr z)) m r h hm
theorem un_sq : ∀ (k : Nat) (l : List Int) (h : Nat), l.length ≤ k → h + l.length ≤ 300 → un (sqL l) h = some l
  | _, [], h, _, _ => by rw [sq_nil]; rfl
  | 0, x :: r, h, hk, _ => by simp at hk
  | k + 1, x :: r, h, hk, hh => by
    have c := cnt_le x 249 r
    simp only [List.length_cons] at hk hh
    have ld : (r.drop (cnt x 249 r)).length = r.length - cnt x 249 r := List.length_drop
    rw [sq_cons, un_run x (1 + cnt x 249 r) _ h (by omega) (by omega), un_sq k (r.drop (cnt x 249 r)) _ (by omega) (by omega)]
    have := cnt_rep x 249 r
    show some (List.replicate (1 + cnt x 249 r) x ++ r.drop (cnt x 249 r)) = some (x :: r)
    rw [show 1 + cnt x 249 r = cnt x 249 r + 1 by omega, List.replicate_succ, List.cons_append, ← this]
end
end K09
set_option Elab.async false
set_option linter.all false
set_option maxRecDepth 100000
set_option maxHeartbeats 1000000
namespace K09
open PySem PySem.Spec PyProof.Rows L2 Gx
section
variable {W n : Nat} {S : Sto}
theorem t_andF {O : Orc} {ρ : Gx.Env} {t u : CT} {S1 : Sto} (h : evT O t ρ S = .ok false S1) : evT O (.and t u) ρ S = .ok false S1 := by
  simp only [evT, h, bind_ok', Bool.false_eq_true, if_false]
theorem t_andT {O : Orc} {ρ : Gx.Env} {t u : CT} {S1 : Sto} (h : evT O t ρ S = .ok true S1) : evT O (.and t u) ρ S = evT O u ρ S1 := by
  simp only [evT, h, bind_ok', if_true]
theorem t_lt {O : Orc} {ρ : Gx.Env} {a b : CE} {S1 S2 : Sto} {i j : Int} (ha : evE O a ρ S = .ok (.int i) S1) (hb : evE O b ρ S1 = .ok (.int j) S2) : evT O (.cmp .Lt a b) ρ S = .ok (decide (i < j)) S2 := t_cmp (op := .Lt) ha hb rfl
theorem t_le {O : Orc} {ρ : Gx.Env} {a b : CE} {S1 S2 : Sto} {i j : Int} (ha : evE O a ρ S = .ok (.int i) S1) (hb : evE O b ρ S1 = .ok (.int j) S2) : evT O (.cmp .LtE a b) ρ S = .ok (decide (i ≤ j)) S2 := t_cmp (op := .LtE) ha hb rfl
theorem t_gt {O : Orc} {ρ : Gx.Env} {a b : CE} {S1 S2 : Sto} {i j : Int} (ha : evE O a ρ S = .ok (.int i) S1) (hb : evE O b ρ S1 = .ok (.int j) S2) : evT O (.cmp .Gt a b) ρ S = .ok (decide (i > j)) S2 := t_cmp (op := .Gt) ha hb rfl
theorem t_ge {O : Orc} {ρ : Gx.Env} {a b : CE} {S1 S2 : Sto} {i j : Int} (ha : evE O a ρ S = .ok (.int i) S1) (hb : evE O b ρ S1 = .ok (.int j) S2) : evT O (.cmp .GtE a b) ρ S = .ok (decide (i ≥ j)) S2 := t_cmp (op := .GtE) ha hb rfl
theorem t_eqI2 {O : Orc} {ρ : Gx.Env} {a b : CE} {S1 S2 : Sto} {i j : Int} (ha : evE O a ρ S = .ok (.int i) S1) (hb : evE O b ρ S1 = .ok (.int j) S2) : evT O (.cmp .NotEq a b) ρ S = .ok (!decide (i = j)) S2 := t_ne ha hb (eqD_int i j)
theorem ev_neg1 {O : Orc} {ρ : Gx.Env} : evE O (.neg (.cst (.int 1))) ρ S = .ok (.int (-1)) S := by
  simp only [evE, Cst.d, bind_ok', der, opt_some']
theorem der_loc {k : Nat} {xs : List D} (h : S[k]? = some (.lst xs)) : der S (.loc k) = .lst xs := by
  simp only [der, h]
def pD (p : Int × Nat) : D := .tup [.int p.1, .int p.2]
theorem ixN_last (k : Nat) : L2.ixN (k + 1) (-1) = some k := by
  unfold L2.ixN
  rw [if_neg (by decide), if_pos (by omega)]
  congr 1
  omega
theorem atI_last (xs : List D) (d : D) : L2.atI (xs ++ [d]) (-1) = some d := by
  unfold L2.atI
  rw [List.length_append, List.length_singleton, ixN_last]
  show (xs ++ [d])[xs.length]? = some d
  rw [List.getElem?_append_right (Nat.le_refl _), Nat.sub_self]
  rfl
theorem last_ix {O : Orc} {ρ : Gx.Env} {v k : Nat} {xs : List D} {d : D} (h : ρ[v]? = some (some (.loc k))) (hk : S[k]? = some (.lst (xs ++ [d]))) : evE O (.ix (.var v) (.neg (.cst (.int 1)))) ρ S = .ok d S :=
  ev_ix (va := .loc k) (vb := .int (-1)) (S1 := S) (ev_var h) ev_neg1 (by rw [der_loc hk]; exact atI_last xs d)
theorem pl_pD {m k : Nat} (p : Int × Nat) (hm : 2 ≤ m) : Pl m (k + 1) (pD p) := ⟨hm, fun x hx => by
  simp only [List.mem_cons, List.not_mem_nil, or_false] at hx
  rcases hx with rfl | rfl
  · exact pl_int
  · exact pl_int⟩
theorem runs_b1 (O : Orc) (F : List (Int × Nat)) (y : Int) (w0 : Option D) (hF : F.length ≤ 100000) : exSs T.prg.sub O c_runs_in_b1 [w0, some (.loc S.length), some (.int y)] (S ++ [.lst (F.map pD)]) = .ok (.nx [w0, some (.loc S.length), some (.int y)]) (S ++ [.lst ((stp F y).map pD)]) := by
  unfold c_runs_in_b1
  have ne : evT O (.cmp .NotEq (.var 1) (.fl (.disp .nil))) [w0, some (.loc S.length), some (.int y)] (S ++ [.lst (F.map pD)]) = .ok (!(F.map pD).isEmpty) (S ++ [.lst (F.map pD)]) :=
    t_ne (va := .loc S.length) (vb := .lst []) (ev_var (i := 1) rfl) (ev_disp evs_nil (by simp [sz])) (by
      rw [der_end]
      exact eq_nilL (m := 100000) (k := 2) ⟨by rw [List.length_map]; exact hF, fun x hx => by obtain ⟨p, _, rfl⟩ := List.mem_map.mp hx; exact pl_pD p (by omega)⟩ (by omega))
  rcases List.eq_nil_or_concat F with rfl | ⟨G, ⟨x, m⟩, rfl⟩
  · rw [ss_nx (s_else (t_andF (ne.trans rfl)) ((ss_nx (s_app (k := S.length) (d := .tup [.int y, .int ((1 : Nat) : Int)]) rfl (ev_tup2 (ev_var (i := 2) rfl) (ev_cst (c := .int 1))) at_end (by simp [sz]))).trans exSs_nil)), set_end]
    exact exSs_nil
  · rw [List.concat_eq_append] at ne hF ⊢
    rw [List.length_append, List.length_singleton] at hF
    have ne : evT O (.cmp .NotEq (.var 1) (.fl (.disp .nil))) [w0, some (.loc S.length), some (.int y)] (S ++ [.lst ((G ++ [(x, m)]).map pD)]) = .ok true (S ++ [.lst ((G ++ [(x, m)]).map pD)]) := ne.trans (by rw [List.map_append]; cases G.map pD <;> rfl)
    have eS : (G ++ [(x, m)]).map pD = G.map pD ++ [.tup [.int x, .int (m : Int)]] := by rw [List.map_append]; rfl
    have hk : (S ++ [Ob.lst ((G ++ [(x, m)]).map pD)])[S.length]? = some (.lst (G.map pD ++ [.tup [.int x, .int (m : Int)]])) := by rw [← eS]; exact at_end
    have l0 : ∀ (j : Int) (d : D), L2.atI [D.int x, .int (m : Int)] j = some d → evE O (.ix (.ix (.var 1) (.neg (.cst (.int 1)))) (.cst (.int j))) [w0, some (.loc S.length), some (.int y)] (S ++ [.lst ((G ++ [(x, m)]).map pD)]) = .ok d (S ++ [.lst ((G ++ [(x, m)]).map pD)]) := fun j d hd => ev_ix (va := .tup [.int x, .int (m : Int)]) (vb := .int j) (last_ix rfl hk) (ev_cst (c := .int j)) hd
    have t1 := t_eqI (l0 0 (.int x) rfl) (ev_var (ρ := [w0, some (.loc S.length), some (.int y)]) (i := 2) (d := .int y) rfl)
    have t2 := t_lt (l0 1 (.int m) rfl) (ev_glob (x := "LONGEST") (d := .int 250))
    rw [stp_snoc]
    by_cases hx : x = y
    case neg =>
      rw [if_neg (fun z => hx z.1), ss_nx (s_else ((t_andT ne).trans (t_andF (t1.trans (by rw [decide_eq_false hx])))) ((ss_nx (s_app (k := S.length) (d := .tup [.int y, .int ((1 : Nat) : Int)]) rfl (ev_tup2 (ev_var (i := 2) rfl) (ev_cst (c := .int 1))) at_end (by rw [List.length_map, List.length_append, List.length_singleton]; simp only [sz]; omega))).trans exSs_nil)), set_end, List.map_append (l₁ := G ++ [(x, m)])]
      exact exSs_nil
    have t1' := t1.trans (by rw [decide_eq_true hx])
    by_cases hm : m < 250
    case neg =>
      rw [if_neg (fun z => hm z.2), ss_nx (s_else ((t_andT ne).trans ((t_andT t1').trans (t2.trans (by rw [decide_eq_false (by omega)])))) ((ss_nx (s_app (k := S.length) (d := .tup [.int y, .int ((1 : Nat) : Int)]) rfl (ev_tup2 (ev_var (i := 2) rfl) (ev_cst (c := .int 1))) at_end (by rw [List.length_map, List.length_append, List.length_singleton]; simp only [sz]; omega))).trans exSs_nil)), set_end, List.map_append (l₁ := G ++ [(x, m)])]
      exact exSs_nil
    rw [if_pos ⟨hx, hm⟩]
    have es : exS T.prg.sub O (.asg (.sub (.var 1) (.neg (.cst (.int 1)))) (.tup (.cons (.var 2) (.cons (.bop .Add (.ix (.ix (.var 1) (.neg (.cst (.int 1)))) (.cst (.int 1))) (.cst (.int 1))) .nil)))) [w0, some (.loc S.length), some (.int y)] (S ++ [.lst ((G ++ [(x, m)]).map pD)]) = .ok (.nx [w0, some (.loc S.length), some (.int y)]) (S ++ [.lst ((G ++ [(y, m + 1)]).map pD)]) := by
      refine s_asgt (d := .tup [.int y, .int ((m + 1 : Nat) : Int)]) (ev_tup2 (ev_var (i := 2) rfl) (ev_bop (op := .Add) (va := .int m) (vb := .int 1) (l0 1 _ rfl) (ev_cst (c := .int 1)) rfl)) ?_
      simp only [evTg, ev_var (O := O) (ρ := [w0, some (.loc S.length), some (.int y)]) (S := S ++ [.lst ((G ++ [(x, m)]).map pD)]) (i := 1) (d := .loc S.length) rfl, ev_neg1, bind_ok', hk, List.length_append, List.length_singleton, ixN_last]
      have e1 : (G.map pD ++ [D.tup [.int x, .int (m : Int)]]).set (G.map pD).length (.tup [.int y, .int ((m + 1 : Nat) : Int)]) = G.map pD ++ [.tup [.int y, .int ((m + 1 : Nat) : Int)]] := by
        rw [List.set_append_right _ _ (Nat.le_refl _), Nat.sub_self]
        rfl
      have e2 : (G ++ [(y, m + 1)]).map pD = G.map pD ++ [.tup [.int y, .int ((m + 1 : Nat) : Int)]] := by rw [List.map_append]; rfl
      rw [List.set_append_right _ _ (Nat.le_refl _), Nat.sub_self, e1, e2]
      rfl
    rw [ss_nx (s_then ((t_andT ne).trans ((t_andT t1').trans (t2.trans (by rw [decide_eq_true (by omega)])))) ((ss_nx es).trans exSs_nil))]
    exact exSs_nil
theorem stp_len (F : List (Int × Nat)) (y : Int) : (stp F y).length ≤ F.length + 1 := by
  rcases List.eq_nil_or_concat F with rfl | ⟨G, ⟨x, m⟩, rfl⟩
  · exact Nat.le_refl _
  · rw [List.concat_eq_append, stp_snoc]
    split <;> simp only [List.length_append, List.length_singleton] <;> omega
theorem runs_loop (O : Orc) (w0 : Option D) : ∀ (l : List Int) (F : List (Int × Nat)) (x2 : Option D), F.length + l.length ≤ 100000 → ∃ y2, forL (fun d ρ1 S2 => (evTg O (.nm 2) d ρ1 S2).bind fun ρ2 S3 => exSs T.prg.sub O c_runs_in_b1 ρ2 S3) (l.map D.int) [w0, some (.loc S.length), x2] (S ++ [.lst (F.map pD)]) = .ok (.nx [w0, some (.loc S.length), y2]) (S ++ [.lst ((l.foldl stp F).map pD)])
  | [], F, x2, _ => ⟨x2, rfl⟩
  | y :: l, F, x2, h => by
    rw [List.length_cons] at h
    have := stp_len F y
    obtain ⟨y2, e⟩ := runs_loop O w0 l (stp F y) (some (.int y)) (by omega)
    exact ⟨y2, forL_cons (forL_turn (tg_nm (by simp)) (runs_b1 O F y w0 (by omega))) e⟩
theorem frz_pD (k : Nat) (S : Sto) (m : Nat) : ∀ F : List (Int × Nat), (F.map pD).mapM (frz k S (m + 2)) = some (F.map pD)
  | [] => rfl
  | p :: r => by
    have e : frz k S (m + 2) (pD p) = some (pD p) := by
      unfold pD
      simp only [frz, List.mapM_cons, List.mapM_nil]
      rfl
    rw [List.map_cons, List.mapM_cons, frz_pD k S m r, e]
    rfl
theorem leave_to {d d' : D} {o : Ob} (h : shut S = true) (e : frz S.length (S ++ [o]) 8 d = some d') : leave false S.length d (S ++ [o]) = .ok d' S := by
  unfold leave
  rw [if_neg (by simp), List.take_left, if_pos h, e]
  rfl
theorem frz_locN {k j : Nat} {S : Sto} {m : Nat} {xs : List D} (h : ¬ j < k) (h2 : S[j]? = some (.lst xs)) : frz k S (m + 1) (.loc j) = (xs.mapM (frz k S m)).map D.lst := by
  simp only [frz, if_neg h, h2]
theorem runs_in (l : List Int) (hl : l.length ≤ 50000) (hS : shut S = true) (hn : 1 ≤ n) : C T.prg W n 5 [tIs l] S = .ok (.lst ((runs l).map pD)) S := by
  obtain ⟨n, rfl⟩ : ∃ m, n = m + 1 := ⟨n - 1, by omega⟩
  rw [call_eq (d := ⟨1, 3, false, c_runs_in⟩) rfl rfl]
  show ends false S.length (exSs T.prg.sub (Oc T.prg W n) c_runs_in [some (tIs l), none, none] S) = _
  unfold c_runs_in
  rw [ss_nx (s_asg (ev_ml ef_disp0) (by simp))]
  show ends false S.length (exSs T.prg.sub (Oc T.prg W n) _ [some (tIs l), some (.loc S.length), none] (S ++ [.lst (([] : List (Int × Nat)).map pD)])) = _
  obtain ⟨y2, e⟩ := runs_loop (S := S) (Oc T.prg W n) (some (tIs l)) l [] none (by rw [List.length_nil]; omega)
  rw [fold_runs] at e
  rw [ss_nx (s_for (ei_seq (ev_var (i := 0) rfl) rfl) e), s_ret (ev_var (i := 1) rfl)]
  exact leave_to hS (by rw [frz_locN (Nat.lt_irrefl _) at_end, frz_pD]; rfl)
theorem runs_bound : ∀ (k : Nat) (l : List Int), l.length ≤ k → ∀ p ∈ runs l, 1 ≤ p.2 ∧ p.2 ≤ 250
  | _, [], _ => by rw [runs_nil]; intro p h; cases h
  | 0, x :: r, h => by simp at h
  | k + 1, x :: r, h => by
    rw [runs_cons]
    intro p hp
    have c := cnt_le x 249 r
    simp only [List.length_cons] at h
    rcases List.mem_cons.mp hp with rfl | z
    · exact ⟨by show 1 ≤ 1 + _; omega, by show 1 + _ ≤ 250; omega⟩
    · exact runs_bound k _ (by rw [List.length_drop]; omega) p z
theorem run_octets (x : Int) (m : Nat) (h1 : 1 ≤ m) (h2 : m ≤ 250) (hn : 1 ≤ n) : C T.prg W n 6 [.int x, .int m] S = .ok (tIs (rnO x m)) S := by
  obtain ⟨n, rfl⟩ : ∃ m, n = m + 1 := ⟨n - 1, by omega⟩
  rw [call_eq (d := ⟨2, 2, false, c_run_octets⟩) rfl rfl]
  show ends false S.length (exSs T.prg.sub (Oc T.prg W n) c_run_octets [some (.int x), some (.int m)] S) = _
  unfold c_run_octets rnO
  have t1 := t_ge (O := Oc T.prg W n) (ρ := [some (.int x), some (.int m)]) (S := S) (S1 := S) (S2 := S) (i := (m : Int)) (j := 4) (ev_var (i := 1) rfl) (ev_glob (x := "LEAST") (d := .int 4))
  have t2 := t_eqI (O := Oc T.prg W n) (ρ := [some (.int x), some (.int m)]) (S := S) (S1 := S) (S2 := S) (i := x) (j := 254) (ev_var (i := 0) rfl) (ev_glob (x := "MARK") (d := .int 254))
  have yes : evT (Oc T.prg W n) (.or (.cmp .GtE (.var 1) (.glob "LEAST" (.int 4))) (.cmp .Eq (.var 0) (.glob "MARK" (.int 254)))) [some (.int x), some (.int m)] S = .ok (decide (4 ≤ m ∨ x = 254)) S := by
    by_cases h4 : 4 ≤ m
    · rw [decide_eq_true (.inl h4)]
      exact t_or_t (t1.trans (by rw [decide_eq_true (by omega)]))
    · refine (t_or (t1.trans (by rw [decide_eq_false (by omega)]))).trans (t2.trans ?_)
      by_cases hx : x = 254
      · rw [decide_eq_true hx, decide_eq_true (.inr hx)]
      · rw [decide_eq_false hx, decide_eq_false (by omega)]
  by_cases c : 4 ≤ m ∨ x = 254
  · rw [if_pos c, s_ret (d := tIs [254, (m : Int), x]) ((ev_ife (yes.trans (by rw [decide_eq_true c]))).trans ((if_pos rfl).trans (ev_tup (evs_cons ev_glob (evs_cons (ev_var (i := 1) rfl) (evs_cons (ev_var (i := 0) rfl) evs_nil))) (by simp [sz]))))]
    exact ends_rt
  · rw [if_neg c, s_ret (d := tIs (List.replicate m x)) ((ev_ife (yes.trans (by rw [decide_eq_false c]))).trans ((if_neg Bool.false_ne_true).trans (ev_bop (ev_tup1 (ev_var (i := 0) rfl)) (ev_var (i := 1) rfl) (mul_int1 (by omega) (by omega)))))]
    exact ends_rt
end
end K09
set_option Elab.async false
set_option linter.all false
set_option maxRecDepth 100000
set_option maxHeartbeats 1000000
namespace K09
open PySem PySem.Spec PyProof.Rows L2 Gx
section
variable {W n : Nat} {S : Sto}
theorem s_ext {O : Orc} {sub : Str → Str → Option Bool} {e : CE} {ρ : Gx.Env} {S1 : Sto} {i k : Nat} {d : D} {xs ys : List D} (h0 : ρ[i]? = some (some (.loc k))) (h : evE O e ρ S = .ok d S1) (hd : extL (der S1 d) = some ys) (h1 : S1[k]? = some (.lst xs)) (h2 : xs.length + ys.length ≤ sz) : exS sub O (.ext i e) ρ S = .ok (.nx ρ) (S1.set k (.lst (xs ++ ys))) := by
  simp only [exS, h0, h, bind_ok', hd, h1, if_pos h2]
theorem noloc_ints : ∀ l : List Int, nolocL (l.map D.int) = true
  | [] => rfl
  | i :: r => by
    show (noloc (D.int i) && nolocL (r.map D.int)) = true
    rw [noloc_ints r]
    rfl
theorem shut_ints (h : shut S = true) (l : List Int) : shut (S ++ [.lst (l.map D.int)]) = true := by
  unfold shut at h ⊢
  rw [List.all_append, h]
  show (true && (nolocL (l.map D.int) && true)) = true
  rw [noloc_ints]
  rfl
theorem rn_len (x : Int) (m : Nat) : (rnO x m).length ≤ 3 := by
  unfold rnO
  split
  · exact Nat.le_refl _
  · next h => rw [List.length_replicate]; omega
theorem sqz_loop (hn : 1 ≤ n) (w0 w1 : Option D) : ∀ (ps : List (Int × Nat)) (F : List Int) (x3 x4 : Option D), (∀ p ∈ ps, 1 ≤ p.2 ∧ p.2 ≤ 250) → F.length + 3 * ps.length ≤ 100000 →
    ∃ y3 y4, forL (fun d ρ1 S2 => (evTg (Oc T.prg W n) (.tp (.cons (.nm 3) (.cons (.nm 4) .nil))) d ρ1 S2).bind fun ρ2 S3 => exSs T.prg.sub (Oc T.prg W n) c_squeezed_in_b1 ρ2 S3) (ps.map pD) [w0, w1, some (.loc S.length), x3, x4] (S ++ [.lst (F.map D.int)]) = .ok (.nx [w0, w1, some (.loc S.length), y3, y4]) (S ++ [.lst ((F ++ ps.flatMap fun p => rnO p.1 p.2).map D.int)])
  | [], F, x3, x4, _, _ => ⟨x3, x4, by rw [List.flatMap_nil, List.append_nil]; rfl⟩
  | p :: ps, F, x3, x4, hp, hl => by
    rw [List.length_cons] at hl
    have hq := hp p (by simp)
    have rl := rn_len p.1 p.2
    obtain ⟨y3, y4, e⟩ := sqz_loop hn w0 w1 ps (F ++ rnO p.1 p.2) (some (.int p.1)) (some (.int p.2)) (fun q h => hp q (List.mem_cons_of_mem _ h)) (by rw [List.length_append]; omega)
    refine ⟨y3, y4, forL_cons (forL_turn (tg2 (a := .int p.1) (b := .int p.2) (by simp) (by simp)) (ρ3 := [w0, w1, some (.loc S.length), some (.int p.1), some (.int p.2)]) (S2 := S ++ [.lst ((F ++ rnO p.1 p.2).map D.int)]) ?_) (e.trans (by rw [List.flatMap_cons, List.append_assoc]))⟩
    show exSs T.prg.sub (Oc T.prg W n) c_squeezed_in_b1 [w0, w1, some (.loc S.length), some (.int p.1), some (.int p.2)] _ = _
    unfold c_squeezed_in_b1
    rw [ss_nx (s_ext (k := S.length) (d := tIs (rnO p.1 p.2)) (xs := F.map D.int) (ys := (rnO p.1 p.2).map D.int) rfl ((ev_call2 (ev_var (i := 3) rfl) (ev_var (i := 4) rfl)).trans (run_octets p.1 p.2 hq.1 hq.2 hn)) rfl at_end (by rw [List.length_map, List.length_map]; simp only [sz]; omega)), set_end, ← List.map_append]
    exact exSs_nil
theorem runs_len : ∀ (k : Nat) (l : List Int), l.length ≤ k → (runs l).length ≤ l.length
  | _, [], _ => by rw [runs_nil]; exact Nat.le_refl _
  | 0, x :: r, h => by simp at h
  | k + 1, x :: r, h => by
    simp only [List.length_cons] at h
    have := runs_len k (r.drop (cnt x 249 r)) (by rw [List.length_drop]; omega)
    rw [List.length_drop] at this
    rw [runs_cons, List.length_cons, List.length_cons]
    omega
theorem squeezed_in (l : List Int) (q : Int) (hq : q = 1 ∨ q = 2) (hl : l.length ≤ 20000) (hS : shut S = true) (hn : 2 ≤ n) : C T.prg W n 7 [.int q, tIs l] S = .ok (tIs (if q = 1 then l else sqL l)) S := by
  obtain ⟨n, rfl⟩ : ∃ m, n = m + 1 := ⟨n - 1, by omega⟩
  rw [call_eq (d := ⟨2, 5, false, c_squeezed_in⟩) rfl rfl]
  show ends false S.length (exSs T.prg.sub (Oc T.prg W n) c_squeezed_in [some (.int q), some (tIs l), none, none, none] S) = _
  unfold c_squeezed_in
  have t1 := t_eqI (O := Oc T.prg W n) (ρ := [some (.int q), some (tIs l), none, none, none]) (S := S) (S1 := S) (S2 := S) (i := q) (j := 1) (ev_var (i := 0) rfl) (ev_glob (x := "PLAIN") (d := .int 1))
  by_cases h1 : q = 1
  · rw [if_pos h1, ss_rt (s_then (t1.trans (by rw [decide_eq_true h1])) (s_ret (ev_var (i := 1) rfl)))]
    exact ends_rt
  rw [if_neg h1, ss_nx (s_skip (t1.trans (by rw [decide_eq_false h1]))), ss_nx (s_asg (ev_ml ef_disp0) (by simp))]
  show ends false S.length (exSs T.prg.sub (Oc T.prg W n) _ [some (.int q), some (tIs l), some (.loc S.length), none, none] (S ++ [.lst (([] : List Int).map D.int)])) = _
  have rl := runs_len l.length l (Nat.le_refl _)
  obtain ⟨y3, y4, e⟩ := sqz_loop (W := W) (S := S) (n := n) (by omega) (some (.int q)) (some (tIs l)) (runs l) [] none none (runs_bound l.length l (Nat.le_refl _)) (by rw [List.length_nil]; omega)
  rw [List.nil_append] at e
  rw [ss_nx (s_for (ei_seq ((ev_call1 (ev_var (i := 1) rfl)).trans (runs_in l (by omega) (shut_ints hS []) (by omega))) rfl) e)]
  rw [s_ret (ev_bi1 (v := .loc S.length) (d := tIs (sqL l)) (ev_var (i := 2) rfl) (by rw [der_end]; rfl))]
  exact leave_tI hS
theorem need_squeeze (q : Int) (hq : q = 1 ∨ q = 2) (hn : 3 ≤ n) : C T.prg W n 9 [.int q] S = .ok .non S := by
  obtain ⟨n, rfl⟩ : ∃ m, n = m + 1 := ⟨n - 1, by omega⟩
  rw [call_eq (d := ⟨1, 1, false, c_need_squeeze⟩) rfl rfl]
  show ends false S.length (exSs T.prg.sub (Oc T.prg W n) c_need_squeeze [some (.int q)] S) = _
  unfold c_need_squeeze
  rw [ss_nx (s_exp ((ev_callN3 (ev_var (i := 0) rfl) ev_glob ev_glob).trans (need_ok q 1 2 (by omega) (by omega) (by omega)))), exSs_nil]
  exact ends_nx
theorem squeezed (l : List Int) (q : Int) (hq : q = 1 ∨ q = 2) (o : octs l) (hl : l.length ≤ 300) (hS : shut S = true) (hn : 4 ≤ n) : C T.prg W n 10 [.int q, tIs l] S = .ok (tIs (if q = 1 then l else sqL l)) S := by
  obtain ⟨n, rfl⟩ : ∃ m, n = m + 1 := ⟨n - 1, by omega⟩
  rw [call_eq (d := ⟨2, 2, false, c_squeezed⟩) rfl rfl]
  show ends false S.length (exSs T.prg.sub (Oc T.prg W n) c_squeezed [some (.int q), some (tIs l)] S) = _
  unfold c_squeezed
  rw [ss_nx (s_exp ((ev_call1 (ev_var (i := 0) rfl)).trans (need_squeeze q hq (by omega)))), ss_nx (s_skip (t_ntru ((ev_callN3 (ev_var (i := 1) rfl) (ev_cst (c := .int 0)) ev_glob).trans (fits_octets l 0 300 o (by omega) (by omega) (by omega) (by omega))))), s_ret ((ev_call2 (ev_var (i := 0) rfl) (ev_var (i := 1) rfl)).trans (squeezed_in l q hq (by omega) hS (by omega)))]
  exact ends_rt
/-! ### and back -/
def optU : Option (List Int) → D
  | none => .non
  | some l => tIs l
theorem ix_at {O : Orc} {ρ : Gx.Env} {v : Nat} {l : List Int} {a : CE} {i : Nat} {x : Int} (h : ρ[v]? = some (some (tIs l))) (ha : evE O a ρ S = .ok (.int (i : Int)) S) (hx : l[i]? = some x) : evE O (.ix (.var v) a) ρ S = .ok (.int x) S := by
  obtain ⟨hi, e⟩ := List.getElem?_eq_some_iff.mp hx
  have hi2 : i < (l.map D.int).length := by rw [List.length_map]; exact hi
  refine ev_ix (va := .tup (l.map D.int)) (vb := .int i) (S1 := S) (ev_var h) ha ?_
  show L2.atI (l.map D.int) (i : Int) = _
  rw [atI_nat hi2, List.getElem_map, e]
theorem plus {O : Orc} {ρ : Gx.Env} {v : Nat} {i : Nat} (j : Nat) (J : Int) (hJ : J = (j : Int)) (h : ρ[v]? = some (some (.int (i : Int)))) : evE O (.bop .Add (.var v) (.cst (.int J))) ρ S = .ok (.int ((i + j : Nat) : Int)) S := ev_bop (op := .Add) (va := .int i) (vb := .int J) (S1 := S) (ev_var h) (ev_cst (c := .int J)) (by show some (D.int ((i : Int) + J)) = _; rw [hJ, Int.natCast_add])
theorem drop_at {l : List Int} {i : Nat} {x : Int} {r : List Int} (h : l.drop i = x :: r) : l[i]? = some x ∧ l.drop (i + 1) = r ∧ i < l.length := by
  have h1 : (l.drop i)[0]? = some x := by rw [h]; rfl
  rw [List.getElem?_drop, Nat.add_zero] at h1
  refine ⟨h1, by rw [← List.drop_drop, h]; rfl, ?_⟩
  exact (List.getElem?_eq_some_iff.mp h1).1
def uTest : CT := .and (.cmp .Lt (.var 3) (.bi .len (.cons (.var 1) .nil))) (.cmp .LtE (.bi .len (.cons (.var 2) .nil)) (.glob "PAYLOAD" (.int 300)))
theorem un_loop (O : Orc) (w0 : Option D) (l : List Int) (o : octs l) (hl : l.length ≤ 20000) : ∀ (k i f : Nat) (F : List Int), F.length ≤ 300 → 301 ≤ F.length + k → k + 1 < f →
    ∃ out S', whileL (fun ρ1 S1 => evT O uTest ρ1 S1) (fun ρ1 S1 => exSs T.prg.sub O c_unsqueezed_in_b1 ρ1 S1) f [w0, some (tIs l), some (.loc S.length), some (.int (i : Int))] (S ++ [.lst (F.map D.int)]) = .ok out S' ∧
      ((∃ F' y3, out = .nx [w0, some (tIs l), some (.loc S.length), y3] ∧ S' = S ++ [.lst (F'.map D.int)] ∧ ((F'.length ≤ 300 ∧ (un (l.drop i) F.length) = some (F'.drop F.length) ∧ F' = F ++ F'.drop F.length) ∨ (300 < F'.length ∧ un (l.drop i) F.length = none ∧ F'.length ≤ 1000))) ∨ (out = .rt .non ∧ (∃ ob, S' = S ++ [ob]) ∧ un (l.drop i) F.length = none)) := by
  intro k
  induction k with
  | zero => intro i f F h1 h2; omega
  | succ k ih =>
    intro i f F h1 h2 hf
    obtain ⟨f, rfl⟩ : ∃ g, f = g + 1 := ⟨f - 1, by omega⟩
    have lF : ∀ (F : List Int) (i : Nat), evE O (.bi .len (.cons (.var 2) .nil)) [w0, some (tIs l), some (.loc S.length), some (.int (i : Int))] (S ++ [.lst (F.map D.int)]) = .ok (.int F.length) (S ++ [.lst (F.map D.int)]) := fun F i => ev_bi1 (v := .loc S.length) (ev_var (i := 2) rfl) (by rw [der_end]; show some (D.int ((F.map D.int).length : Nat)) = _; rw [List.length_map])
    have test : ∀ (F : List Int) (i : Nat), evT O uTest [w0, some (tIs l), some (.loc S.length), some (.int (i : Int))] (S ++ [.lst (F.map D.int)]) = .ok (decide (i < l.length ∧ F.length ≤ 300)) (S ++ [.lst (F.map D.int)]) := fun F i => by
      have a := t_lt (O := O) (ρ := [w0, some (tIs l), some (.loc S.length), some (.int (i : Int))]) (S := S ++ [.lst (F.map D.int)]) (i := (i : Int)) (j := (l.length : Int)) (ev_var (i := 3) rfl) (ev_lenT (ev_var (i := 1) rfl))
      have b := t_le (lF F i) (ev_glob (x := "PAYLOAD") (d := .int 300))
      unfold uTest
      by_cases hi : i < l.length
      · refine (t_andT (a.trans (by rw [decide_eq_true (by omega)]))).trans (b.trans ?_)
        by_cases hF : F.length ≤ 300
        · rw [decide_eq_true (by omega), decide_eq_true ⟨hi, hF⟩]
        · rw [decide_eq_false (by omega), decide_eq_false (fun z => hF z.2)]
      · rw [decide_eq_false (fun z => hi z.1)]
        exact t_andF (a.trans (by rw [decide_eq_false (by omega)]))
    -- after a turn: on, or over the bound
    have next : ∀ (F1 : List Int) (i1 : Nat) (z : List Int), F1 = F ++ z → 1 ≤ z.length → z.length ≤ 300 → exSs T.prg.sub O c_unsqueezed_in_b1 [w0, some (tIs l), some (.loc S.length), some (.int (i : Int))] (S ++ [.lst (F.map D.int)]) = .ok (.nx [w0, some (tIs l), some (.loc S.length), some (.int (i1 : Int))]) (S ++ [.lst (F1.map D.int)]) → i < l.length → un (l.drop i) F.length = (if 300 < F.length + z.length then none else (un (l.drop i1) (F.length + z.length)).map (z ++ ·)) →
        ∃ out S', whileL (fun ρ1 S1 => evT O uTest ρ1 S1) (fun ρ1 S1 => exSs T.prg.sub O c_unsqueezed_in_b1 ρ1 S1) (f + 1) [w0, some (tIs l), some (.loc S.length), some (.int (i : Int))] (S ++ [.lst (F.map D.int)]) = .ok out S' ∧
          ((∃ F' y3, out = .nx [w0, some (tIs l), some (.loc S.length), y3] ∧ S' = S ++ [.lst (F'.map D.int)] ∧ ((F'.length ≤ 300 ∧ (un (l.drop i) F.length) = some (F'.drop F.length) ∧ F' = F ++ F'.drop F.length) ∨ (300 < F'.length ∧ un (l.drop i) F.length = none ∧ F'.length ≤ 1000))) ∨ (out = .rt .non ∧ (∃ ob, S' = S ++ [ob]) ∧ un (l.drop i) F.length = none)) := by
      intro F1 i1 z eF hz1 hz2 eb hi eu
      have st := whileL_step (f := fun ρ1 S1 => exSs T.prg.sub O c_unsqueezed_in_b1 ρ1 S1) (n := f) ((test F i).trans (by rw [decide_eq_true ⟨hi, h1⟩])) eb
      have lF1 : F1.length = F.length + z.length := by rw [eF, List.length_append]
      rw [st]
      by_cases hb : 300 < F.length + z.length
      · rw [if_pos hb] at eu
        obtain ⟨f, rfl⟩ : ∃ g, f = g + 1 := ⟨f - 1, by omega⟩
        exact ⟨_, _, whileL_stop ((test F1 i1).trans (by rw [decide_eq_false (by omega)])), .inl ⟨F1, _, rfl, rfl, .inr ⟨by omega, eu, by omega⟩⟩⟩
      · rw [if_neg hb] at eu
        obtain ⟨out, S', e, hr⟩ := ih i1 f F1 (by omega) (by omega) (by omega)
        rw [lF1] at hr
        refine ⟨out, S', e, ?_⟩
        rcases hr with ⟨F', y3, rfl, rfl, ⟨q1, q2, q3⟩ | ⟨q1, q2, q3⟩⟩ | ⟨rfl, q1, q2⟩
        · refine .inl ⟨F', y3, rfl, rfl, .inl ⟨q1, ?_, ?_⟩⟩
          · rw [eu, q2]
            show some (z ++ F'.drop (F.length + z.length)) = _
            rw [q3, eF]
            simp
          · rw [q3, eF]
            simp
        · exact .inl ⟨F', y3, rfl, rfl, .inr ⟨q1, by rw [eu, q2]; rfl, q3⟩⟩
        · exact .inr ⟨rfl, q1, by rw [eu, q2]; rfl⟩
    cases hd : l.drop i with
    | nil =>
      have hi : ¬ i < l.length := by
        intro h
        have : (l.drop i).length = l.length - i := List.length_drop
        rw [hd, List.length_nil] at this
        omega
      refine ⟨_, _, whileL_stop ((test F i).trans (by rw [decide_eq_false (fun z => hi z.1)])), .inl ⟨F, _, rfl, rfl, .inl ⟨h1, ?_, ?_⟩⟩⟩
      · rw [List.drop_length]; rfl
      · rw [List.drop_length, List.append_nil]
    | cons x r =>
      obtain ⟨hx, hr, hi⟩ := drop_at hd
      have ex : evE O (.ix (.var 1) (.var 3)) [w0, some (tIs l), some (.loc S.length), some (.int (i : Int))] (S ++ [.lst (F.map D.int)]) = .ok (.int x) (S ++ [.lst (F.map D.int)]) := ix_at rfl (ev_var (i := 3) rfl) hx
      have tx := t_eqI2 ex (ev_glob (x := "MARK") (d := .int 254))
      rw [← hd]
      by_cases hm : x = 254
      case neg =>
        refine next (F ++ [x]) (i + 1) [x] rfl (Nat.le_refl _) (by simp) ?_ hi (by rw [hd, hr, un_plain x r _ hm]; rfl)
        unfold c_unsqueezed_in_b1
        rw [ss_nx (s_then (tx.trans (by rw [decide_eq_false hm]; rfl)) ((ss_nx (s_app (k := S.length) rfl ex at_end (by rw [List.length_map]; simp only [sz]; omega))).trans ((congrArg (fun s => exSs T.prg.sub O _ _ s) set_end).trans ((ss_nx (s_asg (plus (i := i) (v := 3) 1 1 rfl rfl) (by simp))).trans exSs_nil))))]
        rw [List.map_append]
        exact exSs_nil
      subst hm
      have t21 : evE O (.bop .Add (.var 3) (.cst (.int 1))) [w0, some (tIs l), some (.loc S.length), some (.int (i : Int))] (S ++ [.lst (F.map D.int)]) = .ok (.int ((i + 1 : Nat) : Int)) (S ++ [.lst (F.map D.int)]) := plus 1 1 rfl rfl
      have t22 : evE O (.bop .Add (.var 3) (.cst (.int 2))) [w0, some (tIs l), some (.loc S.length), some (.int (i : Int))] (S ++ [.lst (F.map D.int)]) = .ok (.int ((i + 2 : Nat) : Int)) (S ++ [.lst (F.map D.int)]) := plus 2 2 rfl rfl
      have tl := t_lt t22 (ev_lenT (ev_var (ρ := [w0, some (tIs l), some (.loc S.length), some (.int (i : Int))]) (i := 1) (d := tIs l) rfl))
      have nil_ : (∃ b : Bool, evT O (.and (.cmp .Lt (.bop .Add (.var 3) (.cst (.int 2))) (.bi .len (.cons (.var 1) .nil))) (.cmp .Gt (.ix (.var 1) (.bop .Add (.var 3) (.cst (.int 1)))) (.cst (.int 0)))) [w0, some (tIs l), some (.loc S.length), some (.int (i : Int))] (S ++ [.lst (F.map D.int)]) = .ok false (S ++ [.lst (F.map D.int)])) → un (l.drop i) F.length = none → ∃ out S', whileL (fun ρ1 S1 => evT O uTest ρ1 S1) (fun ρ1 S1 => exSs T.prg.sub O c_unsqueezed_in_b1 ρ1 S1) (f + 1) [w0, some (tIs l), some (.loc S.length), some (.int (i : Int))] (S ++ [.lst (F.map D.int)]) = .ok out S' ∧
          ((∃ F' y3, out = .nx [w0, some (tIs l), some (.loc S.length), y3] ∧ S' = S ++ [.lst (F'.map D.int)] ∧ ((F'.length ≤ 300 ∧ (un (l.drop i) F.length) = some (F'.drop F.length) ∧ F' = F ++ F'.drop F.length) ∨ (300 < F'.length ∧ un (l.drop i) F.length = none ∧ F'.length ≤ 1000))) ∨ (out = .rt .non ∧ (∃ ob, S' = S ++ [ob]) ∧ un (l.drop i) F.length = none)) := fun ⟨_, hf⟩ hu => by
        have bd : exSs T.prg.sub O c_unsqueezed_in_b1 [w0, some (tIs l), some (.loc S.length), some (.int (i : Int))] (S ++ [.lst (F.map D.int)]) = .ok (.rt .non) (S ++ [.lst (F.map D.int)]) := by
          unfold c_unsqueezed_in_b1
          exact ss_rt (s_else (tx.trans (by rw [decide_eq_true rfl]; rfl)) (ss_rt (s_else hf (s_ret (ev_cst (c := .non))))))
        refine ⟨.rt .non, S ++ [.lst (F.map D.int)], ?_, .inr ⟨rfl, ⟨_, rfl⟩, hu⟩⟩
        simp only [whileL, (test F i).trans (by rw [decide_eq_true ⟨hi, h1⟩]), bind_ok', if_true, bd, turn]
      by_cases h2' : r.length < 2
      · have lr : (l.drop i).length = l.length - i := List.length_drop
        rw [hd, List.length_cons] at lr
        exact nil_ ⟨true, t_andF (tl.trans (by rw [decide_eq_false (by omega)]))⟩ (by rw [hd]; exact un_short _ h2')
      rcases r with _ | ⟨m, _ | ⟨y, r⟩⟩
      · simp at h2'
      · simp at h2'
      obtain ⟨hm1, hr1, hi1⟩ := drop_at hr
      obtain ⟨hy1, hr2, hi2⟩ := drop_at hr1
      have om := o m (List.mem_of_getElem? hm1)
      have em := ix_at (O := O) (S := S ++ [.lst (F.map D.int)]) (ρ := [w0, some (tIs l), some (.loc S.length), some (.int (i : Int))]) (v := 1) rfl t21 hm1
      have ey := ix_at (O := O) (S := S ++ [.lst (F.map D.int)]) (ρ := [w0, some (tIs l), some (.loc S.length), some (.int (i : Int))]) (v := 1) rfl t22 hy1
      have tg := t_gt em (ev_cst (c := .int 0))
      have tl' := tl.trans (by rw [decide_eq_true (by omega)])
      by_cases hm0 : m ≤ 0
      · exact nil_ ⟨true, (t_andT tl').trans (tg.trans (by rw [decide_eq_false (by omega)]))⟩ (by rw [hd, un_mark, if_pos hm0])
      have lz : (List.replicate m.toNat y).length = m.toNat := List.length_replicate
      refine next (F ++ List.replicate m.toNat y) (i + 3) (List.replicate m.toNat y) rfl (by omega) (by omega) ?_ hi (by rw [hd, un_mark, if_neg hm0, lz, show l.drop (i + 3) = r from hr2])
      unfold c_unsqueezed_in_b1
      rw [ss_nx (s_else (tx.trans (by rw [decide_eq_true rfl]; rfl)) ((ss_nx (s_then ((t_andT tl').trans (tg.trans (by rw [decide_eq_true (by omega)]))) ((ss_nx (s_ext (k := S.length) (xs := F.map D.int) (ys := (List.replicate m.toNat y).map D.int) rfl (ev_bop (ev_tup1 ey) em (mul_int1 (by omega) (by omega))) rfl at_end (by rw [List.length_map, List.length_map, lz]; simp only [sz]; omega))).trans ((congrArg (fun s => exSs T.prg.sub O _ _ s) set_end).trans ((ss_nx (s_asg (plus (i := i) (v := 3) 3 3 rfl rfl) (by simp))).trans exSs_nil))))).trans exSs_nil))]
      rw [List.map_append]
      exact exSs_nil
end
end K09
set_option Elab.async false
set_option linter.all false
set_option maxRecDepth 100000
set_option maxHeartbeats 1000000
namespace K09
open PySem PySem.Spec PyProof.Rows L2 Gx
section
variable {W n : Nat} {S : Sto}
theorem leave_non {o : Ob} (h : shut S = true) : leave false S.length .non (S ++ [o]) = .ok .non S := leave_to h (by simp only [frz])
theorem unsqueezed_in (l : List Int) (o : octs l) (q : Int) (hq : q = 1 ∨ q = 2) (hl : l.length ≤ 20000) (hS : shut S = true) (hW : 400 ≤ W) (hn : 1 ≤ n) : C T.prg W n 8 [.int q, tIs l] S = .ok (if q = 1 then (if l.length ≤ 300 then tIs l else .non) else optU (un l 0)) S := by
  obtain ⟨n, rfl⟩ : ∃ m, n = m + 1 := ⟨n - 1, by omega⟩
  rw [call_eq (d := ⟨2, 4, false, c_unsqueezed_in⟩) rfl rfl]
  show ends false S.length (exSs T.prg.sub (Oc T.prg W n) c_unsqueezed_in [some (.int q), some (tIs l), none, none] S) = _
  unfold c_unsqueezed_in
  have t1 := t_eqI (O := Oc T.prg W n) (ρ := [some (.int q), some (tIs l), none, none]) (S := S) (S1 := S) (S2 := S) (i := q) (j := 1) (ev_var (i := 0) rfl) (ev_glob (x := "PLAIN") (d := .int 1))
  have t2 := t_le (O := Oc T.prg W n) (ρ := [some (.int q), some (tIs l), none, none]) (S := S) (S1 := S) (S2 := S) (i := (l.length : Int)) (j := 300) (ev_lenT (ev_var (i := 1) rfl)) (ev_glob (x := "PAYLOAD") (d := .int 300))
  by_cases h1 : q = 1
  · rw [if_pos h1]
    by_cases h3 : l.length ≤ 300
    · rw [if_pos h3, ss_rt (s_then (t1.trans (by rw [decide_eq_true h1])) (s_ret (d := tIs l) ((ev_ife (t2.trans (by rw [decide_eq_true (by omega)]))).trans ((if_pos rfl).trans (ev_var (i := 1) rfl)))))]
      exact ends_rt
    · rw [if_neg h3, ss_rt (s_then (t1.trans (by rw [decide_eq_true h1])) (s_ret (d := .non) ((ev_ife (t2.trans (by rw [decide_eq_false (by omega)]))).trans ((if_neg Bool.false_ne_true).trans (ev_cst (c := .non))))))]
      exact ends_rt
  rw [if_neg h1, ss_nx (s_skip (t1.trans (by rw [decide_eq_false h1]))), ss_nx (s_par2 (d := .loc S.length) (e := .int ((0 : Nat) : Int)) (S1 := S ++ [.lst (([] : List Int).map D.int)]) (evs_cons (ev_ml ef_disp0) (evs_cons (ev_cst (c := .int 0)) evs_nil)) (by simp) (by simp))]
  show ends false S.length (exSs T.prg.sub (Oc T.prg W n) _ [some (.int q), some (tIs l), some (.loc S.length), some (.int ((0 : Nat) : Int))] (S ++ [.lst (([] : List Int).map D.int)])) = _
  obtain ⟨out, S', e, hr⟩ := un_loop (S := S) (Oc T.prg W n) (some (.int q)) l o hl 301 0 W [] (by simp) (by simp) (by omega)
  have e2 : exS T.prg.sub (Oc T.prg W n) (.whl uTest c_unsqueezed_in_b1) [some (.int q), some (tIs l), some (.loc S.length), some (.int ((0 : Nat) : Int))] (S ++ [.lst (([] : List Int).map D.int)]) = .ok out S' := by
    simp only [exS]
    exact e
  unfold uTest at e2
  rw [List.drop_zero, List.length_nil] at hr
  have lF : ∀ (F : List Int) (y3 : Option D), evE (Oc T.prg W n) (.bi .len (.cons (.var 2) .nil)) [some (.int q), some (tIs l), some (.loc S.length), y3] (S ++ [.lst (F.map D.int)]) = .ok (.int F.length) (S ++ [.lst (F.map D.int)]) := fun F y3 => ev_bi1 (v := .loc S.length) (ev_var (i := 2) rfl) (by rw [der_end]; show some (D.int ((F.map D.int).length : Nat)) = _; rw [List.length_map])
  rcases hr with ⟨F', y3, rfl, rfl, ⟨q1, q2, q3⟩ | ⟨q1, q2, q3⟩⟩ | ⟨rfl, ⟨ob, rfl⟩, q2⟩
  · rw [ss_nx e2, q2, List.drop_zero]
    rw [s_ret (d := tIs F') ((ev_ife ((t_le (lF F' y3) (ev_glob (x := "PAYLOAD") (d := .int 300))).trans (by rw [decide_eq_true (by omega)]))).trans ((if_pos rfl).trans (ev_bi1 (v := .loc S.length) (d := tIs F') (ev_var (i := 2) rfl) (by rw [der_end]; rfl))))]
    exact leave_tI hS
  · rw [ss_nx e2, q2]
    rw [s_ret (d := .non) ((ev_ife ((t_le (lF F' y3) (ev_glob (x := "PAYLOAD") (d := .int 300))).trans (by rw [decide_eq_false (by omega)]))).trans ((if_neg Bool.false_ne_true).trans (ev_cst (c := .non))))]
    exact leave_non hS
  · rw [ss_rt e2, q2]
    exact leave_non hS
theorem unsqueezed (l : List Int) (o : octs l) (q : Int) (hq : q = 1 ∨ q = 2) (hl : l.length ≤ 20000) (hS : shut S = true) (hW : 400 ≤ W) (hn : 4 ≤ n) : C T.prg W n 11 [.int q, tIs l] S = .ok (if q = 1 then (if l.length ≤ 300 then tIs l else .non) else optU (un l 0)) S := by
  obtain ⟨n, rfl⟩ : ∃ m, n = m + 1 := ⟨n - 1, by omega⟩
  rw [call_eq (d := ⟨2, 2, false, c_unsqueezed⟩) rfl rfl]
  show ends false S.length (exSs T.prg.sub (Oc T.prg W n) c_unsqueezed [some (.int q), some (tIs l)] S) = _
  unfold c_unsqueezed
  rw [ss_nx (s_exp ((ev_call1 (ev_var (i := 0) rfl)).trans (need_squeeze q hq (by omega)))), ss_nx (s_exp ((ev_call1 (ev_var (i := 1) rfl)).trans (need_octets l o hl (by omega)))), s_ret ((ev_call2 (ev_var (i := 0) rfl) (ev_var (i := 1) rfl)).trans (unsqueezed_in l o q hq hl hS hW (by omega)))]
  exact ends_rt
theorem law_call (i : Nat) (q : Int) (l : List Int) (v : D) (hc : C T.prg W n i [.int q, tIs l] S = .ok v S) : C T.prg W (n + 1) 19 [.fn i, .int q, tIs l] S = .ok (.tup [.str "told", v]) S := by
  rw [call_eq (d := ⟨3, 3, false, c_law_call⟩) rfl rfl]
  have hc : (lv T.prg W n).call i [.int q, .tup (l.map D.int)] S = .ok v S := hc
  simp [c_law_call, tIs, ends, leave, exSs, exS, evE, evEs, Cst.d, hc, sz]
theorem same_told (v : D) (h : ∀ S, C T.prg W n 17 [v, v] S = .ok (.bl true) S) (hn : 1 ≤ n) : C T.prg W (n + 1) 17 [.tup [.str "told", v], .tup [.str "told", v]] S = .ok (.bl true) S :=
  law_same_tup _ (fun x hx S => by
    simp only [List.mem_cons, List.not_mem_nil, or_false] at hx
    rcases hx with rfl | rfl
    · exact law_same _ (.inr (.inr ⟨_, rfl⟩)) (by decide +kernel) hn
    · exact h S) (by simp) S
/-! ### the law's own -/
theorem back_loop (O : Orc) (l : List Int) (o : octs l) (hl : l.length ≤ 20000) : ∀ (k i f : Nat) (F : List Int), F.length ≤ 300 → 301 ≤ F.length + k → k < f →
    ∃ y, whileL (fun ρ1 S1 => evT O (.cmp .Lt (.var 2) (.bi .len (.cons (.var 0) .nil))) ρ1 S1) (fun ρ1 S1 => exSs T.prg.sub O c_law_back_b1 ρ1 S1) f [some (tIs l), some (tIs F), some (.int (i : Int))] S = .ok (match un (l.drop i) F.length with | some r => .nx [some (tIs l), some (tIs (F ++ r)), y] | none => .rt .non) S := by
  intro k
  induction k with
  | zero => intro i f F h1 h2; omega
  | succ k ih =>
    intro i f F h1 h2 hf
    obtain ⟨f, rfl⟩ : ∃ g, f = g + 1 := ⟨f - 1, by omega⟩
    have test := t_lt (O := O) (ρ := [some (tIs l), some (tIs F), some (.int (i : Int))]) (S := S) (i := (i : Int)) (j := (l.length : Int)) (ev_var (i := 2) rfl) (ev_lenT (ev_var (i := 0) rfl))
    cases hd : l.drop i with
    | nil =>
      have hi : ¬ i < l.length := by
        intro h
        have : (l.drop i).length = l.length - i := List.length_drop
        rw [hd, List.length_nil] at this
        omega
      refine ⟨some (.int (i : Int)), (whileL_stop (test.trans (by rw [decide_eq_false (by omega)]))).trans ?_⟩
      show _ = R.ok (Out.nx [some (tIs l), some (tIs (F ++ [])), _]) S
      rw [List.append_nil]
    | cons x r =>
      obtain ⟨hx, hr, hi⟩ := drop_at hd
      have test' := test.trans (by rw [decide_eq_true (by omega)])
      have ex : evE O (.ix (.var 0) (.var 2)) [some (tIs l), some (tIs F), some (.int (i : Int))] S = .ok (.int x) S := ix_at rfl (ev_var (i := 2) rfl) hx
      have tx := t_eqI2 ex (ev_cst (c := .int 254))
      have fin : ∀ (F1 : List Int) (i1 : Nat), F1.length ≤ 1000 → exSs T.prg.sub O (.cons (.ite (.cmp .Gt (.bi .len (.cons (.var 1) .nil)) (.cst (.int 300))) (.cons (.ret (.cst .non)) .nil) .nil) .nil) [some (tIs l), some (tIs F1), some (.int (i1 : Int))] S = .ok (if 300 < F1.length then .rt .non else .nx [some (tIs l), some (tIs F1), some (.int (i1 : Int))]) S := fun F1 i1 _ => by
        have tg := t_gt (O := O) (ρ := [some (tIs l), some (tIs F1), some (.int (i1 : Int))]) (S := S) (ev_lenT (l := F1) (ev_var (i := 1) rfl)) (ev_cst (c := .int 300))
        by_cases hb : 300 < F1.length
        · rw [if_pos hb, ss_rt (s_then (tg.trans (by rw [decide_eq_true (by omega)])) (s_ret (ev_cst (c := .non))))]
          rfl
        · rw [if_neg hb, ss_nx (s_skip (tg.trans (by rw [decide_eq_false (by omega)]))), exSs_nil]
      have next : ∀ (i1 : Nat) (z : List Int), 1 ≤ z.length → z.length ≤ 300 → exSs T.prg.sub O c_law_back_b1 [some (tIs l), some (tIs F), some (.int (i : Int))] S = .ok (if 300 < (F ++ z).length then .rt .non else .nx [some (tIs l), some (tIs (F ++ z)), some (.int (i1 : Int))]) S → un (x :: r) F.length = (if 300 < F.length + z.length then none else (un (l.drop i1) (F.length + z.length)).map (z ++ ·)) →
          ∃ y, whileL (fun ρ1 S1 => evT O (.cmp .Lt (.var 2) (.bi .len (.cons (.var 0) .nil))) ρ1 S1) (fun ρ1 S1 => exSs T.prg.sub O c_law_back_b1 ρ1 S1) (f + 1) [some (tIs l), some (tIs F), some (.int (i : Int))] S = .ok (match un (x :: r) F.length with | some r => .nx [some (tIs l), some (tIs (F ++ r)), y] | none => .rt .non) S := fun i1 z hz1 hz2 eb eu => by
        rw [List.length_append] at eb
        by_cases hb : 300 < F.length + z.length
        · rw [if_pos hb] at eb eu
          refine ⟨none, ?_⟩
          rw [eu]
          simp only [whileL, test', bind_ok', if_true, eb, turn]
        · rw [if_neg hb] at eb eu
          obtain ⟨y, e⟩ := ih i1 f (F ++ z) (by rw [List.length_append]; omega) (by rw [List.length_append]; omega) (by omega)
          rw [List.length_append] at e
          refine ⟨y, (whileL_step test' eb).trans (e.trans ?_)⟩
          rw [eu]
          cases un (l.drop i1) (F.length + z.length) with
          | none => rfl
          | some r2 =>
            show R.ok (Out.nx [some (tIs l), some (tIs (F ++ z ++ r2)), y]) S = R.ok (Out.nx [some (tIs l), some (tIs (F ++ (z ++ r2))), y]) S
            rw [List.append_assoc]
      by_cases hm : x = 254
      case neg =>
        refine next (i + 1) [x] (Nat.le_refl _) (by simp) ?_ (by rw [un_plain x r _ hm, hr]; rfl)
        unfold c_law_back_b1
        rw [ss_nx (s_then (tx.trans (by rw [decide_eq_false hm]; rfl)) ((ss_nx (s_par2 (d := tIs (F ++ [x])) (e := .int ((i + 1 : Nat) : Int)) (S1 := S) (evs_cons (ev_bop (va := tIs F) (vb := tIs [x]) (S1 := S) (ev_var (i := 1) rfl) (ev_tup1 ex) (add_ints (by rw [List.length_singleton]; simp only [sz]; omega))) (evs_cons (plus 1 1 rfl rfl) evs_nil)) (by simp) (by simp))).trans exSs_nil))]
        exact fin (F ++ [x]) (i + 1) (by rw [List.length_append, List.length_singleton]; omega)
      subst hm
      have t21 : evE O (.bop .Add (.var 2) (.cst (.int 1))) [some (tIs l), some (tIs F), some (.int (i : Int))] S = .ok (.int ((i + 1 : Nat) : Int)) S := plus 1 1 rfl rfl
      have t22 : evE O (.bop .Add (.var 2) (.cst (.int 2))) [some (tIs l), some (tIs F), some (.int (i : Int))] S = .ok (.int ((i + 2 : Nat) : Int)) S := plus 2 2 rfl rfl
      have tl := t_ge t22 (ev_lenT (ev_var (ρ := [some (tIs l), some (tIs F), some (.int (i : Int))]) (i := 0) (d := tIs l) rfl))
      have txt := tx.trans (show _ = R.ok false S by rw [decide_eq_true rfl]; rfl)
      have none_ : evT O (.or (.cmp .GtE (.bop .Add (.var 2) (.cst (.int 2))) (.bi .len (.cons (.var 0) .nil))) (.cmp .Eq (.ix (.var 0) (.bop .Add (.var 2) (.cst (.int 1)))) (.cst (.int 0)))) [some (tIs l), some (tIs F), some (.int (i : Int))] S = .ok true S → un (254 :: r) F.length = none → ∃ y, whileL (fun ρ1 S1 => evT O (.cmp .Lt (.var 2) (.bi .len (.cons (.var 0) .nil))) ρ1 S1) (fun ρ1 S1 => exSs T.prg.sub O c_law_back_b1 ρ1 S1) (f + 1) [some (tIs l), some (tIs F), some (.int (i : Int))] S = .ok (match un (254 :: r) F.length with | some r => .nx [some (tIs l), some (tIs (F ++ r)), y] | none => .rt .non) S := fun ht hu => by
        have bd : exSs T.prg.sub O c_law_back_b1 [some (tIs l), some (tIs F), some (.int (i : Int))] S = .ok (.rt .non) S := by
          unfold c_law_back_b1
          exact ss_rt (s_else txt (ss_rt (s_then ht (s_ret (ev_cst (c := .non))))))
        refine ⟨none, ?_⟩
        rw [hu]
        simp only [whileL, test', bind_ok', if_true, bd, turn]
      by_cases h2' : r.length < 2
      · have lr : (l.drop i).length = l.length - i := List.length_drop
        rw [hd, List.length_cons] at lr
        exact none_ (t_or_t (tl.trans (by rw [decide_eq_true (by omega)]))) (un_short _ h2')
      rcases r with _ | ⟨m, _ | ⟨y, r⟩⟩
      · simp at h2'
      · simp at h2'
      obtain ⟨hm1, hr1, hi1⟩ := drop_at hr
      obtain ⟨hy1, hr2, hi2⟩ := drop_at hr1
      have om := o m (List.mem_of_getElem? hm1)
      have em := ix_at (O := O) (S := S) (ρ := [some (tIs l), some (tIs F), some (.int (i : Int))]) (v := 0) rfl t21 hm1
      have ey := ix_at (O := O) (S := S) (ρ := [some (tIs l), some (tIs F), some (.int (i : Int))]) (v := 0) rfl t22 hy1
      have te := t_eqI em (ev_cst (c := .int 0))
      have tl' := tl.trans (show _ = R.ok false S by rw [decide_eq_false (by omega)])
      by_cases hm0 : m ≤ 0
      · exact none_ ((t_or tl').trans (te.trans (by rw [decide_eq_true (by omega)]))) (by rw [un_mark, if_pos hm0])
      have lz : (List.replicate m.toNat y).length = m.toNat := List.length_replicate
      refine next (i + 3) (List.replicate m.toNat y) (by omega) (by omega) ?_ (by rw [un_mark, if_neg hm0, lz, show l.drop (i + 3) = r from hr2])
      unfold c_law_back_b1
      rw [ss_nx (s_else txt ((ss_nx (s_else ((t_or tl').trans (te.trans (by rw [decide_eq_false (by omega)]))) ((ss_nx (s_par2 (d := tIs (F ++ List.replicate m.toNat y)) (e := .int ((i + 3 : Nat) : Int)) (S1 := S) (evs_cons (ev_bop (va := tIs F) (vb := tIs (List.replicate m.toNat y)) (S1 := S) (ev_var (i := 1) rfl) (ev_bop (ev_tup1 ey) em (mul_int1 (by omega) (by omega))) (add_ints (by rw [lz]; simp only [sz]; omega))) (evs_cons (plus 3 3 rfl rfl) evs_nil)) (by simp) (by simp))).trans exSs_nil))).trans exSs_nil))]
      exact fin (F ++ List.replicate m.toNat y) (i + 3) (by rw [List.length_append, lz]; omega)
theorem law_back (l : List Int) (o : octs l) (hl : l.length ≤ 20000) (hW : 400 ≤ W) (hn : 1 ≤ n) : C T.prg W n 18 [tIs l] S = .ok (optU (un l 0)) S := by
  obtain ⟨n, rfl⟩ : ∃ m, n = m + 1 := ⟨n - 1, by omega⟩
  rw [call_eq (d := ⟨1, 3, false, c_law_back⟩) rfl rfl]
  show ends false S.length (exSs T.prg.sub (Oc T.prg W n) c_law_back [some (tIs l), none, none] S) = _
  unfold c_law_back
  rw [ss_nx (s_asgt (S1 := S) (ev_tup2 (ev_tup evs_nil (by simp [sz])) (ev_cst (c := .int 0))) (tg2 (a := .tup []) (b := .int 0) (by simp) (by simp)))]
  obtain ⟨y, e⟩ := back_loop (S := S) (Oc T.prg W n) l o hl 301 0 W [] (by simp) (by simp) (by omega)
  rw [List.drop_zero, List.length_nil] at e
  have e2 : exS T.prg.sub (Oc T.prg W n) (.whl (.cmp .Lt (.var 2) (.bi .len (.cons (.var 0) .nil))) c_law_back_b1) [some (tIs l), some (.tup []), some (.int 0)] S = .ok (match un l 0 with | some r => .nx [some (tIs l), some (tIs ([] ++ r)), y] | none => .rt .non) S := by
    simp only [exS]
    exact e
  show ends false S.length (exSs T.prg.sub (Oc T.prg W n) _ [some (tIs l), some (.tup []), some (.int 0)] S) = _
  cases hu : un l 0 with
  | none =>
    rw [hu] at e2
    rw [ss_rt e2]
    exact ends_rt
  | some r =>
    rw [hu] at e2
    rw [ss_nx e2, s_ret (d := tIs r) (ev_var (i := 1) rfl)]
    exact ends_rt
end
end K09
set_option Elab.async false
set_option linter.all false
set_option maxRecDepth 100000
set_option maxHeartbeats 1000000
namespace K09
open PySem PySem.Spec PyProof.Rows L2 Gx
section
variable {W n : Nat} {S : Sto}
/-! ### the law's own squeezing -/
def iT : CT := .and (.cmp .Lt (.var 3) (.cst (.int 250))) (.and (.cmp .Lt (.bop .Add (.var 2) (.var 3)) (.bi .len (.cons (.var 0) .nil))) (.cmp .Eq (.ix (.var 0) (.bop .Add (.var 2) (.var 3))) (.ix (.var 0) (.var 2))))
theorem sum23 {O : Orc} {ρ : Gx.Env} {i m : Nat} (h2 : ρ[2]? = some (some (.int (i : Int)))) (h3 : ρ[3]? = some (some (.int (m : Int)))) : evE O (.bop .Add (.var 2) (.var 3)) ρ S = .ok (.int ((i + m : Nat) : Int)) S := ev_bop (op := .Add) (va := .int i) (vb := .int m) (S1 := S) (ev_var h2) (ev_var h3) (by show some (D.int ((i : Int) + (m : Int))) = _; rw [Int.natCast_add])
theorem in_loop (O : Orc) (l : List Int) (x : Int) (i : Nat) (hx : l[i]? = some x) (w1 : Option D) : ∀ (k m f : Nat), m ≤ 250 → 250 ≤ m + k → k < f →
    whileL (fun ρ1 S1 => evT O iT ρ1 S1) (fun ρ1 S1 => exSs T.prg.sub O c_law_squeezed_b1 ρ1 S1) f [some (tIs l), w1, some (.int (i : Int)), some (.int (m : Int))] S = .ok (.nx [some (tIs l), w1, some (.int (i : Int)), some (.int ((m + cnt x (250 - m) (l.drop (i + m)) : Nat) : Int))]) S := by
  intro k
  induction k with
  | zero =>
    intro m f h1 h2 hf
    obtain ⟨f, rfl⟩ : ∃ g, f = g + 1 := ⟨f - 1, by omega⟩
    have t1 := t_lt (O := O) (ρ := [some (tIs l), w1, some (.int (i : Int)), some (.int (m : Int))]) (S := S) (i := (m : Int)) (j := 250) (ev_var (i := 3) rfl) (ev_cst (c := .int 250))
    have : 250 - m = 0 := by omega
    rw [this]
    exact whileL_stop (t_andF (t1.trans (by rw [decide_eq_false (by omega)])))
  | succ k ih =>
    intro m f h1 h2 hf
    obtain ⟨f, rfl⟩ : ∃ g, f = g + 1 := ⟨f - 1, by omega⟩
    have t1 := t_lt (O := O) (ρ := [some (tIs l), w1, some (.int (i : Int)), some (.int (m : Int))]) (S := S) (i := (m : Int)) (j := 250) (ev_var (i := 3) rfl) (ev_cst (c := .int 250))
    by_cases hm : m < 250
    case neg =>
      have : 250 - m = 0 := by omega
      rw [this]
      exact whileL_stop (t_andF (t1.trans (by rw [decide_eq_false (by omega)])))
    have t1' := t1.trans (show _ = R.ok true S by rw [decide_eq_true (by omega)])
    have s23 : evE O (.bop .Add (.var 2) (.var 3)) [some (tIs l), w1, some (.int (i : Int)), some (.int (m : Int))] S = .ok (.int ((i + m : Nat) : Int)) S := sum23 rfl rfl
    have t2 := t_lt s23 (ev_lenT (ev_var (ρ := [some (tIs l), w1, some (.int (i : Int)), some (.int (m : Int))]) (i := 0) (d := tIs l) rfl))
    have e1 : 250 - m = (250 - (m + 1)) + 1 := by omega
    cases hd : l.drop (i + m) with
    | nil =>
      have hi : ¬ i + m < l.length := by
        intro h
        have : (l.drop (i + m)).length = l.length - (i + m) := List.length_drop
        rw [hd, List.length_nil] at this
        omega
      rw [e1]
      exact whileL_stop ((t_andT t1').trans (t_andF (t2.trans (by rw [decide_eq_false (by omega)]))))
    | cons y r =>
      obtain ⟨hy, hr, hi⟩ := drop_at hd
      have t2' := t2.trans (show _ = R.ok true S by rw [decide_eq_true (by omega)])
      have t3 := t_eqI (ix_at (O := O) (S := S) (ρ := [some (tIs l), w1, some (.int (i : Int)), some (.int (m : Int))]) (v := 0) rfl s23 hy) (ix_at (O := O) (S := S) (ρ := [some (tIs l), w1, some (.int (i : Int)), some (.int (m : Int))]) (v := 0) rfl (ev_var (i := 2) rfl) hx)
      rw [e1]
      by_cases hyx : y = x
      · have st : exSs T.prg.sub O c_law_squeezed_b1 [some (tIs l), w1, some (.int (i : Int)), some (.int (m : Int))] S = .ok (.nx [some (tIs l), w1, some (.int (i : Int)), some (.int ((m + 1 : Nat) : Int))]) S := by
          unfold c_law_squeezed_b1
          rw [ss_nx (s_asg (plus 1 1 rfl rfl) (by simp))]
          exact exSs_nil
        have go := ih (m + 1) f (by omega) (by omega) (by omega)
        have tt : evT O iT [some (tIs l), w1, some (.int (i : Int)), some (.int (m : Int))] S = .ok true S := (t_andT t1').trans ((t_andT t2').trans (t3.trans (by rw [decide_eq_true hyx])))
        rw [whileL_step tt st, go, show i + (m + 1) = i + m + 1 by omega, hr, hyx, cnt_hit, show m + 1 + cnt x (250 - (m + 1)) r = m + (cnt x (250 - (m + 1)) r + 1) by omega]
      · have : cnt x (250 - (m + 1) + 1) (y :: r) = 0 := by
          unfold cnt
          rw [if_neg hyx]
        rw [this]
        exact whileL_stop ((t_andT t1').trans ((t_andT t2').trans (t3.trans (by rw [decide_eq_false hyx]))))
theorem cut_run {l : List Int} {i m : Nat} {x : Int} {r : List Int} (hd : l.drop i = x :: r) (hm : m = 1 + cnt x 249 r) : cutI l (some (i : Int)) (some ((i + m : Nat) : Int)) = List.replicate m x := by
  obtain ⟨hx, hr, hi⟩ := drop_at hd
  have c := cnt_le x 249 r
  have lr : (l.drop i).length = l.length - i := List.length_drop
  rw [hd, List.length_cons] at lr
  have e1 : HT.sIx l.length 0 (some (i : Int)) = i := by
    show (if (i : Int) < 0 then ((i : Int) + l.length).toNat else min (i : Int).toNat l.length) = i
    rw [if_neg (by omega)]; omega
  have e2 : HT.sIx l.length l.length (some ((i + m : Nat) : Int)) = i + m := by
    show (if ((i + m : Nat) : Int) < 0 then (((i + m : Nat) : Int) + l.length).toNat else min ((i + m : Nat) : Int).toNat l.length) = i + m
    rw [if_neg (by omega)]; omega
  unfold cutI
  rw [e1, e2, hd, show i + m - i = m by omega, hm, Nat.add_comm, List.take_succ_cons, List.replicate_succ]
  have h := congrArg (List.take (cnt x 249 r)) (cnt_rep x 249 r)
  rw [List.take_left' (by rw [List.length_replicate])] at h
  rw [h]
theorem out_loop (O : Orc) (hW : 400 ≤ O.W) (l : List Int) (hl : l.length ≤ 300) : ∀ (k i f : Nat) (F : List Int) (x3 : Option D), l.length ≤ i + k → k < f → F.length + 3 * k ≤ 100000 →
    ∃ y2 y3, whileL (fun ρ1 S1 => evT O (.cmp .Lt (.var 2) (.bi .len (.cons (.var 0) .nil))) ρ1 S1) (fun ρ1 S1 => exSs T.prg.sub O c_law_squeezed_b2 ρ1 S1) f [some (tIs l), some (tIs F), some (.int (i : Int)), x3] S = .ok (.nx [some (tIs l), some (tIs (F ++ sqL (l.drop i))), y2, y3]) S := by
  intro k
  induction k with
  | zero =>
    intro i f F x3 h1 hf hF
    obtain ⟨f, rfl⟩ : ∃ g, f = g + 1 := ⟨f - 1, by omega⟩
    have test := t_lt (O := O) (ρ := [some (tIs l), some (tIs F), some (.int (i : Int)), x3]) (S := S) (i := (i : Int)) (j := (l.length : Int)) (ev_var (i := 2) rfl) (ev_lenT (ev_var (i := 0) rfl))
    refine ⟨some (.int (i : Int)), x3, (whileL_stop (test.trans (by rw [decide_eq_false (by omega)]))).trans ?_⟩
    rw [List.drop_of_length_le (by omega), sq_nil, List.append_nil]
  | succ k ih =>
    intro i f F x3 h1 hf hF
    obtain ⟨f, rfl⟩ : ∃ g, f = g + 1 := ⟨f - 1, by omega⟩
    have test := t_lt (O := O) (ρ := [some (tIs l), some (tIs F), some (.int (i : Int)), x3]) (S := S) (i := (i : Int)) (j := (l.length : Int)) (ev_var (i := 2) rfl) (ev_lenT (ev_var (i := 0) rfl))
    cases hd : l.drop i with
    | nil =>
      have hi : ¬ i < l.length := by
        intro h
        have : (l.drop i).length = l.length - i := List.length_drop
        rw [hd, List.length_nil] at this
        omega
      refine ⟨some (.int (i : Int)), x3, (whileL_stop (test.trans (by rw [decide_eq_false (by omega)]))).trans ?_⟩
      rw [sq_nil, List.append_nil]
    | cons x r =>
      obtain ⟨hx, hr, hi⟩ := drop_at hd
      have c := cnt_le x 249 r
      obtain ⟨m, hm⟩ : ∃ m, 1 + cnt x 249 r = m := ⟨_, rfl⟩
      have inn := in_loop (S := S) O l x i hx (some (tIs F)) 249 1 O.W (by omega) (by omega) (by omega)
      rw [hr, show (250 - 1 : Nat) = 249 from rfl, hm] at inn
      have inn2 : exS T.prg.sub O (.whl iT c_law_squeezed_b1) [some (tIs l), some (tIs F), some (.int (i : Int)), some (.int ((1 : Nat) : Int))] S = .ok (.nx [some (tIs l), some (tIs F), some (.int (i : Int)), some (.int (m : Int))]) S := by
        simp only [exS]
        exact inn
      unfold iT at inn2
      have rl := rn_len x m
      obtain ⟨y2, y3, e⟩ := ih (i + m) f (F ++ rnO x m) (some (.int (m : Int))) (by omega) (by omega) (by rw [List.length_append]; omega)
      have bd : exSs T.prg.sub O c_law_squeezed_b2 [some (tIs l), some (tIs F), some (.int (i : Int)), x3] S = .ok (.nx [some (tIs l), some (tIs (F ++ rnO x m)), some (.int ((i + m : Nat) : Int)), some (.int (m : Int))]) S := by
        unfold c_law_squeezed_b2
        rw [ss_nx (s_asg (d := .int ((1 : Nat) : Int)) (S1 := S) (ev_cst (c := .int 1)) (by simp))]
        show exSs T.prg.sub O _ [some (tIs l), some (tIs F), some (.int (i : Int)), some (.int ((1 : Nat) : Int))] S = _
        rw [ss_nx inn2]
        have ex : evE O (.ix (.var 0) (.var 2)) [some (tIs l), some (tIs F), some (.int (i : Int)), some (.int (m : Int))] S = .ok (.int x) S := ix_at rfl (ev_var (i := 2) rfl) hx
        have t1 := t_gt (O := O) (ρ := [some (tIs l), some (tIs F), some (.int (i : Int)), some (.int (m : Int))]) (S := S) (i := (m : Int)) (j := 3) (ev_var (i := 3) rfl) (ev_cst (c := .int 3))
        have t2 := t_eqI ex (ev_cst (c := .int 254))
        have tt : evT O (.or (.cmp .Gt (.var 3) (.cst (.int 3))) (.cmp .Eq (.ix (.var 0) (.var 2)) (.cst (.int 254)))) [some (tIs l), some (tIs F), some (.int (i : Int)), some (.int (m : Int))] S = .ok (decide (4 ≤ m ∨ x = 254)) S := by
          by_cases h4 : 4 ≤ m
          · rw [decide_eq_true (.inl h4)]
            exact t_or_t (t1.trans (by rw [decide_eq_true (by omega)]))
          · refine (t_or (t1.trans (by rw [decide_eq_false (by omega)]))).trans (t2.trans ?_)
            by_cases hx' : x = 254
            · rw [decide_eq_true hx', decide_eq_true (.inr hx')]
            · rw [decide_eq_false hx', decide_eq_false (by omega)]
        have piece : evE O (.ife (.or (.cmp .Gt (.var 3) (.cst (.int 3))) (.cmp .Eq (.ix (.var 0) (.var 2)) (.cst (.int 254)))) (.tup (.cons (.cst (.int 254)) (.cons (.var 3) (.cons (.ix (.var 0) (.var 2)) .nil)))) (.sl (.var 0) (.som (.var 2)) (.som (.bop .Add (.var 2) (.var 3))))) [some (tIs l), some (tIs F), some (.int (i : Int)), some (.int (m : Int))] S = .ok (tIs (rnO x m)) S := by
          rw [ev_ife tt]
          unfold rnO
          by_cases c4 : 4 ≤ m ∨ x = 254
          · rw [if_pos c4, decide_eq_true c4, if_pos rfl]
            exact ev_tup (evs_cons (ev_cst (c := .int 254)) (evs_cons (ev_var (i := 3) rfl) (evs_cons ex evs_nil))) (by simp [sz])
          · rw [if_neg c4, decide_eq_false c4, if_neg Bool.false_ne_true]
            exact (ev_slI (j := 0) rfl (ev_o (ev_var (i := 2) rfl)) (ev_o (sum23 rfl rfl))).trans (by rw [cut_run hd hm.symm])
        rw [ss_nx (s_asg (d := tIs (F ++ rnO x m)) (S1 := S) (ev_bop (va := tIs F) (vb := tIs (rnO x m)) (S1 := S) (ev_var (i := 1) rfl) piece (add_ints (by simp only [sz]; omega))) (by simp))]
        show exSs T.prg.sub O _ [some (tIs l), some (tIs (F ++ rnO x m)), some (.int (i : Int)), some (.int (m : Int))] S = _
        rw [ss_nx (s_asg (sum23 (i := i) (m := m) rfl rfl) (by simp))]
        exact exSs_nil
      refine ⟨y2, y3, (whileL_step (test.trans (by rw [decide_eq_true (by omega)])) bd).trans (e.trans ?_)⟩
      rw [sq_cons, hm, List.append_assoc, ← List.drop_drop, hd, show m = cnt x 249 r + 1 by omega, List.drop_succ_cons]
theorem law_squeezed (l : List Int) (hl : l.length ≤ 300) (hW : 400 ≤ W) (hn : 1 ≤ n) : C T.prg W n 16 [tIs l] S = .ok (tIs (sqL l)) S := by
  obtain ⟨n, rfl⟩ : ∃ m, n = m + 1 := ⟨n - 1, by omega⟩
  rw [call_eq (d := ⟨1, 4, false, c_law_squeezed⟩) rfl rfl]
  show ends false S.length (exSs T.prg.sub (Oc T.prg W n) c_law_squeezed [some (tIs l), none, none, none] S) = _
  unfold c_law_squeezed
  rw [ss_nx (s_asgt (S1 := S) (ev_tup2 (ev_tup evs_nil (by simp [sz])) (ev_cst (c := .int 0))) (tg2 (a := .tup []) (b := .int 0) (by simp) (by simp)))]
  obtain ⟨y2, y3, e⟩ := out_loop (S := S) (Oc T.prg W n) hW l hl 300 0 W [] none (by omega) (by omega) (by simp)
  rw [List.drop_zero, List.nil_append] at e
  have e2 : exS T.prg.sub (Oc T.prg W n) (.whl (.cmp .Lt (.var 2) (.bi .len (.cons (.var 0) .nil))) c_law_squeezed_b2) [some (tIs l), some (.tup []), some (.int 0), none] S = .ok (.nx [some (tIs l), some (tIs (sqL l)), y2, y3]) S := by
    simp only [exS]
    exact e
  show ends false S.length (exSs T.prg.sub (Oc T.prg W n) _ [some (tIs l), some (.tup []), some (.int 0), none] S) = _
  rw [ss_nx e2, s_ret (ev_var (i := 1) rfl)]
  exact ends_rt
theorem wp_forN {f : D → Gx.Env → Sto → Gx.R Out} (I : Nat → Gx.Env → Sto → Prop) (M : Nat) : ∀ (l : List D) (m : Nat) (ρ : Gx.Env) (S : Sto), m + l.length = M → I m ρ S → (∀ d ∈ l, ∀ m ρ S, m < M → I m ρ S → Wp (f d ρ S) fun o S' => ∃ ρ', o = .nx ρ' ∧ I (m + 1) ρ' S') → ∀ {Q : Out → Sto → Prop}, (∀ ρ' S', I M ρ' S' → Q (.nx ρ') S') → Wp (forL f l ρ S) Q
  | [], m, ρ, S, e, i, _, Q, q => ⟨.nx ρ, S, rfl, q ρ S (by rw [← e]; exact i)⟩
  | d :: r, m, ρ, S, e, i, h, Q, q => by
    rw [List.length_cons] at e
    obtain ⟨o, S1, e1, ρ1, rfl, i1⟩ := h d (by simp) m ρ S (by omega) i
    rw [forL_cons e1 rfl]
    exact wp_forN I M r (m + 1) ρ1 S1 (by omega) i1 (fun d' hd => h d' (List.mem_cons_of_mem _ hd)) q
/-! ### drawn octets with runs -/
theorem ev_bi2 {O : Orc} {ρ : Gx.Env} {a c : CE} {S1 S2 : Sto} {b : Bi} {v w d : D} (h : evE O a ρ S = .ok v S1) (h2 : evE O c ρ S1 = .ok w S2) (hd : biD b [der S2 v, der S2 w] = some d) : evE O (.bi b (.cons a (.cons c .nil))) ρ S = .ok d S2 := by
  simp only [evE, evEs, h, h2, bind_ok', List.map_cons, List.map_nil, hd, opt_some']
theorem dr_b1 (hS : cupOk S) (hn : 4 ≤ n) (F : List Int) (oF : octs F) (lF : F.length ≤ 10000) (x2 x3 : Option D) : Wp (exSs T.prg.sub (Oc T.prg W n) c_law_drawn_b1 [some (.loc 0), some (tIs F), x2, x3] S) fun o S' => (∃ z y3, o = .nx [some (.loc 0), some (tIs (F ++ z)), x2, y3] ∧ octs z ∧ z.length ≤ 300) ∧ cupOk S' := by
  unfold c_law_drawn_b1
  obtain ⟨d1, S1, e1, m1, c1⟩ := law_some (W := W) (n := n) hS [.int 1, .int 2, .int 3, .int 4, .int 5, .int 249, .int 250, .int 251, .int 300] (by simp) (by simp) (by omega)
  obtain ⟨m, rfl, m0, m300⟩ : ∃ m : Int, d1 = .int m ∧ 0 ≤ m ∧ m ≤ 300 := by
    simp only [List.mem_cons, List.not_mem_nil, or_false] at m1
    rcases m1 with z | z | z | z | z | z | z | z | z <;> exact ⟨_, z, by omega, by omega⟩
  refine wp_asg (by simp) ⟨.int m, S1, (ev_call2 (ev_var (i := 0) rfl) (ev_disp (evs_cons (ev_cst (c := .int 1)) (evs_cons (ev_cst (c := .int 2)) (evs_cons (ev_cst (c := .int 3)) (evs_cons (ev_cst (c := .int 4)) (evs_cons (ev_cst (c := .int 5)) (evs_cons (ev_cst (c := .int 249)) (evs_cons (ev_cst (c := .int 250)) (evs_cons (ev_cst (c := .int 251)) (evs_cons (ev_cst (c := .int 300)) evs_nil))))))))) (by simp [sz]))).trans e1, ?_⟩
  show Wp (exSs T.prg.sub (Oc T.prg W n) _ [some (.loc 0), some (tIs F), x2, some (.int m)] S1) _
  obtain ⟨d2, S2, e2, m2, c2⟩ := law_some (W := W) (n := n) c1 [.int 0, .int 9, .int 254] (by simp) (by simp) (by omega)
  obtain ⟨v, rfl, v0, v1⟩ : ∃ v : Int, d2 = .int v ∧ 0 ≤ v ∧ v ≤ 255 := by
    simp only [List.mem_cons, List.not_mem_nil, or_false] at m2
    rcases m2 with z | z | z <;> exact ⟨_, z, by omega, by omega⟩
  obtain ⟨q, hq, q0, q9⟩ : ∃ q : Int, biD .min2 [D.int m, D.int 9] = some (.int q) ∧ 0 ≤ q ∧ q ≤ 9 := by
    refine ⟨if 9 < m then 9 else m, rfl, ?_, ?_⟩ <;> split <;> omega
  obtain ⟨d3, S3, e3, ⟨b, rfl, ob, lb⟩, c3⟩ := law_bytes (W := W) (n := n) c2 q q0 (by omega) (by omega)
  have k1 : bopD .Mult (.tup [.int 254, .int 7]) (.int 3) = some (tIs [254, 7, 254, 7, 254, 7]) := by rfl
  have k2 : bopD .Mult (.tup [.int 7, .int 254]) (.int 3) = some (tIs [7, 254, 7, 254, 7, 254]) := by rfl
  obtain ⟨d4, S4, e4, m4, c4⟩ := law_some (W := W) (n := n) c3 [tIs (List.replicate m.toNat v), tIs b, tIs [254, 7, 254, 7, 254, 7], tIs [7, 254, 7, 254, 7, 254]] (by simp) (by simp) (by omega)
  have o6 : octs [254, 7, 254, 7, 254, 7] := fun i hi => by
    simp only [List.mem_cons, List.not_mem_nil, or_false] at hi
    omega
  have o7 : octs [7, 254, 7, 254, 7, 254] := fun i hi => by
    simp only [List.mem_cons, List.not_mem_nil, or_false] at hi
    omega
  obtain ⟨z, rfl, oz, lz⟩ : ∃ z : List Int, d4 = tIs z ∧ octs z ∧ z.length ≤ 300 := by
    simp only [List.mem_cons, List.not_mem_nil, or_false] at m4
    rcases m4 with h | h | h | h
    · exact ⟨_, h, fun i hi => by rw [(List.mem_replicate.mp hi).2]; exact ⟨v0, v1⟩, by rw [List.length_replicate]; omega⟩
    · exact ⟨_, h, ob, by omega⟩
    · exact ⟨_, h, o6, by simp⟩
    · exact ⟨_, h, o7, by simp⟩
  have emn : evE (Oc T.prg W n) (.bi .min2 (.cons (.var 3) (.cons (.cst (.int 9)) .nil))) [some (.loc 0), some (tIs F), x2, some (.int m)] S2 = .ok (.int q) S2 := ev_bi2 (v := .int m) (w := .int 9) (S1 := S2) (ev_var (i := 3) rfl) (ev_cst (c := .int 9)) hq
  refine wp_asg (by simp) ⟨tIs (F ++ z), S4, ev_bop (va := tIs F) (vb := tIs z) (S1 := S1) (ev_var (i := 1) rfl) ((ev_call2 (ev_var (i := 0) rfl) (ev_disp (evs_cons (ev_bop (va := .tup [.int v]) (vb := .int m) (S1 := S2) (ev_tup1 ((ev_call2 (ev_var (i := 0) rfl) (ev_disp (evs_cons (ev_cst (c := .int 0)) (evs_cons (ev_cst (c := .int 9)) (evs_cons (ev_cst (c := .int 254)) evs_nil))) (by simp [sz]))).trans e2)) (ev_var (i := 3) rfl) (mul_int1 m0 (by omega))) (evs_cons ((ev_call2 (ev_var (i := 0) rfl) emn).trans e3) (evs_cons (ev_bop (ev_tup2 (ev_cst (c := .int 254)) (ev_cst (c := .int 7))) (ev_cst (c := .int 3)) k1) (evs_cons (ev_bop (ev_tup2 (ev_cst (c := .int 7)) (ev_cst (c := .int 254))) (ev_cst (c := .int 3)) k2) evs_nil)))) (by simp [sz]))).trans e4) (add_ints (by simp only [sz]; omega)), ?_⟩
  exact wp_nil ⟨⟨z, _, rfl, oz, lz⟩, c4⟩
theorem law_drawn (hS : cupOk S) (hn : 5 ≤ n) : Wp (C T.prg W n 20 [.loc 0] S) fun d S' => (∃ l : List Int, d = tIs l ∧ octs l ∧ l.length ≤ 300) ∧ cupOk S' := by
  obtain ⟨n, rfl⟩ : ∃ m, n = m + 1 := ⟨n - 1, by omega⟩
  refine wp_call (d := ⟨1, 4, false, c_law_drawn⟩) rfl rfl ?_
  show Wp (exSs T.prg.sub (Oc T.prg W n) c_law_drawn [some (.loc 0), none, none, none] S) _
  unfold c_law_drawn
  refine wp_asg (by simp) ⟨tIs [], S, ev_tup evs_nil (by simp [sz]), ?_⟩
  obtain ⟨d1, S1, e1, ⟨t, rfl, t0, t1⟩, c1⟩ := law_roll (W := W) (n := n) hS 6 (by omega) (by omega) (by omega)
  have et : t = ((t.toNat : Nat) : Int) := by omega
  refine wp_for (l := rngD 0 t) (S1 := S1) (ei_rng1 ((ev_call2 (ev_var (i := 0) rfl) (ev_cst (c := .int 6))).trans e1) (by rw [et]; exact small_nat (by omega)))
    (wp_forN (fun m ρ S => (∃ F y2 y3, ρ = [some (.loc 0), some (tIs F), y2, y3] ∧ octs F ∧ F.length ≤ 300 * m) ∧ cupOk S) t.toNat (rngD 0 t) 0 _ S1 (by rw [rngD_len]; omega) ⟨⟨[], none, none, rfl, (fun i hi => by cases hi), by simp⟩, c1⟩ (fun d hd m ρ S hm ⟨⟨F, y2, y3, er, oF, lF⟩, cS⟩ => ?_) fun ρ2 S2 ⟨⟨F, y2, y3, er, oF, lF⟩, c2⟩ => ⟨ρ2, rfl, ?_⟩)
  · subst er
    obtain ⟨o, S', eb, ⟨z, w3, eo, oz, lz⟩, c'⟩ := dr_b1 (W := W) (n := n) cS (by omega) F oF (by omega) (some d) y3
    refine ⟨o, S', ?_, _, eo, ⟨F ++ z, _, _, rfl, octs_app oF oz, by rw [List.length_append]; omega⟩, c'⟩
    rw [tg_nm (by simp)]
    exact eb
  subst er
  refine wp_eq (a := .rt (tIs (F.take 300))) (S := S2) (s_ret ((ev_slI (j := 1) (l := F) rfl evo_non (ev_o (ev_cst (c := .int 300)))).trans (by rw [show cutI F none (some 300) = F.take 300 from cut_take F 300]))) (wp_ends (by rw [cup1 c2, cup1 hS]; exact Nat.le_refl _) ⟨⟨F.take 300, rfl, fun i hi => oF i (List.mem_of_mem_take hi), by rw [List.length_take]; omega⟩, c2⟩)
end
end K09
set_option Elab.async false
set_option linter.all false
set_option maxRecDepth 100000
set_option maxHeartbeats 1000000
namespace K09
open PySem PySem.Spec PyProof.Rows L2 Gx
section
theorem tail_t (u v : Int) (x0 x2 x3 x4 x5 x6 x7 x8 x9 : Option D) : okT (exSs T.prg.sub (Oc T.prg 400 11) (cdrop 2 c_law) [x0, some (.loc 0), x2, x3, x4, x5, x6, x7, x8, x9] [.lst [.int u, .int v]]) = true := by
  kernel_rfl
variable {S : Sto}
theorem oc_C {W n f : Nat} {as : List D} {S : Sto} : (Oc T.prg W n).call f as S = C T.prg W n f as S := rfl
theorem told_same {e1 e2 : CE} {ρ : Gx.Env} {i : Nat} {q : Int} {l : List Int} {v : D} {x : Str} (h1 : evE (Oc T.prg 400 11) e1 ρ S = .ok (tIs l) S) (h2 : evE (Oc T.prg 400 11) e2 ρ S = .ok v S) (hc : C T.prg 400 10 i [.int q, tIs l] S = .ok v S) (hs : ∀ S, C T.prg 400 10 17 [v, v] S = .ok (.bl true) S) :
    evE (Oc T.prg 400 11) (.call 17 "_law_same" (.cons (.call 19 "_law_call" (.cons (.glob x (.fn i)) (.cons (.cst (.int q)) (.cons e1 .nil)))) (.cons (.tup (.cons (.cst (.str "told")) (.cons e2 .nil))) .nil))) ρ S = .ok (.bl true) S :=
  (ev_call2 ((ev_callN3 ev_glob (ev_cst (c := .int q)) h1).trans (oc_C.trans (law_call (n := 10) i q l v hc))) (ev_tup2 (ev_cst (c := .str "told")) h2)).trans (oc_C.trans (same_told (W := 400) (n := 10) v hs (by omega) (S := S)))
theorem same_non (S : Sto) : C T.prg 400 10 17 [.non, .non] S = .ok (.bl true) S := law_same _ (.inl rfl) rfl (by omega)
theorem same_opt (o : Option (List Int)) (h : ∀ l, o = some l → l.length ≤ 16777216) (S : Sto) : C T.prg 400 10 17 [optU o, optU o] S = .ok (.bl true) S := by
  cases o with
  | none => exact same_non S
  | some l => exact law_same_ints l (h l rfl) (by omega) S
theorem un_len : ∀ (k : Nat) (l : List Int) (h : Nat) (r : List Int), l.length ≤ k → h ≤ 300 → un l h = some r → h + r.length ≤ 300
  | _, [], h, r, _, hh, e => by cases e; simpa using hh
  | 0, x :: l, h, r, hk, _, _ => by simp at hk
  | k + 1, x :: l, h, r, hk, hh, e => by
    simp only [List.length_cons] at hk
    by_cases hx : x = 254
    · subst hx
      by_cases h2 : l.length < 2
      · rw [un_short h h2] at e
        cases e
      rcases l with _ | ⟨m, _ | ⟨y, l⟩⟩
      · simp at h2
      · simp at h2
      rw [un_mark] at e
      split at e
      · cases e
      · split at e
        · cases e
        · next hm =>
          cases hu : un l (h + m.toNat) with
          | none => rw [hu] at e; cases e
          | some q =>
            rw [hu] at e
            cases e
            have := un_len k l (h + m.toNat) q (by simp only [List.length_cons] at hk; omega) (by omega) hu
            rw [List.length_append, List.length_replicate]
            omega
    · rw [un_plain x l h hx] at e
      split at e
      · cases e
      · next hb =>
        cases hu : un l (h + 1) with
        | none => rw [hu] at e; cases e
        | some q =>
          rw [hu] at e
          cases e
          have := un_len k l (h + 1) q (by omega) (by omega) hu
          rw [List.length_cons]
          omega
theorem body (hS : cupOk S) (x0 x2 x3 x4 x5 x6 x7 x8 x9 : Option D) :
    Wp (exSs T.prg.sub (Oc T.prg 400 11) c_law_b3 [x0, some (.loc 0), x2, x3, x4, x5, x6, x7, x8, x9] S) fun o S' => (∃ y5 y6 y7 y8 y9, o = .nx [x0, some (.loc 0), x2, x3, x4, y5, y6, y7, y8, y9]) ∧ cupOk S' := by
  unfold c_law_b3
  obtain ⟨d1, S1, e1, ⟨l, rfl, ol, ll⟩, c1⟩ := law_drawn (W := 400) (n := 11) hS (by omega)
  refine wp_asg (by simp) ⟨tIs l, S1, (ev_call1 (ev_var (i := 1) rfl)).trans (oc_C.trans e1), ?_⟩
  show Wp (exSs T.prg.sub (Oc T.prg 400 11) _ [x0, some (.loc 0), x2, x3, x4, some (tIs l), x6, x7, x8, x9] S1) _
  have sh := shut_cup c1
  have os := sq_octs l.length l (Nat.le_refl _) ol
  have ls := (sq_len l.length l (Nat.le_refl _)).1
  have us := un_sq l.length l 0 (Nat.le_refl _) (by omega)
  have q1 := squeezed (W := 400) (n := 10) (S := S1) l 2 (.inr rfl) ol ll sh (by omega)
  have q2 := unsqueezed (W := 400) (n := 10) (S := S1) (sqL l) os 2 (.inr rfl) (by omega) sh (by omega) (by omega)
  have q3 := squeezed (W := 400) (n := 10) (S := S1) l 1 (.inl rfl) ol ll sh (by omega)
  have q4 := unsqueezed (W := 400) (n := 10) (S := S1) l ol 1 (.inl rfl) (by omega) sh (by omega) (by omega)
  rw [if_neg (by decide)] at q1 q2
  rw [if_pos rfl] at q3 q4
  rw [if_pos ll] at q4
  rw [us] at q2
  have sl : ∀ S, C T.prg 400 10 17 [tIs l, tIs l] S = .ok (.bl true) S := law_same_ints l (by omega) (by omega)
  have law1 := law_squeezed (W := 400) (n := 11) (S := S1) l ll (by omega) (by omega)
  obtain ⟨t, ht⟩ : ∃ t, sqL l = t := ⟨_, rfl⟩
  rw [ht] at q1 q2 os ls law1
  have st : ∀ S, C T.prg 400 10 17 [tIs t, tIs t] S = .ok (.bl true) S := law_same_ints t (by omega) (by omega)
  refine wp_asg (by simp) ⟨tIs t, S1, (ev_call1 (ev_var (i := 5) rfl)).trans (oc_C.trans law1), ?_⟩
  show Wp (exSs T.prg.sub (Oc T.prg 400 11) _ [x0, some (.loc 0), x2, x3, x4, some (tIs l), some (tIs t), x7, x8, x9] S1) _
  refine wp_ss (S1 := S1) (s_skip ((t_or (t_ntru (told_same (ev_var (i := 5) rfl) (ev_var (i := 6) rfl) q1 st))).trans (t_ntru (told_same (ev_var (i := 6) rfl) (ev_var (i := 5) rfl) q2 sl)))) ?_
  refine wp_ss (S1 := S1) (s_skip ((t_or (t_ntru (told_same (ev_var (i := 5) rfl) (ev_var (i := 5) rfl) q3 sl))).trans (t_ntru (told_same (ev_var (i := 5) rfl) (ev_var (i := 5) rfl) q4 sl)))) ?_
  refine wp_ss (S1 := S1) (s_skip ((t_gt (i := (t.length : Int)) (j := 2 * (l.length : Int) + 1) (ev_lenT (ev_var (i := 6) rfl)) (ev_bop (op := .Add) (va := .int (2 * (l.length : Int))) (vb := .int 1) (S1 := S1) (ev_bop (op := .Mult) (va := .int 2) (vb := .int l.length) (S1 := S1) (ev_cst (c := .int 2)) (ev_lenT (ev_var (i := 5) rfl)) (by simp only [bopD]; rw [if_pos (by simp [mulOk])])) (ev_cst (c := .int 1)) rfl)).trans (by rw [decide_eq_false (by omega)]))) ?_
  obtain ⟨d2, S2, e2, ⟨i, rfl, i0, i1⟩, c2⟩ := law_roll (W := 400) (n := 11) c1 ((t.length : Int) + 1) (by omega) (by omega) (by omega)
  obtain ⟨i, rfl⟩ : ∃ j : Nat, i = j := ⟨i.toNat, by omega⟩
  refine wp_asg (by simp) ⟨.int i, S2, (ev_call2 (ev_var (i := 1) rfl) (ev_bop (op := .Add) (va := .int t.length) (vb := .int 1) (S1 := S1) (ev_lenT (ev_var (i := 6) rfl)) (ev_cst (c := .int 1)) rfl)).trans (oc_C.trans e2), ?_⟩
  show Wp (exSs T.prg.sub (Oc T.prg 400 11) _ [x0, some (.loc 0), x2, x3, x4, some (tIs l), some (tIs t), some (.int i), x8, x9] S2) _
  obtain ⟨d3, S3, e3, m3, c3⟩ := law_some (W := 400) (n := 11) c2 [.int 0, .int 1, .int 2, .int 250, .int 251, .int 254, .int 255] (by simp) (by simp) (by omega)
  obtain ⟨v, rfl, v0, v1⟩ : ∃ v : Int, d3 = .int v ∧ 0 ≤ v ∧ v ≤ 255 := by
    simp only [List.mem_cons, List.not_mem_nil, or_false] at m3
    rcases m3 with z | z | z | z | z | z | z <;> exact ⟨_, z, by omega, by omega⟩
  refine wp_asg (by simp) ⟨.int v, S3, (ev_call2 (ev_var (i := 1) rfl) (ev_disp (evs_cons (ev_cst (c := .int 0)) (evs_cons (ev_cst (c := .int 1)) (evs_cons (ev_cst (c := .int 2)) (evs_cons (ev_cst (c := .int 250)) (evs_cons (ev_cst (c := .int 251)) (evs_cons (ev_cst (c := .int 254)) (evs_cons (ev_cst (c := .int 255)) evs_nil))))))) (by simp [sz]))).trans (oc_C.trans e3), ?_⟩
  show Wp (exSs T.prg.sub (Oc T.prg 400 11) _ [x0, some (.loc 0), x2, x3, x4, some (tIs l), some (tIs t), some (.int i), some (.int v), x9] S3) _
  have il : i ≤ t.length := by omega
  have ot : ∀ j, octs (t.take j) := fun j z hz => os z (List.mem_of_mem_take hz)
  have odr : ∀ a b, octs (cutI t a b) := fun a b => octs_cut os
  have ov : octs [v] := fun z hz => by rw [List.mem_singleton.mp hz]; exact ⟨v0, v1⟩
  have lc : ∀ a b, (cutI t a b).length ≤ t.length := fun a b => len_cut
  have ltk : (t.take i).length ≤ t.length := by rw [List.length_take]; omega
  obtain ⟨c1', hc1⟩ : ∃ c, cutI t (some ((i + 1 : Nat) : Int)) none = c := ⟨_, rfl⟩
  obtain ⟨c0', hc0⟩ : ∃ c, cutI t (some (i : Int)) none = c := ⟨_, rfl⟩
  have o1 : octs c1' := by rw [← hc1]; exact odr _ _
  have o0 : octs c0' := by rw [← hc0]; exact odr _ _
  have l1 : c1'.length ≤ t.length := by rw [← hc1]; exact lc _ _
  have l0 : c0'.length ≤ t.length := by rw [← hc0]; exact lc _ _
  obtain ⟨d4, S4, e4, m4, c4⟩ := law_some (W := 400) (n := 11) c3 [tIs (t.take i), tIs (t.take i ++ [v] ++ c1'), tIs (t.take i ++ [v] ++ c0'), tIs (t.take i ++ c1')] (by simp) (by simp) (by omega)
  obtain ⟨w, rfl, ow, lw⟩ : ∃ w : List Int, d4 = tIs w ∧ octs w ∧ w.length ≤ 2000 := by
    simp only [List.mem_cons, List.not_mem_nil, or_false] at m4
    rcases m4 with z | z | z | z
    · exact ⟨_, z, ot i, by omega⟩
    · exact ⟨_, z, octs_app (octs_app (ot i) ov) o1, by simp only [List.length_append, List.length_singleton]; omega⟩
    · exact ⟨_, z, octs_app (octs_app (ot i) ov) o0, by simp only [List.length_append, List.length_singleton]; omega⟩
    · exact ⟨_, z, octs_app (ot i) o1, by simp only [List.length_append]; omega⟩
  have sa : evE (Oc T.prg 400 11) (.sl (.var 6) .non (.som (.var 7))) [x0, some (.loc 0), x2, x3, x4, some (tIs l), some (tIs t), some (.int i), some (.int v), x9] S3 = .ok (tIs (t.take i)) S3 := (ev_slI (j := 6) rfl evo_non (ev_o (ev_var (i := 7) rfl))).trans (by rw [cut_take])
  have sb : evE (Oc T.prg 400 11) (.sl (.var 6) (.som (.bop .Add (.var 7) (.cst (.int 1)))) .non) [x0, some (.loc 0), x2, x3, x4, some (tIs l), some (tIs t), some (.int i), some (.int v), x9] S3 = .ok (tIs c1') S3 := (ev_slI (j := 6) rfl (ev_o (plus 1 1 rfl rfl)) evo_non).trans (by rw [hc1])
  have sc : evE (Oc T.prg 400 11) (.sl (.var 6) (.som (.var 7)) .non) [x0, some (.loc 0), x2, x3, x4, some (tIs l), some (tIs t), some (.int i), some (.int v), x9] S3 = .ok (tIs c0') S3 := (ev_slI (j := 6) rfl (ev_o (ev_var (i := 7) rfl)) evo_non).trans (by rw [hc0])
  have sv : evE (Oc T.prg 400 11) (.bop .Add (.sl (.var 6) .non (.som (.var 7))) (.tup (.cons (.var 8) .nil))) [x0, some (.loc 0), x2, x3, x4, some (tIs l), some (tIs t), some (.int i), some (.int v), x9] S3 = .ok (tIs (t.take i ++ [v])) S3 := ev_bop (va := tIs (t.take i)) (vb := tIs [v]) (S1 := S3) sa (ev_tup1 (ev_var (i := 8) rfl)) (add_ints (by rw [List.length_singleton]; simp only [sz]; omega))
  have lv1 : (t.take i ++ [v]).length ≤ t.length + 1 := by rw [List.length_append, List.length_singleton]; omega
  refine wp_asg (by simp) ⟨tIs w, S4, (ev_call2 (ev_var (i := 1) rfl) (ev_disp (evs_cons sa (evs_cons (ev_bop sv sb (add_ints (by simp only [sz]; omega))) (evs_cons (ev_bop sv sc (add_ints (by simp only [sz]; omega))) (evs_cons (ev_bop sa sb (add_ints (by simp only [sz]; omega))) evs_nil)))) (by simp [sz]))).trans (oc_C.trans e4), ?_⟩
  show Wp (exSs T.prg.sub (Oc T.prg 400 11) _ [x0, some (.loc 0), x2, x3, x4, some (tIs l), some (tIs t), some (.int i), some (.int v), some (tIs w)] S4) _
  have q5 := unsqueezed (W := 400) (n := 10) (S := S4) w ow 2 (.inr rfl) (by omega) (shut_cup c4) (by omega) (by omega)
  rw [if_neg (by decide)] at q5
  have bk := law_back (W := 400) (n := 11) (S := S4) w ow (by omega) (by omega) (by omega)
  refine wp_ss (S1 := S4) (s_skip (t_ntru (told_same (ev_var (i := 9) rfl) ((ev_call1 (ev_var (i := 9) rfl)).trans (oc_C.trans bk)) q5 (same_opt _ fun r hr => by have := un_len w.length w 0 r (Nat.le_refl _) (by omega) hr; omega)))) ?_
  exact wp_nil ⟨⟨_, _, _, _, _, rfl⟩, c4⟩
theorem law_main (ns : List Int) (h : ns.length ≤ 63) : ∃ S', C T.prg 400 (11 + 1) 21 [.scr (ns.map D.int)] [] = .ok (.bl true) S' := by
  rw [call_eq (d := ⟨1, 10, false, c_law⟩) rfl rfl]
  suffices hh : Wp (exSs T.prg.sub (Oc T.prg 400 11) c_law [some (.scr (ns.map D.int)), none, none, none, none, none, none, none, none, none] []) fun o _ => o = .rt (.bl true) by
    obtain ⟨o, S', e, rfl⟩ := hh
    obtain ⟨S'', e2⟩ := ends_top true S'
    refine ⟨S'', ?_⟩
    rw [← e2]
    exact congrArg (ends false 0) e
  unfold c_law
  obtain ⟨d1, S1, e1, rfl, c1⟩ := law_cup (W := 400) (n := 11) ns h (by omega)
  refine wp_asg (by simp) ⟨.loc 0, S1, (ev_call1 (ev_var rfl)).trans e1, ?_⟩
  refine wp_for (l := rngD 0 3) (S1 := S1) (ei_rng1 (ev_cst (c := .int 3)) rfl) (wp_forL (fun ρ S => (∃ y0 y2 y3 y4 y5 y6 y7 y8 y9, ρ = [y0, some (.loc 0), y2, y3, y4, y5, y6, y7, y8, y9]) ∧ cupOk S) ⟨⟨_, _, _, _, _, _, _, _, _, rfl⟩, c1⟩ (fun d hd ρ S ⟨⟨y0, y2, y3, y4, y5, y6, y7, y8, y9, e⟩, cS⟩ => ?_) fun ρ2 S2 ⟨⟨x0, x2, x3, x4, x5, x6, x7, x8, x9, e⟩, c2⟩ => ⟨ρ2, rfl, ?_⟩)
  · subst e
    obtain ⟨o, S', eb, ⟨z5, z6, z7, z8, z9, eo⟩, c'⟩ := body cS y0 (some d) y3 y4 y5 y6 y7 y8 y9
    refine ⟨o, S', ?_, _, eo, ⟨_, _, _, _, _, _, _, _, _, rfl⟩, c'⟩
    rw [tg_nm (by simp)]
    exact eb
  subst e
  obtain ⟨u, v, rfl, _⟩ := c2
  exact wp_okT (tail_t u v _ _ _ _ _ _ _ _ _)
end
end K09
set_option Elab.async false
set_option linter.all false
set_option maxRecDepth 100000
set_option maxHeartbeats 4000000
namespace K09
open PySem PySem.Spec PyProof.Rows L2 Gx
/-! ### the law -/
theorem row_holds : PySem.W.OpenLaw.Holds RowL := by
  w_on; o_law
  refine HandSHeadRun.head_any (r := R) (q := PySem.W.view PR [35]) (H := hk) (ob := ob) (M := 9000) (loose := loose) (d := HandSHeadRun.topDef PR 35) (kwd := []) ob_eq
    (by kernel_rfl) (fun s => by kernel_rfl) hrun (by kernel_rfl) (by kernel_rfl) (by kernel_rfl) (by rfl) (by first | assumption | decide +kernel) (by decide +kernel) ⟨rfl, rfl, rfl, rfl, rfl, by decide +kernel⟩ ?hw ?hc
  case hw => w_witness2
  case hc =>
    refine LamX.walk_ofTsE (l := RowL) (n := 63) (k := lvK 12) (x := "script") (CX := fun w => L2.CX PR w) rfl (by decide) (by kernel_rfl) ⟨rfl, by decide, by decide⟩ ?F (fun w H s e s' z => by
      obtain ⟨_, _, _, _, _, _, _, _, _, _, _, _, q⟩ := z
      exact q)
    intro w mg fa h Y G hmg0
    obtain ⟨K, KX, c⟩ := Y
    refine ⟨K, KX, law_at (T := T) (P := PR) (m := 11) (i := 21) (Wn := 400) rfl chk rfl KX G c (hf := rfl) rfl hmg0 fun ns hns => law_main ns hns⟩
end K09
theorem PySem.Challenge.cw_shellgate_k09_squeezes_of_runs_holds : PySem.Challenge.rw_shellgate_k09_squeezes_of_runs.Holds :=
  K09.row_holds
