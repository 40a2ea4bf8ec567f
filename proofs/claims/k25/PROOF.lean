import PyProof.Rows.All
import Wide.All
import OpenK.AllK
import Wide.FinOn
import HandS.Base
import PyProof.ReprRoads
import HandS.Call
import HandS.List
import HandS.TupAny
import HandS.TupMul
import HandS.Exc
import HandS.Lambda
import HandS.Words
import HandS.Wide
import HandS.IsInst
import HandS.Flow
import HandS.Deep
import HandS.TupLe
import HandS.Style
import PyProof.ListMulRoad
import PyProof.FactsAll.tuple_2
import HandS.Comp
import HandS.Iter
import HandS.Zip
import KE.GoesMore
import KE.KDictZip
import HandS.GenList
import HandS.Keys
import HandS.TryMany
import HandS.ExcOwn
import HandS.Defaults
import HandS.Head0
import HandS.Head1
import HandS.Head2
import HandS.HeadEnd
import HandS.HeadHook1
import HandS.HeadHook2
import HandS.HeadHook3
import HandS.HeadHook4
import HandS.HeadWalk
import HandS.EndTab
import PyProof.Rows.StrJoinMade
import PyProof.FitsInt
import PySem.Challenge.RW_shellgate_k25_whole_outcomes
set_option Elab.async false
set_option linter.all false
/-! Gx: a total evaluator for the sublanguage: pure values, a store of mutable objects. -/
namespace Gx
open PySem

inductive D where
  | non | bl (b : Bool) | int (i : Int) | str (x : Str)
  | tup (xs : List D) | lst (xs : List D) | scr (xs : List D)
  | loc (k : Nat) | fn (f : Nat) | ty (n : String)
inductive Ob where
  | lst (xs : List D)
abbrev Sto := List Ob
abbrev Env := List (Option D)
/-- a result: a value and the store behind it; an error (class, its told value); no claim -/
inductive R (α : Type) where
  | ok (a : α) (S : Sto) | exc (c : Str) (p : Option D) (S : Sto) | stuck
def R.bind {α β : Type} (r : R α) (k : α → Sto → R β) : R β := match r with
  | .ok a S => k a S
  | .exc c p S => .exc c p S
  | .stuck => .stuck
/-- an option as a result -/
def opt {α : Type} (o : Option α) (S : Sto) : R α := match o with
  | some a => .ok a S
  | none => .stuck
/-- a list object read as its list -/
def der (S : Sto) : D → D
  | .loc k => match S[k]? with
    | some (.lst xs) => .lst xs
    | none => .loc k
  | d => d
/-! ### data -/
mutual
def toPy : D → Option PyData
  | .non => some .none
  | .bl b => some (.bool b)
  | .int i => some (.int i)
  | .str x => some (.str x)
  | .tup xs => (toPyL xs).map .tuple
  | .lst xs => (toPyL xs).map .list
  | _ => none
def toPyL : List D → Option (List PyData)
  | [] => some []
  | x :: xs => match toPy x, toPyL xs with
    | some a, some b => some (a :: b)
    | _, _ => none
end
def eqP (x y : D) : Option Bool := match toPy x, toPy y with
  | some a, some b => if SeqAt.shaped a && SeqAt.shaped b then some (PyData.eqv a b) else none
  | _, _ => none
def eqD (x y : D) : Option Bool := match x, y with
  | .str a, .str b => some (a == b)
  | x, y => eqP x y
theorem eqD_cases {x y : D} {k : Bool} (h : eqD x y = some k) : (∃ a b, x = .str a ∧ y = .str b ∧ k = (a == b)) ∨ eqP x y = some k := by
  unfold eqD at h
  split at h
  · cases h
    exact .inl ⟨_, _, rfl, rfl, rfl⟩
  · exact .inr h
def flat : D → Bool
  | .non => true | .bl _ => true | .int _ => true | .str _ => true
  | _ => false
def toV : D → L2.V
  | .bl b => .bl b
  | .int i => .int i
  | .str x => .str x
  | _ => .non
def isD : D → D → Option Bool
  | .non, .non => some true
  | _, .non => some false
  | .bl a, .bl b => some (decide (a = b))
  | _, _ => none
def sz : Nat := 16777216
def mulOk (i j : Int) : Bool := (decide (-18446744073709551616 < i) && decide (i < 18446744073709551616)) || (decide (-18446744073709551616 < j) && decide (j < 18446744073709551616))
def powOk (i j : Int) : Bool := decide (0 ≤ j) && decide (j ≤ 1000000) && decide (i.natAbs < 18446744073709551616)
def repT (xs : List D) (k : Int) : List D := (List.replicate k.toNat xs).flatten
def bopD (op : Operator) (x y : D) : Option D := match op, x, y with
  | .Add, .int i, .int j => some (.int (i + j))
  | .Add, .str a, .str b => if a.length + b.length ≤ sz then some (.str (a ++ b)) else none
  | .Add, .tup a, .tup b => if a.length + b.length ≤ sz then some (.tup (a ++ b)) else none
  | .Sub, .int i, .int j => some (.int (i - j))
  | .Mult, .int i, .int j => if mulOk i j then some (.int (i * j)) else none
  | .Mult, .tup a, .int k => if a.length * k.toNat ≤ sz ∧ -9223372036854775808 ≤ k ∧ k < 9223372036854775808 then some (.tup (repT a k)) else none
  | .FloorDiv, .int i, .int j => if 0 < j ∧ j < 2 ^ 256 then some (.int (i / j)) else none
  | .Mod, .int i, .int j => if 0 < j then some (.int (i % j)) else none
  | .Pow, .int i, .int j => if powOk i j then some (.int (i ^ j.toNat)) else none
  | .LShift, .int i, .int j => if powOk i j then some (.int (i * 2 ^ j.toNat)) else none
  | .RShift, .int i, .int j => if 0 ≤ j then some (.int (i / 2 ^ j.toNat)) else none
  | .BitAnd, .int i, .int j => some (.int (Builtin.bitAnd i j))
  | .BitXor, .int i, .int j => some (.int (Builtin.bitXor i j))
  | _, _, _ => none
/-- a list made by an operator -/
def lopD (op : Operator) (x y : D) : Option (List D) := match op, x, y with
  | .Add, .lst a, .lst b => if a.length + b.length ≤ sz then some (a ++ b) else none
  | .Mult, .lst a, .int k => if a.length * k.toNat ≤ sz ∧ -9223372036854775808 ≤ k ∧ k < 9223372036854775808 then some (repT a k) else none
  | _, _, _ => none
def inD (x : D) (ys : List D) : Option Bool := if flat x && ys.all flat then some (L2.inV (toV x) (ys.map toV)) else
  match toPy x, toPyL ys with
  | some a, some b => if SeqAt.shaped a && SeqAt.shaped (.list b) then some (b.any fun z => PyData.eqv z a) else none
  | _, _ => none
def cmpD (op : CmpOp) (x y : D) : Option Bool := match op with
  | .Eq => eqD x y
  | .NotEq => (eqD x y).map (!·)
  | .Is => isD x y
  | .IsNot => (isD x y).map (!·)
  | .In => match y with
    | .tup ys => inD x ys
    | .lst ys => inD x ys
    | _ => none
  | .NotIn => match y with
    | .tup ys => (inD x ys).map (!·)
    | .lst ys => (inD x ys).map (!·)
    | _ => none
  | .Lt => match x, y with | .int i, .int j => some (decide (i < j)) | _, _ => none
  | .LtE => match x, y with | .int i, .int j => some (decide (i ≤ j)) | _, _ => none
  | .Gt => match x, y with | .int i, .int j => some (decide (j < i)) | _, _ => none
  | .GtE => match x, y with | .int i, .int j => some (decide (j ≤ i)) | _, _ => none
def truD : D → Option Bool
  | .non => some false
  | .bl b => some b
  | .int i => some (i != 0)
  | .tup xs => some (!xs.isEmpty)
  | .lst xs => some (!xs.isEmpty)
  | _ => none
def ixD (x i : D) : Option D := match x, i with
  | .tup xs, .int i => L2.atI xs i
  | .lst xs, .int i => L2.atI xs i
  | .scr xs, .int i => L2.atI xs i
  | _, _ => none
def cutD (xs : List D) (lo hi : Option Int) : List D := (xs.drop (HT.sIx xs.length 0 lo)).take (HT.sIx xs.length xs.length hi - HT.sIx xs.length 0 lo)
/-- built-ins of values -/
inductive Bi where
  | len | tuple | all | any | abs | int | max2 | min2 | sum | repr
  deriving DecidableEq
def blsD : List D → Option (List Bool)
  | [] => some []
  | .bl b :: r => (blsD r).map (b :: ·)
  | _ => none
def intsD : List D → Option (List Int)
  | [] => some []
  | .int b :: r => (intsD r).map (b :: ·)
  | _ => none
/-- the text of a value, as repr tells it -/
def shownD (p : PyData) : Option D := if SeqAt.shaped p && PyData.showable p && !PyData.hasDict p && decide ((PyData.shown p).length ≤ sz) then some (.str (PyData.shown p)) else none
def biD (b : Bi) (as : List D) : Option D := match b, as with
  | .len, [.tup xs] => some (.int xs.length)
  | .len, [.lst xs] => some (.int xs.length)
  | .len, [.scr xs] => some (.int xs.length)
  | .len, [.str x] => if x.length ≤ sz then some (.int x.length) else none
  | .tuple, [.tup xs] => some (.tup xs)
  | .tuple, [.lst xs] => some (.tup xs)
  | .all, [.lst xs] => (blsD xs).map fun l => .bl (l.all id)
  | .any, [.lst xs] => (blsD xs).map fun l => .bl (l.any id)
  | .abs, [.int i] => some (.int (if i < 0 then -i else i))
  | .int, [.int i] => some (.int i)
  | .int, [.bl k] => some (.int (if k then 1 else 0))
  | .max2, [.int i, .int j] => some (.int (if j > i then j else i))
  | .min2, [.int i, .int j] => some (.int (if j < i then j else i))
  | .sum, [.lst xs] => (intsD xs).map fun l => .int l.sum
  | .repr, [d] => (toPy d).bind shownD
  | _, _ => none
/-- built-in types asked by isinstance -/
inductive Ty where
  | int | bool | str | tuple | list
  deriving DecidableEq
def isiD (d : D) : List Ty → Option Bool
  | ts => match d with
    | .non => some false
    | .bl _ => some (ts.any fun t => t == .bool || t == .int)
    | .int _ => some (ts.any (· == .int))
    | .str _ => some (ts.any (· == .str))
    | .tup _ => some (ts.any (· == .tuple))
    | .lst _ => some (ts.any (· == .list))
    | _ => none
/-! ### core terms -/
inductive Cst where
  | non | bl (b : Bool) | int (i : Int) | str (x : Str)
  deriving DecidableEq
def Cst.d : Cst → D
  | .non => .non | .bl b => .bl b | .int i => .int i | .str x => .str x
mutual
inductive CE where
  | var (i : Nat) | cst (c : Cst) | glob (x : Str) (d : D)
  | bop (op : Operator) (a b : CE) | neg (a : CE) | notV (a : CE)
  | cmp (op : CmpOp) (a b : CE) | chain (o1 o2 : CmpOp) (a b c : CE)
  | andV (a b : CE) | orV (a b : CE) | ife (t : CT) (a b : CE)
  | tup (es : CEs) | fl (f : CF) | ml (f : CF)
  | ix (a b : CE) | sl (a : CE) (lo hi : CO) | rev (a : CE)
  | call (f : Nat) (x : Str) (es : CEs) | callv (i : Nat) (es : CEs) | lam (g : Nat) (x : Str) (b : CE)
  | bi (b : Bi) (es : CEs) | isi (a : CE) (ts : List Ty)
inductive CEs where
  | nil | cons (a : CE) (r : CEs)
inductive CO where
  | non | som (a : CE)
inductive CT where
  | cmp (op : CmpOp) (a b : CE) | chain (o1 o2 : CmpOp) (a b c : CE)
  | not (t : CT) | and (t u : CT) | or (t u : CT) | tru (a : CE)
inductive CTo where
  | non | som (t : CT)
inductive CF where
  | disp (es : CEs) | comp (own : List Nat) (tg : CTg) (it : CI) (t : CTo) (e : CE)
  | op (o : Operator) (a b : CE) | ofs (a : CE) | sl (a : CE) (lo hi : CO) | zips (a b : CE)
inductive CI where
  | seq (a : CE) | rng1 (a : CE) | rng2 (a b : CE) | zip (a b : CE) | enum (a : CE)
inductive CTg where
  | nm (i : Nat) | tp (ts : CTgs) | sub (a b : CE)
inductive CTgs where
  | nil | cons (t : CTg) (r : CTgs)
end
/-- what an except clause hands back -/
inductive HE where
  | cst (c : Cst) | tup (es : List HE) | fld
structure Hd where
  cls : Str
  as_ : Option Nat
  ret : HE
mutual
inductive CS where
  | asg (tg : CTg) (e : CE) | par (is : List Nat) (es : CEs) | asgc (m : Bool) (i : Nat) (f : CF)
  | exp (e : CE) | ret (e : CE) | retN | ite (t : CT) (a b : CSs)
  | forS (tg : CTg) (it : CI) (b : CSs) | whl (t : CT) (b : CSs) | brk | cnt | pass
  | rse (c : Str) | tryE (isRet : Bool) (e : CE) (hs : List Hd)
  | app (i : Nat) (e : CE) | ext (i : Nat) (e : CE)
inductive CSs where
  | nil | cons (s : CS) (r : CSs)
end
/-! ### evaluation -/
inductive Out where
  | nx (ρ : Env) | bk (ρ : Env) | ct (ρ : Env) | rt (d : D)
structure Orc where
  call : Nat → List D → Sto → R D
  lam : Nat → (Sto → R D) → Sto → R D
  W : Nat
/-- the items of a thing that is walked -/
inductive Its where
  | items (l : List D) | at_ (k : Nat)
def rngD (lo hi : Int) : List D := (List.range (hi - lo).toNat).map fun (i : Nat) => D.int (lo + (i : Int))
def smallI (i : Int) : Bool := decide (-4611686018427387904 ≤ i) && decide (i < 4611686018427387904)
def seqD : D → Option Its
  | .tup xs => some (.items xs)
  | .lst xs => some (.items xs)
  | .scr xs => some (.items xs)
  | .loc k => some (.at_ k)
  | _ => none
def seqL : D → Option (List D)
  | .tup xs => some xs
  | .lst xs => some xs
  | .scr xs => some xs
  | _ => none
def extL : D → Option (List D)
  | .lst xs => some xs
  | .tup xs => some xs
  | _ => none
def pairsD (as bs : List D) : List D := (as.zip bs).map fun p => .tup [p.1, p.2]
def enumD : Nat → List D → List D
  | _, [] => []
  | n, x :: r => .tup [.int (n : Int), x] :: enumD (n + 1) r
/-- what a loop's turn leaves: go on, or an end -/
def turn (o : Out) (S : Sto) (k : Env → Sto → R Out) : R Out := match o with
  | .nx ρ => k ρ S
  | .ct ρ => k ρ S
  | .bk ρ => .ok (.nx ρ) S
  | .rt d => .ok (.rt d) S
def forL (f : D → Env → Sto → R Out) : List D → Env → Sto → R Out
  | [], ρ, S => .ok (.nx ρ) S
  | d :: r, ρ, S => (f d ρ S).bind fun o S1 => turn o S1 (forL f r)
def forAt (f : D → Env → Sto → R Out) (k : Nat) : Nat → Nat → Env → Sto → R Out
  | 0, _, _, _ => .stuck
  | n + 1, i, ρ, S => match S[k]? with
    | some (.lst xs) => match xs[i]? with
      | some d => (f d ρ S).bind fun o S1 => turn o S1 (forAt f k n (i + 1))
      | none => .ok (.nx ρ) S
    | none => .stuck
def whileL (t : Env → Sto → R Bool) (f : Env → Sto → R Out) : Nat → Env → Sto → R Out
  | 0, _, _ => .stuck
  | n + 1, ρ, S => (t ρ S).bind fun b S1 => if b then (f ρ S1).bind fun o S2 => turn o S2 (whileL t f n) else .ok (.nx ρ) S1
/-- a comprehension: no error leaves it -/
def noX {α : Type} : R α → R α
  | .exc _ _ _ => .stuck
  | r => r
def compL (f : D → Sto → R (Option D)) : List D → Sto → R (List D)
  | [], S => .ok [] S
  | d :: r, S => (f d S).bind fun o S1 => (compL f r S1).bind fun ys S2 => .ok (match o with | some y => y :: ys | none => ys) S2
/-- the same over a list object as it stands at each turn -/
def compK (f : D → Sto → R (Option D)) (k : Nat) : Nat → Nat → Sto → R (List D)
  | 0, _, _ => .stuck
  | n + 1, i, S => match S[k]? with
    | some (.lst xs) => match xs[i]? with
      | some d => (f d S).bind fun o S1 => (compK f k n (i + 1) S1).bind fun ys S2 => .ok (match o with | some y => y :: ys | none => ys) S2
      | none => .ok [] S
    | none => .stuck
def wipeE (ρ : Env) : List Nat → Env
  | [] => ρ
  | i :: r => (wipeE ρ r).set i none
def valO : Option Int → D := fun o => match o with | some i => .int i | none => .non
def cntT : CTgs → Nat
  | .nil => 0
  | .cons _ r => cntT r + 1
mutual
def evE (O : Orc) : CE → Env → Sto → R D
  | .var i, ρ, S => match ρ[i]? with
    | some (some d) => .ok d S
    | _ => .stuck
  | .cst c, _, S => .ok c.d S
  | .glob _ d, _, S => .ok d S
  | .bop op a b, ρ, S => (evE O a ρ S).bind fun x S1 => (evE O b ρ S1).bind fun y S2 => opt (bopD op x y) S2
  | .neg a, ρ, S => (evE O a ρ S).bind fun x S1 => match x with
    | .int i => .ok (.int (-i)) S1
    | _ => .stuck
  | .notV a, ρ, S => (evE O a ρ S).bind fun x S1 => opt ((truD (der S1 x)).map fun b => .bl (!b)) S1
  | .cmp op a b, ρ, S => (evE O a ρ S).bind fun x S1 => (evE O b ρ S1).bind fun y S2 => opt ((cmpD op (der S2 x) (der S2 y)).map .bl) S2
  | .chain o1 o2 a b c, ρ, S => (evE O a ρ S).bind fun x S1 => (evE O b ρ S1).bind fun y S2 => (opt (cmpD o1 (der S2 x) (der S2 y)) S2).bind fun k S3 =>
      if k then (evE O c ρ S3).bind fun z S4 => opt ((cmpD o2 (der S4 y) (der S4 z)).map .bl) S4 else .ok (.bl false) S3
  | .andV a b, ρ, S => (evE O a ρ S).bind fun x S1 => (opt (truD (der S1 x)) S1).bind fun k S2 => if k then evE O b ρ S2 else .ok x S2
  | .orV a b, ρ, S => (evE O a ρ S).bind fun x S1 => (opt (truD (der S1 x)) S1).bind fun k S2 => if k then .ok x S2 else evE O b ρ S2
  | .ife t a b, ρ, S => (evT O t ρ S).bind fun k S1 => if k then evE O a ρ S1 else evE O b ρ S1
  | .tup es, ρ, S => (evEs O es ρ S).bind fun xs S1 => if xs.length ≤ sz then .ok (.tup xs) S1 else .stuck
  | .fl f, ρ, S => (evF O f ρ S).bind fun xs S1 => .ok (.lst xs) S1
  | .ml f, ρ, S => (evF O f ρ S).bind fun xs S1 => .ok (.loc S1.length) (S1 ++ [.lst xs])
  | .ix a b, ρ, S => (evE O a ρ S).bind fun x S1 => (evE O b ρ S1).bind fun y S2 => opt (ixD (der S2 x) y) S2
  | .sl a lo hi, ρ, S => (evE O a ρ S).bind fun x S1 => (evO O lo ρ S1).bind fun l S2 => (evO O hi ρ S2).bind fun h S3 => match x with
    | .tup xs => .ok (.tup (cutD xs l h)) S3
    | _ => .stuck
  | .rev a, ρ, S => (evE O a ρ S).bind fun x S1 => match x with
    | .tup xs => .ok (.tup xs.reverse) S1
    | _ => .stuck
  | .call f _ es, ρ, S => (evEs O es ρ S).bind fun xs S1 => O.call f xs S1
  | .callv i es, ρ, S => match ρ[i]? with
    | some (some (.fn f)) => (evEs O es ρ S).bind fun xs S1 => O.call f xs S1
    | _ => .stuck
  | .lam g _ b, ρ, S => O.lam g (fun S1 => evE O b ρ S1) S
  | .bi b es, ρ, S => (evEs O es ρ S).bind fun xs S1 => opt (biD b (xs.map (der S1))) S1
  | .isi a ts, ρ, S => (evE O a ρ S).bind fun x S1 => opt ((isiD (der S1 x) ts).map .bl) S1
def evEs (O : Orc) : CEs → Env → Sto → R (List D)
  | .nil, _, S => .ok [] S
  | .cons a r, ρ, S => (evE O a ρ S).bind fun x S1 => (evEs O r ρ S1).bind fun xs S2 => .ok (x :: xs) S2
def evO (O : Orc) : CO → Env → Sto → R (Option Int)
  | .non, _, S => .ok none S
  | .som a, ρ, S => (evE O a ρ S).bind fun x S1 => match x with
    | .int i => .ok (some i) S1
    | _ => .stuck
def evT (O : Orc) : CT → Env → Sto → R Bool
  | .cmp op a b, ρ, S => (evE O a ρ S).bind fun x S1 => (evE O b ρ S1).bind fun y S2 => opt (cmpD op (der S2 x) (der S2 y)) S2
  | .chain o1 o2 a b c, ρ, S => (evE O a ρ S).bind fun x S1 => (evE O b ρ S1).bind fun y S2 => (opt (cmpD o1 (der S2 x) (der S2 y)) S2).bind fun k S3 =>
      if k then (evE O c ρ S3).bind fun z S4 => opt (cmpD o2 (der S4 y) (der S4 z)) S4 else .ok false S3
  | .not t, ρ, S => (evT O t ρ S).bind fun k S1 => .ok (!k) S1
  | .and t u, ρ, S => (evT O t ρ S).bind fun k S1 => if k then evT O u ρ S1 else .ok false S1
  | .or t u, ρ, S => (evT O t ρ S).bind fun k S1 => if k then .ok true S1 else evT O u ρ S1
  | .tru a, ρ, S => (evE O a ρ S).bind fun x S1 => opt (truD (der S1 x)) S1
def evTo (O : Orc) : CTo → Env → Sto → R Bool
  | .non, _, S => .ok true S
  | .som t, ρ, S => evT O t ρ S
def evF (O : Orc) : CF → Env → Sto → R (List D)
  | .disp es, ρ, S => (evEs O es ρ S).bind fun xs S1 => if xs.length ≤ sz then .ok xs S1 else .stuck
  | .comp own tg it t e, ρ, S => (evI O it ρ S).bind fun z S1 => match z with
    | .items l => if l.length ≤ sz then noX (compL (fun d S2 => (evTg O tg d (wipeE ρ own) S2).bind fun ρ1 S3 => (evTo O t ρ1 S3).bind fun b S4 =>
        if b then (evE O e ρ1 S4).bind fun y S5 => .ok (some y) S5 else .ok none S4) l S1) else .stuck
    | .at_ k => match S1[k]? with
      | some (.lst xs) => if xs.length ≤ sz then noX (compK (fun d S2 => (evTg O tg d (wipeE ρ own) S2).bind fun ρ1 S3 => (evTo O t ρ1 S3).bind fun b S4 =>
        if b then (evE O e ρ1 S4).bind fun y S5 => .ok (some y) S5 else .ok none S4) k (xs.length + 1) 0 S1) else .stuck
      | none => .stuck
  | .op o a b, ρ, S => (evE O a ρ S).bind fun x S1 => (evE O b ρ S1).bind fun y S2 => opt (lopD o (der S2 x) (der S2 y)) S2
  | .ofs a, ρ, S => (evE O a ρ S).bind fun x S1 => opt (seqL (der S1 x)) S1
  | .sl a lo hi, ρ, S => (evE O a ρ S).bind fun x S1 => (evO O lo ρ S1).bind fun l S2 => (evO O hi ρ S2).bind fun h S3 => match der S3 x with
    | .lst xs => .ok (cutD xs l h) S3
    | .scr xs => .ok (cutD xs l h) S3
    | _ => .stuck
  | .zips a b, ρ, S => (evE O a ρ S).bind fun x S1 => (evE O b ρ S1).bind fun y S2 => match x, y with
    | .tup xs, .lst ys => .ok (pairsD xs ys) S2
    | _, _ => .stuck
def evI (O : Orc) : CI → Env → Sto → R Its
  | .seq a, ρ, S => (evE O a ρ S).bind fun x S1 => opt (seqD x) S1
  | .rng1 a, ρ, S => (evE O a ρ S).bind fun x S1 => match x with
    | .int j => if smallI j then .ok (.items (rngD 0 j)) S1 else .stuck
    | _ => .stuck
  | .rng2 a b, ρ, S => (evE O a ρ S).bind fun x S1 => (evE O b ρ S1).bind fun y S2 => match x, y with
    | .int i, .int j => if smallI i && smallI j then .ok (.items (rngD i j)) S2 else .stuck
    | _, _ => .stuck
  | .zip a b, ρ, S => (evE O a ρ S).bind fun x S1 => (evE O b ρ S1).bind fun y S2 => match x, y with
    | .tup xs, .tup ys => .ok (.items (pairsD xs ys)) S2
    | .lst xs, .lst ys => .ok (.items (pairsD xs ys)) S2
    | .tup xs, .lst ys => .ok (.items (pairsD xs ys)) S2
    | _, _ => .stuck
  | .enum a, ρ, S => (evE O a ρ S).bind fun x S1 => match x with
    | .lst xs => .ok (.items (enumD 0 xs)) S1
    | .tup xs => .ok (.items (enumD 0 xs)) S1
    | _ => .stuck
def evTg (O : Orc) : CTg → D → Env → Sto → R Env
  | .nm i, d, ρ, S => if i < ρ.length then .ok (ρ.set i (some d)) S else .stuck
  | .tp ts, d, ρ, S => match d with
    | .tup xs => if xs.length = cntT ts then evTgs O ts xs ρ S else .stuck
    | _ => .stuck
  | .sub a b, d, ρ, S => (evE O a ρ S).bind fun x S1 => (evE O b ρ S1).bind fun y S2 => match x, y with
    | .loc k, .int i => match S2[k]? with
      | some (.lst xs) => match L2.ixN xs.length i with
        | some j => .ok ρ (S2.set k (.lst (xs.set j d)))
        | none => .stuck
      | none => .stuck
    | _, _ => .stuck
def evTgs (O : Orc) : CTgs → List D → Env → Sto → R Env
  | .nil, [], ρ, S => .ok ρ S
  | .cons t r, d :: ds, ρ, S => (evTg O t d ρ S).bind fun ρ1 S1 => noX (evTgs O r ds ρ1 S1)
  | _, _, _, _ => .stuck
end
/-- the told value of an error, as a clause sees it -/
def evH (p : Option D) : HE → Option D
  | .cst c => some c.d
  | .fld => p
  | .tup es => (evHL p es).map .tup
where evHL (p : Option D) : List HE → Option (List D)
  | [] => some []
  | e :: r => match evH p e, evHL p r with
    | some a, some b => some (a :: b)
    | _, _ => none
/-- is an error of the class c caught by a clause that names k: sub tells the classes above -/
def catch_ (sub : Str → Str → Option Bool) (c : Str) (p : Option D) (S : Sto) : List Hd → R Out
  | [] => .exc c p S
  | h :: r => match sub c h.cls with
    | some true => (opt (evH p h.ret) S).bind fun d S1 => .ok (.rt d) S1
    | some false => catch_ sub c p S r
    | none => .stuck
def setAll (ρ : Env) : List Nat → List D → Option Env
  | [], [] => some ρ
  | i :: is, d :: ds => if i < ρ.length then setAll (ρ.set i (some d)) is ds else none
  | _, _ => none
mutual
def exS (sub : Str → Str → Option Bool) (O : Orc) : CS → Env → Sto → R Out
  | .asg tg e, ρ, S => (evE O e ρ S).bind fun d S1 => (evTg O tg d ρ S1).bind fun ρ1 S2 => .ok (.nx ρ1) S2
  | .par is es, ρ, S => (evEs O es ρ S).bind fun ds S1 => (opt (setAll ρ is ds) S1).bind fun ρ1 S2 => .ok (.nx ρ1) S2
  | .asgc m i f, ρ, S => (evF O f ρ S).bind fun xs S1 => if i < ρ.length then
      (if m then .ok (.nx (ρ.set i (some (.loc S1.length)))) (S1 ++ [.lst xs]) else .ok (.nx (ρ.set i (some (.lst xs)))) S1) else .stuck
  | .exp e, ρ, S => (evE O e ρ S).bind fun _ S1 => .ok (.nx ρ) S1
  | .ret e, ρ, S => (evE O e ρ S).bind fun d S1 => .ok (.rt d) S1
  | .retN, _, S => .ok (.rt .non) S
  | .ite t a b, ρ, S => (evT O t ρ S).bind fun k S1 => if k then exSs sub O a ρ S1 else exSs sub O b ρ S1
  | .forS tg it b, ρ, S => (evI O it ρ S).bind fun z S1 => match z with
    | .items l => forL (fun d ρ1 S2 => (evTg O tg d ρ1 S2).bind fun ρ2 S3 => exSs sub O b ρ2 S3) l ρ S1
    | .at_ k => match S1[k]? with
      | some (.lst xs) => forAt (fun d ρ1 S2 => (evTg O tg d ρ1 S2).bind fun ρ2 S3 => exSs sub O b ρ2 S3) k (xs.length + 1) 0 ρ S1
      | none => .stuck
  | .whl t b, ρ, S => whileL (fun ρ1 S1 => evT O t ρ1 S1) (fun ρ1 S1 => exSs sub O b ρ1 S1) O.W ρ S
  | .brk, ρ, S => .ok (.bk ρ) S
  | .cnt, ρ, S => .ok (.ct ρ) S
  | .pass, ρ, S => .ok (.nx ρ) S
  | .rse c, _, S => .exc c none S
  | .tryE r e hs, ρ, S => match evE O e ρ S with
    | .ok d S1 => .ok (if r then .rt d else .nx ρ) S1
    | .exc c p S1 => catch_ sub c p S1 hs
    | .stuck => .stuck
  | .app i e, ρ, S => match ρ[i]? with
    | some (some (.loc k)) => (evE O e ρ S).bind fun d S1 => match S1[k]? with
      | some (.lst xs) => if xs.length < sz then .ok (.nx ρ) (S1.set k (.lst (xs ++ [d]))) else .stuck
      | none => .stuck
    | _ => .stuck
  | .ext i e, ρ, S => match ρ[i]? with
    | some (some (.loc k)) => (evE O e ρ S).bind fun d S1 => match extL (der S1 d), S1[k]? with
      | some ys, some (.lst xs) => if xs.length + ys.length ≤ sz then .ok (.nx ρ) (S1.set k (.lst (xs ++ ys))) else .stuck
      | _, _ => .stuck
    | _ => .stuck
def exSs (sub : Str → Str → Option Bool) (O : Orc) : CSs → Env → Sto → R Out
  | .nil, ρ, S => .ok (.nx ρ) S
  | .cons s r, ρ, S => (exS sub O s ρ S).bind fun o S1 => match o with
    | .nx ρ1 => exSs sub O r ρ1 S1
    | o => .ok o S1
end
/-! ### functions -/
structure Fn where
  np : Nat
  ns : Nat
  keep : Bool
  body : CSs
/-- what stands beyond place n is taken along with a value -/
def frz (n : Nat) (S : Sto) : Nat → D → Option D
  | 0, _ => none
  | m + 1, d => match d with
    | .loc k => if k < n then some (.loc k) else match S[k]? with
      | some (.lst xs) => (xs.mapM (frz n S m)).map .lst
      | none => none
    | .tup xs => (xs.mapM (frz n S m)).map .tup
    | .lst xs => (xs.mapM (frz n S m)).map .lst
    | .scr xs => none
    | d => some d
mutual
def noloc : D → Bool
  | .loc _ => false
  | .tup xs => nolocL xs
  | .lst xs => nolocL xs
  | .scr xs => nolocL xs
  | _ => true
def nolocL : List D → Bool
  | [] => true
  | x :: xs => noloc x && nolocL xs
end
def shut (S : Sto) : Bool := S.all fun | .lst xs => nolocL xs
def leave (kp : Bool) (n : Nat) (d : D) (S : Sto) : R D := if kp = true ∨ S.length ≤ n then .ok d S else if shut (S.take n) then opt (frz n S 8 d) (S.take n) else .stuck
def okP : Option D → Bool
  | none => true
  | some d => flat d
def ends (kp : Bool) (n : Nat) (r : R Out) : R D := match r with
  | .ok (.rt d) S => leave kp n d S
  | .ok (.nx _) S => leave kp n .non S
  | .ok _ _ => .stuck
  | .exc c p S => if okP p then (if S.length ≤ n then .exc c p S else if shut (S.take n) then .exc c p (S.take n) else .stuck) else .stuck
  | .stuck => .stuck
/-- a function that calls the lambda it is given, first of all, in a try -/
structure GFn where
  isRet : Bool
  hs : List Hd
  ns : Nat
  rest : CSs
structure Prg where
  fns : List Fn
  gs : List GFn
  sub : Str → Str → Option Bool
def run (P : Prg) (O : Orc) (f : Nat) (as : List D) (S : Sto) : R D := match P.fns[f]? with
  | some d => if as.length = d.np then ends d.keep S.length (exSs P.sub O d.body (as.map some ++ List.replicate (d.ns - d.np) none) S) else .stuck
  | none => .stuck
def runG (P : Prg) (O : Orc) (g : Nat) (t : Sto → R D) (S : Sto) : R D := match P.gs[g]? with
  | some d => noX (ends false S.length (match t S with
    | .ok v S1 => if d.isRet then .ok (.rt v) S1 else exSs P.sub O d.rest (List.replicate d.ns none) S1
    | .exc c p S1 => catch_ P.sub c p S1 d.hs
    | .stuck => .stuck))
  | none => .stuck
structure Lv where
  call : Nat → List D → Sto → R D
  lam : Nat → (Sto → R D) → Sto → R D
def lv (P : Prg) (W : Nat) : Nat → Lv
  | 0 => ⟨fun _ _ _ => .stuck, fun _ _ _ => .stuck⟩
  | n + 1 => ⟨fun f as S => run P ⟨(lv P W n).call, (lv P W n).lam, W⟩ f as S,
      fun g t S => runG P ⟨(lv P W n).call, (lv P W n).lam, W⟩ g t S⟩
end Gx
set_option Elab.async false
set_option linter.all false
set_option maxRecDepth 100000
/-! Gx: how values and the store lie in the abstract heap. -/
namespace Gx
open PySem PySem.Spec PyProof.Rows L2
structure Gl where
  K : PySem.W.Frag
  mg : Str → Option Value
  names : List Str
  T : List (Addr × Str)
  rps : List Nat
mutual
def Rep (G : Gl) (F : Hp) (ι : List Addr) : D → V → Prop
  | .non, v => v = .non
  | .bl b, v => v = .bl b
  | .int i, v => v = .int i
  | .str x, v => v = .str x
  | .tup xs, v => ∃ a vs, v = .ref a ∧ SqT G.K F a vs ∧ RepL G F ι xs vs
  | .lst xs, v => ∃ a vs, v = .ref a ∧ F a = some (.lst vs) ∧ RepL G F ι xs vs
  | .scr xs, v => ∃ a vs, v = .ref a ∧ SqL G.K F a vs ∧ RepL G F ι xs vs
  | .loc k, v => ∃ a, v = .ref a ∧ ι[k]? = some a
  | .fn f, v => ∃ x a, G.names[f]? = some x ∧ v = .ref a ∧ G.mg x = some (.ref a)
  | .ty n, v => v = .ty n
def RepL (G : Gl) (F : Hp) (ι : List Addr) : List D → List V → Prop
  | [], vs => vs = []
  | x :: xs, vs => ∃ w ws, vs = w :: ws ∧ Rep G F ι x w ∧ RepL G F ι xs ws
end
theorem SqT.fmono {K : PySem.W.Frag} {F F' : Hp} {a : Addr} {vs : List V} (h : ∀ b o, F b = some o → F' b = some o) (q : SqT K F a vs) : SqT K F' a vs := by
  rcases q with (q | ⟨o, q⟩) | q
  · exact .inl (.inl (h _ _ q))
  · exact .inl (.inr ⟨o, h _ _ q⟩)
  · exact .inr q
theorem SqL.fmono {K : PySem.W.Frag} {F F' : Hp} {a : Addr} {vs : List V} (h : ∀ b o, F b = some o → F' b = some o) (q : SqL K F a vs) : SqL K F' a vs := by
  rcases q with (q | ⟨o, q⟩) | q
  · exact .inl (.inl (h _ _ q))
  · exact .inl (.inr ⟨o, h _ _ q⟩)
  · exact .inr q
mutual
theorem Rep.mono {G : Gl} {F F' : Hp} {ι ι' : List Addr} (hf : ∀ b o, F b = some o → F' b = some o) (hi : ∀ (k : Nat) (a : Addr), ι[k]? = some a → ι'[k]? = some a) : ∀ (d : D) (v : V), Rep G F ι d v → Rep G F' ι' d v
  | .non, _, h => h
  | .bl _, _, h => h
  | .int _, _, h => h
  | .str _, _, h => h
  | .tup xs, v, h => by
    obtain ⟨a, vs, e, q, r⟩ := h
    exact ⟨a, vs, e, SqT.fmono hf q, RepL.mono hf hi xs vs r⟩
  | .lst xs, v, h => by
    obtain ⟨a, vs, e, q, r⟩ := h
    exact ⟨a, vs, e, hf _ _ q, RepL.mono hf hi xs vs r⟩
  | .scr xs, v, h => by
    obtain ⟨a, vs, e, q, r⟩ := h
    exact ⟨a, vs, e, SqL.fmono hf q, RepL.mono hf hi xs vs r⟩
  | .loc k, v, h => by
    obtain ⟨a, e, q⟩ := h
    exact ⟨a, e, hi _ _ q⟩
  | .fn _, _, h => h
  | .ty _, _, h => h
theorem RepL.mono {G : Gl} {F F' : Hp} {ι ι' : List Addr} (hf : ∀ b o, F b = some o → F' b = some o) (hi : ∀ (k : Nat) (a : Addr), ι[k]? = some a → ι'[k]? = some a) : ∀ (ds : List D) (vs : List V), RepL G F ι ds vs → RepL G F' ι' ds vs
  | [], _, h => h
  | x :: xs, _, h => by
    obtain ⟨w, ws, e, q, r⟩ := h
    exact ⟨w, ws, e, Rep.mono hf hi x w q, RepL.mono hf hi xs ws r⟩
end
theorem RepL.length {G : Gl} {F : Hp} {ι : List Addr} : ∀ {ds : List D} {vs : List V}, RepL G F ι ds vs → ds.length = vs.length
  | [], _, h => by cases (show _ = _ from h); rfl
  | x :: xs, _, h => by
    obtain ⟨w, ws, rfl, _, r⟩ := h
    simp [RepL.length r]
theorem RepL.nil_iff {G : Gl} {F : Hp} {ι : List Addr} {ds : List D} {vs : List V} (h : RepL G F ι ds vs) : vs = [] ↔ ds = [] := by
  have := h.length
  constructor
  · intro e; subst e; exact List.length_eq_zero_iff.mp (by simpa using this)
  · intro e; subst e; exact h
theorem RepL.get {G : Gl} {F : Hp} {ι : List Addr} : ∀ {ds : List D} {vs : List V} {i : Nat} {d : D}, RepL G F ι ds vs → ds[i]? = some d → ∃ v, vs[i]? = some v ∧ Rep G F ι d v
  | [], _, _, _, _, e => by simp at e
  | x :: xs, _, 0, d, h, e => by
    obtain ⟨w, ws, rfl, q, r⟩ := h
    simp at e; subst e
    exact ⟨w, rfl, q⟩
  | x :: xs, _, i + 1, d, h, e => by
    obtain ⟨w, ws, rfl, q, r⟩ := h
    obtain ⟨v, e1, q1⟩ := RepL.get (i := i) r (by simpa using e)
    exact ⟨v, by simpa using e1, q1⟩
theorem RepL.append {G : Gl} {F : Hp} {ι : List Addr} : ∀ {as bs : List D} {us ws : List V}, RepL G F ι as us → RepL G F ι bs ws → RepL G F ι (as ++ bs) (us ++ ws)
  | [], _, _, _, h, q => by cases (show _ = _ from h); exact q
  | x :: xs, _, _, _, h, q => by
    obtain ⟨w, ws, rfl, a, r⟩ := h
    exact ⟨w, _, rfl, a, RepL.append r q⟩
theorem RepL.snoc {G : Gl} {F : Hp} {ι : List Addr} {as : List D} {us : List V} {d : D} {v : V} (h : RepL G F ι as us) (q : Rep G F ι d v) : RepL G F ι (as ++ [d]) (us ++ [v]) := h.append ⟨v, [], rfl, q, rfl⟩
theorem RepL.take {G : Gl} {F : Hp} {ι : List Addr} : ∀ (n : Nat) {as : List D} {us : List V}, RepL G F ι as us → RepL G F ι (as.take n) (us.take n)
  | 0, _, _, _ => by simp [RepL]
  | n + 1, [], _, h => by cases (show _ = _ from h); simp [RepL]
  | n + 1, x :: xs, _, h => by
    obtain ⟨w, ws, rfl, a, r⟩ := h
    exact ⟨w, _, rfl, a, RepL.take n r⟩
theorem RepL.drop {G : Gl} {F : Hp} {ι : List Addr} : ∀ (n : Nat) {as : List D} {us : List V}, RepL G F ι as us → RepL G F ι (as.drop n) (us.drop n)
  | 0, _, _, h => h
  | n + 1, [], _, h => by cases (show _ = _ from h); simp [RepL]
  | n + 1, x :: xs, _, h => by
    obtain ⟨w, ws, rfl, a, r⟩ := h
    exact RepL.drop n r
theorem RepL.set {G : Gl} {F : Hp} {ι : List Addr} {d : D} {v : V} (q : Rep G F ι d v) : ∀ {as : List D} {us : List V} (i : Nat), RepL G F ι as us → RepL G F ι (as.set i d) (us.set i v)
  | [], _, _, h => by cases (show _ = _ from h); simp [RepL]
  | x :: xs, _, 0, h => by
    obtain ⟨w, ws, rfl, a, r⟩ := h
    exact ⟨v, ws, rfl, q, r⟩
  | x :: xs, _, i + 1, h => by
    obtain ⟨w, ws, rfl, a, r⟩ := h
    exact ⟨w, _, rfl, a, RepL.set q i r⟩
theorem RepL.rep {G : Gl} {F : Hp} {ι : List Addr} {as : List D} {us : List V} (h : RepL G F ι as us) : ∀ n : Nat, RepL G F ι (List.replicate n as).flatten (List.replicate n us).flatten
  | 0 => rfl
  | n + 1 => by
    rw [List.replicate_succ, List.replicate_succ, List.flatten_cons, List.flatten_cons]
    exact h.append (RepL.rep h n)
theorem RepL.cutD {G : Gl} {F : Hp} {ι : List Addr} {as : List D} {us : List V} (h : RepL G F ι as us) (lo hi : Option Int) : RepL G F ι (Gx.cutD as lo hi) (cutV us lo hi) := by
  unfold Gx.cutD cutV
  rw [h.length]
  exact (h.drop _).take _
/-! ### the state -/
def ObR (G : Gl) (F : Hp) (ι : List Addr) (H : Hp) (a : Addr) : Ob → Prop
  | .lst xs => ∃ vs, H a = some (.lst vs) ∧ RepL G F ι xs vs
structure RL (G : Gl) (S : Sto) (F : Hp) (ι : List Addr) (H : Hp) : Prop where
  sub : ∀ a o, F a = some o → H a = some o
  ft : ∀ a ps, F a ≠ some (.tbl ps)
  len : ι.length = S.length
  nd : ι.Nodup
  out : ∀ a ∈ ι, F a = none
  obj : ∀ (k : Nat) (a : Addr) (o : Ob), ι[k]? = some a → S[k]? = some o → ObR G F ι H a o
  tabs : LamX.Tabs G.T H
/-- nothing stands there but perhaps a table -/
def Frs (H : Hp) (a : Addr) : Prop := ∀ o, H a = some o → ∃ ps, o = .tbl ps
theorem frs_none {H : Hp} {a : Addr} (h : H a = none) : Frs H a := fun o e => by rw [h] at e; cases e
structure Ext (F : Hp) (ι : List Addr) (H : Hp) (F' : Hp) (ι' : List Addr) (H' : Hp) : Prop where
  f : ∀ a o, F a = some o → F' a = some o
  i : ∃ more, ι' = ι ++ more ∧ ∀ a ∈ more, Frs H a
  h : ∀ b o, H b = some o → b ∉ ι → (∀ ps, o ≠ .tbl ps) → H' b = some o
  g : ∀ a o, F' a = some o → F a = some o ∨ Frs H a
theorem Ext.refl {F : Hp} {ι : List Addr} {H : Hp} : Ext F ι H F ι H :=
  ⟨fun _ _ h => h, ⟨[], by simp, by simp⟩, fun _ _ h _ _ => h, fun _ _ h => .inl h⟩
theorem RL.tracked {G : Gl} {S : Sto} {F : Hp} {ι : List Addr} {H : Hp} (r : RL G S F ι H) {a : Addr} (h : a ∈ ι) : ∃ vs, H a = some (.lst vs) := by
  obtain ⟨k, hk, e⟩ := List.mem_iff_getElem.mp h
  have e1 : ι[k]? = some a := by rw [List.getElem?_eq_getElem hk, e]
  have hk2 : k < S.length := by rw [← r.len]; exact hk
  have := r.obj k a S[k] e1 (List.getElem?_eq_getElem hk2)
  cases q : S[k] with
  | lst xs =>
    rw [q] at this
    obtain ⟨vs, h1, _⟩ := this
    exact ⟨vs, h1⟩
theorem Ext.none_of {G : Gl} {S' : Sto} {F F' : Hp} {ι ι' : List Addr} {H H' : Hp} (e : Ext F ι H F' ι' H') (r : RL G S' F' ι' H') {a : Addr} (h : Frs H' a) : Frs H a := fun o q => by
  by_cases hi : a ∈ ι
  · obtain ⟨more, e1, _⟩ := e.i
    obtain ⟨vs, z⟩ := r.tracked (a := a) (by rw [e1]; exact List.mem_append_left _ hi)
    obtain ⟨ps, z2⟩ := h _ z
    cases z2
  · cases o with
    | tbl ps => exact ⟨ps, rfl⟩
    | _ => exact h _ (e.h a _ q hi (by intro ps z; cases z))
theorem Ext.trans {G : Gl} {S1 : Sto} {F F1 F2 : Hp} {ι ι1 ι2 : List Addr} {H H1 H2 : Hp} (a : Ext F ι H F1 ι1 H1) (r : RL G S1 F1 ι1 H1) (b : Ext F1 ι1 H1 F2 ι2 H2) : Ext F ι H F2 ι2 H2 := by
  obtain ⟨m1, e1, n1⟩ := a.i
  obtain ⟨m2, e2, n2⟩ := b.i
  refine ⟨fun c o h => b.f c o (a.f c o h), ⟨m1 ++ m2, by rw [e2, e1, List.append_assoc], fun c hc => ?_⟩, fun c o h hi ht => ?_, fun c o h => ?_⟩
  · rcases List.mem_append.mp hc with z | z
    · exact n1 c z
    · exact a.none_of r (n2 c z)
  · refine b.h c o (a.h c o h hi ht) (fun z => ?_) ht
    rw [e1] at z
    rcases List.mem_append.mp z with z | z
    · exact hi z
    · obtain ⟨ps, q⟩ := n1 c z o h
      exact ht ps q
  · rcases b.g c o h with z | z
    · exact a.g c o z
    · exact .inr (a.none_of r z)
theorem Ext.ix {F F' : Hp} {ι ι' : List Addr} {H H' : Hp} (e : Ext F ι H F' ι' H') : ∀ (k : Nat) (a : Addr), ι[k]? = some a → ι'[k]? = some a := fun k a h => by
  obtain ⟨m, e1, _⟩ := e.i
  rw [e1, List.getElem?_append_left (List.getElem?_eq_some_iff.mp h).1]
  exact h
theorem Ext.rep {G : Gl} {F F' : Hp} {ι ι' : List Addr} {H H' : Hp} (e : Ext F ι H F' ι' H') {d : D} {v : V} (h : Rep G F ι d v) : Rep G F' ι' d v := Rep.mono e.f e.ix d v h
theorem Ext.repL {G : Gl} {F F' : Hp} {ι ι' : List Addr} {H H' : Hp} (e : Ext F ι H F' ι' H') {d : List D} {v : List V} (h : RepL G F ι d v) : RepL G F' ι' d v := RepL.mono e.f e.ix d v h
/-! ### new things -/
section
variable {G : Gl} {S : Sto} {F : Hp} {ι : List Addr} {H : Hp} {p : Addr}
theorem RL.fnone (r : RL G S F ι H) (hp : H p = none) : F p = none := by
  cases q : F p with
  | none => rfl
  | some o => rw [r.sub _ _ q] at hp; cases hp
theorem RL.notIn (r : RL G S F ι H) (hp : H p = none) : p ∉ ι := fun h => by
  obtain ⟨vs, z⟩ := r.tracked h
  rw [hp] at z; cases z
theorem tabs_keep {T : List (Addr × Str)} {H H' : Hp} (h : LamX.Tabs T H) (k : ∀ b o, H b = some o → H' b = some o) : LamX.Tabs T H' := h.ext k
theorem upd_keep {o : HO} (hp : H p = none) : ∀ b u, H b = some u → upd H p o b = some u := fun b u h => by
  rw [upd_ne (ne_of_none h hp)]; exact h
/-- a new frozen thing -/
theorem RL.frz (r : RL G S F ι H) (hp : H p = none) (o : HO) (ho : ∀ ps, o ≠ .tbl ps) : Ext F ι H (upd F p o) ι (upd H p o) ∧ RL G S (upd F p o) ι (upd H p o) := by
  have fp := r.fnone hp
  have pn := r.notIn hp
  refine ⟨⟨fun a u h => upd_keep fp a u h, ⟨[], by simp, by simp⟩, fun b u h _ _ => upd_keep hp b u h, fun a u h => ?_⟩, ⟨fun a u h => ?_, fun a ps h => ?_, r.len, r.nd, fun a ha => ?_, fun k a u h1 h2 => ?_, tabs_keep r.tabs (upd_keep hp)⟩⟩
  · by_cases e : a = p
    · subst e; exact .inr (frs_none hp)
    · rw [upd_ne e] at h; exact .inl h
  · by_cases e : a = p
    · subst e; rw [upd_same] at h ⊢; exact h
    · rw [upd_ne e] at h ⊢; exact r.sub _ _ h
  · by_cases e : a = p
    · subst e; rw [upd_same] at h; exact ho ps (Option.some.inj h)
    · rw [upd_ne e] at h; exact r.ft _ _ h
  · have e : a ≠ p := fun e => pn (e ▸ ha)
    rw [upd_ne e]; exact r.out a ha
  · have := r.obj k a u h1 h2
    cases u with
    | lst xs =>
      obtain ⟨vs, q1, q2⟩ := this
      exact ⟨vs, upd_keep hp _ _ q1, RepL.mono (upd_keep fp) (fun _ _ h => h) _ _ q2⟩
/-- a new list that may change -/
theorem RL.new (r : RL G S F ι H) (hp : H p = none) {xs : List D} {vs : List V} (q : RepL G F ι xs vs) : Ext F ι H F (ι ++ [p]) (upd H p (.lst vs)) ∧ RL G (S ++ [.lst xs]) F (ι ++ [p]) (upd H p (.lst vs)) := by
  have fp := r.fnone hp
  have pn := r.notIn hp
  have ix : ∀ (k : Nat) (a : Addr), ι[k]? = some a → (ι ++ [p])[k]? = some a := fun k a h => by
    rw [List.getElem?_append_left (List.getElem?_eq_some_iff.mp h).1]; exact h
  refine ⟨⟨fun a u h => h, ⟨[p], rfl, by simpa using frs_none hp⟩, fun b u h _ _ => upd_keep hp b u h, fun a u h => .inl h⟩, ⟨fun a u h => upd_keep hp _ _ (r.sub _ _ h), r.ft, by simp [r.len], ?_, fun a ha => ?_, fun k a u h1 h2 => ?_, tabs_keep r.tabs (upd_keep hp)⟩⟩
  · rw [List.nodup_append]
    exact ⟨r.nd, by simp, fun a ha b hb e => pn (by simp at hb; rw [← hb, ← e]; exact ha)⟩
  · rcases List.mem_append.mp ha with z | z
    · exact r.out a z
    · simp at z; subst z; exact fp
  · by_cases hk : k < ι.length
    · rw [List.getElem?_append_left hk] at h1
      rw [List.getElem?_append_left (by rw [← r.len]; exact hk)] at h2
      have := r.obj k a u h1 h2
      cases u with
      | lst xs =>
        obtain ⟨vs, q1, q2⟩ := this
        exact ⟨vs, upd_keep hp _ _ q1, RepL.mono (fun _ _ h => h) ix _ _ q2⟩
    · have hk1 : k = ι.length := by
        have := (List.getElem?_eq_some_iff.mp h1).1
        simp at this; omega
      subst hk1
      rw [List.getElem?_append_right (Nat.le_refl _)] at h1
      rw [r.len, List.getElem?_append_right (Nat.le_refl _)] at h2
      simp at h1 h2
      subst h1 h2
      exact ⟨vs, upd_same, RepL.mono (fun _ _ h => h) ix _ _ q⟩
/-- a list is changed -/
theorem RL.wr (r : RL G S F ι H) {k : Nat} {a : Addr} (hk : ι[k]? = some a) {xs : List D} {vs : List V} (q : RepL G F ι xs vs) : Ext F ι H F ι (upd H a (.lst vs)) ∧ RL G (S.set k (.lst xs)) F ι (upd H a (.lst vs)) := by
  have ha : a ∈ ι := List.mem_of_getElem? hk
  obtain ⟨vs0, tr⟩ := r.tracked ha
  have fa := r.out a ha
  refine ⟨⟨fun a u h => h, ⟨[], by simp, by simp⟩, fun b u h hi _ => ?_, fun a u h => .inl h⟩, ⟨fun b u h => ?_, r.ft, by simp [r.len], r.nd, r.out, fun j b u h1 h2 => ?_, fun p hp => ?_⟩⟩
  · rw [upd_ne (fun e => hi (by rw [e]; exact ha))]; exact h
  · rw [upd_ne (fun e => by rw [e, fa] at h; cases h)]; exact r.sub _ _ h
  · by_cases e : j = k
    · subst e
      rw [hk] at h1; cases h1
      rw [List.getElem?_set_self (by rw [← r.len]; exact (List.getElem?_eq_some_iff.mp hk).1)] at h2
      cases h2
      exact ⟨vs, upd_same, q⟩
    · rw [List.getElem?_set_ne (Ne.symm e)] at h2
      have ne : b ≠ a := fun z => e (by
        obtain ⟨k1, z1⟩ := List.getElem?_eq_some_iff.mp h1
        obtain ⟨k2, z2⟩ := List.getElem?_eq_some_iff.mp hk
        exact (List.getElem_inj r.nd).mp (z1.trans (z.trans z2.symm)))
      have := r.obj j b u h1 h2
      cases u with
      | lst ys =>
        obtain ⟨ws, q1, q2⟩ := this
        exact ⟨ws, by rw [upd_ne ne]; exact q1, q2⟩
  · obtain ⟨ps, a1, a2, a3⟩ := r.tabs p hp
    refine ⟨ps, by rw [upd_ne (fun e => by rw [e, tr] at a1; cases a1)]; exact a1, a2, fun pos cv hc => ?_⟩
    obtain ⟨c, e1, e2⟩ := a3 pos cv hc
    exact ⟨c, e1, by rw [upd_ne (fun e => by rw [e, tr] at e2; unfold LamX.CodeO at e2; cases e2)]; exact e2⟩
/-- a list read -/
theorem RL.loc (r : RL G S F ι H) {k : Nat} {a : Addr} {xs : List D} (hk : ι[k]? = some a) (hs : S[k]? = some (.lst xs)) : ∃ vs, H a = some (.lst vs) ∧ RepL G F ι xs vs := r.obj k a _ hk hs
/-- what is read of a value -/
def RepH (G : Gl) (F : Hp) (ι : List Addr) (H : Hp) : D → V → Prop
  | .lst xs, v => ∃ a vs, v = .ref a ∧ H a = some (.lst vs) ∧ RepL G F ι xs vs
  | d, v => Rep G F ι d v
theorem RL.der (r : RL G S F ι H) {d : D} {v : V} (h : Rep G F ι d v) : RepH G F ι H (Gx.der S d) v := by
  cases d with
  | loc k =>
    obtain ⟨a, e, q⟩ := h
    cases hs : S[k]? with
    | none =>
      have e1 : Gx.der S (.loc k) = .loc k := by simp only [Gx.der, hs]
      rw [e1]
      exact ⟨a, e, q⟩
    | some o =>
      cases o with
      | lst xs =>
        have e1 : Gx.der S (.loc k) = .lst xs := by simp only [Gx.der, hs]
        rw [e1]
        obtain ⟨vs, z1, z2⟩ := r.loc q hs
        exact ⟨a, vs, e, z1, z2⟩
  | lst xs =>
    obtain ⟨a, vs, e, q, z⟩ := h
    exact ⟨a, vs, e, r.sub _ _ q, z⟩
  | _ => exact h
theorem RL.sqT (r : RL G S F ι H) {a : Addr} {vs : List V} (h : SqT G.K F a vs) : SqT G.K H a vs := SqT.fmono r.sub h
theorem RL.sqL (r : RL G S F ι H) {a : Addr} {vs : List V} (h : SqL G.K F a vs) : SqL G.K H a vs := SqL.fmono r.sub h
end
/-! ### data -/
mutual
theorem dp_of {G : Gl} {S : Sto} {F : Hp} {ι : List Addr} {H : Hp} (r : RL G S F ι H) : ∀ (d : D) (v : V) (p : PyData), Rep G F ι d v → toPy d = some p → Dp G.K H v p
  | .non, v, p, h, e => by cases (show _ = _ from h); cases e; exact .non
  | .bl b, v, p, h, e => by cases (show _ = _ from h); cases e; exact .bl b
  | .int i, v, p, h, e => by cases (show _ = _ from h); cases e; exact .int i
  | .str x, v, p, h, e => by cases (show _ = _ from h); cases e; exact .str x
  | .tup xs, v, p, h, e => by
    obtain ⟨a, vs, rfl, q, z⟩ := h
    simp only [toPy, Option.map_eq_some_iff] at e
    obtain ⟨ps, e1, rfl⟩ := e
    exact .tup (r.sqT q) (dp_ofL r xs vs ps z e1)
  | .lst xs, v, p, h, e => by
    obtain ⟨a, vs, rfl, q, z⟩ := h
    simp only [toPy, Option.map_eq_some_iff] at e
    obtain ⟨ps, e1, rfl⟩ := e
    exact .lst (SqL.of (r.sub _ _ q)) (dp_ofL r xs vs ps z e1)
  | .scr _, _, _, _, e => by simp [toPy] at e
  | .loc _, _, _, _, e => by simp [toPy] at e
  | .fn _, _, _, _, e => by simp [toPy] at e
  | .ty _, _, _, _, e => by simp [toPy] at e
theorem dp_ofL {G : Gl} {S : Sto} {F : Hp} {ι : List Addr} {H : Hp} (r : RL G S F ι H) : ∀ (ds : List D) (vs : List V) (ps : List PyData), RepL G F ι ds vs → toPyL ds = some ps → DpAll G.K H vs ps
  | [], vs, ps, h, e => by cases (show _ = _ from h); cases e; exact .nil
  | x :: xs, vs, ps, h, e => by
    obtain ⟨w, ws, rfl, q, z⟩ := h
    simp only [toPyL] at e
    split at e
    · rename_i a b e1 e2
      cases e
      exact .cons (dp_of r x w a q e1) (dp_ofL r xs ws b z e2)
    · cases e
end
theorem dp_der {G : Gl} {S : Sto} {F : Hp} {ι : List Addr} {H : Hp} (r : RL G S F ι H) {d : D} {v : V} {p : PyData} (h : RepH G F ι H d v) (e : toPy d = some p) : Dp G.K H v p := by
  cases d with
  | lst xs =>
    obtain ⟨a, vs, rfl, q, z⟩ := h
    simp only [toPy, Option.map_eq_some_iff] at e
    obtain ⟨ps, e1, rfl⟩ := e
    exact .lst (SqL.of q) (dp_ofL r xs vs ps z e1)
  | _ => exact dp_of r _ _ _ h e
end Gx
set_option Elab.async false
set_option linter.all false
set_option maxRecDepth 100000
set_option maxHeartbeats 1000000
/-! Gx: the operations of the evaluator keep to the machine. -/
namespace Gx
open PySem PySem.Spec PyProof.Rows L2
theorem sz_eq : sz = sizeLine := by rw [sizeLine_eq]; rfl
/-- a value is handed on, whatever was newly laid -/
def Goes (G : Gl) (S : Sto) (F : Hp) (ι : List Addr) (H : Hp) (d : D) (Q : VK) : Prop :=
  ∀ F' H' v, Ext F ι H F' ι H' → RL G S F' ι H' → Rep G F' ι d v → Q v H'
section
variable {G : Gl} {S : Sto} {F : Hp} {ι : List Addr} {H : Hp} {Q : VK} {d : D} {v : V}
theorem Goes.here (k : Goes G S F ι H d Q) (r : RL G S F ι H) (h : Rep G F ι d v) : Q v H := k F H v Ext.refl r h
theorem Goes.tup {xs : List D} {vs : List V} {p : Addr} (k : Goes G S F ι H (.tup xs) Q) (r : RL G S F ι H) (hp : H p = none) (h : RepL G F ι xs vs) : Q (.ref p) (upd H p (.tup vs)) := by
  obtain ⟨e, r'⟩ := r.frz hp (.tup vs) (fun _ z => by cases z)
  exact k _ _ _ e r' ⟨p, vs, rfl, SqT.of upd_same, e.repL h⟩
theorem Goes.lst {xs : List D} {vs : List V} {p : Addr} (k : Goes G S F ι H (.lst xs) Q) (r : RL G S F ι H) (hp : H p = none) (h : RepL G F ι xs vs) : Q (.ref p) (upd H p (.lst vs)) := by
  obtain ⟨e, r'⟩ := r.frz hp (.lst vs) (fun _ z => by cases z)
  exact k _ _ _ e r' ⟨p, vs, rfl, upd_same, e.repL h⟩
end
variable {X : Cx} {G : Gl}
/-! ### two-place operators -/
def rB (G : Gl) (op : Operator) : R2 := fun x y H Q => ∃ dx dy S F ι d, RL G S F ι H ∧ Rep G F ι dx x ∧ Rep G F ι dy y ∧ bopD op dx dy = some d ∧ Goes G S F ι H d Q
theorem b_add (hK : X.K = G.K) : OpR X (binaryOp .Add) (rB G .Add) := by
  intro pins s σ H x y v u Q I rx ry ⟨dx, dy, S, F, ι, d, r, h1, h2, e, k⟩
  cases dx <;> cases dy <;> simp only [bopD] at e <;> try (cases e; done)
  · cases e
    exact op_add pins s σ H x y v u Q I rx ry ⟨_, _, h1, h2, k.here r rfl⟩
  · split at e
    · cases e
      exact op_add_str pins s σ H x y v u Q I rx ry ⟨_, _, h1, h2, by rw [← sz_eq]; assumption, k.here r rfl⟩
    · cases e
  · rename_i as bs
    split at e
    · rename_i hz
      cases e
      obtain ⟨a, us, e1, q1, l1⟩ := h1
      obtain ⟨b, ws, e2, q2, l2⟩ := h2
      refine op_catA pins s σ H x y v u Q I rx ry ⟨a, b, us, ws, e1, e2, by rw [hK]; exact r.sqT q1, by rw [hK]; exact r.sqT q2, by rw [← l1.length, ← l2.length, ← sz_eq]; exact hz, fun e0 => ?_, fun e0 e3 => ?_, fun _ _ p hp => ?_⟩
      · have := l1.nil_iff.mp e0; subst this
        exact k.here r ⟨b, ws, rfl, q2, l2⟩
      · have := l2.nil_iff.mp e3; subst this
        rw [List.append_nil] at k
        exact k.here r ⟨a, us, rfl, q1, l1⟩
      · exact k.tup r hp (l1.append l2)
    · cases e
theorem b_sub : OpR X (binaryOp .Sub) (rB G .Sub) := by
  intro pins s σ H x y v u Q I rx ry ⟨dx, dy, S, F, ι, d, r, h1, h2, e, k⟩
  cases dx <;> cases dy <;> simp only [bopD] at e <;> try (cases e; done)
  cases e
  exact op_sub pins s σ H x y v u Q I rx ry ⟨_, _, h1, h2, k.here r rfl⟩
theorem mulOk_c {i j : Int} (h : mulOk i j = true) : CMul i j := by
  unfold mulOk at h
  simp only [Bool.or_eq_true, Bool.and_eq_true, decide_eq_true_eq] at h
  rcases h with h | h
  · exact .inl (by omega)
  · exact .inr (by omega)
theorem powOk_c {i j : Int} (h : powOk i j = true) : CPow i j := by
  unfold powOk at h
  simp only [Bool.and_eq_true, decide_eq_true_eq] at h
  exact ⟨h.1.1, h.1.2, by have := h.2; omega⟩
theorem b_fdiv : OpR X (binaryOp .FloorDiv) (rB G .FloorDiv) := by
  intro pins s σ H x y v u Q I rx ry ⟨dx, dy, S, F, ι, d, r, h1, h2, e, k⟩
  cases dx <;> cases dy <;> simp only [bopD] at e <;> try (cases e; done)
  rename_i i j
  split at e
  · rename_i hc
    cases e
    exact op_fdivW pins s σ H x y v u Q I rx ry ⟨i, j, h1, h2, wide_div (b := 256) hc.1 (by have := hc.2; omega) (by decide) (by decide), k.here r rfl⟩
  · cases e
theorem b_mod : OpR X (binaryOp .Mod) (rB G .Mod) := by
  intro pins s σ H x y v u Q I rx ry ⟨dx, dy, S, F, ι, d, r, h1, h2, e, k⟩
  cases dx <;> cases dy <;> simp only [bopD] at e <;> try (cases e; done)
  rename_i i j
  split at e
  · rename_i hc
    cases e
    exact op_mod pins s σ H x y v u Q I rx ry ⟨i, j, h1, h2, hc, k.here r rfl⟩
  · cases e
theorem b_pow : OpR X (binaryOp .Pow) (rB G .Pow) := by
  intro pins s σ H x y v u Q I rx ry ⟨dx, dy, S, F, ι, d, r, h1, h2, e, k⟩
  cases dx <;> cases dy <;> simp only [bopD] at e <;> try (cases e; done)
  rename_i i j
  split at e
  · rename_i hc
    cases e
    exact op_pow pins s σ H x y v u Q I rx ry ⟨i, j, h1, h2, powOk_c hc, k.here r rfl⟩
  · cases e
theorem b_shl : OpR X (binaryOp .LShift) (rB G .LShift) := by
  intro pins s σ H x y v u Q I rx ry ⟨dx, dy, S, F, ι, d, r, h1, h2, e, k⟩
  cases dx <;> cases dy <;> simp only [bopD] at e <;> try (cases e; done)
  rename_i i j
  split at e
  · rename_i hc
    cases e
    exact op_shl pins s σ H x y v u Q I rx ry ⟨i, j, h1, h2, powOk_c hc, k.here r rfl⟩
  · cases e
theorem b_shr : OpR X (binaryOp .RShift) (rB G .RShift) := by
  intro pins s σ H x y v u Q I rx ry ⟨dx, dy, S, F, ι, d, r, h1, h2, e, k⟩
  cases dx <;> cases dy <;> simp only [bopD] at e <;> try (cases e; done)
  rename_i i j
  split at e
  · rename_i hc
    cases e
    exact op_shr pins s σ H x y v u Q I rx ry ⟨i, j, h1, h2, hc, k.here r rfl⟩
  · cases e
theorem b_and : OpR X (binaryOp .BitAnd) (rB G .BitAnd) := by
  intro pins s σ H x y v u Q I rx ry ⟨dx, dy, S, F, ι, d, r, h1, h2, e, k⟩
  cases dx <;> cases dy <;> simp only [bopD] at e <;> try (cases e; done)
  cases e
  exact op_and pins s σ H x y v u Q I rx ry ⟨_, _, h1, h2, k.here r rfl⟩
theorem b_xor : OpR X (binaryOp .BitXor) (rB G .BitXor) := by
  intro pins s σ H x y v u Q I rx ry ⟨dx, dy, S, F, ι, d, r, h1, h2, e, k⟩
  cases dx <;> cases dy <;> simp only [bopD] at e <;> try (cases e; done)
  cases e
  exact op_xor pins s σ H x y v u Q I rx ry ⟨_, _, h1, h2, k.here r rfl⟩
theorem b_none {op : Operator} (h : ∀ dx dy, bopD op dx dy = none) : OpR X (binaryOp op) (rB G op) := by
  intro pins s σ H x y v u Q I rx ry ⟨dx, dy, S, F, ι, d, r, h1, h2, e, k⟩
  rw [h] at e; cases e
/-! ### comparisons -/
def rC (G : Gl) (op : CmpOp) : R2 := fun x y H Q => ∃ dx dy S F ι k, RL G S F ι H ∧ Rep G F ι dx x ∧ Rep G F ι dy y ∧ cmpD op (der S dx) (der S dy) = some k ∧ Q (.bl k) H
theorem c_eqD {x y : V} {H : Hp} {dx dy : D} {S : Sto} {F : Hp} {ι : List Addr} {k : Bool} (r : RL G S F ι H) (h1 : Rep G F ι dx x) (h2 : Rep G F ι dy y) (e : eqP (der S dx) (der S dy) = some k) :
    ∃ p q, Dp G.K H x p ∧ Dp G.K H y q ∧ SeqAt.shaped p = true ∧ SeqAt.shaped q = true ∧ k = PyData.eqv p q := by
  unfold eqP at e
  split at e
  · rename_i a b e1 e2
    split at e
    · rename_i hs
      rw [Bool.and_eq_true] at hs
      cases e
      exact ⟨a, b, dp_der r (r.der h1) e1, dp_der r (r.der h2) e2, hs.1, hs.2, rfl⟩
    · cases e
  · cases e
theorem c_eq (hK : X.K = G.K) (hu : X.A.units + 64 < cLine) : OpR X (compareOp .Eq) (rC G .Eq) := by
  intro pins s σ H x y v u Q I rx ry ⟨dx, dy, S, F, ι, k, r, h1, h2, e, q⟩
  rcases eqD_cases e with ⟨a, b, e1, e2, rfl⟩ | e
  · have a1 := r.der h1
    have a2 := r.der h2
    rw [e1] at a1
    rw [e2] at a2
    cases (show x = .str a from a1)
    cases (show y = .str b from a2)
    obtain ⟨t1, rfl⟩ := rx
    obtain ⟨t2, rfl⟩ := ry
    exact eq_str ⟨.bl _, H, I, rfl, q⟩
  obtain ⟨p, p', d1, d2, s1, s2, rfl⟩ := c_eqD r h1 h2 e
  exact op_eqD hu pins s σ H x y v u Q I rx ry ⟨p, p', by rw [hK]; exact d1, by rw [hK]; exact d2, s1, s2, q⟩
theorem c_ne (hK : X.K = G.K) (hu : X.A.units + 64 < cLine) : OpR X (compareOp .NotEq) (rC G .NotEq) := by
  intro pins s σ H x y v u Q I rx ry ⟨dx, dy, S, F, ι, k, r, h1, h2, e, q⟩
  simp only [cmpD, Option.map_eq_some_iff] at e
  obtain ⟨k', e, rfl⟩ := e
  rcases eqD_cases e with ⟨a, b, e1, e2, rfl⟩ | e
  · have a1 := r.der h1
    have a2 := r.der h2
    rw [e1] at a1
    rw [e2] at a2
    cases (show x = .str a from a1)
    cases (show y = .str b from a2)
    obtain ⟨t1, rfl⟩ := rx
    obtain ⟨t2, rfl⟩ := ry
    exact ne_str ⟨.bl _, H, I, rfl, q⟩
  obtain ⟨p, p', d1, d2, s1, s2, rfl⟩ := c_eqD r h1 h2 e
  exact op_neD hu pins s σ H x y v u Q I rx ry ⟨p, p', by rw [hK]; exact d1, by rw [hK]; exact d2, s1, s2, q⟩
theorem RepH.int {F : Hp} {ι : List Addr} {H : Hp} {i : Int} {v : V} (h : RepH G F ι H (.int i) v) : v = .int i := h
theorem c_int {op : CmpOp} {g : Int → Int → Bool} (hr : OpR X (compareOp op) (rI0 fun i j => .bl (g i j))) (hd : ∀ dx dy k, cmpD op dx dy = some k → ∃ i j, dx = .int i ∧ dy = .int j ∧ k = g i j) : OpR X (compareOp op) (rC G op) := by
  intro pins s σ H x y v u Q I rx ry ⟨dx, dy, S, F, ι, k, r, h1, h2, e, q⟩
  obtain ⟨i, j, e1, e2, rfl⟩ := hd _ _ _ e
  have a1 := r.der h1
  have a2 := r.der h2
  rw [e1] at a1
  rw [e2] at a2
  exact hr pins s σ H x y v u Q I rx ry ⟨i, j, a1, a2, q⟩
theorem c_lt : OpR X (compareOp .Lt) (rC G .Lt) := c_int op_lt fun dx dy k e => by
  cases dx <;> cases dy <;> simp only [cmpD] at e <;> try (cases e; done)
  cases e; exact ⟨_, _, rfl, rfl, rfl⟩
theorem c_le : OpR X (compareOp .LtE) (rC G .LtE) := c_int op_le fun dx dy k e => by
  cases dx <;> cases dy <;> simp only [cmpD] at e <;> try (cases e; done)
  cases e; exact ⟨_, _, rfl, rfl, rfl⟩
theorem c_gt : OpR X (compareOp .Gt) (rC G .Gt) := c_int op_gt fun dx dy k e => by
  cases dx <;> cases dy <;> simp only [cmpD] at e <;> try (cases e; done)
  cases e; exact ⟨_, _, rfl, rfl, rfl⟩
theorem c_ge : OpR X (compareOp .GtE) (rC G .GtE) := c_int op_ge fun dx dy k e => by
  cases dx <;> cases dy <;> simp only [cmpD] at e <;> try (cases e; done)
  cases e; exact ⟨_, _, rfl, rfl, rfl⟩
theorem isD_spec {F : Hp} {ι : List Addr} {H : Hp} {x y : V} {dx dy : D} {k : Bool} (h1 : RepH G F ι H dx x) (h2 : RepH G F ι H dy y) (e : isD dx dy = some k) :
    (y = .non ∧ k = decide (x = .non)) ∨ (∃ a b, x = .bl a ∧ y = .bl b ∧ k = decide (a = b)) := by
  cases dy with
  | non =>
    refine .inl ⟨h2, ?_⟩
    cases dx with
    | non => cases e; cases (show x = .non from h1); rfl
    | bl b => cases e; cases (show x = _ from h1); rfl
    | int b => cases e; cases (show x = _ from h1); rfl
    | str b => cases e; cases (show x = _ from h1); rfl
    | tup b => cases e; obtain ⟨a, vs, rfl, _⟩ := h1; rfl
    | lst b => cases e; obtain ⟨a, vs, rfl, _⟩ := h1; rfl
    | scr b => cases e; obtain ⟨a, vs, rfl, _⟩ := h1; rfl
    | loc b => cases e; obtain ⟨a, rfl, _⟩ := h1; rfl
    | fn b => cases e; obtain ⟨a, vs, _, rfl, _⟩ := h1; rfl
    | ty b => cases e; cases (show x = _ from h1); rfl
  | bl b =>
    cases dx <;> simp only [isD] at e <;> try (cases e; done)
    cases e
    exact .inr ⟨_, _, h1, h2, rfl⟩
  | _ => cases dx <;> simp only [isD] at e <;> cases e
theorem c_is : OpR X (compareOp .Is) (rC G .Is) := by
  intro pins s σ H x y v u Q I rx ry ⟨dx, dy, S, F, ι, k, r, h1, h2, e, q⟩
  rcases isD_spec (r.der h1) (r.der h2) e with ⟨rfl, rfl⟩ | ⟨a, b, rfl, rfl, rfl⟩
  · exact op_isN pins s σ H x _ v u Q I rx ry ⟨rfl, q⟩
  · exact op_is_bl pins s σ H _ _ v u Q I rx ry ⟨a, b, rfl, rfl, q⟩
theorem c_isnot : OpR X (compareOp .IsNot) (rC G .IsNot) := by
  intro pins s σ H x y v u Q I rx ry ⟨dx, dy, S, F, ι, k, r, h1, h2, e, q⟩
  simp only [cmpD, Option.map_eq_some_iff] at e
  obtain ⟨k', e, rfl⟩ := e
  rcases isD_spec (r.der h1) (r.der h2) e with ⟨rfl, rfl⟩ | ⟨a, b, rfl, rfl, rfl⟩
  · exact op_notN pins s σ H x _ v u Q I rx ry ⟨rfl, q⟩
  · exact op_isnot_bl pins s σ H _ _ v u Q I rx ry ⟨a, b, rfl, rfl, q⟩
theorem flat_v {F : Hp} {ι : List Addr} {d : D} {v : V} (f : flat d = true) (h : Rep G F ι d v) : v = toV d ∧ flatV v = true := by
  cases d <;> simp only [flat] at f <;> try (cases f; done)
  all_goals (cases (show v = _ from h); exact ⟨rfl, rfl⟩)
theorem flatL_v {F : Hp} {ι : List Addr} : ∀ {ds : List D} {vs : List V}, ds.all flat = true → RepL G F ι ds vs → vs = ds.map toV ∧ vs.all flatV = true
  | [], _, _, h => by cases (show _ = _ from h); exact ⟨rfl, rfl⟩
  | d :: ds, _, f, h => by
    obtain ⟨w, ws, rfl, a, b⟩ := h
    rw [List.all_cons, Bool.and_eq_true] at f
    obtain ⟨e1, f1⟩ := flat_v f.1 a
    obtain ⟨e2, f2⟩ := flatL_v f.2 b
    exact ⟨by rw [e1, e2]; rfl, by rw [List.all_cons, f1, f2]; rfl⟩
theorem repH_flat {F : Hp} {ι : List Addr} {H : Hp} {d : D} {v : V} (f : flat d = true) (h : RepH G F ι H d v) : Rep G F ι d v := by
  cases d <;> first | exact h | (simp only [flat] at f; cases f)
theorem c_in (hK : X.K = G.K) (hu : X.A.units + 65 < cLine) : OpR X (compareOp .In) (rC G .In) := by
  intro pins s σ H x y v u Q I rx ry ⟨dx, dy, S, F, ι, k, r, h1, h2, e, q⟩
  have a1 := r.der h1
  have a2 := r.der h2
  revert a1 a2 e
  generalize Gx.der S dx = ex
  generalize Gx.der S dy = ey
  intro e a1 a2
  simp only [cmpD] at e
  split at e
  · rename_i ys
    have a3 := a2
    obtain ⟨b, ws, rfl, q2, l2⟩ := a2
    unfold inD at e
    split at e
    · rename_i hf
      have hf' := hf
      rw [Bool.and_eq_true] at hf'
      cases e
      obtain ⟨f1, f2⟩ := flat_v hf'.1 (repH_flat hf'.1 a1)
      obtain ⟨f3, f4⟩ := flatL_v hf'.2 l2
      subst f1 f3
      exact op_in_seq pins s σ H _ _ v u Q I rx ry ⟨b, _, rfl, .inr (by rw [hK]; exact r.sqT q2), f2, f4, q⟩
    · split at e
      · rename_i p ps e1 e2
        split at e
        · rename_i hs
          rw [Bool.and_eq_true] at hs
          cases e
          obtain ⟨as, r1⟩ := Dp.reads I p _ v (by rw [hK]; exact dp_der r a1 e1) rx
          obtain ⟨bs, r2⟩ := Dp.reads I (.tuple ps) _ u (by rw [hK]; exact dp_der r a3 (by simp only [toPy, e2, Option.map_some])) ry
          exact SeqAt.in_tuple_reads r2 r1 (SeqAt.canLay_of_shaped hs.2) (SeqAt.canLay_of_shaped hs.1) (room_in_shaped hs.1 hu) ⟨.bl _, H, I, rfl, q⟩
        · cases e
      · cases e
  · rename_i ys
    obtain ⟨b, ws, rfl, q2, l2⟩ := a2
    unfold inD at e
    split at e
    · rename_i hf
      have hf' := hf
      rw [Bool.and_eq_true] at hf'
      cases e
      obtain ⟨f1, f2⟩ := flat_v hf'.1 (repH_flat hf'.1 a1)
      obtain ⟨f3, f4⟩ := flatL_v hf'.2 l2
      subst f1 f3
      exact op_in_seq pins s σ H _ _ v u Q I rx ry ⟨b, _, rfl, .inl (SqL.of q2), f2, f4, q⟩
    · split at e
      · rename_i p ps e1 e2
        split at e
        · rename_i hs
          rw [Bool.and_eq_true] at hs
          cases e
          exact op_inD hu pins s σ H _ _ v u Q I rx ry ⟨p, ps, by rw [hK]; exact dp_der r a1 e1, by rw [hK]; exact .lst (SqL.of q2) (dp_ofL r _ _ _ l2 e2), hs.1, hs.2, q⟩
        · cases e
      · cases e
  · cases e
theorem c_notin (hK : X.K = G.K) (hu : X.A.units + 65 < cLine) : OpR X (compareOp .NotIn) (rC G .NotIn) := by
  intro pins s σ H x y v u Q I rx ry ⟨dx, dy, S, F, ι, k, r, h1, h2, e, q⟩
  have a1 := r.der h1
  have a2 := r.der h2
  revert a1 a2 e
  generalize Gx.der S dx = ex
  generalize Gx.der S dy = ey
  intro e a1 a2
  simp only [cmpD] at e
  split at e
  · rename_i ys
    rw [Option.map_eq_some_iff] at e
    obtain ⟨k', e, rfl⟩ := e
    have a3 := a2
    obtain ⟨b, ws, rfl, q2, l2⟩ := a2
    unfold inD at e
    split at e
    · rename_i hf
      have hf' := hf
      rw [Bool.and_eq_true] at hf'
      cases e
      obtain ⟨f1, f2⟩ := flat_v hf'.1 (repH_flat hf'.1 a1)
      obtain ⟨f3, f4⟩ := flatL_v hf'.2 l2
      subst f1 f3
      exact op_notIn_seq pins s σ H _ _ v u Q I rx ry ⟨b, _, rfl, .inr (by rw [hK]; exact r.sqT q2), f2, f4, q⟩
    · split at e
      · rename_i p ps e1 e2
        split at e
        · rename_i hs
          rw [Bool.and_eq_true] at hs
          cases e
          obtain ⟨as, r1⟩ := Dp.reads I p _ v (by rw [hK]; exact dp_der r a1 e1) rx
          obtain ⟨bs, r2⟩ := Dp.reads I (.tuple ps) _ u (by rw [hK]; exact dp_der r a3 (by simp only [toPy, e2, Option.map_some])) ry
          exact SeqAt.notIn_tuple_reads r2 r1 (SeqAt.canLay_of_shaped hs.2) (SeqAt.canLay_of_shaped hs.1) (room_in_shaped hs.1 hu) ⟨.bl _, H, I, rfl, q⟩
        · cases e
      · cases e
  · rename_i ys
    rw [Option.map_eq_some_iff] at e
    obtain ⟨k', e, rfl⟩ := e
    obtain ⟨b, ws, rfl, q2, l2⟩ := a2
    unfold inD at e
    split at e
    · rename_i hf
      have hf' := hf
      rw [Bool.and_eq_true] at hf'
      cases e
      obtain ⟨f1, f2⟩ := flat_v hf'.1 (repH_flat hf'.1 a1)
      obtain ⟨f3, f4⟩ := flatL_v hf'.2 l2
      subst f1 f3
      exact op_notIn_seq pins s σ H _ _ v u Q I rx ry ⟨b, _, rfl, .inl (SqL.of q2), f2, f4, q⟩
    · split at e
      · rename_i p ps e1 e2
        split at e
        · rename_i hs
          rw [Bool.and_eq_true] at hs
          cases e
          exact op_notInD hu pins s σ H _ _ v u Q I rx ry ⟨p, ps, by rw [hK]; exact dp_der r a1 e1, by rw [hK]; exact .lst (SqL.of q2) (dp_ofL r _ _ _ l2 e2), hs.1, hs.2, q⟩
        · cases e
      · cases e
  · cases e
theorem c_all (hK : X.K = G.K) (hu : X.A.units + 65 < cLine) (op : CmpOp) : OpR X (compareOp op) (rC G op) := by
  cases op
  · exact c_eq hK (by omega)
  · exact c_ne hK (by omega)
  · exact c_lt
  · exact c_le
  · exact c_gt
  · exact c_ge
  · exact c_is
  · exact c_isnot
  · exact c_in hK hu
  · exact c_notin hK hu
/-! ### truth -/
theorem repL_empty {F : Hp} {ι : List Addr} {ds : List D} {vs : List V} (h : RepL G F ι ds vs) : (!ds.isEmpty) = !vs.isEmpty := by
  have := h.length
  cases ds <;> cases vs <;> simp at this ⊢
theorem tru_v {S : Sto} {F : Hp} {ι : List Addr} {H : Hp} (r : RL G S F ι H) {d : D} {v : V} {k : Bool} (h : RepH G F ι H d v) (e : truD d = some k) : TruV G.K v H k := by
  cases d with
  | non => cases (show v = _ from h); cases e; rfl
  | bl b => cases (show v = _ from h); cases e; rfl
  | int b => cases (show v = _ from h); cases e; rfl
  | tup b =>
    obtain ⟨a, vs, rfl, q, l⟩ := h
    cases e
    exact .inr (.inl ⟨vs, r.sqT q, repL_empty l⟩)
  | lst b =>
    obtain ⟨a, vs, rfl, q, l⟩ := h
    cases e
    exact .inl ⟨vs, SqL.of q, repL_empty l⟩
  | _ => simp only [truD] at e; cases e
/-! ### items, slices -/
def rIx (G : Gl) : R2 := fun x y H Q => ∃ dx dy S F ι d, RL G S F ι H ∧ Rep G F ι dx x ∧ Rep G F ι dy y ∧ ixD (der S dx) dy = some d ∧ Goes G S F ι H d Q
theorem repL_atI {F : Hp} {ι : List Addr} {ds : List D} {vs : List V} {i : Int} {d : D} (h : RepL G F ι ds vs) (e : atI ds i = some d) : ∃ v, atI vs i = some v ∧ Rep G F ι d v := by
  unfold atI at e ⊢
  rw [← h.length]
  cases q : ixN ds.length i with
  | none => rw [q] at e; cases e
  | some j =>
    rw [q] at e
    exact h.get e
theorem ix_all (hK : X.K = G.K) : IxR X (rIx G) := by
  intro value slice pins s σ H x y v u Q I rx ry ⟨dx, dy, S, F, ι, d, r, h1, h2, e, k⟩ hs
  have a1 := r.der h1
  revert a1 e
  generalize Gx.der S dx = ex
  intro e a1
  cases ex <;> cases dy <;> simp only [ixD] at e <;> try (cases e; done)
  · obtain ⟨b, ws, rfl, q2, l2⟩ := a1
    obtain ⟨w, e2, rw'⟩ := repL_atI l2 e
    exact ix_tup value slice pins s σ H _ _ v u Q I rx ry ⟨b, ws, _, w, rfl, h2, by rw [hK]; exact r.sqT q2, e2, k.here r rw'⟩ hs
  · obtain ⟨b, ws, rfl, q2, l2⟩ := a1
    obtain ⟨w, e2, rw'⟩ := repL_atI l2 e
    exact ix_list value slice pins s σ H _ _ v u Q I rx ry ⟨b, ws, _, w, rfl, h2, SqL.of q2, e2, k.here r rw'⟩ hs
  · obtain ⟨b, ws, rfl, q2, l2⟩ := a1
    obtain ⟨w, e2, rw'⟩ := repL_atI l2 e
    exact ix_list value slice pins s σ H _ _ v u Q I rx ry ⟨b, ws, _, w, rfl, h2, by rw [hK]; exact r.sqL q2, e2, k.here r rw'⟩ hs
def rSl (G : Gl) : V → Option Int → Option Int → Hp → VK → Prop := fun x lo hi H Q => ∃ xs S F ι, RL G S F ι H ∧ Rep G F ι (.tup xs) x ∧ Goes G S F ι H (.tup (cutD xs lo hi)) Q
theorem sl_t (hK : X.K = G.K) : SlR X (rSl G) := by
  intro pins s σ H x v vl vu lo hi sl Q I rx hs pl pu ⟨xs, S, F, ι, r, h, k⟩
  obtain ⟨a, vs, e, q, l⟩ := h
  refine sl_tupA pins s σ H x v vl vu lo hi sl Q I rx hs pl pu ⟨a, vs, e, by rw [hK]; exact r.sqT q, fun z => ?_, fun _ p hp => k.tup r hp (l.cutD lo hi)⟩
  have e1 : Gx.cutD xs lo hi = xs := by
    unfold Gx.cutD
    rw [l.length, z.1, z.2, ← l.length]
    simp
  rw [e1] at k
  exact k.here r ⟨a, vs, rfl, q, l⟩
/-! ### built-ins -/
def rBi (G : Gl) (b : Bi) : List V → Hp → VK → Prop := fun xs H Q => ∃ ds S F ι d, RL G S F ι H ∧ RepL G F ι ds xs ∧ biD b (ds.map (der S)) = some d ∧ Goes G S F ι H d Q
theorem RepL.one {F : Hp} {ι : List Addr} {d : D} {vs : List V} (h : RepL G F ι [d] vs) : ∃ v, vs = [v] ∧ Rep G F ι d v := by
  obtain ⟨w, ws, rfl, a, b⟩ := h
  cases (show ws = [] from b)
  exact ⟨w, rfl, a⟩
theorem RepL.two {F : Hp} {ι : List Addr} {d e : D} {vs : List V} (h : RepL G F ι [d, e] vs) : ∃ v w, vs = [v, w] ∧ Rep G F ι d v ∧ Rep G F ι e w := by
  obtain ⟨w, ws, rfl, a, b⟩ := h
  obtain ⟨v, rfl, b'⟩ := RepL.one b
  exact ⟨w, v, rfl, a, b'⟩
theorem bls_v {F : Hp} {ι : List Addr} : ∀ {ds : List D} {vs : List V} {bs : List Bool}, RepL G F ι ds vs → blsD ds = some bs → vs = bs.map V.bl
  | [], _, _, h, e => by cases (show _ = _ from h); cases e; rfl
  | d :: ds, _, _, h, e => by
    obtain ⟨w, ws, rfl, a, b⟩ := h
    cases d <;> simp only [blsD] at e <;> try (cases e; done)
    rw [Option.map_eq_some_iff] at e
    obtain ⟨bs', e1, rfl⟩ := e
    rw [bls_v b e1, (show w = _ from a)]
    rfl
theorem ints_v {F : Hp} {ι : List Addr} : ∀ {ds : List D} {vs : List V} {bs : List Int}, RepL G F ι ds vs → intsD ds = some bs → vs = bs.map V.int
  | [], _, _, h, e => by cases (show _ = _ from h); cases e; rfl
  | d :: ds, _, _, h, e => by
    obtain ⟨w, ws, rfl, a, b⟩ := h
    cases d <;> simp only [intsD] at e <;> try (cases e; done)
    rw [Option.map_eq_some_iff] at e
    obtain ⟨bs', e1, rfl⟩ := e
    rw [ints_v b e1, (show w = _ from a)]
    rfl
/-- one argument, read -/
theorem bi_one {b : Bi} {xs : List V} {H : Hp} {Q : VK} {P : Prop} (h : rBi G b xs H Q) (hl : ∀ as d, biD b as = some d → as.length = 1)
    (k : ∀ e v S F ι d, RL G S F ι H → RepH G F ι H e v → xs = [v] → biD b [e] = some d → Goes G S F ι H d Q → P) : P := by
  obtain ⟨ds, S, F, ι, d, r, l, e, g⟩ := h
  have := hl _ _ e
  match ds, this with
  | [x], _ =>
    obtain ⟨v, rfl, a⟩ := l.one
    exact k _ v S F ι d r (r.der a) rfl e g
theorem bi_len (hK : X.K = G.K) : CallR X (.builtin "len") (rBi G .len) := by
  intro pins s σ H xs us Q I rx h
  refine bi_one h (fun as d e => by
    cases as with
    | nil => cases e
    | cons a r => cases r with
      | nil => rfl
      | cons b r => cases a <;> cases e) fun e v S F ι d r a e1 e2 g => ?_
  subst e1
  cases e <;> simp only [biD] at e2 <;> try (cases e2; done)
  · rename_i x
    cases (show v = _ from a)
    split at e2
    · cases e2
      exact L2.call_len pins s σ H _ us Q I rx ⟨_, x.length, rfl, ⟨by rw [← sz_eq]; assumption, rfl⟩, g.here r rfl⟩
    · cases e2
  · obtain ⟨b, ws, rfl, q2, l2⟩ := a
    cases e2
    exact L2.call_len pins s σ H _ us Q I rx ⟨_, ws.length, rfl, .inr ⟨ws, by rw [hK]; exact r.sqT q2, rfl⟩, g.here r (by rw [l2.length]; rfl)⟩
  · obtain ⟨b, ws, rfl, q2, l2⟩ := a
    cases e2
    exact L2.call_len pins s σ H _ us Q I rx ⟨_, ws.length, rfl, .inl ⟨ws, SqL.of q2, rfl⟩, g.here r (by rw [l2.length]; rfl)⟩
  · obtain ⟨b, ws, rfl, q2, l2⟩ := a
    cases e2
    exact L2.call_len pins s σ H _ us Q I rx ⟨_, ws.length, rfl, .inl ⟨ws, by rw [hK]; exact r.sqL q2, rfl⟩, g.here r (by rw [l2.length]; rfl)⟩
theorem bi_tuple (hK : X.K = G.K) : CallR X (.type "tuple") (rBi G .tuple) := by
  intro pins s σ H xs us Q I rx h
  refine bi_one h (fun as d e => by
    cases as with
    | nil => cases e
    | cons a r => cases r with
      | nil => rfl
      | cons b r => cases a <;> cases e) fun e v S F ι d r a e1 e2 g => ?_
  subst e1
  cases e <;> simp only [biD] at e2 <;> try (cases e2; done)
  · obtain ⟨b, ws, rfl, q2, l2⟩ := a
    cases e2
    exact call_tuple_of pins s σ H _ us Q I rx ⟨b, ws, rfl, .inr ⟨by rw [hK]; exact r.sqT q2, g.here r ⟨b, ws, rfl, q2, l2⟩⟩⟩
  · obtain ⟨b, ws, rfl, q2, l2⟩ := a
    cases e2
    exact call_tuple_of pins s σ H _ us Q I rx ⟨b, ws, rfl, .inl ⟨SqL.of q2, fun l hl => g.tup r hl l2⟩⟩
theorem bi_all (hc : X.calm = true) : CallR X (.builtin "all") (rBi G .all) := by
  intro pins s σ H xs us Q I rx h
  refine bi_one h (fun as d e => by
    cases as with
    | nil => cases e
    | cons a r => cases r with
      | nil => rfl
      | cons b r => cases a <;> cases e) fun e v S F ι d r a e1 e2 g => ?_
  subst e1
  cases e <;> simp only [biD] at e2 <;> try (cases e2; done)
  obtain ⟨b, ws, rfl, q2, l2⟩ := a
  rw [Option.map_eq_some_iff] at e2
  obtain ⟨bs, e3, rfl⟩ := e2
  exact cr_all hc pins s σ H _ us Q I rx ⟨b, bs, rfl, SqL.of (by rw [q2, bls_v l2 e3]), g.here r rfl⟩
theorem bi_any (hc : X.calm = true) : CallR X (.builtin "any") (rBi G .any) := by
  intro pins s σ H xs us Q I rx h
  refine bi_one h (fun as d e => by
    cases as with
    | nil => cases e
    | cons a r => cases r with
      | nil => rfl
      | cons b r => cases a <;> cases e) fun e v S F ι d r a e1 e2 g => ?_
  subst e1
  cases e <;> simp only [biD] at e2 <;> try (cases e2; done)
  obtain ⟨b, ws, rfl, q2, l2⟩ := a
  rw [Option.map_eq_some_iff] at e2
  obtain ⟨bs, e3, rfl⟩ := e2
  exact cr_any hc pins s σ H _ us Q I rx ⟨b, bs, rfl, SqL.of (by rw [q2, bls_v l2 e3]), g.here r rfl⟩
theorem bi_sum (hc : X.calm = true) : CallR X (.builtin "sum") (rBi G .sum) := by
  intro pins s σ H xs us Q I rx h
  refine bi_one h (fun as d e => by
    cases as with
    | nil => cases e
    | cons a r => cases r with
      | nil => rfl
      | cons b r => cases a <;> cases e) fun e v S F ι d r a e1 e2 g => ?_
  subst e1
  cases e <;> simp only [biD] at e2 <;> try (cases e2; done)
  obtain ⟨b, ws, rfl, q2, l2⟩ := a
  rw [Option.map_eq_some_iff] at e2
  obtain ⟨bs, e3, rfl⟩ := e2
  exact cr_sum hc pins s σ H _ us Q I rx ⟨b, bs, rfl, SqL.of (by rw [q2, ints_v l2 e3]), g.here r rfl⟩
theorem bi_abs : CallR X (.builtin "abs") (rBi G .abs) := by
  intro pins s σ H xs us Q I rx h
  refine bi_one h (fun as d e => by
    cases as with
    | nil => cases e
    | cons a r => cases r with
      | nil => rfl
      | cons b r => cases a <;> cases e) fun e v S F ι d r a e1 e2 g => ?_
  subst e1
  cases e <;> simp only [biD] at e2 <;> try (cases e2; done)
  cases (show v = _ from a)
  cases e2
  exact call_abs pins s σ H _ us Q I rx ⟨_, rfl, g.here r rfl⟩
theorem bi_int : CallR X (.type "int") (rBi G .int) := by
  intro pins s σ H xs us Q I rx h
  refine bi_one h (fun as d e => by
    cases as with
    | nil => cases e
    | cons a r => cases r with
      | nil => rfl
      | cons b r => cases a <;> cases e) fun e v S F ι d r a e1 e2 g => ?_
  subst e1
  cases e <;> simp only [biD] at e2 <;> try (cases e2; done)
  · cases (show v = _ from a)
    cases e2
    exact call_int1 pins s σ H _ us Q I rx (.inr ⟨_, rfl, g.here r rfl⟩)
  · cases (show v = _ from a)
    cases e2
    exact call_int1 pins s σ H _ us Q I rx (.inl ⟨_, rfl, g.here r rfl⟩)
/-- two arguments, read -/
theorem bi_two {b : Bi} {xs : List V} {H : Hp} {Q : VK} {P : Prop} (h : rBi G b xs H Q) (hl : ∀ as d, biD b as = some d → ∃ i j, as = [.int i, .int j])
    (k : ∀ i j S F ι d, RL G S F ι H → xs = [.int i, .int j] → biD b [.int i, .int j] = some d → Goes G S F ι H d Q → P) : P := by
  obtain ⟨ds, S, F, ι, d, r, l, e, g⟩ := h
  obtain ⟨i, j, e1⟩ := hl _ _ e
  rw [e1] at e
  rcases ds with _ | ⟨x, _ | ⟨y, _ | ⟨z, r'⟩⟩⟩
  · simp at e1
  · simp at e1
  · obtain ⟨v, w, rfl, a, b⟩ := l.two
    have a' := r.der a
    have b' := r.der b
    simp only [List.map_cons, List.map_nil, List.cons.injEq, and_true] at e1
    rw [e1.1] at a'
    rw [e1.2] at b'
    exact k i j S F ι d r (by rw [(show v = _ from a'), (show w = _ from b')]) e g
  · simp at e1
theorem bi2 {b : Bi} (hb : b = .max2 ∨ b = .min2) (as : List D) (d : D) (e : biD b as = some d) : ∃ i j, as = [.int i, .int j] := by
  rcases as with _ | ⟨x, _ | ⟨y, _ | ⟨z, r⟩⟩⟩
  · rcases hb with rfl | rfl <;> cases e
  · rcases hb with rfl | rfl <;> cases x <;> cases e
  · rcases hb with rfl | rfl <;> cases x <;> first | cases e | (cases y <;> first | exact ⟨_, _, rfl⟩ | cases e)
  · rcases hb with rfl | rfl <;> cases x <;> first | cases e | (cases y <;> cases e)
theorem bi_max (hc : X.calm = true) : CallR X (.builtin "max") (rBi G .max2) := by
  intro pins s σ H xs us Q I rx h
  refine bi_two h (bi2 (.inl rfl)) fun i j S F ι d r e1 e2 g => ?_
  subst e1
  cases e2
  exact call_max2 hc pins s σ H _ us Q I rx ⟨_, _, rfl, g.here r rfl⟩
theorem bi_min (hc : X.calm = true) : CallR X (.builtin "min") (rBi G .min2) := by
  intro pins s σ H xs us Q I rx h
  refine bi_two h (bi2 (.inr rfl)) fun i j S F ι d r e1 e2 g => ?_
  subst e1
  cases e2
  exact call_min2 hc pins s σ H _ us Q I rx ⟨_, _, rfl, g.here r rfl⟩
/-! ### repr -/
theorem repr_reads {P : Program} {w : World} {A : Around} {E : Value → Shared → Prop} {s : Shared} {u : Value} {p : PyData} {as : List Addr} {Q : Value → Shared → Prop} (r : Reads s.heap u p as) (hs : SeqAt.shaped p = true) (h1 : p.showable = true) (h2 : p.hasDict = false) (h3 : p.shown.length ≤ sizeLine) (hg : A.guards = some []) (hu : A.units + 65 < cLine)
    (k : ∀ h' t tk, (∀ b o, s.heap.get? b = some o → h'.get? b = some o) → Q (.str p.shown t) { s with heap := h', toks := tk }) : wpAny (model P w) A (call (.builtin "repr") [u]) Q E s := by
  have dp : A.units + (p.depth + 1) < cLine := by
    have := SeqAt.depth_of_shaped hs
    omega
  have nd : p.hasDict = true → sysModules ∉ as := fun z => by rw [h2] at z; cases z
  cases r with
  | none => exact PySem.P.repr_of_none (k _ _ _ fun _ _ e => e)
  | bool b => exact PySem.P.repr_of_bool (by cases b <;> exact k _ _ _ fun _ _ e => e)
  | int i t => exact PySem.P.repr_of_int (of_decide_eq_true h1) (k _ _ _ fun _ _ e => e)
  | str x t => exact PySem.P.repr_of_str (k _ _ _ fun _ _ e => e) h3
  | list a b c d => exact repr_of_reads' (Reads.list a b c d) h1 nd hg dp (fun _ _ e => e) k h3
  | tuple a b c d => exact repr_of_reads' (Reads.tuple a b c d) h1 nd hg dp (fun _ _ e => e) k h3
  | dict => cases h2
theorem bi_repr (hK : X.K = G.K) (hg : X.A.guards = some []) (hu : X.A.units + 65 < cLine) : CallR X (.builtin "repr") (rBi G .repr) := by
  intro pins s σ H xs us Q I rx h
  refine bi_one h (fun as d e => by
    cases as with
    | nil => cases e
    | cons a r => cases r with
      | nil => rfl
      | cons b r => cases a <;> cases e) fun e v S F ι d r a e1 e2 g => ?_
  subst e1
  obtain ⟨p, hp, e3⟩ := Option.bind_eq_some_iff.mp (show (toPy e).bind shownD = some d from e2)
  unfold shownD at e3
  split at e3
  · rename_i hq
    simp only [Bool.and_eq_true, Bool.not_eq_true', decide_eq_true_eq] at hq
    cases e3
    obtain ⟨u, rfl, ru⟩ := vals1 rx
    obtain ⟨as, rd⟩ := Dp.reads I p v u (by rw [hK]; exact dp_der r a hp) ru
    exact repr_reads rd hq.1.1.1 hq.1.1.2 hq.1.2 (by rw [← sz_eq]; exact hq.2) hg hu fun h' t tk hk => ⟨.str _, H, I.kept (t' := tk) hk, ⟨t, rfl⟩, g.here r rfl⟩
  · cases e3
end Gx
set_option Elab.async false
set_option linter.all false
set_option maxRecDepth 100000
set_option maxHeartbeats 4000000
/-! Gx: a tuple or a list, some times. -/
namespace Gx
open PySem PySem.Spec PyProof.Rows L2
abbrev tobj (dd : Option Addr) (items : Array Value) (n : Nat) (sl : Array (Option Value)) : Obj := { cls := .type "tuple", dict := dd, data := .seq items n, slots := sl }
/-- once, or nothing at all: the tuple itself -/
theorem mulT_same (l : Addr) (items : Array Value) (n : Nat) (dd : Option Addr) (sl : Array (Option Value)) (x : Int) (u : Tok)
    (c0 : (decide (x < -(2 ^ 63)) || decide (x ≥ 2 ^ 63)) = false) (c1 : (items.isEmpty || x == 1) = true) :
    Meets (Builtin.«tuple.__mul__» ⟨[.ref l, .int x u], []⟩) fun _ R s => s.heap.get? l = some (tobj dd items n sl) ∧ R (.ok (.ret (Value.ref l))) s :=
  .of_wp fun prog w A R s h => by
    obtain ⟨hp, g, d, tk, os⟩ := s
    obtain ⟨hl, h⟩ := h
    have f1 := AutoSeq1.idx_int
    wp_walk using wpAny_loadPart' hl
    repeat (first
      | (refine wpAny_ite_false (decide_eq_false (by rw [c0]; exact Bool.false_ne_true)) ?_; wp_walk using wpAny_loadPart' hl)
      | (refine wpAny_ite_true (decide_eq_true c1) ?_; wp_walk using wpAny_loadPart' hl))
    exact ⟨_, rfl, h⟩
/-- no time: an empty tuple, new -/
theorem mulT_none (l : Addr) (items : Array Value) (n : Nat) (dd : Option Addr) (sl : Array (Option Value)) (x : Int) (u : Tok)
    (c0 : (decide (x < -(2 ^ 63)) || decide (x ≥ 2 ^ 63)) = false) (c1 : (items.isEmpty || x == 1) = false) (c2 : (decide (x ≤ 0) || items.isEmpty) = true) :
    Meets (Builtin.«tuple.__mul__» ⟨[.ref l, .int x u], []⟩) fun _ R s => s.heap.get? l = some (tobj dd items n sl) ∧
      R (.ok (.ret (Value.ref s.heap.objs.size))) { s with heap := s.heap.push { cls := Value.type "tuple", data := Data.seq #[] } } :=
  .of_wp fun prog w A R s h => by
    obtain ⟨hp, g, d, tk, os⟩ := s
    obtain ⟨hl, h⟩ := h
    have f1 := AutoSeq1.idx_int
    wp_walk using wpAny_loadPart' hl
    repeat (first
      | (refine wpAny_ite_false (decide_eq_false (by rw [c0]; exact Bool.false_ne_true)) ?_; wp_walk using wpAny_loadPart' hl)
      | (refine wpAny_ite_false (decide_eq_false (by rw [c1]; exact Bool.false_ne_true)) ?_; wp_walk using wpAny_loadPart' hl)
      | (refine wpAny_ite_true (decide_eq_true c2) ?_; wp_walk using wpAny_loadPart' hl))
    exact ⟨_, rfl, h⟩
variable {X : Cx} {G : Gl}
theorem rep1 {α : Type} (xs : List α) : (List.replicate 1 xs).flatten = xs := by simp
theorem rep_nil {α : Type} (n : Nat) : (List.replicate n ([] : List α)).flatten = [] := by simp
/-- tuple * int, any int of the machine's size -/
def rRepG (K : PySem.W.Frag) : R2 := fun x y H Q => ∃ l k xs, x = .ref l ∧ y = .int k ∧ SqT K H l xs ∧ -(2 ^ 63) ≤ k ∧ k < 2 ^ 63 ∧ xs.length * k.toNat ≤ sizeLine ∧
  ((List.replicate k.toNat xs).flatten = xs → Q (.ref l) H) ∧ ∀ p, H p = none → Q (.ref p) (upd H p (.tup (List.replicate k.toNat xs).flatten))
theorem op_repG : OpR X (binaryOp .Mult) (rRepG X.K) := by
  intro pins s σ H x y v u Q I rx ry ⟨l, k, xs, e1, e2, hT, lo, hi, hz, q1, q2⟩
  subst e1 e2
  cases rx
  obtain ⟨tk, rfl⟩ := ry
  obtain ⟨its, r, ⟨⟨cl, dd, dat, sl⟩, ho, hcl, n, hdt⟩, hs⟩ := I.tuple hT
  dsimp only at hcl hdt
  subst hcl hdt
  have len : its.length = xs.length := r.length.symm
  have c0 : (decide (k < -(2 ^ 63)) || decide (k ≥ 2 ^ 63)) = false := by
    rw [decide_eq_false (by omega), decide_eq_false (by omega)] <;> rfl
  by_cases h1 : (its.toArray.isEmpty || k == 1) = true
  · have same : (List.replicate k.toNat xs).flatten = xs := by
      rw [Bool.or_eq_true] at h1
      rcases h1 with h1 | h1
      · have : its = [] := by cases its <;> first | rfl | cases h1
        subst this
        have : xs = [] := List.eq_nil_of_length_eq_zero (by rw [← len]; rfl)
        rw [this]; exact rep_nil _
      · rw [eq_of_beq h1]; exact rep1 xs
    refine wpAny_binaryOp_repeat_ref (T := "tuple") (U := "int") (by decide) ⟨_, ho, rfl⟩ (fun s' => typeIs_int s' k tk) noFill_tuple_mul F.fills_int_mul F.slot_int_rmul repeat_tuple F.slot_int_index.lookup
      (call_meets F.slot_int_rmul (typeIs_int s k tk) F.entry_int_rmul (F.args_int_rmul_2 _ _) (int_rmul_tuple k tk l its.toArray n dd sl)
        ⟨ho, rfl, ⟨_, ho, rfl⟩, call_meets F.slot_tuple_mul ⟨_, ho, rfl⟩ F.entry_tuple_mul (F.args_tuple_mul_2 _ _) (mulT_same l its.toArray n dd sl k tk c0 h1) ⟨ho, ?_⟩⟩)
    exact ⟨.ref l, H, I, rfl, q1 same⟩
  · have c1 : (its.toArray.isEmpty || k == 1) = false := by simpa using h1
    have ne : its.toArray.isEmpty = false := (Bool.or_eq_false_iff.mp c1).1
    by_cases h2 : k ≤ 0
    · have c2 : (decide (k ≤ 0) || its.toArray.isEmpty) = true := by rw [decide_eq_true h2] <;> rfl
      have emp : (List.replicate k.toNat xs).flatten = [] := by
        have : k.toNat = 0 := by omega
        rw [this]; rfl
      refine wpAny_binaryOp_repeat_ref (T := "tuple") (U := "int") (by decide) ⟨_, ho, rfl⟩ (fun s' => typeIs_int s' k tk) noFill_tuple_mul F.fills_int_mul F.slot_int_rmul repeat_tuple F.slot_int_index.lookup
        (call_meets F.slot_int_rmul (typeIs_int s k tk) F.entry_int_rmul (F.args_int_rmul_2 _ _) (int_rmul_tuple k tk l its.toArray n dd sl)
          ⟨ho, rfl, ⟨_, ho, rfl⟩, call_meets F.slot_tuple_mul ⟨_, ho, rfl⟩ F.entry_tuple_mul (F.args_tuple_mul_2 _ _) (mulT_none l its.toArray n dd sl k tk c0 c1 c2) ⟨ho, ?_⟩⟩)
      refine ⟨.ref s.heap.objs.size, _, I.laid (t' := s.toks) (o := .tup []) (fun b ob z => Heap.get?_push_of_some _ z) (Nat.le_refl _) ?_, rfl, ?_⟩
      · exact ⟨Nat.zero_le _, [], .nil, IsTup.new _ _⟩
      · have := q2 _ (I.hok.fresh (Nat.le_refl _))
        rw [emp] at this
        exact this
    · have c2 : (decide (k ≤ 0) || its.toArray.isEmpty) = false := by rw [decide_eq_false h2, ne] <;> rfl
      have sz0 : its.toArray.size = xs.length := by rw [List.size_toArray, len]
      have big : ((its.toArray.size : Nat) : Int) * k ≤ 16777216 := by
        rw [sz0]
        rw [sizeLine_eq] at hz
        have : ((xs.length * k.toNat : Nat) : Int) ≤ 16777216 := by omega
        rw [Int.natCast_mul] at this
        have kk : ((k.toNat : Nat) : Int) = k := by omega
        rw [kk] at this
        exact this
      have c4 : Builtin.Tuple.tupleTooMany (((its.toArray.size : Nat) : Int) * k) = false := by
        unfold Builtin.Tuple.tupleTooMany
        rw [sizeLine_eq]
        exact decide_eq_false (by omega)
      have fl : (List.replicate k.toNat its).flatten.length ≤ sizeLine := by
        rw [PyProof.Rows.lm_len_rep_flat, len, Nat.mul_comm]
        exact hz
      refine wpAny_binaryOp_repeat_ref (T := "tuple") (U := "int") (by decide) ⟨_, ho, rfl⟩ (fun s' => typeIs_int s' k tk) noFill_tuple_mul F.fills_int_mul F.slot_int_rmul repeat_tuple F.slot_int_index.lookup
        (call_meets F.slot_int_rmul (typeIs_int s k tk) F.entry_int_rmul (F.args_int_rmul_2 _ _) (int_rmul_tuple k tk l its.toArray n dd sl)
          ⟨ho, rfl, ⟨_, ho, rfl⟩, call_meets F.slot_tuple_mul ⟨_, ho, rfl⟩ F.entry_tuple_mul (F.args_tuple_mul_2 _ _) (tuple_mulW l its.toArray n dd sl k tk c0 c1 c2 (by omega) c4 (by rw [size_rep, List.size_toArray]; exact fl)) ⟨ho, ?_⟩⟩)
      rw [size_rep]
      refine ⟨.ref s.heap.objs.size, _, I.laid (t' := s.toks) (o := .tup (List.replicate k.toNat xs).flatten) (fun b ob z => Heap.get?_push_of_some _ z) (Nat.le_refl _) ?_, rfl, q2 _ (I.hok.fresh (Nat.le_refl _))⟩
      exact ⟨by rw [PyProof.Rows.lm_len_rep_flat, Nat.mul_comm]; exact hz, _, r.rep k.toNat, IsTup.new _ _⟩
theorem b_mul (hK : X.K = G.K) : OpR X (binaryOp .Mult) (rB G .Mult) := by
  intro pins s σ H x y v u Q I rx ry ⟨dx, dy, S, F, ι, d, r, h1, h2, e, k⟩
  cases dx <;> cases dy <;> simp only [bopD] at e <;> try (cases e; done)
  · split at e
    · cases e
      exact op_mul pins s σ H x y v u Q I rx ry ⟨_, _, h1, h2, mulOk_c (by assumption), k.here r rfl⟩
    · cases e
  · rename_i xs n
    split at e
    · rename_i hc
      cases e
      obtain ⟨a, vs, e1, q, l⟩ := h1
      refine op_repG pins s σ H x y v u Q I rx ry ⟨a, n, vs, e1, h2, by rw [hK]; exact r.sqT q, by omega, by omega, by rw [← l.length, ← sz_eq]; exact hc.1, fun same => ?_, fun p hp => k.tup r hp (l.rep n.toNat)⟩
      have := l.rep n.toNat
      rw [same] at this
      exact k.here r ⟨a, vs, rfl, q, this⟩
    · cases e
/-! ### lists made by an operator -/
def GoesL (G : Gl) (S : Sto) (F : Hp) (ι : List Addr) (H : Hp) (ds : List D) (Q : VK) : Prop := ∀ p vs, H p = none → RepL G F ι ds vs → Q (.ref p) (upd H p (.lst vs))
def rL (G : Gl) (op : Operator) : R2 := fun x y H Q => ∃ dx dy S F ι ds, RL G S F ι H ∧ Rep G F ι dx x ∧ Rep G F ι dy y ∧ lopD op (der S dx) (der S dy) = some ds ∧ GoesL G S F ι H ds Q
theorem l_add : OpR X (binaryOp .Add) (rL G .Add) := by
  intro pins s σ H x y v u Q I rx ry ⟨dx, dy, S, F, ι, ds, r, h1, h2, e, k⟩
  have a1 := r.der h1
  have a2 := r.der h2
  revert a1 a2 e
  generalize Gx.der S dx = ex
  generalize Gx.der S dy = ey
  intro e a1 a2
  cases ex <;> cases ey <;> simp only [lopD] at e <;> try (cases e; done)
  split at e
  · rename_i hz
    cases e
    obtain ⟨a, us, e1, q1, l1⟩ := a1
    obtain ⟨b, ws, e2, q2, l2⟩ := a2
    exact op_cat pins s σ H x y v u Q I rx ry ⟨a, b, us, ws, e1, e2, q1, q2, by rw [← l1.length, ← l2.length, ← sz_eq]; exact hz, fun p hp => k p _ hp (l1.append l2)⟩
  · cases e
theorem l_mul : OpR X (binaryOp .Mult) (rL G .Mult) := by
  intro pins s σ H x y v u Q I rx ry ⟨dx, dy, S, F, ι, ds, r, h1, h2, e, k⟩
  have a1 := r.der h1
  have a2 := r.der h2
  revert a1 a2 e
  generalize Gx.der S dx = ex
  generalize Gx.der S dy = ey
  intro e a1 a2
  cases ex <;> cases ey <;> simp only [lopD] at e <;> try (cases e; done)
  split at e
  · rename_i hz
    cases e
    obtain ⟨a, us, e1, q1, l1⟩ := a1
    exact op_rep pins s σ H x y v u Q I rx ry ⟨a, _, us, e1, a2, q1, by omega, by omega, by rw [← l1.length, ← sz_eq]; exact hz.1, fun p hp => k p _ hp (l1.rep _)⟩
  · cases e
theorem l_all (op : Operator) : OpR X (binaryOp op) (rL G op) := by
  cases op
  case Add => exact l_add
  case Mult => exact l_mul
  all_goals
    intro pins s σ H x y v u Q I rx ry ⟨dx, dy, S, F, ι, ds, r, h1, h2, e, k⟩
    revert e
    generalize Gx.der S dx = ex
    generalize Gx.der S dy = ey
    intro e
    cases ex <;> cases ey <;> cases e
end Gx
set_option Elab.async false
set_option linter.all false
set_option maxRecDepth 100000
set_option maxHeartbeats 1000000
/-! Gx: results as readings. -/
namespace Gx
open PySem PySem.Spec PyProof.Rows L2
/-- how an error lies -/
def ExR (G : Gl) (H : Hp) (c : Str) (p : Option D) (cls : Value) (dd : Option Addr) : Prop :=
  (∃ C, G.mg c = some (.ref C) ∧ cls = .ref C) ∧ match p with
    | none => dd = none
    | some d => flat d = true ∧ ∃ dx fld, dd = some dx ∧ H dx = some (.xd [(fld, toV d)])
def Pst (G : Gl) (W : WX) (σ : L2.St) (F : Hp) (ι : List Addr) (H : Hp) {α : Type} (r : R α) (Q : α → Sto → Hp → List Addr → Hp → Prop) : Prop := match r with
  | .ok a S' => ∀ F' ι' H', Ext F ι H F' ι' H' → RL G S' F' ι' H' → Q a S' F' ι' H'
  | .exc c p S' => ∀ cls dd F' ι' H', Ext F ι H F' ι' H' → RL G S' F' ι' H' → ExR G H' c p cls dd → W cls dd σ H'
  | .stuck => False
def ER (G : Gl) (F : Hp) (ι : List Addr) (ρ : Env) (σ : L2.St) : Prop := ρ.length = σ.length ∧ ∀ (i : Nat) (d : D), ρ[i]? = some (some d) → ∃ v, σ[i]? = some (some v) ∧ Rep G F ι d v
section
variable {G : Gl} {W : WX} {σ : L2.St} {S S' : Sto} {F F' : Hp} {ι ι' : List Addr} {H H' : Hp} {α β : Type} {ρ : Env}
theorem ER.ext (h : ER G F ι ρ σ) (e : Ext F ι H F' ι' H') : ER G F' ι' ρ σ := ⟨h.1, fun i d hi => by
  obtain ⟨v, a, b⟩ := h.2 i d hi
  exact ⟨v, a, e.rep b⟩⟩
theorem ER.set (h : ER G F ι ρ σ) {i : Nat} {d : D} {v : V} (r : Rep G F ι d v) : ER G F ι (ρ.set i (some d)) (σ.set i (some v)) := by
  refine ⟨by simp [h.1], fun j e hj => ?_⟩
  by_cases q : j = i
  · subst q
    have hl : j < ρ.length := by
      have := (List.getElem?_eq_some_iff.mp hj).1
      simpa using this
    rw [List.getElem?_set_self hl] at hj
    cases hj
    exact ⟨v, List.getElem?_set_self (by rw [← h.1]; exact hl), r⟩
  · rw [List.getElem?_set_ne (Ne.symm q)] at hj
    rw [List.getElem?_set_ne (Ne.symm q)]
    exact h.2 j e hj
theorem ER.unset (h : ER G F ι ρ σ) (i : Nat) : ER G F ι (ρ.set i none) (σ.set i none) := by
  refine ⟨by simp [h.1], fun j e hj => ?_⟩
  by_cases q : j = i
  · subst q
    have hl : j < ρ.length := by
      have := (List.getElem?_eq_some_iff.mp hj).1
      simpa using this
    rw [List.getElem?_set_self hl] at hj
    cases hj
  · rw [List.getElem?_set_ne (Ne.symm q)] at hj
    rw [List.getElem?_set_ne (Ne.symm q)]
    exact h.2 j e hj
theorem ER.wipe (h : ER G F ι ρ σ) : ∀ own : List Nat, ER G F ι (wipeE ρ own) (L2.wipe σ own)
  | [] => h
  | i :: r => (ER.wipe h r).unset i
theorem Pst.imp {r : R α} {Q Q' : α → Sto → Hp → List Addr → Hp → Prop} (h : Pst G W σ F ι H r Q) (k : ∀ a S' F' ι' H', Ext F ι H F' ι' H' → RL G S' F' ι' H' → Q a S' F' ι' H' → Q' a S' F' ι' H') : Pst G W σ F ι H r Q' := by
  cases r with
  | ok a S' => exact fun F' ι' H' e l => k _ _ _ _ _ e l (h F' ι' H' e l)
  | exc c p S' => exact h
  | stuck => exact h
/-- a bound result: the first, then the rest from where it left -/
theorem Pst.bind {r : R α} {f : α → Sto → R β} {Q : β → Sto → Hp → List Addr → Hp → Prop} (h : Pst G W σ F ι H (r.bind f) Q) : Pst G W σ F ι H r fun a S1 F1 ι1 H1 => Pst G W σ F1 ι1 H1 (f a S1) Q := by
  cases r with
  | ok a S1 =>
    intro F1 ι1 H1 e l
    have h' : Pst G W σ F ι H (f a S1) Q := h
    cases q : f a S1 with
    | ok b S2 => rw [q] at h'; exact fun F2 ι2 H2 e2 l2 => h' F2 ι2 H2 (e.trans l e2) l2
    | exc c p S2 => rw [q] at h'; exact fun cls dd F2 ι2 H2 e2 l2 => h' cls dd F2 ι2 H2 (e.trans l e2) l2
    | stuck => rw [q] at h'; exact h'
  | exc c p S1 => exact h
  | stuck => exact h
theorem Pst.opt {o : Option α} {Q : α → Sto → Hp → List Addr → Hp → Prop} (h : Pst G W σ F ι H (Gx.opt o S) Q) : ∃ a, o = some a ∧ ∀ F' ι' H', Ext F ι H F' ι' H' → RL G S F' ι' H' → Q a S F' ι' H' := by
  cases o with
  | none => exact (show False from h).elim
  | some a => exact ⟨a, rfl, h⟩
/-! ### readings -/
def tE (G : Gl) (W : WX) (f : Env → Sto → R D) : TE := fun σ H Q => ∃ ρ S F ι, ER G F ι ρ σ ∧ RL G S F ι H ∧ Pst G W σ F ι H (f ρ S) fun d _ F' ι' H' => ∀ v, Rep G F' ι' d v → Q v H'
def tT (G : Gl) (W : WX) (f : Env → Sto → R Bool) : TT := fun σ H Q => ∃ ρ S F ι, ER G F ι ρ σ ∧ RL G S F ι H ∧ Pst G W σ F ι H (f ρ S) fun b _ _ _ H' => Q b H'
def tEs (G : Gl) (W : WX) (f : Env → Sto → R (List D)) : TA := fun σ H Q => ∃ ρ S F ι, ER G F ι ρ σ ∧ RL G S F ι H ∧ Pst G W σ F ι H (f ρ S) fun ds _ F' ι' H' => ∀ vs, RepL G F' ι' ds vs → Q vs H'
def tO (G : Gl) (W : WX) (f : Env → Sto → R (Option Int)) : L2.TO := fun σ H Q => ∃ ρ S F ι, ER G F ι ρ σ ∧ RL G S F ι H ∧ Pst G W σ F ι H (f ρ S) fun o _ _ _ H' => Q o H'
/-- a new list -/
def tF (G : Gl) (W : WX) (f : Env → Sto → R (List D)) : TE := fun σ H Q => ∃ ρ S F ι, ER G F ι ρ σ ∧ RL G S F ι H ∧ Pst G W σ F ι H (f ρ S) fun ds _ F' ι' H' => ∀ p vs, H' p = none → RepL G F' ι' ds vs → Q (.ref p) (upd H' p (.lst vs))
/-- what is walked yields these -/
def ItOk (G : Gl) (J : It) (l : List D) (F : Hp) (ι : List Addr) (H : Hp) : Prop := ∀ (i : Nat) (S' : Sto) (F' : Hp) (ι' : List Addr) (H' : Hp), Ext F ι H F' ι' H' → RL G S' F' ι' H' →
  (l.length ≤ i → J.stop i H') ∧ ∀ d, l[i]? = some d → J.go i H' ∧ ∀ x H'', J.yld i H' x H'' → ∃ F'', Ext F' ι' H' F'' ι' H'' ∧ RL G S' F'' ι' H'' ∧ Rep G F'' ι' d x
def tI (G : Gl) (W : WX) (f : Env → Sto → R Its) : TI := fun σ H R => ∃ ρ S F ι, ER G F ι ρ σ ∧ RL G S F ι H ∧ Pst G W σ F ι H (f ρ S) fun z _ F' ι' H' => match z with
  | .items l => ∀ J, ItOk G J l F' ι' H' → R J H'
  | .at_ k => ∀ a, ι'[k]? = some a → R (Itl G.K a) H'
/-- a target: what it leaves alone -/
def tG (G : Gl) (W : WX) (ns : List Nat) (f : D → Env → Sto → R Env) : TG := fun v σ H Q => ∃ d ρ S F ι, ER G F ι ρ σ ∧ RL G S F ι H ∧ Rep G F ι d v ∧ Pst G W σ F ι H (f d ρ S) fun ρ' _ F' ι' H' => ∀ σ', ER G F' ι' ρ' σ' → σ'.length = σ.length → (∀ i, i ∉ ns → σ'[i]? = σ[i]?) → Q σ' H'
def tGs (G : Gl) (W : WX) (ns : List Nat) (f : List D → Env → Sto → R Env) : TGs := fun vs σ H Q => ∃ ds ρ S F ι, ER G F ι ρ σ ∧ RL G S F ι H ∧ RepL G F ι ds vs ∧ Pst G W σ F ι H (f ds ρ S) fun ρ' _ F' ι' H' => ∀ σ', ER G F' ι' ρ' σ' → σ'.length = σ.length → (∀ i, i ∉ ns → σ'[i]? = σ[i]?) → Q σ' H'
theorem pe_weak {X : Cx} {e : Expr} {t t' : TE} (h : PE X e t) (k : ∀ σ H Q, t' σ H Q → t σ H Q) : PE X e t' := ⟨fun pins s σ H Q I q => h.run pins s σ H Q I (k _ _ _ q)⟩
theorem pt_weak {X : Cx} {e : Expr} {t t' : TT} (h : PT X e t) (k : ∀ σ H Q, t' σ H Q → t σ H Q) : PT X e t' := ⟨fun pins s σ H Q I q => h.run pins s σ H Q I (k _ _ _ q)⟩
theorem pw_weak {X : Cx} {e : Expr} {t t' : TT} (h : PW X e t) (k : ∀ σ H Q, t' σ H Q → t σ H Q) : PW X e t' := ⟨fun wh pins s σ H Q I q => h.run wh pins s σ H Q I (k _ _ _ q)⟩
theorem pa_weak {X : Cx} {e : List Expr} {t t' : TA} (h : PA X e t) (k : ∀ σ H Q, t' σ H Q → t σ H Q) : PA X e t' := ⟨fun pos pins s σ H Q I q => h.run pos pins s σ H Q I (k _ _ _ q)⟩
theorem pi_weak {X : Cx} {tg e : Expr} {t t' : TI} (h : PI X tg e t) (k : ∀ σ H Q, t' σ H Q → t σ H Q) : PI X tg e t' := ⟨fun pins s σ H Q I q => h.run pins s σ H Q I (k _ _ _ q)⟩
theorem pg_weak {X : Cx} {e : Expr} {t t' : TG} (h : PG X e t) (k : ∀ v σ H Q, t' v σ H Q → t v σ H Q) : PG X e t' := ⟨fun pins s σ H v u Q I r q => h.run pins s σ H v u Q I r (k _ _ _ _ q)⟩
theorem pgs_weak {X : Cx} {e : List Expr} {t t' : TGs} (h : PGs X e t) (k : ∀ v σ H Q, t' v σ H Q → t v σ H Q) : PGs X e t' := ⟨fun pins s σ H v u Q I r q => h.run pins s σ H v u Q I r (k _ _ _ _ q)⟩
theorem ps_weak {X : Cx} {e : Stmt} {t t' : TS} (h : PS X e t) (k : ∀ D σ H, t' D σ H → t D σ H) : PS X e t' := ⟨fun pins s σ H D I q => h.run pins s σ H D I (k _ _ _ q)⟩
theorem pss_weak {X : Cx} {e : List Stmt} {t t' : TS} (h : PSs X e t) (k : ∀ D σ H, t' D σ H → t D σ H) : PSs X e t' := ⟨fun pins s σ H D I q => h.run pins s σ H D I (k _ _ _ q)⟩
end
/-! ### functions -/
/-- what a function of the evaluator promises -/
def spF (G : Gl) (np : Nat) (c : List D → Sto → R D) : Sp := fun vs H Q E => vs.length = np ∧ ∃ ds S F ι, RL G S F ι H ∧ RepL G F ι ds vs ∧ Pst G (fun cls dd _ H' => E cls dd H') [] F ι H (c ds S) fun d _ F' ι' H' => ∀ v, Rep G F' ι' d v → Q v H'
/-- how its arguments bind -/
def BindU (fd : FuncData) (ps : List Str) : Prop := ∀ (s : Shared) (us : List Value), us.length = ps.length → BindsTo s fd ⟨us, []⟩ (ps.zip us)
/-- a promise kept where no text is being shown -/
structure FnG (P : Program) (w : World) (K : PySem.W.Frag) (mg : Str → Option Value) (base : Heap) (rp : Bool) (k : Nat) (f : Addr) (fd : FuncData) (ps : List Str) (sp : Sp) : Prop where
  len : ∀ vs H Q E, sp vs H Q E → vs.length = ps.length
  run : ∀ (A : Around) (outer : List PySem.Env) (s : Shared) (H : Hp) (args : Args) (us : List Value) (vs : List V) (Q : VK) (E : XK), Room k A → (rp = true → A.guards = some []) → Env0 P w K mg base A outer s H → BindsTo s fd args (ps.zip us) → Vals vs us → sp vs H Q E →
    codeAny (model P w) A (.call (.ref f) args) (CR (L2.CX P w) outer P w H s Q E) s
section
variable {X : Cx} {W : WX} {k : Nat} {f : Addr} {fd : FuncData} {ps : List Str} {sp : Sp} {pins : List (Addr × Obj)} {σ : L2.St} {H : Hp} {s : Shared}
theorem run_g {Q : VK} {vs : List V} {us : List Value} {rp : Bool} (fn : FnG X.prog X.w X.K X.mg X.base rp k f fd ps sp) (tk : Takes X W) (hr : Room k X.A) (hg : rp = true → X.A.guards = some []) (hb : BindU fd ps) (I : Inv X pins σ H s) (rel : Vals vs us)
    (h : sp vs H Q fun cls d H' => W cls d σ H') : wpAny (model X.prog X.w) X.A (call (.ref f) us) (EP X pins σ Q) X.xe s := by
  have same : us.length = ps.length := rel.length.symm.trans (fn.len _ _ _ _ h)
  have bd : BindsTo s fd ⟨us, []⟩ (ps.zip us) := by
    exact hb s us same
  have c := fn.run X.A X.stack s H ⟨us, []⟩ us vs Q _ hr hg I.env0 bd rel h
  refine wpAny_call (codeAny_mono c ?_)
  intro res s2 q
  rcases res with e | fl
  · exact tk e s2 (XE.of_call I (fun _ _ _ z => z) q)
  · cases fl with
    | ret u => exact I.after q
    | _ => exact (show False from q).elim
end
end Gx
set_option Elab.async false
set_option linter.all false
set_option maxRecDepth 100000
set_option maxHeartbeats 1000000
/-! Gx: does a core term tell a text? -/
namespace Gx
open PySem PySem.Spec PyProof.Rows L2
mutual
def beqD : D → D → Bool
  | .non, .non => true
  | .bl a, .bl b => a == b
  | .int a, .int b => a == b
  | .str a, .str b => a == b
  | .tup a, .tup b => beqDL a b
  | .fn a, .fn b => a == b
  | _, _ => false
def beqDL : List D → List D → Bool
  | [], [] => true
  | a :: as, b :: bs => beqD a b && beqDL as bs
  | _, _ => false
end
mutual
theorem beqD_eq : ∀ {a b : D}, beqD a b = true → a = b
  | .non, b, h => by cases b <;> first | rfl | (simp [beqD] at h)
  | .bl a, b, h => by cases b <;> first | (simp [beqD] at h; subst h; rfl) | (simp [beqD] at h)
  | .int a, b, h => by cases b <;> first | (simp [beqD] at h; subst h; rfl) | (simp [beqD] at h)
  | .str a, b, h => by cases b <;> first | (simp [beqD] at h; subst h; rfl) | (simp [beqD] at h)
  | .tup a, b, h => by
    cases b <;> first | (simp only [beqD] at h; rw [beqDL_eq h]) | (simp [beqD] at h)
  | .fn a, b, h => by cases b <;> first | (simp [beqD] at h; subst h; rfl) | (simp [beqD] at h)
  | .lst a, b, h => by cases b <;> simp [beqD] at h
  | .scr a, b, h => by cases b <;> simp [beqD] at h
  | .loc a, b, h => by cases b <;> simp [beqD] at h
  | .ty a, b, h => by cases b <;> simp [beqD] at h
theorem beqDL_eq : ∀ {a b : List D}, beqDL a b = true → a = b
  | [], [], _ => rfl
  | a :: as, b :: bs, h => by
    simp only [beqDL, Bool.and_eq_true] at h
    rw [beqD_eq h.1, beqDL_eq h.2]
  | [], _ :: _, h => by simp [beqDL] at h
  | _ :: _, [], h => by simp [beqDL] at h
end
/-- the tables a text is matched against -/
structure Mx where
  N : List Str
  fns : List Str
  gs : List Str
  glob : List (Str × D)
  free : List Str
  rps : List Nat
def vis (sc : Scope) (x : Str) : Bool := match sc.names.lookup x with
  | some .local => true | some .cell => true | some .free => true
  | _ => false
def isGl (sc : Scope) (x : Str) : Bool := match sc.names.lookup x with
  | some .globalImplicit => true
  | _ => false
def nd (x : Str) : Bool := !(x == ("__debug__" : Str)) && !(x == ("__classdict__" : Str)) && !(x == ("__name__" : Str))
def biN : Bi → Str
  | .len => "len" | .tuple => "tuple" | .all => "all" | .any => "any" | .abs => "abs" | .int => "int" | .max2 => "max" | .min2 => "min" | .sum => "sum" | .repr => "repr"
def tyN : Ty → Str
  | .int => "int" | .bool => "bool" | .str => "str" | .tuple => "tuple" | .list => "list"
structure Sc where
  s : Scope
  lam : Bool
  rp : Bool
/-- a built-in's name as it stands here -/
def bltn (M : Mx) (sc : Sc) (x : Str) : Bool := isGl sc.s x && M.free.contains x && nd x
def mTy (M : Mx) (sc : Sc) (t : Ty) : Expr → Bool
  | .Name x _ => decide (x = tyN t) && bltn M sc x
  | _ => false
def mTys (M : Mx) (sc : Sc) : List Ty → List Expr → Bool
  | [], [] => true
  | t :: ts, e :: es => mTy M sc t e && mTys M sc ts es
  | _, _ => false
def mIsi (M : Mx) (sc : Sc) (ts : List Ty) : Expr → Bool
  | .Name z p => match ts with
    | [t] => mTy M sc t (.Name z p)
    | _ => false
  | .Tuple es _ _ => mTys M sc ts es
  | _ => false
def plainIxB : Expr → Bool
  | .Slice .. => false
  | _ => true
def plainTB : Expr → Bool
  | .UnaryOp .Not .. => false | .BoolOp .. => false | .IfExp .. => false | .Compare .. => false
  | _ => true
def isTupX : Expr → Bool
  | .Tuple .. => true
  | _ => false
def okX : Expr → Bool
  | .Starred .. => false | .Set .. => false | .Slice .. => false
  | _ => true
def argB (a : Arguments) (ps : List Str) : Bool := a.posonlyargs.isEmpty && decide (a.args.map (·.arg) = ps) && a.vararg.isNone && a.kwonlyargs.isEmpty && a.kwarg.isNone && decide ps.Nodup
/-! names of a target -/
mutual
def tgN : CTg → List Nat
  | .nm i => [i]
  | .tp ts => tgNs ts
  | .sub _ _ => []
def tgNs : CTgs → List Nat
  | .nil => []
  | .cons t r => tgN t ++ tgNs r
end
mutual
def mE (M : Mx) (sc : Sc) : CE → Expr → Bool
  | .var i, e => match e with
    | .Name x _ => decide (M.N[i]? = some x) && vis sc.s x && nd x
    | _ => false
  | .cst c, e => match e with
    | .Constant k _ _ => match c, k with
      | .non, .none => true
      | .bl a, .bool b => a == b
      | .int a, .int b => decide (a = b)
      | .str a, .str b => decide (a = b)
      | _, _ => false
    | _ => false
  | .glob x d, e => match e with
    | .Name y _ => decide (y = x) && isGl sc.s x && nd x && (match M.glob.lookup x with | some d' => beqD d d' | none => false)
    | _ => false
  | .bop op a b, e => match e with
    | .BinOp a' op' b' _ => decide (op' = op) && mE M sc a a' && mE M sc b b'
    | _ => false
  | .neg a, e => match e with
    | .UnaryOp .USub a' _ => mE M sc a a'
    | _ => false
  | .notV a, e => match e with
    | .UnaryOp .Not a' _ => mE M sc a a'
    | _ => false
  | .cmp op a b, e => match e with
    | .Compare a' [op'] [b'] _ => decide (op' = op) && mE M sc a a' && mE M sc b b'
    | _ => false
  | .chain o1 o2 a b c, e => match e with
    | .Compare a' [o1', o2'] [b', c'] _ => decide (o1' = o1) && decide (o2' = o2) && mE M sc a a' && mE M sc b b' && mE M sc c c'
    | _ => false
  | .andV a b, e => match e with
    | .BoolOp .And [a', b'] _ => mE M sc a a' && mE M sc b b'
    | .BoolOp .And (a' :: b' :: c' :: r) pos => mE M sc a a' && mE M sc b (.BoolOp .And (b' :: c' :: r) pos)
    | _ => false
  | .orV a b, e => match e with
    | .BoolOp .Or [a', b'] _ => mE M sc a a' && mE M sc b b'
    | .BoolOp .Or (a' :: b' :: c' :: r) pos => mE M sc a a' && mE M sc b (.BoolOp .Or (b' :: c' :: r) pos)
    | _ => false
  | .ife t a b, e => match e with
    | .IfExp t' a' b' _ => mT M sc t t' && mE M sc a a' && mE M sc b b'
    | _ => false
  | .tup es, e => match e with
    | .Tuple es' _ _ => mEs M sc es es'
    | _ => false
  | .fl f, e => mF M sc f e
  | .ml f, e => mF M sc f e
  | .ix a b, e => match e with
    | .Subscript a' b' _ => mE M sc a a' && mE M sc b b'
    | _ => false
  | .sl a lo hi, e => match e with
    | .Subscript a' (.Slice lo' hi' none _) _ => mE M sc a a' && mO M sc lo lo' && mO M sc hi hi'
    | _ => false
  | .rev a, e => match e with
    | .Subscript a' (.Slice none none (some (.UnaryOp .USub (.Constant (.int i) _ _) _)) _) _ => decide (i = 1) && mE M sc a a'
    | _ => false
  | .call f x es, e => match e with
    | .Call (.Name y _) es' [] _ => decide (y = x) && isGl sc.s x && nd x && decide (M.fns[f]? = some x) && (!M.rps.contains f || sc.rp) && mEs M sc es es'
    | _ => false
  | .callv i es, e => match e with
    | .Call (.Name y _) (e' :: es') [] _ => decide (M.N[i]? = some y) && vis sc.s y && nd y && (M.rps.isEmpty || sc.rp) && mEs M sc es (e' :: es')
    | _ => false
  | .lam g x b, e => match e with
    | .Call (.Name y _) [.Lambda ps body lsc _] [] _ => decide (y = x) && isGl sc.s x && nd x && decide (M.gs[g]? = some x) && sc.lam && LamX.lamSB sc.s lsc && argB ps [] && ps.defaults.isEmpty && ps.kw_defaults.isEmpty && mE M ⟨lsc, false, false⟩ b body
    | _ => false
  | .bi b es, e => match e with
    | .Call (.Name y _) (e' :: es') [] _ => decide (y = biN b) && bltn M sc y && (decide (b ≠ .repr) || sc.rp) && mEs M sc es (e' :: es')
    | _ => false
  | .isi a ts, e => match e with
    | .Call (.Name y _) [a', T] [] _ => decide (y = "isinstance") && bltn M sc y && decide (ts.length ≤ 8) && mE M sc a a' && mIsi M sc ts T
    | _ => false
def mEs (M : Mx) (sc : Sc) : CEs → List Expr → Bool
  | .nil, es => match es with
    | [] => true
    | _ => false
  | .cons a r, es => match es with
    | e :: es' => mE M sc a e && mEs M sc r es'
    | _ => false
def mO (M : Mx) (sc : Sc) : CO → Option Expr → Bool
  | .non, e => match e with
    | none => true
    | _ => false
  | .som a, e => match e with
    | some a' => mE M sc a a'
    | _ => false
def mT (M : Mx) (sc : Sc) : CT → Expr → Bool
  | .cmp op a b, e => match e with
    | .Compare a' [op'] [b'] _ => decide (op' = op) && mE M sc a a' && mE M sc b b'
    | _ => false
  | .chain o1 o2 a b c, e => match e with
    | .Compare a' [o1', o2'] [b', c'] _ => decide (o1' = o1) && decide (o2' = o2) && mE M sc a a' && mE M sc b b' && mE M sc c c'
    | _ => false
  | .not t, e => match e with
    | .UnaryOp .Not a' _ => mT M sc t a'
    | _ => false
  | .and t u, e => match e with
    | .BoolOp .And [a', b'] _ => mT M sc t a' && mT M sc u b'
    | .BoolOp .And (a' :: b' :: c' :: r) pos => mT M sc t a' && mT M sc u (.BoolOp .And (b' :: c' :: r) pos)
    | _ => false
  | .or t u, e => match e with
    | .BoolOp .Or [a', b'] _ => mT M sc t a' && mT M sc u b'
    | .BoolOp .Or (a' :: b' :: c' :: r) pos => mT M sc t a' && mT M sc u (.BoolOp .Or (b' :: c' :: r) pos)
    | _ => false
  | .tru a, e => plainTB e && mE M sc a e
def mTo (M : Mx) (sc : Sc) : CTo → List Expr → Bool
  | .non, es => match es with
    | [] => true
    | _ => false
  | .som t, es => match es with
    | [e] => mT M sc t e
    | _ => false
def mF (M : Mx) (sc : Sc) : CF → Expr → Bool
  | .disp es, e => match e with
    | .List es' _ => mEs M sc es es'
    | _ => false
  | .comp own tg it t el, e => match e with
    | .ListComp el' [⟨tg', it', ifs, 0⟩] csc _ => mI M sc tg' it it' && blkC M.N sc.s csc (own.filterMap fun i => (M.N[i]?).map fun x => (x, i)) && decide ((own.filterMap fun i => (M.N[i]?).map fun x => (x, i)).map (·.2) = own) &&
        ((tgN tg).all fun i => own.contains i) && mTg M csc ⟨relS csc sc.s, sc.lam, sc.rp⟩ tg tg' && mTo M ⟨relS csc sc.s, sc.lam, sc.rp⟩ t ifs && mE M ⟨relS csc sc.s, sc.lam, sc.rp⟩ el el'
    | _ => false
  | .op o a b, e => match e with
    | .BinOp a' op' b' _ => decide (op' = o) && mE M sc a a' && mE M sc b b'
    | _ => false
  | .ofs a, e => match e with
    | .Call (.Name y _) [a'] [] _ => decide (y = "list") && bltn M sc y && mE M sc a a'
    | _ => false
  | .sl a lo hi, e => match e with
    | .Subscript a' (.Slice lo' hi' none _) _ => mE M sc a a' && mO M sc lo lo' && mO M sc hi hi'
    | _ => false
  | .zips a b, e => match e with
    | .Call (.Name y _) [.Call (.Name y2 _) [a', b'] [] _] [] _ => decide (y = "list") && decide (y2 = "zip") && bltn M sc y && bltn M sc y2 && mE M sc a a' && mE M sc b b'
    | _ => false
def mI (M : Mx) (sc : Sc) (tg : Expr) : CI → Expr → Bool
  | .seq a, e => mE M sc a e
  | .rng1 a, e => match e with
    | .Call (.Name y _) [a'] [] _ => decide (y = "range") && bltn M sc y && mE M sc a a'
    | _ => false
  | .rng2 a b, e => match e with
    | .Call (.Name y _) [a', b'] [] _ => decide (y = "range") && bltn M sc y && mE M sc a a' && mE M sc b b'
    | _ => false
  | .zip a b, e => match e with
    | .Call (.Name y _) [a', b'] [] _ => decide (y = "zip") && isTupX tg && bltn M sc y && mE M sc a a' && mE M sc b b'
    | _ => false
  | .enum a, e => match e with
    | .Call (.Name y _) [a'] [] _ => decide (y = "enumerate") && isTupX tg && bltn M sc y && mE M sc a a'
    | _ => false

def mTg (M : Mx) (osc : Scope) (sc : Sc) : CTg → Expr → Bool
  | .nm i, e => match e with
    | .Name x _ => decide (M.N[i]? = some x) && (decide (osc.names.lookup x = some .local) || decide (osc.names.lookup x = some .cell)) && (decide (sc.s.names.lookup x = some .local) || decide (sc.s.names.lookup x = some .cell))
    | _ => false
  | .tp ts, e => match e with
    | .Tuple es _ _ => mTgs M osc sc ts es
    | _ => false
  | .sub a b, e => match e with
    | .Subscript a' b' _ => plainIxB b' && mE M sc a a' && mE M sc b b'
    | _ => false
def mTgs (M : Mx) (osc : Scope) (sc : Sc) : CTgs → List Expr → Bool
  | .nil, es => match es with
    | [] => true
    | _ => false
  | .cons t r, es => match es with
    | e :: es' => mTg M osc sc t e && mTgs M osc sc r es'
    | _ => false
end
/-! what is matched is a plain expression -/
theorem mF_ok (M : Mx) (sc : Sc) (f : CF) (e : Expr) (h : mF M sc f e = true) : okX e = true := by
  cases f <;> simp only [mF] at h <;> split at h <;> first | rfl | cases h
theorem mE_ok (M : Mx) (sc : Sc) (c : CE) (e : Expr) (h : mE M sc c e = true) : okX e = true := by
  cases c
  case fl f => exact mF_ok M sc f e (by simpa only [mE] using h)
  case ml f => exact mF_ok M sc f e (by simpa only [mE] using h)
  all_goals (simp only [mE] at h; split at h <;> first | rfl | cases h)
theorem mI_ok (M : Mx) (sc : Sc) (tg : Expr) (c : CI) (e : Expr) (h : mI M sc tg c e = true) : okX e = true := by
  cases c
  case seq a => exact mE_ok M sc a e (by simpa only [mI] using h)
  all_goals (simp only [mI] at h; split at h <;> first | rfl | cases h)
theorem star_of {e : Expr} {es : List Expr} {env : PySem.Env} (h : okX e = true) : starEach (e :: es) env = (false, eval e env) :: starEach es env := by
  cases e <;> first | rfl | cases h
theorem mEs_plain (M : Mx) (sc : Sc) (env : PySem.Env) (pos : Pos) : ∀ (c : CEs) (es : List Expr), mEs M sc c es = true → (backTo pos (starEach es env)).any (·.1) = false
  | .nil, es, h => by
    simp only [mEs] at h
    split at h
    · rfl
    · cases h
  | .cons a r, es, h => by
    simp only [mEs] at h
    split at h
    · rename_i e es'
      rw [Bool.and_eq_true] at h
      rw [star_of (mE_ok M sc a e h.1)]
      exact mEs_plain M sc env pos r es' h.2
    · cases h
theorem mark_of {op : CmpOp} {e : Expr} (h : okX e = true) : behindInMarks op e = false := by
  cases e <;> first | rfl | cases h
theorem ix_of {e : Expr} (h : okX e = true) : PlainIx e := by
  intro o i
  cases e <;> first | rfl | cases h
theorem tr_of {e : Expr} {env : PySem.Env} (h : plainTB e = true) : ∀ whole, isTrue e env whole = (do let v ← whole; standAt e.pos; holding [v] (truthy v)) := by
  intro whole
  cases e
  case UnaryOp op a p => cases op <;> first | rfl | cases h
  all_goals first | rfl | cases h
theorem fold_of {e : Expr} {env : PySem.Env} (h : okX e = true) : ∀ x, foldedSetIterable e env x = pure x := by
  intro x
  cases e <;> first | rfl | cases h
end Gx
set_option Elab.async false
set_option linter.all false
set_option maxRecDepth 100000
set_option maxHeartbeats 2000000
/-! Gx: expressions keep to the machine. -/
namespace Gx
open PySem PySem.Spec PyProof.Rows L2
structure Good (G : Gl) (P : Program) (w : World) (base : Heap) (k : Nat) (M : Mx) (sc : Scope) (X : Cx) : Prop where
  pP : X.prog = P
  pw : X.w = w
  pb : X.base = base
  pK : X.K = G.K
  pm : X.mg = G.mg
  pN : X.N = M.N
  nd : X.N.Nodup
  sc : X.env.scope = sc
  calm : X.calm = true
  room : Room k X.A
def FnsOk (G : Gl) (P : Program) (w : World) (base : Heap) (k : Nat) (call : Nat → List D → Sto → R D) : Prop := ∀ f x, G.names[f]? = some x →
  ∃ a fd ps, G.mg x = some (.ref a) ∧ PySem.W.keepIn G.K (.ref a) = true ∧ BindU fd ps ∧ (∀ ds S, ds.length ≠ ps.length → call f ds S = .stuck) ∧ FnG P w G.K G.mg base (G.rps.contains f) k a fd ps (spF G ps.length (call f))
structure LamOk (G : Gl) (X : Cx) : Prop where
  ex : ∃ c P, LamX.TabB X.base X.mg c P ∧ X.env.code = .ref c ∧ (P, X.env.qual ++ "<lambda>") ∈ G.T ∧ ∀ p ∈ G.T, p.1 = P → p.2 = X.env.qual ++ "<lambda>"
/-- what the flags of a scope stand for -/
def Hl (G : Gl) (k j : Nat) (sc : Sc) (X : Cx) : Prop := (sc.lam = true → k + 2 ≤ j ∧ LamOk G X) ∧ (sc.rp = true → X.A.guards = some [])
def LamProp (G : Gl) (M : Mx) (P : Program) (w : World) (base : Heap) (k : Nat) (O : Orc) : Prop := ∀ (X : Cx) (W : WX) (sc : Sc) (g : Nat) (x : Str) (b : CE) (e : Expr), Good G P w base (k + 2) M sc.s X → LamOk G X → Takes X W → mE M sc (.lam g x b) e = true →
    (∀ (X : Cx) (W : WX) (sc : Scope) (e : Expr), Good G P w base k M sc X → Takes X W → mE M ⟨sc, false, false⟩ b e = true → PE X e (tE G W fun ρ S => evE O b ρ S)) → PE X e (tE G W fun ρ S => evE O (.lam g x b) ρ S)
structure Amb (G : Gl) (M : Mx) (P : Program) (w : World) (base : Heap) (k : Nat) (O : Orc) : Prop where
  nm : M.fns = G.names
  rps : M.rps = G.rps
  glob : ∀ x d, M.glob.lookup x = some d → ∃ u v, G.mg x = some u ∧ RelV v u ∧ ∀ F ι, Rep G F ι d v
  free : ∀ x, M.free.contains x = true → G.mg x = none
  fns : FnsOk G P w base k O.call
  lam : LamProp G M P w base k O
/-! ### names of the scope -/
theorem vis_of {sc : Scope} {x : Str} (h : vis sc x = true) : Vis sc x := by
  unfold vis at h
  split at h
  · exact .inl (by assumption)
  · exact .inr (.inl (by assumption))
  · exact .inr (.inr (by assumption))
  · cases h
theorem gl_of {sc : Scope} {x : Str} (h : isGl sc x = true) : sc.names.lookup x = some .globalImplicit := by
  unfold isGl at h
  split at h
  · assumption
  · cases h
theorem nd_of {x : Str} (h : nd x = true) : (x == ("__debug__" : Str)) = false ∧ (x == ("__classdict__" : Str)) = false ∧ x ≠ "__name__" := by
  unfold nd at h
  simp only [Bool.and_eq_true, Bool.not_eq_true'] at h
  exact ⟨h.1.1, h.1.2, by have := h.2; simpa using this⟩
section
variable {G : Gl} {M : Mx} {P : Program} {w : World} {base : Heap} {k : Nat} {O : Orc} {X : Cx} {W : WX} {sc : Scope} {σ : L2.St} {H : Hp} {Q : VK}
theorem Good.gl (g : Good G P w base k M sc X) {x : Str} (h : isGl sc x = true) : L2.Gl X x := by
  show X.env.kindOf x = _
  unfold Env.kindOf
  rw [g.sc]
  exact gl_of h
theorem Good.mono {j : Nat} (g : Good G P w base k M sc X) (h : j ≤ k) : Good G P w base j M sc X := ⟨g.pP, g.pw, g.pb, g.pK, g.pm, g.pN, g.nd, g.sc, g.calm, g.room.mono h⟩
theorem Good.hu (g : Good G P w base k M sc X) : X.A.units + 65 < cLine := by have := g.room.un; omega
theorem tE_two {fa fb : Env → Sto → R D} {kk : D → D → Sto → R D} {r : R2}
    (hr : ∀ x y H Q dx dy S F ι σ, RL G S F ι H → Rep G F ι dx x → Rep G F ι dy y → Pst G W σ F ι H (kk dx dy S) (fun d _ F' ι' H' => ∀ v, Rep G F' ι' d v → Q v H') → r x y H Q)
    (h : tE G W (fun ρ S => (fa ρ S).bind fun x S1 => (fb ρ S1).bind fun y S2 => kk x y S2) σ H Q) : tOp r (tE G W fa) (tE G W fb) σ H Q := by
  obtain ⟨ρ, S, F, ι, er, rl, p⟩ := h
  refine ⟨ρ, S, F, ι, er, rl, p.bind.imp fun dx S1 F1 ι1 H1 e1 l1 p1 x rx => ?_⟩
  refine ⟨ρ, S1, F1, ι1, er.ext e1, l1, p1.bind.imp fun dy S2 F2 ι2 H2 e2 l2 p2 y ry => ?_⟩
  exact hr x y H2 Q dx dy S2 F2 ι2 σ l2 (e2.rep rx) ry p2
theorem tE_one {fa : Env → Sto → R D} {kk : D → Sto → R D} {r : V → Hp → VK → Prop}
    (hr : ∀ x H Q dx S F ι σ, RL G S F ι H → Rep G F ι dx x → Pst G W σ F ι H (kk dx S) (fun d _ F' ι' H' => ∀ v, Rep G F' ι' d v → Q v H') → r x H Q)
    (h : tE G W (fun ρ S => (fa ρ S).bind fun x S1 => kk x S1) σ H Q) : tE G W fa σ H fun x H1 => r x H1 Q := by
  obtain ⟨ρ, S, F, ι, er, rl, p⟩ := h
  refine ⟨ρ, S, F, ι, er, rl, p.bind.imp fun dx S1 F1 ι1 H1 e1 l1 p1 x rx => ?_⟩
  exact hr x H1 Q dx S1 F1 ι1 σ l1 rx p1
theorem b_all (hK : X.K = G.K) (op : Operator) (hne : op ≠ .Mult) : OpR X (binaryOp op) (rB G op) := by
  cases op
  · exact b_add hK
  · exact b_sub
  · exact absurd rfl hne
  · exact b_none fun dx dy => by cases dx <;> cases dy <;> rfl
  · exact b_none fun dx dy => by cases dx <;> cases dy <;> rfl
  · exact b_mod
  · exact b_pow
  · exact b_shl
  · exact b_shr
  · exact b_none fun dx dy => by cases dx <;> cases dy <;> rfl
  · exact b_xor
  · exact b_and
  · exact b_fdiv
/-- results that are truths -/
theorem Pst.blD {o : Option Bool} {S : Sto} {F : Hp} {ι : List Addr} (p : Pst G W σ F ι H (Gx.opt (o.map D.bl) S) fun d _ F' ι' H' => ∀ v, Rep G F' ι' d v → Q v H') (rl : RL G S F ι H) : ∃ c, o = some c ∧ Q (.bl c) H := by
  obtain ⟨d, e, q⟩ := p.opt
  rw [Option.map_eq_some_iff] at e
  obtain ⟨c, e1, rfl⟩ := e
  exact ⟨c, e1, q F ι H Ext.refl rl _ rfl⟩
theorem tEs_cons {a : CE} {r : CEs} {t : TA} {Q : List V → Hp → Prop} (hr : ∀ σ H Q, tEs G W (fun ρ S => evEs O r ρ S) σ H Q → t σ H Q) (h : tEs G W (fun ρ S => evEs O (.cons a r) ρ S) σ H Q) : tCons (tE G W fun ρ S => evE O a ρ S) t σ H Q := by
  obtain ⟨ρ, S, F, ι, er, rl, p⟩ := h
  simp only [evEs] at p
  refine ⟨ρ, S, F, ι, er, rl, p.bind.imp fun dx S1 F1 ι1 H1 e1 l1 p1 x rx => hr _ _ _ ?_⟩
  refine ⟨ρ, S1, F1, ι1, er.ext e1, l1, p1.bind.imp fun ds S2 F2 ι2 H2 e2 l2 p2 vs rs => ?_⟩
  exact p2 F2 ι2 H2 Ext.refl l2 _ ⟨x, vs, rfl, e2.rep rx, rs⟩
def tyS : Ty → String
  | .int => "int" | .bool => "bool" | .str => "str" | .tuple => "tuple" | .list => "list"
theorem ty_bltn {j : Nat} {sc : Sc} (A : Amb G M P w base k O) (g : Good G P w base j M sc.s X) {t : Ty} {z : Str} {p : Pos} (h : mTy M sc t (.Name z p) = true) : PE X (.Name z p) (tC (.ty (tyS t))) := by
  simp only [mTy, bltn, Bool.and_eq_true, decide_eq_true_eq] at h
  obtain ⟨rfl, ⟨h1, h2⟩, h3⟩ := h
  obtain ⟨n1, n2, n3⟩ := nd_of h3
  have hb : bootBuiltins (tyN t) = some (.type (tyS t)) := by cases t <;> decide +kernel
  exact pe_bltn (g.gl h1) (by rw [g.pm]; exact A.free _ h2) hb rfl n3 n1
theorem rep_len {F : Hp} {ι : List Addr} {ds : List D} {vs : List V} (l : RepL G F ι ds vs) (h : ds.length ≤ sz) : vs.length ≤ sizeLine := by rw [← l.length, ← sz_eq]; exact h
/-! ### isinstance -/
theorem isi_ty {S : Sto} {F : Hp} {ι : List Addr} {H : Hp} {d : D} {v : V} {ts : List Ty} {b : Bool} (r : RL G S F ι H) (h : RepH G F ι H d v) (e : isiD d ts = some b) :
    ∃ t, TyX G.K H v t ∧ ∀ K, PySem.W.kitAny K t (ts.map fun t => .type (tyS t)) = some b := by
  have go : ∀ (K : PySem.W.Frag) (t : Value) (p : Ty → Bool), (∀ q, PySem.W.kitOne K t (.type (tyS q)) = some (p q)) → ∀ l : List Ty, PySem.W.kitAny K t (l.map fun t => .type (tyS t)) = some (l.any p) := by
    intro K t p hp l
    induction l with
    | nil => rfl
    | cons q l ih =>
      rw [List.map_cons, List.any_cons]
      unfold PySem.W.kitAny
      rw [hp q]
      cases p q with
      | true => rfl
      | false => exact ih
  cases d with
  | non => cases (show v = _ from h); cases e; refine ⟨_, .base .non, fun K => ?_⟩; rw [go K _ (fun _ => false) (fun q => by cases q <;> rfl)]; simp
  | bl c => cases (show v = _ from h); cases e; exact ⟨_, .base (.bl c), fun K => go K _ _ (fun q => by cases q <;> rfl) ts⟩
  | int c => cases (show v = _ from h); cases e; exact ⟨_, .base (.int c), fun K => go K _ _ (fun q => by cases q <;> rfl) ts⟩
  | str c => cases (show v = _ from h); cases e; exact ⟨_, .base (.str c), fun K => go K _ _ (fun q => by cases q <;> rfl) ts⟩
  | tup c =>
    obtain ⟨a, vs, rfl, q, l⟩ := h
    cases e
    rcases r.sqT q with (z | ⟨o, z⟩) | ⟨o, its, n, z1, z2, z3⟩
    · exact ⟨_, .base (.tup z), fun K => go K _ _ (fun q => by cases q <;> rfl) ts⟩
    · exact ⟨_, .fTuple z, fun K => go K _ _ (fun q => by cases q <;> rfl) ts⟩
    · exact ⟨_, .kTuple z1 z2, fun K => go K _ _ (fun q => by cases q <;> rfl) ts⟩
  | lst c =>
    obtain ⟨a, vs, rfl, q, l⟩ := h
    cases e
    exact ⟨_, .base (.lst q), fun K => go K _ _ (fun q => by cases q <;> rfl) ts⟩
  | _ => simp only [isiD] at e; cases e
end
end Gx
set_option Elab.async false
set_option linter.all false
set_option maxRecDepth 100000
set_option maxHeartbeats 4000000
/-! Gx: expressions keep to the machine, all of them. -/
namespace Gx
open PySem PySem.Spec PyProof.Rows L2
variable {G : Gl} {M : Mx} {P : Program} {w : World} {base : Heap} {k j : Nat} {O : Orc} {X : Cx} {W : WX} {sc : Sc} {σ : L2.St} {H : Hp}
theorem Good.gl' (g : Good G P w base j M sc.s X) {x : Str} (h : isGl sc.s x = true) : L2.Gl X x := g.gl h
theorem bl_free (A : Amb G M P w base k O) (g : Good G P w base j M sc.s X) {x : Str} (h : bltn M sc x = true) : L2.Gl X x ∧ X.mg x = none ∧ (x == ("__debug__" : Str)) = false ∧ x ≠ "__name__" := by
  simp only [bltn, Bool.and_eq_true] at h
  obtain ⟨n1, _, n3⟩ := nd_of h.2
  exact ⟨g.gl h.1.1, by rw [g.pm]; exact A.free _ h.1.2, n1, n3⟩
/-- the callee, from the arguments on -/
theorem call_fin (A : Amb G M P w base k O) (hj : k ≤ j) (g : Good G P w base j M sc.s X) (tk : Takes X W) {f : Nat} {x : Str} (hx : G.names[f]? = some x) (hr : G.rps.contains f = true → X.A.guards = some []) : ∃ a, G.mg x = some (.ref a) ∧ PySem.W.keepIn X.K (.ref a) = true ∧
    ∀ {pins : List (Addr × Obj)} {us : List Value} {s1 : Shared} {vs : List V} {H1 : Hp} {ds : List D} {S1 : Sto} {F1 : Hp} {ι1 : List Addr} {Q : VK}, Inv X pins σ H1 s1 → Vals vs us → RL G S1 F1 ι1 H1 → RepL G F1 ι1 ds vs →
      Pst G W σ F1 ι1 H1 (O.call f ds S1) (fun d _ F' ι' H' => ∀ v, Rep G F' ι' d v → Q v H') → wpAny (model X.prog X.w) X.A (call (.ref a) us) (EP X pins σ Q) X.xe s1 := by
  obtain ⟨a, fd, ps, m, kp, bd, ar, fn⟩ := A.fns f x hx
  have fn' : FnG X.prog X.w X.K X.mg X.base (G.rps.contains f) k a fd ps (spF G ps.length (O.call f)) := by rw [g.pP, g.pw, g.pb, g.pK, g.pm]; exact fn
  refine ⟨a, m, by rw [g.pK]; exact kp, ?_⟩
  intro pins us s1 vs H1 ds S1 F1 ι1 Q I1 rv rl1 rp pst1
  have hl : ds.length = ps.length := by
    apply Decidable.byContradiction
    intro ne
    rw [ar ds S1 ne] at pst1
    exact pst1
  refine run_g fn' tk (g.room.mono hj) hr bd I1 rv ⟨by rw [← rp.length]; exact hl, ds, S1, F1, ι1, rl1, rp, ?_⟩
  cases q : O.call f ds S1 with
  | ok d S2 => rw [q] at pst1; exact pst1
  | exc c p S2 => rw [q] at pst1; exact pst1
  | stuck => rw [q] at pst1; exact pst1
/-- a call of a def of the text -/
theorem call_pe (A : Amb G M P w base k O) (hj : k ≤ j) (g : Good G P w base j M sc.s X) (tk : Takes X W) {f : Nat} {x : Str} {p pos : Pos} {c : CEs} {es : List Expr}
    (hx : G.names[f]? = some x) (hr : G.rps.contains f = true → X.A.guards = some []) (hg : isGl sc.s x = true) (hn : nd x = true) (hm : mEs M sc c es = true) (ha : PA X es (tEs G W fun ρ S => evEs O c ρ S)) :
    PE X (.Call (.Name x p) es [] pos) (tE G W fun ρ S => (evEs O c ρ S).bind fun xs S1 => O.call f xs S1) := by
  obtain ⟨n1, n2, n3⟩ := nd_of hn
  refine ⟨fun pins s σ H Q I h => ?_⟩
  obtain ⟨a, m, kp, fin⟩ := call_fin (σ := σ) A hj g tk hx hr
  obtain ⟨ρ, S, F0, ι, er, rl, pst⟩ := h
  refine wpAny_Call_Name_kw (ld_glob I (g.gl hg) (by rw [g.pm]; exact m) ?_ n1)
  cases c with
  | nil =>
    simp only [mEs] at hm
    split at hm
    · exact PySem.W.callWith_K0 I.kIn kp (fin (us := []) I .nil rl (show RepL G F0 ι [] [] from rfl) pst)
    · cases hm
  | cons a0 r =>
    simp only [mEs] at hm
    split at hm
    · rename_i e0 es'
      rw [Bool.and_eq_true] at hm
      refine PySem.W.callWith_K (h₀ := X.base) I.ok.mod.kin kp (thn (ha.run pos pins s σ H _ I ⟨ρ, S, F0, ι, er, rl, pst.bind.imp fun ds S1 F1 ι1 H1 e1 l1 p1 vs rv => (⟨ds, S1, F1, ι1, l1, rv, p1⟩ : ∃ ds S1 F1 ι1, RL G S1 F1 ι1 H1 ∧ RepL G F1 ι1 ds vs ∧ Pst G W σ F1 ι1 H1 (O.call f ds S1) (fun d _ F' ι' H' => ∀ v, Rep G F' ι' d v → Q v H'))⟩) fun us s1 ⟨vs, H1, I1, rv, ds, S1, F1, ι1, l1, rp, p1⟩ => ⟨I1.kIn, ?_⟩)
        (star_of (mE_ok M sc a0 e0 hm.1)) (mEs_plain M sc X.env pos r es' hm.2)
      exact fin I1 rv l1 rp p1
    · cases hm
/-- .. of a def that a name of the frame holds -/
theorem callv_pe (A : Amb G M P w base k O) (hj : k ≤ j) (g : Good G P w base j M sc.s X) (tk : Takes X W) {i : Nat} {y : Str} {p pos : Pos} {c : CEs} {e0 : Expr} {es' : List Expr}
    (hi : M.N[i]? = some y) (hv : vis sc.s y = true) (hn : nd y = true) (hr : ∀ f, G.rps.contains f = true → X.A.guards = some []) (hm : mEs M sc c (e0 :: es') = true) (ha : PA X (e0 :: es') (tEs G W fun ρ S => evEs O c ρ S)) :
    PE X (.Call (.Name y p) (e0 :: es') [] pos) (tE G W fun ρ S => evE O (.callv i c) ρ S) := by
  obtain ⟨n1, n2, n3⟩ := nd_of hn
  refine ⟨fun pins s σ H Q I h => ?_⟩
  obtain ⟨ρ, S, F0, ι, er, rl, pst⟩ := h
  simp only [evE] at pst
  split at pst
  · rename_i f hf
    obtain ⟨v, hσ, x, a', hx, rfl, hmg⟩ := er.2 i _ hf
    obtain ⟨a, m, kp, fin⟩ := call_fin (σ := σ) A hj g tk hx (hr f)
    have ea : a' = a := by rw [hmg] at m; cases m; rfl
    subst ea
    refine wpAny_Call_Name_kw (thn ((pe_var (X := X) (pos := p) (i := i) (x := y) (by rw [g.pN]; exact hi) (by rw [g.sc]; exact vis_of hv) n1 n2).run pins s σ H (fun v H1 => v = .ref a' ∧ H1 = H) I ⟨.ref a', hσ, rfl, rfl⟩) fun u s1 ⟨v, H1, I1, r1, e1, e2⟩ => ?_)
    subst e1 e2
    cases r1
    cases c with
    | nil => simp only [mEs] at hm; cases hm
    | cons a0 r =>
      simp only [mEs, Bool.and_eq_true] at hm
      refine PySem.W.callWith_K (h₀ := X.base) I1.ok.mod.kin kp (thn (ha.run pos pins s1 σ H1 _ I1 ⟨ρ, S, F0, ι, er, rl, pst.bind.imp fun ds S1 F1 ι1 H2 e1 l1 p1 vs rv => (⟨ds, S1, F1, ι1, l1, rv, p1⟩ : ∃ ds S1 F1 ι1, RL G S1 F1 ι1 H2 ∧ RepL G F1 ι1 ds vs ∧ Pst G W σ F1 ι1 H2 (O.call f ds S1) (fun d _ F' ι' H' => ∀ v, Rep G F' ι' d v → Q v H'))⟩) fun us s2 ⟨vs, H2, I2, rv, ds, S1, F1, ι1, l1, rp, p1⟩ => ⟨I2.kIn, ?_⟩)
        (star_of (mE_ok M sc a0 e0 hm.1)) (mEs_plain M sc X.env pos r es' hm.2)
      exact fin I2 rv l1 rp p1
  · exact (show False from pst).elim
/-- a call of a built-in -/
theorem bi_pe (A : Amb G M P w base k O) (g : Good G P w base j M sc.s X) {b : Bi} {p pos : Pos} {c : CEs} {e0 : Expr} {es' : List Expr} {y : Str} (hrp : b = .repr → X.A.guards = some []) (hy : y = biN b) (hb : bltn M sc y = true) (hm : mEs M sc c (e0 :: es') = true) (ha : PA X (e0 :: es') (tEs G W fun ρ S => evEs O c ρ S)) :
    PE X (.Call (.Name y p) (e0 :: es') [] pos) (tE G W fun ρ S => evE O (.bi b c) ρ S) := by
  obtain ⟨h1, h2, h3, h4⟩ := bl_free A g hb
  have st : starEach (e0 :: es') X.env = (false, eval e0 X.env) :: starEach es' X.env ∧ ∀ pos, (backTo pos (starEach es' X.env)).any (·.1) = false := by
    cases c with
    | nil => simp only [mEs] at hm; cases hm
    | cons a0 r =>
      simp only [mEs, Bool.and_eq_true] at hm
      exact ⟨star_of (mE_ok M sc a0 e0 hm.1), fun pos => mEs_plain M sc X.env pos r es' hm.2⟩
  have conv : ∀ σ H Q, tE G W (fun ρ S => evE O (.bi b c) ρ S) σ H Q → tCB (rBi G b) (tEs G W fun ρ S => evEs O c ρ S) σ H Q := by
    intro σ H Q ⟨ρ, S, F, ι, er, rl, pst⟩
    simp only [evE] at pst
    refine ⟨ρ, S, F, ι, er, rl, pst.bind.imp fun ds S1 F1 ι1 H1 e1 l1 p1 vs rv => ?_⟩
    obtain ⟨d, e, q⟩ := p1.opt
    exact ⟨ds, S1, F1, ι1, d, l1, rv, e, fun F' H' v ex rl' rp => q F' ι1 H' ex rl' v rp⟩
  subst hy
  cases b
  · exact pe_weak (pe_callB (bi_len g.pK) h1 h2 (by decide +kernel) ha h4 h3 st.1 (st.2 _)) conv
  · exact pe_weak (pe_callTy (bi_tuple g.pK) h1 h2 (by decide +kernel) ha h4 h3 st.1 (st.2 _)) conv
  · exact pe_weak (pe_callB (bi_all g.calm) h1 h2 (by decide +kernel) ha h4 h3 st.1 (st.2 _)) conv
  · exact pe_weak (pe_callB (bi_any g.calm) h1 h2 (by decide +kernel) ha h4 h3 st.1 (st.2 _)) conv
  · exact pe_weak (pe_callB bi_abs h1 h2 (by decide +kernel) ha h4 h3 st.1 (st.2 _)) conv
  · exact pe_weak (pe_callTy bi_int h1 h2 (by decide +kernel) ha h4 h3 st.1 (st.2 _)) conv
  · exact pe_weak (pe_callB (bi_max g.calm) h1 h2 (by decide +kernel) ha h4 h3 st.1 (st.2 _)) conv
  · exact pe_weak (pe_callB (bi_min g.calm) h1 h2 (by decide +kernel) ha h4 h3 st.1 (st.2 _)) conv
  · exact pe_weak (pe_callB (bi_sum g.calm) h1 h2 (by decide +kernel) ha h4 h3 st.1 (st.2 _)) conv
  · exact pe_weak (pe_callB (bi_repr g.pK (hrp rfl) g.hu) h1 h2 (by decide +kernel) ha h4 h3 st.1 (st.2 _)) conv
/-- isinstance -/
theorem isi_pe (A : Amb G M P w base k O) (g : Good G P w base j M sc.s X) {a : CE} {a' T : Expr} {ts : List Ty} {p pos : Pos} {y : Str} (hy : y = "isinstance") (hb : bltn M sc y = true) (h8 : ts.length ≤ 8) (hm : mE M sc a a' = true) (ih : PE X a' (tE G W fun ρ S => evE O a ρ S))
    (hT : mIsi M sc ts T = true) : PE X (.Call (.Name y p) [a', T] [] pos) (tE G W fun ρ S => evE O (.isi a ts) ρ S) := by
  obtain ⟨h1, h2, h3, h4⟩ := bl_free A g hb
  subst hy
  have st1 := star_of (es := [T]) (env := X.env) (mE_ok M sc a a' hm)
  have okT : okX T = true := by
    cases T <;> first | rfl | cases hT
  have st2 := star_of (es := []) (env := X.env) okT
  have pl : ∀ pos, (backTo pos (starEach [T] X.env)).any (·.1) = false := fun pos => by rw [st2]; rfl
  have tys : ∀ (ts : List Ty) (es : List Expr), mTys M sc ts es = true → PA X es (fun _ H Q => Q (ts.map fun t => V.ty (tyS t)) H) := by
    intro ts
    induction ts with
    | nil =>
      intro es h
      cases es with
      | nil => exact pa_nil
      | cons e es => simp only [mTys] at h; cases h
    | cons t ts ih =>
      intro es h
      cases es with
      | nil => simp only [mTys] at h; cases h
      | cons e es =>
        simp only [mTys, Bool.and_eq_true] at h
        cases e <;> try (simp only [mTy] at h; cases h.1; done)
        exact pa_weak (pa_cons (ty_bltn A g h.1) (ih es h.2) (star_of rfl)) fun _ _ _ q => q
  cases T <;> try (cases hT; done)
  case Name z p' =>
    simp only [mIsi] at hT
    split at hT <;> try (cases hT; done)
    rename_i t
    refine pe_weak (pe_callB call_isi h1 h2 (by decide +kernel) (pa_cons ih (pa_cons (ty_bltn A g hT) pa_nil st2) st1) h4 h3 st1 (pl _)) fun σ H Q h => ?_
    show tE G W (fun ρ S => evE O a ρ S) σ H fun x H1 => rIsi X.K [x, .ty (tyS t)] H1 Q
    simp only [evE] at h
    refine tE_one (r := fun x H Q => rIsi X.K [x, .ty (tyS t)] H Q) (fun x H Q dx S F ι σ rl rx pst => ?_) h
    obtain ⟨b, e, q⟩ := pst.blD rl
    obtain ⟨tv, h1, h2⟩ := isi_ty rl (rl.der rx) e
    refine ⟨x, .ty (tyS t), tv, .type (tyS t), b, rfl, .ty _, by rw [g.pK]; exact h1, ?_, q⟩
    have := h2 X.K
    simp only [List.map_cons, List.map_nil] at this
    unfold PySem.W.kitAny at this
    split at this <;> first | (cases this; assumption) | (unfold PySem.W.kitAny at this; cases this; assumption) | cases this
  case Tuple es k' p' =>
    refine pe_weak (pe_callB call_isiT h1 h2 (by decide +kernel) (pa_cons ih (pa_cons (pe_tup (tys ts es hT)) pa_nil st2) st1) h4 h3 st1 (pl _)) fun σ H Q h => ?_
    show tE G W (fun ρ S => evE O a ρ S) σ H fun x H1 => (ts.map fun t => V.ty (tyS t)).length ≤ sizeLine ∧ ∀ tp, H1 tp = none → rIsiT X.K [x, .ref tp] (upd H1 tp (.tup (ts.map fun t => V.ty (tyS t)))) Q
    simp only [evE] at h
    refine tE_one (r := fun x H1 Q => (ts.map fun t => V.ty (tyS t)).length ≤ sizeLine ∧ ∀ tp, H1 tp = none → rIsiT X.K [x, .ref tp] (upd H1 tp (.tup (ts.map fun t => V.ty (tyS t)))) Q) (fun x H Q dx S F ι σ rl rx pst => ?_) h
    obtain ⟨b, e, q⟩ := pst.opt
    rw [Option.map_eq_some_iff] at e
    obtain ⟨c, e, rfl⟩ := e
    refine ⟨?_, fun tp htp => ?_⟩
    · rw [List.length_map, sizeLine_eq]
      omega
    · obtain ⟨ex, rl'⟩ := rl.frz htp (.tup (ts.map fun t => V.ty (tyS t))) (fun _ z => by cases z)
      obtain ⟨tv, h1, h2⟩ := isi_ty rl' (rl'.der (ex.rep rx)) e
      have pr : ∀ l : List Ty, Paired ClsV (l.map fun t => V.ty (tyS t)) (l.map fun t => Value.type (tyS t)) := fun l => by
        induction l with
        | nil => exact .nil
        | cons t l ih => exact .cons (.ty _) ih
      exact ⟨x, tp, _, tv, _, c, rfl, upd_same, pr ts, by rw [g.pK]; exact h1, h2 X.K, q _ _ _ ex rl' _ rfl⟩
end Gx
set_option Elab.async false
set_option linter.all false
set_option maxRecDepth 100000
set_option maxHeartbeats 4000000
/-! Gx: what is walked; comprehensions. -/
namespace Gx
open PySem PySem.Spec PyProof.Rows L2
variable {G : Gl} {S : Sto} {F : Hp} {ι : List Addr} {H : Hp}
theorem it_list {xs : List D} {a : Addr} {vs : List V} (q : SqL G.K F a vs) (l : RepL G F ι xs vs) : ItOk G (Itl G.K a) xs F ι H := by
  intro i S' F' ι' H' e r
  have q' : SqL G.K H' a vs := SqL.fmono r.sub (SqL.fmono e.f q)
  refine ⟨fun h => ⟨vs, q', by rw [← l.length]; exact h⟩, fun d hd => ?_⟩
  obtain ⟨v, hv, rv⟩ := l.get hd
  refine ⟨⟨vs, v, q', hv⟩, fun x H'' ⟨e1, e2⟩ => ?_⟩
  subst e1
  have := (e2 vs q').symm.trans hv
  cases this
  exact ⟨F', Ext.refl, r, e.rep rv⟩
theorem it_tup {xs : List D} {a : Addr} {vs : List V} (q : SqT G.K F a vs) (l : RepL G F ι xs vs) : ItOk G (Itt G.K a) xs F ι H := by
  intro i S' F' ι' H' e r
  have q' : SqT G.K H' a vs := SqT.fmono r.sub (SqT.fmono e.f q)
  refine ⟨fun h => ⟨vs, q', by rw [← l.length]; exact h⟩, fun d hd => ?_⟩
  obtain ⟨v, hv, rv⟩ := l.get hd
  refine ⟨⟨vs, v, q', hv⟩, fun x H'' ⟨e1, e2⟩ => ?_⟩
  subst e1
  have := (e2 vs q').symm.trans hv
  cases this
  exact ⟨F', Ext.refl, r, e.rep rv⟩
theorem rngD_get {lo hi : Int} {i : Nat} {d : D} (h : (rngD lo hi)[i]? = some d) : i < (hi - lo).toNat ∧ d = .int (lo + (i : Int)) := by
  unfold rngD at h
  rw [List.getElem?_map, Option.map_eq_some_iff] at h
  obtain ⟨j, h1, rfl⟩ := h
  obtain ⟨k1, k2⟩ := List.getElem?_eq_some_iff.mp h1
  rw [List.getElem_range] at k2
  rw [List.length_range] at k1
  subst k2
  exact ⟨k1, rfl⟩
theorem it_rng {lo hi : Int} : ItOk G (Itr lo (hi - lo).toNat) (rngD lo hi) F ι H := by
  intro i S' F' ι' H' e r
  refine ⟨fun h => by show (hi - lo).toNat ≤ i; unfold rngD at h; rw [List.length_map, List.length_range] at h; exact h, fun d hd => ?_⟩
  obtain ⟨h1, rfl⟩ := rngD_get hd
  refine ⟨h1, fun x H'' ⟨e1, e2⟩ => ?_⟩
  subst e1 e2
  exact ⟨F', Ext.refl, r, rfl⟩
theorem pairs_get {as bs : List D} {i : Nat} {d : D} (h : (pairsD as bs)[i]? = some d) : ∃ a b, as[i]? = some a ∧ bs[i]? = some b ∧ d = .tup [a, b] := by
  unfold pairsD at h
  rw [List.getElem?_map, Option.map_eq_some_iff] at h
  obtain ⟨p, h1, rfl⟩ := h
  rw [List.getElem?_zip_eq_some] at h1
  exact ⟨_, _, h1.1, h1.2, rfl⟩
theorem pairs_len {as bs : List D} {i : Nat} (h : (pairsD as bs).length ≤ i) : as.length ≤ i ∨ bs.length ≤ i := by
  unfold pairsD at h
  rw [List.length_map, List.length_zip] at h
  omega
theorem it_zipT {xs ys : List D} {a b : Addr} {vs ws : List V} (q : SqT G.K F a vs) (l : RepL G F ι xs vs) (q2 : SqT G.K F b ws) (l2 : RepL G F ι ys ws) : ItOk G (RZ.ItzT G.K a b) (pairsD xs ys) F ι H := by
  intro i S' F' ι' H' e r
  have q' : SqT G.K H' a vs := SqT.fmono r.sub (SqT.fmono e.f q)
  have q2' : SqT G.K H' b ws := SqT.fmono r.sub (SqT.fmono e.f q2)
  refine ⟨fun h => ⟨vs, ws, q', q2', by rw [← l.length, ← l2.length]; exact pairs_len h⟩, fun d hd => ?_⟩
  obtain ⟨d1, d2, h1, h2, rfl⟩ := pairs_get hd
  obtain ⟨v, hv, rv⟩ := l.get h1
  obtain ⟨u, hu, ru⟩ := l2.get h2
  refine ⟨⟨vs, ws, v, u, q', q2', hv, hu⟩, fun x H'' ⟨T, x1, y1, e0, hT, e1, e2, e3⟩ => ?_⟩
  subst e0 e1
  have z1 := (e2 vs q').symm.trans hv
  have z2 := (e3 ws q2').symm.trans hu
  cases z1
  cases z2
  obtain ⟨ex, r'⟩ := r.frz hT (.tup [v, u]) (fun _ z => by cases z)
  exact ⟨_, ex, r', T, _, rfl, SqT.of upd_same, v, [u], rfl, ex.rep (e.rep rv), u, [], rfl, ex.rep (e.rep ru), rfl⟩
theorem it_zipL {xs ys : List D} {a b : Addr} {vs ws : List V} (q : SqL G.K F a vs) (l : RepL G F ι xs vs) (q2 : SqL G.K F b ws) (l2 : RepL G F ι ys ws) : ItOk G (Itz G.K a b) (pairsD xs ys) F ι H := by
  intro i S' F' ι' H' e r
  have q' : SqL G.K H' a vs := SqL.fmono r.sub (SqL.fmono e.f q)
  have q2' : SqL G.K H' b ws := SqL.fmono r.sub (SqL.fmono e.f q2)
  refine ⟨fun h => ⟨vs, ws, q', q2', by rw [← l.length, ← l2.length]; exact pairs_len h⟩, fun d hd => ?_⟩
  obtain ⟨d1, d2, h1, h2, rfl⟩ := pairs_get hd
  obtain ⟨v, hv, rv⟩ := l.get h1
  obtain ⟨u, hu, ru⟩ := l2.get h2
  refine ⟨⟨vs, ws, v, u, q', q2', hv, hu⟩, fun x H'' ⟨T, x1, y1, e0, hT, e1, e2, e3⟩ => ?_⟩
  subst e0 e1
  have z1 := (e2 vs q').symm.trans hv
  have z2 := (e3 ws q2').symm.trans hu
  cases z1
  cases z2
  obtain ⟨ex, r'⟩ := r.frz hT (.tup [v, u]) (fun _ z => by cases z)
  exact ⟨_, ex, r', T, _, rfl, SqT.of upd_same, v, [u], rfl, ex.rep (e.rep rv), u, [], rfl, ex.rep (e.rep ru), rfl⟩
theorem enum_get : ∀ {xs : List D} {n i : Nat} {d : D}, (enumD n xs)[i]? = some d → ∃ a, xs[i]? = some a ∧ d = .tup [.int ((n + i : Nat) : Int), a]
  | [], n, i, d, h => by simp [enumD] at h
  | x :: r, n, 0, d, h => by
    simp [enumD] at h
    exact ⟨x, rfl, h.symm⟩
  | x :: r, n, i + 1, d, h => by
    obtain ⟨a, h1, h2⟩ := enum_get (xs := r) (n := n + 1) (i := i) (d := d) (by simpa [enumD] using h)
    refine ⟨a, by simpa using h1, ?_⟩
    rw [h2]
    have : n + 1 + i = n + (i + 1) := by omega
    rw [this]
theorem enum_len : ∀ {xs : List D} {n : Nat}, (enumD n xs).length = xs.length
  | [], _ => rfl
  | x :: r, n => by simp [enumD, enum_len (xs := r)]
theorem it_enum {xs : List D} {a : Addr} {vs : List V} (q : SqL G.K F a vs) (l : RepL G F ι xs vs) : ItOk G (Ite G.K a) (enumD 0 xs) F ι H := by
  intro i S' F' ι' H' e r
  have q' : SqL G.K H' a vs := SqL.fmono r.sub (SqL.fmono e.f q)
  refine ⟨fun h => ⟨vs, q', by rw [← l.length, ← enum_len (xs := xs) (n := 0)]; exact h⟩, fun d hd => ?_⟩
  obtain ⟨d1, h1, rfl⟩ := enum_get hd
  obtain ⟨v, hv, rv⟩ := l.get h1
  refine ⟨⟨vs, v, q', hv⟩, fun x H'' ⟨T, x1, e0, hT, e1, e2⟩ => ?_⟩
  subst e0 e1
  have z1 := (e2 vs q').symm.trans hv
  cases z1
  obtain ⟨ex, r'⟩ := r.frz hT (.tup [.int (i : Nat), v]) (fun _ z => by cases z)
  refine ⟨_, ex, r', T, _, rfl, SqT.of upd_same, .int (i : Nat), [v], rfl, ?_, v, [], rfl, ex.rep (e.rep rv), rfl⟩
  show V.int _ = V.int _
  rw [Nat.zero_add]
/-! ### an address that is nobody's -/
theorem RL.off {D0 : Addr} {o o' : HO} (r : RL G S F ι H) (h : H D0 = some o) (ho : ∀ ps, o ≠ .tbl ps) (ho2 : ∀ c q, o ≠ LamX.CodeO c q) (f : F D0 = none) (n : D0 ∉ ι) : RL G S F ι (upd H D0 o') := by
  refine ⟨fun a u z => ?_, r.ft, r.len, r.nd, r.out, fun k a u h1 h2 => ?_, fun p hp => ?_⟩
  · rw [upd_ne (fun e => by rw [e, f] at z; cases z)]; exact r.sub _ _ z
  · have := r.obj k a u h1 h2
    cases u with
    | lst xs =>
      obtain ⟨vs, q1, q2⟩ := this
      exact ⟨vs, by rw [upd_ne (fun e => n (by rw [← e]; exact List.mem_of_getElem? h1))]; exact q1, q2⟩
  · obtain ⟨ps, a1, a2, a3⟩ := r.tabs p hp
    refine ⟨ps, by rw [upd_ne (fun e => by rw [e, h] at a1; exact ho ps (Option.some.inj a1))]; exact a1, a2, fun pos cv hc => ?_⟩
    obtain ⟨c, e1, e2⟩ := a3 pos cv hc
    exact ⟨c, e1, by rw [upd_ne (fun e => by rw [e, h] at e2; exact ho2 _ _ (Option.some.inj e2))]; exact e2⟩
theorem Ext.off {F' : Hp} {ι' : List Addr} {H' : Hp} {D0 : Addr} {o' : HO} (e : Ext F ι H F' ι' H') (h : H D0 = none) : Ext F ι H F' ι' (upd H' D0 o') := by
  refine ⟨e.f, e.i, fun b u z hi ht => ?_, e.g⟩
  rw [upd_ne (fun q => by rw [q, h] at z; cases z)]; exact e.h b u z hi ht
/-- without what stands at D0 -/
def less (H : Hp) (D0 : Addr) : Hp := fun b => if b = D0 then none else H b
theorem less_upd {D0 : Addr} {o : HO} (h : H D0 = some o) : upd (less H D0) D0 o = H := by
  funext b
  by_cases e : b = D0
  · subst e; rw [upd_same, h]
  · rw [upd_ne e]; unfold less; rw [if_neg e]
theorem less_ne {D0 b : Addr} (h : b ≠ D0) : less H D0 b = H b := if_neg h
theorem RL.less {D0 : Addr} {o : HO} (r : RL G S F ι H) (h : H D0 = some o) (ho : ∀ ps, o ≠ .tbl ps) (ho2 : ∀ c q, o ≠ LamX.CodeO c q) (f : F D0 = none) (n : D0 ∉ ι) : RL G S F ι (Gx.less H D0) := by
  refine ⟨fun a u z => ?_, r.ft, r.len, r.nd, r.out, fun k a u h1 h2 => ?_, fun p hp => ?_⟩
  · rw [less_ne (fun e => by rw [e, f] at z; cases z)]; exact r.sub _ _ z
  · have := r.obj k a u h1 h2
    cases u with
    | lst xs =>
      obtain ⟨vs, q1, q2⟩ := this
      exact ⟨vs, by rw [less_ne (fun e => n (by rw [← e]; exact List.mem_of_getElem? h1))]; exact q1, q2⟩
  · obtain ⟨ps, a1, a2, a3⟩ := r.tabs p hp
    refine ⟨ps, by rw [less_ne (fun e => by rw [e, h] at a1; exact ho ps (Option.some.inj a1))]; exact a1, a2, fun pos cv hc => ?_⟩
    obtain ⟨c, e1, e2⟩ := a3 pos cv hc
    exact ⟨c, e1, by rw [less_ne (fun e => by rw [e, h] at e2; exact ho2 _ _ (Option.some.inj e2))]; exact e2⟩
theorem Ext.less {F' : Hp} {ι' : List Addr} {H' : Hp} {D0 : Addr} (e : Ext F ι H F' ι' H') (h : H D0 = none) : Ext F ι H F' ι' (Gx.less H' D0) := by
  refine ⟨e.f, e.i, fun b u z hi ht => ?_, e.g⟩
  rw [less_ne (fun q => by rw [q, h] at z; cases z)]; exact e.h b u z hi ht
/-! ### results that are there -/
theorem bind_ok {α β : Type} {r : R α} {f : α → Sto → R β} {b : β} {S2 : Sto} (h : r.bind f = .ok b S2) : ∃ a S1, r = .ok a S1 ∧ f a S1 = .ok b S2 := by
  cases r with
  | ok a S1 => exact ⟨a, S1, rfl, h⟩
  | exc c p S1 => cases h
  | stuck => cases h
theorem noX_pst {W : WX} {σ : L2.St} {α : Type} {r : R α} {Q : α → Sto → Hp → List Addr → Hp → Prop} (h : Pst G W σ F ι H (noX r) Q) : ∃ a S', r = .ok a S' ∧ ∀ F' ι' H', Ext F ι H F' ι' H' → RL G S' F' ι' H' → Q a S' F' ι' H' := by
  cases r with
  | ok a S' => exact ⟨a, S', rfl, h⟩
  | exc c p S' => exact h.elim
  | stuck => exact h.elim
theorem noX_any {W W' : WX} {σ σ' : L2.St} {α : Type} {r : R α} {Q : α → Sto → Hp → List Addr → Hp → Prop} (h : Pst G W σ F ι H (noX r) Q) : Pst G W' σ' F ι H r Q := by
  cases r with
  | ok a S' => exact h
  | exc c p S' => exact h.elim
  | stuck => exact h.elim
theorem ok_pst {W : WX} {σ : L2.St} {α : Type} {r : R α} {a : α} {S' : Sto} {Q : α → Sto → Hp → List Addr → Hp → Prop} (h : r = .ok a S') (k : ∀ F' ι' H', Ext F ι H F' ι' H' → RL G S' F' ι' H' → Q a S' F' ι' H') : Pst G W σ F ι H r Q := by
  rw [h]; exact k
theorem wipe_same : ∀ {own : List Nat} {σ σ' : L2.St}, σ'.length = σ.length → (∀ i, i ∉ own → σ'[i]? = σ[i]?) → L2.wipe σ' own = L2.wipe σ own := by
  intro own σ σ' hl h
  have key : ∀ (own : List Nat) (σ : L2.St) (i : Nat), (L2.wipe σ own)[i]? = if i ∈ own ∧ i < σ.length then some none else σ[i]? := by
    intro own
    induction own with
    | nil => intro σ i; simp [L2.wipe]
    | cons v r ih =>
      intro σ i
      show ((L2.wipe σ r).set v none)[i]? = _
      by_cases e : v = i
      · subst e
        by_cases hv : v < σ.length
        · rw [List.getElem?_set_self (by rw [L2.wipe_length]; exact hv)]
          simp [hv]
        · rw [List.getElem?_eq_none (by rw [List.length_set, L2.wipe_length]; omega)]
          simp [hv]
      · rw [List.getElem?_set_ne e, ih]
        simp [Ne.symm e]
  apply List.ext_getElem?
  intro i
  rw [key, key, hl]
  by_cases hi : i ∈ own
  · by_cases hlt : i < σ.length
    · simp [hi, hlt]
    · simp only [hi, hlt, and_false, if_false]
      rw [List.getElem?_eq_none (by omega), List.getElem?_eq_none (by omega)]
  · simp only [hi, false_and, if_false]
    exact h i hi
end Gx
set_option Elab.async false
set_option linter.all false
set_option maxRecDepth 100000
set_option maxHeartbeats 4000000
/-! Gx: enumerate over a tuple, tuple[::-1], zip of a tuple and a list. -/
namespace Gx
open PySem PySem.Spec PyProof.Rows L2
section
variable {P : Program} {w : World} {A : Around}
theorem ti_ne {h : Heap} {a it : Addr} {xs : Array Value} {i : Nat} (p : h.IsTuple a xs) (q : h.IsTupleIter it a i) : a ≠ it := by
  rintro rfl
  obtain ⟨o1, e1, c1, _⟩ := p
  obtain ⟨o2, e2, c2, _⟩ := q
  rw [e1] at e2
  cases e2
  rw [c1] at c2
  exact absurd c2 (by decide)
theorem li_ne {h : Heap} {a it : Addr} {xs : Array Value} {i : Nat} (p : h.IsList a xs) (q : h.IsListIter it a i) : a ≠ it := by
  rintro rfl
  obtain ⟨o1, e1, c1, _⟩ := p
  obtain ⟨o2, e2, c2, _⟩ := q
  rw [e1] at e2
  cases e2
  rw [c1] at c2
  exact absurd c2 (by decide)
/-- a tuple's iterator that is at its end -/
theorem overT (hh : A.handled = none) {it t : Addr} {xs : Array Value} {i : Nat} (hx : xs[i]? = none) :
    Draws P w A it [it, t] i (fun _ _ => False) (fun j h => j = i ∧ h.IsTupleIter it t j ∧ h.IsTuple t xs) :=
  ⟨fun _ _ z => let ⟨o, ho, _⟩ := z.2.1; ⟨o, ho⟩,
   fun _ _ _ z k => ⟨z.1, z.2.1.at fun o e => k it (by simp) o e, z.2.2.at fun o e => k t (by simp) o e⟩,
   fun _ _ _ _ lt z _ => absurd lt (by rw [z.1]; exact Nat.lt_irrefl _),
   fun s Q E z k => wpAny_nextOf_tuple_end hh z.2.1 z.2.2 hx k⟩
/-- a list's iterator that is at its end -/
theorem overL (hh : A.handled = none) {it t : Addr} {xs : Array Value} {i : Nat} (hx : xs[i]? = none) :
    Draws P w A it [it, t] i (fun _ _ => False) (fun j h => j = i ∧ h.IsListIter it t j ∧ h.IsList t xs) :=
  ⟨fun _ _ z => let ⟨o, ho, _⟩ := z.2.1; ⟨o, ho⟩,
   fun _ _ _ z k => ⟨z.1, z.2.1.at fun o e => k it (by simp) o e, z.2.2.at fun o e => k t (by simp) o e⟩,
   fun _ _ _ _ lt z _ => absurd lt (by rw [z.1]; exact Nat.lt_irrefl _),
   fun s Q E z k => wpAny_nextOf_list_end hh z.2.1 z.2.2 hx k⟩
end
/-! ### enumerate over a tuple -/
set_option maxHeartbeats 4000000 in
theorem newEnumT {v : Value} {o : Obj} {Hs : Heap → Prop} (B : Begins v o Hs) : Meets (Builtin.«enumerate.__new__» ⟨[.type "enumerate", v], []⟩) (fun _ R s =>
    Hs s.heap ∧ R (.ok (.ret (.ref (s.heap.push o).objs.size))) { s with heap := (s.heap.push o).push { cls := .type "enumerate", data := .fields #[.none, .bool false, .ref s.heap.objs.size, rawInt 0, .none, .none] } }) :=
  .of_wp fun prog w A R s hR => by
    obtain ⟨hp, gs, dr, tk, os⟩ := s
    obtain ⟨hb, hR⟩ := hR
    have sb := sub_enumerate
    have bg : ∀ {A1 : Around} {E1 : Value → Shared → Prop} {Q1 : Value → Shared → Prop}, Q1 (.ref hp.objs.size) ⟨hp.push o, gs, dr, tk, os⟩ → wpAny (model prog w) A1 (pyIter v) Q1 E1 ⟨hp, gs, dr, tk, os⟩ :=
      fun z => B.iter prog w _ _ ⟨hp, gs, dr, tk, os⟩ _ hb z
    wp_walk using bg
    refine wpAny_stack_any fun _ => wpAny_pure ?_
    split
    · rename_i cl _ _ _ _ _
      cases (cl == Value.type "enumerate") <;> (wp_walk using bg; exact ⟨_, rfl, hR⟩)
    · wp_walk using bg
      exact ⟨_, rfl, hR⟩
theorem callEnumT {prog : Program} {w : World} {A : Around} {E : Value → Shared → Prop} {s : Shared} {a : Addr} {xs : Array Value} {Q : Value → Shared → Prop} (ha : s.heap.IsTuple a xs)
    (k : ∀ h', IsEnum h' (s.heap.objs.size + 1) s.heap.objs.size 0 .none → h'.IsTupleIter s.heap.objs.size a 0 → (∀ b u, s.heap.get? b = some u → h'.get? b = some u) →
      Q (.ref (s.heap.objs.size + 1)) { s with heap := h' }) : wpAny (model prog w) A (call (.type "enumerate") [.ref a]) Q E s := by
  refine callType_new F.called_enumerate (by decide) (F.typeCall_enumerate_1 _) (F.newCall_enumerate_1 _) (fun obj => F.args_object_init_2 obj _) F.entry_enumerate_new (newEnumT (begins_tuple a xs)) ⟨ha, ?_⟩
  have z1 : (s.heap.push { cls := .type "tuple_iterator", data := .fields #[.ref a, .int 0 0] }).objs.size = s.heap.objs.size + 1 := Heap.size_push ..
  show _ ∧ _
  rw [z1]
  have en : IsEnum ((s.heap.push { cls := .type "tuple_iterator", data := .fields #[.ref a, .int 0 0] }).push { cls := .type "enumerate", data := .fields #[.none, .bool false, .ref s.heap.objs.size, rawInt 0, .none, .none] })
      (s.heap.objs.size + 1) s.heap.objs.size 0 .none := by
    have q := Heap.get?_push_size (s.heap.push { cls := .type "tuple_iterator", data := .fields #[.ref a, .int 0 0] }) (o := { cls := .type "enumerate", data := .fields #[.none, .bool false, .ref s.heap.objs.size, rawInt 0, .none, .none] }) rfl
    rw [z1] at q
    exact q
  exact ⟨⟨_, en, rfl⟩, k _ en ⟨_, Heap.get?_push_of_some _ (Heap.get?_push_size _ rfl), rfl, rfl⟩ fun b u z => Heap.get?_push_of_some _ (Heap.get?_push_of_some _ z)⟩
/-- the tuple at a, each item in a new pair -/
def IteT (K : PySem.W.Frag) (a : Addr) : It :=
  ⟨fun i H => ∃ (xs : List V) (x : V), SqT K H a xs ∧ xs[i]? = some x,
    fun i H v H' => ∃ T x, v = .ref T ∧ H T = none ∧ H' = upd H T (.tup [.int (i : Nat), x]) ∧ ∀ xs, SqT K H a xs → xs[i]? = some x,
    fun i H => ∃ xs : List V, SqT K H a xs ∧ xs.length ≤ i⟩
theorem turnEnumT {P : Program} {w : World} {K : PySem.W.Frag} {elts : List Expr} {kk : Nat} {tpos : Pos} (a e it : Addr) :
    Turn P w K (.Tuple elts kk tpos) (IteT K a) [e, it] e (fun i h => (∃ old, IsEnum h e it ((i : Nat) : Int) old) ∧ h.IsTupleIter it a i ∧ e ≠ it ∧ e ≠ a) where
  mem := by simp
  obj := fun i h z b hb => by
    obtain ⟨⟨old, he⟩, ⟨o, ho, hc, hd⟩, _⟩ := z
    rcases (by simpa using hb : b = e ∨ b = it) with rfl | rfl
    · exact ⟨_, he, fun v q => nomatch q⟩
    · exact ⟨o, ho, fun v q => by rw [hd] at q; cases q⟩
  keep := fun i h h' z k => by
    obtain ⟨⟨old, he⟩, hi, n1, n2⟩ := z
    exact ⟨⟨old, k e (by simp) _ he⟩, hi.at fun o q => k it (by simp) o q, n1, n2⟩
  item := by
    intro X hP hw hK hc i pins s σ H E I hf z hg
    subst hP hw hK
    obtain ⟨⟨old, he⟩, hit, n1, n2⟩ := z
    obtain ⟨xs, x, hq, hx⟩ := hg
    obtain ⟨its, rv, p, _⟩ := I.tuple hq
    obtain ⟨u, hu, ru⟩ := rv.get hx
    have le : e < s.heap.objs.size := Heap.lt_size he
    have lt : it < s.heap.objs.size := by obtain ⟨_, q, _⟩ := hit; exact Heap.lt_size q
    have p' : s.heap.IsTuple a its.toArray := p
    have hui : its[i]? = some u := hu
    have D := Draws.tuple (prog := X.prog) (w := X.w) (A := X.A.in1) (I.ok.hd hc) it a (ti_ne p' hit) its.toArray
    refine wpAny_pyNext_enum_itemD D he ⟨hit, p'⟩ (by simpa using (List.getElem?_eq_some_iff.mp hui).1) n1 (by simp [n1, n2]) fun x1 h' tk hx1 ho hit' hT hsz hk => ?_
    have ex : x1 = u := by
      have q1 : its[i]? = some x1 := by simpa using hx1
      exact Option.some.inj (q1.symm.trans hui)
    subst ex
    refine ⟨_, rfl, wpAny_letOwnedTupleGo_enum (s := { s with heap := h', toks := tk + 1 }) ho fun h'' he' sb => ?_⟩
    have hT2 : h''.get? s.heap.objs.size = some { cls := .type "tuple", data := .seq #[.int i tk, x1] } := (sb.2 _ (Nat.ne_of_gt le)).trans hT
    have nw : ObjOk X.prog X.w (upd H s.heap.objs.size (.tup [.int (i : Nat), x])) h'' s.heap.objs.size (.tup [.int (i : Nat), x]) :=
      ⟨by show 2 ≤ sizeLine; decide, [.int i tk, x1], .cons ⟨_, rfl⟩ (.cons ru .nil), ⟨_, hT2, rfl, _, rfl⟩⟩
    have I1 : Inv X pins σ (upd H s.heap.objs.size (.tup [.int (i : Nat), x])) { s with heap := h'', toks := tk + 1 } :=
      I.turnedNew (ch := [e, it]) (fun b ob hb q => (sb.2 b (fun z => hb (by simp [z]))).trans (hk b ob (fun z => hb (by simp [z])) (fun z => hb (by simp [z])) q)) hf (Nat.le_refl _) nw
    refine ⟨.ref s.heap.objs.size, _, I1, rfl, ⟨_, x, rfl, I.hok.fresh (Nat.le_refl _), rfl, fun ys hy => by rw [I.tuple_inj hy hq]; exact hx⟩, ⟨⟨x1, ?_⟩, hit'.1.at fun o q => (sb.2 it (Ne.symm n1)).trans q, n1, n2⟩, fun b hb => ?_⟩
    · rw [(by omega : ((i + 1 : Nat) : Int) = (i : Int) + 1)]
      exact he'
    · have lb : b < s.heap.objs.size := by
        rcases (by simpa using hb : b = e ∨ b = it) with rfl | rfl
        · exact le
        · exact lt
      rw [upd_ne (Nat.ne_of_lt lb)]
      exact (hf b hb).1
  done := by
    intro X hP hw hK hc i pins s σ H E I hf z hg
    subst hP hw hK
    obtain ⟨⟨old, he⟩, hit, n1, n2⟩ := z
    obtain ⟨xs, hq, hx⟩ := hg
    obtain ⟨its, rv, p, _⟩ := I.tuple hq
    obtain ⟨f0, f1, f2, f3, f4, f5⟩ := hf it (by simp)
    have hl := rv.length
    have p' : s.heap.IsTuple a its.toArray := p
    have hn : its.toArray[i]? = none := by simp; omega
    exact wpAny_pyNext_enum_endD (overT (P := X.prog) (w := X.w) (A := X.A.in1) (I.ok.hd hc) hn) he ⟨rfl, hit, p'⟩ fun h' eb => ⟨rfl, I.turned (t' := s.toks) (fun b o hb q => eb b o hb q) f0 f1 f3 f4 f5⟩
  self := fun A i s Q E z h => let ⟨⟨_, he⟩, _⟩ := z; wpAny_pyIter_enum he h
def iEnumA (K : PySem.W.Frag) (ta : TA) : TI := fun σ H R => ta σ H fun vs H1 => ∃ a xs, vs = [.ref a] ∧ ((SqL K H1 a xs ∧ R (Ite K a) H1) ∨ (SqT K H1 a xs ∧ R (IteT K a) H1))
theorem piEnumA {X : Cx} {e : Expr} {ta : TA} {p pos tpos : Pos} {elts : List Expr} {kk : Nat} (hg : L2.Gl X "enumerate") (hm : X.mg "enumerate" = none) (ha : PA X [e] ta) (hs : starEach [e] X.env = [(false, eval e X.env)]) :
    PI X (.Tuple elts kk tpos) (.Call (.Name "enumerate" p) [e] [] pos) (iEnumA X.K ta) := by
  refine ⟨fun pins s σ H R I h => Call_ (ld_blt I hg hm boot_enumerate (PyProof.Rows.callWith_type1 (thn (ha.run pos pins s σ H _ I h) fun us s1 ⟨vs, H1, I1, r1, q1⟩ => ?_) hs rfl))⟩
  obtain ⟨a, xs, ex, q1⟩ := q1
  subst ex
  cases r1 with
  | cons r rr =>
    cases rr
    cases r
    have fp : ∀ b, b ∈ [s1.heap.objs.size + 1, s1.heap.objs.size] → FpOk X pins H1 b := fun b hb => by
      have le : s1.heap.objs.size ≤ b := by
        rcases (by simpa using hb : b = s1.heap.objs.size + 1 ∨ b = s1.heap.objs.size) with z | z <;> omega
      exact I1.fpOk le (I1.hok.fresh le)
    rcases q1 with ⟨hq, q⟩ | ⟨hq, q⟩
    · obtain ⟨its, rv, p', _⟩ := I1.list hq
      refine call_enumerate_list p'.isList fun h' he hit hsz hk => wpAny_pyIter_enum he ?_
      exact ⟨s1.heap.objs.size + 1, [s1.heap.objs.size + 1, s1.heap.objs.size], _, _, H1, rfl, I1.kept (t' := s1.toks) hk, turn_enum a (s1.heap.objs.size + 1) s1.heap.objs.size, ⟨⟨.none, he⟩, hit, Nat.succ_ne_self _⟩, fp, q⟩
    · obtain ⟨its, rv, p', _⟩ := I1.tuple hq
      have p2 : s1.heap.IsTuple a its.toArray := p'
      have la : a < s1.heap.objs.size := by obtain ⟨_, z, _⟩ := p2; exact Heap.lt_size z
      refine callEnumT p2 fun h' he hit hk => wpAny_pyIter_enum he ?_
      exact ⟨s1.heap.objs.size + 1, [s1.heap.objs.size + 1, s1.heap.objs.size], _, _, H1, rfl, I1.kept (t' := s1.toks) hk, turnEnumT a (s1.heap.objs.size + 1) s1.heap.objs.size, ⟨⟨.none, he⟩, hit, Nat.succ_ne_self _, Ne.symm (Nat.ne_of_lt (Nat.lt_succ_of_lt la))⟩, fp, q⟩
theorem it_enumT {G : Gl} {F : Hp} {ι : List Addr} {H : Hp} {xs : List D} {a : Addr} {vs : List V} (q : SqT G.K F a vs) (l : RepL G F ι xs vs) : ItOk G (IteT G.K a) (enumD 0 xs) F ι H := by
  intro i S' F' ι' H' e r
  have q' : SqT G.K H' a vs := SqT.fmono r.sub (SqT.fmono e.f q)
  refine ⟨fun h => ⟨vs, q', by rw [← l.length, ← enum_len (xs := xs) (n := 0)]; exact h⟩, fun d hd => ?_⟩
  obtain ⟨d1, h1, rfl⟩ := enum_get hd
  obtain ⟨v, hv, rv⟩ := l.get h1
  refine ⟨⟨vs, v, q', hv⟩, fun x H'' ⟨T, x1, e0, hT, e1, e2⟩ => ?_⟩
  subst e0 e1
  have z1 := (e2 vs q').symm.trans hv
  cases z1
  obtain ⟨ex, r'⟩ := r.frz hT (.tup [.int (i : Nat), v]) (fun _ z => by cases z)
  refine ⟨_, ex, r', T, _, rfl, SqT.of upd_same, .int (i : Nat), [v], rfl, ?_, v, [], rfl, ex.rep (e.rep rv), rfl⟩
  show V.int _ = V.int _
  rw [Nat.zero_add]
/-! ### t[::-1] -/
def tRevT (K : PySem.W.Frag) (te : TE) : TE := fun σ H Q => te σ H fun x H1 => ∃ a xs, x = .ref a ∧ SqT K H1 a xs ∧ ∀ p, H1 p = none → Q (.ref p) (upd H1 p (.tup xs.reverse))
theorem revPick (xs : Array Value) : ((List.range xs.size).filterMap fun (m : Nat) => xs[(((xs.size : Int) - 1) + (m : Int) * (-1)).toNat]?).toArray = xs.toList.reverse.toArray := by
  have e1 : (List.range xs.size).filterMap (fun (m : Nat) => xs[(((xs.size : Int) - 1) + (m : Int) * (-1)).toNat]?) = ((List.range xs.size).map fun k => xs.size - 1 - k).filterMap (xs[·]?) := by
    rw [List.filterMap_map]
    congr 1
    funext m
    show xs[(((xs.size : Int) - 1) + (m : Int) * (-1)).toNat]? = xs[xs.size - 1 - m]?
    rw [(by omega : (((xs.size : Int) - 1) + (m : Int) * (-1)).toNat = xs.size - 1 - m)]
  rw [e1, PySem.W.krv_range, List.filterMap_reverse, PySem.W.krv_all]
section
variable {prog : Program} {w : World} {A : Around} {E : Value → Shared → Prop} {s : Shared}
theorem applyRev {sl : Addr} {vs : Value} {n : Nat} {Q : Int × Int × Nat → Shared → Prop} (hs : s.heap.IsSliceOf sl .none .none vs) (ps : IsPart vs (some (-1)))
    (k : Q ((n : Int) - 1, -1, n) s) : wpAny (model prog w) A (Builtin.Slice.sliceApplied (.ref sl) (pure (n : Int))) Q E s := by
  obtain ⟨o, ho, _, hd⟩ := id hs
  unfold Builtin.Slice.sliceApplied Builtin.Slice.sliceFields
  refine wpAny_bind (wpAny_bind (wpAny_field ho hd (x := .none) rfl (wpAny_bind (wpAny_field ho hd (x := .none) rfl (wpAny_bind (wpAny_field ho hd (x := vs) rfl (wpAny_pure ?_)))))))
  refine wpAny_bind (HT.slicePart_ ps ?_)
  show wpAny _ _ (if ((-1 : Int) == 0) = true then _ else _) _ _ s
  rw [if_neg (by decide)]
  refine wpAny_bind (HT.slicePart_ .none (wpAny_bind (HT.slicePart_ .none (wpAny_bind (wpAny_pure ?_)))))
  have e2 : Builtin.Slice.sliceAdjust none none (-1) (n : Int) = ((n : Int) - 1, -1) := rfl
  have e3 : Builtin.Slice.slicePlaces ((n : Int) - 1) (-1) (-1) = n := by
    unfold Builtin.Slice.slicePlaces
    rw [if_neg (by decide)]
    split
    · rw [(by decide : (- -1 : Int) = 1), Int.ediv_one]
      omega
    · omega
  show wpAny _ _ (match Builtin.Slice.sliceAdjust none none (-1) (n : Int) with | (a, b) => pure (a, (-1 : Int), Builtin.Slice.slicePlaces a b (-1))) _ _ s
  rw [e2]
  show wpAny _ _ (pure ((n : Int) - 1, (-1 : Int), Builtin.Slice.slicePlaces ((n : Int) - 1) (-1) (-1))) _ _ s
  rw [e3]
  exact wpAny_pure k
theorem itemRev {t sl : Addr} {xs : Array Value} {vs : Value} {Q : Value → Shared → Prop} (ht : IsTup s.heap t xs) (hs : s.heap.IsSliceOf sl .none .none vs) (ps : IsPart vs (some (-1))) (hz : xs.size ≤ sizeLine)
    (k : Q (.ref s.heap.objs.size) { s with heap := s.heap.push { cls := .type "tuple", data := .seq xs.toList.reverse.toArray } }) : wpAny (model prog w) A (getItem (.ref t) (.ref sl)) Q E s := by
  have fits : sizeOk (.seq xs.toList.reverse.toArray) := by
    show xs.toList.reverse.toArray.size ≤ sizeLine
    rw [List.size_toArray, List.length_reverse, Array.length_toList]
    exact hz
  obtain ⟨o, ho, hc, hd⟩ := id hs
  have hTy : s.TypeIs (.ref sl) "slice" := ⟨o, ho, hc⟩
  unfold getItem
  try with_reducible refine wpAny_holding ?_
  first | refine wpAny_bind (wpAny_pure ?_) | skip
  refine wpAny_bind (wpAny_sequenceKey ht.typeIs (by decide) (wpAny_bind (wpAny_callSpecial?_slot (name := Str.ofString "__getitem__") ht.typeIs PyProof.Rows.slot_tuple_getitem
    (wpAny_call_entry PyProof.Rows.slot_tuple_getitem ht.typeIs PyProof.Rows.entry_tuple_getitem ?_ (PyProof.Rows.args_tuple_getitem _ _)))))
  show wpAny _ _ (Builtin.Tuple.tupleItemsOf (.ref t) >>= _) _ _ s
  refine wpAny_bind (PyProof.Rows.tupleItemsOf_ ht (wpAny_bind (wpAny_typeOf hTy ?_)))
  rw [if_pos (by decide)]
  refine wpAny_bind (applyRev hs ps ?_)
  have no : ¬ ((((xs.size : Int) - 1) == 0 && (-1 : Int) == 1 && xs.size == xs.size) = true) := by
    rw [(by decide : ((-1 : Int) == 1) = false), Bool.and_false, Bool.false_and]
    exact Bool.false_ne_true
  show wpAny _ _ (if (((xs.size : Int) - 1) == 0 && (-1 : Int) == 1 && xs.size == xs.size) = true then _ else _) _ _ s
  rw [if_neg no, revPick]
  first
    | exact wpAny_bind (m := Builtin.Tuple.tupleExact _) (wpAny_newObj_type (wpAny_pure ⟨_, rfl, wpAny_pure k⟩) fits)
    | exact wpAny_bind (m := Builtin.Tuple.tupleExact _) (wpAny_newObj_type (wpAny_bind (wpAny_pure (wpAny_pure ⟨_, rfl, wpAny_pure k⟩))) fits)
    | exact wpAny_bind (wpAny_bind (m := Builtin.Tuple.tupleExact _) (wpAny_newObj_type (wpAny_pure (wpAny_pure ⟨_, rfl, wpAny_pure k⟩)) fits))
    | exact wpAny_bind (wpAny_bind (m := Builtin.Tuple.tupleExact _) (wpAny_newObj_type (wpAny_pure ⟨_, rfl, wpAny_pure k⟩) fits))
end
theorem peRevT {X : Cx} {e : Expr} {te : TE} {k : Nat} {p1 p2 p3 pos : Pos} (he : PE X e te) : PE X (.Subscript e (.Slice none none (some (.UnaryOp .USub (.Constant (.int 1) k p1) p2)) p3) pos) (tRevT X.K te) := by
  refine ⟨fun pins s σ H Q I h => Subscript_ (thn (he.run pins s σ H _ I h) fun v s1 ⟨x, H1, I1, r1, q1⟩ => ?_)⟩
  obtain ⟨a, xs, ex, hx, q⟩ := q1
  subst ex
  cases r1
  have part : PO X (some (.UnaryOp .USub (.Constant (.int 1) k p1) p2)) (tPart (tUn (rU fun i => .int (-i)) (tC (.int 1)))) := po_some (pe_un un_neg pe_int)
  refine wpAny_Slice ?_
  rw [evalPart_none]
  refine wpAny_pure (wpAny_pure (thn (part.run pins s1 σ H1 (fun o H2 => o = some (-1) ∧ H2 = H1) I1 ⟨1, rfl, -1, rfl, rfl, rfl⟩) fun vs s4 ⟨o, H4, I4, ps, eo, e4⟩ => ?_))
  subst eo e4
  have I5 : Inv X pins σ H4 { s4 with heap := s4.heap.push { cls := .type "slice", data := .fields #[.none, .none, vs] } } := I4.kept (t' := s4.toks) fun b ob z => Heap.get?_push_of_some _ z
  obtain ⟨its, r, ht, hz⟩ := I5.tuple hx
  have hlen := r.length
  show wpAny (model X.prog X.w) X.A (subscriptTail e (.Slice none none (some (.UnaryOp .USub (.Constant (.int 1) k p1) p2)) p3) (.ref a) (.ref s4.heap.objs.size)) (EP X pins σ Q) X.xe { s4 with heap := s4.heap.push { cls := .type "slice", data := .fields #[.none, .none, vs] } }
  refine tail_any (ops := [.ref a, .ref s4.heap.objs.size]) ht.typeIs PyProof.Rows.slot_tuple_getitem.lookup (itemRev ht (Heap.IsSliceOf.new _ .none .none vs) ps (by rw [List.size_toArray]; omega) ?_) (by with_unfolding_all rfl)
  refine ⟨.ref _, _, I5.laid (t' := s4.toks) (o := .tup xs.reverse) (fun b ob z => Heap.get?_push_of_some _ z) (Nat.le_refl _) ?_, rfl, q _ (I5.hok.fresh (Nat.le_refl _))⟩
  exact ⟨by rw [List.length_reverse]; exact hz, _, r.reverse, IsTup.new _ _⟩
end Gx
set_option Elab.async false
set_option linter.all false
set_option maxRecDepth 100000
set_option maxHeartbeats 4000000
/-! Gx: zip of a tuple and a list; list(zip(..)). -/
namespace Gx
open PySem PySem.Spec PyProof.Rows L2
/-- a zip of a tuple and a list, at turn i; its pair may be out -/
structure ZTL (h : Heap) (z TI TO i1 i2 a b : Addr) (i : Nat) : Prop where
  own : (IsZip h z TI TO .none ∧ ∃ x y, PySem.IsPair h TO x y) ∨ ∃ T f o, IsZipHeld h z TI TO T f ∧ h.get? T = some o ∧ o.cls = .type "tuple" ∧ T ≠ z ∧ T ≠ TI ∧ T ≠ TO ∧ T ≠ i1 ∧ T ≠ i2
  ins : PySem.IsPair h TI (.ref i1) (.ref i2)
  one : h.IsTupleIter i1 a i
  two : h.IsListIter i2 b i
section
variable {P : Program} {w : World} {A : Around} {E : Value → Shared → Prop} {s : Shared} {z TI TO i1 i2 a b : Addr} {i : Nat} {xs ys : Array Value}
theorem ZTL.lean {h h' : Heap} {S : Addr} {oS : Obj} (st : ZTL h z TI TO i1 i2 a b i) (hS : h.get? S = some oS) (hc : oS.cls = .type "list") (hn : S ∉ [z, TI, TO, i1, i2]) (k : ∀ c u, c ≠ S → h.get? c = some u → h'.get? c = some u) : ZTL h' z TI TO i1 i2 a b i := by
  have ne : ∀ c, c ∈ [z, TI, TO, i1, i2] → c ≠ S := fun c hc e => hn (e ▸ hc)
  obtain ⟨own, ins, one, two⟩ := st
  refine ⟨?_, k _ _ (ne _ (by simp)) ins, one.at fun o q => k i1 o (ne _ (by simp)) q, two.at fun o q => k i2 o (ne _ (by simp)) q⟩
  rcases own with ⟨hz, x0, y0, hTO⟩ | ⟨T, f, o, hz, hT, n0, r⟩
  · exact .inl ⟨k _ _ (ne _ (by simp)) hz, x0, y0, k _ _ (ne _ (by simp)) hTO⟩
  · refine .inr ⟨T, f, o, k _ _ (ne _ (by simp)) hz, k _ _ (fun e => ?_) hT, n0, r⟩
    subst e
    rw [hS] at hT
    cases hT
    rw [hc] at n0
    exact absurd n0 (by decide)
theorem sep2 (D : ZipApart z TI TO i1 i2 a b) : ZipSep2 z TI TO i1 i2 [i1, a] [i2, b] :=
  ⟨D.TIz, D.TOz, D.TITO, D.TIi1, by simp, by simp [Ne.symm D.i1z, Ne.symm D.l1z], by simp [D.TOi1, Ne.symm D.l1TO], D.TIi2, by simp, by simp [Ne.symm D.i2z, Ne.symm D.l2z], by simp [D.TOi2, Ne.symm D.l2TO],
    by simp [D.i12, Ne.symm D.l2i1], by simp [Ne.symm D.i12, Ne.symm D.l1i2]⟩
/-- the pair is out and known to be: the next turn -/
theorem heldItem {T : Addr} {f : Bool} {o : Obj} {x y : Value} {Q : Value → Shared → Prop} (D : ZipApart z TI TO i1 i2 a b) (hz : IsZipHeld s.heap z TI TO T f) (hT : s.heap.get? T = some o)
    (hTI : PySem.IsPair s.heap TI (.ref i1) (.ref i2)) (h1 : s.heap.IsTupleIter i1 a i) (h2 : s.heap.IsListIter i2 b i) (p1 : s.heap.IsTuple a xs) (p2 : s.heap.IsList b ys) (hx : xs[i]? = some x) (hy : ys[i]? = some y)
    (k : ∀ h', IsZipHeld h' z TI TO T true → h'.IsTupleIter i1 a (i + 1) → h'.IsListIter i2 b (i + 1) → PySem.IsPair h' s.heap.objs.size x y → (∀ c u, c ≠ z → c ≠ i1 → c ≠ i2 → s.heap.get? c = some u → h'.get? c = some u) →
      Q (.ref s.heap.objs.size) { s with heap := h' }) :
    wpAny (model P w) A (Builtin.«zip.__next__» ⟨[.ref z], []⟩) (fun fin s' => ∃ v, fin = .done (.ret v) ∧ Q v s') E s := by
  show wpAny _ _ (field (.ref z) 2 >>= _) _ _ _
  refine wpAny_bind (wpAny_field hz rfl (x := .bool false) rfl ?_)
  show wpAny _ _ (field (.ref z) 3 >>= _) _ _ _
  refine wpAny_bind (wpAny_field hz rfl (x := .ref TI) rfl (wpAny_bind (wpAny_seqItems hTI rfl ?_)))
  show wpAny _ _ (Builtin.SmallTypes.ownedTupleIsFree (.ref z) >>= _) _ _ _
  refine wpAny_bind (wpAny_tupleHeld_zip hz hT fun g0 gz s0 => ?_)
  simp only [Bool.false_eq_true, if_false]
  refine wpAny_bind ?_
  rw [← Array.forIn_toList]
  simp only [List.forIn_cons, List.forIn_nil]
  refine wpAny_bind (wpAny_bind (wpAny_holding ?_))
  show wpAny _ _ (Builtin.SmallTypes.nextOf (.ref i1) >>= _) _ _ _
  refine wpAny_bind (wpAny_nextOf_tuple_item (s := { s with heap := g0 }) (h1.extBut s0.extBut D.i1z) (p1.extBut s0.extBut D.l1z) hx fun g1 j1 s1 => wpAny_pure (wpAny_pure ?_))
  refine wpAny_bind (wpAny_bind (wpAny_holding ?_))
  show wpAny _ _ (Builtin.SmallTypes.nextOf (.ref i2) >>= _) _ _ _
  refine wpAny_bind (wpAny_nextOf_list_item (s := { s with heap := g1 }) ((h2.extBut s0.extBut D.i2z).extBut s1.extBut D.i12.symm) ((p2.extBut s0.extBut D.l2z).extBut s1.extBut D.l2i1) hy fun g2 j2 s2 => wpAny_pure (wpAny_pure (wpAny_pure ?_)))
  show wpAny _ _ (newTuple [x, y] >>= _) _ _ _
  refine wpAny_bind (wpAny_newTuple (wpAny_pure ⟨_, rfl, ?_⟩))
  have es : g2.objs.size = s.heap.objs.size := by rw [s2.1, s1.1, s0.1]
  have gz2 : IsZipHeld g2 z TI TO T true := s2.extBut _ _ D.i2z.symm (s1.extBut _ _ D.i1z.symm gz)
  show Q (.ref g2.objs.size) _
  have pr : PySem.IsPair (g2.push { cls := .type "tuple", data := .seq #[x, y] }) g2.objs.size x y := Heap.get?_push_size _ rfl
  rw [es] at pr ⊢
  exact k _ (Heap.get?_push_of_some _ gz2) ((j1.extBut s2.extBut D.i12).at fun u q => Heap.get?_push_of_some _ q) (j2.at fun u q => Heap.get?_push_of_some _ q) pr
    fun c u c1 c2 c3 q => Heap.get?_push_of_some _ (s2.extBut _ _ c3 (s1.extBut _ _ c2 (s0.extBut _ _ c1 q)))
theorem heldEnd {T : Addr} {f : Bool} {o : Obj} {Q : Fin → Shared → Prop} (hh : A.handled = none) (D : ZipApart z TI TO i1 i2 a b) (hz : IsZipHeld s.heap z TI TO T f) (hT : s.heap.get? T = some o)
    (hTI : PySem.IsPair s.heap TI (.ref i1) (.ref i2)) (h1 : s.heap.IsTupleIter i1 a i) (h2 : s.heap.IsListIter i2 b i) (p1 : s.heap.IsTuple a xs) (p2 : s.heap.IsList b ys) (he : xs[i]? = none ∨ ys[i]? = none)
    (k : ∀ h' e, (∀ c u, c ≠ z → c ≠ i1 → c ≠ i2 → s.heap.get? c = some u → h'.get? c = some u) → (∃ u, h'.get? e = some u ∧ u.cls = .type "StopIteration") → E (.ref e) { s with heap := h' }) :
    wpAny (model P w) A (Builtin.«zip.__next__» ⟨[.ref z], []⟩) Q E s := by
  show wpAny _ _ (field (.ref z) 2 >>= _) _ _ _
  refine wpAny_bind (wpAny_field hz rfl (x := .bool false) rfl ?_)
  show wpAny _ _ (field (.ref z) 3 >>= _) _ _ _
  refine wpAny_bind (wpAny_field hz rfl (x := .ref TI) rfl (wpAny_bind (wpAny_seqItems hTI rfl ?_)))
  show wpAny _ _ (Builtin.SmallTypes.ownedTupleIsFree (.ref z) >>= _) _ _ _
  refine wpAny_bind (wpAny_tupleHeld_zip hz hT fun g0 gz s0 => ?_)
  simp only [Bool.false_eq_true, if_false]
  refine wpAny_bind ?_
  rw [← Array.forIn_toList]
  simp only [List.forIn_cons, List.forIn_nil]
  refine wpAny_bind (wpAny_bind (wpAny_holding ?_))
  show wpAny _ _ (Builtin.SmallTypes.nextOf (.ref i1) >>= _) _ _ _
  cases hx : xs[i]? with
  | none =>
    exact wpAny_bind (wpAny_nextOf_tuple_end (s := { s with heap := g0 }) hh (h1.extBut s0.extBut D.i1z) (p1.extBut s0.extBut D.l1z) hx fun g1 e s1 q => k g1 e (fun c u c1 c2 _ r => s1 _ _ c2 (s0.extBut _ _ c1 r)) q)
  | some x =>
    have hy : ys[i]? = none := he.resolve_left (by rw [hx]; exact Option.some_ne_none x)
    refine wpAny_bind (wpAny_nextOf_tuple_item (s := { s with heap := g0 }) (h1.extBut s0.extBut D.i1z) (p1.extBut s0.extBut D.l1z) hx fun g1 j1 s1 => wpAny_pure (wpAny_pure ?_))
    refine wpAny_bind (wpAny_bind (wpAny_holding ?_))
    show wpAny _ _ (Builtin.SmallTypes.nextOf (.ref i2) >>= _) _ _ _
    exact wpAny_bind (wpAny_nextOf_list_end (s := { s with heap := g1 }) hh ((h2.extBut s0.extBut D.i2z).extBut s1.extBut D.i12.symm) ((p2.extBut s0.extBut D.l2z).extBut s1.extBut D.l2i1) hy
      fun g2 e s2 q => k g2 e (fun c u c1 c2 c3 r => s2 _ _ c3 (s1.extBut _ _ c2 (s0.extBut _ _ c1 r))) q)
/-- a turn of such a zip -/
theorem zItem {x y : Value} {Q : Option Value → Shared → Prop} (hh : A.handled = none) (D : ZipApart z TI TO i1 i2 a b) (st : ZTL s.heap z TI TO i1 i2 a b i) (p1 : s.heap.IsTuple a xs) (p2 : s.heap.IsList b ys) (hx : xs[i]? = some x) (hy : ys[i]? = some y)
    (k : ∀ h' tk, ZTL h' z TI TO i1 i2 a b (i + 1) → PySem.IsPair h' s.heap.objs.size x y → (∀ c u, c ∉ [z, TI, TO, i1, i2] → s.heap.get? c = some u → h'.get? c = some u) → Q (some (.ref s.heap.objs.size)) { s with heap := h', toks := tk }) :
    wpAny (model P w) A (pyNext (.ref z)) Q E s := by
  obtain ⟨own, ins, one, two⟩ := st
  rcases own with ⟨hz, x0, y0, hTO⟩ | ⟨T, f, o, hz, hT, n0, n1, n2, n3, n4, n5⟩
  · refine wpAny_pyNext_zipD2_item (sep2 D) (Draws.tuple (prog := P) (w := w) (A := A.in1) hh i1 a D.l1i1 xs) (Draws.list (prog := P) (w := w) (A := A.in1) hh i2 b D.l2i2 ys) hz ins hTO ⟨one, p1⟩ ⟨two, p2⟩
      (Array.getElem?_eq_some_iff.mp hx).1 (Array.getElem?_eq_some_iff.mp hy).1 fun x1 x2 h' tk e1 e2 hz' hTO' s1 s2 pr sz kp => ?_
    have q1 : x1 = x := Option.some.inj (e1.symm.trans hx)
    have q2 : x2 = y := Option.some.inj (e2.symm.trans hy)
    subst q1 q2
    have lt : ∀ {c u}, s.heap.get? c = some u → s.heap.objs.size ≠ c := fun q => Ne.symm (Nat.ne_of_lt (Heap.lt_size q))
    have l1 : s.heap.objs.size ≠ i1 := by obtain ⟨_, q, _⟩ := one; exact lt q
    have l2 : s.heap.objs.size ≠ i2 := by obtain ⟨_, q, _⟩ := two; exact lt q
    exact k h' tk ⟨.inr ⟨_, false, _, hz', pr, rfl, lt hz, lt ins, lt hTO, l1, l2⟩, kp _ _ D.TIz D.TITO D.TIi1 D.TIi2 ins, s1.1, s2.1⟩ pr
      fun c u hc q => kp c u (fun e => hc (by simp [e])) (fun e => hc (by simp [e])) (fun e => hc (by simp [e])) (fun e => hc (by simp [e])) q
  · have ty : s.TypeIs (.ref z) "zip" := ⟨_, hz, rfl⟩
    unfold pyNext
    refine wpAny_bind (wpAny_attempt (wpAny_callSpecial?_slot (name := Str.ofString "__next__") ty F.slot_zip_next (wpAny_call_entry F.slot_zip_next ty F.entry_zip_next
      (heldItem D hz hT ins one two p1 p2 hx hy fun h' hz' j1 j2 pr kp => wpAny_pure ?_) (F.args_zip_next_1 _))))
    exact k h' s.toks ⟨.inr ⟨T, true, o, hz', kp T o n1 n4 n5 hT, n0, n1, n2, n3, n4, n5⟩, kp _ _ D.TIz D.TIi1 D.TIi2 ins, j1, j2⟩ pr
      fun c u hc q => kp c u (fun e => hc (by simp [e])) (fun e => hc (by simp [e])) (fun e => hc (by simp [e])) q
theorem zEnd {Q : Option Value → Shared → Prop} (hh : A.handled = none) (D : ZipApart z TI TO i1 i2 a b) (st : ZTL s.heap z TI TO i1 i2 a b i) (p1 : s.heap.IsTuple a xs) (p2 : s.heap.IsList b ys) (he : xs[i]? = none ∨ ys[i]? = none)
    (k : ∀ h' tk, (∀ c u, c ∉ [z, TI, TO, i1, i2] → s.heap.get? c = some u → h'.get? c = some u) → Q none { s with heap := h', toks := tk }) : wpAny (model P w) A (pyNext (.ref z)) Q E s := by
  obtain ⟨own, ins, one, two⟩ := st
  rcases own with ⟨hz, x0, y0, hTO⟩ | ⟨T, f, o, hz, hT, n0, n1, n2, n3, n4, n5⟩
  · have fin : ∀ h' tk, (∀ c u, c ≠ z → c ≠ TO → c ≠ i1 → c ≠ i2 → s.heap.get? c = some u → h'.get? c = some u) → Q none { s with heap := h', toks := tk } := fun h' tk kp =>
      k h' tk fun c u hc q => kp c u (fun e => hc (by simp [e])) (fun e => hc (by simp [e])) (fun e => hc (by simp [e])) (fun e => hc (by simp [e])) q
    cases hx : xs[i]? with
    | none =>
      cases hy : ys[i]? with
      | none => exact wpAny_pyNext_zipD2_end (sep2 D) (overT (P := P) (w := w) (A := A.in1) hh hx) (overL (P := P) (w := w) (A := A.in1) hh hy) hz ins hTO ⟨rfl, one, p1⟩ ⟨rfl, two, p2⟩ (Nat.le_refl _) (Nat.le_refl _) (.inl rfl) fin
      | some y => exact wpAny_pyNext_zipD2_end (sep2 D) (overT (P := P) (w := w) (A := A.in1) hh hx) (Draws.list (prog := P) (w := w) (A := A.in1) hh i2 b D.l2i2 ys) hz ins hTO ⟨rfl, one, p1⟩ ⟨two, p2⟩ (Nat.le_refl _) (Nat.le_of_lt (Array.getElem?_eq_some_iff.mp hy).1) (.inl rfl) fin
    | some x =>
      have hy : ys[i]? = none := he.resolve_left (by rw [hx]; exact Option.some_ne_none x)
      exact wpAny_pyNext_zipD2_end (sep2 D) (Draws.tuple (prog := P) (w := w) (A := A.in1) hh i1 a D.l1i1 xs) (overL (P := P) (w := w) (A := A.in1) hh hy) hz ins hTO ⟨one, p1⟩ ⟨rfl, two, p2⟩ (Nat.le_of_lt (Array.getElem?_eq_some_iff.mp hx).1) (Nat.le_refl _) (.inr rfl) fin
  · have ty : s.TypeIs (.ref z) "zip" := ⟨_, hz, rfl⟩
    unfold pyNext
    refine wpAny_bind (wpAny_attempt (wpAny_callSpecial?_slot (name := Str.ofString "__next__") ty F.slot_zip_next (wpAny_call_entry F.slot_zip_next ty F.entry_zip_next
      (heldEnd hh D hz hT ins one two p1 p2 he fun h' e kp q => ?_) (F.args_zip_next_1 _))))
    obtain ⟨u, hu, hc⟩ := q
    refine wpAny_bind (wpAny_isInstance (T := "StopIteration") (b := true) ⟨u, hu, hc⟩ isSubtype_stop (wpAny_pure (k h' s.toks ?_)))
    exact fun c u hc q => kp c u (fun e => hc (by simp [e])) (fun e => hc (by simp [e])) (fun e => hc (by simp [e])) q
end
end Gx
set_option Elab.async false
set_option linter.all false
set_option maxRecDepth 100000
set_option maxHeartbeats 4000000
/-! Gx: for over zip of a tuple and a list; list(zip(..)). -/
namespace Gx
open PySem PySem.Spec PyProof.Rows L2
/-- zip of the tuple at a and the list at b, each turn a new pair -/
def ItzTL (K : PySem.W.Frag) (a b : Addr) : It :=
  ⟨fun i H => ∃ (xs ys : List V) (x y : V), SqT K H a xs ∧ SqL K H b ys ∧ xs[i]? = some x ∧ ys[i]? = some y,
    fun i H v H' => ∃ T x y, v = .ref T ∧ H T = none ∧ H' = upd H T (.tup [x, y]) ∧ (∀ xs, SqT K H a xs → xs[i]? = some x) ∧ ∀ ys, SqL K H b ys → ys[i]? = some y,
    fun i H => ∃ xs ys : List V, SqT K H a xs ∧ SqL K H b ys ∧ (xs.length ≤ i ∨ ys.length ≤ i)⟩
theorem turnTL {P : Program} {w : World} {K : PySem.W.Frag} {elts : List Expr} {kk : Nat} {tpos : Pos} {a b z TI TO i1 i2 : Addr} (D : ZipApart z TI TO i1 i2 a b) :
    Turn P w K (.Tuple elts kk tpos) (ItzTL K a b) [z, TI, TO, i1, i2] z (fun i h => IsZip h z TI TO .none ∧ PySem.IsPair h TI (.ref i1) (.ref i2) ∧ (∃ x y, PySem.IsPair h TO x y) ∧ h.IsTupleIter i1 a i ∧ h.IsListIter i2 b i) where
  mem := by simp
  obj := fun i h st c hc => by
    obtain ⟨hz, hTI, ⟨x, y, hTO⟩, ⟨o1, e1, _, d1⟩, ⟨o2, e2, _, d2⟩⟩ := st
    rcases (by simpa using hc : c = z ∨ c = TI ∨ c = TO ∨ c = i1 ∨ c = i2) with rfl | rfl | rfl | rfl | rfl
    · exact ⟨_, hz, fun v q => nomatch q⟩
    · exact ⟨_, hTI, fun v q => nomatch q⟩
    · exact ⟨_, hTO, fun v q => nomatch q⟩
    · exact ⟨o1, e1, fun v q => by rw [d1] at q; cases q⟩
    · exact ⟨o2, e2, fun v q => by rw [d2] at q; cases q⟩
  keep := fun i h h' st k => by
    obtain ⟨hz, hTI, ⟨x, y, hTO⟩, h1, h2⟩ := st
    exact ⟨k z (by simp) _ hz, k TI (by simp) _ hTI, ⟨x, y, k TO (by simp) _ hTO⟩, h1.at fun o q => k i1 (by simp) o q, h2.at fun o q => k i2 (by simp) o q⟩
  item := by
    intro X hP hw hK hc i pins s σ H E I hf st hg
    subst hP hw hK
    obtain ⟨hz, hTI, ⟨x0, y0, hTO⟩, h1, h2⟩ := st
    obtain ⟨xs, ys, x, y, qx, qy, hx, hy⟩ := hg
    obtain ⟨its, rv, p, _⟩ := I.tuple qx
    obtain ⟨it2, rv2, p2, _⟩ := I.list qy
    obtain ⟨u, hu, ru⟩ := rv.get hx
    obtain ⟨u2, hu2, ru2⟩ := rv2.get hy
    have lz : z < s.heap.objs.size := Heap.lt_size hz
    have p' : s.heap.IsTuple a its.toArray := p
    have e1 : its.toArray[i]? = some u := by simpa using hu
    have e2 : it2.toArray[i]? = some u2 := by simpa using hu2
    have hd := I.ok.hd hc
    refine wpAny_pyNext_zipD2_item (sep2 D) (Draws.tuple (prog := X.prog) (w := X.w) (A := X.A.in1) hd i1 a D.l1i1 its.toArray) (Draws.list (prog := X.prog) (w := X.w) (A := X.A.in1) hd i2 b D.l2i2 it2.toArray) hz hTI hTO ⟨h1, p'⟩ ⟨h2, p2.isList⟩
      (Array.getElem?_eq_some_iff.mp e1).1 (Array.getElem?_eq_some_iff.mp e2).1 fun x1 x2 h' tk z1 z2 hz' TO' s1 s2 hT hsz hk => ?_
    have w1 : x1 = u := Option.some.inj (z1.symm.trans e1)
    have w2 : x2 = u2 := Option.some.inj (z2.symm.trans e2)
    subst w1 w2
    refine ⟨_, rfl, wpAny_letOwnedTupleGo_zip (s := { s with heap := h', toks := tk }) hz' fun h'' z'' sb => ?_⟩
    have hT2 : h''.get? s.heap.objs.size = some { cls := .type "tuple", data := .seq #[x1, x2] } := (sb.2 _ (Nat.ne_of_gt lz)).trans hT
    have nw : ObjOk X.prog X.w (upd H s.heap.objs.size (.tup [x, y])) h'' s.heap.objs.size (.tup [x, y]) :=
      ⟨by show 2 ≤ sizeLine; decide, [x1, x2], .cons ru (.cons ru2 .nil), ⟨_, hT2, rfl, _, rfl⟩⟩
    have I1 : Inv X pins σ (upd H s.heap.objs.size (.tup [x, y])) { s with heap := h'', toks := tk } :=
      I.turnedNew (ch := [z, TI, TO, i1, i2]) (fun c o hb q => (sb.2 c (fun e => hb (by simp [e]))).trans (hk c o (fun e => hb (by simp [e])) (fun e => hb (by simp [e])) (fun e => hb (by simp [e])) (fun e => hb (by simp [e])) q)) hf (Nat.le_refl _) nw
    refine ⟨.ref s.heap.objs.size, _, I1, rfl, ⟨_, x, y, rfl, I.hok.fresh (Nat.le_refl _), rfl, fun l hl => by rw [I.tuple_inj hl qx]; exact hx, fun l hl => by rw [I.list_inj hl qy]; exact hy⟩, ⟨z'', ?_, ⟨x1, x2, ?_⟩, ?_, ?_⟩, fun c hcm => ?_⟩
    · exact (sb.2 _ D.TIz).trans (hk _ _ D.TIz D.TITO D.TIi1 D.TIi2 hTI)
    · exact (sb.2 _ D.TOz).trans TO'
    · exact s1.1.at fun o q => (sb.2 _ D.i1z).trans q
    · exact s2.1.at fun o q => (sb.2 _ D.i2z).trans q
    · have lt : c < s.heap.objs.size := by
        rcases (by simpa using hcm : c = z ∨ c = TI ∨ c = TO ∨ c = i1 ∨ c = i2) with rfl | rfl | rfl | rfl | rfl
        · exact lz
        · exact Heap.lt_size hTI
        · exact Heap.lt_size hTO
        · obtain ⟨_, e, _⟩ := h1; exact Heap.lt_size e
        · obtain ⟨_, e, _⟩ := h2; exact Heap.lt_size e
      rw [upd_ne (Nat.ne_of_lt lt)]
      exact (hf c hcm).1
  done := by
    intro X hP hw hK hc i pins s σ H E I hf st hg
    subst hP hw hK
    obtain ⟨hz, hTI, hTO, h1, h2⟩ := st
    obtain ⟨xs, ys, qx, qy, he⟩ := hg
    obtain ⟨its, rv, p, _⟩ := I.tuple qx
    obtain ⟨it2, rv2, p2, _⟩ := I.list qy
    have l1 := rv.length
    have l2 := rv2.length
    have p' : s.heap.IsTuple a its.toArray := p
    have h0 : its.toArray[i]? = none ∨ it2.toArray[i]? = none := by
      rcases he with q | q
      · exact .inl (by simp; omega)
      · exact .inr (by simp; omega)
    exact zEnd (P := X.prog) (w := X.w) (I.ok.hd hc) D ⟨.inl ⟨hz, hTO⟩, hTI, h1, h2⟩ p' p2.isList h0 fun h' tk hk => ⟨rfl, I.turnedL (t' := tk) (ch := [z, TI, TO, i1, i2]) hk hf⟩
  self := fun A i s Q E st h => wpAny_pyIter_zip st.1 h
theorem it_zipTL {G : Gl} {F : Hp} {ι : List Addr} {H : Hp} {xs ys : List D} {a b : Addr} {vs ws : List V} (q : SqT G.K F a vs) (l : RepL G F ι xs vs) (q2 : SqL G.K F b ws) (l2 : RepL G F ι ys ws) : ItOk G (ItzTL G.K a b) (pairsD xs ys) F ι H := by
  intro i S' F' ι' H' e r
  have q' : SqT G.K H' a vs := SqT.fmono r.sub (SqT.fmono e.f q)
  have q2' : SqL G.K H' b ws := SqL.fmono r.sub (SqL.fmono e.f q2)
  refine ⟨fun h => ⟨vs, ws, q', q2', by rw [← l.length, ← l2.length]; exact pairs_len h⟩, fun d hd => ?_⟩
  obtain ⟨d1, d2, h1, h2, rfl⟩ := pairs_get hd
  obtain ⟨v, hv, rv⟩ := l.get h1
  obtain ⟨u, hu, ru⟩ := l2.get h2
  refine ⟨⟨vs, ws, v, u, q', q2', hv, hu⟩, fun x H'' ⟨T, x1, y1, e0, hT, e1, e2, e3⟩ => ?_⟩
  subst e0 e1
  have z1 := (e2 vs q').symm.trans hv
  have z2 := (e3 ws q2').symm.trans hu
  cases z1
  cases z2
  obtain ⟨ex, r'⟩ := r.frz hT (.tup [v, u]) (fun _ z => by cases z)
  exact ⟨_, ex, r', T, _, rfl, SqT.of upd_same, v, [u], rfl, ex.rep (e.rep rv), u, [], rfl, ex.rep (e.rep ru), rfl⟩
def iZipB (K : PySem.W.Frag) (ta : TA) : TI := fun σ H R => ta σ H fun vs H1 => ∃ a b xs ys, vs = [.ref a, .ref b] ∧
  (((SqL K H1 a xs ∧ SqL K H1 b ys ∧ R (Itz K a b) H1) ∨ (SqT K H1 a xs ∧ SqT K H1 b ys ∧ R (RZ.ItzT K a b) H1)) ∨ (SqT K H1 a xs ∧ SqL K H1 b ys ∧ R (ItzTL K a b) H1))
theorem piZipB {X : Cx} {e e2 : Expr} {ta : TA} {p pos tpos : Pos} {elts : List Expr} {kk : Nat} (hg : L2.Gl X "zip") (hm : X.mg "zip" = none) (ha : PA X [e, e2] ta)
    (hs : starEach [e, e2] X.env = (false, eval e X.env) :: starEach [e2] X.env) (hpl : (backTo pos (starEach [e2] X.env)).any (·.1) = false) :
    PI X (.Tuple elts kk tpos) (.Call (.Name "zip" p) [e, e2] [] pos) (iZipB X.K ta) := by
  refine ⟨fun pins s σ H R I h => Call_ (ld_blt I hg hm PyProof.Rows.boot_zip (PyProof.Rows.callWith_type1 (thn (ha.run pos pins s σ H _ I h) fun us s1 ⟨vs, H1, I1, r1, q1⟩ => ?_) hs hpl))⟩
  obtain ⟨a, b, xs, ys, ex, q1⟩ := q1
  subst ex
  cases r1 with
  | cons r rr =>
    cases rr with
    | cons r' rr =>
      cases rr
      cases r
      cases r'
      have fp : ∀ c, c ∈ [s1.heap.objs.size + 4, s1.heap.objs.size + 2, s1.heap.objs.size + 3, s1.heap.objs.size, s1.heap.objs.size + 1] → FpOk X pins H1 c := fun c hc => by
        have le : s1.heap.objs.size ≤ c := by
          rcases (by simpa using hc : c = s1.heap.objs.size + 4 ∨ c = s1.heap.objs.size + 2 ∨ c = s1.heap.objs.size + 3 ∨ c = s1.heap.objs.size ∨ c = s1.heap.objs.size + 1) with q | q | q | q | q <;> (rw [q]; first | exact Nat.le_refl _ | exact Nat.le_add_right _ _)
        exact I1.fpOk le (I1.hok.fresh le)
      rcases q1 with (⟨qx, qy, q⟩ | ⟨qx, qy, q⟩) | ⟨qx, qy, q⟩
      · obtain ⟨its, rv, p1, _⟩ := I1.list qx
        obtain ⟨it2, rv2, p2, _⟩ := I1.list qy
        refine call_zip_2 p1.isList p2.isList fun h' hz hTI hTO h1 h2 hsz hk => wpAny_pyIter_zip hz ?_
        exact ⟨s1.heap.objs.size + 4, [s1.heap.objs.size + 4, s1.heap.objs.size + 2, s1.heap.objs.size + 3, s1.heap.objs.size, s1.heap.objs.size + 1], _, _, H1, rfl, I1.kept (t' := s1.toks) hk, turn_zip (PySem.W.ktu_apart s1.heap.objs.size a b p1.lt p2.lt), ⟨hz, hTI, ⟨_, _, hTO⟩, h1, h2⟩, fp, q⟩
      · obtain ⟨its, rv, p1, _⟩ := I1.tuple qx
        obtain ⟨it2, rv2, p2, _⟩ := I1.tuple qy
        obtain ⟨o1, ho1, _⟩ := id p1
        obtain ⟨o2, ho2, _⟩ := id p2
        refine RZ.call_zipT (show s1.heap.IsTuple a its.toArray from p1) (show s1.heap.IsTuple b it2.toArray from p2) fun h' hz hTI hTO h1 h2 hsz hk => wpAny_pyIter_zip hz ?_
        exact ⟨s1.heap.objs.size + 4, [s1.heap.objs.size + 4, s1.heap.objs.size + 2, s1.heap.objs.size + 3, s1.heap.objs.size, s1.heap.objs.size + 1], _, _, H1, rfl, I1.kept (t' := s1.toks) hk, RZ.turn_zipT (PySem.W.ktu_apart s1.heap.objs.size a b (Heap.lt_size ho1) (Heap.lt_size ho2)), ⟨hz, hTI, ⟨_, _, hTO⟩, h1, h2⟩, fp, q⟩
      · obtain ⟨its, rv, p1, _⟩ := I1.tuple qx
        obtain ⟨it2, rv2, p2, _⟩ := I1.list qy
        obtain ⟨o1, ho1, _⟩ := id p1
        refine zip_begins2 (begins_tuple a its.toArray) (begins_list b it2.toArray) (show s1.heap.IsTuple a its.toArray from p1) p2.isList fun h' hz hTI hTO g1 g2 hsz hk => wpAny_pyIter_zip hz ?_
        exact ⟨s1.heap.objs.size + 4, [s1.heap.objs.size + 4, s1.heap.objs.size + 2, s1.heap.objs.size + 3, s1.heap.objs.size, s1.heap.objs.size + 1], _, _, H1, rfl, I1.kept (t' := s1.toks) hk, turnTL (PySem.W.ktu_apart s1.heap.objs.size a b (Heap.lt_size ho1) p2.lt), ⟨hz, hTI, ⟨_, _, hTO⟩, ⟨_, g1, rfl, rfl⟩, ⟨_, g2, rfl, rfl⟩⟩, fp, q⟩
end Gx
set_option Elab.async false
set_option linter.all false
set_option maxRecDepth 100000
set_option maxHeartbeats 4000000
/-! Gx: list(zip(tuple, list)). -/
namespace Gx
open PySem PySem.Spec PyProof.Rows L2
/-- pairs laid one by one as new tuples -/
inductive Prs : Hp → List (V × V) → List V → Hp → Prop
  | nil {H : Hp} : Prs H [] [] H
  | cons {H H' : Hp} {T : Addr} {x y : V} {r : List (V × V)} {Ts : List V} : H T = none → Prs (upd H T (.tup [x, y])) r Ts H' → Prs H ((x, y) :: r) (.ref T :: Ts) H'
theorem Prs.len {H H' : Hp} {r : List (V × V)} {Ts : List V} (p : Prs H r Ts H') : Ts.length = r.length := by
  induction p with
  | nil => rfl
  | cons _ _ ih => simp [ih]
theorem loopTL {X : Cx} (hc : X.calm = true) {A : Around} (hh : A.handled = none) {pins : List (Addr × Obj)} {σ : L2.St} {z TI TO i1 i2 a b S : Addr} (D : ZipApart z TI TO i1 i2 a b) (hlt : ∀ q, q ∈ [z, TI, TO, i1, i2] → q < S)
    {vs ws : List V} (hz : vs.length ≤ sizeLine) {res : Value} {R : Result → Shared → Prop} :
    ∀ (r : List (V × V)) (i : Nat) (s : Shared) (H : Hp) (Ts : List V) (acc : Array Value) (c : Nat), (vs.zip ws).drop i = r → Ts.length = i → Inv X pins σ H s → (∀ q, q ∈ [z, TI, TO, i1, i2] → FpOk X pins H q) → FpOk X pins H S →
      SqT X.K H a vs → SqL X.K H b ws → ZTL s.heap z TI TO i1 i2 a b i → s.heap.get? S = some (lstObj acc c) → Vals Ts acc.toList →
      (∀ s' H' Ts' acc' c', Inv X pins σ H' s' → FpOk X pins H' S → Prs H r Ts' H' → s'.heap.get? S = some (lstObj acc' c') → Vals (Ts ++ Ts') acc'.toList → R (.ok (.ret res)) s') →
      codeAny (model X.prog X.w) A (.builtin "list.extend.loop" ⟨[.ref S, .ref z, res], []⟩) R s := by
  have hS : S ∉ [z, TI, TO, i1, i2] := fun h => Nat.lt_irrefl _ (hlt S h)
  intro r
  induction r with
  | nil =>
    intro i s H Ts acc c hr hT I fp fS qa qb st hS1 hv k
    obtain ⟨its, rv, p, _⟩ := I.tuple qa
    obtain ⟨it2, rv2, p2, _⟩ := I.list qb
    have l1 := rv.length
    have l2 := rv2.length
    have hl := List.drop_eq_nil_iff.mp hr
    rw [List.length_zip] at hl
    have he : its.toArray[i]? = none ∨ it2.toArray[i]? = none := by
      rcases (by omega : vs.length ≤ i ∨ ws.length ≤ i) with q | q
      · exact .inl (by simp; omega)
      · exact .inr (by simp; omega)
    refine codeAny_builtin F.entry_extend_loop ?_
    rw [Around.under_plainId F.plain_extend_loop _]
    show wpAny _ A.in1 (pyNext (.ref z) >>= _) _ _ s
    refine wpAny_bind (zEnd (A := A.in1) hh D st (show s.heap.IsTuple a its.toArray from p) p2.isList he fun h' tk kp => wpAny_pure ?_)
    exact k _ H [] acc c (I.turnedL (t' := tk) (ch := [z, TI, TO, i1, i2]) kp fp) fS .nil (kp S _ hS hS1) (by rw [List.append_nil]; exact hv)
  | cons xy r ih =>
    obtain ⟨x, y⟩ := xy
    intro i s H Ts acc c hr hT I fp fS qa qb st hS1 hv k
    obtain ⟨its, rv, p, _⟩ := I.tuple qa
    obtain ⟨it2, rv2, p2, _⟩ := I.list qb
    have hg : (vs.zip ws)[i]? = some (x, y) := by
      have q : ((vs.zip ws).drop i)[0]? = some (x, y) := by rw [hr]; rfl
      rw [List.getElem?_drop, Nat.add_zero] at q
      exact q
    have hr2 : (vs.zip ws).drop (i + 1) = r := by
      rw [← List.drop_drop, hr] <;> rfl
    obtain ⟨hx, hy⟩ := List.getElem?_zip_eq_some.mp hg
    obtain ⟨u, hu, ru⟩ := rv.get hx
    obtain ⟨u2, hu2, ru2⟩ := rv2.get hy
    have hi : i < vs.length := (List.getElem?_eq_some_iff.mp hx).1
    have ha : acc.size = i := by
      have q := hv.length
      rw [hT] at q
      rw [q, Array.length_toList]
    refine codeAny_builtin F.entry_extend_loop ?_
    rw [Around.under_plainId F.plain_extend_loop _]
    show wpAny _ A.in1 (pyNext (.ref z) >>= _) _ _ s
    refine wpAny_bind (zItem (A := A.in1) hh D st (show s.heap.IsTuple a its.toArray from p) p2.isList (x := u) (y := u2) (by simpa using hu) (by simpa using hu2) fun h' tk st' pr kp => ?_)
    have nS : s.heap.objs.size ≠ S := Ne.symm (Nat.ne_of_lt (Heap.lt_size hS1))
    have hS2 := kp S _ hS hS1
    have nw : ObjOk X.prog X.w (upd H s.heap.objs.size (.tup [x, y])) h' s.heap.objs.size (.tup [x, y]) :=
      ⟨by show 2 ≤ sizeLine; decide, [u, u2], .cons ru (.cons ru2 .nil), ⟨_, pr, rfl, _, rfl⟩⟩
    have I1 : Inv X pins σ (upd H s.heap.objs.size (.tup [x, y])) { s with heap := h', toks := tk } := I.turnedNew (ch := [z, TI, TO, i1, i2]) kp fp (Nat.le_refl _) nw
    have hn : H s.heap.objs.size = none := I.hok.fresh (Nat.le_refl _)
    have fr : ∀ {q}, FpOk X pins H q → (q < s.heap.objs.size) → FpOk X pins (upd H s.heap.objs.size (.tup [x, y])) q := fun f lt => ⟨by rw [upd_ne (Nat.ne_of_lt lt)]; exact f.1, f.2⟩
    have lz : ∀ q, q ∈ [z, TI, TO, i1, i2] → q < s.heap.objs.size := fun q hq => Nat.lt_trans (hlt q hq) (Heap.lt_size hS1)
    show wpAny _ A.in1 (updateSeq S (·.push (.ref s.heap.objs.size)) >>= _) _ _ _
    refine wpAny_bind ?_
    have oth : ∀ c u, c ≠ S → h'.get? c = some u → (h'.update S (Obj.mapSeq (·.push (Value.ref s.heap.objs.size)))).get? c = some u := fun c u hc e => (Heap.get?_update_other _ _ (Ne.symm hc)).trans e
    have hS3 := Heap.get?_update_self (Obj.mapSeq (·.push (Value.ref s.heap.objs.size))) hS2 rfl
    obtain ⟨f0, f1, f2, f3, f4, f5⟩ := fr fS (Heap.lt_size hS1)
    have vl : Vals (Ts ++ [.ref s.heap.objs.size]) (acc.push (.ref s.heap.objs.size)).toList := by
      rw [Array.toList_push]
      exact hv.append (.cons rfl .nil)
    refine wpAny_updateSeq hS2 rfl (wpAny_pure ⟨plainId_quiet F.plain_extend_loop _, ih (i + 1) _ (upd H s.heap.objs.size (.tup [x, y])) (Ts ++ [.ref s.heap.objs.size]) (acc.push (.ref s.heap.objs.size)) _ hr2 (by rw [List.length_append, hT]; rfl)
      (I1.turned (t' := tk) oth f0 f1 f3 f4 f5) (fun q hq => fr (fp q hq) (lz q hq)) ⟨f0, f1, f2, f3, f4, f5⟩ (SqT.fmono (fun c v e => by rw [upd_ne (ne_of_none e hn)]; exact e) qa) (SqL.fmono (fun c v e => by rw [upd_ne (ne_of_none e hn)]; exact e) qb)
      (st'.lean hS2 rfl hS oth) hS3 vl fun s' H' Ts' acc' c' I' f' pr' e' v' => k s' H' (.ref s.heap.objs.size :: Ts') acc' c' I' f' (.cons hn pr') e' (by rw [List.append_assoc] at v'; exact v')⟩)
      (by rw [ha]; omega) (by show (acc.push (Value.ref s.heap.objs.size)).size ≤ sizeLine + 1; rw [Array.size_push, ha]; omega)
theorem zipNoLen : typeLookup (.type "zip") "__len__" = pure none := by
  rw [typeLookup_type, builtinLookup_eq_fast]
  kernel_rfl
theorem zipNoHint : typeLookup (.type "zip") "__length_hint__" = pure none := by
  rw [typeLookup_type, builtinLookup_eq_fast]
  kernel_rfl
theorem callListZ {X : Cx} (hc : X.calm = true) {pins : List (Addr × Obj)} {σ : L2.St} {H : Hp} {s : Shared} {z TI TO i1 i2 a b : Addr} (D : ZipApart z TI TO i1 i2 a b) {vs ws : List V} {Q : VK} (I : Inv X pins σ H s)
    (fp : ∀ q, q ∈ [z, TI, TO, i1, i2] → FpOk X pins H q) (hlt : ∀ q, q ∈ [z, TI, TO, i1, i2] → q < s.heap.objs.size) (qa : SqT X.K H a vs) (qb : SqL X.K H b ws) (hz : IsZip s.heap z TI TO .none) (hTI : PySem.IsPair s.heap TI (.ref i1) (.ref i2)) (hTO : ∃ x y, PySem.IsPair s.heap TO x y)
    (h1 : s.heap.IsTupleIter i1 a 0) (h2 : s.heap.IsListIter i2 b 0) (k : ∀ H' Ts l, Prs H (vs.zip ws) Ts H' → H' l = none → Q (.ref l) (upd H' l (.lst Ts))) :
    wpAny (model X.prog X.w) X.A (call (.type "list") [.ref z]) (EP X pins σ Q) X.xe s := by
  obtain ⟨its, rv, p, zl⟩ := I.tuple qa
  have hl := rv.length
  have hh := I.ok.hd hc
  have Sz : s.heap.objs.size ≠ z := Ne.symm (Nat.ne_of_lt (hlt z (by simp)))
  refine callType_codes (Q₁ := fun obj s₁ => obj = .ref s.heap.objs.size ∧ s₁ = { s with heap := s.heap.push { cls := .type "list", data := .seq #[] } }) F.called_list (F.typeCall_list_1 _) F.entry_list_init (code_list_new _ ⟨rfl, rfl⟩) fun obj s₁ h₁ => ?_
  obtain ⟨rfl, rfl⟩ := h₁
  have g0 : (s.heap.push { cls := .type "list", data := .seq #[] }).get? s.heap.objs.size = some { cls := .type "list", data := .seq #[] } := Heap.get?_push_size _ rfl
  refine ⟨⟨_, g0, rfl⟩, F.args_list_init_2 _ _, ?_⟩
  show wpAny _ X.A.in1.in1 (Builtin.List.listItems (.ref s.heap.objs.size) >>= fun old => Builtin.List.listUpdate (.ref s.heap.objs.size) (fun _ => #[]) >>= fun _ => letGo old.toList.reverse >>= fun _ => Builtin.List.listExtendWith (.ref s.heap.objs.size) (.ref z) .none) _ _ _
  refine wpAny_bind ?_
  unfold Builtin.List.listItems
  refine wpAny_bind (wpAny_seqItems g0 rfl (wpAny_pure ?_))
  show wpAny _ X.A.in1.in1 (updateSeq s.heap.objs.size (fun _ => #[]) >>= fun _ => letGo (#[] : Array Value).toList.reverse >>= fun _ => Builtin.List.listExtendWith (.ref s.heap.objs.size) (.ref z) .none) _ _ _
  refine wpAny_bind (wpAny_updateSeq g0 rfl ?_)
  have g2 := Heap.get?_update_self (Obj.mapSeq (fun _ => (#[] : Array Value))) g0 rfl
  refine wpAny_bind (wpAny_letGo ?_)
  unfold Builtin.List.listExtendWith
  have up : ∀ (h : Heap) (f : Obj → Obj), (∀ c u, s.heap.get? c = some u → h.get? c = some u) → ∀ c u, s.heap.get? c = some u → (h.update s.heap.objs.size f).get? c = some u := fun h f q c u e =>
    (Heap.get?_update_other _ _ (Ne.symm (Nat.ne_of_lt (Heap.lt_size e)))).trans (q c u e)
  have k1 : ∀ c u, s.heap.get? c = some u → (s.heap.push { cls := .type "list", data := .seq #[] }).get? c = some u := fun c u e => Heap.get?_push_of_some _ e
  have k2 := up _ (Obj.mapSeq (fun _ => (#[] : Array Value))) k1
  have ty : ∀ {h : Heap}, (∀ c u, s.heap.get? c = some u → h.get? c = some u) → Shared.TypeIs { s with heap := h } (.ref z) "zip" := fun {h} q => ⟨_, q _ _ hz, rfl⟩
  refine wpAny_bind (wpAny_typeOf (ty k2) ?_)
  have n1 : Builtin.List.listSameRef (.ref s.heap.objs.size) (.ref z) = false := by simp [Builtin.List.listSameRef, Sz]
  have n2 : (Value.type "zip" == Value.type "list") = false := by decide
  have n3 : (Value.type "zip" == Value.type "tuple") = false := by decide
  simp only [n1, n2, n3, Bool.or_false, Bool.false_eq_true, if_false]
  refine wpAny_bind (wpAny_pyIter_zip (k2 _ _ hz) (wpAny_bind (wpAny_holding ?_)))
  unfold Builtin.List.listLengthHint
  refine wpAny_bind (wpAny_specialOf (ty k2) zipNoLen ?_)
  show wpAny _ X.A.in1.in1 (specialOf (Value.ref z) (Str.ofString "__length_hint__") >>= _) _ _ _
  refine wpAny_bind (wpAny_specialOf (ty k2) zipNoHint (wpAny_pure ?_))
  show wpAny _ X.A.in1.in1 (rule "list.extend.makes-room" >>= fun _ => Builtin.List.listTouch (.ref s.heap.objs.size) >>= fun _ => again (.builtin "list.extend.loop" ⟨[.ref s.heap.objs.size, .ref z, .none], []⟩)) _ _ _
  refine wpAny_bind (wpAny_rule (wpAny_bind ?_))
  show wpAny _ X.A.in1.in1 (updateSeq s.heap.objs.size (·.push .none) >>= fun _ => updateSeq s.heap.objs.size (·.pop)) _ _ _
  refine wpAny_bind (wpAny_updateSeq g2 rfl ?_)
  have g3 := Heap.get?_update_self (Obj.mapSeq (·.push Value.none)) g2 rfl
  refine wpAny_updateSeq (hz := by seq_fits) g3 rfl ?_
  have g4 := Heap.get?_update_self (Obj.mapSeq (·.pop)) g3 rfl
  have k4 := up _ (Obj.mapSeq (·.pop)) (up _ (Obj.mapSeq (·.push Value.none)) k2)
  have fS : FpOk X pins H s.heap.objs.size := I.fpOk (Nat.le_refl _) (I.hok.fresh (Nat.le_refl _))
  refine wpAny_pure ⟨plainId_quiet F.plain_extend_loop _, loopTL (X := X) hc (A := X.A.in1) hh D hlt (vs := vs) (ws := ws) zl (vs.zip ws) 0 _ H [] _ _ (by rw [List.drop_zero]) rfl (I.kept (t' := s.toks) k4) fp fS qa qb
    ⟨.inl ⟨k4 _ _ hz, let ⟨x, y, q⟩ := hTO; ⟨x, y, k4 _ _ q⟩⟩, k4 _ _ hTI, h1.at fun o q => k4 _ o q, h2.at fun o q => k4 _ o q⟩ g4 .nil fun s' H' Ts acc c I' f' pr e v => ⟨rfl, ?_⟩⟩
  have lenT := pr.len
  rw [List.length_zip] at lenT
  exact ⟨.ref s.heap.objs.size, _, I'.take (t' := s'.toks) (o := .lst Ts) (fun _ _ _ q => q) f' ⟨by omega, acc.toList, c, v, by rw [e]⟩, rfl, k H' Ts _ pr f'.1⟩
def tListZ (K : PySem.W.Frag) (ta : TA) : TE := fun σ H Q => ta σ H fun us H1 => ∃ a b vs ws, us = [.ref a, .ref b] ∧ SqT K H1 a vs ∧ SqL K H1 b ws ∧ ∀ H' Ts l, Prs H1 (vs.zip ws) Ts H' → H' l = none → Q (.ref l) (upd H' l (.lst Ts))
theorem bootLst : bootBuiltins ("list" : Str) = some (.type "list") := by decide +kernel
theorem peListZ {X : Cx} {e e2 : Expr} {ta : TA} {p p2 q pos : Pos} (hg : L2.Gl X "list") (hm : X.mg "list" = none) (hg2 : L2.Gl X "zip") (hm2 : X.mg "zip" = none) (hc : X.calm = true) (ha : PA X [e, e2] ta)
    (hs : starEach [e, e2] X.env = (false, eval e X.env) :: starEach [e2] X.env) (hpl : (backTo q (starEach [e2] X.env)).any (·.1) = false) :
    PE X (.Call (.Name "list" p) [.Call (.Name "zip" p2) [e, e2] [] q] [] pos) (tListZ X.K ta) := by
  refine ⟨fun pins s σ H Q I h => Call_ (ld_blt I hg hm bootLst (PyProof.Rows.callWith_type1 (PyProof.Rows.args_cons ?_ rfl) rfl rfl))⟩
  refine Call_ (ld_blt I hg2 hm2 PyProof.Rows.boot_zip (PyProof.Rows.callWith_type1 (thn (ha.run q pins s σ H _ I h) fun us s1 ⟨vs, H1, I1, r1, q1⟩ => ?_) hs hpl))
  obtain ⟨a, b, vs, ws, ex, qx, qy, k⟩ := q1
  subst ex
  cases r1 with
  | cons r rr =>
    cases rr with
    | cons r' rr =>
      cases rr
      cases r
      cases r'
      obtain ⟨its, rv, p1, _⟩ := I1.tuple qx
      obtain ⟨it2, rv2, p2, _⟩ := I1.list qy
      obtain ⟨o1, ho1, _⟩ := id p1
      refine zip_begins2 (begins_tuple a its.toArray) (begins_list b it2.toArray) (show s1.heap.IsTuple a its.toArray from p1) p2.isList fun h' hz hTI hTO g1 g2 hsz hk => PyProof.Rows.args_nil ?_
      have cs : ∀ c, c ∈ [s1.heap.objs.size + 4, s1.heap.objs.size + 2, s1.heap.objs.size + 3, s1.heap.objs.size, s1.heap.objs.size + 1] → s1.heap.objs.size ≤ c ∧ c < s1.heap.objs.size + 5 := fun c hc => by
        rcases (by simpa using hc : c = s1.heap.objs.size + 4 ∨ c = s1.heap.objs.size + 2 ∨ c = s1.heap.objs.size + 3 ∨ c = s1.heap.objs.size ∨ c = s1.heap.objs.size + 1) with e | e | e | e | e <;> (rw [e]; refine ⟨?_, ?_⟩ <;> first | exact Nat.le_refl _ | exact Nat.le_add_right _ _ | exact Nat.add_lt_add_left (by decide) _ | exact Nat.lt_add_of_pos_right (by decide))
      exact callListZ hc (PySem.W.ktu_apart s1.heap.objs.size a b (Heap.lt_size ho1) p2.lt) (I1.kept (t' := s1.toks) hk) (fun c hc => I1.fpOk (cs c hc).1 (I1.hok.fresh (cs c hc).1)) (fun c hc => by show c < h'.objs.size; rw [hsz]; exact (cs c hc).2) qx qy hz hTI ⟨_, _, hTO⟩ ⟨_, g1, rfl, rfl⟩ ⟨_, g2, rfl, rfl⟩ k
theorem prs_rep {G : Gl} {S : Sto} {ι : List Addr} : ∀ {xs ys : List D} {vs ws : List V} {F H H' : Hp} {Ts : List V}, RepL G F ι xs vs → RepL G F ι ys ws → RL G S F ι H → Prs H (vs.zip ws) Ts H' →
    ∃ F', Ext F ι H F' ι H' ∧ RL G S F' ι H' ∧ RepL G F' ι (pairsD xs ys) Ts
  | [], ys, vs, ws, F, H, H', Ts, r1, r2, l, p => by
    have e : vs = [] := r1
    subst e
    cases p
    exact ⟨F, Ext.refl, l, rfl⟩
  | x :: xs, [], vs, ws, F, H, H', Ts, r1, r2, l, p => by
    have e : ws = [] := r2
    subst e
    rw [List.zip_nil_right] at p
    cases p
    exact ⟨F, Ext.refl, l, rfl⟩
  | x :: xs, y :: ys, vs, ws, F, H, H', Ts, r1, r2, l, p => by
    obtain ⟨v, vs', rfl, a1, b1⟩ := r1
    obtain ⟨u, ws', rfl, a2, b2⟩ := r2
    rw [List.zip_cons_cons] at p
    cases p with
    | cons hn p' =>
      rename_i T Ts'
      obtain ⟨ex, l2⟩ := l.frz hn (.tup [v, u]) (fun _ z => by cases z)
      obtain ⟨F', ex2, l3, rp⟩ := prs_rep (ex.repL b1) (ex.repL b2) l2 p'
      exact ⟨F', ex.trans l2 ex2, l3, .ref T, Ts', rfl, ex2.rep ⟨T, [v, u], rfl, SqT.of upd_same, v, [u], rfl, ex.rep a1, u, [], rfl, ex.rep a2, rfl⟩, rp⟩
theorem RepL.rev {G : Gl} {F : Hp} {ι : List Addr} : ∀ {ds : List D} {vs : List V}, RepL G F ι ds vs → RepL G F ι ds.reverse vs.reverse
  | [], vs, h => by
    have e : vs = [] := h
    subst e
    exact rfl
  | d :: ds, vs, h => by
    obtain ⟨v, vs', rfl, a, b⟩ := h
    rw [List.reverse_cons, List.reverse_cons]
    exact (RepL.rev b).snoc a
/-! ### xs.extend(tuple) -/
theorem extTup (l : Addr) (xs : Array Value) (n : Nat) (b : Addr) (ys : Array Value) (n2 : Nat) (dc : Option Addr) (sl : Array (Option Value)) (c0 : ¬(!xs.isEmpty && Builtin.List.listTooLong (xs.size + ys.size)) = true) (c1 : xs.size ≤ sizeLine) (c2 : xs.size + ys.size ≤ sizeLine + 1) :
    Meets (Builtin.«list.extend» ⟨[.ref l, .ref b], []⟩) (fun _ R s => s.heap.get? l = some { cls := .type "list", dict := none, data := .seq xs n, slots := #[] } ∧ s.heap.get? b = some { cls := .type "tuple", dict := dc, data := .seq ys n2, slots := sl } ∧
      R (.ok (.ret Value.none)) { s with heap := s.heap.update l (Obj.mapSeq fun x => x ++ ys), toks := s.toks }) :=
  .of_wp fun prog w A R s h => by
    obtain ⟨hp, gs, dr, tk, os⟩ := s
    obtain ⟨e1, e2, h⟩ := h
    have f1 := AutoSeq1.idx_int
    have f2 := sub_tuple_tuple
    have f3 := sub_list_list
    have f4 := sub_tuple_list
    have f5 := sub_list_tuple
    have hz' : (xs ++ ys).size ≤ sizeLine + 1 := by rw [Array.size_append]; exact c2
    wp_walk using (wpAny_updateSeq e1 rfl (hz := c1) (_hz' := hz')), AutoSeq1.wpAny_loadPart' e1, AutoSeq1.wpAny_loadPart' e2
    exact ⟨_, rfl, h⟩
def rExtA (K : PySem.W.Frag) : V → List V → Hp → VK → Prop := fun x vs H Q => ∃ l b xs zs, x = .ref l ∧ vs = [.ref b] ∧ H l = some (.lst xs) ∧ (H b = some (.lst zs) ∨ SqT K H b zs) ∧ xs.length + zs.length ≤ sizeLine ∧ Q .non (upd H l (.lst (xs ++ zs)))
theorem mtExtA {X : Cx} : MtM X "list.extend" (rExtA X.K) := by
  intro pins s σ H x vs v us Q I rx rv h
  obtain ⟨l, b, xs, zs, rfl, rfl, hH, hB, hz, q⟩ := h
  rcases hB with hB | hB
  · exact mt_extend pins s σ H _ _ v us Q I rx rv ⟨l, b, xs, zs, rfl, rfl, hH, hB, hz, q⟩
  · cases rx
    obtain ⟨u, rfl, ru⟩ := rv.one
    cases ru
    obtain ⟨z, its, n, r, hl, e⟩ := I.lstM hH
    obtain ⟨it2, r2, ⟨⟨cl, dc, dt, sl⟩, ho, hc, n2, hd⟩, z2⟩ := I.tuple hB
    replace hc : cl = .type "tuple" := hc
    replace hd : dt = .seq it2.toArray n2 := hd
    subst hc hd
    have l2 := r2.length
    have sz : its.toArray.size + it2.toArray.size ≤ sizeLine := by rw [List.size_toArray, List.size_toArray]; omega
    have no : ¬ (!its.toArray.isEmpty && Builtin.List.listTooLong (its.toArray.size + it2.toArray.size)) = true := by
      rw [notLongL sz, Bool.and_false]
      exact Bool.false_ne_true
    refine call_meets F.slot_list_extend ⟨_, e, rfl⟩ F.entry_list_extend (F.args_list_extend_2 _ _) (extTup l its.toArray n b it2.toArray n2 dc sl no (by rw [List.size_toArray]; omega) (by omega)) ⟨e, ho, ?_⟩
    exact ⟨.non, _, I.lset (its' := its ++ it2) hH e (by simp) (r.append r2) (by rw [List.length_append]; omega), rfl, q⟩
end Gx
set_option Elab.async false
set_option linter.all false
set_option maxRecDepth 100000
set_option maxHeartbeats 4000000
/-! Gx: comprehensions keep to the machine. -/
namespace Gx
open PySem PySem.Spec PyProof.Rows L2
variable {G : Gl} {S : Sto} {F : Hp} {ι : List Addr} {H : Hp} {O : Orc} {W : WX} {σ : L2.St}
theorem RL.fresh {p : Addr} {o : HO} (r : RL G S F ι H) (hp : H p = none) : RL G S F ι (upd H p o) :=
  ⟨fun a u z => upd_keep hp _ _ (r.sub _ _ z), r.ft, r.len, r.nd, r.out, fun k a u h1 h2 => by
    have := r.obj k a u h1 h2
    cases u with
    | lst xs =>
      obtain ⟨vs, q1, q2⟩ := this
      exact ⟨vs, upd_keep hp _ _ q1, q2⟩, tabs_keep r.tabs (upd_keep hp)⟩
theorem Ext.aside {F' : Hp} {ι' : List Addr} {H' : Hp} {D0 : Addr} {a : List V} (e : Ext F ι H F' ι' H') (h : H D0 = some (.lst a)) (f : F D0 = none) (n : D0 ∉ ι) : H' D0 = some (.lst a) ∧ F' D0 = none ∧ D0 ∉ ι' := by
  refine ⟨e.h _ _ h n (fun _ z => by cases z), ?_, fun z => ?_⟩
  · cases q : F' D0 with
    | none => rfl
    | some o =>
      rcases e.g _ _ q with z | z
      · rw [f] at z; cases z
      · obtain ⟨ps, q2⟩ := z _ h
        cases q2
  · obtain ⟨m, e1, e2⟩ := e.i
    rw [e1] at z
    rcases List.mem_append.mp z with z | z
    · exact n z
    · obtain ⟨ps, q2⟩ := e2 _ z _ h
      cases q2
abbrev WF : WX := fun _ _ _ _ => False
/-- what a turn of a comprehension does -/
def cF (O : Orc) (own : List Nat) (tg : CTg) (t : CTo) (e : CE) (ρ : Env) : D → Sto → R (Option D) := fun d S2 => (evTg O tg d (wipeE ρ own) S2).bind fun ρ1 S3 => (evTo O t ρ1 S3).bind fun b S4 =>
  if b then (evE O e ρ1 S4).bind fun y S5 => .ok (some y) S5 else .ok none S4
/-- between two turns -/
structure CInv (G : Gl) (f : D → Sto → R (Option D)) (l ys : List D) (S2 : Sto) (D0 : Addr) (F1 : Hp) (ι1 : List Addr) (H1 : Hp) (i m : Nat) (H' : Hp) : Prop where
  hm : m = l.length - i
  hi : i ≤ l.length
  ex : ∃ acc accv S' F' ι' rest, RL G S' F' ι' H' ∧ Ext F1 ι1 H1 F' ι' H' ∧ H' D0 = some (.lst accv) ∧ F' D0 = none ∧ D0 ∉ ι' ∧ RepL G F' ι' acc accv ∧ acc.length ≤ i ∧ compL f (l.drop i) S' = .ok rest S2 ∧ acc ++ rest = ys
/-- between two turns over a list object -/
structure CInvK (G : Gl) (f : D → Sto → R (Option D)) (k n0 : Nat) (ys : List D) (S2 : Sto) (D0 : Addr) (F1 : Hp) (ι1 : List Addr) (H1 : Hp) (i m : Nat) (H' : Hp) : Prop where
  hm : m = n0 - i
  ex : ∃ acc accv S' F' ι' rest, RL G S' F' ι' H' ∧ Ext F1 ι1 H1 F' ι' H' ∧ H' D0 = some (.lst accv) ∧ F' D0 = none ∧ D0 ∉ ι' ∧ RepL G F' ι' acc accv ∧ acc.length ≤ i ∧ compK f k (n0 - i) i S' = .ok rest S2 ∧ acc ++ rest = ys
theorem wipe_own {own : List Nat} {j : Nat} : ∀ (σ : L2.St), j ∉ own → (L2.wipe σ own)[j]? = σ[j]? := by
  intro σ
  induction own with
  | nil => intro _; rfl
  | cons v r ih =>
    intro hn
    simp only [List.mem_cons, not_or] at hn
    show ((L2.wipe σ r).set v none)[j]? = _
    rw [List.getElem?_set_ne (Ne.symm hn.1), ih hn.2]
theorem comp_conv {own : List Nat} {tg : CTg} {it : CI} {t : CTo} {e : CE} {Q : VK} (hsub : ∀ i ∈ tgN tg, i ∈ own) (h : tF G W (fun ρ S => evF O (.comp own tg it t e) ρ S) σ H Q) :
    tLc (tI G W fun ρ S => evI O it ρ S) (tG G WF (tgN tg) fun d ρ S => evTg O tg d ρ S) (tT G WF fun ρ S => evTo O t ρ S) (tE G WF fun ρ S => evE O e ρ S) own σ H Q := by
  obtain ⟨ρ, S, F, ι, er, rl, p⟩ := h
  simp only [evF] at p
  refine ⟨ρ, S, F, ι, er, rl, p.bind.imp fun z S1 F1 ι1 H1 e1 l1 p1 => ?_⟩
  cases z with
  | at_ k =>
    intro a ha D0 hD
    have p1' : Pst G W σ F1 ι1 H1 (match S1[k]? with
      | some (.lst xs) => if xs.length ≤ sz then noX (compK (cF O own tg t e ρ) k (xs.length + 1) 0 S1) else .stuck
      | none => .stuck) fun ds _ F' ι' H' => ∀ p vs, H' p = none → RepL G F' ι' ds vs → Q (.ref p) (upd H' p (.lst vs)) := p1
    cases hk : S1[k]? with
    | none => rw [hk] at p1'; exact (show False from p1').elim
    | some ob =>
      rw [hk] at p1'
      cases ob with
      | lst xs0 =>
        dsimp only at p1'
        by_cases hz : xs0.length ≤ sz
        case neg => rw [if_neg hz] at p1'; exact (show False from p1').elim
        rw [if_pos hz] at p1'
        obtain ⟨ys, S2, hc, q⟩ := noX_pst p1'
        refine ⟨CInvK G (cF O own tg t e ρ) k (xs0.length + 1) ys S2 D0 F1 ι1 H1, ⟨xs0.length + 1, ⟨by simp, [], [], S1, F1, ι1, ys, l1.fresh hD, Ext.refl.off hD, upd_same, l1.fnone hD, l1.notIn hD, rfl, Nat.le_refl _, hc, rfl⟩⟩, ?_⟩
        rintro i m H' ⟨rfl, acc, accv, S', F', ι', rest, rl', ex, hacc, fD, nD, rep, hal, hcl, hys⟩
        have ha' : ι'[k]? = some a := by
          obtain ⟨mo, e1, e2⟩ := ex.i
          rw [e1, List.getElem?_append_left (List.getElem?_eq_some_iff.mp ha).1]
          exact ha
        obtain ⟨n, hn⟩ : ∃ n, xs0.length + 1 - i = n + 1 := by
          cases hq : xs0.length + 1 - i with
          | zero => rw [hq] at hcl; cases hcl
          | succ n => exact ⟨n, rfl⟩
        rw [hn] at hcl
        unfold compK at hcl
        cases hS : S'[k]? with
        | none => rw [hS] at hcl; cases hcl
        | some ob =>
          rw [hS] at hcl
          cases ob with
          | lst xs =>
            dsimp only at hcl
            obtain ⟨vs, q1, q2⟩ := rl'.obj k a _ ha' hS
            cases hx : xs[i]? with
            | none =>
              rw [hx] at hcl
              cases hcl
              refine .inl ⟨⟨vs, SqL.of q1, by rw [← q2.length]; exact List.getElem?_eq_none_iff.mp hx⟩, ?_⟩
              have := q F' ι' (less H' D0) (ex.less hD) (rl'.less hacc (fun _ z => by cases z) (fun _ _ z => by unfold LamX.CodeO at z; cases z) fD nD) D0 accv (by unfold less; rw [if_pos rfl]) (by rw [← hys, List.append_nil]; exact rep)
              rw [less_upd hacc] at this
              exact this
            | some d =>
              rw [hx] at hcl
              dsimp only at hcl
              obtain ⟨v, hv, rv0⟩ := q2.get hx
              obtain ⟨o, S3, hf, h2⟩ := bind_ok hcl
              obtain ⟨ys', S4, hc', h3⟩ := bind_ok h2
              cases h3
              have hi : i < xs0.length := by
                cases n with
                | zero => cases hc'
                | succ n => omega
              have hn' : xs0.length + 1 - (i + 1) = n := by omega
              refine .inr ⟨⟨vs, v, SqL.of q1, hv⟩, CInvK G (cF O own tg t e ρ) k (xs0.length + 1) ys S2 D0 F1 ι1 H1 (i + 1) (xs0.length + 1 - (i + 1)), fun H'' n => ⟨_, by omega, n⟩, fun x H'' ⟨y1, y2⟩ => ?_⟩
              subst y1
              have z1 := (y2 vs (SqL.of q1)).symm.trans hv
              cases z1
              obtain ⟨ρ1, Sa, ha2, h4⟩ := bind_ok hf
              obtain ⟨b, Sb, hb, h5⟩ := bind_ok h4
              refine ⟨d, wipeE ρ own, S', F', ι', ((er.ext e1).ext ex).wipe own, rl', rv0, ok_pst ha2 fun Fa ιa Ha ea la σ' er' hlen hsame => ?_⟩
              obtain ⟨b1, b2, b3⟩ := ea.aside hacc fD nD
              refine ⟨?_, ρ1, Sa, Fa, ιa, er', la, ok_pst hb fun Fb ιb Hb eb lb => ?_⟩
              · rw [wipe_same (σ := L2.wipe σ own) hlen fun j hj => hsame j fun z => hj (hsub j z)]
                exact wipe_same (L2.wipe_length σ own) fun j hj => wipe_own σ hj
              · obtain ⟨c1, c2, c3⟩ := eb.aside b1 b2 b3
                have E2 := (ex.trans rl' ea).trans la eb
                cases b with
                | true =>
                  rw [if_pos rfl] at h5
                  obtain ⟨y, Sc, hy', h6⟩ := bind_ok h5
                  cases h6
                  rw [if_pos rfl]
                  refine ⟨ρ1, Sb, Fb, ιb, er'.ext eb, lb, ok_pst hy' fun Fc ιc Hc ec lc v' rv => ?_⟩
                  obtain ⟨d1, d2, d3⟩ := ec.aside c1 c2 c3
                  have hlen2 : accv.length < sizeLine := by rw [← rep.length, ← sz_eq]; omega
                  refine ⟨accv, d1, hlen2, rfl, acc ++ [y], accv ++ [v'], S3, Fc, ιc, ys', lc.off d1 (fun _ z => by cases z) (fun _ _ z => by unfold LamX.CodeO at z; cases z) d2 d3, ((E2.trans lb ec).off hD), upd_same, d2, d3,
                    (ec.repL (eb.repL (ea.repL rep))).snoc rv, by simp; omega, by rw [hn']; exact hc', by simpa using hys⟩
                | false =>
                  rw [if_neg Bool.false_ne_true] at h5
                  cases h5
                  rw [if_neg Bool.false_ne_true]
                  exact ⟨rfl, acc, accv, S3, Fb, ιb, ys', lb, E2, c1, c2, c3, eb.repL (ea.repL rep), by omega, by rw [hn']; exact hc', hys⟩
  | items l =>
    intro J hJ D0 hD
    have p1' : Pst G W σ F1 ι1 H1 (if l.length ≤ sz then noX (compL (cF O own tg t e ρ) l S1) else .stuck) fun ds _ F' ι' H' => ∀ p vs, H' p = none → RepL G F' ι' ds vs → Q (.ref p) (upd H' p (.lst vs)) := p1
    by_cases hz : l.length ≤ sz
    case neg => rw [if_neg hz] at p1'; exact (show False from p1').elim
    rw [if_pos hz] at p1'
    obtain ⟨ys, S2, hc, q⟩ := noX_pst p1'
    refine ⟨CInv G (cF O own tg t e ρ) l ys S2 D0 F1 ι1 H1, ⟨l.length, ⟨by simp, Nat.zero_le _, [], [], S1, F1, ι1, ys, l1.fresh hD, Ext.refl.off hD, upd_same, l1.fnone hD, l1.notIn hD, rfl, Nat.le_refl _, hc, rfl⟩⟩, ?_⟩
    rintro i m H' ⟨rfl, hi, acc, accv, S', F', ι', rest, rl', ex, hacc, fD, nD, rep, hal, hcl, hys⟩
    have okJ := hJ i S' F' ι' H' ex rl'
    by_cases hlt : i < l.length
    · refine .inr ⟨(okJ.2 l[i] (List.getElem?_eq_getElem hlt)).1, CInv G (cF O own tg t e ρ) l ys S2 D0 F1 ι1 H1 (i + 1) (l.length - (i + 1)), fun H'' n => ⟨_, by omega, n⟩, fun x H'' hy => ?_⟩
      obtain ⟨F'', ex2, rl2, rx⟩ := (okJ.2 l[i] (List.getElem?_eq_getElem hlt)).2 x H'' hy
      obtain ⟨a1, a2, a3⟩ := ex2.aside hacc fD nD
      rw [List.drop_eq_getElem_cons hlt] at hcl
      obtain ⟨o, S3, hf, h2⟩ := bind_ok hcl
      obtain ⟨ys', S4, hc', h3⟩ := bind_ok h2
      cases h3
      obtain ⟨ρ1, Sa, ha, h4⟩ := bind_ok hf
      obtain ⟨b, Sb, hb, h5⟩ := bind_ok h4
      refine ⟨l[i], wipeE ρ own, S', F'', ι', (((er.ext e1).ext ex).ext ex2).wipe own, rl2, rx, ok_pst ha fun Fa ιa Ha ea la σ' er' hlen hsame => ?_⟩
      obtain ⟨b1, b2, b3⟩ := ea.aside a1 a2 a3
      refine ⟨?_, ρ1, Sa, Fa, ιa, er', la, ok_pst hb fun Fb ιb Hb eb lb => ?_⟩
      · rw [wipe_same (σ := L2.wipe σ own) hlen fun j hj => hsame j fun z => hj (hsub j z)]
        refine wipe_same (L2.wipe_length σ own) fun j hj => ?_
        have : ∀ (r : List Nat), j ∉ r → (L2.wipe σ r)[j]? = σ[j]? := by
          intro r
          induction r with
          | nil => intro _; rfl
          | cons v r ih =>
            intro hn
            simp only [List.mem_cons, not_or] at hn
            show ((L2.wipe σ r).set v none)[j]? = _
            rw [List.getElem?_set_ne (Ne.symm hn.1), ih hn.2]
        exact this own hj
      · obtain ⟨c1, c2, c3⟩ := eb.aside b1 b2 b3
        have E2 := ((ex.trans rl' ex2).trans rl2 ea).trans la eb
        cases b with
        | true =>
          rw [if_pos rfl] at h5
          obtain ⟨y, Sc, hy', h6⟩ := bind_ok h5
          cases h6
          rw [if_pos rfl]
          refine ⟨ρ1, Sb, Fb, ιb, er'.ext eb, lb, ok_pst hy' fun Fc ιc Hc ec lc v rv => ?_⟩
          obtain ⟨d1, d2, d3⟩ := ec.aside c1 c2 c3
          have hlen2 : accv.length < sizeLine := by rw [← rep.length, ← sz_eq]; omega
          refine ⟨accv, d1, hlen2, rfl, hlt, acc ++ [y], accv ++ [v], S3, Fc, ιc, ys', lc.off d1 (fun _ z => by cases z) (fun _ _ z => by unfold LamX.CodeO at z; cases z) d2 d3, ((E2.trans lb ec).off hD), upd_same, d2, d3,
            (ec.repL (eb.repL (ea.repL (ex2.repL rep)))).snoc rv, by simp; omega, hc', by simpa using hys⟩
        | false =>
          rw [if_neg Bool.false_ne_true] at h5
          cases h5
          rw [if_neg Bool.false_ne_true]
          exact ⟨rfl, hlt, acc, accv, S3, Fb, ιb, ys', lb, E2, c1, c2, c3, eb.repL (ea.repL (ex2.repL rep)), by omega, hc', hys⟩
    · have e0 : i = l.length := by omega
      subst e0
      rw [List.drop_length] at hcl
      cases hcl
      refine .inl ⟨okJ.1 (Nat.le_refl _), ?_⟩
      have := q F' ι' (less H' D0) (ex.less hD) (rl'.less hacc (fun _ z => by cases z) (fun _ _ z => by unfold LamX.CodeO at z; cases z) fD nD) D0 accv (by unfold less; rw [if_pos rfl]) (by rw [← hys, List.append_nil]; exact rep)
      rw [less_upd hacc] at this
      exact this
end Gx
set_option Elab.async false
set_option linter.all false
set_option maxRecDepth 100000
set_option maxHeartbeats 8000000
/-! Gx: THE EXPRESSIONS: what matches runs as the evaluator says. -/
namespace Gx
open PySem PySem.Spec PyProof.Rows L2
variable {G : Gl} {M : Mx} {P : Program} {w : World} {base : Heap} {k : Nat} {O : Orc}
theorem Good.blk {j : Nat} {sc : Scope} {X : Cx} (g : Good G P w base j M sc X) (s : Shared) (H : Hp) (C : Addr) (cl : List (Str × Addr)) (fp : List Addr) (csc : Scope) : Good G P w base j M (relS csc sc) (X.blk s H csc (compEnvC csc cl C X.env) fp) :=
  ⟨g.pP, g.pw, g.pb, g.pK, g.pm, g.pN, g.nd, by show relS csc X.env.scope = _; rw [g.sc], g.calm, g.room⟩
theorem Hl.blk {j : Nat} {sc : Sc} {X : Cx} (h : Hl G k j sc X) (s : Shared) (H : Hp) (C : Addr) (cl : List (Str × Addr)) (fp : List Addr) (csc : Scope) : Hl G k j ⟨relS csc sc.s, sc.lam, sc.rp⟩ (X.blk s H csc (compEnvC csc cl C X.env) fp) :=
  ⟨fun z => ⟨(h.1 z).1, ⟨(h.1 z).2.ex⟩⟩, h.2⟩
theorem takesF {X : Cx} (h : X.xe = fun _ _ => False) : Takes X WF := fun _ _ ⟨_, _, _, _, _, _, _, _, _, _, _, _, _, _, _, _, z⟩ => z.elim
theorem tF_tE {X : Cx} {W : WX} {e : Expr} {f : Env → Sto → R (List D)} (h : PE X e (tF G W f)) : PE X e (tE G W fun ρ S => (f ρ S).bind fun xs S1 => .ok (.lst xs) S1) :=
  pe_weak h fun σ H Q ⟨ρ, S, F, ι, er, rl, p⟩ => ⟨ρ, S, F, ι, er, rl, p.bind.imp fun ds S1 F1 ι1 H1 e1 l1 p1 pp vs hp rv => by
    obtain ⟨ex, l2⟩ := l1.frz hp (.lst vs) (fun _ z => by cases z)
    exact p1 _ _ _ ex l2 _ ⟨pp, vs, rfl, upd_same, ex.repL rv⟩⟩
theorem tF_tM {X : Cx} {W : WX} {e : Expr} {f : Env → Sto → R (List D)} (h : PE X e (tF G W f)) : PE X e (tE G W fun ρ S => (f ρ S).bind fun xs S1 => .ok (.loc S1.length) (S1 ++ [.lst xs])) :=
  pe_weak h fun σ H Q ⟨ρ, S, F, ι, er, rl, p⟩ => ⟨ρ, S, F, ι, er, rl, p.bind.imp fun ds S1 F1 ι1 H1 e1 l1 p1 pp vs hp rv => by
    obtain ⟨ex, l2⟩ := l1.new hp rv
    exact p1 _ _ _ ex l2 _ ⟨pp, rfl, by rw [← l1.len, List.getElem?_append_right (Nat.le_refl _)]; simp⟩⟩
theorem le_sz {F : Hp} {ι : List Addr} {ds : List D} {vs : List V} {α : Type} {W : WX} {σ : L2.St} {H : Hp} {S : Sto} {a : α} {Q : α → Sto → Hp → List Addr → Hp → Prop} (l : RepL G F ι ds vs) (p : Pst G W σ F ι H (if ds.length ≤ sz then .ok a S else .stuck) Q) : vs.length ≤ sizeLine ∧ Pst G W σ F ι H (.ok a S) Q := by
  by_cases h : ds.length ≤ sz
  · rw [if_pos h] at p
    exact ⟨rep_len l h, p⟩
  · rw [if_neg h] at p
    exact (show False from p).elim
/-- a slice of a list -/
def rSlF (G : Gl) : V → Option Int → Option Int → Hp → VK → Prop := fun x lo hi H Q => ∃ a vs ds S F ι, x = .ref a ∧ RL G S F ι H ∧ SqL G.K H a vs ∧ RepL G F ι ds vs ∧ GoesL G S F ι H (cutD ds lo hi) Q
theorem sl_f {X : Cx} (hK : X.K = G.K) : SlR X (rSlF G) := by
  intro pins s σ H x v vl vu lo hi sl Q I rx hs pl pu ⟨a, vs, ds, S, F, ι, e, r, q, l, k⟩
  exact sl_list pins s σ H x v vl vu lo hi sl Q I rx hs pl pu ⟨a, vs, e, by rw [hK]; exact q, fun p hp => k p _ hp (l.cutD lo hi)⟩
theorem and_go {X : Cx} {W : WX} {t u : CT} {a' b' : Expr} {r : List Expr} {pos : Pos} (ha : PT X a' (tT G W fun ρ S => evT O t ρ S)) (hb : PW X (.BoolOp .And (b' :: r) pos) (tT G W fun ρ S => evT O u ρ S)) : PW X (.BoolOp .And (a' :: b' :: r) pos) (tT G W fun ρ S => evT O (.and t u) ρ S) := by
  refine pw_weak (pw_and ha hb) fun σ H Q ⟨ρ, S, F, ι, er, rl, p⟩ => ?_
  simp only [evT] at p
  refine ⟨ρ, S, F, ι, er, rl, p.bind.imp fun c0 S1 F1 ι1 H1 e1 l1 p1 => ?_⟩
  cases c0 with
  | false => rw [if_neg Bool.false_ne_true] at p1 ⊢; exact p1 F1 ι1 H1 Ext.refl l1
  | true => rw [if_pos rfl] at p1 ⊢; exact ⟨ρ, S1, F1, ι1, er.ext e1, l1, p1⟩
theorem or_go {X : Cx} {W : WX} {t u : CT} {a' b' : Expr} {r : List Expr} {pos : Pos} (ha : PT X a' (tT G W fun ρ S => evT O t ρ S)) (hb : PW X (.BoolOp .Or (b' :: r) pos) (tT G W fun ρ S => evT O u ρ S)) : PW X (.BoolOp .Or (a' :: b' :: r) pos) (tT G W fun ρ S => evT O (.or t u) ρ S) := by
  refine pw_weak (pw_or ha hb) fun σ H Q ⟨ρ, S, F, ι, er, rl, p⟩ => ?_
  simp only [evT] at p
  refine ⟨ρ, S, F, ι, er, rl, p.bind.imp fun c0 S1 F1 ι1 H1 e1 l1 p1 => ?_⟩
  cases c0 with
  | false => rw [if_neg Bool.false_ne_true] at p1 ⊢; exact ⟨ρ, S1, F1, ι1, er.ext e1, l1, p1⟩
  | true => rw [if_pos rfl] at p1 ⊢; exact p1 F1 ι1 H1 Ext.refl l1
theorem mTg_each (M : Mx) (osc : Scope) (sc : Sc) (t : CTg) (e : Expr) (h : mTg M osc sc t e = true) (es : List Expr) (env : PySem.Env) : assignEach (e :: es) env = (false, assign e env) :: assignEach es env := by
  cases t <;> simp only [mTg] at h <;> split at h <;> first | rfl | cases h
theorem mTgs_cnt (M : Mx) (osc : Scope) (sc : Sc) : ∀ (ts : CTgs) (es : List Expr), mTgs M osc sc ts es = true → ∀ env : PySem.Env, (assignEach es env).length = cntT ts ∧ (assignEach es env).findIdx? (·.1) = none
  | .nil, es, h, env => by
    simp only [mTgs] at h
    split at h <;> first | exact ⟨rfl, rfl⟩ | cases h
  | .cons t r, es, h, env => by
    simp only [mTgs] at h
    split at h <;> try (cases h; done)
    rename_i e es'
    rw [Bool.and_eq_true] at h
    obtain ⟨a, b⟩ := mTgs_cnt M osc sc r es' h.2 env
    rw [mTg_each M osc sc t e h.1 es' env]
    refine ⟨by simp only [List.length_cons, a, cntT], ?_⟩
    rw [List.findIdx?_cons]
    simp [b]
theorem assign_sub {o i : Expr} {pos : Pos} {env : PySem.Env} (h : plainIxB i = true) (v : Value) : assign (.Subscript o i pos) env v = (do
      let ov ← holding [v] (eval o env)
      let iv ← holding [v, ov] (eval i env)
      standAt pos
      holding [v, ov, iv] (setItem ov iv v)
      release [v, ov, iv] []) := by
  cases i <;> first | rfl | cases h
def isBO : Expr → Bool
  | .BoolOp .. => true
  | _ => false
mutual
theorem sE (A : Amb G M P w base k O) : ∀ (c : CE) (e : Expr) (j : Nat) (sc : Sc) (X : Cx) (W : WX), k ≤ j → Hl G k j sc X → Good G P w base j M sc.s X → Takes X W → mE M sc c e = true → PE X e (tE G W fun ρ S => evE O c ρ S)
  | .var i, e, j, sc, X, W, hj, hl, g, tk, h => by
    simp only [mE] at h
    split at h <;> try (cases h; done)
    rename_i x p
    simp only [Bool.and_eq_true, decide_eq_true_eq] at h
    obtain ⟨⟨h1, h2⟩, h3⟩ := h
    obtain ⟨n1, n2, n3⟩ := nd_of h3
    refine pe_weak (pe_var (i := i) (by rw [g.pN]; exact h1) (by rw [g.sc]; exact vis_of h2) n1 n2) fun σ H Q ⟨ρ, S, F, ι, er, rl, q⟩ => ?_
    simp only [evE] at q
    split at q
    · obtain ⟨v, hv, hr⟩ := er.2 i _ (by assumption)
      exact ⟨v, hv, q F ι H Ext.refl rl v hr⟩
    · exact (show False from q).elim
  | .cst c, e, j, sc, X, W, hj, hl, g, tk, h => by
    simp only [mE] at h
    split at h <;> try (cases h; done)
    rename_i kk p1 p2
    have fin : ∀ {v : V}, PE X (.Constant kk p1 p2) (tC v) → (∀ F ι, Rep G F ι c.d v) → PE X (.Constant kk p1 p2) (tE G W fun ρ S => evE O (.cst c) ρ S) := fun hp hv =>
      pe_weak hp fun σ H Q ⟨ρ, S, F, ι, er, rl, q⟩ => (show Pst G W σ F ι H (.ok c.d S) _ from q) F ι H Ext.refl rl _ (hv F ι)
    split at h
    · exact fin pe_non fun _ _ => rfl
    · have := eq_of_beq h; subst this; exact fin pe_bl fun _ _ => rfl
    · have := of_decide_eq_true h; subst this; exact fin pe_int fun _ _ => rfl
    · have := of_decide_eq_true h; subst this; exact fin pe_str fun _ _ => rfl
    · cases h
  | .glob x d, e, j, sc, X, W, hj, hl, g, tk, h => by
    simp only [mE] at h
    split at h <;> try (cases h; done)
    rename_i y p
    simp only [Bool.and_eq_true, decide_eq_true_eq] at h
    obtain ⟨⟨⟨rfl, h2⟩, h3⟩, h4⟩ := h
    obtain ⟨n1, n2, n3⟩ := nd_of h3
    split at h4
    · rename_i d' hd
      obtain rfl := beqD_eq h4
      obtain ⟨u, v, m, rv, rep⟩ := A.glob _ _ hd
      refine pe_weak (pe_glob (g.gl h2) (by rw [g.pm]; exact m) rv n1) fun σ H Q ⟨ρ, S, F, ι, er, rl, q⟩ => ?_
      simp only [evE] at q
      exact q F ι H Ext.refl rl v (rep F ι)
    · cases h4
  | .bop op a b, e, j, sc, X, W, hj, hl, g, tk, h => by
    simp only [mE] at h
    split at h <;> try (cases h; done)
    rename_i a' op' b' p
    simp only [Bool.and_eq_true, decide_eq_true_eq] at h
    obtain ⟨⟨rfl, h1⟩, h2⟩ := h
    have ho : OpR X (binaryOp op') (rB G op') := by
      by_cases e : op' = .Mult
      · subst e; exact b_mul g.pK
      · exact b_all g.pK _ e
    refine pe_weak (pe_op ho (sE A a a' j sc X W hj hl g tk h1) (sE A b b' j sc X W hj hl g tk h2)) fun σ H Q q => ?_
    simp only [evE] at q
    refine tE_two (fun x y H Q dx dy S F ι σ rl rx ry p => ?_) q
    obtain ⟨d, e, q⟩ := p.opt
    exact ⟨dx, dy, S, F, ι, d, rl, rx, ry, e, fun F' H' v ex rl' rp => q F' ι H' ex rl' v rp⟩
  | .neg a, e, j, sc, X, W, hj, hl, g, tk, h => by
    simp only [mE] at h
    split at h <;> try (cases h; done)
    rename_i a' p
    refine pe_weak (pe_un un_neg (sE A a a' j sc X W hj hl g tk h)) fun σ H Q q => ?_
    simp only [evE] at q
    refine tE_one (r := rU fun i => V.int (-i)) (fun x H Q dx S F ι σ rl rx p => ?_) q
    split at p
    · exact ⟨_, rx, p F ι H Ext.refl rl _ rfl⟩
    · exact (show False from p).elim
  | .notV a, e, j, sc, X, W, hj, hl, g, tk, h => by
    simp only [mE] at h
    split at h <;> try (cases h; done)
    rename_i a' p
    refine pe_weak (pe_notT (sE A a a' j sc X W hj hl g tk h)) fun σ H Q q => ?_
    simp only [evE] at q
    refine tE_one (r := fun x H Q => ∃ c, TruV X.K x H c ∧ Q (.bl (!c)) H) (fun x H Q dx S F ι σ rl rx p => ?_) q
    obtain ⟨d, e, q⟩ := p.opt
    rw [Option.map_eq_some_iff] at e
    obtain ⟨c, e, rfl⟩ := e
    exact ⟨c, by rw [g.pK]; exact tru_v rl (rl.der rx) e, q F ι H Ext.refl rl _ rfl⟩
  | .cmp op a b, e, j, sc, X, W, hj, hl, g, tk, h => by
    simp only [mE] at h
    split at h <;> try (cases h; done)
    rename_i a' op' b' p
    simp only [Bool.and_eq_true, decide_eq_true_eq] at h
    obtain ⟨⟨rfl, h1⟩, h2⟩ := h
    refine pe_weak (pe_cmpR (c_all g.pK g.hu op') (sE A a a' j sc X W hj hl g tk h1) (sE A b b' j sc X W hj hl g tk h2) (mark_of (mE_ok M sc b b' h2))) fun σ H Q q => ?_
    simp only [evE] at q
    refine tE_two (fun x y H Q dx dy S F ι σ rl rx ry p => ?_) q
    obtain ⟨c, e, q⟩ := p.blD rl
    exact ⟨dx, dy, S, F, ι, c, rl, rx, ry, e, q⟩
  | .chain o1 o2 a b c, e, j, sc, X, W, hj, hl, g, tk, h => by
    simp only [mE] at h
    split at h <;> try (cases h; done)
    rename_i a' o1' o2' b' c' p
    simp only [Bool.and_eq_true, decide_eq_true_eq] at h
    obtain ⟨⟨⟨⟨rfl, rfl⟩, h1⟩, h2⟩, h3⟩ := h
    refine pe_weak (pe_chain (c_all g.pK g.hu o1') (c_all g.pK g.hu o2') (sE A a a' j sc X W hj hl g tk h1) (sE A b b' j sc X W hj hl g tk h2) (sE A c c' j sc X W hj hl g tk h3) (mark_of (mE_ok M sc c c' h3))) fun σ H Q ⟨ρ, S, F, ι, er, rl, p⟩ => ?_
    simp only [evE] at p
    refine ⟨ρ, S, F, ι, er, rl, p.bind.imp fun dx S1 F1 ι1 H1 e1 l1 p1 x rx => ?_⟩
    refine ⟨ρ, S1, F1, ι1, er.ext e1, l1, p1.bind.imp fun dy S2 F2 ι2 H2 e2 l2 p2 y ry => ?_⟩
    obtain ⟨c0, h4, q⟩ := p2.bind.opt
    have q := q F2 ι2 H2 Ext.refl l2
    refine ⟨dx, dy, S2, F2, ι2, c0, l2, e2.rep rx, ry, h4, c0, rfl, ?_⟩
    cases c0 with
    | false =>
      rw [if_neg Bool.false_ne_true] at q ⊢
      exact q F2 ι2 H2 Ext.refl l2 _ rfl
    | true =>
      rw [if_pos rfl] at q ⊢
      refine ⟨ρ, S2, F2, ι2, (er.ext e1).ext e2, l2, q.bind.imp fun dz S3 F3 ι3 H3 e3 l3 p3 z rz => ?_⟩
      obtain ⟨c1, h5, q⟩ := p3.blD l3
      exact ⟨dy, dz, S3, F3, ι3, c1, l3, e3.rep ry, rz, h5, q⟩
  | .andV a b, e, j, sc, X, W, hj, hl, g, tk, h => by
    have go : ∀ {a' b' : Expr} {r : List Expr} {pos : Pos}, PE X a' (tE G W fun ρ S => evE O a ρ S) → PE X (.BoolOp .And (b' :: r) pos) (tE G W fun ρ S => evE O b ρ S) → PE X (.BoolOp .And (a' :: b' :: r) pos) (tE G W fun ρ S => evE O (.andV a b) ρ S) := by
      intro a' b' r pos ha hb
      refine pe_weak (pe_andT ha hb) fun σ H Q ⟨ρ, S, F, ι, er, rl, p⟩ => ?_
      simp only [evE] at p
      refine ⟨ρ, S, F, ι, er, rl, p.bind.imp fun dx S1 F1 ι1 H1 e1 l1 p1 x rx => ?_⟩
      obtain ⟨c0, h4, q⟩ := p1.bind.opt
      have q := q F1 ι1 H1 Ext.refl l1
      refine ⟨c0, by rw [g.pK]; exact tru_v l1 (l1.der rx) h4, ?_⟩
      cases c0 with
      | false => rw [if_neg Bool.false_ne_true] at q ⊢; exact q F1 ι1 H1 Ext.refl l1 _ rx
      | true => rw [if_pos rfl] at q ⊢; exact ⟨ρ, S1, F1, ι1, er.ext e1, l1, q⟩
    simp only [mE] at h
    split at h <;> try (cases h; done)
    · rename_i a' b' p
      rw [Bool.and_eq_true] at h
      exact go (sE A a a' j sc X W hj hl g tk h.1) (pe_one (sE A b b' j sc X W hj hl g tk h.2))
    · rename_i a' b' c' r p
      rw [Bool.and_eq_true] at h
      exact go (sE A a a' j sc X W hj hl g tk h.1) (sE A b _ j sc X W hj hl g tk h.2)
  | .orV a b, e, j, sc, X, W, hj, hl, g, tk, h => by
    have go : ∀ {a' b' : Expr} {r : List Expr} {pos : Pos}, PE X a' (tE G W fun ρ S => evE O a ρ S) → PE X (.BoolOp .Or (b' :: r) pos) (tE G W fun ρ S => evE O b ρ S) → PE X (.BoolOp .Or (a' :: b' :: r) pos) (tE G W fun ρ S => evE O (.orV a b) ρ S) := by
      intro a' b' r pos ha hb
      refine pe_weak (pe_orT ha hb) fun σ H Q ⟨ρ, S, F, ι, er, rl, p⟩ => ?_
      simp only [evE] at p
      refine ⟨ρ, S, F, ι, er, rl, p.bind.imp fun dx S1 F1 ι1 H1 e1 l1 p1 x rx => ?_⟩
      obtain ⟨c0, h4, q⟩ := p1.bind.opt
      have q := q F1 ι1 H1 Ext.refl l1
      refine ⟨c0, by rw [g.pK]; exact tru_v l1 (l1.der rx) h4, ?_⟩
      cases c0 with
      | false => rw [if_neg Bool.false_ne_true] at q ⊢; exact ⟨ρ, S1, F1, ι1, er.ext e1, l1, q⟩
      | true => rw [if_pos rfl] at q ⊢; exact q F1 ι1 H1 Ext.refl l1 _ rx
    simp only [mE] at h
    split at h <;> try (cases h; done)
    · rename_i a' b' p
      rw [Bool.and_eq_true] at h
      exact go (sE A a a' j sc X W hj hl g tk h.1) (pe_one (sE A b b' j sc X W hj hl g tk h.2))
    · rename_i a' b' c' r p
      rw [Bool.and_eq_true] at h
      exact go (sE A a a' j sc X W hj hl g tk h.1) (sE A b _ j sc X W hj hl g tk h.2)
  | .ife t a b, e, j, sc, X, W, hj, hl, g, tk, h => by
    simp only [mE] at h
    split at h <;> try (cases h; done)
    rename_i t' a' b' p
    simp only [Bool.and_eq_true] at h
    refine pe_weak (pe_ifExp (sT A t t' j sc X W hj hl g tk h.1.1) (sE A a a' j sc X W hj hl g tk h.1.2) (sE A b b' j sc X W hj hl g tk h.2)) fun σ H Q ⟨ρ, S, F, ι, er, rl, p⟩ => ?_
    simp only [evE] at p
    refine ⟨ρ, S, F, ι, er, rl, p.bind.imp fun c0 S1 F1 ι1 H1 e1 l1 p1 => ?_⟩
    cases c0 with
    | false => rw [if_neg Bool.false_ne_true] at p1 ⊢; exact ⟨ρ, S1, F1, ι1, er.ext e1, l1, p1⟩
    | true => rw [if_pos rfl] at p1 ⊢; exact ⟨ρ, S1, F1, ι1, er.ext e1, l1, p1⟩
  | .tup es, e, j, sc, X, W, hj, hl, g, tk, h => by
    simp only [mE] at h
    split at h <;> try (cases h; done)
    rename_i es' k' p
    refine pe_weak (pe_tup (sEs A es es' j sc X W hj hl g tk h)) fun σ H Q ⟨ρ, S, F, ι, er, rl, p⟩ => ?_
    simp only [evE] at p
    refine ⟨ρ, S, F, ι, er, rl, p.bind.imp fun ds S1 F1 ι1 H1 e1 l1 p1 vs rv => ?_⟩
    obtain ⟨hz, p1⟩ := le_sz rv p1
    refine ⟨hz, fun pp hp => ?_⟩
    obtain ⟨ex, l2⟩ := l1.frz hp (.tup vs) (fun _ z => by cases z)
    exact p1 _ _ _ ex l2 _ ⟨pp, vs, rfl, SqT.of upd_same, ex.repL rv⟩
  | .fl f, e, j, sc, X, W, hj, hl, g, tk, h => by
    simp only [mE] at h
    have := tF_tE (sF A f e j sc X W hj hl g tk h)
    simpa only [evE] using this
  | .ml f, e, j, sc, X, W, hj, hl, g, tk, h => by
    simp only [mE] at h
    have := tF_tM (sF A f e j sc X W hj hl g tk h)
    simpa only [evE] using this
  | .ix a b, e, j, sc, X, W, hj, hl, g, tk, h => by
    simp only [mE] at h
    split at h <;> try (cases h; done)
    rename_i a' b' p
    rw [Bool.and_eq_true] at h
    refine pe_weak (pe_ix (ix_all g.pK) (sE A a a' j sc X W hj hl g tk h.1) (sE A b b' j sc X W hj hl g tk h.2) (ix_of (mE_ok M sc b b' h.2))) fun σ H Q q => ?_
    simp only [evE] at q
    refine tE_two (fun x y H Q dx dy S F ι σ rl rx ry p => ?_) q
    obtain ⟨d, e, q⟩ := p.opt
    exact ⟨dx, dy, S, F, ι, d, rl, rx, ry, e, fun F' H' v ex rl' rp => q F' ι H' ex rl' v rp⟩
  | .sl a lo hi, e, j, sc, X, W, hj, hl, g, tk, h => by
    simp only [mE] at h
    split at h <;> try (cases h; done)
    rename_i a' lo' hi' p1 p2
    simp only [Bool.and_eq_true] at h
    refine pe_weak (pe_slice (sl_t g.pK) (sE A a a' j sc X W hj hl g tk h.1.1) (sO A lo lo' j sc X W hj hl g tk h.1.2) (sO A hi hi' j sc X W hj hl g tk h.2)) fun σ H Q ⟨ρ, S, F, ι, er, rl, p⟩ => ?_
    simp only [evE] at p
    refine ⟨ρ, S, F, ι, er, rl, p.bind.imp fun dx S1 F1 ι1 H1 e1 l1 p1 x rx => ?_⟩
    refine ⟨ρ, S1, F1, ι1, er.ext e1, l1, p1.bind.imp fun l S2 F2 ι2 H2 e2 l2 p2 => ?_⟩
    refine ⟨ρ, S2, F2, ι2, (er.ext e1).ext e2, l2, p2.bind.imp fun u S3 F3 ι3 H3 e3 l3 p3 => ?_⟩
    split at p3
    · exact ⟨_, S3, F3, ι3, l3, e3.rep (e2.rep rx), fun F' H' v ex rl' rp => p3 F' ι3 H' ex rl' v rp⟩
    · exact (show False from p3).elim
  | .rev a, e, j, sc, X, W, hj, hl, g, tk, h => by
    simp only [mE] at h
    split at h <;> try (cases h; done)
    rename_i a' i p1 p2 p3 p4 p5
    simp only [Bool.and_eq_true, decide_eq_true_eq] at h
    obtain ⟨rfl, h⟩ := h
    refine pe_weak (peRevT (sE A a a' j sc X W hj hl g tk h)) fun σ H Q ⟨ρ, S, F, ι, er, rl, p⟩ => ?_
    simp only [evE] at p
    refine ⟨ρ, S, F, ι, er, rl, p.bind.imp fun dx S1 F1 ι1 H1 e1 l1 p1 x rx => ?_⟩
    split at p1
    · obtain ⟨b, ws, rfl, q2, ll⟩ := rx
      refine ⟨b, ws, rfl, by rw [g.pK]; exact l1.sqT q2, fun l hn => ?_⟩
      obtain ⟨ex, l2⟩ := l1.frz hn (.tup ws.reverse) (fun _ z => by cases z)
      exact p1 _ _ _ ex l2 _ ⟨l, _, rfl, SqT.of upd_same, ex.repL ll.rev⟩
    · exact (show False from p1).elim
  | .call f x es, e, j, sc, X, W, hj, hl, g, tk, h => by
    simp only [mE] at h
    split at h <;> try (cases h; done)
    rename_i y p1 es' p2
    simp only [Bool.and_eq_true, decide_eq_true_eq] at h
    obtain ⟨⟨⟨⟨⟨rfl, h1⟩, h2⟩, h3⟩, h5⟩, h4⟩ := h
    have hr : G.rps.contains f = true → X.A.guards = some [] := fun z => hl.2 (by rw [← A.rps] at z; rw [z] at h5; simpa using h5)
    have := call_pe (p := p1) (pos := p2) A hj g tk (f := f) (x := y) (c := es) (by rw [← A.nm]; exact h3) hr h1 h2 h4 (sEs A es es' j sc X W hj hl g tk h4)
    simpa only [evE] using this
  | .callv i es, e, j, sc, X, W, hj, hl, g, tk, h => by
    simp only [mE] at h
    split at h <;> try (cases h; done)
    rename_i y p1 e0 es' p2
    simp only [Bool.and_eq_true, decide_eq_true_eq] at h
    obtain ⟨⟨⟨⟨h1, h2⟩, h3⟩, h5⟩, h4⟩ := h
    have hr : ∀ f, G.rps.contains f = true → X.A.guards = some [] := fun f z => hl.2 (by
      rw [← A.rps] at z
      cases q : sc.rp with
      | true => rfl
      | false =>
        rw [q, Bool.or_false] at h5
        rw [List.isEmpty_iff.mp h5] at z
        cases z)
    exact callv_pe (p := p1) (pos := p2) A hj g tk h1 h2 h3 hr h4 (sEs A es (e0 :: es') j sc X W hj hl g tk h4)
  | .lam gg x b, e, j, sc, X, W, hj, hl, g, tk, h => by
    have hlam : sc.lam = true := by
      simp only [mE] at h
      split at h <;> try (cases h; done)
      simp only [Bool.and_eq_true] at h
      exact h.1.1.1.1.1.2
    exact A.lam X W sc gg x b e (g.mono (hl.1 hlam).1) (hl.1 hlam).2 tk h fun X W sc e g tk h => sE A b e k ⟨sc, false, false⟩ X W (Nat.le_refl _) ⟨fun z => (by cases z), fun z => (by cases z)⟩ g tk h
  | .bi b es, e, j, sc, X, W, hj, hl, g, tk, h => by
    simp only [mE] at h
    split at h <;> try (cases h; done)
    rename_i y p1 e0 es' p2
    rw [Bool.and_eq_true, Bool.and_eq_true, Bool.and_eq_true, decide_eq_true_eq] at h
    obtain ⟨⟨⟨h1, h2⟩, h4⟩, h3⟩ := h
    exact bi_pe (p := p1) (pos := p2) A g (fun z => hl.2 (by subst z; simpa using h4)) h1 h2 h3 (sEs A es (e0 :: es') j sc X W hj hl g tk h3)
  | .isi a ts, e, j, sc, X, W, hj, hl, g, tk, h => by
    simp only [mE] at h
    split at h <;> try (cases h; done)
    rename_i y p1 a' T p2
    simp only [Bool.and_eq_true, decide_eq_true_eq] at h
    obtain ⟨⟨⟨⟨h1, h2⟩, h8⟩, h3⟩, h4⟩ := h
    exact isi_pe (p := p1) (pos := p2) A g h1 h2 h8 h3 (sE A a a' j sc X W hj hl g tk h3) h4
theorem sEs (A : Amb G M P w base k O) : ∀ (c : CEs) (e : List Expr) (j : Nat) (sc : Sc) (X : Cx) (W : WX), k ≤ j → Hl G k j sc X → Good G P w base j M sc.s X → Takes X W → mEs M sc c e = true → PA X e (tEs G W fun ρ S => evEs O c ρ S)
  | .nil, e, j, sc, X, W, hj, hl, g, tk, h => by
    simp only [mEs] at h
    split at h <;> try (cases h; done)
    refine pa_weak pa_nil fun σ H Q ⟨ρ, S, F, ι, er, rl, p⟩ => ?_
    simp only [evEs] at p
    exact p F ι H Ext.refl rl _ rfl
  | .cons a r, e, j, sc, X, W, hj, hl, g, tk, h => by
    simp only [mEs] at h
    split at h <;> try (cases h; done)
    rename_i e0 es'
    rw [Bool.and_eq_true] at h
    exact pa_weak (pa_cons (sE A a e0 j sc X W hj hl g tk h.1) (sEs A r es' j sc X W hj hl g tk h.2) (star_of (mE_ok M sc a e0 h.1))) fun σ H Q q => tEs_cons (fun _ _ _ z => z) q
theorem sO (A : Amb G M P w base k O) : ∀ (c : CO) (e : Option Expr) (j : Nat) (sc : Sc) (X : Cx) (W : WX), k ≤ j → Hl G k j sc X → Good G P w base j M sc.s X → Takes X W → mO M sc c e = true → PO X e (tO G W fun ρ S => evO O c ρ S)
  | .non, e, j, sc, X, W, hj, hl, g, tk, h => by
    simp only [mO] at h
    split at h <;> try (cases h; done)
    refine ⟨fun pins s σ H Q I ⟨ρ, S, F, ι, er, rl, p⟩ => po_none.run pins s σ H Q I ?_⟩
    simp only [evO] at p
    exact p F ι H Ext.refl rl
  | .som a, e, j, sc, X, W, hj, hl, g, tk, h => by
    simp only [mO] at h
    split at h <;> try (cases h; done)
    rename_i a'
    refine ⟨fun pins s σ H Q I ⟨ρ, S, F, ι, er, rl, p⟩ => (po_some (sE A a a' j sc X W hj hl g tk h)).run pins s σ H Q I ?_⟩
    simp only [evO] at p
    refine ⟨ρ, S, F, ι, er, rl, p.bind.imp fun dx S1 F1 ι1 H1 e1 l1 p1 x rx => ?_⟩
    split at p1
    · exact ⟨_, rx, p1 F1 ι1 H1 Ext.refl l1⟩
    · exact (show False from p1).elim
theorem sT (A : Amb G M P w base k O) : ∀ (c : CT) (e : Expr) (j : Nat) (sc : Sc) (X : Cx) (W : WX), k ≤ j → Hl G k j sc X → Good G P w base j M sc.s X → Takes X W → mT M sc c e = true → PT X e (tT G W fun ρ S => evT O c ρ S)
  | .cmp op a b, e, j, sc, X, W, hj, hl, g, tk, h => by
    simp only [mT] at h
    split at h <;> try (cases h; done)
    rename_i a' op' b' p
    simp only [Bool.and_eq_true, decide_eq_true_eq] at h
    obtain ⟨⟨rfl, h1⟩, h2⟩ := h
    refine pt_weak (pt_cmpR (c_all g.pK g.hu op') (sE A a a' j sc X W hj hl g tk h1) (sE A b b' j sc X W hj hl g tk h2) (mark_of (mE_ok M sc b b' h2))) fun σ H Q ⟨ρ, S, F, ι, er, rl, p⟩ => ?_
    simp only [evT] at p
    refine ⟨ρ, S, F, ι, er, rl, p.bind.imp fun dx S1 F1 ι1 H1 e1 l1 p1 x rx => ?_⟩
    refine ⟨ρ, S1, F1, ι1, er.ext e1, l1, p1.bind.imp fun dy S2 F2 ι2 H2 e2 l2 p2 y ry => ?_⟩
    obtain ⟨c0, h4, q⟩ := p2.opt
    exact ⟨dx, dy, S2, F2, ι2, c0, l2, e2.rep rx, ry, h4, c0, rfl, q F2 ι2 H2 Ext.refl l2⟩
  | .chain o1 o2 a b c, e, j, sc, X, W, hj, hl, g, tk, h => by
    simp only [mT] at h
    split at h <;> try (cases h; done)
    rename_i a' o1' o2' b' c' p
    simp only [Bool.and_eq_true, decide_eq_true_eq] at h
    obtain ⟨⟨⟨⟨rfl, rfl⟩, h1⟩, h2⟩, h3⟩ := h
    refine pt_weak (pt_chain (c_all g.pK g.hu o1') (c_all g.pK g.hu o2') (sE A a a' j sc X W hj hl g tk h1) (sE A b b' j sc X W hj hl g tk h2) (sE A c c' j sc X W hj hl g tk h3) (mark_of (mE_ok M sc c c' h3))) fun σ H Q ⟨ρ, S, F, ι, er, rl, p⟩ => ?_
    simp only [evT] at p
    refine ⟨ρ, S, F, ι, er, rl, p.bind.imp fun dx S1 F1 ι1 H1 e1 l1 p1 x rx => ?_⟩
    refine ⟨ρ, S1, F1, ι1, er.ext e1, l1, p1.bind.imp fun dy S2 F2 ι2 H2 e2 l2 p2 y ry => ?_⟩
    obtain ⟨c0, h4, q⟩ := p2.bind.opt
    have q := q F2 ι2 H2 Ext.refl l2
    refine ⟨dx, dy, S2, F2, ι2, c0, l2, e2.rep rx, ry, h4, c0, rfl, ?_⟩
    cases c0 with
    | false =>
      rw [if_neg Bool.false_ne_true] at q ⊢
      exact ⟨false, rfl, q F2 ι2 H2 Ext.refl l2⟩
    | true =>
      rw [if_pos rfl] at q ⊢
      refine ⟨ρ, S2, F2, ι2, (er.ext e1).ext e2, l2, q.bind.imp fun dz S3 F3 ι3 H3 e3 l3 p3 z rz => ?_⟩
      obtain ⟨c1, h5, q⟩ := p3.opt
      exact ⟨dy, dz, S3, F3, ι3, c1, l3, e3.rep ry, rz, h5, c1, rfl, q F3 ι3 H3 Ext.refl l3⟩
  | .not t, e, j, sc, X, W, hj, hl, g, tk, h => by
    simp only [mT] at h
    split at h <;> try (cases h; done)
    rename_i a' p
    refine pt_weak (pt_not (sT A t a' j sc X W hj hl g tk h)) fun σ H Q ⟨ρ, S, F, ι, er, rl, p⟩ => ?_
    simp only [evT] at p
    exact ⟨ρ, S, F, ι, er, rl, p.bind.imp fun c0 S1 F1 ι1 H1 e1 l1 p1 => p1 F1 ι1 H1 Ext.refl l1⟩
  | .and t u, e, j, sc, X, W, hj, hl, g, tk, h => by
    simp only [mT] at h
    split at h <;> try (cases h; done)
    · rename_i a' b' p
      rw [Bool.and_eq_true] at h
      exact (and_go (sT A t a' j sc X W hj hl g tk h.1) (pw_and1 (sT A u b' j sc X W hj hl g tk h.2))).pt
    · rename_i a' b' c' r p
      rw [Bool.and_eq_true] at h
      exact (and_go (sT A t a' j sc X W hj hl g tk h.1) (sW A u _ j sc X W hj hl g tk h.2 rfl)).pt
  | .or t u, e, j, sc, X, W, hj, hl, g, tk, h => by
    simp only [mT] at h
    split at h <;> try (cases h; done)
    · rename_i a' b' p
      rw [Bool.and_eq_true] at h
      exact (or_go (sT A t a' j sc X W hj hl g tk h.1) (pw_or1 (sT A u b' j sc X W hj hl g tk h.2))).pt
    · rename_i a' b' c' r p
      rw [Bool.and_eq_true] at h
      exact (or_go (sT A t a' j sc X W hj hl g tk h.1) (sW A u _ j sc X W hj hl g tk h.2 rfl)).pt
  | .tru a, e, j, sc, X, W, hj, hl, g, tk, h => by
    simp only [mT, Bool.and_eq_true] at h
    refine pt_weak (pt_truth (sE A a e j sc X W hj hl g tk h.2) (tr_of h.1)) fun σ H Q ⟨ρ, S, F, ι, er, rl, p⟩ => ?_
    simp only [evT] at p
    refine ⟨ρ, S, F, ι, er, rl, p.bind.imp fun dx S1 F1 ι1 H1 e1 l1 p1 x rx => ?_⟩
    obtain ⟨c0, h4, q⟩ := p1.opt
    exact ⟨c0, by rw [g.pK]; exact tru_v l1 (l1.der rx) h4, q F1 ι1 H1 Ext.refl l1⟩
theorem sW (A : Amb G M P w base k O) : ∀ (c : CT) (e : Expr) (j : Nat) (sc : Sc) (X : Cx) (W : WX), k ≤ j → Hl G k j sc X → Good G P w base j M sc.s X → Takes X W → mT M sc c e = true → isBO e = true → PW X e (tT G W fun ρ S => evT O c ρ S)
  | .and t u, e, j, sc, X, W, hj, hl, g, tk, h, hb => by
    clear hb
    simp only [mT] at h
    split at h <;> try (cases h; done)
    · rename_i a' b' p
      rw [Bool.and_eq_true] at h
      exact and_go (sT A t a' j sc X W hj hl g tk h.1) (pw_and1 (sT A u b' j sc X W hj hl g tk h.2))
    · rename_i a' b' c' r p
      rw [Bool.and_eq_true] at h
      exact and_go (sT A t a' j sc X W hj hl g tk h.1) (sW A u _ j sc X W hj hl g tk h.2 rfl)
  | .or t u, e, j, sc, X, W, hj, hl, g, tk, h, hb => by
    clear hb
    simp only [mT] at h
    split at h <;> try (cases h; done)
    · rename_i a' b' p
      rw [Bool.and_eq_true] at h
      exact or_go (sT A t a' j sc X W hj hl g tk h.1) (pw_or1 (sT A u b' j sc X W hj hl g tk h.2))
    · rename_i a' b' c' r p
      rw [Bool.and_eq_true] at h
      exact or_go (sT A t a' j sc X W hj hl g tk h.1) (sW A u _ j sc X W hj hl g tk h.2 rfl)
  | .cmp op a b, e, j, sc, X, W, hj, hl, g, tk, h, hb => by
    simp only [mT] at h
    split at h <;> first | cases h | cases hb
  | .chain o1 o2 a b c, e, j, sc, X, W, hj, hl, g, tk, h, hb => by
    simp only [mT] at h
    split at h <;> first | cases h | cases hb
  | .not t, e, j, sc, X, W, hj, hl, g, tk, h, hb => by
    simp only [mT] at h
    split at h <;> first | cases h | cases hb
  | .tru a, e, j, sc, X, W, hj, hl, g, tk, h, hb => by
    simp only [mT, Bool.and_eq_true] at h
    cases e <;> first | exact absurd h.1 Bool.false_ne_true | exact absurd hb Bool.false_ne_true
theorem sTo (A : Amb G M P w base k O) : ∀ (c : CTo) (e : List Expr) (j : Nat) (sc : Sc) (X : Cx) (W : WX), k ≤ j → Hl G k j sc X → Good G P w base j M sc.s X → Takes X W → mTo M sc c e = true → PTs X e (tT G W fun ρ S => evTo O c ρ S)
  | .non, e, j, sc, X, W, hj, hl, g, tk, h => by
    simp only [mTo] at h
    split at h <;> try (cases h; done)
    refine ⟨fun pins s σ H Q I ⟨ρ, S, F, ι, er, rl, p⟩ => pts_nil.run pins s σ H Q I ?_⟩
    simp only [evTo] at p
    exact p F ι H Ext.refl rl
  | .som t, e, j, sc, X, W, hj, hl, g, tk, h => by
    simp only [mTo] at h
    split at h <;> try (cases h; done)
    rename_i e0
    refine ⟨fun pins s σ H Q I q => (pts_one (sT A t e0 j sc X W hj hl g tk h)).run pins s σ H Q I ?_⟩
    simpa only [evTo] using q
theorem sF (A : Amb G M P w base k O) : ∀ (c : CF) (e : Expr) (j : Nat) (sc : Sc) (X : Cx) (W : WX), k ≤ j → Hl G k j sc X → Good G P w base j M sc.s X → Takes X W → mF M sc c e = true → PE X e (tF G W fun ρ S => evF O c ρ S)
  | .disp es, e, j, sc, X, W, hj, hl, g, tk, h => by
    simp only [mF] at h
    split at h <;> try (cases h; done)
    rename_i es' p
    refine pe_weak (pe_lst (sEs A es es' j sc X W hj hl g tk h)) fun σ H Q ⟨ρ, S, F, ι, er, rl, p⟩ => ?_
    simp only [evF] at p
    refine ⟨ρ, S, F, ι, er, rl, p.bind.imp fun ds S1 F1 ι1 H1 e1 l1 p1 vs rv => ?_⟩
    obtain ⟨hz, p1⟩ := le_sz rv p1
    exact ⟨hz, fun pp hp => p1 F1 ι1 H1 Ext.refl l1 pp vs hp rv⟩
  | .comp own tg it t el, e, j, sc, X, W, hj, hl, g, tk, h => by
    simp only [mF] at h
    split at h <;> try (cases h; done)
    rename_i el' tg' it' ifs csc p
    simp only [Bool.and_eq_true, decide_eq_true_eq] at h
    obtain ⟨⟨⟨⟨⟨⟨h1, h2⟩, h3⟩, h4⟩, h5⟩, h6⟩, h7⟩ := h
    have hsub : ∀ i ∈ tgN tg, i ∈ own := fun i hi => by
      have := List.all_eq_true.mp h4 i hi
      simpa using this
    have bok : BlkOk X.N X.env.scope csc (own.filterMap fun i => (M.N[i]?).map fun x => (x, i)) := by
      rw [g.pN, g.sc]; exact blkOk_by h2
    have := pe_lc (pos := p) g.calm g.nd (sI A it tg' it' j sc X W hj hl g tk h1) bok
      (fun s H C cl fp => sTg A tg tg' j csc ⟨relS csc sc.s, sc.lam, sc.rp⟩ (X.blk s H csc (compEnvC csc cl C X.env) fp) WF hj (hl.blk s H C cl fp csc) (g.blk s H C cl fp csc) (takesF rfl) (fun x hx => by
        rcases hx with hx | hx
        · refine .inr ?_
          show (relS csc X.env.scope).names.lookup x = _
          exact L2.lookup_relS_keep (by decide) hx
        · refine .inl ?_
          show (csc.names.lookup x == some .cell) = true
          rw [hx]; rfl) h5)
      (fun s H C cl fp => sTo A t ifs j ⟨relS csc sc.s, sc.lam, sc.rp⟩ (X.blk s H csc (compEnvC csc cl C X.env) fp) WF hj (hl.blk s H C cl fp csc) (g.blk s H C cl fp csc) (takesF rfl) h6)
      (fun s H C cl fp => sE A el el' j ⟨relS csc sc.s, sc.lam, sc.rp⟩ (X.blk s H csc (compEnvC csc cl C X.env) fp) WF hj (hl.blk s H C cl fp csc) (g.blk s H C cl fp csc) (takesF rfl) h7)
      (fold_of (mI_ok M sc tg' it it' h1))
    refine pe_weak this fun σ H Q q => ?_
    rw [h3]
    exact comp_conv hsub q
  | .op o a b, e, j, sc, X, W, hj, hl, g, tk, h => by
    simp only [mF] at h
    split at h <;> try (cases h; done)
    rename_i a' op' b' p
    simp only [Bool.and_eq_true, decide_eq_true_eq] at h
    obtain ⟨⟨rfl, h1⟩, h2⟩ := h
    refine pe_weak (pe_op (l_all (G := G) op') (sE A a a' j sc X W hj hl g tk h1) (sE A b b' j sc X W hj hl g tk h2)) fun σ H Q ⟨ρ, S, F, ι, er, rl, p⟩ => ?_
    simp only [evF] at p
    refine ⟨ρ, S, F, ι, er, rl, p.bind.imp fun dx S1 F1 ι1 H1 e1 l1 p1 x rx => ?_⟩
    refine ⟨ρ, S1, F1, ι1, er.ext e1, l1, p1.bind.imp fun dy S2 F2 ι2 H2 e2 l2 p2 y ry => ?_⟩
    obtain ⟨ds, h4, q⟩ := p2.opt
    exact ⟨dx, dy, S2, F2, ι2, ds, l2, e2.rep rx, ry, h4, q F2 ι2 H2 Ext.refl l2⟩
  | .ofs a, e, j, sc, X, W, hj, hl, g, tk, h => by
    simp only [mF] at h
    split at h <;> try (cases h; done)
    rename_i y p1 a' p2
    simp only [Bool.and_eq_true, decide_eq_true_eq] at h
    obtain ⟨⟨h1, h2⟩, h3⟩ := h
    obtain ⟨b1, b2, b3, b4⟩ := bl_free A g h2
    subst h1
    have st := star_of (es := []) (env := X.env) (mE_ok M sc a a' h3)
    refine pe_weak (pe_callTy call_list_of b1 b2 (by decide +kernel) (pa_cons (sE A a a' j sc X W hj hl g tk h3) pa_nil st) b4 b3 st (by rfl)) fun σ H Q ⟨ρ, S, F, ι, er, rl, p⟩ => ?_
    simp only [evF] at p
    refine ⟨ρ, S, F, ι, er, rl, p.bind.imp fun dx S1 F1 ι1 H1 e1 l1 p1 x rx => ?_⟩
    obtain ⟨ds, h4, q⟩ := p1.opt
    have a1 := l1.der rx
    revert a1 h4
    generalize Gx.der S1 dx = ex
    intro h4 a1
    cases ex <;> simp only [seqL] at h4 <;> try (cases h4; done)
    · cases h4
      obtain ⟨b, ws, rfl, q2, ll⟩ := a1
      exact ⟨b, ws, rfl, .inr (by rw [g.pK]; exact l1.sqT q2), fun l hl => q F1 ι1 H1 Ext.refl l1 l ws hl ll⟩
    · cases h4
      obtain ⟨b, ws, rfl, q2, ll⟩ := a1
      exact ⟨b, ws, rfl, .inl (SqL.of q2), fun l hl => q F1 ι1 H1 Ext.refl l1 l ws hl ll⟩
    · cases h4
      obtain ⟨b, ws, rfl, q2, ll⟩ := a1
      exact ⟨b, ws, rfl, .inl (by rw [g.pK]; exact l1.sqL q2), fun l hl => q F1 ι1 H1 Ext.refl l1 l ws hl ll⟩
  | .sl a lo hi, e, j, sc, X, W, hj, hl, g, tk, h => by
    simp only [mF] at h
    split at h <;> try (cases h; done)
    rename_i a' lo' hi' p1 p2
    simp only [Bool.and_eq_true] at h
    refine pe_weak (pe_slice (sl_f g.pK) (sE A a a' j sc X W hj hl g tk h.1.1) (sO A lo lo' j sc X W hj hl g tk h.1.2) (sO A hi hi' j sc X W hj hl g tk h.2)) fun σ H Q ⟨ρ, S, F, ι, er, rl, p⟩ => ?_
    simp only [evF] at p
    refine ⟨ρ, S, F, ι, er, rl, p.bind.imp fun dx S1 F1 ι1 H1 e1 l1 p1 x rx => ?_⟩
    refine ⟨ρ, S1, F1, ι1, er.ext e1, l1, p1.bind.imp fun l S2 F2 ι2 H2 e2 l2 p2 => ?_⟩
    refine ⟨ρ, S2, F2, ι2, (er.ext e1).ext e2, l2, p2.bind.imp fun u S3 F3 ι3 H3 e3 l3 p3 => ?_⟩
    have a1 := l3.der (e3.rep (e2.rep rx))
    revert a1 p3
    generalize Gx.der S3 dx = ex
    intro p3 a1
    cases ex <;> try (exact (show False from p3).elim)
    · obtain ⟨b, ws, rfl, q2, ll⟩ := a1
      exact ⟨b, ws, _, S3, F3, ι3, rfl, l3, SqL.of q2, ll, p3 F3 ι3 H3 Ext.refl l3⟩
    · obtain ⟨b, ws, rfl, q2, ll⟩ := a1
      exact ⟨b, ws, _, S3, F3, ι3, rfl, l3, l3.sqL q2, ll, p3 F3 ι3 H3 Ext.refl l3⟩
  | .zips a b, e, j, sc, X, W, hj, hl, g, tk, h => by
    simp only [mF] at h
    split at h <;> try (cases h; done)
    rename_i y p1 y2 p2 a' b' p3 p4
    simp only [Bool.and_eq_true, decide_eq_true_eq] at h
    obtain ⟨⟨⟨⟨⟨h1, h2⟩, h3⟩, h4⟩, h5⟩, h6⟩ := h
    obtain ⟨b1, b2, b3, b4⟩ := bl_free A g h3
    obtain ⟨c1, c2, c3, c4⟩ := bl_free A g h4
    subst h1 h2
    have st2 := star_of (es := []) (env := X.env) (mE_ok M sc b b' h6)
    have st := star_of (es := [b']) (env := X.env) (mE_ok M sc a a' h5)
    refine pe_weak (peListZ b1 b2 c1 c2 g.calm (pa_cons (sE A a a' j sc X W hj hl g tk h5) (pa_cons (sE A b b' j sc X W hj hl g tk h6) pa_nil st2) st) st (by rw [st2]; rfl)) fun σ H Q ⟨ρ, S, F, ι, er, rl, p⟩ => ?_
    simp only [evF] at p
    refine ⟨ρ, S, F, ι, er, rl, p.bind.imp fun dx S1 F1 ι1 H1 e1 l1 p1 x rx => ?_⟩
    refine ⟨ρ, S1, F1, ι1, er.ext e1, l1, p1.bind.imp fun dy S2 F2 ι2 H2 e2 l2 p2 y ry => ?_⟩
    split at p2 <;> try (exact (show False from p2).elim)
    obtain ⟨a0, vs, rfl, q1, r1⟩ := e2.rep rx
    obtain ⟨b0, ws, rfl, q2, r2⟩ := ry
    refine ⟨a0, b0, vs, ws, rfl, by rw [g.pK]; exact l2.sqT q1, SqL.of (l2.sub _ _ q2), fun H' Ts l pr hl => ?_⟩
    obtain ⟨F3, ex, l3, rp⟩ := prs_rep r1 r2 l2 pr
    exact p2 F3 ι2 H' ex l3 l Ts hl rp
theorem sI (A : Amb G M P w base k O) : ∀ (c : CI) (tg e : Expr) (j : Nat) (sc : Sc) (X : Cx) (W : WX), k ≤ j → Hl G k j sc X → Good G P w base j M sc.s X → Takes X W → mI M sc tg c e = true → PI X tg e (tI G W fun ρ S => evI O c ρ S)
  | .seq a, tg, e, j, sc, X, W, hj, hl, g, tk, h => by
    simp only [mI] at h
    have he := sE A a e j sc X W hj hl g tk h
    refine ⟨fun pins s σ H R I ⟨ρ, S, F, ι, er, rl, p⟩ => ?_⟩
    simp only [evI] at p
    cases q : evE O a ρ S with
    | stuck => rw [q] at p; exact (show False from p).elim
    | exc c pl S1 =>
      refine (pi_list he).run pins s σ H R I ⟨ρ, S, F, ι, er, rl, ?_⟩
      show Pst G W σ F ι H (evE O a ρ S) _
      rw [q] at p ⊢
      exact p
    | ok d S1 =>
      rw [q] at p
      have p : Pst G W σ F ι H (opt (seqD d) S1) _ := p
      obtain ⟨z, hz, p⟩ := p.opt
      cases d <;> simp only [seqD] at hz <;> try (cases hz; done)
      · rename_i xs
        cases hz
        refine (pi_tup he).run pins s σ H R I ⟨ρ, S, F, ι, er, rl, ?_⟩
        show Pst G W σ F ι H (evE O a ρ S) _
        rw [q]
        intro F1 ι1 H1 e1 l1 v ⟨a0, vs, e0, q1, r1⟩
        exact ⟨a0, e0, ⟨vs, by rw [g.pK]; exact l1.sqT q1⟩, by rw [g.pK]; exact p F1 ι1 H1 e1 l1 _ (it_tup q1 r1)⟩
      · rename_i xs
        cases hz
        refine (pi_list he).run pins s σ H R I ⟨ρ, S, F, ι, er, rl, ?_⟩
        show Pst G W σ F ι H (evE O a ρ S) _
        rw [q]
        intro F1 ι1 H1 e1 l1 v ⟨a0, vs, e0, q1, r1⟩
        exact ⟨a0, e0, ⟨vs, by rw [g.pK]; exact l1.sqL (SqL.of q1)⟩, by rw [g.pK]; exact p F1 ι1 H1 e1 l1 _ (it_list (SqL.of q1) r1)⟩
      · rename_i xs
        cases hz
        refine (pi_list he).run pins s σ H R I ⟨ρ, S, F, ι, er, rl, ?_⟩
        show Pst G W σ F ι H (evE O a ρ S) _
        rw [q]
        intro F1 ι1 H1 e1 l1 v ⟨a0, vs, e0, q1, r1⟩
        exact ⟨a0, e0, ⟨vs, by rw [g.pK]; exact l1.sqL q1⟩, by rw [g.pK]; exact p F1 ι1 H1 e1 l1 _ (it_list q1 r1)⟩
      · rename_i k0
        cases hz
        refine (pi_list he).run pins s σ H R I ⟨ρ, S, F, ι, er, rl, ?_⟩
        show Pst G W σ F ι H (evE O a ρ S) _
        rw [q]
        intro F1 ι1 H1 e1 l1 v ⟨a0, e0, q1⟩
        obtain ⟨vs, h1⟩ := l1.tracked (List.mem_of_getElem? q1)
        exact ⟨a0, e0, ⟨vs, SqL.of h1⟩, by rw [g.pK]; exact p F1 ι1 H1 e1 l1 _ q1⟩
  | .rng1 a, tg, e, j, sc, X, W, hj, hl, g, tk, h => by
    simp only [mI] at h
    split at h <;> try (cases h; done)
    rename_i y p1 a' p2
    simp only [Bool.and_eq_true, decide_eq_true_eq] at h
    obtain ⟨⟨h1, h2⟩, h3⟩ := h
    obtain ⟨b1, b2, b3, b4⟩ := bl_free A g h2
    subst h1
    have st := star_of (es := []) (env := X.env) (mE_ok M sc a a' h3)
    refine pi_weak (pi_range1 b1 b2 (pa_cons (sE A a a' j sc X W hj hl g tk h3) pa_nil st) st) fun σ H R ⟨ρ, S, F, ι, er, rl, p⟩ => ?_
    simp only [evI] at p
    refine ⟨ρ, S, F, ι, er, rl, p.bind.imp fun dx S1 F1 ι1 H1 e1 l1 p1 x rx => ?_⟩
    split at p1 <;> try (exact (show False from p1).elim)
    rename_i n
    split at p1 <;> try (exact (show False from p1).elim)
    rename_i hs
    simp only [smallI, Bool.and_eq_true, decide_eq_true_eq] at hs
    have := p1 F1 ι1 H1 Ext.refl l1 (Itr 0 (n - 0).toNat) it_rng
    rw [Int.sub_zero] at this
    exact ⟨n, by rw [(show x = V.int n from rx)], by omega, by omega, this⟩
  | .rng2 a b, tg, e, j, sc, X, W, hj, hl, g, tk, h => by
    simp only [mI] at h
    split at h <;> try (cases h; done)
    rename_i y p1 a' b' p2
    simp only [Bool.and_eq_true, decide_eq_true_eq] at h
    obtain ⟨⟨⟨h1, h2⟩, h3⟩, h4⟩ := h
    obtain ⟨b1, b2, b3, b4⟩ := bl_free A g h2
    subst h1
    have st2 := star_of (es := []) (env := X.env) (mE_ok M sc b b' h4)
    have st := star_of (es := [b']) (env := X.env) (mE_ok M sc a a' h3)
    refine pi_weak (pi_range2 b1 b2 (pa_cons (sE A a a' j sc X W hj hl g tk h3) (pa_cons (sE A b b' j sc X W hj hl g tk h4) pa_nil st2) st) (by rw [st, st2]; rfl) st2) fun σ H R ⟨ρ, S, F, ι, er, rl, p⟩ => ?_
    simp only [evI] at p
    refine ⟨ρ, S, F, ι, er, rl, p.bind.imp fun dx S1 F1 ι1 H1 e1 l1 p1 x rx => ?_⟩
    refine ⟨ρ, S1, F1, ι1, er.ext e1, l1, p1.bind.imp fun dy S2 F2 ι2 H2 e2 l2 p2 y ry => ?_⟩
    split at p2 <;> try (exact (show False from p2).elim)
    rename_i lo hi
    split at p2 <;> try (exact (show False from p2).elim)
    rename_i hs
    simp only [smallI, Bool.and_eq_true, decide_eq_true_eq] at hs
    exact ⟨lo, hi, by rw [(show x = V.int lo from rx), (show y = V.int hi from ry)], ⟨by omega, by omega, by omega, by omega⟩, p2 F2 ι2 H2 Ext.refl l2 _ it_rng⟩
  | .zip a b, tg, e, j, sc, X, W, hj, hl, g, tk, h => by
    simp only [mI] at h
    split at h <;> try (cases h; done)
    rename_i y p1 a' b' p2
    simp only [Bool.and_eq_true, decide_eq_true_eq] at h
    obtain ⟨⟨⟨⟨h1, h5⟩, h2⟩, h3⟩, h4⟩ := h
    obtain ⟨b1, b2, b3, b4⟩ := bl_free A g h2
    subst h1
    have st2 := star_of (es := []) (env := X.env) (mE_ok M sc b b' h4)
    have st := star_of (es := [b']) (env := X.env) (mE_ok M sc a a' h3)
    cases tg <;> try (cases h5; done)
    refine pi_weak (piZipB b1 b2 (pa_cons (sE A a a' j sc X W hj hl g tk h3) (pa_cons (sE A b b' j sc X W hj hl g tk h4) pa_nil st2) st) st (by rw [st2]; rfl)) fun σ H R ⟨ρ, S, F, ι, er, rl, p⟩ => ?_
    simp only [evI] at p
    refine ⟨ρ, S, F, ι, er, rl, p.bind.imp fun dx S1 F1 ι1 H1 e1 l1 p1 x rx => ?_⟩
    refine ⟨ρ, S1, F1, ι1, er.ext e1, l1, p1.bind.imp fun dy S2 F2 ι2 H2 e2 l2 p2 y ry => ?_⟩
    split at p2 <;> try (exact (show False from p2).elim)
    · obtain ⟨a0, vs, rfl, q1, r1⟩ := e2.rep rx
      obtain ⟨b0, ws, rfl, q2, r2⟩ := ry
      exact ⟨a0, b0, vs, ws, rfl, .inl (.inr ⟨by rw [g.pK]; exact l2.sqT q1, by rw [g.pK]; exact l2.sqT q2, by rw [g.pK]; exact p2 F2 ι2 H2 Ext.refl l2 _ (it_zipT q1 r1 q2 r2)⟩)⟩
    · obtain ⟨a0, vs, rfl, q1, r1⟩ := e2.rep rx
      obtain ⟨b0, ws, rfl, q2, r2⟩ := ry
      exact ⟨a0, b0, vs, ws, rfl, .inl (.inl ⟨SqL.of (l2.sub _ _ q1), SqL.of (l2.sub _ _ q2), by rw [g.pK]; exact p2 F2 ι2 H2 Ext.refl l2 _ (it_zipL (SqL.of q1) r1 (SqL.of q2) r2)⟩)⟩
    · obtain ⟨a0, vs, rfl, q1, r1⟩ := e2.rep rx
      obtain ⟨b0, ws, rfl, q2, r2⟩ := ry
      exact ⟨a0, b0, vs, ws, rfl, .inr ⟨by rw [g.pK]; exact l2.sqT q1, SqL.of (l2.sub _ _ q2), by rw [g.pK]; exact p2 F2 ι2 H2 Ext.refl l2 _ (it_zipTL q1 r1 (SqL.of q2) r2)⟩⟩
  | .enum a, tg, e, j, sc, X, W, hj, hl, g, tk, h => by
    simp only [mI] at h
    split at h <;> try (cases h; done)
    rename_i y p1 a' p2
    simp only [Bool.and_eq_true, decide_eq_true_eq] at h
    obtain ⟨⟨⟨h1, h5⟩, h2⟩, h3⟩ := h
    obtain ⟨b1, b2, b3, b4⟩ := bl_free A g h2
    subst h1
    have st := star_of (es := []) (env := X.env) (mE_ok M sc a a' h3)
    cases tg <;> try (cases h5; done)
    refine pi_weak (piEnumA b1 b2 (pa_cons (sE A a a' j sc X W hj hl g tk h3) pa_nil st) st) fun σ H R ⟨ρ, S, F, ι, er, rl, p⟩ => ?_
    simp only [evI] at p
    refine ⟨ρ, S, F, ι, er, rl, p.bind.imp fun dx S1 F1 ι1 H1 e1 l1 p1 x rx => ?_⟩
    split at p1 <;> try (exact (show False from p1).elim)
    · obtain ⟨a0, vs, rfl, q1, r1⟩ := rx
      exact ⟨a0, vs, rfl, .inl ⟨SqL.of (l1.sub _ _ q1), by rw [g.pK]; exact p1 F1 ι1 H1 Ext.refl l1 _ (it_enum (SqL.of q1) r1)⟩⟩
    · obtain ⟨a0, vs, rfl, q1, r1⟩ := rx
      exact ⟨a0, vs, rfl, .inr ⟨by rw [g.pK]; exact l1.sqT q1, by rw [g.pK]; exact p1 F1 ι1 H1 Ext.refl l1 _ (it_enumT q1 r1)⟩⟩
theorem sTg (A : Amb G M P w base k O) : ∀ (c : CTg) (e : Expr) (j : Nat) (osc : Scope) (sc : Sc) (X : Cx) (W : WX), k ≤ j → Hl G k j sc X → Good G P w base j M sc.s X → Takes X W → (∀ x, osc.names.lookup x = some .local ∨ osc.names.lookup x = some .cell → X.fn x = true ∨ X.env.scope.names.lookup x = some .local) → mTg M osc sc c e = true →
    PG X e (tG G W (tgN c) fun d ρ S => evTg O c d ρ S)
  | .nm i, e, j, osc, sc, X, W, hj, hl, g, tk, hf, h => by
    simp only [mTg] at h
    split at h <;> try (cases h; done)
    rename_i x p
    simp only [Bool.and_eq_true, Bool.or_eq_true, decide_eq_true_eq] at h
    obtain ⟨⟨h1, h2⟩, h3⟩ := h
    refine pg_weak (pg_name (i := i) g.nd (by rw [g.pN]; exact h1) (by rw [g.sc]; exact h3) (hf x h2)) fun v σ H Q ⟨d, ρ, S, F, ι, er, rl, rv, p⟩ => ?_
    simp only [evTg] at p
    split at p <;> try (exact (show False from p).elim)
    refine p F ι H Ext.refl rl (σ.set i (some v)) (er.set rv) (by simp) fun q hq => ?_
    simp only [tgN, List.mem_singleton] at hq
    exact List.getElem?_set_ne (Ne.symm hq)
  | .tp ts, e, j, osc, sc, X, W, hj, hl, g, tk, hf, h => by
    simp only [mTg] at h
    split at h <;> try (cases h; done)
    rename_i es k' p
    have cc := mTgs_cnt M osc sc ts es h X.env
    refine pg_weak (pg_tup g.calm (sTgs A ts es j osc sc X W hj hl g tk hf h) cc.1 cc.2) fun v σ H Q ⟨d, ρ, S, F, ι, er, rl, rv, p⟩ => ?_
    simp only [evTg] at p
    split at p <;> try (exact (show False from p).elim)
    split at p <;> try (exact (show False from p).elim)
    rename_i xs hlen
    obtain ⟨a0, vs, e0, q1, r1⟩ := rv
    exact ⟨a0, vs, e0, by rw [g.pK]; exact rl.sqT q1, by rw [← r1.length]; exact hlen, xs, ρ, S, F, ι, er, rl, r1, p⟩
  | .sub a b, e, j, osc, sc, X, W, hj, hl, g, tk, hf, h => by
    simp only [mTg] at h
    split at h <;> try (cases h; done)
    rename_i a' b' p
    simp only [Bool.and_eq_true] at h
    refine pg_weak (pg_sub (sE A a a' j sc X W hj hl g tk h.1.2) (sE A b b' j sc X W hj hl g tk h.2) set_list (fun v => assign_sub h.1.1 v)) fun v σ H Q ⟨d, ρ, S, F, ι, er, rl, rv, p⟩ => ?_
    simp only [evTg] at p
    refine ⟨ρ, S, F, ι, er, rl, p.bind.imp fun dx S1 F1 ι1 H1 e1 l1 p1 x rx => ?_⟩
    refine ⟨ρ, S1, F1, ι1, er.ext e1, l1, p1.bind.imp fun dy S2 F2 ι2 H2 e2 l2 p2 y ry => ?_⟩
    split at p2 <;> try (exact (show False from p2).elim)
    rename_i k0 i0
    split at p2 <;> try (exact (show False from p2).elim)
    rename_i xs hxs
    split at p2 <;> try (exact (show False from p2).elim)
    rename_i j0 hj0
    obtain ⟨a0, rfl, hk⟩ := e2.rep rx
    obtain ⟨vs, z1, z2⟩ := l2.loc hk hxs
    obtain ⟨ex, l3⟩ := l2.wr hk (RepL.set (e2.rep (e1.rep rv)) j0 z2)
    exact ⟨a0, vs, i0, j0, rfl, ry, z1, by rw [← z2.length]; exact hj0, p2 _ _ _ ex l3 σ (((er.ext e1).ext e2).ext ex) rfl fun _ _ => rfl⟩
theorem sTgs (A : Amb G M P w base k O) : ∀ (c : CTgs) (e : List Expr) (j : Nat) (osc : Scope) (sc : Sc) (X : Cx) (W : WX), k ≤ j → Hl G k j sc X → Good G P w base j M sc.s X → Takes X W → (∀ x, osc.names.lookup x = some .local ∨ osc.names.lookup x = some .cell → X.fn x = true ∨ X.env.scope.names.lookup x = some .local) → mTgs M osc sc c e = true →
    PGs X e (tGs G W (tgNs c) fun d ρ S => evTgs O c d ρ S)
  | .nil, e, j, osc, sc, X, W, hj, hl, g, tk, hf, h => by
    simp only [mTgs] at h
    split at h <;> try (cases h; done)
    refine pgs_weak pgs_nil fun vs σ H Q ⟨ds, ρ, S, F, ι, er, rl, rv, p⟩ => ?_
    cases ds with
    | nil =>
      simp only [evTgs] at p
      exact ⟨rv, p F ι H Ext.refl rl σ er rfl fun _ _ => rfl⟩
    | cons d ds => simp only [evTgs] at p; exact (show False from p).elim
  | .cons t r, e, j, osc, sc, X, W, hj, hl, g, tk, hf, h => by
    simp only [mTgs] at h
    split at h <;> try (cases h; done)
    rename_i e0 es'
    rw [Bool.and_eq_true] at h
    have asg : (assignEach (e0 :: es') X.env).map (·.2) = assign e0 X.env :: (assignEach es' X.env).map (·.2) := by rw [mTg_each M osc sc t e0 h.1 es' X.env]; rfl
    refine pgs_weak (pgs_cons (sTg A t e0 j osc sc X W hj hl g tk hf h.1) (sTgs A r es' j osc sc X W hj hl g tk hf h.2) asg) fun vs σ H Q ⟨ds, ρ, S, F, ι, er, rl, rv, p⟩ => ?_
    cases ds with
    | nil => simp only [evTgs] at p; exact (show False from p).elim
    | cons d ds =>
      simp only [evTgs] at p
      obtain ⟨w, ws, rfl, rw', rs⟩ := rv
      refine ⟨w, ws, rfl, d, ρ, S, F, ι, er, rl, rw', p.bind.imp fun ρ1 S1 F1 ι1 H1 e1 l1 p1 σ1 er1 hl1 hs1 => ?_⟩
      refine ⟨ds, ρ1, S1, F1, ι1, er1, l1, e1.repL rs, (noX_any p1).imp fun ρ2 S2 F2 ι2 H2 e2 l2 p2 σ2 er2 hl2 hs2 => ?_⟩
      refine p2 σ2 er2 (hl2.trans hl1) fun i hi => ?_
      simp only [tgNs, List.mem_append, not_or] at hi
      rw [hs2 i hi.2, hs1 i hi.1]
end
end Gx
set_option Elab.async false
set_option linter.all false
set_option maxRecDepth 100000
set_option maxHeartbeats 8000000
/-! Gx: statements: matched, and sound. -/
namespace Gx
open PySem PySem.Spec PyProof.Rows L2
def notComp : Expr → Bool
  | .ListComp .. => false | .SetComp .. => false | .DictComp .. => false
  | _ => true
def isNm : Expr → Bool
  | .Name .. => true
  | _ => false
def noSt : Expr → Bool
  | .Starred .. => false
  | _ => true
/-- an assignment whose stores come in their order -/
def locNm (sc : Scope) : Expr → Bool
  | .Name x _ => decide (sc.names.lookup x = some .local)
  | _ => false
def noSw (sc : Scope) : Expr → Expr → Bool
  | .Tuple ts _ _, .Tuple vs _ _ => !(ts.length == 2 || ts.length == 3) || vs.all (foldedForSure 8) || ts.any fun t => !locNm sc t
  | .List .., _ => false
  | _, _ => true
def locB (sc : Scope) (x : Str) : Bool := decide (sc.names.lookup x = some .local)
def valsOk (vs : List Expr) : Bool := vs.all noSt && !vs.all (foldedForSure 8) && !vs.all (constantsAlone 8)
def parOk (M : Mx) (sc : Sc) (is : List Nat) (ts vs : List Expr) : Bool := match is, ts, vs with
  | [i, j], [.Name x p, .Name y q], [a, b] => decide (M.N[i]? = some x) && decide (M.N[j]? = some y) && decide (i ≠ j) && decide (x ≠ y) && locB sc.s x && locB sc.s y && decide (q.line = p.line) && valsOk [a, b]
  | [i, j, l], [.Name x p, .Name y q, .Name z r], [a, b, c] => decide (M.N[i]? = some x) && decide (M.N[j]? = some y) && decide (M.N[l]? = some z) && decide (i ≠ j) && decide (i ≠ l) && decide (j ≠ l) && decide (x ≠ y) && decide (x ≠ z) && decide (y ≠ z)
      && locB sc.s x && locB sc.s y && locB sc.s z && decide (q.line = p.line) && decide (r.line = p.line) && valsOk [a, b, c]
  | _, _, _ => false
def lcSw (py : Pos) (y : Str) : Expr → Bool
  | .ListComp _ _ scope pos => (py.line == pos.line) && !(scope.names.any fun (n, k) => n == y && (k == .local || k == .cell))
  | _ => false
def isC : CF → Bool
  | .comp .. => true
  | _ => false
def mHE : HE → Expr → Bool
  | .cst c, e => match e with
    | .Constant k _ _ => match c, k with
      | .non, .none => true
      | .bl a, .bool b => a == b
      | .int a, .int b => decide (a = b)
      | .str a, .str b => decide (a = b)
      | _, _ => false
    | _ => false
  | .tup es, e => match e with
    | .Tuple xs _ _ => decide (es.length ≤ sz) && mHEs es xs
    | _ => false
  | .fld, _ => false
where mHEs : List HE → List Expr → Bool
  | [], [] => true
  | h :: hs, e :: es => mHE h e && mHEs hs es
  | _, _ => false
def mHd (exs : List Str) (sc : Sc) (h : Hd) : ExceptHandler → Bool
  | .ExceptHandler (some (.Name x _)) none [.Return (some e) _] _ => decide (x = h.cls) && exs.contains x && isGl sc.s x && nd x && mHE h.ret e
  | _ => false
def mHds (exs : List Str) (sc : Sc) : List Hd → List ExceptHandler → Bool
  | [], [] => true
  | h :: hs, e :: es => mHd exs sc h e && mHds exs sc hs es
  | _, _ => false
def nonNil {α : Type} : List α → Bool
  | [] => false
  | _ => true
mutual
def mS (M : Mx) (exs : List Str) (sc : Sc) : CS → Stmt → Bool
  | .asg tg e, st => match st with
    | .Assign [t] e' _ => noSw sc.s t e' && notComp e' && mTg M sc.s sc tg t && mE M sc e e'
    | _ => false
  | .par is es, st => match st with
    | .Assign [.Tuple ts _ _] (.Tuple vs _ _) _ => parOk M sc is ts vs && mEs M sc es vs
    | _ => false
  | .asgc m i f, st => match st with
    | .Assign [.Name y py] e' _ => decide (M.N[i]? = some y) && locB sc.s y && isC f && lcSw py y e' && mF M sc f e'
    | _ => false
  | .exp e, st => match st with
    | .Expr e' _ => notComp e' && mE M sc e e'
    | _ => false
  | .ret e, st => match st with
    | .Return (some e') _ => mE M sc e e'
    | _ => false
  | .retN, st => match st with
    | .Return none _ => true
    | _ => false
  | .ite t a b, st => match st with
    | .If t' a' b' _ => mT M sc t t' && mSs M exs sc a a' && mSs M exs sc b b'
    | _ => false
  | .forS tg it b, st => match st with
    | .For tg' it' b' [] _ => mI M sc tg' it it' && mTg M sc.s sc tg tg' && mSs M exs sc b b'
    | _ => false
  | .whl t b, st => match st with
    | .While t' b' [] _ => mT M sc t t' && mSs M exs sc b b'
    | _ => false
  | .brk, st => match st with
    | .Break _ => true
    | _ => false
  | .cnt, st => match st with
    | .Continue _ => true
    | _ => false
  | .pass, st => match st with
    | .Pass _ => true
    | .Expr (.Constant (.str _) _ _) _ => true
    | _ => false
  | .rse c, st => match st with
    | .Raise (some (.Call (.Name x _) [.Constant (.str _) _ _] [] _)) none _ => decide (x = c) && exs.contains x && isGl sc.s x && nd x
    | _ => false
  | .tryE r e hs, st => match st with
    | .Try [.Return (some e') _] hs' [] [] _ => r && mE M sc e e' && nonNil hs && mHds exs sc hs hs'
    | .Try [.Expr e' _] hs' [] [] _ => !r && notComp e' && mE M sc e e' && nonNil hs && mHds exs sc hs hs'
    | _ => false
  | .app i e, st => match st with
    | .Expr (.Call (.Attribute (.Name x p) nm apos) [e'] [] cpos) _ => decide (nm = "append") && decide (M.N[i]? = some x) && vis sc.s x && nd x && (apos.endLine == cpos.line) && mE M sc e e'
    | _ => false
  | .ext i e, st => match st with
    | .Expr (.Call (.Attribute (.Name x p) nm apos) [e'] [] cpos) _ => decide (nm = "extend") && decide (M.N[i]? = some x) && vis sc.s x && nd x && (apos.endLine == cpos.line) && mE M sc e e'
    | _ => false
def mSs (M : Mx) (exs : List Str) (sc : Sc) : CSs → List Stmt → Bool
  | .nil, sts => match sts with
    | [] => true
    | _ => false
  | .cons s r, sts => match sts with
    | st :: rest => mS M exs sc s st && mSs M exs sc r rest
    | _ => false
end
/-- what is known of the exceptions -/
structure AmbX (G : Gl) (sub : Str → Str → Option Bool) (exs : List Str) : Prop where
  rse : ∀ x, exs.contains x = true → ∃ C bmB B newId initId, ExcBaseFacts B newId initId bmB ∧ PySem.W.excIn G.K C bmB newId = true ∧ G.mg x = some (.ref C) ∧ PySem.W.keepIn G.K (.ref C) = true ∧ PySem.W.subIn G.K (.ref C) (.type "BaseException") = some true ∧ PySem.W.typeIn G.K (.ref C) = some (.type "type")
  sub : ∀ c k b, sub c k = some b → ∀ C C', G.mg c = some (.ref C) → G.mg k = some (.ref C') → PySem.W.exmOne G.K (.ref C) (.ref C') = some b
structure GoodS (X : Cx) : Prop where
  own : PassesOwn (model X.prog X.w) X.A X.env X.xe
  stk : X.stack = X.env :: X.outer
  fr : X.env.frame = some X.env.locals
  kd : X.env.scope.kind = .function
  fn : ∀ x, X.env.scope.names.lookup x = some .local ∨ X.env.scope.names.lookup x = some .cell → X.fn x = true ∨ X.env.scope.names.lookup x = some .local
/-! ### readings of statements -/
def OutQ (G : Gl) (D : Ends) : Out → Sto → Hp → List Addr → Hp → Prop := fun o _ F' ι' H' => match o with
  | .nx ρ => ∀ σ', ER G F' ι' ρ σ' → D.nx σ' H'
  | .bk ρ => ∀ σ', ER G F' ι' ρ σ' → D.bk σ' H'
  | .ct ρ => ∀ σ', ER G F' ι' ρ σ' → D.ct σ' H'
  | .rt d => ∀ v, Rep G F' ι' d v → D.rt v H'
abbrev Wk (E : XK) : WX := fun cls d _ H => E cls d H
def tS (G : Gl) (E : XK) (f : Env → Sto → R Out) : TS := fun D σ H => ∃ ρ S F ι, ER G F ι ρ σ ∧ RL G S F ι H ∧ Pst G (Wk E) σ F ι H (f ρ S) (OutQ G D)
section
variable {G : Gl} {E : XK} {σ σ' : L2.St} {S S' : Sto} {F F' : Hp} {ι ι' : List Addr} {H H' : Hp} {α β : Type} {ρ : Env}
theorem Pst.st {r : R α} {Q : α → Sto → Hp → List Addr → Hp → Prop} (h : Pst G (Wk E) σ F ι H r Q) : Pst G (Wk E) σ' F ι H r Q := by
  cases r with
  | ok a S' => exact h
  | exc c p S' => exact h
  | stuck => exact h
theorem Pst.shift {W : WX} {r : R α} {Q : α → Sto → Hp → List Addr → Hp → Prop} (h : Pst G W σ F ι H r Q) (e : Ext F ι H F' ι' H') (l : RL G S F' ι' H') : Pst G W σ F' ι' H' r Q := by
  cases r with
  | ok a S' => exact fun F2 ι2 H2 e2 l2 => h F2 ι2 H2 (e.trans l e2) l2
  | exc c p S' => exact fun cls dd F2 ι2 H2 e2 l2 => h cls dd F2 ι2 H2 (e.trans l e2) l2
  | stuck => exact h
theorem fm_lt {α β : Type} (f : α → Option β) : ∀ (l : List α), (∃ a ∈ l, f a = none) → (l.filterMap f).length ≠ l.length
  | [], h => by obtain ⟨a, h, _⟩ := h; cases h
  | x :: r, h => by
    have le := List.length_filterMap_le f r
    rw [List.filterMap_cons]
    cases q : f x with
    | none => simp only [List.length_cons]; omega
    | some b =>
      obtain ⟨a, ha, e⟩ := h
      rcases List.mem_cons.mp ha with z | z
      · rw [z, q] at e; cases e
      · have := fm_lt f r ⟨a, z, e⟩
        simp only [List.length_cons]; omega
theorem sw_noneT {ts vs : List Expr} {kt : Nat} {pt : Pos} {kv : Nat} {pv : Pos} {env : PySem.Env} {sc : Scope} (hsc : env.scope = sc) (h : noSw sc (.Tuple ts kt pt) (.Tuple vs kv pv) = true) : swappedStores [.Tuple ts kt pt] (.Tuple vs kv pv) env = pure none := by
  simp only [noSw, Bool.or_eq_true] at h
  unfold swappedStores
  dsimp only
  split
  · rfl
  rename_i h1
  split
  · rfl
  split
  · rfl
  rename_i h3
  split
  · rfl
  rename_i h4
  exfalso
  rcases h with (h | h) | h
  · exact h1 (by rw [h]; rfl)
  · exact h4 h
  · refine h3 ?_
    obtain ⟨t, ht, e⟩ := List.any_eq_true.mp h
    rw [Bool.or_eq_true]
    refine .inl ?_
    rw [bne_iff_ne]
    refine fm_lt _ ts ⟨t, ht, ?_⟩
    cases t <;> try rfl
    rename_i x px
    have hx : ¬ env.kindOf x = some .local := fun z => by
      have z' : env.scope.names.lookup x = some .local := z
      rw [hsc] at z'
      rw [show locNm sc (.Name x px) = true from decide_eq_true z'] at e
      cases e
    dsimp only
    rw [if_neg]
    intro q
    rw [Bool.and_eq_true] at q
    exact hx (eq_of_beq q.1)
theorem st_no {vs : List Expr} (h : vs.all noSt = true) (f : Expr → Bool) (hf : ∀ e, noSt e = true → f e = false) : ¬ (vs.any f = true) := fun k => by
  obtain ⟨e, he, q⟩ := List.any_eq_true.mp k
  rw [hf e (List.all_eq_true.mp h e he)] at q
  cases q
theorem vals_of {vs : List Expr} (hv : valsOk vs = true) : vs.all noSt = true ∧ vs.all (foldedForSure 8) = false ∧ vs.all (constantsAlone 8) = false := by
  unfold valsOk at hv
  cases h2 : vs.all (foldedForSure 8) <;> cases h3 : vs.all (constantsAlone 8) <;> rw [h2, h3] at hv <;> cases h1 : vs.all noSt <;> rw [h1] at hv <;> first | exact ⟨rfl, rfl, rfl⟩ | cases hv
theorem sw_two {x y : Str} {a b : Expr} {px py pt : Pos} {kt k2 pt2} {env : PySem.Env} (hk : env.scope.kind = .function) (hx : env.scope.names.lookup x = some .local) (hy : env.scope.names.lookup y = some .local) (ne : x ≠ y) (hl : py.line = px.line) (hv : valsOk [a, b] = true) :
    swappedStores [.Tuple [.Name x px, .Name y py] kt pt] (.Tuple [a, b] k2 pt2) env = pure (some [x, y]) := by
  have kx : env.kindOf x = some .local := hx
  have ky : env.kindOf y = some .local := hy
  have hb : env.blockKind = .function := by unfold Env.blockKind; rw [hk]; rfl
  obtain ⟨v1, v2, v3⟩ := vals_of hv
  unfold swappedStores
  dsimp only
  split
  · rename_i h; rw [hb] at h; exact absurd h Bool.false_ne_true
  split
  · rename_i h; exact absurd h (st_no v1 _ fun e h => by cases e <;> first | rfl | cases h)
  have e1 : (Expr.Name x px).pos = px := rfl
  simp only [List.head?_cons, Option.map_some, Option.getD_some, e1, kx, ky, hl, List.filterMap_cons, List.filterMap_nil, beq_self_eq_true, Bool.and_self, if_true]
  split
  · rename_i h; simp [List.eraseDups_cons, ne, Ne.symm ne] at h
  rw [v2, v3]
  rfl
theorem sw_three {x y z : Str} {a b c : Expr} {px py pz pt : Pos} {kt k2 pt2} {env : PySem.Env} (hk : env.scope.kind = .function) (hx : env.scope.names.lookup x = some .local) (hy : env.scope.names.lookup y = some .local) (hz : env.scope.names.lookup z = some .local) (ne : x ≠ y) (ne2 : x ≠ z) (ne3 : y ≠ z) (hl : py.line = px.line) (hl2 : pz.line = px.line) (hv : valsOk [a, b, c] = true) :
    swappedStores [.Tuple [.Name x px, .Name y py, .Name z pz] kt pt] (.Tuple [a, b, c] k2 pt2) env = pure (some [x, y, z]) := by
  have kx : env.kindOf x = some .local := hx
  have ky : env.kindOf y = some .local := hy
  have kz : env.kindOf z = some .local := hz
  have hb : env.blockKind = .function := by unfold Env.blockKind; rw [hk]; rfl
  obtain ⟨v1, v2, v3⟩ := vals_of hv
  unfold swappedStores
  dsimp only
  split
  · rename_i h; rw [hb] at h; exact absurd h Bool.false_ne_true
  split
  · rename_i h; exact absurd h (st_no v1 _ fun e h => by cases e <;> first | rfl | cases h)
  have e1 : (Expr.Name x px).pos = px := rfl
  simp only [List.head?_cons, Option.map_some, Option.getD_some, e1, kx, ky, kz, hl, hl2, List.filterMap_cons, List.filterMap_nil, beq_self_eq_true, Bool.and_self, if_true]
  split
  · rename_i h; simp [List.eraseDups_cons, ne, Ne.symm ne, ne2, Ne.symm ne2, ne3, Ne.symm ne3] at h
  rw [v2, v3]
  rfl

theorem sw_none {t e : Expr} {env : PySem.Env} {sc : Scope} (hsc : env.scope = sc) (h : noSw sc t e = true) : swappedStores [t] e env = pure none := by
  cases t <;> cases e <;> first
    | exact sw_noneT hsc h
    | rfl
    | (exact absurd h Bool.false_ne_true)
theorem swW_none {e : Expr} {t : Option Expr} {l : Nat} {env : PySem.Env} (h : notComp e = true) : swapsWith e t l env = pure false := by
  cases e <;> first | rfl | (exact absurd h Bool.false_ne_true)
theorem setAll2 {i j : Nat} {ds : List D} {ρ1 : Env} (h : setAll ρ [i, j] ds = some ρ1) : ∃ d e, ds = [d, e] ∧ ρ1 = (ρ.set i (some d)).set j (some e) := by
  cases ds with
  | nil => simp [setAll] at h
  | cons d r =>
    cases r with
    | nil =>
      simp only [setAll] at h
      split at h <;> cases h
    | cons e r =>
      simp only [setAll] at h
      split at h <;> try (cases h; done)
      split at h <;> try (cases h; done)
      cases r with
      | nil => simp only [setAll] at h; cases h; exact ⟨d, e, rfl, rfl⟩
      | cons f r => simp only [setAll] at h; cases h
theorem setAll3 {i j l : Nat} {ds : List D} {ρ1 : Env} (h : setAll ρ [i, j, l] ds = some ρ1) : ∃ d e f, ds = [d, e, f] ∧ ρ1 = ((ρ.set i (some d)).set j (some e)).set l (some f) := by
  cases ds with
  | nil => simp [setAll] at h
  | cons d r =>
    cases r with
    | nil =>
      simp only [setAll] at h
      split at h <;> cases h
    | cons e r =>
      cases r with
      | nil =>
        simp only [setAll] at h
        split at h <;> try (cases h; done)
        split at h <;> cases h
      | cons f r =>
        simp only [setAll] at h
        split at h <;> try (cases h; done)
        split at h <;> try (cases h; done)
        split at h <;> try (cases h; done)
        cases r with
        | nil => simp only [setAll] at h; cases h; exact ⟨d, e, f, rfl, rfl⟩
        | cons g r => simp only [setAll] at h; cases h
end
/-! ### what a clause hands back -/
def tH (G : Gl) (p : Option D) (h : HE) : TE := fun σ H Q => ∃ S F ι d, RL G S F ι H ∧ evH p h = some d ∧ ∀ F' H', Ext F ι H F' ι H' → RL G S F' ι H' → ∀ v, Rep G F' ι d v → Q v H'
def tHs (G : Gl) (p : Option D) (hs : List HE) : TA := fun σ H Q => ∃ S F ι ds, RL G S F ι H ∧ evH.evHL p hs = some ds ∧ ∀ F' H', Ext F ι H F' ι H' → RL G S F' ι H' → ∀ vs, RepL G F' ι ds vs → Q vs H'
theorem mHE_ok {h : HE} {e : Expr} (k : mHE h e = true) : okX e = true := by
  cases h <;> simp only [mHE] at k <;> first | (split at k <;> first | rfl | cases k) | cases k
theorem evHL_len {p : Option D} : ∀ {hs : List HE} {ds : List D}, evH.evHL p hs = some ds → ds.length = hs.length
  | [], ds, e => by simp only [evH.evHL] at e; cases e; rfl
  | h :: hs, ds, e => by
    simp only [evH.evHL] at e
    split at e <;> try (cases e; done)
    rename_i d1 ds1 e1 e2
    cases e
    rw [List.length_cons, List.length_cons, evHL_len e2]
mutual
theorem pe_he {G : Gl} {Y : Cx} {p : Option D} : ∀ (h : HE) (e : Expr), mHE h e = true → PE Y e (tH G p h)
  | .cst c, e, k => by
    simp only [mHE] at k
    split at k <;> try (cases k; done)
    rename_i kk p1 p2
    have fin : ∀ {v : V}, PE Y (.Constant kk p1 p2) (tC v) → (∀ F ι, Rep G F ι c.d v) → PE Y (.Constant kk p1 p2) (tH G p (.cst c)) := fun hp hv =>
      pe_weak hp fun σ H Q ⟨S, F, ι, d, rl, e, q⟩ => by
        simp only [evH] at e
        cases e
        exact q F H Ext.refl rl _ (hv F ι)
    split at k
    · exact fin pe_non fun _ _ => rfl
    · have := eq_of_beq k; subst this; exact fin pe_bl fun _ _ => rfl
    · have := of_decide_eq_true k; subst this; exact fin pe_int fun _ _ => rfl
    · have := of_decide_eq_true k; subst this; exact fin pe_str fun _ _ => rfl
    · cases k
  | .tup es, e, k => by
    simp only [mHE] at k
    split at k <;> try (cases k; done)
    rename_i xs k' p'
    rw [Bool.and_eq_true, decide_eq_true_eq] at k
    refine pe_weak (pe_tup (pe_hes (G := G) (p := p) es xs k.2)) fun σ H Q ⟨S, F, ι, d, rl, e, q⟩ => ?_
    simp only [evH, Option.map_eq_some_iff] at e
    obtain ⟨ds, e, rfl⟩ := e
    refine ⟨S, F, ι, ds, rl, e, fun F1 H1 ex1 rl1 vs rv => ⟨rep_len rv (by rw [evHL_len e]; exact k.1), fun pp hp => ?_⟩⟩
    obtain ⟨ex, l2⟩ := rl1.frz hp (.tup vs) (fun _ z => by cases z)
    exact q _ _ (ex1.trans rl1 ex) l2 _ ⟨pp, vs, rfl, SqT.of upd_same, ex.repL rv⟩
  | .fld, e, k => by cases k
theorem pe_hes {G : Gl} {Y : Cx} {p : Option D} : ∀ (hs : List HE) (es : List Expr), mHE.mHEs hs es = true → PA Y es (tHs G p hs)
  | [], es, k => by
    cases es with
    | nil =>
      refine pa_weak pa_nil fun σ H Q ⟨S, F, ι, d, rl, e, q⟩ => ?_
      simp only [evH.evHL] at e
      cases e
      exact q F H Ext.refl rl _ rfl
    | cons x r => cases k
  | h :: hs, es, k => by
    cases es with
    | nil => cases k
    | cons x r =>
      simp only [mHE.mHEs, Bool.and_eq_true] at k
      refine pa_weak (pa_cons (pe_he (G := G) (p := p) h x k.1) (pe_hes (G := G) (p := p) hs r k.2) (star_of (mHE_ok k.1))) fun σ H Q ⟨S, F, ι, d, rl, e, q⟩ => ?_
      simp only [evH.evHL] at e
      split at e <;> try (cases e; done)
      rename_i d1 ds1 e1 e2
      cases e
      refine ⟨S, F, ι, d1, rl, e1, fun F1 H1 ex1 rl1 v rv => ⟨S, F1, ι, ds1, rl1, e2, fun F2 H2 ex2 rl2 vs rvs => ?_⟩⟩
      exact q F2 H2 (ex1.trans rl1 ex2) rl2 _ ⟨v, vs, rfl, ex2.rep rv, rvs⟩
end

/-! ### except clauses -/
def clsV (G : Gl) (x : Str) : Value := (G.mg x).getD .none
def tsH (G : Gl) (h : Hd) : Addr → Value → Option Addr → TS := fun _ _ _ D σ H => ∃ p, tRet (tH G p h.ret) D σ H
def lOf (G : Gl) (hs : List Hd) : List (Value × (Addr → Value → Option Addr → TS)) := hs.map fun h => (clsV G h.cls, tsH G h)
variable {G : Gl} {M : Mx} {P : Program} {w : World} {base : Heap} {k : Nat} {O : Orc} {sub : Str → Str → Option Bool} {exs : List Str}
theorem AmbX.cls (A : AmbX G sub exs) {x : Str} (h : exs.contains x = true) : ∃ C, G.mg x = some (.ref C) := by
  obtain ⟨C, _, _, _, _, _, _, m, _⟩ := A.rse x h
  exact ⟨C, m⟩
theorem hds_ok (A : AmbX G sub exs) {j : Nat} {sc : Sc} {X : Cx} (g : Good G P w base j M sc.s X) : ∀ (hs : List Hd) (es : List ExceptHandler), mHds exs sc hs es = true → HdsOk X es (lOf G hs)
  | [], [], _ => .nil
  | [], _ :: _, h => by cases h
  | _ :: _, [], h => by cases h
  | h :: hs, e :: es, k => by
    simp only [mHds, Bool.and_eq_true] at k
    have k1 := k.1
    unfold mHd at k1
    split at k1 <;> try (cases k1; done)
    rename_i x np e' rp pos'
    simp only [Bool.and_eq_true, decide_eq_true_eq] at k1
    obtain ⟨⟨⟨⟨rfl, h1⟩, h2⟩, h3⟩, h4⟩ := k1
    obtain ⟨n1, n2, n3⟩ := nd_of h3
    obtain ⟨C, m⟩ := A.cls h1
    have hc : Names X h.cls (clsV G h.cls) := ⟨g.gl h2, n1, .inl (by rw [g.pm, clsV, m]; rfl)⟩
    refine .cons hc (fun a oe cls d pn hz hd => pss_one ⟨fun pins s σ H D I ⟨p, q⟩ => (ps_ret (pe_he h.ret e' h4)).run pins s σ H D I q⟩) (hds_ok A g hs es k.2)
theorem many_of (A : AmbX G sub exs) {sc : Sc} {E : XK} {En : Ends} {σ : L2.St} {F : Hp} {ι : List Addr} {H : Hp} {c : Str} {p : Option D} {S1 : Sto} {F1 : Hp} {ι1 : List Addr} {H1 : Hp} {cls : Value} {dd : Option Addr} (ex : Ext F ι H F1 ι1 H1) (rl : RL G S1 F1 ι1 H1) (er : ExR G H1 c p cls dd) :
    ∀ (hs : List Hd) (es : List ExceptHandler), mHds exs sc hs es = true → Pst G (Wk E) σ F ι H (catch_ sub c p S1 hs) (OutQ G En) → wMany G.K (Wk E) En (lOf G hs) cls dd σ H1
  | [], [], _, q => q cls dd F1 ι1 H1 ex rl er
  | [], _ :: _, h, _ => by cases h
  | _ :: _, [], h, _ => by cases h
  | h :: hs, e :: es, k, q => by
    simp only [mHds, Bool.and_eq_true] at k
    have k1 := k.1
    unfold mHd at k1
    split at k1 <;> try (cases k1; done)
    simp only [Bool.and_eq_true, decide_eq_true_eq] at k1
    obtain ⟨⟨⟨⟨rfl, h1⟩, h2⟩, h3⟩, h4⟩ := k1
    obtain ⟨C', m⟩ := A.cls h1
    obtain ⟨⟨C, mc, rfl⟩, _⟩ := id er
    simp only [catch_] at q
    cases hb : sub c h.cls with
    | none => rw [hb] at q; exact (show False from q).elim
    | some b =>
      rw [hb] at q
      have ea := A.sub c h.cls b hb C C' mc m
      refine ⟨b, by show PySem.W.exmOne G.K (.ref C) (clsV G h.cls) = some b; rw [clsV, m]; exact ea, fun eb a ha => ?_, fun eb => ?_⟩
      · subst eb
        cases e1 : evH p h.ret with
        | none => rw [e1] at q; exact (show False from q).elim
        | some d =>
          rw [e1] at q
          refine ⟨p, S1, F1, ι1, d, rl, e1, fun F2 H2 ex2 rl2 v rv => ?_⟩
          exact q F2 ι1 H2 (ex.trans rl ex2) rl2 v rv
      · subst eb
        exact many_of A ex rl er hs es k.2 q

/-! ### loops -/
section
variable {E : XK} {σ : L2.St} {F : Hp} {ι : List Addr} {H : Hp} {D' : Ends}
/-- one turn's end -/
theorem turn_of {En : Ends} {N : L2.St → Hp → Prop} {k : Env → Sto → R Out} {o : Out} {S1 : Sto} {F1 : Hp} {ι1 : List Addr} {H1 : Hp} (l1 : RL G S1 F1 ι1 H1) (q : Pst G (Wk E) σ F1 ι1 H1 (turn o S1 k) (OutQ G En))
    (hN : ∀ ρ1 σ1, ER G F1 ι1 ρ1 σ1 → Pst G (Wk E) σ F1 ι1 H1 (k ρ1 S1) (OutQ G En) → N σ1 H1) : OutQ G { En with nx := N, ct := N, bk := En.nx } o S1 F1 ι1 H1 := by
  cases o with
  | nx ρ1 => exact fun σ' er => hN ρ1 σ' er q
  | ct ρ1 => exact fun σ' er => hN ρ1 σ' er q
  | bk ρ1 => exact fun σ' er => q F1 ι1 H1 Ext.refl l1 σ' er
  | rt d => exact fun v rv => q F1 ι1 H1 Ext.refl l1 v rv
theorem while_of {t : Env → Sto → R Bool} {f : Env → Sto → R Out} {n : Nat} {σ : L2.St} {H : Hp} {En : Ends} (h : tS G E (whileL t f n) En σ H) : tWhile (tT G (Wk E) t) (tS G E f) En σ H := by
  refine ⟨fun m => tS G E (whileL t f m) En, ⟨n, h⟩, fun m σ H h => ?_⟩
  obtain ⟨ρ, S, F, ι, er, rl, p⟩ := h
  cases m with
  | zero => exact (show False from p).elim
  | succ m =>
    refine ⟨ρ, S, F, ι, er, rl, p.bind.imp fun b S1 F1 ι1 H1 e1 l1 p1 => ?_⟩
    cases b with
    | false => rw [if_neg Bool.false_ne_true] at p1 ⊢; exact p1 F1 ι1 H1 Ext.refl l1 σ (er.ext e1)
    | true =>
      rw [if_pos rfl] at p1 ⊢
      refine ⟨tS G E (whileL t f m) En, fun σ' H' n => ⟨m, Nat.lt_succ_self _, n⟩, ρ, S1, F1, ι1, er.ext e1, l1, p1.bind.imp fun o S2 F2 ι2 H2 e2 l2 p2 => ?_⟩
      exact turn_of l2 p2 fun ρ1 σ1 er1 q => ⟨ρ1, S2, F2, ι2, er1, l2, q.st⟩
theorem for_items {tg : D → Env → Sto → R Env} {ns : List Nat} {b : Env → Sto → R Out} {l : List D} {J : It} {En : Ends} {ρ : Env} {S1 : Sto} {F1 : Hp} {ι1 : List Addr} {H1 : Hp} (er : ER G F1 ι1 ρ σ) (l1 : RL G S1 F1 ι1 H1) (hJ : ItOk G J l F1 ι1 H1)
    (p : Pst G (Wk E) σ F1 ι1 H1 (forL (fun d ρ1 S2 => (tg d ρ1 S2).bind fun ρ2 S3 => b ρ2 S3) l ρ S1) (OutQ G En)) :
    ∃ W : Nat → Nat → L2.St → Hp → Prop, (∃ m, W 0 m σ H1) ∧ ∀ i m σ H, W i m σ H →
  (J.stop i H ∧ En.nx σ H) ∨ (J.go i H ∧ ∃ N : L2.St → Hp → Prop, (∀ σ' H', N σ' H' → ∃ m', m' < m ∧ W (i + 1) m' σ' H') ∧ ∀ x H', J.yld i H x H' → tG G (Wk E) ns tg x σ H' fun σ2 H2 => tS G E b { En with nx := N, ct := N, bk := En.nx } σ2 H2) := by
  refine ⟨fun i m σ H => m = l.length - i ∧ i ≤ l.length ∧ ∃ ρ S F ι, Ext F1 ι1 H1 F ι H ∧ ER G F ι ρ σ ∧ RL G S F ι H ∧ Pst G (Wk E) σ F ι H (forL (fun d ρ1 S2 => (tg d ρ1 S2).bind fun ρ2 S3 => b ρ2 S3) (l.drop i) ρ S) (OutQ G En), ⟨l.length, by simp, Nat.zero_le _, ρ, S1, F1, ι1, Ext.refl, er, l1, p⟩, ?_⟩
  rintro i m σ H ⟨rfl, hi, ρ, S, F, ι, ex, er, rl, p⟩
  have ok := hJ i S F ι H ex rl
  by_cases hlt : i < l.length
  · have okd := ok.2 l[i] (List.getElem?_eq_getElem hlt)
    refine .inr ⟨okd.1, fun σ' H' => (i + 1 ≤ l.length ∧ ∃ ρ S F ι, Ext F1 ι1 H1 F ι H' ∧ ER G F ι ρ σ' ∧ RL G S F ι H' ∧ Pst G (Wk E) σ' F ι H' (forL (fun d ρ1 S2 => (tg d ρ1 S2).bind fun ρ2 S3 => b ρ2 S3) (l.drop (i + 1)) ρ S) (OutQ G En)), fun σ' H' n => ⟨l.length - (i + 1), by omega, rfl, n⟩, fun x H' y => ?_⟩
    obtain ⟨F', ex', rl', rx⟩ := okd.2 x H' y
    rw [List.drop_eq_getElem_cons hlt] at p
    have p := p.shift ex' rl'
    refine ⟨l[i], ρ, S, F', ι, er.ext ex', rl', rx, p.bind.bind.imp fun ρ2 S2 F2 ι2 H2 e2 l2 p2 σ2 er2 hl2 hs2 => ?_⟩
    refine ⟨ρ2, S2, F2, ι2, er2, l2, p2.st.imp fun o S3 F3 ι3 H3 e3 l3 p3 => ?_⟩
    exact turn_of l3 p3 fun ρ3 σ3 er3 q => ⟨hlt, ρ3, S3, F3, ι3, (ex.trans rl (ex'.trans rl' (e2.trans l2 e3))), er3, l3, q.st⟩
  · have e : i = l.length := by omega
    refine .inl ⟨ok.1 (by omega), ?_⟩
    rw [e, List.drop_length] at p
    exact p F ι H Ext.refl rl σ er
theorem for_at {tg : D → Env → Sto → R Env} {ns : List Nat} {b : Env → Sto → R Out} {k0 : Nat} {a : Addr} {En : Ends} {ρ : Env} {S1 : Sto} {F1 : Hp} {ι1 : List Addr} {H1 : Hp} {n0 : Nat} (er : ER G F1 ι1 ρ σ) (l1 : RL G S1 F1 ι1 H1) (hk : ι1[k0]? = some a)
    (p : Pst G (Wk E) σ F1 ι1 H1 (forAt (fun d ρ1 S2 => (tg d ρ1 S2).bind fun ρ2 S3 => b ρ2 S3) k0 n0 0 ρ S1) (OutQ G En)) :
    ∃ W : Nat → Nat → L2.St → Hp → Prop, (∃ m, W 0 m σ H1) ∧ ∀ i m σ H, W i m σ H →
  ((Itl G.K a).stop i H ∧ En.nx σ H) ∨ ((Itl G.K a).go i H ∧ ∃ N : L2.St → Hp → Prop, (∀ σ' H', N σ' H' → ∃ m', m' < m ∧ W (i + 1) m' σ' H') ∧ ∀ x H', (Itl G.K a).yld i H x H' → tG G (Wk E) ns tg x σ H' fun σ2 H2 => tS G E b { En with nx := N, ct := N, bk := En.nx } σ2 H2) := by
  refine ⟨fun i m σ H => ∃ ρ S F ι, Ext F1 ι1 H1 F ι H ∧ ER G F ι ρ σ ∧ RL G S F ι H ∧ Pst G (Wk E) σ F ι H (forAt (fun d ρ1 S2 => (tg d ρ1 S2).bind fun ρ2 S3 => b ρ2 S3) k0 m i ρ S) (OutQ G En), ⟨n0, ρ, S1, F1, ι1, Ext.refl, er, l1, p⟩, ?_⟩
  rintro i m σ H ⟨ρ, S, F, ι, ex, er, rl, p⟩
  cases m with
  | zero => exact (show False from p).elim
  | succ m =>
    simp only [forAt] at p
    split at p <;> try (exact (show False from p).elim)
    rename_i xs hxs
    obtain ⟨vs, z1, z2⟩ := rl.loc (ex.ix _ _ hk) hxs
    split at p
    · rename_i d hd
      obtain ⟨v, hv, rv⟩ := z2.get hd
      refine .inr ⟨⟨vs, v, SqL.of z1, hv⟩, fun σ' H' => ∃ ρ S F ι, Ext F1 ι1 H1 F ι H' ∧ ER G F ι ρ σ' ∧ RL G S F ι H' ∧ Pst G (Wk E) σ' F ι H' (forAt (fun d ρ1 S2 => (tg d ρ1 S2).bind fun ρ2 S3 => b ρ2 S3) k0 m (i + 1) ρ S) (OutQ G En), fun σ' H' n => ⟨m, Nat.lt_succ_self _, n⟩, fun x H' y => ?_⟩
      obtain ⟨e1, e2⟩ := y
      subst e1
      have := (e2 vs (SqL.of z1)).symm.trans hv
      cases this
      refine ⟨d, ρ, S, F, ι, er, rl, rv, p.bind.bind.imp fun ρ2 S2 F2 ι2 H2 e2 l2 p2 σ2 er2 hl2 hs2 => ?_⟩
      refine ⟨ρ2, S2, F2, ι2, er2, l2, p2.st.imp fun o S3 F3 ι3 H3 e3 l3 p3 => ?_⟩
      exact turn_of l3 p3 fun ρ3 σ3 er3 q => ⟨ρ3, S3, F3, ι3, (ex.trans rl (e2.trans l2 e3)), er3, l3, q.st⟩
    · rename_i hn
      refine .inl ⟨⟨vs, SqL.of z1, ?_⟩, p F ι H Ext.refl rl σ er⟩
      rw [← z2.length]
      exact List.getElem?_eq_none_iff.mp hn
end

theorem pe_blkF (A : Amb G M P w base k O) {own : List Nat} {tg : CTg} {it : CI} {t : CTo} {el : CE} {e : Expr} {j : Nat} {sc : Sc} {X : Cx} {E : XK} {i : Nat} {y : Str} {py spos : Pos} (hj : k ≤ j) (hl : Hl G k j sc X) (g : Good G P w base j M sc.s X) (gs : GoodS X) (tk : Takes X (Wk E))
    (hi : M.N[i]? = some y) (hy : locB sc.s y = true) (hs : lcSw py y e = true) (h : mF M sc (.comp own tg it t el) e = true) :
    PS X (.Assign [.Name y py] e spos) (fun En σ H => tF G (Wk E) (fun ρ S => evF O (.comp own tg it t el) ρ S) σ H fun x H1 => En.nx (σ.set i (some x)) H1) := by
  simp only [mF] at h
  split at h <;> try (cases h; done)
  rename_i el' tg' it' ifs csc p
  simp only [Bool.and_eq_true, decide_eq_true_eq] at h
  obtain ⟨⟨⟨⟨⟨⟨h1, h2⟩, h3⟩, h4⟩, h5⟩, h6⟩, h7⟩ := h
  have hsub : ∀ i ∈ tgN tg, i ∈ own := fun i hi => by
    have := List.all_eq_true.mp h4 i hi
    simpa using this
  have bok : BlkOk X.N X.env.scope csc (own.filterMap fun i => (M.N[i]?).map fun x => (x, i)) := by
    rw [g.pN, g.sc]; exact blkOk_by h2
  simp only [lcSw, Bool.and_eq_true, Bool.not_eq_true'] at hs
  have hyl : X.env.scope.names.lookup y = some .local := by rw [g.sc]; exact of_decide_eq_true hy
  have := ps_setLc (pos := p) (spos := spos) g.calm g.nd (by rw [g.pN]; exact hi) hyl (sw_true gs.kd hyl hs.1 hs.2) (sI A it tg' it' j sc X (Wk E) hj hl g tk h1) bok
    (fun s H C cl fp => sTg A tg tg' j csc ⟨relS csc sc.s, sc.lam, sc.rp⟩ (X.blk s H csc (compEnvC csc cl C X.env) fp) WF hj (hl.blk s H C cl fp csc) (g.blk s H C cl fp csc) (takesF rfl) (fun x hx => by
      rcases hx with hx | hx
      · refine .inr ?_
        show (relS csc X.env.scope).names.lookup x = _
        exact L2.lookup_relS_keep (by decide) hx
      · refine .inl ?_
        show (csc.names.lookup x == some .cell) = true
        rw [hx]; rfl) h5)
    (fun s H C cl fp => sTo A t ifs j ⟨relS csc sc.s, sc.lam, sc.rp⟩ (X.blk s H csc (compEnvC csc cl C X.env) fp) WF hj (hl.blk s H C cl fp csc) (g.blk s H C cl fp csc) (takesF rfl) h6)
    (fun s H C cl fp => sE A el el' j ⟨relS csc sc.s, sc.lam, sc.rp⟩ (X.blk s H csc (compEnvC csc cl C X.env) fp) WF hj (hl.blk s H C cl fp csc) (g.blk s H C cl fp csc) (takesF rfl) h7)
    (fold_of (mI_ok M sc tg' it it' h1))
  refine ps_weak this fun En σ H q => ?_
  rw [h3]
  exact comp_conv hsub q
/-- a method of a list that a name of the frame holds -/
theorem Hl.try {j : Nat} {sc : Sc} {X : Cx} (h : Hl G k j sc X) (pn : List (Addr × Obj)) (xe : Value → Shared → Prop) : Hl G k j sc (X.tr pn xe) := ⟨fun z => ⟨(h.1 z).1, ⟨(h.1 z).2.ex⟩⟩, h.2⟩
theorem Good.try {j : Nat} {sc : Scope} {X : Cx} (g : Good G P w base j M sc X) (pn : List (Addr × Obj)) (xe : Value → Shared → Prop) : Good G P w base j M sc (X.tr pn xe) := ⟨g.pP, g.pw, g.pb, g.pK, g.pm, g.pN, g.nd, g.sc, g.calm, g.room⟩
theorem catch_run {E : XK} {j : Nat} {sc : Sc} {X : Cx} {e : CE} {hs : List Hd} {es : List ExceptHandler} {body : List Stmt} {pos : Pos} {fin : D → Env → Out} (A : AmbX G sub exs) (g : Good G P w base j M sc.s X) (gs : GoodS X) (tk : Takes X (Wk E)) (hn : nonNil hs = true) (hh : mHds exs sc hs es = true) {tb : WX → TS}
    (hb : ∀ (W : WX) (pn : List (Addr × Obj)) (xe : Value → Shared → Prop), Takes (X.tr pn xe) W → PSs (X.tr pn xe) body (tb W))
    (htb : ∀ W En σ H, (∃ ρ S F ι, ER G F ι ρ σ ∧ RL G S F ι H ∧ Pst G W σ F ι H (evE O e ρ S) fun d S1 F1 ι1 H1 => OutQ G En (fin d ρ) S1 F1 ι1 H1) → tb W En σ H) :
    PS X (.Try body es [] [] pos) (tS G E fun ρ S => match evE O e ρ S with
      | .ok d S1 => .ok (fin d ρ) S1
      | .exc c p S1 => catch_ sub c p S1 hs
      | .stuck => .stuck) := by
  cases es with
  | nil =>
    cases hs with
    | nil => cases hn
    | cons h r => cases hh
  | cons e0 er =>
    refine ps_weak (ps_try_many (l := lOf G hs) gs.stk gs.fr tk (fun W pn xe t _ => hb W pn xe t) (hds_ok A g hs (e0 :: er) hh)) fun En σ H ⟨ρ, S, F, ι, er', rl, p⟩ => ?_
    refine htb _ _ _ _ ⟨ρ, S, F, ι, er', rl, ?_⟩
    dsimp only at p
    cases q : evE O e ρ S with
    | ok d S1 =>
      rw [q] at p
      exact p
    | stuck => rw [q] at p; exact (show False from p).elim
    | exc c pl S1 =>
      rw [q] at p
      intro cls dd F1 ι1 H1 ex l1 exr
      rw [g.pK]
      exact many_of A ex l1 exr hs (e0 :: er) hh p
mutual
theorem sS (A : Amb G M P w base k O) (B : AmbX G sub exs) : ∀ (c : CS) (st : Stmt) (j : Nat) (sc : Sc) (X : Cx) (E : XK), k ≤ j → Hl G k j sc X → Good G P w base j M sc.s X → GoodS X → Takes X (Wk E) → mS M exs sc c st = true → PS X st (tS G E fun ρ S => exS sub O c ρ S)
  | .asg tg e, st, j, sc, X, E, hj, hl, g, gs, tk, h => by
    simp only [mS] at h
    split at h <;> try (cases h; done)
    rename_i t e' pos
    simp only [Bool.and_eq_true] at h
    obtain ⟨⟨⟨h1, h2⟩, h3⟩, h4⟩ := h
    refine ps_weak (ps_asg (sE A e e' j sc X (Wk E) hj hl g tk h4) (sTg A tg t j sc.s sc X (Wk E) hj hl g tk (fun x hx => gs.fn x (by rw [g.sc]; exact hx)) h3) (swW_none h2) (sw_none g.sc h1) (by rw [mTg_each M sc.s sc tg t h3 [] X.env]; rfl)) fun En σ H ⟨ρ, S, F, ι, er, rl, p⟩ => ?_
    simp only [exS] at p
    refine ⟨ρ, S, F, ι, er, rl, p.bind.imp fun d S1 F1 ι1 H1 e1 l1 p1 v rv => ?_⟩
    refine ⟨d, ρ, S1, F1, ι1, er.ext e1, l1, rv, p1.bind.imp fun ρ1 S2 F2 ι2 H2 e2 l2 p2 σ' er' hl' hs' => ?_⟩
    exact p2 F2 ι2 H2 Ext.refl l2 σ' er'
  | .par is es, st, j, sc, X, E, hj, hl, g, gs, tk, h => by
    simp only [mS] at h
    split at h <;> try (cases h; done)
    rename_i ts kt pt vs k2 pt2 pos
    rw [Bool.and_eq_true] at h
    obtain ⟨h1, h2⟩ := h
    have hes := sEs A es vs j sc X (Wk E) hj hl g tk h2
    unfold parOk at h1
    split at h1
    · rename_i i j' x p y q a b
      simp only [Bool.and_eq_true, decide_eq_true_eq, locB] at h1
      obtain ⟨⟨⟨⟨⟨⟨⟨a1, a2⟩, a3⟩, a4⟩, a5⟩, a6⟩, a7⟩, a8⟩ := h1
      have lx : X.env.scope.names.lookup x = some .local := by rw [g.sc]; exact a5
      have ly : X.env.scope.names.lookup y = some .local := by rw [g.sc]; exact a6
      refine ps_weak (ps_par g.calm g.nd (by rw [g.pN]; exact a1) (by rw [g.pN]; exact a2) a3 lx ly hes (sw_two gs.kd lx ly a4 a7 a8)) fun En σ H ⟨ρ, S, F, ι, er, rl, p⟩ => ?_
      simp only [exS] at p
      refine ⟨ρ, S, F, ι, er, rl, p.bind.imp fun ds S1 F1 ι1 H1 e1 l1 p1 us rv => ?_⟩
      obtain ⟨ρ1, z, q1⟩ := p1.bind.opt
      obtain ⟨d1, d2, rfl, rfl⟩ := setAll2 z
      obtain ⟨u1, us1, rfl, r1, u2, us2, rfl, r2, e⟩ := rv
      cases (show _ = _ from e)
      exact ⟨u1, u2, rfl, q1 F1 ι1 H1 Ext.refl l1 F1 ι1 H1 Ext.refl l1 _ (((er.ext e1).set r1).set r2)⟩
    · rename_i i j' l x p y q z r a b c
      simp only [Bool.and_eq_true, decide_eq_true_eq, locB] at h1
      obtain ⟨⟨⟨⟨⟨⟨⟨⟨⟨⟨⟨⟨⟨⟨a1, a2⟩, a3⟩, a4⟩, a5⟩, a6⟩, a7⟩, a8⟩, a9⟩, b1⟩, b2⟩, b3⟩, b4⟩, b5⟩, b6⟩ := h1
      have lx : X.env.scope.names.lookup x = some .local := by rw [g.sc]; exact b1
      have ly : X.env.scope.names.lookup y = some .local := by rw [g.sc]; exact b2
      have lz : X.env.scope.names.lookup z = some .local := by rw [g.sc]; exact b3
      refine ps_weak (ps_par3 g.calm g.nd (by rw [g.pN]; exact a1) (by rw [g.pN]; exact a2) (by rw [g.pN]; exact a3) a4 a5 a6 lx ly lz hes (sw_three gs.kd lx ly lz a7 a8 a9 b4 b5 b6)) fun En σ H ⟨ρ, S, F, ι, er, rl, p⟩ => ?_
      simp only [exS] at p
      refine ⟨ρ, S, F, ι, er, rl, p.bind.imp fun ds S1 F1 ι1 H1 e1 l1 p1 us rv => ?_⟩
      obtain ⟨ρ1, z, q1⟩ := p1.bind.opt
      obtain ⟨d1, d2, d3, rfl, rfl⟩ := setAll3 z
      obtain ⟨u1, us1, rfl, r1, u2, us2, rfl, r2, u3, us3, rfl, r3, e⟩ := rv
      cases (show _ = _ from e)
      exact ⟨u1, u2, u3, rfl, q1 F1 ι1 H1 Ext.refl l1 F1 ι1 H1 Ext.refl l1 _ ((((er.ext e1).set r1).set r2).set r3)⟩
    · cases h1
  | .asgc m i f, st, j, sc, X, E, hj, hl, g, gs, tk, h => by
    simp only [mS] at h
    split at h <;> try (cases h; done)
    rename_i y py e' pos
    simp only [Bool.and_eq_true, decide_eq_true_eq] at h
    obtain ⟨⟨⟨⟨h1, h2⟩, h3⟩, h4⟩, h5⟩ := h
    cases f <;> try (cases h3; done)
    refine ps_weak (pe_blkF A hj hl g gs tk h1 h2 h4 h5) fun En σ H ⟨ρ, S, F, ι, er, rl, p⟩ => ?_
    simp only [exS] at p
    refine ⟨ρ, S, F, ι, er, rl, p.bind.imp fun ds S1 F1 ι1 H1 e1 l1 p1 pp vs hp rv => ?_⟩
    split at p1 <;> try (exact (show False from p1).elim)
    cases m with
    | true =>
      rw [if_pos rfl] at p1
      obtain ⟨ex, l2⟩ := l1.new hp rv
      refine p1 _ _ _ ex l2 _ (((er.ext e1).ext ex).set ⟨pp, rfl, ?_⟩)
      rw [← l1.len, List.getElem?_append_right (Nat.le_refl _)]; simp
    | false =>
      rw [if_neg Bool.false_ne_true] at p1
      obtain ⟨ex, l2⟩ := l1.frz hp (.lst vs) (fun _ z => by cases z)
      exact p1 _ _ _ ex l2 _ (((er.ext e1).ext ex).set ⟨pp, vs, rfl, upd_same, ex.repL rv⟩)
  | .exp e, st, j, sc, X, E, hj, hl, g, gs, tk, h => by
    simp only [mS] at h
    split at h <;> try (cases h; done)
    rename_i e' pos
    rw [Bool.and_eq_true] at h
    refine ps_weak (ps_expr (sE A e e' j sc X (Wk E) hj hl g tk h.2) (swW_none h.1)) fun En σ H ⟨ρ, S, F, ι, er, rl, p⟩ => ?_
    simp only [exS] at p
    exact ⟨ρ, S, F, ι, er, rl, p.bind.imp fun d S1 F1 ι1 H1 e1 l1 p1 v rv => p1 F1 ι1 H1 Ext.refl l1 σ (er.ext e1)⟩
  | .ret e, st, j, sc, X, E, hj, hl, g, gs, tk, h => by
    simp only [mS] at h
    split at h <;> try (cases h; done)
    rename_i e' pos
    refine ps_weak (ps_ret (sE A e e' j sc X (Wk E) hj hl g tk h)) fun En σ H ⟨ρ, S, F, ι, er, rl, p⟩ => ?_
    simp only [exS] at p
    exact ⟨ρ, S, F, ι, er, rl, p.bind.imp fun d S1 F1 ι1 H1 e1 l1 p1 v rv => p1 F1 ι1 H1 Ext.refl l1 v rv⟩
  | .retN, st, j, sc, X, E, hj, hl, g, gs, tk, h => by
    simp only [mS] at h
    split at h <;> try (cases h; done)
    refine ps_weak ps_retN fun En σ H ⟨ρ, S, F, ι, er, rl, p⟩ => ?_
    simp only [exS] at p
    exact p F ι H Ext.refl rl _ rfl
  | .ite t a b, st, j, sc, X, E, hj, hl, g, gs, tk, h => by
    simp only [mS] at h
    split at h <;> try (cases h; done)
    rename_i t' a' b' pos
    simp only [Bool.and_eq_true] at h
    refine ps_weak (ps_if (sT A t t' j sc X (Wk E) hj hl g tk h.1.1) (sSs A B a a' j sc X E hj hl g gs tk h.1.2) (sSs A B b b' j sc X E hj hl g gs tk h.2)) fun En σ H ⟨ρ, S, F, ι, er, rl, p⟩ => ?_
    simp only [exS] at p
    refine ⟨ρ, S, F, ι, er, rl, p.bind.imp fun c S1 F1 ι1 H1 e1 l1 p1 => ?_⟩
    cases c with
    | true => rw [if_pos rfl] at p1 ⊢; exact ⟨ρ, S1, F1, ι1, er.ext e1, l1, p1⟩
    | false => rw [if_neg Bool.false_ne_true] at p1 ⊢; exact ⟨ρ, S1, F1, ι1, er.ext e1, l1, p1⟩
  | .forS tg it b, st, j, sc, X, E, hj, hl, g, gs, tk, h => by
    simp only [mS] at h
    split at h <;> try (cases h; done)
    rename_i tg' it' b' pos
    simp only [Bool.and_eq_true] at h
    refine ps_weak (ps_for gs.own g.calm (sI A it tg' it' j sc X (Wk E) hj hl g tk h.1.1) (sTg A tg tg' j sc.s sc X (Wk E) hj hl g tk (fun x hx => gs.fn x (by rw [g.sc]; exact hx)) h.1.2) (sSs A B b b' j sc X E hj hl g gs tk h.2) (fold_of (mI_ok M sc tg' it it' h.1.1))) fun En σ H ⟨ρ, S, F, ι, er, rl, p⟩ => ?_
    simp only [exS] at p
    refine ⟨ρ, S, F, ι, er, rl, p.bind.imp fun z S1 F1 ι1 H1 e1 l1 p1 => ?_⟩
    cases z with
    | items l => exact fun J hJ => for_items (tg := fun d ρ S => evTg O tg d ρ S) (b := fun ρ S => exSs sub O b ρ S) (er.ext e1) l1 hJ p1
    | at_ k0 =>
      intro a hk
      dsimp only at p1
      split at p1 <;> try (exact (show False from p1).elim)
      exact for_at (tg := fun d ρ S => evTg O tg d ρ S) (b := fun ρ S => exSs sub O b ρ S) (er.ext e1) l1 hk p1
  | .whl t b, st, j, sc, X, E, hj, hl, g, gs, tk, h => by
    simp only [mS] at h
    split at h <;> try (cases h; done)
    rename_i t' b' pos
    rw [Bool.and_eq_true] at h
    refine ps_weak (ps_while gs.own (sT A t t' j sc X (Wk E) hj hl g tk h.1) (sSs A B b b' j sc X E hj hl g gs tk h.2)) fun En σ H q => ?_
    simp only [exS] at q
    exact while_of q
  | .brk, st, j, sc, X, E, hj, hl, g, gs, tk, h => by
    simp only [mS] at h
    split at h <;> try (cases h; done)
    refine ps_weak ps_break fun En σ H ⟨ρ, S, F, ι, er, rl, p⟩ => ?_
    simp only [exS] at p
    exact p F ι H Ext.refl rl σ er
  | .cnt, st, j, sc, X, E, hj, hl, g, gs, tk, h => by
    simp only [mS] at h
    split at h <;> try (cases h; done)
    refine ps_weak ps_continue fun En σ H ⟨ρ, S, F, ι, er, rl, p⟩ => ?_
    simp only [exS] at p
    exact p F ι H Ext.refl rl σ er
  | .pass, st, j, sc, X, E, hj, hl, g, gs, tk, h => by
    simp only [mS] at h
    split at h <;> try (cases h; done)
    · refine ps_weak ps_pass fun En σ H ⟨ρ, S, F, ι, er, rl, p⟩ => ?_
      simp only [exS] at p
      exact p F ι H Ext.refl rl σ er
    · refine ps_weak ps_doc fun En σ H ⟨ρ, S, F, ι, er, rl, p⟩ => ?_
      simp only [exS] at p
      exact p F ι H Ext.refl rl σ er
  | .rse c, st, j, sc, X, E, hj, hl, g, gs, tk, h => by
    simp only [mS] at h
    split at h <;> try (cases h; done)
    simp only [Bool.and_eq_true, decide_eq_true_eq] at h
    obtain ⟨⟨⟨rfl, h1⟩, h2⟩, h3⟩ := h
    obtain ⟨n1, n2, n3⟩ := nd_of h3
    obtain ⟨C, bmB, B0, newId, initId, f1, f2, f3, f4, f5, f6⟩ := B.rse _ h1
    refine ps_weak (ps_raise g.calm tk (pmk_own f1 (by rw [g.pK]; exact f2) (by rw [g.pm]; exact f3) (by rw [g.pK]; exact f4) (raises_own (by rw [g.pK]; exact f5) (by rw [g.pK]; exact f6)) (g.gl h2) n1)) fun En σ H ⟨ρ, S, F, ι, er, rl, p⟩ => ?_
    simp only [exS] at p
    exact p _ _ F ι H Ext.refl rl ⟨⟨C, f3, rfl⟩, rfl⟩
  | .tryE r e hs, st, j, sc, X, E, hj, hl, g, gs, tk, h => by
    simp only [mS] at h
    split at h <;> try (cases h; done)
    · rename_i e' rp hs' pos
      simp only [Bool.and_eq_true] at h
      obtain ⟨⟨⟨rfl, h1⟩, h2⟩, h3⟩ := h
      have := catch_run (pos := pos) (body := [.Return (some e') rp]) (O := O) (e := e) (fin := fun d _ => .rt d) (tb := fun W => tRet (tE G W fun ρ S => evE O e ρ S)) B g gs tk h2 h3 (fun W pn xe t => pss_one (ps_ret (sE A e e' j sc (X.tr pn xe) W hj (hl.try pn xe) (g.try pn xe) t h1))) (fun W En σ H ⟨ρ, S, F, ι, er, rl, p⟩ => ⟨ρ, S, F, ι, er, rl, p⟩)
      refine ps_weak this fun En σ H ⟨ρ, S, F, ι, er, rl, p⟩ => ⟨ρ, S, F, ι, er, rl, ?_⟩
      simp only [exS, if_true] at p
      exact p
    · rename_i e' rp hs' pos
      simp only [Bool.and_eq_true, Bool.not_eq_true'] at h
      obtain ⟨⟨⟨⟨rfl, h0⟩, h1⟩, h2⟩, h3⟩ := h
      have := catch_run (pos := pos) (body := [.Expr e' rp]) (O := O) (e := e) (fin := fun _ ρ => .nx ρ) (tb := fun W => tDrop (tE G W fun ρ S => evE O e ρ S)) B g gs tk h2 h3 (fun W pn xe t => pss_one (ps_expr (sE A e e' j sc (X.tr pn xe) W hj (hl.try pn xe) (g.try pn xe) t h1) (swW_none h0))) (fun W En σ H ⟨ρ, S, F, ι, er, rl, p⟩ => ⟨ρ, S, F, ι, er, rl, p.imp fun d S1 F1 ι1 H1 e1 l1 q v rv => q σ (er.ext e1)⟩)
      refine ps_weak this fun En σ H ⟨ρ, S, F, ι, er, rl, p⟩ => ⟨ρ, S, F, ι, er, rl, ?_⟩
      simp only [exS, Bool.false_eq_true, if_false] at p
      exact p
  | .app i e, st, j, sc, X, E, hj, hl, g, gs, tk, h => by
    simp only [mS] at h
    split at h <;> try (cases h; done)
    rename_i x p nm apos e' cpos pos
    simp only [Bool.and_eq_true, decide_eq_true_eq] at h
    obtain ⟨⟨⟨⟨⟨rfl, h1⟩, h2⟩, h3⟩, h4⟩, h5⟩ := h
    obtain ⟨n1, n2, n3⟩ := nd_of h3
    have st := star_of (es := []) (env := X.env) (mE_ok M sc e e' h5)
    refine ps_weak (ps_expr (pe_bm F.plainAttrs_list F.slot_list_append (by first | rfl | decide +kernel) mt_append (pe_var (i := i) (by rw [g.pN]; exact h1) (by rw [g.sc]; exact vis_of h2) n1 n2) (pa_cons (sE A e e' j sc X (Wk E) hj hl g tk h5) pa_nil st) rfl (by rw [st]; rfl) h4 st rfl) (swW_none rfl)) fun En σ H ⟨ρ, S, F0, ι, er, rl, p⟩ => ?_
    simp only [exS] at p
    split at p <;> try (exact (show False from p).elim)
    rename_i k0 hk0
    obtain ⟨v, hv, a0, rfl, hk⟩ := er.2 i _ hk0
    obtain ⟨vs0, tr⟩ := rl.tracked (List.mem_of_getElem? hk)
    refine ⟨_, hv, ⟨?_, ρ, S, F0, ι, er, rl, p.bind.imp fun d S1 F1 ι1 H1 e1 l1 p1 v rv => ?_⟩⟩
    · exact .inl ⟨rfl, vs0, SqL.of tr⟩
    split at p1 <;> try (exact (show False from p1).elim)
    rename_i xs hxs
    split at p1 <;> try (exact (show False from p1).elim)
    rename_i hz
    obtain ⟨vs, z1, z2⟩ := l1.loc (e1.ix _ _ hk) hxs
    obtain ⟨ex, l2⟩ := l1.wr (e1.ix _ _ hk) (z2.snoc rv)
    exact ⟨a0, vs, v, rfl, rfl, z1, by rw [← z2.length]; exact hz, p1 _ _ _ ex l2 σ ((er.ext e1).ext ex)⟩
  | .ext i e, st, j, sc, X, E, hj, hl, g, gs, tk, h => by
    simp only [mS] at h
    split at h <;> try (cases h; done)
    rename_i x p nm apos e' cpos pos
    simp only [Bool.and_eq_true, decide_eq_true_eq] at h
    obtain ⟨⟨⟨⟨⟨rfl, h1⟩, h2⟩, h3⟩, h4⟩, h5⟩ := h
    obtain ⟨n1, n2, n3⟩ := nd_of h3
    have st := star_of (es := []) (env := X.env) (mE_ok M sc e e' h5)
    refine ps_weak (ps_expr (pe_bm F.plainAttrs_list F.slot_list_extend (by first | rfl | decide +kernel) mtExtA (pe_var (i := i) (by rw [g.pN]; exact h1) (by rw [g.sc]; exact vis_of h2) n1 n2) (pa_cons (sE A e e' j sc X (Wk E) hj hl g tk h5) pa_nil st) rfl (by rw [st]; rfl) h4 st rfl) (swW_none rfl)) fun En σ H ⟨ρ, S, F0, ι, er, rl, p⟩ => ?_
    simp only [exS] at p
    split at p <;> try (exact (show False from p).elim)
    rename_i k0 hk0
    obtain ⟨v, hv, a0, rfl, hk⟩ := er.2 i _ hk0
    obtain ⟨vs0, tr⟩ := rl.tracked (List.mem_of_getElem? hk)
    refine ⟨_, hv, ⟨?_, ρ, S, F0, ι, er, rl, p.bind.imp fun d S1 F1 ι1 H1 e1 l1 p1 v rv => ?_⟩⟩
    · exact .inl ⟨rfl, vs0, SqL.of tr⟩
    split at p1 <;> try (exact (show False from p1).elim)
    rename_i ys xs hys hxs
    split at p1 <;> try (exact (show False from p1).elim)
    rename_i hz
    obtain ⟨vs, z1, z2⟩ := l1.loc (e1.ix _ _ hk) hxs
    have dd := l1.der rv
    revert hys dd
    generalize Gx.der S1 d = d'
    intro hys dd
    cases d' <;> simp only [extL] at hys <;> try (cases hys; done)
    · cases hys
      obtain ⟨b0, ws, rfl, q1, q2⟩ := dd
      obtain ⟨ex, l2⟩ := l1.wr (e1.ix _ _ hk) (z2.append q2)
      exact ⟨a0, b0, vs, ws, rfl, rfl, z1, .inr (by rw [g.pK]; exact l1.sqT q1), by rw [← z2.length, ← q2.length]; exact hz, p1 _ _ _ ex l2 σ ((er.ext e1).ext ex)⟩
    · cases hys
      obtain ⟨b0, ws, rfl, q1, q2⟩ := dd
      obtain ⟨ex, l2⟩ := l1.wr (e1.ix _ _ hk) (z2.append q2)
      exact ⟨a0, b0, vs, ws, rfl, rfl, z1, .inl q1, by rw [← z2.length, ← q2.length]; exact hz, p1 _ _ _ ex l2 σ ((er.ext e1).ext ex)⟩
theorem sSs (A : Amb G M P w base k O) (B : AmbX G sub exs) : ∀ (c : CSs) (sts : List Stmt) (j : Nat) (sc : Sc) (X : Cx) (E : XK), k ≤ j → Hl G k j sc X → Good G P w base j M sc.s X → GoodS X → Takes X (Wk E) → mSs M exs sc c sts = true → PSs X sts (tS G E fun ρ S => exSs sub O c ρ S)
  | .nil, sts, j, sc, X, E, hj, hl, g, gs, tk, h => by
    simp only [mSs] at h
    split at h <;> try (cases h; done)
    refine pss_weak pss_nil fun En σ H ⟨ρ, S, F, ι, er, rl, p⟩ => ?_
    simp only [exSs] at p
    exact p F ι H Ext.refl rl σ er
  | .cons c r, sts, j, sc, X, E, hj, hl, g, gs, tk, h => by
    simp only [mSs] at h
    split at h <;> try (cases h; done)
    rename_i st rest
    rw [Bool.and_eq_true] at h
    refine pss_weak (pss_cons (sS A B c st j sc X E hj hl g gs tk h.1) (sSs A B r rest j sc X E hj hl g gs tk h.2)) fun En σ H ⟨ρ, S, F, ι, er, rl, p⟩ => ?_
    simp only [exSs] at p
    refine ⟨ρ, S, F, ι, er, rl, p.bind.imp fun o S1 F1 ι1 H1 e1 l1 p1 => ?_⟩
    cases o with
    | nx ρ1 => exact fun σ' er' => ⟨ρ1, S1, F1, ι1, er', l1, p1.st⟩
    | bk ρ1 => exact p1 F1 ι1 H1 Ext.refl l1
    | ct ρ1 => exact p1 F1 ι1 H1 Ext.refl l1
    | rt d => exact p1 F1 ι1 H1 Ext.refl l1
end
end Gx
set_option Elab.async false
set_option linter.all false
set_option maxRecDepth 100000
set_option maxHeartbeats 8000000
/-! Gx: functions keep their promises, level by level. -/
namespace Gx
open PySem PySem.Spec PyProof.Rows L2
/-! ### what a function leaves behind -/
mutual
theorem Rep.free {G : Gl} {F F' : Hp} {ι ι' : List Addr} (hf : ∀ b o, F b = some o → F' b = some o) : ∀ (d : D) (v : V), noloc d = true → Rep G F ι d v → Rep G F' ι' d v
  | .non, _, _, h => h
  | .bl _, _, _, h => h
  | .int _, _, _, h => h
  | .str _, _, _, h => h
  | .tup xs, v, n, h => by
    obtain ⟨a, vs, e, q, r⟩ := h
    exact ⟨a, vs, e, SqT.fmono hf q, RepL.free hf xs vs n r⟩
  | .lst xs, v, n, h => by
    obtain ⟨a, vs, e, q, r⟩ := h
    exact ⟨a, vs, e, hf _ _ q, RepL.free hf xs vs n r⟩
  | .scr xs, v, n, h => by
    obtain ⟨a, vs, e, q, r⟩ := h
    exact ⟨a, vs, e, SqL.fmono hf q, RepL.free hf xs vs n r⟩
  | .loc k, v, n, h => by cases n
  | .fn _, _, _, h => h
  | .ty _, _, _, h => h
theorem RepL.free {G : Gl} {F F' : Hp} {ι ι' : List Addr} (hf : ∀ b o, F b = some o → F' b = some o) : ∀ (ds : List D) (vs : List V), nolocL ds = true → RepL G F ι ds vs → RepL G F' ι' ds vs
  | [], _, _, h => h
  | x :: xs, _, n, h => by
    simp only [nolocL, Bool.and_eq_true] at n
    obtain ⟨w, ws, e, q, r⟩ := h
    exact ⟨w, ws, e, Rep.free hf x w n.1 q, RepL.free hf xs ws n.2 r⟩
end
section
variable {G : Gl} {S S1 : Sto} {F F' : Hp} {ι ι' : List Addr} {H H' : Hp}
/-- what was made within is frozen -/
def cutF (F' : Hp) (ι' : List Addr) (n : Nat) (H' : Hp) : Hp := fun a => if a ∈ ι'.drop n then H' a else F' a
theorem mapM_rep {f : D → Option D} {F'' : Hp} (hf : ∀ d d' v, f d = some d' → Rep G F' ι' d v → Rep G F'' ι d' v) : ∀ (xs ys : List D) (vs : List V), xs.mapM f = some ys → RepL G F' ι' xs vs → RepL G F'' ι ys vs
  | [], ys, vs, e, h => by
    simp only [List.mapM_nil] at e
    cases e
    exact h
  | x :: xs, ys, vs, e, h => by
    rw [List.mapM_cons] at e
    obtain ⟨w, ws, rfl, q, r⟩ := h
    cases e1 : f x with
    | none => rw [e1] at e; cases e
    | some d' =>
      rw [e1] at e
      cases e2 : xs.mapM f with
      | none => rw [e2] at e; cases e
      | some ys' =>
        rw [e2] at e
        cases e
        exact ⟨w, ws, rfl, hf _ _ _ e1 q, mapM_rep hf xs ys' ws e2 r⟩
theorem cut (rl : RL G S F ι H) (ex : Ext F ι H F' ι' H') (l1 : RL G S1 F' ι' H') (hn : S.length ≤ S1.length) (hs : shut (S1.take S.length) = true) :
    ∃ F'', Ext F ι H F'' ι H' ∧ RL G (S1.take S.length) F'' ι H' ∧ ∀ m d d' v, frz S.length S1 m d = some d' → Rep G F' ι' d v → Rep G F'' ι d' v := by
  obtain ⟨more, e1, e2⟩ := ex.i
  have hlen : ι.length = S.length := rl.len
  have hdrop : ι'.drop S.length = more := by rw [e1, ← hlen, List.drop_left]
  have old : ∀ b o, F' b = some o → cutF F' ι' S.length H' b = some o := fun b o h => by
    unfold cutF
    split
    · rename_i hm
      rw [l1.out b (List.mem_of_mem_drop hm)] at h
      cases h
    · exact h
  have nd := l1.nd
  rw [e1] at nd
  have apart : ∀ a ∈ ι, a ∉ more := fun a h1 h2 => (List.nodup_append.mp nd).2.2 a h1 a h2 rfl
  refine ⟨cutF F' ι' S.length H', ⟨fun a o h => old _ _ (ex.f a o h), ⟨[], by simp, by simp⟩, ex.h, fun a o h => ?_⟩, ⟨fun a o h => ?_, fun a ps h => ?_, ?_, rl.nd, fun a ha => ?_, fun k a o h1 h2 => ?_, l1.tabs⟩, ?_⟩
  · unfold cutF at h
    split at h
    · rename_i hm
      rw [hdrop] at hm
      exact .inr (e2 a hm)
    · exact ex.g a o h
  · unfold cutF at h
    split at h
    · exact h
    · exact l1.sub _ _ h
  · unfold cutF at h
    split at h
    · rename_i hm
      obtain ⟨vs, z⟩ := l1.tracked (List.mem_of_mem_drop hm)
      rw [z] at h; cases h
    · exact l1.ft _ _ h
  · rw [List.length_take]; omega
  · unfold cutF
    rw [hdrop, if_neg (apart a ha)]
    exact l1.out a (by rw [e1]; exact List.mem_append_left _ ha)
  · have hk := (List.getElem?_eq_some_iff.mp h1).1
    have h3 : S1[k]? = some o := by
      rw [List.getElem?_take] at h2
      split at h2
      · exact h2
      · cases h2
    have := l1.obj k a o (ex.ix _ _ h1) h3
    cases o with
    | lst xs =>
      obtain ⟨vs, q1, q2⟩ := this
      refine ⟨vs, q1, RepL.free old xs vs ?_ q2⟩
      have := List.all_eq_true.mp hs _ (List.mem_of_getElem? h2)
      exact this
  · intro m
    induction m with
    | zero => intro d d' v e _; cases e
    | succ m ih =>
      intro d d' v e h
      cases d with
      | loc k =>
        simp only [frz] at e
        split at e
        · rename_i hk
          cases e
          obtain ⟨a, ev, q⟩ := h
          refine ⟨a, ev, ?_⟩
          rw [e1, List.getElem?_append_left (by rw [hlen]; exact hk)] at q
          exact q
        · rename_i hk
          split at e <;> try (cases e; done)
          rename_i xs hxs
          rw [Option.map_eq_some_iff] at e
          obtain ⟨ys, e3, rfl⟩ := e
          obtain ⟨a, ev, q⟩ := h
          obtain ⟨vs, q1, q2⟩ := l1.loc q hxs
          refine ⟨a, vs, ev, ?_, mapM_rep (fun d d' v => ih d d' v) xs ys vs e3 q2⟩
          unfold cutF
          rw [if_pos]
          · exact q1
          · rw [List.mem_iff_getElem?]
            exact ⟨k - S.length, by rw [List.getElem?_drop]; rw [Nat.add_sub_cancel' (Nat.le_of_not_lt hk)]; exact q⟩
      | tup xs =>
        simp only [frz, Option.map_eq_some_iff] at e
        obtain ⟨ys, e3, rfl⟩ := e
        obtain ⟨a, vs, ev, q, r⟩ := h
        exact ⟨a, vs, ev, SqT.fmono old q, mapM_rep (fun d d' v => ih d d' v) xs ys vs e3 r⟩
      | lst xs =>
        simp only [frz, Option.map_eq_some_iff] at e
        obtain ⟨ys, e3, rfl⟩ := e
        obtain ⟨a, vs, ev, q, r⟩ := h
        exact ⟨a, vs, ev, old _ _ q, mapM_rep (fun d d' v => ih d d' v) xs ys vs e3 r⟩
      | scr xs => cases e
      | non => cases e; exact h
      | bl _ => cases e; exact h
      | int _ => cases e; exact h
      | str _ => cases e; exact h
      | fn _ => cases e; exact h
      | ty _ => cases e; exact h
/-- a function's end -/
theorem ends_of {E : XK} {r : R Out} {Q : VK} (rl : RL G S F ι H) {kp : Bool} (p : Pst G (fun cls dd _ H' => E cls dd H') [] F ι H (ends kp S.length r) fun d _ F' ι' H' => ∀ v, Rep G F' ι' d v → Q v H') {σ : L2.St} :
    Pst G (Wk E) σ F ι H r (OutQ G { nx := fun _ H' => Q .non H', rt := Q }) := by
  have lv : ∀ (d : D) (S1 : Sto), Pst G (fun cls dd _ H' => E cls dd H') [] F ι H (leave kp S.length d S1) (fun d _ F' ι' H' => ∀ v, Rep G F' ι' d v → Q v H') → ∀ F' ι' H', Ext F ι H F' ι' H' → RL G S1 F' ι' H' → ∀ v, Rep G F' ι' d v → Q v H' := by
    intro d S1 q F' ι' H' ex l1 v rv
    unfold leave at q
    split at q
    · exact q F' ι' H' ex l1 v rv
    · rename_i hle
      rw [not_or] at hle
      split at q <;> try (exact (show False from q).elim)
      rename_i hs
      obtain ⟨F'', a, b, c⟩ := cut rl ex l1 (by omega) hs
      cases e : frz S.length S1 8 d with
      | none => rw [e] at q; exact (show False from q).elim
      | some d' =>
        rw [e] at q
        exact q F'' ι H' a b v (c 8 d d' v e rv)
  cases r with
  | ok o S1 =>
    cases o with
    | rt d => exact lv d S1 p
    | nx ρ => exact fun F' ι' H' ex l1 σ' _ => lv .non S1 p F' ι' H' ex l1 _ rfl
    | bk ρ => exact (show False from p).elim
    | ct ρ => exact (show False from p).elim
  | stuck => exact (show False from p).elim
  | exc c pl S1 =>
    intro cls dd F' ι' H' ex l1 er
    simp only [ends] at p
    split at p <;> try (exact (show False from p).elim)
    split at p
    · exact p cls dd F' ι' H' ex l1 er
    · split at p <;> try (exact (show False from p).elim)
      rename_i hle hs
      obtain ⟨F'', a, b, c⟩ := cut rl ex l1 (by omega) hs
      exact p cls dd F'' ι H' a b er
end
/-! ### arguments -/
theorem zip_lookup_some : ∀ {ps : List Str} {us : List Value} {n : Str}, us.length = ps.length → n ∈ ps → ((ps.zip us).lookup n).isNone = false
  | p :: ps, u :: us, n, hl, h => by
    rw [List.zip_cons_cons, List.lookup_cons]
    cases q : n == p with
    | true => rfl
    | false =>
      refine zip_lookup_some (by simpa using hl) ?_
      rcases List.mem_cons.mp h with z | z
      · rw [z] at q; simp at q
      · exact z
  | [], _, _, _, h => by cases h
  | _ :: _, [], _, hl, _ => by cases hl
theorem zip_filterMap : ∀ {ps : List Str} {us : List Value} {m : List (Str × Value)}, us.length = ps.length → ps.Nodup → (∀ n ∈ ps, m.lookup n = (ps.zip us).lookup n) → (ps.filterMap fun n => (m.lookup n).map fun x => (n, x)) = ps.zip us
  | [], _, _, _, _, _ => rfl
  | _ :: _, [], _, hl, _, _ => by cases hl
  | p :: ps, u :: us, m, hl, nd, h => by
    have hp := h p List.mem_cons_self
    rw [List.zip_cons_cons, List.lookup_cons, beq_self_eq_true] at hp
    rw [List.filterMap_cons, hp]
    show (p, u) :: _ = _
    rw [List.zip_cons_cons, zip_filterMap (m := m) (by simpa using hl) (List.nodup_cons.mp nd).2 fun n hn => ?_]
    rw [h n (List.mem_cons_of_mem _ hn), List.zip_cons_cons, List.lookup_cons]
    have : (n == p) = false := by
      rw [beq_eq_false_iff_ne]
      intro e
      exact (List.nodup_cons.mp nd).1 (e ▸ hn)
    rw [this]
theorem bind_plain {fd : FuncData} {ps : List Str} {us : List Value} (h1 : fd.params.posonlyargs = []) (h2 : fd.params.args.map (·.arg) = ps) (h3 : fd.params.vararg = none) (h4 : fd.params.kwonlyargs = []) (h5 : fd.params.kwarg = none) (hd : fd.defaults = .none) (hl : us.length = ps.length) (nd : ps.Nodup) :
    bindArgs fd ⟨us, []⟩ = pure (ps.zip us) := by
  unfold bindArgs
  simp only [h1, h2, h3, h4, h5, hd, List.map_nil, List.nil_append, List.append_nil]
  have e1 : seqItems? .none = pure none := by rfl
  rw [e1]
  rw [List.forIn_nil]
  rw [pure_bind, pure_bind]
  dsimp only
  have f0 : (Option.getD (none : Option (Array Value)) #[]).toList = [] := rfl
  rw [f0]
  rw [if_neg (by simp [hl])]
  simp only [List.length_nil, Nat.zero_sub, List.drop_nil, Nat.sub_zero, List.take_length, List.drop_length, List.zip_nil_left, List.zip_nil_right]
  have fl : (ps.filter fun n => ((ps.zip us).lookup n).isNone) = [] := List.filter_eq_nil_iff.mpr fun n hn => by rw [zip_lookup_some hl hn]; exact Bool.false_ne_true
  rw [fl]
  rw [if_neg (by decide), List.forIn_nil, pure_bind]
  rw [List.forIn_nil, pure_bind]
  rw [if_neg (show ¬ ((!([] : List Str).isEmpty) = true) from Bool.false_ne_true)]
  show pure (ps.filterMap fun n => ((ps.zip us).lookup n).map fun x => (n, x)) = _
  rw [zip_filterMap hl nd fun n _ => rfl]
/-! ### the text's functions -/
def lvK : Nat → Nat
  | 0 => 0
  | n + 1 => lvK n + 3
section
variable {G : Gl} {M : Mx} {P : Program} {w : World} {base : Heap} {mk : List Str → Mx} {exs : List Str} {prg : Prg} {k : Nat} {O : Orc}
theorem er_start {F : Hp} {ι : List Addr} : ∀ {ds : List D} {vs : List V} {n : Nat}, RepL G F ι ds vs → ER G F ι (ds.map some ++ List.replicate n none) (vs.map some ++ List.replicate n none) := by
  intro ds vs n h
  refine ⟨by simp [h.length], fun i d hi => ?_⟩
  by_cases q : i < ds.length
  · rw [List.getElem?_append_left (by simpa using q), List.getElem?_map] at hi
    rw [Option.map_eq_some_iff] at hi
    obtain ⟨d', e1, e2⟩ := hi
    cases e2
    obtain ⟨v, e3, r⟩ := h.get e1
    exact ⟨v, by rw [List.getElem?_append_left (by simpa [← h.length] using q), List.getElem?_map, e3]; rfl, r⟩
  · rw [List.getElem?_append_right (by simpa using Nat.le_of_not_lt q)] at hi
    have := List.mem_of_getElem? hi
    rw [List.mem_replicate] at this
    cases this.2
/-- what is known of a def of the text -/
structure DefAt (G : Gl) (base : Heap) (mk : List Str → Mx) (exs : List Str) (rp : Bool) (x : Str) (d : Fn) (a : Addr) (fd : FuncData) (N ps : List Str) (params : Arguments) (body : List Stmt) (scope : Scope) (lam : Bool) : Prop where
  m : G.mg x = some (.ref a)
  FD : FunD G.K x x params body scope [] [] a fd
  SC : FnScope N ps scope
  bd : BindU fd ps
  np : ps.length = d.np
  ns : N.length = d.ns
  ms : mSs (mk N) exs ⟨scope, lam, rp⟩ d.body body = true
  tab : lam = true → ∃ c P, fd.code = .ref c ∧ LamX.TabB base G.mg c P ∧ (P, (x ++ ".<locals>.") ++ "<lambda>") ∈ G.T ∧ ∀ p ∈ G.T, p.1 = P → p.2 = (x ++ ".<locals>.") ++ "<lambda>"
def DefOk (G : Gl) (base : Heap) (mk : List Str → Mx) (exs : List Str) (rp : Bool) (x : Str) (d : Fn) : Prop := ∃ a fd N ps params body scope lam, DefAt G base mk exs rp x d a fd N ps params body scope lam
structure PrgOk (G : Gl) (P : Program) (w : World) (base : Heap) (mk : List Str → Mx) (exs : List Str) (prg : Prg) : Prop where
  N : ∀ n, (mk n).N = n
  fns : ∀ n, (mk n).fns = G.names
  rps : ∀ n, (mk n).rps = G.rps
  glob : ∀ n x d, (mk n).glob.lookup x = some d → ∃ u v, G.mg x = some u ∧ RelV v u ∧ ∀ F ι, Rep G F ι d v
  free : ∀ n x, (mk n).free.contains x = true → G.mg x = none
  len : G.names.length = prg.fns.length
  exc : AmbX G prg.sub exs
  defs : ∀ f x d, G.names[f]? = some x → prg.fns[f]? = some d → DefOk G base mk exs (G.rps.contains f) x d
theorem fnG_of {x : Str} {d : Fn} {rp : Bool} {a : Addr} {fd : FuncData} {N ps : List Str} {params : Arguments} {body : List Stmt} {scope : Scope} {lam : Bool} (D0 : DefAt G base mk exs rp x d a fd N ps params body scope lam) (hN : ∀ n, (mk n).N = n) (A : ∀ n, Amb G (mk n) P w base k O) (B : AmbX G prg.sub exs) {call : List D → Sto → R D}
    (hcall : ∀ as S, call as S = if as.length = d.np then ends d.keep S.length (exSs prg.sub O d.body (as.map some ++ List.replicate (d.ns - d.np) none) S) else .stuck) : FnG P w G.K G.mg base rp (k + 3) a fd ps (spF G ps.length call) := by
  obtain ⟨m, FD, SC, bd, h1, h2, h3, h4⟩ := D0
  refine ⟨fun vs H Q E h => h.1, ?_⟩
  intro A0 outer s H args us vs Q E hr hg e0 bt rel sp
  obtain ⟨oc, od, dV, kV, doc, pm, an, cdv, ct, osl, rfl, lk, hcd, _, _⟩ := FD.ex
  obtain ⟨hl, ds, S, F, ι, rl, rv, p⟩ := sp
  refine LamX.run_ofS (CX := L2.CX P w) (k := k + 2) lk hcd SC hr e0 bt rel hl fun hr' => ?_
  rw [hcall, if_pos (by rw [rv.length, hl, h1])] at p
  refine ⟨_, sSs (A N) B d.body body (k + 2) ⟨scope, lam, rp⟩ (cxOf (L2.CX P w) P w G.K G.mg base N x scope a cdv A0 outer s H E) E (by omega) ⟨fun z => ⟨Nat.le_refl _, ⟨?_⟩⟩, fun z => ?_⟩ ?_ ?_ ?_ h3, ?_⟩
  · obtain ⟨c, P', e1, e2, e3, e4⟩ := h4 z
    exact ⟨c, P', e2, e1, e3, e4⟩
  · have := hg z
    first
      | exact this
      | (show (A0.deeper _).guards = some []; exact this)
  · exact ⟨rfl, rfl, rfl, rfl, rfl, (hN N).symm, SC.nd, rfl, rfl, hr'⟩
  · exact ⟨passes_of rfl, rfl, rfl, SC.kind, fun x hx => .inl rfl⟩
  · exact takes_of rfl rfl rfl rfl
  · have en : N.length - vs.length = d.ns - d.np := by rw [h2, hl, h1]
    refine ⟨ds.map some ++ List.replicate (d.ns - d.np) none, S, F, ι, ?_, rl, ends_of rl p⟩
    show ER G F ι _ (vs.map some ++ List.replicate (N.length - vs.length) none)
    rw [en]
    exact er_start rv
theorem fns_zero (T : PrgOk G P w base mk exs prg) (Wn : Nat) : FnsOk G P w base (lvK 0) (lv prg Wn 0).call := by
  intro f x hx
  have hf : f < prg.fns.length := by rw [← T.len]; exact (List.getElem?_eq_some_iff.mp hx).1
  obtain ⟨a, fd, N, ps, params, body, scope, lam, D0⟩ := T.defs f x _ hx (List.getElem?_eq_getElem hf)
  refine ⟨a, fd, ps, D0.m, D0.FD.kp, D0.bd, fun _ _ _ => rfl, fun vs H Q E h => h.1, ?_⟩
  intro A0 outer s H args us vs Q E hr hg e0 bt rel sp
  obtain ⟨hl, ds, S, F, ι, rl, rv, p⟩ := sp
  exact (show False from p).elim
theorem fns_step (T : PrgOk G P w base mk exs prg) (Wn n : Nat) (A : ∀ N, Amb G (mk N) P w base (lvK n) ⟨(lv prg Wn n).call, (lv prg Wn n).lam, Wn⟩) : FnsOk G P w base (lvK (n + 1)) (lv prg Wn (n + 1)).call := by
  intro f x hx
  have hf : f < prg.fns.length := by rw [← T.len]; exact (List.getElem?_eq_some_iff.mp hx).1
  have e := List.getElem?_eq_getElem hf
  obtain ⟨a, fd, N, ps, params, body, scope, lam, D0⟩ := T.defs f x _ hx e
  have hc : ∀ as S, (lv prg Wn (n + 1)).call f as S = if as.length = prg.fns[f].np then ends prg.fns[f].keep S.length (exSs prg.sub ⟨(lv prg Wn n).call, (lv prg Wn n).lam, Wn⟩ prg.fns[f].body (as.map some ++ List.replicate (prg.fns[f].ns - prg.fns[f].np) none) S) else .stuck := fun as S => by
    show run prg _ f as S = _
    unfold run
    rw [e]
  exact ⟨a, fd, ps, D0.m, D0.FD.kp, D0.bd, fun ds S ne => by rw [hc, if_neg (by rw [← D0.np]; exact ne)], fnG_of D0 T.N A T.exc hc⟩
theorem lam_none (h : M.gs = []) : LamProp G M P w base k O := by
  intro X W sc g x b e _ _ _ hm _
  simp only [mE] at hm
  split at hm <;> try (cases hm; done)
  simp only [Bool.and_eq_true, decide_eq_true_eq, h] at hm
  exact absurd hm.1.1.1.1.1.1.2 (by simp)
end
end Gx
set_option Elab.async false
set_option linter.all false
set_option maxRecDepth 100000
set_option maxHeartbeats 8000000
/-! Gx: a def that calls the lambda it is given, in a try. -/
namespace Gx
open PySem PySem.Spec PyProof.Rows L2
def mG (M : Mx) (exs : List Str) (sg : Scope) (a : Str) (d : GFn) : List Stmt → Bool
  | .Try [.Return (some (.Call (.Name y _) [] [] _)) _] hs [] [] _ :: rest => d.isRet && decide (y = a) && nonNil d.hs && mHds exs ⟨sg, false, false⟩ d.hs hs && rest.isEmpty
  | .Try [.Expr (.Call (.Name y _) [] [] _) _] hs [] [] _ :: rest => !d.isRet && decide (y = a) && nonNil d.hs && mHds exs ⟨sg, false, false⟩ d.hs hs && mSs M exs ⟨sg, false, false⟩ d.rest rest
  | _ => false
structure GAt (G : Gl) (mk : List Str → Mx) (exs : List Str) (x : Str) (d : GFn) (g : Addr) (fd : FuncData) (N : List Str) (a : Str) (params : Arguments) (body : List Stmt) (scope : Scope) : Prop where
  m : G.mg x = some (.ref g)
  FD : FunD G.K x x params body scope [] [] g fd
  SC : FnScope N [a] scope
  bd : BindU fd [a]
  n0 : N[0]? = some a
  va : Vis scope a
  ns : N.length = d.ns
  na : nd a = true
  ms : mG (mk N) exs scope a d body = true
def GsOk (G : Gl) (mk : List Str → Mx) (exs : List Str) (prg : Prg) : Prop := ∀ (N : List Str) (g : Nat) (x : Str), (mk N).gs[g]? = some x → ∃ d ga fd Ng a params body scope, prg.gs[g]? = some d ∧ GAt G mk exs x d ga fd Ng a params body scope
theorem catch_rt {sub : Str → Str → Option Bool} {c : Str} {p : Option D} {S : Sto} : ∀ (hs : List Hd) {o : Out} {S' : Sto}, catch_ sub c p S hs = .ok o S' → ∃ d, o = .rt d
  | [], o, S', h => by cases h
  | h :: r, o, S', e => by
    simp only [catch_] at e
    split at e
    · cases q : evH p h.ret with
      | none => rw [q] at e; cases e
      | some d => rw [q] at e; cases e; exact ⟨d, rfl⟩
    · exact catch_rt r e
    · cases e
section
variable {G : Gl} {M : Mx} {P : Program} {w : World} {base : Heap} {mk : List Str → Mx} {exs : List Str} {prg : Prg} {k : Nat} {O : Orc} {X : Cx}
theorem ext_n {S : Sto} {F : Hp} {ι : List Addr} {H H1 : Hp} (rl : RL G S F ι H) (e : LamX.ExtN H H1) (t : LamX.Tabs G.T H1) : Ext F ι H F ι H1 ∧ RL G S F ι H1 := by
  refine ⟨⟨fun _ _ h => h, ⟨[], by simp, by simp⟩, fun b o h _ ht => e b o h ht, fun _ _ h => .inl h⟩, fun a o h => e _ _ (rl.sub _ _ h) fun ps z => rl.ft a ps (by rw [h, z]), rl.ft, rl.len, rl.nd, rl.out, fun k a o h1 h2 => ?_, t⟩
  have := rl.obj k a o h1 h2
  cases o with
  | lst xs =>
    obtain ⟨vs, q1, q2⟩ := this
    exact ⟨vs, e _ _ q1 (fun _ z => by cases z), q2⟩
/-- what the def makes of the lambda's reading -/
def TTg (G : Gl) (prg : Prg) (O : Orc) (g : Nat) : (XK → Hp → VK → Prop) → Hp → VK → Prop := fun tl H Q => ∃ (t : Sto → R D) (S : Sto) (F : Hp) (ι : List Addr), RL G S F ι H ∧
  (∀ (E : XK) (F1 : Hp) (ι1 : List Addr) (H1 : Hp) (Q1 : VK), Ext F ι H F1 ι1 H1 → RL G S F1 ι1 H1 → Pst G (Wk E) [] F1 ι1 H1 (t S) (fun d _ F' ι' H' => ∀ v, Rep G F' ι' d v → Q1 v H') → tl E H1 Q1) ∧
  Pst G (fun _ _ _ _ => False) [] F ι H (runG prg O g t S) fun d _ F' ι' H' => ∀ v, Rep G F' ι' d v → Q v H'
theorem er_none {F : Hp} {ι : List Addr} {n : Nat} {Ng : List Str} {f : V} (h : Ng.length = n) (h0 : 0 < n) : ER G F ι (List.replicate n none) (L2.start Ng [f]) := by
  refine ⟨?_, fun i d e => ?_⟩
  · unfold L2.start
    rw [List.length_append, List.length_map, List.length_replicate, List.length_replicate, List.length_singleton, h]
    omega
  · have := List.mem_of_getElem? e
    rw [List.mem_replicate] at this
    cases this.2
theorem gives (B : AmbX G prg.sub exs) {x : Str} {d : GFn} {gi : Nat} {ga : Addr} {fd : FuncData} {Ng : List Str} {a : Str} {params : Arguments} {body : List Stmt} {scope : Scope} (D0 : GAt G mk exs x d ga fd Ng a params body scope) (hd : prg.gs[gi]? = some d) (hN : ∀ n, (mk n).N = n) (A : ∀ n, Amb G (mk n) P w base k O) {sc : Scope} (good : Good G P w base (k + 1) M sc X) (hr : Room (k + 2) X.A) {cdg : Value} {q : Str} :
    LamX.GivesTo X Ng x scope ga cdg body a q (TTg G prg O gi) := by
  obtain ⟨m, FD, SC, bd, n0, va, ns, na, ms⟩ := D0
  intro f c' s H Q tl act hc ⟨t, S, F, ι, rl, hl, p⟩
  have g1 : Good G P w base (k + 1) (mk Ng) scope (cxOf C8.CX0 X.prog X.w X.K X.mg X.base Ng x scope ga cdg X.A X.stack s H C8.E0).nox := ⟨good.pP, good.pw, good.pb, good.pK, good.pm, (hN Ng).symm, SC.nd, rfl, rfl, hr.deeper _⟩
  have gs1 : GoodS (cxOf C8.CX0 X.prog X.w X.K X.mg X.base Ng x scope ga cdg X.A X.stack s H C8.E0).nox := ⟨PassesOwn.never, rfl, rfl, SC.kind, fun _ _ => .inl rfl⟩
  have tk1 : Takes (cxOf C8.CX0 X.prog X.w X.K X.mg X.base Ng x scope ga cdg X.A X.stack s H C8.E0).nox (Wk fun _ _ _ => False) := takesF rfl
  have hst : (L2.start Ng [V.ref f])[0]? = some (some (V.ref f)) := rfl
  unfold runG at p
  rw [hd] at p
  have p := ends_of rl (E := fun _ _ _ => False) (σ := L2.start Ng [V.ref f]) (noX_any (W' := fun _ _ _ _ => False) (σ' := []) p)
  have h0 : 0 < d.ns := by
    rw [← ns]
    cases Ng with
    | nil => cases n0
    | cons _ _ => exact Nat.succ_pos _
  unfold mG at ms
  split at ms
  · rename_i y p1 p2 p3 hs p4 rest
    simp only [Bool.and_eq_true, decide_eq_true_eq, List.isEmpty_iff] at ms
    obtain ⟨⟨⟨⟨r1, rfl⟩, r2⟩, r3⟩, rfl⟩ := ms
    cases hs with
    | nil =>
      cases hh : d.hs with
      | nil => rw [hh] at r2; cases r2
      | cons _ _ => rw [hh] at r3; cases r3
    | cons e0 er =>
      refine ⟨_, pss_one (ps_try_many (l := lOf G d.hs) (Wout := Wk fun _ _ _ => False) (tb := fun W D σ H => ∃ Ech : XK, (∀ cls dd σ' H', Ech cls dd H' → W cls dd σ' H') ∧ σ[0]? = some (some (.ref f)) ∧ H c' = some (LamX.CodeO c' q) ∧ tl Ech H D.rt) rfl rfl tk1
        (fun W pn xe tk _ => ⟨fun pins s' σ H' D I ⟨Ech, hW, h1, h2, h3⟩ => (pss_one (ps_ret (pos := p3) (act W pn xe Ech p1 p2 tk hW))).run pins s' σ H' D I ⟨h1, h2, h3⟩⟩) (hds_ok B (j := k + 1) (sc := ⟨scope, false, false⟩) g1 d.hs (e0 :: er) r3)), ?_⟩
      refine ⟨fun cls dd H' => ∀ σ', wMany X.K (Wk fun _ _ _ => False) { nx := fun _ H' => Q .non H', rt := Q } (lOf G d.hs) cls dd σ' H', fun cls dd σ' H' z => z σ', hst, hc, hl _ F ι H Q Ext.refl rl ?_⟩
      cases e : t S with
      | stuck => rw [e] at p; exact (show False from p).elim
      | ok v S1 =>
        rw [e, r1] at p
        exact p
      | exc c pl S1 =>
        rw [e] at p
        intro cls dd F1 ι1 H1 ex l1 exr σ'
        rw [good.pK]
        exact many_of B ex l1 exr d.hs (e0 :: er) r3 p.st
  · rename_i y p1 p2 p3 hs p4 rest
    simp only [Bool.and_eq_true, decide_eq_true_eq, Bool.not_eq_true'] at ms
    obtain ⟨⟨⟨⟨r1, rfl⟩, r2⟩, r3⟩, r4⟩ := ms
    cases hs with
    | nil =>
      cases hh : d.hs with
      | nil => rw [hh] at r2; cases r2
      | cons _ _ => rw [hh] at r3; cases r3
    | cons e0 er =>
      have rs := sSs (A Ng) B d.rest rest (k + 1) ⟨scope, false, false⟩ (cxOf C8.CX0 X.prog X.w X.K X.mg X.base Ng x scope ga cdg X.A X.stack s H C8.E0).nox (fun _ _ _ => False) (by omega) ⟨fun z => (by cases z), fun z => (by cases z)⟩ g1 gs1 tk1 r4
      refine ⟨_, pss_cons (ps_try_many (l := lOf G d.hs) (Wout := Wk fun _ _ _ => False) (tb := fun W D σ H => ∃ Ech : XK, (∀ cls dd σ' H', Ech cls dd H' → W cls dd σ' H') ∧ σ[0]? = some (some (.ref f)) ∧ H c' = some (LamX.CodeO c' q) ∧ tl Ech H fun _ H1 => D.nx σ H1) rfl rfl tk1
        (fun W pn xe tk _ => ⟨fun pins s' σ H' D I ⟨Ech, hW, h1, h2, h3⟩ => (pss_one (ps_expr (pos := p3) (act W pn xe Ech p1 p2 tk hW) rfl)).run pins s' σ H' D I ⟨h1, h2, h3⟩⟩) (hds_ok B (j := k + 1) (sc := ⟨scope, false, false⟩) g1 d.hs (e0 :: er) r3)) rs, ?_⟩
      refine ⟨fun cls dd H' => ∀ σ', wMany X.K (Wk fun _ _ _ => False) _ (lOf G d.hs) cls dd σ' H', fun cls dd σ' H' z => z σ', hst, hc, hl _ F ι H _ Ext.refl rl ?_⟩
      cases e : t S with
      | stuck => rw [e] at p; exact (show False from p).elim
      | ok v S1 =>
        rw [e] at p
        dsimp only at p
        rw [r1, if_neg Bool.false_ne_true] at p
        intro F1 ι1 H1 ex l1 v' rv
        exact ⟨List.replicate d.ns none, S1, F1, ι1, er_none ns h0, l1, p.shift ex l1⟩
      | exc c pl S1 =>
        rw [e] at p
        intro cls dd F1 ι1 H1 ex l1 exr σ'
        rw [good.pK]
        refine many_of B ex l1 exr d.hs (e0 :: er) r3 (σ := σ') ?_
        have p : Pst G (Wk fun _ _ _ => False) (L2.start Ng [V.ref f]) F ι H (catch_ prg.sub c pl S1 d.hs) (OutQ G { nx := fun _ H' => Q .non H', rt := Q }) := p
        cases e2 : catch_ prg.sub c pl S1 d.hs with
        | stuck => rw [e2] at p; exact (show False from p).elim
        | exc _ _ _ => rw [e2] at p; exact p
        | ok o S2 =>
          obtain ⟨dd', rfl⟩ := catch_rt d.hs e2
          rw [e2] at p
          exact p
  · cases ms
theorem noX_any' {W W' : WX} {σ σ' : L2.St} {F : Hp} {ι : List Addr} {H : Hp} {α : Type} {r : R α} {Q : α → Sto → Hp → List Addr → Hp → Prop} (h : Pst G W σ F ι H (noX r) Q) : Pst G W' σ' F ι H (noX r) Q := by
  cases r with
  | ok a S' => exact h
  | exc c p S' => exact h.elim
  | stuck => exact h.elim
theorem tLam_of {T : List (Addr × Str)} {gi : Nat} {b : CE} {O' : Orc} {W : WX} {σ : L2.St} {H : Hp} {Q : VK} {f : (Sto → R D) → Sto → R D} (hf : ∀ t S, f t S = runG prg O' gi t S) (hT : T = G.T) (h : tE G W (fun ρ S => f (fun S1 => evE O b ρ S1) S) σ H Q) :
    LamX.tLam T (TTg G prg O' gi) (fun E => tE G (Wk E) fun ρ S => evE O b ρ S) σ H Q := by
  subst hT
  obtain ⟨ρ, S, F, ι, er, rl, p⟩ := h
  refine ⟨rl.tabs, fun H1 e t => ?_⟩
  obtain ⟨ex, rl1⟩ := ext_n rl e t
  refine ⟨fun S1 => evE O b ρ S1, S, F, ι, rl1, fun E F1 ι1 H2 Q1 ex1 rl2 q => ⟨ρ, S, F1, ι1, er.ext ex1, rl2, q.st⟩, ?_⟩
  dsimp only at p
  rw [hf] at p
  unfold runG at p ⊢
  split at p
  · rename_i d hd
    exact (noX_any' p).shift ex rl1
  · exact (show False from p).elim
theorem lam_prop (B : AmbX G prg.sub exs) (GS : GsOk G mk exs prg) (hN : ∀ n, (mk n).N = n) (hK : G.K = G.K) {O' : Orc} {k' : Nat} (hk : k' ≤ k) (A' : ∀ n, Amb G (mk n) P w base k' O') (hO : ∀ g t S, O.lam g t S = runG prg O' g t S) (Ng0 : List Str) :
    LamProp G (mk Ng0) P w base k O := by
  intro X W sc gi x b e good lo tk hm hb
  simp only [mE] at hm
  split at hm <;> try (cases hm; done)
  rename_i y p1 ps body lsc p2 p3
  simp only [Bool.and_eq_true, decide_eq_true_eq, List.isEmpty_iff] at hm
  obtain ⟨⟨⟨⟨⟨⟨⟨⟨⟨rfl, h1⟩, h2⟩, h3⟩, h4⟩, h5⟩, h6⟩, h7⟩, h8⟩, h9⟩ := hm
  obtain ⟨d, ga, fd, Ng, a, params, gbody, scope, hd, D0⟩ := GS Ng0 gi y h3
  have D1 := D0
  obtain ⟨m, FD, SC, bd, n0, va, ns, na, ms⟩ := D0
  obtain ⟨oc, od, dV, kV, doc, pm, an, cdv, ct, osl, rfl, lk, hcd, _, _⟩ := FD.ex
  obtain ⟨c, Pp, TB, hcode, hmT, hu⟩ := lo.ex
  obtain ⟨n1, n2, n3⟩ := nd_of h2
  obtain ⟨m1, m2, m3⟩ := nd_of na
  simp only [argB, Bool.and_eq_true, decide_eq_true_eq, List.isEmpty_iff, Option.isNone_iff_eq_none] at h6
  obtain ⟨⟨⟨⟨⟨b1, b2⟩, b3⟩, b4⟩, b5⟩, b6⟩ := h6
  have hdef : defaultsOf ps X.env = ([], []) := by
    obtain ⟨q1, q2, q3, q4, q5, q6, q7⟩ := ps
    cases (show q7 = [] from h7)
    cases (show q5 = [] from h8)
    rfl
  have hbn : L2.Binds X.K (PySem.W.fnOf y y params gbody scope dV kV doc pm an cdv ct) [a] [] := fun s us _ hl => by
    have := bd s us (by simpa using hl)
    simpa using this
  have gv := gives (gi := gi) B D1 hd hN A' (good.mono (by omega)) (good.room.mono (by omega)) (cdg := cdv) (q := X.env.qual ++ "<lambda>")
  refine pe_weak (LamX.pe_lamcall (T := G.T) (TT := TTg G prg O' gi) (t := fun E => tE G (Wk E) fun ρ S => evE O b ρ S) (k := k) (g := ga) (a := a) (Ng := Ng) (good.gl h1) (by rw [good.pm]; exact m) (by rw [good.pK]; exact FD.kp) (by rw [good.pK]; exact lk) (by rw [good.pK]; exact hcd) hbn SC n0 va gv TB hcode hmT hu good.room (LamX.lamS_by (by rw [good.sc]; exact h5)) hdef
    (fun q cl pm cv ctv => by
      have := bind_plain (fd := PySem.W.kla_fn "<lambda>" q ps body lsc cl pm cv ctv) (ps := []) (us := []) b1 b2 b3 b4 b5 rfl rfl List.nodup_nil
      exact this)
    (fun A outer s H E f c' hr => hb (LamX.lamCx X A outer s H E lsc f c') (Wk E) lsc body ⟨good.pP, good.pw, good.pb, good.pK, good.pm, good.pN, good.nd, rfl, rfl, hr⟩ (takes_of rfl rfl rfl rfl) h9) n1 m1 m2) fun σ H Q q => ?_
  simp only [evE] at q
  exact tLam_of (f := fun t S => O.lam gi t S) (fun t S => hO gi t S) rfl q
/-- the levels -/
theorem levels (T : PrgOk G P w base mk exs prg) (GS : GsOk G mk exs prg) (Wn : Nat) : ∀ n N, Amb G (mk N) P w base (lvK n) ⟨(lv prg Wn n).call, (lv prg Wn n).lam, Wn⟩
  | 0, N => ⟨T.fns N, T.rps N, T.glob N, T.free N, fns_zero T Wn, fun X W sc g x b e _ _ _ _ _ => ⟨fun pins s σ H Q I h => by
      obtain ⟨ρ, S, F, ι, er, rl, p⟩ := h
      simp only [evE] at p
      exact (show False from p).elim⟩⟩
  | n + 1, N => ⟨T.fns N, T.rps N, T.glob N, T.free N, fns_step T Wn n (levels T GS Wn n), lam_prop T.exc GS T.N rfl (k' := lvK n) (by show lvK n ≤ lvK n + 3; omega) (levels T GS Wn n) (fun g t S => rfl) N⟩
end
end Gx
set_option Elab.async false
set_option linter.all false
set_option maxRecDepth 100000
set_option maxHeartbeats 8000000
/-! Gx: from a row's head to its text's functions. -/
namespace Gx
open PySem PySem.Spec PyProof.Rows L2
/-! ### the tables of a text -/
structure Df where
  x : Str
  st : Stmt
  N : List Str
  ps : List Str
  lam : Bool
  d : Fn
structure Gf where
  x : Str
  st : Stmt
  N : List Str
  a : Str
  d : GFn
structure Tb where
  defs : List Df
  gds : List Gf
  glob : List (Str × D)
  free : List Str
  rps : List Nat
  exs : List Str
  subs : List (Str × Str × Bool)
def Tb.names (T : Tb) : List Str := T.defs.map (·.x)
def fnGl : Nat → List Str → List (Str × D)
  | _, [] => []
  | i, x :: r => (x, .fn i) :: fnGl (i + 1) r
def Tb.mx (T : Tb) (N : List Str) : Mx := ⟨N, T.names, T.gds.map (·.x), T.glob ++ fnGl 0 T.names, T.free, T.rps⟩
def Tb.sub (T : Tb) : Str → Str → Option Bool := fun c k => (T.subs.find? fun t => decide (t.1 = c) && decide (t.2.1 = k)).map (·.2.2)
def Tb.prg (T : Tb) : Prg := ⟨T.defs.map (·.d), T.gds.map (·.d), T.sub⟩
def Df.toD (f : Df) : He.DefD := ⟨(f.x, none), f.x, f.x, defArgs f.st, defBody f.st, defScope f.st, [], []⟩
def Gf.toD (f : Gf) : He.DefD := ⟨(f.x, none), f.x, f.x, defArgs f.st, defBody f.st, defScope f.st, [], []⟩
def Tb.fa (T : Tb) : List He.Fa := (T.names ++ T.gds.map (·.x)).map .glo ++ T.exs.map .glo ++ T.exs.map .exc ++ T.free.map .free ++ T.subs.map fun t => .exm t.1 t.2.1 t.2.2
def Tb.fn (T : Tb) : List He.DefD := T.defs.map Df.toD ++ T.gds.map Gf.toD
def Tb.lams (T : Tb) : List He.Defn := (T.defs.filter (·.lam)).map fun f => (f.x, none)
def Tb.TT (T : Tb) (K : PySem.W.Frag) : List (Addr × Str) := T.lams.map fun p => ((He.cT K p).2, (p.1 ++ ".<locals>.") ++ "<lambda>")
mutual
def dB (K : PySem.W.Frag) : D → Value → Bool
  | .non, .none => true
  | .bl a, .bool b => a == b
  | .int i, .int j _ => decide (i = j)
  | .str x, .str y _ => decide (x = y)
  | .tup xs, .ref a => match K.lookup a with
    | some ⟨.type c, _, .seq its _, _⟩ => decide (c = "tuple") && decide (its.size ≤ sizeLine) && dBL K xs its.toList
    | _ => false
  | _, _ => false
def dBL (K : PySem.W.Frag) : List D → List Value → Bool
  | [], [] => true
  | x :: xs, u :: us => dB K x u && dBL K xs us
  | _, _ => false
end
mutual
theorem dB_ok {G : Gl} : ∀ (d : D) (u : Value), dB G.K d u = true → ∃ v, RelV v u ∧ ∀ F ι, Rep G F ι d v
  | .non, u, h => by
    cases u <;> simp only [dB] at h <;> first | cases h | skip
    exact ⟨.non, rfl, fun _ _ => rfl⟩
  | .bl a, u, h => by
    cases u <;> simp only [dB] at h <;> first | (cases h; done) | skip
    cases eq_of_beq h
    exact ⟨.bl a, rfl, fun _ _ => rfl⟩
  | .int i, u, h => by
    cases u <;> simp only [dB] at h <;> first | (cases h; done) | skip
    cases of_decide_eq_true h
    exact ⟨.int i, ⟨_, rfl⟩, fun _ _ => rfl⟩
  | .str i, u, h => by
    cases u <;> simp only [dB] at h <;> first | (cases h; done) | skip
    cases of_decide_eq_true h
    exact ⟨.str i, ⟨_, rfl⟩, fun _ _ => rfl⟩
  | .tup xs, u, h => by
    cases u <;> simp only [dB] at h <;> first | (cases h; done) | skip
    rename_i a
    split at h <;> try (cases h; done)
    rename_i c od its n sl lk
    simp only [Bool.and_eq_true, decide_eq_true_eq] at h
    obtain ⟨⟨rfl, h1⟩, h2⟩ := h
    obtain ⟨vs, rv, rp⟩ := dBL_ok xs its.toList h2
    exact ⟨.ref a, rfl, fun F ι => ⟨a, vs, rfl, .inr ⟨_, its, n, lk, rfl, rfl, h1, rv⟩, rp F ι⟩⟩
  | .lst _, u, h => by simp only [dB] at h; cases h
  | .scr _, u, h => by simp only [dB] at h; cases h
  | .loc _, u, h => by simp only [dB] at h; cases h
  | .fn _, u, h => by simp only [dB] at h; cases h
  | .ty _, u, h => by simp only [dB] at h; cases h
theorem dBL_ok {G : Gl} : ∀ (ds : List D) (us : List Value), dBL G.K ds us = true → ∃ vs, Vals vs us ∧ ∀ F ι, RepL G F ι ds vs
  | [], us, h => by
    cases us with
    | nil => exact ⟨[], .nil, fun _ _ => rfl⟩
    | cons _ _ => simp only [dBL] at h; cases h
  | x :: xs, us, h => by
    cases us with
    | nil => simp only [dBL] at h; cases h
    | cons u us =>
      simp only [dBL, Bool.and_eq_true] at h
      obtain ⟨v, r, p⟩ := dB_ok x u h.1
      obtain ⟨vs, rs, ps⟩ := dBL_ok xs us h.2
      exact ⟨v :: vs, .cons r rs, fun F ι => ⟨v, vs, rfl, p F ι, ps F ι⟩⟩
end
theorem look_mem {α : Type} {x : Str} {d : α} : ∀ {l : List (Str × α)}, l.lookup x = some d → (x, d) ∈ l
  | [], h => by cases h
  | (y, e) :: r, h => by
    rw [List.lookup_cons] at h
    split at h
    · rename_i q
      cases h
      rw [eq_of_beq q]
      exact List.mem_cons_self
    · exact List.mem_cons_of_mem _ (look_mem h)
theorem fnGl_mem {x : Str} {d : D} : ∀ {l : List Str} {j : Nat}, (x, d) ∈ fnGl j l → ∃ i, l[i]? = some x ∧ d = .fn (j + i)
  | [], _, h => by cases h
  | y :: r, j, h => by
    rcases List.mem_cons.mp h with z | z
    · cases z
      exact ⟨0, rfl, rfl⟩
    · obtain ⟨i, e1, e2⟩ := fnGl_mem z
      exact ⟨i + 1, by simpa using e1, by rw [e2, Nat.add_assoc, Nat.add_comm 1]⟩
def gB (K : PySem.W.Frag) (x : Str) (d : D) : Bool := match PySem.W.nsIn K mainGlobals x with
  | some (some u) => dB K d u
  | _ => false
def Tb.ex (T : Tb) (K : PySem.W.Frag) : Bool := (T.glob.all fun p => gB K p.1 p.2) && T.lams.all fun p => T.lams.all fun p' => !decide ((He.cT K p).2 = (He.cT K p').2) || decide (p.1 = p'.1)
def scB (N ps : List Str) (sc : Scope) : Bool := decide (sc.kind = .function) && !sc.isCoroutine && !sc.isGenerator && decide N.Nodup && decide (N.take ps.length = ps) && ps.all (fun x => decide (sc.names.lookup x = some .local) || decide (sc.names.lookup x = some .cell)) && sc.names.all fun y => decide (y.2 ≠ .free)
theorem scB_ok {N ps : List Str} {sc : Scope} (h : scB N ps sc = true) : FnScope N ps sc := by
  simp only [scB, Bool.and_eq_true, decide_eq_true_eq, Bool.not_eq_true'] at h
  obtain ⟨⟨⟨⟨⟨⟨h1, h2⟩, h3⟩, h4⟩, h5⟩, h6⟩, h7⟩ := h
  refine ⟨h1, h2, h3, h4, h5, fun x hx => ?_, fun y hy => ?_⟩
  · have := List.all_eq_true.mp h6 x hx
    simpa using this
  · have := List.all_eq_true.mp h7 y hy
    simpa using this
def chkD (T : Tb) (i : Nat) (f : Df) : Bool := argB (defArgs f.st) f.ps && scB f.N f.ps (defScope f.st) && decide (f.ps.length = f.d.np) && decide (f.N.length = f.d.ns) && mSs (T.mx f.N) T.exs ⟨defScope f.st, f.lam, T.rps.contains i⟩ f.d.body (defBody f.st)
def chkAll (T : Tb) : Nat → List Df → Bool
  | _, [] => true
  | i, f :: r => chkD T i f && chkAll T (i + 1) r
def chkG (T : Tb) (f : Gf) : Bool := argB (defArgs f.st) [f.a] && scB f.N [f.a] (defScope f.st) && decide (f.N[0]? = some f.a) && vis (defScope f.st) f.a && decide (f.N.length = f.d.ns) && nd f.a && mG (T.mx f.N) T.exs (defScope f.st) f.a f.d (defBody f.st)
def Tb.chk (T : Tb) : Bool := chkAll T 0 T.defs && T.gds.all (chkG T) && T.subs.all fun t => T.exs.contains t.1 && T.exs.contains t.2.1
theorem chkAll_get {T : Tb} : ∀ {l : List Df} {j i : Nat} {f : Df}, chkAll T j l = true → l[i]? = some f → chkD T (j + i) f = true
  | [], _, _, _, _, e => by cases e
  | g :: r, j, 0, f, h, e => by
    simp only [chkAll, Bool.and_eq_true] at h
    cases e
    exact h.1
  | g :: r, j, i + 1, f, h, e => by
    simp only [chkAll, Bool.and_eq_true] at h
    have := chkAll_get (i := i) h.2 (by simpa using e)
    rw [Nat.add_assoc, Nat.add_comm 1] at this
    exact this
theorem argB_ok {a : Arguments} {ps : List Str} (h : argB a ps = true) {x q : Str} {body : List Stmt} {scope : Scope} {dV kV doc pm cdv ct : Value} {an : Option Addr} (hd : dV = .none) : BindU (PySem.W.fnOf x q a body scope dV kV doc pm an cdv ct) ps := by
  simp only [argB, Bool.and_eq_true, decide_eq_true_eq, List.isEmpty_iff, Option.isNone_iff_eq_none] at h
  obtain ⟨⟨⟨⟨⟨h1, h2⟩, h3⟩, h4⟩, h5⟩, h6⟩ := h
  exact fun s us hl => .of_eq (bind_plain h1 h2 h3 h4 h5 hd hl h6)
def glOf (T : Tb) (K : PySem.W.Frag) (mg : Str → Option Value) (TT : List (Addr × Str)) : Gl := ⟨K, mg, T.names, TT, T.rps⟩
section
variable {T : Tb} {P : Program} {w : World} {K : PySem.W.Frag} {mg : Str → Option Value} {base h : Heap} {tf : List He.Defn} {TT : List (Addr × Str)} {k : Nat}
theorem fa_ok {ts : List He.Tab} (c : He.SaysX T.fa T.fn ts tf T.ex w h K) {f : He.Fa} (hf : f ∈ T.fa) : f.ok K = true := He.SaysD.facts c.t.d hf
theorem mem_names {x : Str} (hx : x ∈ T.names) : He.Fa.glo x ∈ T.fa := by
  unfold Tb.fa
  simp only [List.mem_append]
  exact .inl (.inl (.inl (.inl (List.mem_map.mpr ⟨x, List.mem_append.mpr (.inl hx), rfl⟩))))
theorem mem_gnames {x : Str} (hx : x ∈ T.gds.map (·.x)) : He.Fa.glo x ∈ T.fa := by
  unfold Tb.fa
  simp only [List.mem_append]
  exact .inl (.inl (.inl (.inl (List.mem_map.mpr ⟨x, List.mem_append.mpr (.inr hx), rfl⟩))))
theorem mem_exs {x : Str} (hx : x ∈ T.exs) : He.Fa.glo x ∈ T.fa ∧ He.Fa.exc x ∈ T.fa := by
  unfold Tb.fa
  simp only [List.mem_append, List.mem_map]
  exact ⟨.inl (.inl (.inl (.inr ⟨x, hx, rfl⟩))), .inl (.inl (.inr ⟨x, hx, rfl⟩))⟩
theorem mem_free {x : Str} (hx : x ∈ T.free) : He.Fa.free x ∈ T.fa := by
  unfold Tb.fa
  simp only [List.mem_append, List.mem_map]
  exact .inl (.inr ⟨x, hx, rfl⟩)
theorem mem_subs {t : Str × Str × Bool} (ht : t ∈ T.subs) : He.Fa.exm t.1 t.2.1 t.2.2 ∈ T.fa := by
  unfold Tb.fa
  simp only [List.mem_append, List.mem_map]
  exact .inr ⟨t, ht, rfl⟩
theorem at_of {ts : List He.Tab} (hc : T.chk = true) (KX : K.In h) (Gn : h.Ns mainGlobals mg) (c : He.SaysX T.fa T.fn ts tf T.ex w h K)
    (tab : ∀ f ∈ T.defs, f.lam = true → ∀ fd, FunD K f.x f.x (defArgs f.st) (defBody f.st) (defScope f.st) [] [] (He.ga K f.x) fd → ∃ c P, fd.code = .ref c ∧ LamX.TabB base mg c P ∧ (P, (f.x ++ ".<locals>.") ++ "<lambda>") ∈ TT ∧ ∀ p ∈ TT, p.1 = P → p.2 = (f.x ++ ".<locals>.") ++ "<lambda>")
    {i : Nat} {f : Df} (hf : T.defs[i]? = some f) {fd : FuncData} (FD : FunD K f.x f.x (defArgs f.st) (defBody f.st) (defScope f.st) [] [] (He.ga K f.x) fd) :
    DefAt (glOf T K mg TT) base T.mx T.exs (T.rps.contains i) f.x f.d (He.ga K f.x) fd f.N f.ps (defArgs f.st) (defBody f.st) (defScope f.st) f.lam := by
  have h1 : chkAll T 0 T.defs = true := by
    unfold Tb.chk at hc
    exact (Bool.and_eq_true_iff.mp (Bool.and_eq_true_iff.mp hc).1).1
  have h2 := chkAll_get h1 hf
  rw [Nat.zero_add] at h2
  simp only [chkD, Bool.and_eq_true, decide_eq_true_eq] at h2
  obtain ⟨⟨⟨⟨h3, h4⟩, h5⟩, h6⟩, h7⟩ := h2
  have hm : f ∈ T.defs := List.mem_of_getElem? hf
  refine ⟨He.glo_ok KX Gn (fa_ok c (mem_names (List.mem_map.mpr ⟨f, hm, rfl⟩))), FD, scB_ok h4, ?_, h5, h6, h7, fun z => tab f hm z fd FD⟩
  obtain ⟨oc, od, dV, kV, doc, pm, an, cdv, ct, osl, rfl, lk, hcd, hD, hK⟩ := FD.ex
  refine argB_ok h3 ?_
  rcases hD with ⟨_, e⟩ | ⟨e, _⟩
  · exact e
  · exact absurd rfl e
theorem prg_ok {ts : List He.Tab} (hc : T.chk = true) (KX : K.In h) (Gn : h.Ns mainGlobals mg) (c : He.SaysX T.fa T.fn ts tf T.ex w h K)
    (tab : ∀ f ∈ T.defs, f.lam = true → ∀ fd, FunD K f.x f.x (defArgs f.st) (defBody f.st) (defScope f.st) [] [] (He.ga K f.x) fd → ∃ c P, fd.code = .ref c ∧ LamX.TabB base mg c P ∧ (P, (f.x ++ ".<locals>.") ++ "<lambda>") ∈ TT ∧ ∀ p ∈ TT, p.1 = P → p.2 = (f.x ++ ".<locals>.") ++ "<lambda>") :
    PrgOk (glOf T K mg TT) P w base T.mx T.exs T.prg := by
  refine ⟨fun _ => rfl, fun _ => rfl, fun _ => rfl, fun n x d e => ?_, fun n x e => ?_, ?_, ⟨fun x hx => ?_, fun c0 k0 b e C C' m1 m2 => ?_⟩, fun i x d hx hd => ?_⟩
  · have hm : (x, d) ∈ T.glob ++ fnGl 0 T.names := look_mem e
    rcases List.mem_append.mp hm with hm | hm
    case inr =>
      obtain ⟨i, e1, e2⟩ := fnGl_mem hm
      rw [Nat.zero_add] at e2
      subst e2
      have gl := He.glo_ok KX Gn (fa_ok c (mem_names (List.mem_of_getElem? e1)))
      exact ⟨_, .ref (He.ga K x), gl, rfl, fun F ι => ⟨x, _, e1, rfl, gl⟩⟩
    have := List.all_eq_true.mp (Bool.and_eq_true_iff.mp c.more).1 (x, d) hm
    unfold gB at this
    split at this
    · rename_i u hu
      obtain ⟨v, r, p⟩ := dB_ok (G := glOf T K mg TT) d u this
      exact ⟨u, v, PySem.W.mg_of KX Gn hu, r, p⟩
    · cases this
  · exact He.free_ok KX Gn (fa_ok c (mem_free (show x ∈ T.free from by have e : T.free.contains x = true := e; simpa using e)))
  · show T.names.length = (T.defs.map (·.d)).length
    unfold Tb.names
    rw [List.length_map, List.length_map]
  · have hx' : x ∈ T.exs := by simpa using hx
    obtain ⟨a, b⟩ := mem_exs hx'
    obtain ⟨q1, q2, q3, q4⟩ := He.exc_ok (fa_ok c b)
    exact ⟨He.ga K x, He.veBase, _, _, _, PySem.F.excBase_ValueError, q1, He.glo_ok KX Gn (fa_ok c a), q2, q3, q4⟩
  · have e : T.sub c0 k0 = some b := e
    unfold Tb.sub at e
    rw [Option.map_eq_some_iff] at e
    obtain ⟨t, e1, rfl⟩ := e
    have ht := List.mem_of_find?_eq_some e1
    have hp := List.find?_some e1
    simp only [Bool.and_eq_true, decide_eq_true_eq] at hp
    obtain ⟨rfl, rfl⟩ := hp
    have hs : (T.subs.all fun t => T.exs.contains t.1 && T.exs.contains t.2.1) = true := by
      unfold Tb.chk at hc
      exact (Bool.and_eq_true_iff.mp hc).2
    have := List.all_eq_true.mp hs t ht
    rw [Bool.and_eq_true] at this
    have g1 := He.glo_ok KX Gn (fa_ok c (mem_exs (by simpa using this.1)).1)
    have g2 := He.glo_ok KX Gn (fa_ok c (mem_exs (by simpa using this.2)).1)
    have e1 : C = He.ga K t.1 := by
      have := m1.symm.trans g1
      cases this
      rfl
    have e2 : C' = He.ga K t.2.1 := by
      have := m2.symm.trans g2
      cases this
      rfl
    rw [e1, e2]
    exact He.exm_ok (fa_ok c (mem_subs ht))
  · have hx : (T.defs.map (·.x))[i]? = some x := hx
    have hd : (T.defs.map (·.d))[i]? = some d := hd
    rw [List.getElem?_map, Option.map_eq_some_iff] at hx
    obtain ⟨f, hf, rfl⟩ := hx
    rw [List.getElem?_map, hf] at hd
    cases hd
    have hm : f.toD ∈ T.fn := List.mem_append.mpr (.inl (List.mem_map.mpr ⟨f, List.mem_of_getElem? hf, rfl⟩))
    obtain ⟨fd, FD⟩ := He.SaysD.defs c.t.d hm
    exact ⟨He.ga K f.x, fd, f.N, f.ps, defArgs f.st, defBody f.st, defScope f.st, f.lam, at_of hc KX Gn c tab hf FD⟩
/-- the abstract heap without its tables -/
def noTbl (H : Hp) : Hp := fun a => match H a with
  | some (.tbl _) => none
  | o => o
theorem noTbl_some {H : Hp} {a : Addr} {o : HO} (h : noTbl H a = some o) : H a = some o ∧ ∀ ps, o ≠ .tbl ps := by
  unfold noTbl at h
  split at h
  · cases h
  · rename_i hn
    exact ⟨h, fun ps z => hn ps (by rw [h, z])⟩
theorem noTbl_of {H : Hp} {a : Addr} {o : HO} (h : H a = some o) (n : ∀ ps, o ≠ .tbl ps) : noTbl H a = some o := by
  unfold noTbl
  rw [h]
  cases o <;> first | rfl | exact absurd rfl (n _)
theorem repL_ints {G : Gl} {F : Hp} {ι : List Addr} : ∀ (ns : List Int), RepL G F ι (ns.map D.int) (ns.map V.int)
  | [] => rfl
  | n :: r => ⟨.int n, r.map V.int, rfl, rfl, repL_ints r⟩
/-- the law's promise, from what the evaluator says -/
theorem law_sp {G : Gl} {H : Hp} {a : Addr} {ns : List Int} {call : List D → Sto → R D} {S' : Sto} (hT : LamX.Tabs G.T H) (hS : SqL G.K H a (ns.map V.int)) (hrun : call [.scr (ns.map D.int)] [] = .ok (.bl true) S') :
    spF G 1 call [.ref a] H (fun v _ => v = .bl true) fun _ _ _ => False := by
  have sq : SqL G.K (noTbl H) a (ns.map V.int) := by
    rcases hS with (q | ⟨o, q⟩) | q
    · exact .inl (.inl (noTbl_of q fun _ z => by cases z))
    · exact .inl (.inr ⟨o, noTbl_of q fun _ z => by cases z⟩)
    · exact .inr q
  refine ⟨rfl, [.scr (ns.map D.int)], [], noTbl H, [], ⟨fun a o h => (noTbl_some h).1, fun a ps h => (noTbl_some h).2 ps rfl, rfl, List.nodup_nil, fun a h => (by cases h), fun k a o h => (by cases h), hT⟩, ⟨.ref a, [], rfl, ⟨a, _, rfl, sq, repL_ints ns⟩, rfl⟩, ?_⟩
  rw [hrun]
  exact fun F' ι' H' _ _ v rv => rv
theorem tab_of {ts : List He.Tab} (c : He.SaysX T.fa T.fn ts T.lams T.ex w h K) (hB : ∀ p ∈ T.lams.map (He.cT K), LamX.TabB base mg p.1 p.2) : ∀ f ∈ T.defs, f.lam = true → ∀ fd, FunD K f.x f.x (defArgs f.st) (defBody f.st) (defScope f.st) [] [] (He.ga K f.x) fd → ∃ c P, fd.code = .ref c ∧ LamX.TabB base mg c P ∧ (P, (f.x ++ ".<locals>.") ++ "<lambda>") ∈ T.TT K ∧ ∀ p ∈ T.TT K, p.1 = P → p.2 = (f.x ++ ".<locals>.") ++ "<lambda>" := by
  intro f hf hl fd FD
  have hp : (f.x, none) ∈ T.lams := List.mem_map.mpr ⟨f, List.mem_filter.mpr ⟨hf, hl⟩, rfl⟩
  obtain ⟨oc, od, dV, kV, doc, pm, an, cdv, ct, osl, rfl, lk, hcd, _, _⟩ := FD.ex
  obtain ⟨c0, rfl⟩ := He.codeIn_ref hcd
  have ec : He.codeOf K (f.x, none) = c0 := He.codeOf_eq (p := (f.x, none)) lk rfl
  refine ⟨c0, (He.cT K (f.x, none)).2, rfl, ?_, List.mem_map.mpr ⟨_, hp, rfl⟩, fun p hp2 e => ?_⟩
  · have := hB _ (List.mem_map.mpr ⟨_, hp, rfl⟩)
    have e1 : (He.cT K (f.x, none)).1 = c0 := ec
    rw [e1] at this
    exact this
  · obtain ⟨p', hp', rfl⟩ := List.mem_map.mp hp2
    have := List.all_eq_true.mp (List.all_eq_true.mp (Bool.and_eq_true_iff.mp c.more).2 p' hp') (f.x, none) hp
    rw [Bool.or_eq_true] at this
    rcases this with z | z
    · rw [Bool.not_eq_true', decide_eq_false_iff_not] at z
      exact absurd e z
    · show (p'.1 ++ _) ++ _ = _
      rw [of_decide_eq_true z]
theorem gs_ok {ts : List He.Tab} {tf : List He.Defn} (hc : T.chk = true) (KX : K.In h) (Gn : h.Ns mainGlobals mg) (c : He.SaysX T.fa T.fn ts tf T.ex w h K) : GsOk (glOf T K mg TT) T.mx T.exs T.prg := by
  intro N g x hx
  have hx : (T.gds.map (·.x))[g]? = some x := hx
  rw [List.getElem?_map, Option.map_eq_some_iff] at hx
  obtain ⟨f, hf, rfl⟩ := hx
  have hmem := List.mem_of_getElem? hf
  have hm : f.toD ∈ T.fn := List.mem_append.mpr (.inr (List.mem_map.mpr ⟨f, hmem, rfl⟩))
  obtain ⟨fd, FD⟩ := He.SaysD.defs c.t.d hm
  have h2 : chkG T f = true := by
    unfold Tb.chk at hc
    exact List.all_eq_true.mp (Bool.and_eq_true_iff.mp (Bool.and_eq_true_iff.mp hc).1).2 f hmem
  simp only [chkG, Bool.and_eq_true, decide_eq_true_eq] at h2
  obtain ⟨⟨⟨⟨⟨⟨h3, h4⟩, h5⟩, h6⟩, h7⟩, h8⟩, h9⟩ := h2
  have hd : T.prg.gs[g]? = some f.d := by
    show (T.gds.map (·.d))[g]? = some f.d
    rw [List.getElem?_map, hf]
    rfl
  have FD1 : FunD K f.x f.x (defArgs f.st) (defBody f.st) (defScope f.st) [] [] (He.ga K f.x) fd := FD
  refine ⟨f.d, He.ga K f.x, fd, f.N, f.a, defArgs f.st, defBody f.st, defScope f.st, hd, He.glo_ok KX Gn (fa_ok c (mem_gnames (List.mem_map.mpr ⟨f, hmem, rfl⟩))), FD1, scB_ok h4, ?_, h5, vis_of h6, h7, h8, h9⟩
  obtain ⟨oc, od, dV, kV, doc, pm, an, cdv, ct, osl, rfl, lk, hcd, hD, hK⟩ := FD1.ex
  refine argB_ok h3 ?_
  rcases hD with ⟨_, e⟩ | ⟨e, _⟩
  · exact e
  · exact absurd rfl e
theorem law_at {l : PySem.W.OpenLaw} {ts : List He.Tab} {n m i Wn : Nat} {f : Df} {x : Str} {fa : Addr} (hP : P = l.prog) (hc : T.chk = true) (hr : T.rps = []) (KX : K.In h) (Gn : h.Ns mainGlobals mg) (c : He.SaysX T.fa T.fn ts T.lams T.ex w h K)
    (hf : T.defs[i]? = some f) (hx : f.ps = [x]) (hm : mg f.x = some (.ref fa))
    (hrun : ∀ ns : List Int, ns.length ≤ n → ∃ S', (lv T.prg Wn (m + 1)).call i [.scr (ns.map D.int)] [] = .ok (.bl true) S') : LamX.LawAtS l w K (L2.CX l.prog w) (lvK (m + 1)) n x mg fa h := by
  have hmem : f.toD ∈ T.fn := List.mem_append.mpr (.inl (List.mem_map.mpr ⟨f, List.mem_of_getElem? hf, rfl⟩))
  obtain ⟨fd, FD⟩ := He.SaysD.defs c.t.d hmem
  have FD : FunD K f.x f.x (defArgs f.st) (defBody f.st) (defScope f.st) [] [] (He.ga K f.x) fd := FD
  have AT := fun base hB => at_of (TT := T.TT K) hc KX Gn c (tab_of (base := base) c hB) hf FD
  have efa : fa = He.ga K f.x := by
    have := hm.symm.trans (He.glo_ok KX Gn (fa_ok c (mem_names (List.mem_map.mpr ⟨f, List.mem_of_getElem? hf, rfl⟩))))
    cases this
    rfl
  subst efa
  have hd : T.prg.fns[i]? = some f.d := by
    show (T.defs.map (·.d))[i]? = some f.d
    rw [List.getElem?_map, hf]
    rfl
  have hcl : ∀ as S, (lv T.prg Wn (m + 1)).call i as S = if as.length = f.d.np then ends f.d.keep S.length (exSs T.prg.sub ⟨(lv T.prg Wn m).call, (lv T.prg Wn m).lam, Wn⟩ f.d.body (as.map some ++ List.replicate (f.d.ns - f.d.np) none) S) else .stuck := fun as S => by
    show run T.prg _ i as S = _
    unfold run
    rw [hd]
  have one : f.ps.length = 1 := by rw [hx]; rfl
  have bnd : BindU fd f.ps := by
    have h1 : chkAll T 0 T.defs = true := by
      unfold Tb.chk at hc
      exact (Bool.and_eq_true_iff.mp (Bool.and_eq_true_iff.mp hc).1).1
    have h2 := chkAll_get h1 hf
    simp only [chkD, Bool.and_eq_true] at h2
    obtain ⟨oc, od, dV, kV, doc, pm, an, cdv, ct, osl, rfl, lk, hcd, hD, hK⟩ := FD.ex
    refine argB_ok h2.1.1.1.1 ?_
    rcases hD with ⟨_, e⟩ | ⟨e, _⟩
    · exact e
    · exact absurd rfl e
  refine ⟨fd, T.lams.map (He.cT K), spF (glOf T K mg (T.TT K)) f.ps.length ((lv T.prg Wn (m + 1)).call i), fun p hp => ?_, fun p hp => ?_, fun p hp => ?_, fun s u => ?_, fun H a ns hn _ hT hS => ?_, fun base kb gb hB => ?_⟩
  · obtain ⟨p', hp', rfl⟩ := List.mem_map.mp hp
    exact c.empty p' hp'
  · obtain ⟨p', hp', rfl⟩ := List.mem_map.mp hp
    exact c.out p' hp'
  · obtain ⟨p', hp', rfl⟩ := List.mem_map.mp hp
    exact PySem.W.codeHd_of_K KX (c.hd p' hp')
  · have := bnd s [u] (by rw [one]; rfl)
    rw [hx] at this
    exact this
  · obtain ⟨S', e⟩ := hrun ns hn
    rw [one]
    refine law_sp (G := glOf T K mg (T.TT K)) (fun p hp => ?_) hS e
    obtain ⟨p', hp', rfl⟩ := List.mem_map.mp hp
    exact LamX.TabS.nil (hT _ (List.mem_map.mpr ⟨p', hp', rfl⟩))
  · subst hP
    have PO : PrgOk (glOf T K mg (T.TT K)) l.prog w base T.mx T.exs T.prg := prg_ok hc KX Gn c (tab_of c hB)
    have LV := levels PO (gs_ok hc KX Gn c) Wn m
    have FG := fnG_of (AT base hB) PO.N LV PO.exc hcl
    have rp0 : T.rps.contains i = false := by rw [hr]; rfl
    rw [rp0] at FG
    rw [hx] at FG ⊢
    exact ⟨FG.len, fun A outer s H args us vs Q E hr e0 b r sp => FG.run A outer s H args us vs Q E hr (fun z => by cases z) e0 b r sp⟩
end
end Gx
set_option Elab.async false
set_option linter.all false
set_option maxRecDepth 100000
set_option maxHeartbeats 4000000
/-! Gx: reckoning with the evaluator. -/
namespace Gx
open PySem PySem.Spec PyProof.Rows L2
abbrev C (P : Prg) (W n : Nat) : Nat → List D → Sto → R D := (lv P W n).call
abbrev Oc (P : Prg) (W n : Nat) : Orc := ⟨(lv P W n).call, (lv P W n).lam, W⟩
theorem call_eq {P : Prg} {W n f : Nat} {d : Fn} {as : List D} {S : Sto} (h : P.fns[f]? = some d) (ha : as.length = d.np) :
    C P W (n + 1) f as S = ends d.keep S.length (exSs P.sub (Oc P W n) d.body (as.map some ++ List.replicate (d.ns - d.np) none) S) := by
  show run P _ f as S = _
  unfold run
  rw [h]
  exact if_pos ha
section
variable {α β : Type} {S S' : Sto}
@[simp] theorem bind_ok' (a : α) (k : α → Sto → R β) : (R.ok a S).bind k = k a S := rfl
@[simp] theorem bind_exc' (c : Str) (p : Option D) (k : α → Sto → R β) : (R.exc c p S).bind k = .exc c p S := rfl
@[simp] theorem opt_some' (a : α) : opt (some a) S = .ok a S := rfl
theorem forL_inv {f : D → Env → Sto → R Out} (I : Env → Sto → Prop) : ∀ (l : List D), (∀ d ∈ l, ∀ ρ S, I ρ S → ∃ ρ' S', f d ρ S = .ok (.nx ρ') S' ∧ I ρ' S') → ∀ ρ S, I ρ S → ∃ ρ' S', forL f l ρ S = .ok (.nx ρ') S' ∧ I ρ' S'
  | [], _, ρ, S, i => ⟨ρ, S, rfl, i⟩
  | d :: r, h, ρ, S, i => by
    obtain ⟨ρ1, S1, e, i1⟩ := h d List.mem_cons_self ρ S i
    obtain ⟨ρ2, S2, e2, i2⟩ := forL_inv I r (fun d hd => h d (List.mem_cons_of_mem _ hd)) ρ1 S1 i1
    refine ⟨ρ2, S2, ?_, i2⟩
    unfold forL
    rw [e]
    exact e2
/-- it ends well, so -/
def Wp {α : Type} (r : R α) (Q : α → Sto → Prop) : Prop := ∃ a S, r = .ok a S ∧ Q a S
theorem wp_ok {a : α} {Q : α → Sto → Prop} (h : Q a S) : Wp (.ok a S) Q := ⟨a, S, rfl, h⟩
theorem wp_eq {r : R α} {a : α} {Q : α → Sto → Prop} (e : r = .ok a S) (h : Q a S) : Wp r Q := ⟨a, S, e, h⟩
theorem wp_bind {r : R α} {k : α → Sto → R β} {Q : β → Sto → Prop} (h : Wp r fun a S => Wp (k a S) Q) : Wp (r.bind k) Q := by
  obtain ⟨a, S1, e, h⟩ := h
  rw [e]
  exact h
theorem wp_imp {r : R α} {Q Q' : α → Sto → Prop} (h : Wp r Q) (k : ∀ a S, Q a S → Q' a S) : Wp r Q' := by
  obtain ⟨a, S1, e, h⟩ := h
  exact ⟨a, S1, e, k _ _ h⟩
theorem wp_opt {o : Option α} {a : α} {Q : α → Sto → Prop} (e : o = some a) (h : Q a S) : Wp (opt o S) Q := by
  rw [e]
  exact wp_ok h
theorem wp_forL {f : D → Env → Sto → R Out} (I : Env → Sto → Prop) {l : List D} {ρ : Env} (i : I ρ S) (h : ∀ d ∈ l, ∀ ρ S, I ρ S → Wp (f d ρ S) fun o S' => ∃ ρ', o = .nx ρ' ∧ I ρ' S') {Q : Out → Sto → Prop} (q : ∀ ρ' S', I ρ' S' → Q (.nx ρ') S') : Wp (forL f l ρ S) Q := by
  obtain ⟨ρ', S', e, i'⟩ := forL_inv I l (fun d hd ρ S i => by
    obtain ⟨o, S', e, ρ', rfl, i'⟩ := h d hd ρ S i
    exact ⟨ρ', S', e, i'⟩) ρ S i
  exact ⟨_, _, e, q _ _ i'⟩
inductive All2 {α β : Type} (g : α → β → Prop) : List α → List β → Prop
  | nil : All2 g [] []
  | cons {a : α} {b : β} {as : List α} {bs : List β} (h : g a b) (t : All2 g as bs) : All2 g (a :: as) (b :: bs)
theorem All2.len {α β : Type} {g : α → β → Prop} {as : List α} {bs : List β} (h : All2 g as bs) : as.length = bs.length := by
  induction h with
  | nil => rfl
  | cons _ _ ih => simp [ih]
/-- a comprehension whose turns make values -/
theorem wp_comp {f : D → Sto → R (Option D)} (I : Sto → Prop) (g : D → D → Prop) : ∀ (l : List D) (S : Sto), I S → (∀ d ∈ l, ∀ S, I S → Wp (f d S) fun o S' => I S' ∧ ∃ y, o = some y ∧ g d y) → ∀ {Q : List D → Sto → Prop}, (∀ ys S', I S' → All2 g l ys → Q ys S') → Wp (noX (compL f l S)) Q
  | [], S, i, _, Q, q => ⟨[], S, rfl, q [] S i .nil⟩
  | d :: r, S, i, h, Q, q => by
    obtain ⟨o, S1, e, i1, y, rfl, gy⟩ := h d List.mem_cons_self S i
    obtain ⟨ys, S2, e2, i2, fa⟩ := wp_comp I g r S1 i1 (fun d hd => h d (List.mem_cons_of_mem _ hd)) (Q := fun ys S' => I S' ∧ All2 g r ys) (fun ys S' a b => ⟨a, b⟩)
    refine ⟨y :: ys, S2, ?_, q _ _ i2 (.cons gy fa)⟩
    unfold compL
    rw [e]
    show noX ((compL f r S1).bind _) = _
    cases e3 : compL f r S1 with
    | ok a S3 => rw [e3] at e2; cases e2; rfl
    | exc c p S3 => rw [e3] at e2; cases e2
    | stuck => rw [e3] at e2; cases e2
/-- a call of a def: its body -/
theorem wp_call {P : Prg} {W n f : Nat} {d : Fn} {as : List D} {Q : D → Sto → Prop} (h : P.fns[f]? = some d) (ha : as.length = d.np) (k : Wp (exSs P.sub (Oc P W n) d.body (as.map some ++ List.replicate (d.ns - d.np) none) S) fun o S' => Wp (ends d.keep S.length (.ok o S')) Q) :
    Wp (C P W (n + 1) f as S) Q := by
  rw [call_eq h ha]
  obtain ⟨o, S', e, q⟩ := k
  rw [e]
  exact q
end
theorem compL_map {f : D → Sto → R (Option D)} {g : D → D} {S : Sto} : ∀ (l : List D), (∀ d ∈ l, f d S = .ok (some (g d)) S) → compL f l S = .ok (l.map g) S
  | [], _ => rfl
  | d :: r, h => by
    unfold compL
    rw [h d List.mem_cons_self]
    show (compL f r S).bind _ = _
    rw [compL_map r fun d hd => h d (List.mem_cons_of_mem _ hd)]
    rfl
theorem ev_comp {O : Orc} {own : List Nat} {tg : CTg} {it : CI} {t : CTo} {e : CE} {ρ : Env} {S S1 S2 : Sto} {l ys : List D} (h : evI O it ρ S = .ok (.items l) S1) (hl : l.length ≤ sz) (hc : compL (cF O own tg t e ρ) l S1 = .ok ys S2) : evF O (.comp own tg it t e) ρ S = .ok ys S2 := by
  simp only [evF, h, bind_ok', if_pos hl]
  exact congrArg noX hc
/-- ints as a tuple -/
def tIs (l : List Int) : D := .tup (l.map D.int)
theorem tIs_len {l : List Int} : (l.map D.int).length = l.length := List.length_map _
def octs (l : List Int) : Prop := ∀ i ∈ l, 0 ≤ i ∧ i ≤ 255
def cupS (a b : Int) : Sto := [.lst [.int a, .int b]]
def cupOk (S : Sto) : Prop := ∃ a b : Int, S = cupS a b ∧ 0 ≤ a ∧ 0 ≤ b ∧ b < 4294967296
theorem cup_get {a b : Int} : (cupS a b)[0]? = some (.lst [.int a, .int b]) := rfl
theorem int_abs_nonneg (z : Int) : 0 ≤ (if z < 0 then -z else z) := by split <;> omega
theorem atI_mem {α : Type} {xs : List α} {r : Int} (h0 : 0 ≤ r) (h1 : r < xs.length) : ∃ x, L2.atI xs r = some x ∧ x ∈ xs := by
  have h2 : r.toNat < xs.length := by omega
  refine ⟨xs[r.toNat], ?_, List.getElem_mem h2⟩
  unfold L2.atI L2.ixN
  rw [if_pos h0, if_pos h1]
  simp [List.getElem?_eq_getElem h2]
theorem atI_nat {α : Type} {xs : List α} {r : Nat} (h1 : r < xs.length) : L2.atI xs (r : Int) = some xs[r] := by
  unfold L2.atI L2.ixN
  rw [if_pos (by omega), if_pos (by omega)]
  simp [List.getElem?_eq_getElem h1]
theorem rngD_len {m : Int} : (rngD 0 m).length = m.toNat := by
  unfold rngD
  rw [List.length_map, List.length_range, Int.sub_zero]
theorem wp_ends {kp : Bool} {d : D} {S' : Sto} {k : Nat} {Q : D → Sto → Prop} (h : S'.length ≤ k) (q : Q d S') : Wp (ends kp k (.ok (.rt d) S')) Q := by
  show Wp (if kp = true ∨ S'.length ≤ k then R.ok d S' else _) Q
  rw [if_pos (.inr h)]
  exact wp_ok q
theorem octs_of {ys : List D} (h : ∀ y ∈ ys, ∃ i : Int, y = .int i ∧ 0 ≤ i ∧ i ≤ 255) : ∃ l : List Int, ys = l.map D.int ∧ octs l := by
  induction ys with
  | nil => exact ⟨[], rfl, fun _ z => by cases z⟩
  | cons y r ih =>
    obtain ⟨i, rfl, a, b⟩ := h y List.mem_cons_self
    obtain ⟨l, rfl, o⟩ := ih fun y hy => h y (List.mem_cons_of_mem _ hy)
    exact ⟨i :: l, rfl, fun j hj => by
      rcases List.mem_cons.mp hj with z | z
      · rw [z]; exact ⟨a, b⟩
      · exact o j z⟩
theorem All2.right {α β : Type} {g : α → β → Prop} {as : List α} {bs : List β} (h : All2 g as bs) : ∀ b ∈ bs, ∃ a ∈ as, g a b := by
  induction h with
  | nil => intro b hb; cases hb
  | cons q _ ih =>
    intro b hb
    rcases List.mem_cons.mp hb with z | z
    · rw [z]; exact ⟨_, List.mem_cons_self, q⟩
    · obtain ⟨a, ha, ga⟩ := ih b z
      exact ⟨a, List.mem_cons_of_mem _ ha, ga⟩
/-! ### equality of ints and of tuples of ints -/
theorem toPy_ints : ∀ l : List Int, toPyL (l.map D.int) = some (l.map PyData.int)
  | [] => rfl
  | i :: r => by simp only [List.map_cons, toPyL, toPy, toPy_ints r]
theorem lay_ints : ∀ l : List Int, PyData.canLayAll0 (l.map PyData.int) = true
  | [] => rfl
  | i :: r => by simp only [List.map_cons, PyData.canLayAll0, PyData.canLay0, lay_ints r, Bool.and_self]
theorem depth_ints : ∀ l : List Int, PyData.depthAll (l.map PyData.int) = 0
  | [] => rfl
  | i :: r => by simp only [List.map_cons, PyData.depthAll, PyData.depth, depth_ints r, Nat.max_self]
theorem shaped_ints (l : List Int) : SeqAt.shaped (.tuple (l.map PyData.int)) = true := by
  unfold SeqAt.shaped
  simp only [PyData.canLay0, lay_ints, PyData.depth, depth_ints, Bool.true_and]
  rfl
theorem eqv_ints : ∀ a b : List Int, PyData.eqvAll (a.map PyData.int) (b.map PyData.int) = decide (a = b)
  | [], [] => rfl
  | [], _ :: _ => rfl
  | _ :: _, [] => rfl
  | i :: a, j :: b => by
    simp only [List.map_cons, PyData.eqvAll, PyData.eqv, eqv_ints a b]
    by_cases h : i = j <;> by_cases h2 : a = b <;> simp [h, h2]
theorem eqD_int (i j : Int) : eqD (.int i) (.int j) = some (decide (i = j)) := by
  have : PyData.eqv (.int i) (.int j) = decide (i = j) := by
    simp only [PyData.eqv]
    by_cases h : i = j <;> simp [h]
  show (if SeqAt.shaped (.int i) && SeqAt.shaped (.int j) then some (PyData.eqv (.int i) (.int j)) else none) = _
  rw [this]
  rfl
theorem eq_tIs (a b : List Int) : eqD (tIs a) (tIs b) = some (decide (a = b)) := by
  have ea : toPy (tIs a) = some (.tuple (a.map PyData.int)) := by simp only [tIs, toPy, toPy_ints, Option.map_some]
  have eb : toPy (tIs b) = some (.tuple (b.map PyData.int)) := by simp only [tIs, toPy, toPy_ints, Option.map_some]
  show eqP (tIs a) (tIs b) = _
  unfold eqP
  rw [ea, eb]
  simp only [shaped_ints, Bool.and_self, if_true, PyData.eqv, eqv_ints]
theorem ev_nil {O : Orc} {ρ : Gx.Env} {S : Sto} : evF O (.disp .nil) ρ S = .ok [] S := by simp [evF, evEs]
theorem rep_ints (i : Int) (k : Int) : repT [D.int i] k = (List.replicate k.toNat i).map D.int := by
  unfold repT
  induction k.toNat with
  | zero => rfl
  | succ n ih => rw [List.replicate_succ, List.replicate_succ, List.flatten_cons, ih]; rfl
theorem compL_none {f : D → Sto → R (Option D)} {S : Sto} : ∀ (l : List D), (∀ d ∈ l, f d S = .ok none S) → compL f l S = .ok [] S
  | [], _ => rfl
  | d :: r, h => by
    unfold compL
    rw [h d List.mem_cons_self]
    show (compL f r S).bind _ = _
    rw [compL_none r fun d hd => h d (List.mem_cons_of_mem _ hd)]
    rfl
theorem pairs_self {xs : List D} {d : D} (h : d ∈ pairsD xs xs) : ∃ x ∈ xs, d = .tup [x, x] := by
  induction xs with
  | nil => cases h
  | cons x r ih =>
    rcases List.mem_cons.mp (show d ∈ D.tup [x, x] :: pairsD r r from h) with z | z
    · exact ⟨x, List.mem_cons_self, z⟩
    · obtain ⟨y, hy, e⟩ := ih z
      exact ⟨y, List.mem_cons_of_mem _ hy, e⟩
theorem pairs_self_len {xs : List D} : (pairsD xs xs).length = xs.length := by
  unfold pairsD
  simp
theorem whileL_step {t : Gx.Env → Sto → R Bool} {f : Gx.Env → Sto → R Out} {n : Nat} {ρ ρ1 : Gx.Env} {S S1 S2 : Sto} (h : t ρ S = .ok true S1) (h2 : f ρ S1 = .ok (.nx ρ1) S2) : whileL t f (n + 1) ρ S = whileL t f n ρ1 S2 := by
  show (t ρ S).bind _ = _
  rw [h]
  show (f ρ S1).bind _ = _
  rw [h2]
  rfl
theorem whileL_stop {t : Gx.Env → Sto → R Bool} {f : Gx.Env → Sto → R Out} {n : Nat} {ρ : Gx.Env} {S S1 : Sto} (h : t ρ S = .ok false S1) : whileL t f (n + 1) ρ S = .ok (.nx ρ) S1 := by
  show (t ρ S).bind _ = _
  rw [h]
  rfl
/-! ### expressions and statements, one by one -/
theorem cut_ints (l : List Int) (lo hi : Option Int) : Gx.cutD (l.map D.int) lo hi = ((l.drop (HT.sIx l.length 0 lo)).take (HT.sIx l.length l.length hi - HT.sIx l.length 0 lo)).map D.int := by
  unfold Gx.cutD
  rw [List.length_map, List.map_take, List.map_drop]
def cutI (l : List Int) (lo hi : Option Int) : List Int := (l.drop (HT.sIx l.length 0 lo)).take (HT.sIx l.length l.length hi - HT.sIx l.length 0 lo)
theorem cut_tIs (l : List Int) (lo hi : Option Int) : D.tup (Gx.cutD (l.map D.int) lo hi) = tIs (cutI l lo hi) := congrArg D.tup (cut_ints l lo hi)
section
variable {O : Orc} {sub : Str → Str → Option Bool} {ρ ρ1 : Gx.Env} {S S1 S2 : Sto} {a b : CE} {va vb : D} {f i : Nat} {x : Str} {t u : CT}
theorem ev_var {d : D} (h : ρ[i]? = some (some d)) : evE O (.var i) ρ S = .ok d S := by
  simp only [evE, h]
theorem ev_cst {c : Cst} : evE O (.cst c) ρ S = .ok c.d S := by simp only [evE]
theorem s_ret {d : D} {r : CSs} (h : evE O a ρ S = .ok d S1) : exSs sub O (.cons (.ret a) r) ρ S = .ok (.rt d) S1 := by
  simp only [exSs, exS, h, bind_ok']
theorem t_cmp {op : CmpOp} {c : Bool} (ha : evE O a ρ S = .ok va S1) (hb : evE O b ρ S1 = .ok vb S2) (h : cmpD op (der S2 va) (der S2 vb) = some c) : evT O (.cmp op a b) ρ S = .ok c S2 := by
  simp only [evT, ha, hb, bind_ok', h, opt_some']
theorem ev_ife {c d : CE} {k : Bool} (ht : evT O t ρ S = .ok k S1) : evE O (.ife t c d) ρ S = if k = true then evE O c ρ S1 else evE O d ρ S1 := by
  simp only [evE, ht, bind_ok']
theorem ends_rt {kp : Bool} {d : D} : ends kp S.length (.ok (.rt d) S) = .ok d S := by
  show (if kp = true ∨ S.length ≤ S.length then R.ok d S else _) = _
  rw [if_pos (.inr (Nat.le_refl _))]
theorem ev_call1 (ha : evE O a ρ S = .ok va S1) : evE O (.call f x (.cons a .nil)) ρ S = O.call f [va] S1 := by
  simp only [evE, evEs, ha, bind_ok']
theorem ev_call2 (ha : evE O a ρ S = .ok va S1) (hb : evE O b ρ S1 = .ok vb S2) : evE O (.call f x (.cons a (.cons b .nil))) ρ S = O.call f [va, vb] S2 := by
  simp only [evE, evEs, ha, hb, bind_ok']
theorem ev_bop {op : Operator} {d : D} (ha : evE O a ρ S = .ok va S1) (hb : evE O b ρ S1 = .ok vb S2) (h : bopD op va vb = some d) : evE O (.bop op a b) ρ S = .ok d S2 := by
  simp only [evE, ha, hb, bind_ok', h, opt_some']
theorem ev_int {j : Int} (ha : evE O a ρ S = .ok (.int j) S1) : evE O (.bi .int (.cons a .nil)) ρ S = .ok (.int j) S1 := by
  simp [evE, evEs, ha, biD, der]
theorem mod_int {i j : Int} (h : 0 < j) : bopD .Mod (.int i) (.int j) = some (.int (i % j)) := by
  simp only [bopD]
  rw [if_pos h]
theorem ev_tup1 (ha : evE O a ρ S = .ok va S1) : evE O (.tup (.cons a .nil)) ρ S = .ok (.tup [va]) S1 := by
  simp [evE, evEs, ha, sz]
theorem ev_tup2 (ha : evE O a ρ S = .ok va S1) (hb : evE O b ρ S1 = .ok vb S2) : evE O (.tup (.cons a (.cons b .nil))) ρ S = .ok (.tup [va, vb]) S2 := by
  simp [evE, evEs, ha, hb, sz]
theorem ev_ix {d : D} (ha : evE O a ρ S = .ok va S1) (hb : evE O b ρ S1 = .ok vb S2) (h : ixD (der S2 va) vb = some d) : evE O (.ix a b) ρ S = .ok d S2 := by
  simp only [evE, ha, hb, bind_ok', h, opt_some']
theorem evs_cons {r : CEs} {vs : List D} (ha : evE O a ρ S = .ok va S1) (hr : evEs O r ρ S1 = .ok vs S2) : evEs O (.cons a r) ρ S = .ok (va :: vs) S2 := by
  simp only [evEs, ha, hr, bind_ok']
theorem evs_nil : evEs O .nil ρ S = .ok [] S := by simp only [evEs]
theorem ev_disp {es : CEs} {vs : List D} (h : evEs O es ρ S = .ok vs S1) (hl : vs.length ≤ sz) : evE O (.fl (.disp es)) ρ S = .ok (.lst vs) S1 := by
  simp only [evE, evF, h, bind_ok', if_pos hl]
theorem ev_tup {es : CEs} {vs : List D} (h : evEs O es ρ S = .ok vs S1) (hl : vs.length ≤ sz) : evE O (.tup es) ρ S = .ok (.tup vs) S1 := by
  simp only [evE, h, bind_ok', if_pos hl]
theorem ev_ixI {l : List Int} {k : Int} {d : D} (h : ρ[i]? = some (some (tIs l))) (hk : ixD (tIs l) (.int k) = some d) : evE O (.ix (.var i) (.cst (.int k))) ρ S = .ok d S :=
  ev_ix (ev_var h) ev_cst hk
theorem ev_len {xs : List D} (ha : evE O a ρ S = .ok (.tup xs) S1) : evE O (.bi .len (.cons a .nil)) ρ S = .ok (.int xs.length) S1 := by
  simp [evE, evEs, ha, biD, der]
theorem ev_sl {xs : List D} {lo hi : CO} {l h : Option Int} (ha : evE O a ρ S = .ok (.tup xs) S) (hl : evO O lo ρ S = .ok l S) (hh : evO O hi ρ S = .ok h S) : evE O (.sl a lo hi) ρ S = .ok (.tup (Gx.cutD xs l h)) S := by
  simp only [evE, ha, hl, hh, bind_ok']
theorem ev_slI {l : List Int} {j : Nat} {lo hi : CO} {p q : Option Int} (h : ρ[j]? = some (some (tIs l))) (hl : evO O lo ρ S = .ok p S) (hh : evO O hi ρ S = .ok q S) : evE O (.sl (.var j) lo hi) ρ S = .ok (tIs (cutI l p q)) S := by
  rw [← cut_tIs]
  exact ev_sl (ev_var h) hl hh
theorem ev_lenI {l : List Int} {j : Nat} (h : ρ[j]? = some (some (tIs l))) : evE O (.bi .len (.cons (.var j) .nil)) ρ S = .ok (.int l.length) S := by
  have := ev_len (O := O) (S := S) (S1 := S) (xs := l.map D.int) (ev_var (i := j) h)
  rw [List.length_map] at this
  exact this
theorem ev_o {j : Int} (ha : evE O a ρ S = .ok (.int j) S) : evO O (.som a) ρ S = .ok (some j) S := by
  simp only [evO, ha, bind_ok']
theorem wp_ev {α : Type} {r r' : R α} {Q : α → Sto → Prop} (e : r = r') (h : Wp r' Q) : Wp r Q := e ▸ h
theorem ss_nx {s : CS} {r : CSs} (h : exS sub O s ρ S = .ok (.nx ρ1) S1) : exSs sub O (.cons s r) ρ S = exSs sub O r ρ1 S1 := by
  simp only [exSs, h, bind_ok']
theorem s_asg {d : D} (h : evE O a ρ S = .ok d S1) (hi : i < ρ.length) : exS sub O (.asg (.nm i) a) ρ S = .ok (.nx (ρ.set i (some d))) S1 := by
  simp only [exS, h, bind_ok', evTg, if_pos hi]
theorem s_skip {A : CSs} (h : evT O t ρ S = .ok false S1) : exS sub O (.ite t A .nil) ρ S = .ok (.nx ρ) S1 := by
  simp only [exS, h, bind_ok', Bool.false_eq_true, if_false, exSs]
theorem t_or (h : evT O t ρ S = .ok false S1) : evT O (.or t u) ρ S = evT O u ρ S1 := by
  simp only [evT, h, bind_ok', Bool.false_eq_true, if_false]
theorem t_ne {c : Bool} (ha : evE O a ρ S = .ok va S1) (hb : evE O b ρ S1 = .ok vb S2) (h : eqD (der S2 va) (der S2 vb) = some c) : evT O (.cmp .NotEq a b) ρ S = .ok (!c) S2 := by
  simp only [evT, ha, hb, bind_ok', cmpD, h, Option.map_some, opt_some']
/-- a statement that draws -/
theorem wp_asg {r : CSs} {Q : Out → Sto → Prop} (hi : i < ρ.length) (h : Wp (evE O a ρ S) fun d S1 => Wp (exSs sub O r (ρ.set i (some d)) S1) Q) : Wp (exSs sub O (.cons (.asg (.nm i) a) r) ρ S) Q := by
  obtain ⟨d, S1, e, q⟩ := h
  rw [ss_nx (s_asg e hi)]
  exact q
theorem wp_ss {s : CS} {r : CSs} {Q : Out → Sto → Prop} (h : exS sub O s ρ S = .ok (.nx ρ1) S1) (q : Wp (exSs sub O r ρ1 S1) Q) : Wp (exSs sub O (.cons s r) ρ S) Q := by
  rw [ss_nx h]
  exact q
theorem octs_cut {l : List Int} {lo hi : Option Int} (h : octs l) : octs (cutI l lo hi) := fun i hi' => h i (List.mem_of_mem_drop (List.mem_of_mem_take hi'))
theorem len_cut {l : List Int} {lo hi : Option Int} : (cutI l lo hi).length ≤ l.length := by
  unfold cutI
  rw [List.length_take, List.length_drop]
  omega
theorem octs_app {a b : List Int} (h : octs a) (k : octs b) : octs (a ++ b) := fun i hi => (List.mem_append.mp hi).elim (h i) (k i)
theorem add_ints {a b : List Int} (h : a.length + b.length ≤ sz) : bopD .Add (tIs a) (tIs b) = some (tIs (a ++ b)) := by
  simp only [bopD, tIs, List.length_map]
  rw [if_pos h, List.map_append]
theorem mul_int1 {i k : Int} (h0 : 0 ≤ k) (h : k ≤ 16777216) : bopD .Mult (.tup [.int i]) (.int k) = some (tIs (List.replicate k.toNat i)) := by
  simp only [bopD, List.length_cons, List.length_nil, rep_ints]
  rw [if_pos ⟨by simp only [sz]; omega, by omega, by omega⟩]
  rfl
end
theorem evo_non {O : Orc} {ρ : Gx.Env} {S : Sto} : evO O .non ρ S = .ok none S := by simp only [evO]
theorem cut_take (l : List Int) (k : Nat) : cutI l none (some (k : Int)) = l.take k := by
  unfold cutI
  rw [HT.sIx_nat, HT.sIx_none, Nat.sub_zero, List.drop_zero, ← List.take_take, List.take_length]
theorem wp_nil {O : Orc} {sub : Str → Str → Option Bool} {ρ : Gx.Env} {S : Sto} {Q : Out → Sto → Prop} (q : Q (.nx ρ) S) : Wp (exSs sub O .nil ρ S) Q := by
  simp only [exSs]
  exact wp_ok q
theorem cup1 {S : Sto} (h : cupOk S) : S.length = 1 := by obtain ⟨a, b, rfl, _⟩ := h; rfl
theorem wp_for {O : Orc} {sub : Str → Str → Option Bool} {ρ : Gx.Env} {S S1 : Sto} {tg : CTg} {it : CI} {b r : CSs} {l : List D} {Q : Out → Sto → Prop} (h : evI O it ρ S = .ok (.items l) S1) (hb : Wp (forL (fun d ρ1 S2 => (evTg O tg d ρ1 S2).bind fun ρ2 S3 => exSs sub O b ρ2 S3) l ρ S1) fun o S2 => ∃ ρ2, o = .nx ρ2 ∧ Wp (exSs sub O r ρ2 S2) Q) : Wp (exSs sub O (.cons (.forS tg it b) r) ρ S) Q := by
  obtain ⟨o, S2, e, ρ2, rfl, q⟩ := hb
  have : exS sub O (.forS tg it b) ρ S = .ok (.nx ρ2) S2 := by
    simp only [exS, h, bind_ok']
    exact e
  rw [ss_nx this]
  exact q
theorem ei_seq {O : Orc} {a : CE} {ρ : Gx.Env} {S S1 : Sto} {d : D} {l : List D} (h : evE O a ρ S = .ok d S1) (hd : seqD d = some (.items l)) : evI O (.seq a) ρ S = .ok (.items l) S1 := by
  simp only [evI, h, bind_ok', hd, opt_some']
theorem ends_top (b : Bool) (S' : Sto) : ∃ S'', ends false 0 (.ok (.rt (.bl b)) S') = .ok (.bl b) S'' := by
  show ∃ S'', (if false = true ∨ S'.length ≤ 0 then R.ok (D.bl b) S' else if shut (S'.take 0) = true then opt (frz 0 S' 8 (.bl b)) (S'.take 0) else .stuck) = _
  split
  · exact ⟨_, rfl⟩
  · exact ⟨[], rfl⟩
theorem len12 {ρ : Gx.Env} (h : ρ.length = 12) : ∃ x0 x1 x2 x3 x4 x5 x6 x7 x8 x9 x10 x11, ρ = [x0, x1, x2, x3, x4, x5, x6, x7, x8, x9, x10, x11] := by
  match ρ, h with
  | [x0, x1, x2, x3, x4, x5, x6, x7, x8, x9, x10, x11], _ => exact ⟨_, _, _, _, _, _, _, _, _, _, _, _, rfl⟩
theorem turn12 {O : Orc} {sub : Str → Str → Option Bool} {ρ ρ2 ρ' : Gx.Env} {S S0 : Sto} {tg : CTg} {b : CSs} {d : D} (h0 : S = S0) (h2 : exSs sub O b ρ2 S = .ok (.nx ρ') S) (h1 : evTg O tg d ρ S = .ok ρ2 S) (h3 : ρ'.length = 12) :
    Wp ((evTg O tg d ρ S).bind fun ρ2 S3 => exSs sub O b ρ2 S3) fun o S' => ∃ ρ', o = .nx ρ' ∧ ρ'.length = 12 ∧ S' = S0 := by
  rw [h1]
  exact ⟨_, S, h2, ρ', rfl, h3, h0⟩
theorem ev_lop {O : Orc} {o : Operator} {a b : CE} {ρ : Gx.Env} {S S1 S2 : Sto} {va vb : D} {l : List D} (ha : evE O a ρ S = .ok va S1) (hb : evE O b ρ S1 = .ok vb S2) (h : lopD o (der S2 va) (der S2 vb) = some l) : evE O (.fl (.op o a b)) ρ S = .ok (.lst l) S2 := by
  simp only [evE, evF, ha, hb, bind_ok', h, opt_some']
theorem ev_fl {O : Orc} {f : CF} {ρ : Gx.Env} {S S1 : Sto} {l : List D} (h : evF O f ρ S = .ok l S1) : evE O (.fl f) ρ S = .ok (.lst l) S1 := by
  simp only [evE, h, bind_ok']
theorem ev_and_t {O : Orc} {a b : CE} {ρ : Gx.Env} {S S1 : Sto} (ha : evE O a ρ S = .ok (.bl true) S1) : evE O (.andV a b) ρ S = evE O b ρ S1 := by
  simp only [evE, ha, bind_ok', der, truD, opt_some', if_true]
theorem ev_cmp {O : Orc} {op : CmpOp} {a b : CE} {ρ : Gx.Env} {S S1 S2 : Sto} {va vb : D} {c : Bool} (ha : evE O a ρ S = .ok va S1) (hb : evE O b ρ S1 = .ok vb S2) (h : cmpD op (der S2 va) (der S2 vb) = some c) : evE O (.cmp op a b) ρ S = .ok (.bl c) S2 := by
  simp only [evE, ha, hb, bind_ok', h, Option.map_some, opt_some']
/-! ### numbers and octets -/
def octB : Nat → Int → List Int
  | 0, _ => []
  | m + 1, x => octB m (x / 256) ++ [x % 256]
def numB (l : List Int) : Int := l.foldl (fun f o => f * 256 + o) 0
theorem octB_len : ∀ (m : Nat) (x : Int), (octB m x).length = m
  | 0, _ => rfl
  | m + 1, x => by simp only [octB, List.length_append, octB_len m, List.length_cons, List.length_nil]
theorem octB_octs : ∀ (m : Nat) (x : Int), octs (octB m x)
  | 0, _ => fun _ h => by cases h
  | m + 1, x => octs_app (octB_octs m _) fun i hi => by
    simp only [List.mem_cons, List.not_mem_nil, or_false] at hi
    omega
theorem numB_snoc (l : List Int) (a : Int) : numB (l ++ [a]) = numB l * 256 + a := by
  unfold numB
  rw [List.foldl_append]
  rfl
theorem numB_octB : ∀ (m : Nat) (x : Int), 0 ≤ x → x < 256 ^ m → numB (octB m x) = x
  | 0, x, h0, h => by
    have : x = 0 := by simp at h; omega
    rw [this]
    rfl
  | m + 1, x, h0, h => by
    unfold octB
    rw [numB_snoc, numB_octB m (x / 256) (by omega) (by rw [Int.pow_succ] at h; omega)]
    omega
theorem snoc_cases {P : List Int → Prop} (h0 : P []) (h1 : ∀ l a, P l → P (l ++ [a])) (l : List Int) : P l := by
  have : ∀ r : List Int, P r.reverse := fun r => by
    induction r with
    | nil => exact h0
    | cons a r ih => rw [List.reverse_cons]; exact h1 _ a ih
  have := this l.reverse
  rw [List.reverse_reverse] at this
  exact this
theorem numB_bound (l : List Int) : octs l → 0 ≤ numB l ∧ numB l < 256 ^ l.length := by
  induction l using snoc_cases with
  | h0 => exact fun _ => ⟨by decide, by decide⟩
  | h1 l a ih =>
    intro o
    have := ih fun i hi => o i (List.mem_append_left _ hi)
    have oa := o a (List.mem_append_right _ List.mem_cons_self)
    rw [numB_snoc, List.length_append, List.length_singleton, Int.pow_succ]
    omega
theorem octB_numB (l : List Int) : octs l → octB l.length (numB l) = l := by
  induction l using snoc_cases with
  | h0 => exact fun _ => rfl
  | h1 l a ih =>
    intro o
    have ol : octs l := fun i hi => o i (List.mem_append_left _ hi)
    have oa := o a (List.mem_append_right _ List.mem_cons_self)
    rw [numB_snoc, List.length_append, List.length_singleton]
    unfold octB
    have e1 : (numB l * 256 + a) / 256 = numB l := by omega
    have e2 : (numB l * 256 + a) % 256 = a := by omega
    rw [e1, e2, ih ol]
theorem octB_range : ∀ (m : Nat) (x : Int), (List.range m).map (fun (i : Nat) => x / 2 ^ (8 * (m - 1 - i)) % 256) = octB m x
  | 0, _ => rfl
  | m + 1, x => by
    rw [List.range_succ, List.map_append]
    unfold octB
    rw [← octB_range m (x / 256)]
    congr 1
    · refine List.map_congr_left fun i hi => ?_
      have hi' := List.mem_range.mp hi
      have e : 8 * (m + 1 - 1 - i) = 8 + 8 * (m - 1 - i) := by omega
      have d : ∀ p : Int, x / (256 * p) = x / 256 / p := fun p => by rw [Int.ediv_ediv]; simp
      rw [e, Int.pow_add, show (2 : Int) ^ 8 = 256 from rfl, d]
    · simp
theorem small_nat {m : Nat} (h : m ≤ 1000000) : smallI (m : Int) = true := by
  unfold smallI
  rw [decide_eq_true (by omega), decide_eq_true (by omega)]
  rfl
theorem ei_rng1 {O : Orc} {a : CE} {ρ : Gx.Env} {S S1 : Sto} {j : Int} (h : evE O a ρ S = .ok (.int j) S1) (hs : smallI j = true) : evI O (.rng1 a) ρ S = .ok (.items (rngD 0 j)) S1 := by
  simp only [evI, h, bind_ok', if_pos hs]
theorem ev_tupB {O : Orc} {a : CE} {ρ : Gx.Env} {S S1 : Sto} {l : List D} (h : evE O a ρ S = .ok (.lst l) S1) : evE O (.bi .tuple (.cons a .nil)) ρ S = .ok (.tup l) S1 := by
  simp only [evE, evEs, h, bind_ok', List.map_cons, List.map_nil, der, biD, opt_some']
theorem ev_callN {O : Orc} {es : CEs} {ρ : Gx.Env} {S S1 : Sto} {vs : List D} {f : Nat} {x : Str} (h : evEs O es ρ S = .ok vs S1) : evE O (.call f x es) ρ S = O.call f vs S1 := by
  simp only [evE, h, bind_ok']
theorem s_exp {O : Orc} {sub : Str → Str → Option Bool} {a : CE} {ρ : Gx.Env} {S S1 : Sto} {d : D} (h : evE O a ρ S = .ok d S1) : exS sub O (.exp a) ρ S = .ok (.nx ρ) S1 := by
  simp only [exS, h, bind_ok']
theorem s_par2 {O : Orc} {sub : Str → Str → Option Bool} {es : CEs} {ρ : Gx.Env} {S S1 : Sto} {i j : Nat} {d e : D} (h : evEs O es ρ S = .ok [d, e] S1) (hi : i < ρ.length) (hj : j < ρ.length) : exS sub O (.par [i, j] es) ρ S = .ok (.nx ((ρ.set i (some d)).set j (some e))) S1 := by
  have hj' : j < (ρ.set i (some d)).length := by rw [List.length_set]; exact hj
  simp only [exS, h, bind_ok', setAll, if_pos hi, if_pos hj', opt_some']
theorem cut_drop (l : List Int) (k : Nat) (hk : k ≤ l.length) : cutI l (some (k : Int)) none = l.drop k := by
  unfold cutI
  rw [HT.sIx_nat, HT.sIx_none, Nat.min_eq_left hk]
  exact List.take_of_length_le (by rw [List.length_drop]; exact Nat.le_refl _)
theorem t_neI {O : Orc} {a b : CE} {ρ : Gx.Env} {S S1 S2 : Sto} {i : Int} (ha : evE O a ρ S = .ok (.int i) S1) (hb : evE O b ρ S1 = .ok (.int i) S2) : evT O (.cmp .NotEq a b) ρ S = .ok false S2 :=
  t_ne (c := true) ha hb (by show eqD (.int i) (.int i) = _; rw [eqD_int]; simp)
theorem t_neT {O : Orc} {a b : CE} {ρ : Gx.Env} {S S1 S2 : Sto} {l : List Int} (ha : evE O a ρ S = .ok (tIs l) S1) (hb : evE O b ρ S1 = .ok (tIs l) S2) : evT O (.cmp .NotEq a b) ρ S = .ok false S2 :=
  t_ne (c := true) ha hb (by show eqD (tIs l) (tIs l) = _; rw [eq_tIs]; simp)
theorem compL_all2 {f : D → Sto → R (Option D)} {S : Sto} {l ys : List D} (h : All2 (fun d y => f d S = .ok (some y) S) l ys) : compL f l S = .ok ys S := by
  induction h with
  | nil => rfl
  | cons q _ ih =>
    unfold compL
    rw [q]
    show (compL f _ S).bind _ = _
    rw [ih]
    rfl
theorem s_asgc {O : Orc} {sub : Str → Str → Option Bool} {f : CF} {ρ : Gx.Env} {S S1 : Sto} {i : Nat} {l : List D} (h : evF O f ρ S = .ok l S1) (hi : i < ρ.length) : exS sub O (.asgc false i f) ρ S = .ok (.nx (ρ.set i (some (.lst l)))) S1 := by
  simp only [exS, h, bind_ok', if_pos hi, Bool.false_eq_true, if_false]
/-! ### sums -/
theorem nat_xor_low (f o : Nat) (ho : o < 256) : f - f % 256 + ((f % 256) ^^^ o) = f ^^^ o := by
  have h1 : (f ^^^ o) / 2 ^ 8 = f / 2 ^ 8 := by
    rw [Nat.xor_div_two_pow, Nat.div_eq_of_lt (show o < 2 ^ 8 from ho), Nat.xor_zero]
  have h2 : (f ^^^ o) % 2 ^ 8 = (f % 2 ^ 8) ^^^ o := by
    rw [Nat.xor_mod_two_pow, Nat.mod_eq_of_lt (show o < 2 ^ 8 from ho)]
  have h3 := Nat.div_add_mod (f ^^^ o) (2 ^ 8)
  have h4 := Nat.div_add_mod f (2 ^ 8)
  rw [h1, h2] at h3
  have e : (2 : Nat) ^ 8 = 256 := rfl
  rw [e] at h3 h4
  omega
theorem xor_low {f o : Int} (hf : 0 ≤ f) (h0 : 0 ≤ o) (h1 : o ≤ 255) : f - f % 256 + Builtin.bitXor (f % 256) o = Builtin.bitXor f o := by
  rw [Bits.bitXor_pp (by omega) h0, Bits.bitXor_pp hf h0]
  have e : (f % 256).toNat = f.toNat % 256 := by omega
  rw [e]
  have := nat_xor_low f.toNat o.toNat (by omega)
  omega
theorem xor_bound {x y : Int} (n : Nat) (hx : 0 ≤ x) (hy : 0 ≤ y) (h1 : x < 2 ^ n) (h2 : y < 2 ^ n) : 0 ≤ Builtin.bitXor x y ∧ Builtin.bitXor x y < 2 ^ n := by
  rw [Bits.bitXor_pp hx hy]
  refine ⟨Int.natCast_nonneg _, ?_⟩
  have e : ((2 ^ n : Nat) : Int) = (2 : Int) ^ n := by simp
  have a1 : x.toNat < 2 ^ n := by omega
  have a2 : y.toNat < 2 ^ n := by omega
  have := Nat.xor_lt_two_pow a1 a2
  omega
def mixL (f o : Int) : Int := (Builtin.bitXor f o * 6364136223846793005 + 1442695040888963407) % 18446744073709551616
def stepL (f o : Int) : Int := Builtin.bitXor (mixL f o) (mixL f o / 536870912)
def sumL (a : Int) (l : List Int) : Int := l.foldl stepL a
theorem stepL_bound (f o : Int) : 0 ≤ stepL f o ∧ stepL f o < 18446744073709551616 := by
  have h : 0 ≤ mixL f o ∧ mixL f o < 18446744073709551616 := by unfold mixL; omega
  exact xor_bound 64 h.1 (by omega) h.2 (show mixL f o / 536870912 < 18446744073709551616 by omega)
theorem sumL_bound (l : List Int) (a : Int) (h : 0 ≤ a ∧ a < 18446744073709551616) : 0 ≤ sumL a l ∧ sumL a l < 18446744073709551616 := by
  induction l generalizing a with
  | nil => exact h
  | cons o r ih => exact ih _ (stepL_bound a o)
theorem sumL_app (a : Int) (l k : List Int) : sumL a (l ++ k) = sumL (sumL a l) k := List.foldl_append ..
theorem ev_mlop {O : Orc} {o : Operator} {a b : CE} {ρ : Gx.Env} {S S1 S2 : Sto} {va vb : D} {l : List D} (ha : evE O a ρ S = .ok va S1) (hb : evE O b ρ S1 = .ok vb S2) (h : lopD o (der S2 va) (der S2 vb) = some l) : evE O (.ml (.op o a b)) ρ S = .ok (.loc S2.length) (S2 ++ [.lst l]) := by
  simp only [evE, evF, ha, hb, bind_ok', h, opt_some']
theorem s_asgm {O : Orc} {sub : Str → Str → Option Bool} {f : CF} {ρ : Gx.Env} {S S1 : Sto} {i : Nat} {l : List D} (h : evF O f ρ S = .ok l S1) (hi : i < ρ.length) : exS sub O (.asgc true i f) ρ S = .ok (.nx (ρ.set i (some (.loc S1.length)))) (S1 ++ [.lst l]) := by
  simp only [exS, h, bind_ok', if_pos hi, if_true]
theorem s_app {O : Orc} {sub : Str → Str → Option Bool} {e : CE} {ρ : Gx.Env} {S S1 : Sto} {i k : Nat} {d : D} {xs : List D} (h0 : ρ[i]? = some (some (.loc k))) (h : evE O e ρ S = .ok d S1) (h1 : S1[k]? = some (.lst xs)) (h2 : xs.length < sz) : exS sub O (.app i e) ρ S = .ok (.nx ρ) (S1.set k (.lst (xs ++ [d]))) := by
  simp only [exS, h0, h, bind_ok', h1, if_pos h2]
end Gx
set_option Elab.async false
set_option linter.all false
set_option maxRecDepth 100000
set_option maxHeartbeats 4000000
/-! Gx: more reckoning. -/
namespace Gx
open PySem PySem.Spec PyProof.Rows L2
/-- the statements behind the first k -/
def cdrop : Nat → CSs → CSs
  | 0, s => s
  | _ + 1, .nil => .nil
  | k + 1, .cons _ r => cdrop k r
section
variable {O : Orc} {sub : Str → Str → Option Bool} {ρ ρ1 : Gx.Env} {S S1 S2 : Sto} {a b : CE} {va vb : D} {f i : Nat} {x : Str} {t u : CT}
theorem ev_glob {d : D} : evE O (.glob x d) ρ S = .ok d S := by simp only [evE]
theorem ev_slT {l : List Int} {lo hi : CO} {p q : Option Int} (ha : evE O a ρ S = .ok (tIs l) S1) (hl : evO O lo ρ S1 = .ok p S1) (hh : evO O hi ρ S1 = .ok q S1) : evE O (.sl a lo hi) ρ S = .ok (tIs (cutI l p q)) S1 := by
  rw [← cut_tIs]
  simp only [evE, ha, hl, hh, bind_ok', tIs]
theorem ev_lenT {l : List Int} (ha : evE O a ρ S = .ok (tIs l) S1) : evE O (.bi .len (.cons a .nil)) ρ S = .ok (.int l.length) S1 := by
  have := ev_len (xs := l.map D.int) ha
  rw [List.length_map] at this
  exact this
theorem ev_pw {i k : Int} {j : Int} (h : bopD .Pow (.int i) (.int k) = some (.int j)) : evE O (.bop .Pow (.cst (.int i)) (.cst (.int k))) ρ S = .ok (.int j) S :=
  ev_bop (va := .int i) (vb := .int k) (S1 := S) (ev_cst (c := .int i)) (ev_cst (c := .int k)) h
theorem t_eqI {i j : Int} (ha : evE O a ρ S = .ok (.int i) S1) (hb : evE O b ρ S1 = .ok (.int j) S2) : evT O (.cmp .Eq a b) ρ S = .ok (decide (i = j)) S2 :=
  t_cmp ha hb (by show eqD (.int i) (.int j) = _; rw [eqD_int])
theorem t_tru {c : Bool} (ha : evE O a ρ S = .ok (.bl c) S1) : evT O (.tru a) ρ S = .ok c S1 := by
  simp only [evT, ha, bind_ok', der, truD, opt_some']
theorem t_not {c : Bool} (h : evT O t ρ S = .ok c S1) : evT O (.not t) ρ S = .ok (!c) S1 := by
  simp only [evT, h, bind_ok']
theorem t_nt (h : evT O t ρ S = .ok true S1) : evT O (.not t) ρ S = .ok false S1 := t_not h
theorem t_nf (h : evT O t ρ S = .ok false S1) : evT O (.not t) ρ S = .ok true S1 := t_not h
theorem t_ntru (ha : evE O a ρ S = .ok (.bl true) S1) : evT O (.not (.tru a)) ρ S = .ok false S1 := t_nt (t_tru ha)
theorem t_or_t (h : evT O t ρ S = .ok true S1) : evT O (.or t u) ρ S = .ok true S1 := by
  simp only [evT, h, bind_ok', if_true]
theorem s_then {A B : CSs} {o : Out} (h : evT O t ρ S = .ok true S1) (q : exSs sub O A ρ S1 = .ok o S2) : exS sub O (.ite t A B) ρ S = .ok o S2 := by
  simp only [exS, h, bind_ok', if_true, q]
theorem ss_rt {s : CS} {r : CSs} {d : D} (h : exS sub O s ρ S = .ok (.rt d) S1) : exSs sub O (.cons s r) ρ S = .ok (.rt d) S1 := by
  simp only [exSs, h, bind_ok']
theorem ev_callN3 {c : CE} {vc : D} (ha : evE O a ρ S = .ok va S) (hb : evE O b ρ S = .ok vb S) (hc : evE O c ρ S = .ok vc S) : evE O (.call f x (.cons a (.cons b (.cons c .nil)))) ρ S = O.call f [va, vb, vc] S :=
  ev_callN (evs_cons ha (evs_cons hb (evs_cons hc evs_nil)))
end
theorem s_for {O : Orc} {sub : Str → Str → Option Bool} {ρ : Gx.Env} {S S1 S2 : Sto} {tg : CTg} {it : CI} {b : CSs} {l : List D} {o : Out} (h : evI O it ρ S = .ok (.items l) S1) (q : forL (fun d ρ1 S2 => (evTg O tg d ρ1 S2).bind fun ρ2 S3 => exSs sub O b ρ2 S3) l ρ S1 = .ok o S2) : exS sub O (.forS tg it b) ρ S = .ok o S2 := by
  simp only [exS, h, bind_ok']
  exact q
theorem forL_cons {f : D → Gx.Env → Sto → R Out} {d : D} {r : List D} {ρ ρ1 : Gx.Env} {S S1 : Sto} {z : R Out} (h : f d ρ S = .ok (.nx ρ1) S1) (q : forL f r ρ1 S1 = z) : forL f (d :: r) ρ S = z := by
  unfold forL
  rw [h]
  exact q
theorem forL_turn {O : Orc} {sub : Str → Str → Option Bool} {ρ ρ2 ρ3 : Gx.Env} {S S1 S2 : Sto} {tg : CTg} {b : CSs} {d : D} (h1 : evTg O tg d ρ S = .ok ρ2 S1) (h2 : exSs sub O b ρ2 S1 = .ok (.nx ρ3) S2) : ((evTg O tg d ρ S).bind fun ρ2 S3 => exSs sub O b ρ2 S3) = .ok (.nx ρ3) S2 := by
  rw [h1]
  exact h2
theorem tg_nm {O : Orc} {ρ : Gx.Env} {S : Sto} {i : Nat} {d : D} (hi : i < ρ.length) : evTg O (.nm i) d ρ S = .ok (ρ.set i (some d)) S := by
  simp only [evTg, if_pos hi]
theorem tg2 {O : Orc} {ρ : Gx.Env} {S : Sto} {i j : Nat} {a b : D} (hi : i < ρ.length) (hj : j < ρ.length) : evTg O (.tp (.cons (.nm i) (.cons (.nm j) .nil))) (.tup [a, b]) ρ S = .ok ((ρ.set i (some a)).set j (some b)) S := by
  have h2 : j < (ρ.set i (some a)).length := by rw [List.length_set]; exact hj
  have hc : [a, b].length = cntT (.cons (.nm i) (.cons (.nm j) .nil)) := rfl
  simp only [evTg, evTgs, if_pos hi, if_pos h2, if_pos hc, bind_ok', noX]
theorem tg3 {O : Orc} {ρ : Gx.Env} {S : Sto} {i j k : Nat} {a b c : D} (hi : i < ρ.length) (hj : j < ρ.length) (hk : k < ρ.length) : evTg O (.tp (.cons (.nm i) (.cons (.nm j) (.cons (.nm k) .nil)))) (.tup [a, b, c]) ρ S = .ok (((ρ.set i (some a)).set j (some b)).set k (some c)) S := by
  have h2 : j < (ρ.set i (some a)).length := by rw [List.length_set]; exact hj
  have h3 : k < ((ρ.set i (some a)).set j (some b)).length := by rw [List.length_set, List.length_set]; exact hk
  have hc : [a, b, c].length = cntT (.cons (.nm i) (.cons (.nm j) (.cons (.nm k) .nil))) := rfl
  simp only [evTg, evTgs, if_pos hi, if_pos h2, if_pos h3, if_pos hc, bind_ok', noX]
theorem exSs_nil {O : Orc} {sub : Str → Str → Option Bool} {ρ : Gx.Env} {S : Sto} : exSs sub O .nil ρ S = .ok (.nx ρ) S := by simp only [exSs]
theorem ends_nx {kp : Bool} {ρ : Gx.Env} {S : Sto} : ends kp S.length (.ok (.nx ρ) S) = .ok D.non S := by
  show (if kp = true ∨ S.length ≤ S.length then R.ok D.non S else _) = _
  rw [if_pos (.inr (Nat.le_refl _))]
/-- ends well and true -/
def okT (r : R Out) : Bool := match r with | .ok (.rt (.bl true)) _ => true | _ => false
theorem wp_okT {r : R Out} (h : okT r = true) : Wp r fun o _ => o = .rt (.bl true) := by
  unfold okT at h
  split at h
  · exact ⟨_, _, rfl, rfl⟩
  · cases h
end Gx
set_option Elab.async false
set_option linter.all false
set_option maxRecDepth 100000
set_option maxHeartbeats 4000000
/-! Gx: the end of a law in which texts are shown. -/
namespace Gx
open PySem PySem.Spec PyProof.Rows L2
section
variable {P : Program} {w : World} {K : PySem.W.Frag} {mg mb : Str → Option Value} {k : Nat} {fa a : Addr} {cs : List (Addr × Addr)} {fd : FuncData} {x : Str} {sp : Sp} {s : Shared} {vs : List Value} {ns : List Int}
/-- what is tracked at the start: the tables, and the script where the head does not hold it -/
structure At0 (K : PySem.W.Frag) (a : Addr) (ts : List Addr) (so : HO) (H : Hp) : Prop where
  t : ∀ b ∈ ts, H b = some (.tbl #[])
  o : ∀ b u, H b = some u → (b ∈ ts ∧ u = .tbl #[]) ∨ (b = a ∧ K.lookup a = none ∧ u = so)
  a : K.lookup a = none → H a = some so
theorem at0_ex (K : PySem.W.Frag) {a : Addr} {ts : List Addr} (so : HO) (na : a ∉ ts) : ∃ H : Hp, At0 K a ts so H := by
  refine ⟨fun b => if b ∈ ts then some (.tbl #[]) else if b = a ∧ K.lookup a = none then some so else none, fun b h => if_pos h, fun b u e => ?_, fun e => ?_⟩
  · split at e
    · cases e; exact .inl ⟨by assumption, rfl⟩
    · split at e
      · rename_i q
        cases e
        exact .inr ⟨q.1, q.2, rfl⟩
      · cases e
  · rw [if_neg na, if_pos ⟨rfl, e⟩]
theorem law_callG (KX : K.In s.heap) (hN : s.heap.Ns mainGlobals mg) (hB : s.heap.Ns builtinsNs mb) (hBB : ∀ x : Str, x ≠ "__name__" → mb x = bootBuiltins x) (hL : s.heap.NoLimit) (hg : s.gens = #[])
    (hT : ∀ p ∈ cs, s.heap.get? p.2 = some { cls := .none, data := .fields #[] }) (nT : ∀ p ∈ cs, K.lookup p.2 = none) (hC : ∀ p ∈ cs, PySem.W.CodeHd s.heap p.1 p.2)
    (hM : ∃ (bm : Addr) (ob : Obj), mg "__builtins__" = some (.ref bm) ∧ bm ≠ builtinsNs ∧ s.heap.get? bm = some ob ∧ ob.cls = .type "module" ∧ ob.dict = some builtinsNs ∧ ob.data = .plain)
    (ha : s.heap.get? a = some { cls := .type "list", data := .seq vs.toArray }) (hi : IntsAre vs ns) (hl : ns.length ≤ sizeLine) (hr : Room k callerA)
    (F : ∀ base : Heap, K.In base → base.Ns mainGlobals mg → (∀ p ∈ cs, LamX.TabB base mg p.1 p.2) → FnG P w K mg base true k fa fd [x] sp) (hb : ∀ (t : Shared) (u : Value), BindsTo t fd ⟨[u], []⟩ [(x, u)])
    (hs : ∀ H : Hp, (∀ p ∈ cs, H p.2 = some (.tbl #[])) → SqL K H a (ns.map V.int) → sp [.ref a] H (fun v _ => v = .bl true) fun _ _ _ => False)
    (hX : ∀ H e s', L2.CX P w [] H s (fun _ _ _ => False) e s' → False) :
    codeAny (model P w) callerA (.call (.ref fa) ⟨[.ref a], []⟩) (fun r s' => r = .ok (.ret (.bool true)) ∧ OldK s.heap s'.heap ∧ s'.os = s.os ∧ AllBare s'.gens) s := by
  have tg : ∀ b ∈ cs.map (·.2), s.heap.get? b = some { cls := .none, data := .fields #[] } := by
    intro b h
    obtain ⟨p, hp, rfl⟩ := List.mem_map.mp h
    exact hT p hp
  have tk : ∀ b ∈ cs.map (·.2), K.lookup b = none := by
    intro b h
    obtain ⟨p, hp, rfl⟩ := List.mem_map.mp h
    exact nT p hp
  have seqNo : ∀ {its : Array Value} {n : Nat} {o : Obj}, o.data = .seq its n → some o ≠ some ({ cls := .none, data := .fields #[] } : Obj) := by
    intro its n o h e
    cases e
    cases h
  obtain ⟨H, A0⟩ := at0_ex K (ts := cs.map (·.2)) (.frz { cls := .type "list", data := .seq vs.toArray } (.lst (ns.map V.int))) (fun h => seqNo (o := { cls := .type "list", data := .seq vs.toArray }) rfl (ha.symm.trans (tg a h)))
  have it := vals_ints hi
  have ln : (ns.map V.int).length ≤ sizeLine := by rw [List.length_map]; exact hl
  have hS : SqL K H a (ns.map V.int) := by
    cases q : K.lookup a with
    | none => exact .inl (.inr ⟨_, A0.a q⟩)
    | some o =>
      obtain rfl : o = { cls := .type "list", data := .seq vs.toArray } := Option.some.inj ((KX a o q).symm.trans ha)
      exact .inr ⟨_, _, _, q, rfl, rfl, rfl, by rw [List.size_toArray, ← it.length]; exact ln, by simpa using it⟩
  have ok : HOk P w H s.heap := by
    intro b u e
    rcases A0.o b u e with ⟨h, rfl⟩ | ⟨rfl, _, rfl⟩
    · exact tg b h
    · exact ⟨ha, ln, vs, _, it, ha⟩
  have see : ∀ {b : Addr} {o : Obj}, s.heap.get? b = some o → b ∉ cs.map (·.2) → (b = a → K.lookup a ≠ none) → H b = none := by
    intro b o e h1 h2
    cases q : H b with
    | none => rfl
    | some u =>
      rcases A0.o b u q with ⟨h, _⟩ | ⟨h, h', _⟩
      · exact (h1 h).elim
      · exact (h2 h h').elim
  have seeD : ∀ {b : Addr} {o : Obj}, s.heap.get? b = some o → (∀ its n, o.data ≠ .seq its n) → o.data ≠ .fields #[] → H b = none := by
    intro b o e h1 h2
    refine see e (fun h => ?_) fun h => ?_
    · have z := e.symm.trans (tg b h)
      cases z
      exact h2 rfl
    · subst h
      have z := e.symm.trans ha
      cases z
      exact (h1 _ _ rfl).elim
  have ns0 : ∀ {b : Addr} {m : Str → Option Value}, s.heap.Ns b m → (hidT s.heap H).Ns b m := by
    rintro b m ⟨o, es, ep, e, d, r⟩
    refine ⟨o, es, ep, hidT_get e (seeD e ?_ ?_), d, r⟩ <;> rw [d]
    · exact fun _ _ z => by cases z
    · exact fun z => by cases z
  have kin : K.In (hidT s.heap H) := by
    intro b o e
    refine hidT_get (KX b o e) (see (KX b o e) (fun h => ?_) fun h => ?_)
    · rw [tk b h] at e; cases e
    · rw [← h, e]; exact fun z => by cases z
  have tb : ∀ p ∈ cs, LamX.TabB (hidT s.heap H) mg p.1 p.2 := by
    intro p hp
    obtain ⟨bm, ob, m1, m2, m3, m4, m5, m6⟩ := hM
    obtain ⟨go, ges, gep, g1, g2, g3⟩ := id hN
    refine ⟨?_, ⟨bm, ob, m1, m2, fun q => ?_, fun q => ?_, hidT_get m3 (seeD m3 ?_ ?_), m4, m5, m6⟩, fun q => ?_⟩
    · obtain ⟨o, us, f1, f2, f3, f4, f5, f6, f7, e1, r1, r2, r3, rest⟩ := hC p hp
      refine ⟨o, us, f1, f2, f3, f4, f5, f6, f7, hidT_get e1 (seeD e1 ?_ ?_), r1, r2, r3, rest⟩ <;> rw [r2]
      · exact fun _ _ z => by cases z
      · intro z
        cases z
        simp at r3
    · rw [q, g1] at m3
      cases m3
      rw [g2] at m6
      cases m6
    · rw [q, hT p hp] at m3
      cases m3
      cases m6
    · rw [m6]; exact fun _ _ z => by cases z
    · rw [m6]; exact fun z => by cases z
    · rw [q, hT p hp] at g1
      cases g1
      cases g2
  have e0 : Env0 P w K mg (hidT s.heap H) callerA [] s H := by
    refine ⟨rfl, ⟨kin, ns0 hN, ⟨mb, ns0 hB, hBB⟩, ?_⟩, fun b o => of_hidT, Nat.le_of_eq (hidT_size _ _), trivial, fun b h => ?_, ok, .of_eq hg⟩
    · obtain ⟨mc, h1, h2⟩ := hL
      exact ⟨mc, ns0 h1, h2⟩
    · cases h
  refine codeAny_mono ((F _ kin (ns0 hN) tb).run callerA [] s H ⟨[.ref a], []⟩ [.ref a] [.ref a] _ _ hr (fun _ => rfl) e0 (hb s (.ref a)) (.cons rfl .nil) (hs H (fun p hp => A0.t _ (List.mem_map.mpr ⟨p, hp, rfl⟩)) hS)) ?_
  rintro (e | (_ | _ | _ | u)) s' h
  · exact (hX H e s' h).elim
  · exact h.elim
  · exact h.elim
  · exact h.elim
  · obtain ⟨v, H', os, bare, un, ok', r', q⟩ := h
    obtain rfl : v = .bl true := q
    obtain rfl : u = Value.bool true := r'
    have grew : ∀ b ∈ cs.map (·.2), ∃ more : Array Value, s'.heap.get? b = some { cls := .none, data := .fields more } := by
      intro b h
      obtain ⟨more, z⟩ := un.tbls b #[] (A0.t b h)
      exact ⟨_, ok' b _ z⟩
    have stay : ∀ b o, b ∉ cs.map (·.2) → s.heap.get? b = some o → s'.heap.get? b = some o := by
      intro b o n e
      cases z : H b with
      | none => exact un.keep b o e z (fun h => by cases h) fun h => by cases h
      | some u =>
        rcases A0.o b u z with ⟨h, _⟩ | ⟨rfl, _, rfl⟩
        · exact (n h).elim
        · obtain rfl := Option.some.inj (e.symm.trans (ok b _ z).1)
          exact (ok' b _ (un.frzs b _ _ z)).1
    refine ⟨rfl, ⟨fun b o e => ?_, fun b o e => ?_⟩, os, bare⟩
    · by_cases h : b ∈ cs.map (·.2)
      · obtain ⟨more, m⟩ := grew b h
        obtain ⟨p, hp, rfl⟩ := List.mem_map.mp h
        obtain rfl := Option.some.inj (e.symm.trans (hT p hp))
        exact .inr (.inl ⟨((hC p hp).tab (hT p hp)).isCodeTable, rfl, #[], more, rfl, by rw [Array.empty_append]; exact m⟩)
      · exact .inl (stay b o h e)
    · by_cases h : b ∈ cs.map (·.2)
      · obtain ⟨more, m⟩ := grew b h
        exact ⟨_, m⟩
      · exact ⟨o, stay b o h e⟩
end
/-- what is known of the law's promise at the head's heap, where texts may be shown -/
def LawAtG (l : PySem.W.OpenLaw) (w : World) (K : PySem.W.Frag) (k n : Nat) (x : Str) (mg : Str → Option Value) (fa : Addr) (h : Heap) : Prop :=
  ∃ (fd : FuncData) (cs : List (Addr × Addr)) (sp : Sp), (∀ p ∈ cs, h.get? p.2 = some { cls := .none, data := .fields #[] }) ∧ (∀ p ∈ cs, K.lookup p.2 = none) ∧ (∀ p ∈ cs, PySem.W.CodeHd h p.1 p.2) ∧ (∀ (t : Shared) (u : Value), BindsTo t fd ⟨[u], []⟩ [(x, u)]) ∧
    (∀ (H : Hp) (b : Addr) (zs : List Int), zs.length ≤ n → (∀ z ∈ zs, Builtin.Int.intBits z ≤ 1048576) → (∀ p ∈ cs, H p.2 = some (.tbl #[])) → SqL K H b (zs.map V.int) → sp [.ref b] H (fun v _ => v = .bl true) fun _ _ _ => False) ∧
    ∀ base : Heap, K.In base → base.Ns mainGlobals mg → (∀ p ∈ cs, LamX.TabB base mg p.1 p.2) → FnG l.prog w K mg base true k fa fd [x] sp
theorem walk_G {l : PySem.W.OpenLaw} {n k : Nat} {q : Program} {lo : List Str} {XP : (Str → Option Value) → Heap → Prop} {YP : World → Heap → Prop} {d : DefRec} {x : Str} (hn : l.most = some n) (hm : n ≤ sizeLine) (hd : d.params.defaults = []) (hr : Room k callerA)
    (F : ∀ (w : World) (mg : Str → Option Value) (fa : Addr) (h : Heap), YP w h → h.Ns mainGlobals mg → mg d.name = some (.ref fa) → ∃ K : PySem.W.Frag, K.In h ∧ LawAtG l w K k n x mg fa h)
    (hX : ∀ (w : World) (H : Hp) (s : Shared) (e : Value) (s' : Shared), L2.CX l.prog w [] H s (fun _ _ _ => False) e s' → False) :
    PySem.W.WalkO q lo XP YP l.row.toRowW d [] (fun f us => PySem.call f us) := by
  refine Att.attach_callB hn hd ?_
  intro w t₀ t mg mb fa o pm cd doc a vs zs G Y h1 h2 h3 h4 h5 h6 h7 h8 h9
  obtain ⟨K, KX, fd, cs, sp, hT, nT, hC, hb, hsp, hF⟩ := F w mg fa _ Y G.T.g h4
  refine law_callG KX G.T.g G.T.b G.T.builtins G.T.nolimit h9 hT nT hC G.T.bmain h5 h6 (Nat.le_trans h7 hm) hr hF hb ?_ fun H e t' => hX w H t e t'
  intro H z1 z2
  exact hsp H a zs h7 h8 z1 z2
section
variable {T : Tb} {P : Program} {w : World} {K : PySem.W.Frag} {mg : Str → Option Value} {base h : Heap} {tf : List He.Defn} {TT : List (Addr × Str)} {k : Nat}
theorem law_atG {l : PySem.W.OpenLaw} {ts : List He.Tab} {n m i Wn : Nat} {f : Df} {x : Str} {fa : Addr} (hP : P = l.prog) (hc : T.chk = true) (hr : T.rps.contains i = true) (KX : K.In h) (Gn : h.Ns mainGlobals mg) (c : He.SaysX T.fa T.fn ts T.lams T.ex w h K)
    (hf : T.defs[i]? = some f) (hx : f.ps = [x]) (hm : mg f.x = some (.ref fa))
    (hrun : ∀ ns : List Int, ns.length ≤ n → ∃ S', (lv T.prg Wn (m + 1)).call i [.scr (ns.map D.int)] [] = .ok (.bl true) S') : LawAtG l w K (lvK (m + 1)) n x mg fa h := by
  have hmem : f.toD ∈ T.fn := List.mem_append.mpr (.inl (List.mem_map.mpr ⟨f, List.mem_of_getElem? hf, rfl⟩))
  obtain ⟨fd, FD⟩ := He.SaysD.defs c.t.d hmem
  have FD : FunD K f.x f.x (defArgs f.st) (defBody f.st) (defScope f.st) [] [] (He.ga K f.x) fd := FD
  have AT := fun base hB => at_of (TT := T.TT K) hc KX Gn c (tab_of (base := base) c hB) hf FD
  have efa : fa = He.ga K f.x := by
    have := hm.symm.trans (He.glo_ok KX Gn (fa_ok c (mem_names (List.mem_map.mpr ⟨f, List.mem_of_getElem? hf, rfl⟩))))
    cases this
    rfl
  subst efa
  have hd : T.prg.fns[i]? = some f.d := by
    show (T.defs.map (·.d))[i]? = some f.d
    rw [List.getElem?_map, hf]
    rfl
  have hcl : ∀ as S, (lv T.prg Wn (m + 1)).call i as S = if as.length = f.d.np then ends f.d.keep S.length (exSs T.prg.sub ⟨(lv T.prg Wn m).call, (lv T.prg Wn m).lam, Wn⟩ f.d.body (as.map some ++ List.replicate (f.d.ns - f.d.np) none) S) else .stuck := fun as S => by
    show run T.prg _ i as S = _
    unfold run
    rw [hd]
  have one : f.ps.length = 1 := by rw [hx]; rfl
  have bnd : BindU fd f.ps := by
    have h1 : chkAll T 0 T.defs = true := by
      unfold Tb.chk at hc
      exact (Bool.and_eq_true_iff.mp (Bool.and_eq_true_iff.mp hc).1).1
    have h2 := chkAll_get h1 hf
    simp only [chkD, Bool.and_eq_true] at h2
    obtain ⟨oc, od, dV, kV, doc, pm, an, cdv, ct, osl, rfl, lk, hcd, hD, hK⟩ := FD.ex
    refine argB_ok h2.1.1.1.1 ?_
    rcases hD with ⟨_, e⟩ | ⟨e, _⟩
    · exact e
    · exact absurd rfl e
  refine ⟨fd, T.lams.map (He.cT K), spF (glOf T K mg (T.TT K)) f.ps.length ((lv T.prg Wn (m + 1)).call i), fun p hp => ?_, fun p hp => ?_, fun p hp => ?_, fun s u => ?_, fun H a ns hn _ hT hS => ?_, fun base kb gb hB => ?_⟩
  · obtain ⟨p', hp', rfl⟩ := List.mem_map.mp hp
    exact c.empty p' hp'
  · obtain ⟨p', hp', rfl⟩ := List.mem_map.mp hp
    exact c.out p' hp'
  · obtain ⟨p', hp', rfl⟩ := List.mem_map.mp hp
    exact PySem.W.codeHd_of_K KX (c.hd p' hp')
  · have := bnd s [u] (by rw [one]; rfl)
    rw [hx] at this
    exact this
  · obtain ⟨S', e⟩ := hrun ns hn
    rw [one]
    refine law_sp (G := glOf T K mg (T.TT K)) (fun p hp => ?_) hS e
    obtain ⟨p', hp', rfl⟩ := List.mem_map.mp hp
    exact LamX.TabS.nil (hT _ (List.mem_map.mpr ⟨p', hp', rfl⟩))
  · subst hP
    have PO : PrgOk (glOf T K mg (T.TT K)) l.prog w base T.mx T.exs T.prg := prg_ok hc KX Gn c (tab_of c hB)
    have LV := levels PO (gs_ok hc KX Gn c) Wn m
    have FG := fnG_of (AT base hB) PO.N LV PO.exc hcl
    rw [hr] at FG
    rw [hx] at FG ⊢
    exact FG
end
end Gx
set_option Elab.async false
set_option linter.all false
set_option maxRecDepth 100000
set_option maxHeartbeats 4000000
/-! Gx: reckoning with shown texts. -/
namespace Gx
open PySem PySem.Spec PyProof.Rows L2
/-- it can be shown -/
def Shows (v : D) : Prop := ∃ x : Str, biD .repr [v] = some (.str x)
theorem shows_of {v : D} {p : PyData} (h : toPy v = some p) (h1 : SeqAt.shaped p = true) (h2 : p.showable = true) (h3 : p.hasDict = false) (h4 : p.shown.length ≤ sz) : Shows v := by
  refine ⟨p.shown, ?_⟩
  show (toPy v).bind shownD = _
  rw [h]
  show shownD p = _
  unfold shownD
  rw [h1, h2, h3, decide_eq_true h4]
  rfl
theorem log_small {i : Int} (h0 : 0 ≤ i) (h1 : i < 18446744073709551616) : i.natAbs.log2 < 1920 := by
  have e : i.natAbs.log2 < 64 := by
    by_cases q : i.natAbs = 0
    · rw [q]; decide
    · rw [Nat.log2_lt q]
      omega
  omega
theorem int_len {i : Int} (h0 : 0 ≤ i) (h1 : i < 18446744073709551616) : (PyData.shown (.int i)).length ≤ 20 :=
  toString_length_le h0 (by decide) (by omega)
theorem shows_int {i : Int} (h0 : 0 ≤ i) (h1 : i < 18446744073709551616) : Shows (.int i) :=
  shows_of (p := .int i) rfl rfl (decide_eq_true (log_small h0 h1)) rfl (Nat.le_trans (int_len h0 h1) (by decide))
theorem shows_bl (b : Bool) : Shows (.bl b) := by
  cases b <;> exact shows_of rfl rfl rfl rfl (by decide +kernel)
theorem shows_non : Shows .non := shows_of rfl rfl rfl rfl (by decide +kernel)
theorem tuple_len (ts : List Str) (k : Nat) (h : ∀ t ∈ ts, t.length ≤ k) : (tupleText ts).length ≤ 3 + ts.length * (k + 2) := by
  have p : ∀ ts : List Str, (∀ t ∈ ts, t.length ≤ k) → piled ts ≤ ts.length * (k + 2) := by
    intro ts
    induction ts with
    | nil => intro _; exact Nat.zero_le _
    | cons t r ih =>
      intro h
      rw [piled_cons, List.length_cons, Nat.add_mul, Nat.one_mul]
      have := ih fun x hx => h x (List.mem_cons_of_mem _ hx)
      have := h t List.mem_cons_self
      omega
  have j : (Str.join ", " ts).length ≤ ts.length * (k + 2) := by
    cases ts with
    | nil => exact Nat.zero_le _
    | cons t r =>
      have := join_length_add (t :: r) (by simp)
      have := p _ h
      omega
  have e1 : (("(" : String) : Str).length = 1 := rfl
  unfold tupleText
  rw [strLen_append, strLen_append, e1]
  have e2 : ((if ts.length == 1 then ",)" else ")" : String) : Str).length ≤ 2 := by
    split <;> decide
  omega
theorem shownAll_len : ∀ ps : List PyData, (PyData.shownAll ps).length = ps.length
  | [] => rfl
  | p :: r => by simp only [PyData.shownAll, List.length_cons, shownAll_len r]
theorem shownAll_mem : ∀ {ps : List PyData} {t : Str}, t ∈ PyData.shownAll ps → ∃ p ∈ ps, t = p.shown
  | [], _, h => by cases h
  | p :: r, t, h => by
    rcases List.mem_cons.mp (show t ∈ p.shown :: PyData.shownAll r from h) with z | z
    · exact ⟨p, List.mem_cons_self, z⟩
    · obtain ⟨q, hq, e⟩ := shownAll_mem z
      exact ⟨q, List.mem_cons_of_mem _ hq, e⟩
theorem showable_ints : ∀ l : List Int, (∀ i ∈ l, 0 ≤ i ∧ i < 18446744073709551616) → PyData.showableAll (l.map PyData.int) = true
  | [], _ => rfl
  | i :: r, h => by
    simp only [List.map_cons, PyData.showableAll, showable_ints r fun j hj => h j (List.mem_cons_of_mem _ hj), Bool.and_true]
    exact decide_eq_true (log_small (h i List.mem_cons_self).1 (h i List.mem_cons_self).2)
theorem noDict_ints : ∀ l : List Int, PyData.hasDictAll (l.map PyData.int) = false
  | [] => rfl
  | i :: r => by simp only [List.map_cons, PyData.hasDictAll, PyData.hasDict, noDict_ints r, Bool.or_self]
theorem shows_ints (l : List Int) (h : ∀ i ∈ l, 0 ≤ i ∧ i < 18446744073709551616) (hl : l.length ≤ 500000) : Shows (tIs l) := by
  refine shows_of (p := .tuple (l.map PyData.int)) (by simp only [tIs, toPy, toPy_ints, Option.map_some]) (shaped_ints l) (showable_ints l h) (noDict_ints l) ?_
  refine Nat.le_trans (tuple_len _ 20 fun t ht => ?_) ?_
  · obtain ⟨p, hp, rfl⟩ := shownAll_mem ht
    obtain ⟨i, hi, rfl⟩ := List.mem_map.mp hp
    exact int_len (h i hi).1 (h i hi).2
  · rw [shownAll_len, List.length_map]
    simp only [sz]
    omega
theorem shows_octs (l : List Int) (h : octs l) (hl : l.length ≤ 500000) : Shows (tIs l) :=
  shows_ints l (fun i hi => by have := h i hi; omega) hl
theorem eqD_str (x : Str) : eqD (.str x) (.str x) = some true := by
  show some (x == x) = _
  simp
theorem ev_bi1 {O : Orc} {a : CE} {ρ : Gx.Env} {S S1 : Sto} {b : Bi} {v d : D} (h : evE O a ρ S = .ok v S1) (hd : biD b [der S1 v] = some d) : evE O (.bi b (.cons a .nil)) ρ S = .ok d S1 := by
  simp only [evE, evEs, h, bind_ok', List.map_cons, List.map_nil, hd, opt_some']
theorem t_same {O : Orc} {a b : CE} {ρ : Gx.Env} {S S1 S2 : Sto} {v : D} (ha : evE O a ρ S = .ok v S1) (hb : evE O b ρ S1 = .ok v S2) (h1 : der S1 v = v) (h2 : der S2 v = v) (hv : Shows v) : evE O (.cmp .Eq (.bi .repr (.cons a .nil)) (.bi .repr (.cons b .nil))) ρ S = .ok (.bl true) S2 := by
  obtain ⟨x, hx⟩ := hv
  exact ev_cmp (va := .str x) (vb := .str x) (S1 := S1) (ev_bi1 ha (by rw [h1]; exact hx)) (ev_bi1 hb (by rw [h2]; exact hx)) (eqD_str x)
end Gx
set_option Elab.async false
set_option linter.all false
set_option maxRecDepth 100000
set_option maxHeartbeats 4000000
/-! Gx: powers modulo 2147483647. -/
namespace Gx
open PySem PySem.Spec PyProof.Rows L2
abbrev pM : Int := 2147483647
theorem pow_mod (a : Int) : ∀ n : Nat, (a % pM) ^ n % pM = a ^ n % pM
  | 0 => by rw [Int.pow_zero, Int.pow_zero]
  | n + 1 => by rw [Int.pow_succ, Int.pow_succ, Int.mul_emod, pow_mod a n, Int.emod_emod, ← Int.mul_emod]
theorem mulL (a b : Int) : (a % pM) * b % pM = a * b % pM := by rw [Int.mul_emod, Int.emod_emod, ← Int.mul_emod]
theorem mulR (a b : Int) : a * (b % pM) % pM = a * b % pM := by rw [Int.mul_emod, Int.emod_emod, ← Int.mul_emod]
theorem mulRp (f a : Int) (n : Nat) : f * (a % pM) ^ n % pM = f * a ^ n % pM := by rw [← mulR, pow_mod, mulR]
theorem sq_pow (o : Int) (n : Nat) : (o * o) ^ n = o ^ (2 * n) := by
  rw [Int.pow_mul, Int.pow_succ, Int.pow_succ, Int.pow_zero, Int.one_mul]
theorem pow_even (f o : Int) (m : Nat) (h : m % 2 = 0) : f * (o * o % pM) ^ (m / 2) % pM = f * o ^ m % pM := by
  rw [mulRp, sq_pow, show 2 * (m / 2) = m by omega]
theorem pow_odd (f o : Int) (m : Nat) (h : m % 2 = 1) : (f * o % pM) * (o * o % pM) ^ (m / 2) % pM = f * o ^ m % pM := by
  rw [mulRp, mulL, sq_pow, Int.mul_assoc, ← Int.pow_succ', show 2 * (m / 2) + 1 = m by omega]
def fp : Nat → Int → Int → Nat → Int
  | 0, f, _, _ => f
  | k + 1, f, o, m => fp k (if m % 2 = 1 then f * o % pM else f) (o * o % pM) (m / 2)
theorem fp_eq : ∀ (k : Nat) (f o : Int) (m : Nat), m < 2 ^ k → 0 ≤ f → f < pM → fp k f o m = f * o ^ m % pM
  | 0, f, o, m, h, h0, h1 => by
    have : m = 0 := by simp at h; exact h
    rw [this, Int.pow_zero, Int.mul_one]
    exact (Int.emod_eq_of_lt h0 h1).symm
  | k + 1, f, o, m, h, h0, h1 => by
    have hk : m / 2 < 2 ^ k := by rw [Nat.pow_succ] at h; omega
    unfold fp
    by_cases q : m % 2 = 1
    · rw [if_pos q, fp_eq k _ _ _ hk (Int.emod_nonneg _ (by decide)) (Int.emod_lt_of_pos _ (by decide)), pow_odd f o m q]
    · rw [if_neg q, fp_eq k _ _ _ hk h0 h1, pow_even f o m (by omega)]
/-- 7 to the m, at the order of the group -/
theorem seven (m : Nat) (h : m = 2147483646) : (7 : Int) ^ m % pM = 1 := by
  have e := fp_eq 31 1 7 m (by rw [h]; decide) (by decide) (by decide)
  rw [Int.one_mul] at e
  rw [← e, h]
  decide +kernel
theorem pow_period (M : Nat) (h : (7 : Int) ^ M % pM = 1) (N : Nat) : (7 : Int) ^ N % pM = 7 ^ (N % M) % pM := by
  have e := Nat.div_add_mod N M
  have : (7 : Int) ^ N = (7 ^ M) ^ (N / M) * 7 ^ (N % M) := by rw [← Int.pow_mul, ← Int.pow_add, e]
  rw [this, ← mulL, ← pow_mod, h, Int.one_pow, mulL, Int.one_mul]
theorem seven_ne (M k : Nat) (h : (7 : Int) ^ M % pM = 1) (hk : k ≤ M) : (7 : Int) ^ k % pM ≠ 0 := by
  intro z
  have e : (7 : Int) ^ M = 7 ^ k * 7 ^ (M - k) := by rw [← Int.pow_add, Nat.add_sub_cancel' hk]
  rw [e, ← mulL, z, Int.zero_mul] at h
  exact absurd h (by decide)
/-- a signature made by the secret s with the nonce k is right -/
theorem sig_right (M k e s : Nat) (h : (7 : Int) ^ M % pM = 1) : (7 : Int) ^ ((k + e * s) % M) % pM = (7 ^ k % pM) * ((7 ^ s % pM) ^ e % pM) % pM := by
  rw [← pow_period M h, mulL, mulR, mulRp, ← Int.pow_mul, ← Int.pow_add, Nat.mul_comm s e]
def pwI (b m : Int) : Int := b ^ m.toNat % pM
theorem pwI_bound (b m : Int) : 0 ≤ pwI b m ∧ pwI b m < 2147483647 := ⟨Int.emod_nonneg _ (by decide), Int.emod_lt_of_pos _ (by decide)⟩
theorem fdiv_lit {i j : Int} (h : 0 < j) (h2 : j < 2 ^ 256) : bopD .FloorDiv (.int i) (.int j) = some (.int (i / j)) := by
  simp only [bopD]
  rw [if_pos ⟨h, h2⟩]
theorem mul31 {i j : Int} (h0 : 0 ≤ i) (h1 : i < 2147483648) : bopD .Mult (.int i) (.int j) = some (.int (i * j)) := by
  have : mulOk i j = true := by
    unfold mulOk
    rw [decide_eq_true (show -18446744073709551616 < i by omega), decide_eq_true (show i < 18446744073709551616 by omega)]
    rfl
  simp only [bopD]
  rw [if_pos this]
theorem s_par3 {O : Orc} {sub : Str → Str → Option Bool} {es : CEs} {ρ : Gx.Env} {S S1 : Sto} {i j k : Nat} {d e f : D} (h : evEs O es ρ S = .ok [d, e, f] S1) (hi : i < ρ.length) (hj : j < ρ.length) (hk : k < ρ.length) : exS sub O (.par [i, j, k] es) ρ S = .ok (.nx (((ρ.set i (some d)).set j (some e)).set k (some f))) S1 := by
  have hj' : j < (ρ.set i (some d)).length := by rw [List.length_set]; exact hj
  have hk' : k < ((ρ.set i (some d)).set j (some e)).length := by rw [List.length_set, List.length_set]; exact hk
  simp only [exS, h, bind_ok', setAll, if_pos hi, if_pos hj', if_pos hk', opt_some']
theorem t_chLL {O : Orc} {a b c : CE} {ρ : Gx.Env} {S : Sto} {i j l : Int} (ha : evE O a ρ S = .ok (.int i) S) (hb : evE O b ρ S = .ok (.int j) S) (hc : evE O c ρ S = .ok (.int l) S) : evT O (.chain .LtE .LtE a b c) ρ S = .ok (decide (i ≤ j) && decide (j ≤ l)) S := by
  by_cases h : i ≤ j <;> simp [evT, ha, hb, hc, der, cmpD, h]
theorem t_gtI {O : Orc} {a b : CE} {ρ : Gx.Env} {S S1 S2 : Sto} {i j : Int} (ha : evE O a ρ S = .ok (.int i) S1) (hb : evE O b ρ S1 = .ok (.int j) S2) : evT O (.cmp .Gt a b) ρ S = .ok (decide (j < i)) S2 := t_cmp ha hb rfl
theorem ev_eqI {O : Orc} {a b : CE} {ρ : Gx.Env} {S S1 S2 : Sto} {i j : Int} (ha : evE O a ρ S = .ok (.int i) S1) (hb : evE O b ρ S1 = .ok (.int j) S2) : evE O (.cmp .Eq a b) ρ S = .ok (.bl (decide (i = j))) S2 :=
  ev_cmp ha hb (by show eqD (.int i) (.int j) = _; rw [eqD_int])
theorem tg4 {O : Orc} {ρ : Gx.Env} {S : Sto} {i j k l : Nat} {a b c d : D} (hi : i < ρ.length) (hj : j < ρ.length) (hk : k < ρ.length) (hl : l < ρ.length) : evTg O (.tp (.cons (.nm i) (.cons (.nm j) (.cons (.nm k) (.cons (.nm l) .nil))))) (.tup [a, b, c, d]) ρ S = .ok ((((ρ.set i (some a)).set j (some b)).set k (some c)).set l (some d)) S := by
  have h2 : j < (ρ.set i (some a)).length := by rw [List.length_set]; exact hj
  have h3 : k < ((ρ.set i (some a)).set j (some b)).length := by rw [List.length_set, List.length_set]; exact hk
  have h4 : l < (((ρ.set i (some a)).set j (some b)).set k (some c)).length := by rw [List.length_set, List.length_set, List.length_set]; exact hl
  have hc : [a, b, c, d].length = cntT (.cons (.nm i) (.cons (.nm j) (.cons (.nm k) (.cons (.nm l) .nil)))) := rfl
  simp only [evTg, evTgs, if_pos hi, if_pos h2, if_pos h3, if_pos h4, if_pos hc, bind_ok', noX]
theorem s_asgt {O : Orc} {sub : Str → Str → Option Bool} {a : CE} {tg : CTg} {ρ ρ1 : Gx.Env} {S S1 S2 : Sto} {d : D} (h : evE O a ρ S = .ok d S1) (ht : evTg O tg d ρ S1 = .ok ρ1 S2) : exS sub O (.asg tg a) ρ S = .ok (.nx ρ1) S2 := by
  simp only [exS, h, bind_ok', ht]
theorem ev_callN4 {O : Orc} {ρ : Gx.Env} {S : Sto} {a b c d : CE} {va vb vc vd : D} {f : Nat} {x : Str} (ha : evE O a ρ S = .ok va S) (hb : evE O b ρ S = .ok vb S) (hc : evE O c ρ S = .ok vc S) (hd : evE O d ρ S = .ok vd S) : evE O (.call f x (.cons a (.cons b (.cons c (.cons d .nil))))) ρ S = O.call f [va, vb, vc, vd] S :=
  ev_callN (evs_cons ha (evs_cons hb (evs_cons hc (evs_cons hd evs_nil))))
end Gx
set_option Elab.async false
set_option linter.all false
set_option maxRecDepth 100000
set_option maxHeartbeats 4000000
/-! Gx: plain values of any shape. -/
namespace Gx
open PySem PySem.Spec PyProof.Rows L2
def Pl (m : Nat) : Nat → D → Prop
  | _, .non => True
  | _, .bl _ => True
  | _, .int _ => True
  | _, .str x => PyData.strOk x = true
  | k + 1, .tup xs => xs.length ≤ m ∧ ∀ x ∈ xs, Pl m k x
  | k + 1, .lst xs => xs.length ≤ m ∧ ∀ x ∈ xs, Pl m k x
  | _, _ => False
theorem pl_non {m k : Nat} : Pl m k .non := by cases k <;> trivial
theorem pl_bl {m k : Nat} {b : Bool} : Pl m k (.bl b) := by cases k <;> trivial
theorem pl_int {m k : Nat} {i : Int} : Pl m k (.int i) := by cases k <;> trivial
theorem pl_str {m k : Nat} {x : Str} (h : PyData.strOk x = true) : Pl m k (.str x) := by cases k <;> exact h
theorem pl_strOk {m k : Nat} {x : Str} (h : Pl m k (.str x)) : PyData.strOk x = true := by cases k <;> exact h
theorem pl_tup {m k : Nat} {xs : List D} (h : Pl m k (.tup xs)) : ∃ j, k = j + 1 ∧ xs.length ≤ m ∧ ∀ x ∈ xs, Pl m j x := by
  cases k with
  | zero => exact (show False from h).elim
  | succ j => exact ⟨j, rfl, h⟩
theorem pl_lst {m k : Nat} {xs : List D} (h : Pl m k (.lst xs)) : ∃ j, k = j + 1 ∧ xs.length ≤ m ∧ ∀ x ∈ xs, Pl m j x := by
  cases k with
  | zero => exact (show False from h).elim
  | succ j => exact ⟨j, rfl, h⟩
theorem pl_mono {m m' : Nat} (hm : m ≤ m') : ∀ (k k' : Nat) (v : D), k ≤ k' → Pl m k v → Pl m' k' v
  | k, k', .non, _, _ => pl_non
  | k, k', .bl _, _, _ => pl_bl
  | k, k', .int _, _, _ => pl_int
  | k, k', .str x, _, h => pl_str (pl_strOk h)
  | k + 1, 0, .tup xs, hk, h => by omega
  | k + 1, k' + 1, .tup xs, hk, h => ⟨Nat.le_trans h.1 hm, fun x hx => pl_mono hm k k' x (by omega) (h.2 x hx)⟩
  | k + 1, 0, .lst xs, hk, h => by omega
  | k + 1, k' + 1, .lst xs, hk, h => ⟨Nat.le_trans h.1 hm, fun x hx => pl_mono hm k k' x (by omega) (h.2 x hx)⟩
  | 0, _, .tup xs, _, h => (show False from h).elim
  | 0, _, .lst xs, _, h => (show False from h).elim
  | k, _, .scr _, _, h => by cases k <;> exact (show False from h).elim
  | k, _, .loc _, _, h => by cases k <;> exact (show False from h).elim
  | k, _, .fn _, _, h => by cases k <;> exact (show False from h).elim
  | k, _, .ty _, _, h => by cases k <;> exact (show False from h).elim
theorem pl_list {m k : Nat} (ih : ∀ v, Pl m k v → ∃ p, toPy v = some p ∧ p.canLay0 = true ∧ p.depth ≤ k) : ∀ xs : List D, (∀ x ∈ xs, Pl m k x) → ∃ ps, toPyL xs = some ps ∧ PyData.canLayAll0 ps = true ∧ PyData.depthAll ps ≤ k ∧ ps.length = xs.length
  | [], _ => ⟨[], rfl, rfl, Nat.zero_le _, rfl⟩
  | x :: r, h => by
    obtain ⟨p, h1, h2, h3⟩ := ih x (h x List.mem_cons_self)
    obtain ⟨ps, g1, g2, g3, g4⟩ := pl_list ih r fun y hy => h y (List.mem_cons_of_mem _ hy)
    refine ⟨p :: ps, ?_, ?_, ?_, ?_⟩
    · simp only [toPyL, h1, g1]
    · simp only [PyData.canLayAll0, h2, g2, Bool.and_self]
    · simp only [PyData.depthAll]; omega
    · simp only [List.length_cons, g4]
theorem pl_py {m : Nat} : ∀ (k : Nat) (v : D), Pl m k v → ∃ p, toPy v = some p ∧ p.canLay0 = true ∧ p.depth ≤ k
  | k, .non, _ => ⟨_, rfl, rfl, Nat.zero_le _⟩
  | k, .bl _, _ => ⟨_, rfl, rfl, Nat.zero_le _⟩
  | k, .int _, _ => ⟨_, rfl, rfl, Nat.zero_le _⟩
  | k, .str x, h => ⟨_, rfl, pl_strOk h, Nat.zero_le _⟩
  | k + 1, .tup xs, h => by
    obtain ⟨ps, g1, g2, g3, _⟩ := pl_list (pl_py k) xs h.2
    exact ⟨.tuple ps, by simp only [toPy, g1, Option.map_some], g2, by simp only [PyData.depth]; omega⟩
  | k + 1, .lst xs, h => by
    obtain ⟨ps, g1, g2, g3, _⟩ := pl_list (pl_py k) xs h.2
    exact ⟨.list ps, by simp only [toPy, g1, Option.map_some], g2, by simp only [PyData.depth]; omega⟩
  | 0, .tup xs, h => (show False from h).elim
  | 0, .lst xs, h => (show False from h).elim
  | k, .scr _, h => by cases k <;> exact (show False from h).elim
  | k, .loc _, h => by cases k <;> exact (show False from h).elim
  | k, .fn _, h => by cases k <;> exact (show False from h).elim
  | k, .ty _, h => by cases k <;> exact (show False from h).elim
theorem pl_shaped {m k : Nat} {v : D} (h : Pl m k v) (hk : k ≤ 64) : ∃ p, toPy v = some p ∧ SeqAt.shaped p = true := by
  obtain ⟨p, h1, h2, h3⟩ := pl_py k v h
  refine ⟨p, h1, ?_⟩
  unfold SeqAt.shaped
  rw [h2, decide_eq_true (by omega)]
  rfl
theorem pl_der {m k : Nat} {v : D} {S : Sto} (h : Pl m k v) : der S v = v := by
  cases v with
  | loc k' => cases k <;> exact (show False from h).elim
  | _ => rfl
theorem eqP_of {x y : D} {p q : PyData} (h1 : toPy x = some p) (h2 : toPy y = some q) (s1 : SeqAt.shaped p = true) (s2 : SeqAt.shaped q = true) : eqP x y = some (PyData.eqv p q) := by
  unfold eqP
  rw [h1, h2]
  simp only [s1, s2, Bool.and_self, if_true]
theorem eqD_of {x y : D} {p q : PyData} (h1 : toPy x = some p) (h2 : toPy y = some q) (s1 : SeqAt.shaped p = true) (s2 : SeqAt.shaped q = true) : ∃ c, eqD x y = some c := by
  unfold eqD
  split
  · exact ⟨_, rfl⟩
  · exact ⟨_, eqP_of h1 h2 s1 s2⟩
/-- is it the text x? -/
def isText (x : Str) (v : D) : Bool := (eqD v (.str x)).getD false
theorem eq_text {m k : Nat} {v : D} {x : Str} (h : Pl m k v) (hk : k ≤ 64) (hx : PyData.strOk x = true) : eqD v (.str x) = some (isText x v) := by
  obtain ⟨p, h1, h2⟩ := pl_shaped h hk
  obtain ⟨c, e⟩ := eqD_of (y := .str x) (q := .str x) h1 rfl h2 (show SeqAt.shaped (.str x) = true by unfold SeqAt.shaped; simp only [PyData.canLay0, hx, PyData.depth]; rfl)
  unfold isText
  rw [e]
  rfl
theorem eq_nilT {m k : Nat} {x : D} {xs : List D} (h : Pl m k (.tup (x :: xs))) (hk : k ≤ 64) : eqD (.tup (x :: xs)) (.tup []) = some false := by
  obtain ⟨p, h1, h2⟩ := pl_shaped h hk
  obtain ⟨j, rfl, h3, h4⟩ := pl_tup h
  obtain ⟨ps, g1, g2, g3, g4⟩ := pl_list (pl_py j) _ h4
  have e : p = .tuple ps := by
    simp only [toPy, g1, Option.map_some] at h1
    exact (Option.some.inj h1).symm
  subst e
  obtain ⟨q, qs, rfl⟩ : ∃ q qs, ps = q :: qs := by
    cases ps with
    | nil => simp at g4
    | cons q qs => exact ⟨q, qs, rfl⟩
  exact (eqP_of h1 (q := .tuple []) rfl h2 rfl).trans (by simp only [PyData.eqv, PyData.eqvAll])
theorem eq_nilL {m k : Nat} {xs : List D} (h : Pl m k (.lst xs)) (hk : k ≤ 64) : eqD (.lst xs) (.lst []) = some xs.isEmpty := by
  obtain ⟨p, h1, h2⟩ := pl_shaped h hk
  obtain ⟨j, rfl, h3, h4⟩ := pl_lst h
  obtain ⟨ps, g1, g2, g3, g4⟩ := pl_list (pl_py j) _ h4
  have e : p = .list ps := by
    simp only [toPy, g1, Option.map_some] at h1
    exact (Option.some.inj h1).symm
  subst e
  refine (eqP_of h1 (q := .list []) rfl h2 rfl).trans ?_
  cases xs with
  | nil =>
    have : ps = [] := by simpa using g4
    subst this
    rfl
  | cons x r =>
    obtain ⟨q, qs, rfl⟩ : ∃ q qs, ps = q :: qs := by
      cases ps with
      | nil => simp at g4
      | cons q qs => exact ⟨q, qs, rfl⟩
    simp only [PyData.eqv, PyData.eqvAll, List.isEmpty_cons]
/-! ### looking at any value -/
def wholeB (lo hi : Int) : D → Bool
  | .int i => decide (lo ≤ i) && decide (i ≤ hi)
  | _ => false
def tupB : D → Bool
  | .tup _ => true
  | _ => false
def strB : D → Bool
  | .str _ => true
  | _ => false
def octsB (m : Nat) : D → Bool
  | .tup xs => decide (xs.length ≤ m) && xs.all (wholeB 0 255)
  | _ => false
theorem isi_tup {m k : Nat} {v : D} (h : Pl m k v) : isiD v [.tuple] = some (tupB v) := by
  cases v with
  | scr | loc | fn | ty => cases k <;> exact (show False from h).elim
  | _ => rfl
theorem isi_str {m k : Nat} {v : D} (h : Pl m k v) : isiD v [.str] = some (strB v) := by
  cases v with
  | scr | loc | fn | ty => cases k <;> exact (show False from h).elim
  | _ => rfl
section
variable {O : Orc} {ρ : Gx.Env} {S S1 S2 : Sto} {a b : CE} {t u : CT} {v : D}
theorem ev_isi {ts : List Ty} {c : Bool} (h : evE O a ρ S = .ok v S1) (hd : isiD (der S1 v) ts = some c) : evE O (.isi a ts) ρ S = .ok (.bl c) S1 := by
  simp only [evE, h, bind_ok', hd, Option.map_some, opt_some']
theorem t_orB {c d : Bool} (h : evT O t ρ S = .ok c S) (k : c = false → evT O u ρ S = .ok d S) : evT O (.or t u) ρ S = .ok (c || d) S := by
  cases c with
  | true => exact t_or_t h
  | false => rw [t_or h, k rfl]; rfl
theorem t_notB {c : Bool} (h : evT O t ρ S = .ok c S) : evT O (.not t) ρ S = .ok (!c) S := t_not h
theorem ev_andB {c d : Bool} (h : evE O a ρ S = .ok (.bl c) S) (k : c = true → evE O b ρ S = .ok (.bl d) S) : evE O (.andV a b) ρ S = .ok (.bl (c && d)) S := by
  cases c with
  | true => rw [ev_and_t h, k rfl]; rfl
  | false => simp [evE, h, der, truD]
theorem t_neB {va vb : D} {c : Bool} (ha : evE O a ρ S = .ok va S) (hb : evE O b ρ S = .ok vb S) (h1 : der S va = va) (h2 : der S vb = vb) (h : eqD va vb = some c) : evT O (.cmp .NotEq a b) ρ S = .ok (!c) S :=
  t_ne ha hb (by rw [h1, h2]; exact h)
theorem s_iteB {sub : Str → Str → Option Bool} {c : Bool} {d : D} {A : CSs} (h : evT O t ρ S = .ok c S) (ha : exSs sub O A ρ S = .ok (.rt d) S) : exS sub O (.ite t A .nil) ρ S = .ok (if c then .rt d else .nx ρ) S := by
  cases c with
  | true => rw [s_then h ha]; rfl
  | false => rw [s_skip h]; rfl
end
theorem compL_filter {f : D → Sto → R (Option D)} {p : D → Bool} {S : Sto} : ∀ (l : List D), (∀ d ∈ l, f d S = .ok (if p d then some d else none) S) → compL f l S = .ok (l.filter p) S
  | [], _ => rfl
  | d :: r, h => by
    unfold compL
    rw [h d List.mem_cons_self]
    show (compL f r S).bind _ = _
    rw [compL_filter r fun e he => h e (List.mem_cons_of_mem _ he)]
    cases q : p d <;> simp [q, R.bind]
theorem filter_none (p : D → Bool) (xs : List D) : (xs.filter fun d => !p d).isEmpty = xs.all p := by
  induction xs with
  | nil => rfl
  | cons x r ih => cases q : p x <;> simp [q, ih]
theorem cF_eq {O : Orc} {own : List Nat} {tg : CTg} {e : CE} {ρ ρ1 : Gx.Env} {S S2 : Sto} {d y : D} (h : evTg O tg d (wipeE ρ own) S = .ok ρ1 S) (he : evE O e ρ1 S = .ok y S2) : cF O own tg .non e ρ d S = .ok (some y) S2 := by
  unfold cF
  rw [h]
  simp only [bind_ok', evTo, if_true, he]
theorem cF_if {O : Orc} {own : List Nat} {tg : CTg} {t : CT} {e : CE} {ρ ρ1 : Gx.Env} {S : Sto} {d y : D} {c : Bool} (h : evTg O tg d (wipeE ρ own) S = .ok ρ1 S) (ht : evT O t ρ1 S = .ok c S) (he : evE O e ρ1 S = .ok y S) : cF O own tg (.som t) e ρ d S = .ok (if c then some y else none) S := by
  unfold cF
  rw [h]
  simp only [bind_ok', evTo, ht]
  cases c with
  | true => simp only [if_true, he, bind_ok']
  | false => simp only [Bool.false_eq_true, if_false]
theorem forL_rt {f : D → Gx.Env → Sto → R Out} {d v : D} {r : List D} {ρ : Gx.Env} {S S1 : Sto} (h : f d ρ S = .ok (.rt v) S1) : forL f (d :: r) ρ S = .ok (.rt v) S1 := by
  unfold forL
  rw [h]
  rfl
theorem forL_tb {O : Orc} {sub : Str → Str → Option Bool} {ρ ρ2 : Gx.Env} {S S1 : Sto} {tg : CTg} {b : CSs} {d : D} {r : R Out} (h1 : evTg O tg d ρ S = .ok ρ2 S1) (h2 : exSs sub O b ρ2 S1 = r) : ((evTg O tg d ρ S).bind fun ρ2 S3 => exSs sub O b ρ2 S3) = r := by
  rw [h1]
  exact h2
theorem wp_forL_cons {f : D → Gx.Env → Sto → R Out} {d : D} {r : List D} {ρ : Gx.Env} {S : Sto} {Q : Out → Sto → Prop} (h : Wp (f d ρ S) fun o S1 => ∃ ρ1, o = .nx ρ1 ∧ Wp (forL f r ρ1 S1) Q) : Wp (forL f (d :: r) ρ S) Q := by
  obtain ⟨o, S1, e, ρ1, rfl, q⟩ := h
  unfold forL
  rw [e]
  exact q
theorem pl_tIs {m k : Nat} (l : List Int) (h : l.length ≤ m) : Pl m (k + 1) (tIs l) :=
  ⟨by rw [List.length_map]; exact h, fun x hx => by obtain ⟨i, _, rfl⟩ := List.mem_map.mp hx; exact pl_int⟩
theorem octsB_tIs {hi : Nat} {l : List Int} (h : octs l) (hl : l.length ≤ hi) : octsB hi (tIs l) = true := by
  show (decide ((l.map D.int).length ≤ hi) && (l.map D.int).all (wholeB 0 255)) = true
  rw [List.length_map, decide_eq_true hl, Bool.true_and, List.all_map]
  refine List.all_eq_true.mpr fun i hi => ?_
  have := h i hi
  show (decide (0 ≤ i) && decide (i ≤ 255)) = true
  rw [decide_eq_true this.1, decide_eq_true this.2]
  rfl
/-! ### what is common -/
def inB (k : List Int) (i : Int) : Bool := L2.inV (.int i) (k.map V.int)
theorem in_ints (k : List Int) (i : Int) : inD (.int i) (k.map D.int) = some (inB k i) := by
  have hf : (k.map D.int).all flat = true := List.all_eq_true.mpr fun x hx => by obtain ⟨j, _, rfl⟩ := List.mem_map.mp hx; rfl
  unfold inD
  rw [if_pos (by rw [hf]; rfl), List.map_map]
  rfl
theorem inB_head (i : Int) (r : List Int) : inB (i :: r) i = true := by
  unfold inB L2.inV
  simp [L2.eqV]
def fcI (l k : List Int) : Option Int := (l.filter (inB k)).head?
def optD : Option Int → D
  | some i => .int i
  | none => .non
def agrD : Option Int → Option Int → Option Int → D
  | some x, some y, some z => tIs [x, y, z]
  | _, _, _ => .non
theorem none_in (x y z : Option Int) : inD .non [optD x, optD y, optD z] = some (x.isNone || y.isNone || z.isNone) := by
  cases x <;> cases y <;> cases z <;> rfl
theorem filter_ints (p : Int → Bool) (q : D → Bool) (h : ∀ i, q (.int i) = p i) : ∀ l : List Int, (l.map D.int).filter q = (l.filter p).map D.int
  | [] => rfl
  | i :: r => by
    rw [List.map_cons, List.filter_cons, List.filter_cons, h i, filter_ints p q h r]
    cases p i <;> rfl
theorem shows_agr (x y z : Option Int) (h : ∀ i, (x = some i ∨ y = some i ∨ z = some i) → 0 ≤ i ∧ i < 18446744073709551616) : Shows (agrD x y z) := by
  cases x with
  | none => exact shows_non
  | some a => cases y with
    | none => exact shows_non
    | some b => cases z with
      | none => exact shows_non
      | some c => exact shows_ints _ (fun i hi => by
          simp only [List.mem_cons, List.not_mem_nil, or_false] at hi
          rcases hi with rfl | rfl | rfl
          · exact h _ (.inl rfl)
          · exact h _ (.inr (.inl rfl))
          · exact h _ (.inr (.inr rfl))) (by show 3 ≤ 500000; decide)
theorem fcI_mem {l k : List Int} {i : Int} (h : fcI l k = some i) : i ∈ l := by
  unfold fcI at h
  exact (List.mem_filter.mp (List.mem_of_head? h)).1
theorem fcI_self (l : List Int) : fcI l l = l.head? := by
  cases l with
  | nil => rfl
  | cons i r =>
    unfold fcI
    rw [List.filter_cons, if_pos (inB_head i r)]
    rfl
theorem take1 (l : List Int) : l.take 1 = l.head?.toList := by cases l <;> rfl
def lsD (w : Int) (a b c : List Int) : D := .tup [.str "lists", .int w, tIs a, tIs b, tIs c]
def lsOk (w : Int) (a b c : List Int) : Prop := 0 ≤ w ∧ w ≤ 18446744073709551615 ∧ (octs a ∧ a.length ≤ 4) ∧ (octs b ∧ b.length ≤ 4) ∧ octs c ∧ c.length ≤ 4
theorem pl_ls (w : Int) (a b c : List Int) (h : lsOk w a b c) : Pl 99 2 (lsD w a b c) := by
  obtain ⟨_, _, h1, h2, h3⟩ := h
  refine ⟨by show 5 ≤ 99; decide, fun x hx => ?_⟩
  simp only [List.mem_cons, List.not_mem_nil, or_false] at hx
  rcases hx with rfl | rfl | rfl | rfl | rfl
  · exact pl_str (by decide +kernel)
  · exact pl_int
  · exact pl_tIs a (by omega)
  · exact pl_tIs b (by omega)
  · exact pl_tIs c (by omega)
def rowL (w : Int) (a b c : List Int) : List Int := (((20 :: octB 8 w) ++ ((a.length : Int) :: a)) ++ ((b.length : Int) :: b)) ++ ((c.length : Int) :: c)
/-! ### cuts -/
theorem cut_mem {xs : List D} {lo hi : Option Int} {x : D} (h : x ∈ Gx.cutD xs lo hi) : x ∈ xs := List.mem_of_mem_drop (List.mem_of_mem_take h)
theorem cut_lo (xs : List D) (a : Nat) : (Gx.cutD xs none (some (a : Int))).length ≤ a := by
  unfold Gx.cutD
  rw [List.length_take, HT.sIx_nat, HT.sIx_none]
  omega
theorem cut_hi (xs : List D) (a : Nat) : (Gx.cutD xs (some (a : Int)) none).length ≤ xs.length - a := by
  unfold Gx.cutD
  rw [List.length_take, HT.sIx_nat, HT.sIx_none]
  omega
theorem cut_mid (xs : List D) (a b : Nat) : (Gx.cutD xs (some (a : Int)) (some (b : Int))).length ≤ b - a := by
  unfold Gx.cutD
  rw [List.length_take, HT.sIx_nat, HT.sIx_nat]
  omega
theorem add_tups {a b : List D} (h : a.length + b.length ≤ sz) : bopD .Add (.tup a) (.tup b) = some (.tup (a ++ b)) := by
  simp only [bopD]
  rw [if_pos h]
end Gx
set_option Elab.async false
set_option linter.all false
set_option maxRecDepth 100000
set_option maxHeartbeats 4000000
/-! Gx: 7 is a root of order 2147483646; agreed powers. -/
namespace Gx
open PySem PySem.Spec PyProof.Rows L2
def One (a : Nat) : Prop := (7 : Int) ^ a % pM = 1
theorem one_mod {a b : Nat} (ha : One a) (hb : One b) : One (a % b) := (pow_period b hb a).symm.trans ha
theorem one_gcd (a b : Nat) : One a → One b → One (Nat.gcd a b) := by
  induction a, b using Nat.gcd.induction with
  | H0 b => intro _ h; rw [Nat.gcd_zero_left]; exact h
  | H1 a b h0 ih => intro ha hb; rw [Nat.gcd_rec]; exact ih (one_mod hb ha) ha
theorem one_mul {g : Nat} (h : One g) (c : Nat) : One (g * c) := by
  unfold One at *
  rw [Int.pow_mul, ← pow_mod, h, Int.one_pow]
  decide
theorem one_no (k : Nat) (h : fp 31 1 7 k ≠ 1) (hk : k < 2 ^ 31) : ¬ One k := fun o => h (by rw [fp_eq 31 1 7 k hk (by decide) (by decide), Int.one_mul]; exact o)
theorem cop {c q : Nat} (hq : ∀ d, d < q + 1 → d ∣ q → d = 1 ∨ d = q) (h0 : 0 < q) (h : ¬ q ∣ c) : Nat.Coprime c q := by
  have d1 := Nat.gcd_dvd_right c q
  rcases hq _ (by have := Nat.le_of_dvd h0 d1; omega) d1 with e | e
  · exact e
  · exact absurd (e ▸ Nat.gcd_dvd_left c q) h
theorem seven_one (m : Nat) (h0 : 0 < m) (h1 : m < 2147483646) : ¬ One m := by
  intro hm
  obtain ⟨M, hM⟩ : ∃ M : Nat, M = 2147483646 := ⟨_, rfl⟩
  have hMo : One M := seven M hM
  have hg : One (Nat.gcd m M) := one_gcd m M hm hMo
  obtain ⟨c, hc⟩ := Nat.gcd_dvd_right m M
  have gm : Nat.gcd m M ≤ m := Nat.le_of_dvd h0 (Nat.gcd_dvd_left m M)
  generalize Nat.gcd m M = g at hg hc gm
  have no : ∀ q : Nat, 0 < q → (∀ k, q * k = 2147483646 → fp 31 1 7 k ≠ 1 ∧ k < 2 ^ 31) → ¬ q ∣ c := by
    rintro q hq0 hk ⟨d, rfl⟩
    have e : q * (g * d) = 2147483646 := by rw [← hM, hc, Nat.mul_left_comm]
    obtain ⟨a, b⟩ := hk _ e
    exact one_no _ a b (one_mul hg d)
  have wr : ∀ (q k : Nat), 0 < q → q * k = 2147483646 → fp 31 1 7 k ≠ 1 → k < 2 ^ 31 → ¬ q ∣ c := fun q k hq e h hk => no q hq fun k' e' => by
    have : k' = k := Nat.eq_of_mul_eq_mul_left hq (e'.trans e.symm)
    subst this
    exact ⟨h, hk⟩
  have n2 := wr 2 1073741823 (by decide) (by decide) (by decide +kernel) (by decide)
  have n3 := wr 3 715827882 (by decide) (by decide) (by decide +kernel) (by decide)
  have n7 := wr 7 306783378 (by decide) (by decide) (by decide +kernel) (by decide)
  have n11 := wr 11 195225786 (by decide) (by decide) (by decide +kernel) (by decide)
  have n31 := wr 31 69273666 (by decide) (by decide) (by decide +kernel) (by decide)
  have n151 := wr 151 14221746 (by decide) (by decide) (by decide +kernel) (by decide)
  have n331 := wr 331 6487866 (by decide) (by decide) (by decide +kernel) (by decide)
  have cM : Nat.Coprime c (2 * (3 * (3 * (7 * (11 * (31 * (151 * 331))))))) :=
    (cop (by decide +kernel) (by decide) n2).mul_right ((cop (by decide +kernel) (by decide) n3).mul_right ((cop (by decide +kernel) (by decide) n3).mul_right ((cop (by decide +kernel) (by decide) n7).mul_right ((cop (by decide +kernel) (by decide) n11).mul_right ((cop (by decide +kernel) (by decide) n31).mul_right ((cop (by decide +kernel) (by decide) n151).mul_right (cop (by decide +kernel) (by decide) n331)))))))
  have e : 2 * (3 * (3 * (7 * (11 * (31 * (151 * 331)))))) = M := by rw [hM]
  rw [e] at cM
  have c1 : c = 1 := by
    have : Nat.gcd c M = c := Nat.gcd_eq_left ⟨g, by rw [hc, Nat.mul_comm]⟩
    rw [← this]
    exact cM
  rw [c1, Nat.mul_one] at hc
  omega
theorem pw7_good (m : Int) (h0 : 1 ≤ m) (h1 : m ≤ 2147483645) : 2 ≤ pwI 7 m ∧ pwI 7 m ≤ 2147483646 := by
  have b := pwI_bound 7 m
  have n0 : pwI 7 m ≠ 0 := seven_ne 2147483646 m.toNat (seven _ rfl) (by omega)
  have n1 : pwI 7 m ≠ 1 := seven_one m.toNat (by omega) (by omega)
  omega
theorem dh (a b : Int) : pwI (pwI 7 b) a = pwI (pwI 7 a) b := by
  unfold pwI
  rw [pow_mod, pow_mod, ← Int.pow_mul, ← Int.pow_mul, Nat.mul_comm]
end Gx
set_option Elab.async false
set_option linter.all false
set_option maxRecDepth 100000
set_option maxHeartbeats 4000000
/-! Gx: lists that leave a def; streams and ciphers. -/
namespace Gx
open PySem PySem.Spec PyProof.Rows L2
theorem frz_ints (n : Nat) (S : Sto) (m : Nat) : ∀ l : List Int, (l.map D.int).mapM (frz n S (m + 1)) = some (l.map D.int)
  | [] => rfl
  | i :: r => by
    rw [List.map_cons, List.mapM_cons, frz_ints n S m r]
    rfl
theorem shut_cup {S : Sto} (h : cupOk S) : shut S = true := by
  obtain ⟨a, b, rfl, _⟩ := h
  rfl
theorem leave_loc {S : Sto} {l : List Int} (h : shut S = true) : leave false S.length (.loc S.length) (S ++ [.lst (l.map D.int)]) = .ok (.lst (l.map D.int)) S := by
  unfold leave
  rw [if_neg (by simp), List.take_left, if_pos h]
  have e : frz S.length (S ++ [.lst (l.map D.int)]) 8 (.loc S.length) = some (.lst (l.map D.int)) := by
    show (if S.length < S.length then _ else _) = _
    rw [if_neg (Nat.lt_irrefl _)]
    simp only [List.getElem?_append_right (Nat.le_refl _), Nat.sub_self, List.getElem?_cons_zero]
    rw [frz_ints]
    rfl
  rw [e]
  rfl
theorem leave_tI {S : Sto} {o : Ob} {l : List Int} (h : shut S = true) : leave false S.length (tIs l) (S ++ [o]) = .ok (tIs l) S := by
  unfold leave
  rw [if_neg (by simp), List.take_left, if_pos h]
  have e : frz S.length (S ++ [o]) 8 (tIs l) = some (tIs l) := by
    show ((l.map D.int).mapM (frz S.length (S ++ [o]) 7)).map D.tup = _
    rw [frz_ints]
    rfl
  rw [e]
  rfl
variable {O : Orc} {ρ : Gx.Env} {S S1 S2 : Sto} {a b : CE}
theorem ev_ml {f : CF} {l : List D} (h : evF O f ρ S = .ok l S1) : evE O (.ml f) ρ S = .ok (.loc S1.length) (S1 ++ [.lst l]) := by
  simp only [evE, h]
  rfl
theorem ef_disp0 : evF O (.disp .nil) ρ S = .ok [] S := by simp [evF, evEs]
theorem ev_zips {xs ys : List D} (ha : evE O a ρ S = .ok (.tup xs) S1) (hb : evE O b ρ S1 = .ok (.lst ys) S2) : evF O (.zips a b) ρ S = .ok (pairsD xs ys) S2 := by
  simp only [evF, ha, hb, bind_ok']
theorem ei_zipTL {xs ys : List D} (ha : evE O a ρ S = .ok (.tup xs) S1) (hb : evE O b ρ S1 = .ok (.lst ys) S2) : evI O (.zip a b) ρ S = .ok (.items (pairsD xs ys)) S2 := by
  simp only [evI, ha, hb, bind_ok']
theorem ei_enumT {xs : List D} (ha : evE O a ρ S = .ok (.tup xs) S1) : evI O (.enum a) ρ S = .ok (.items (enumD 0 xs)) S1 := by
  simp only [evI, ha, bind_ok']
def prI (p : Int × Int) : D := .tup [.int p.1, .int p.2]
theorem pairs_ints : ∀ a b : List Int, pairsD (a.map D.int) (b.map D.int) = (a.zip b).map prI
  | [], b => by simp [pairsD]
  | _ :: _, [] => by simp [pairsD]
  | x :: a, y :: b => by
    have := pairs_ints a b
    simp only [pairsD, List.map_cons, List.zip_cons_cons] at this ⊢
    rw [this]
    rfl
theorem at_end {o : Ob} : (S ++ [o])[S.length]? = some o := by
  rw [List.getElem?_append_right (Nat.le_refl _), Nat.sub_self]
  rfl
theorem set_end {o o' : Ob} : (S ++ [o]).set S.length o' = S ++ [o'] := by
  rw [List.set_append_right _ _ (Nat.le_refl _), Nat.sub_self]
  rfl
theorem der_end {xs : List D} : der (S ++ [.lst xs]) (.loc S.length) = .lst xs := by
  show (match (S ++ [Ob.lst xs])[S.length]? with | some (Ob.lst xs) => D.lst xs | none => D.loc S.length) = _
  rw [at_end]
theorem s_else {sub : Str → Str → Option Bool} {t : CT} {A B : CSs} {o : Out} (h : evT O t ρ S = .ok false S1) (q : exSs sub O B ρ S1 = .ok o S2) : exS sub O (.ite t A B) ρ S = .ok o S2 := by
  simp only [exS, h, bind_ok', Bool.false_eq_true, if_false]
  exact q
theorem all2_map {α : Type} {f : D → D → Prop} {g h : α → D} : ∀ (l : List α), (∀ q, f (g q) (h q)) → All2 f (l.map g) (l.map h)
  | [], _ => .nil
  | q :: r, k => .cons (k q) (all2_map r k)
/-! ### streams -/
def trn (t : Int) : Int := (t * 6364136223846793005 + 1442695040888963407) % 18446744073709551616
def strL : Nat → Int → List Int
  | 0, _ => []
  | m + 1, t => trn t / 72057594037927936 :: strL m (trn t)
def strm (k x : Int) (m : Nat) : List Int := strL m (sumL 17 (octB 8 k ++ octB 8 x))
theorem trn_bound (t : Int) : 0 ≤ trn t ∧ trn t < 18446744073709551616 := by
  unfold trn
  omega
theorem strL_octs : ∀ (m : Nat) (t : Int), octs (strL m t)
  | 0, _ => fun _ h => by cases h
  | m + 1, t => fun i hi => by
    have b := trn_bound t
    rcases List.mem_cons.mp hi with rfl | h
    · omega
    · exact strL_octs m _ i h
theorem strL_len : ∀ (m : Nat) (t : Int), (strL m t).length = m
  | 0, _ => rfl
  | m + 1, t => by simp [strL, strL_len m]
theorem strL_take : ∀ (m j : Nat) (t : Int), (strL m t).take j = strL (min j m) t
  | 0, j, t => by simp [strL]
  | m + 1, 0, t => by simp [strL]
  | m + 1, j + 1, t => by
    rw [Nat.succ_min_succ]
    simp only [strL, List.take_succ_cons]
    rw [strL_take m j]
theorem strL_snoc (l : List Int) (m : Nat) (t : Int) (F : List Int) : F ++ strL (m + 1) t = (F ++ [trn t / 72057594037927936]) ++ strL m (trn t) := by simp [strL]
/-- enciphered, octet by octet -/
def ciO (a : Int) (p : Int × Int) : Int := if a = 1 then Builtin.bitXor p.1 p.2 else (p.1 + p.2) % 256
def deO (a : Int) (p : Int × Int) : Int := if a = 1 then Builtin.bitXor p.1 p.2 else (p.1 - p.2) % 256
def cyL (f : Int → Int × Int → Int) (a k x : Int) (p : List Int) : List Int := if a = 0 then p else (p.zip (strm k x p.length)).map (f a)
theorem ciO_oct {a x y : Int} (h : 0 ≤ x ∧ x ≤ 255) (h2 : 0 ≤ y ∧ y ≤ 255) : 0 ≤ ciO a (x, y) ∧ ciO a (x, y) ≤ 255 := by
  unfold ciO
  split
  · have := xor_bound 8 h.1 h2.1 (by omega) (by omega)
    show 0 ≤ Builtin.bitXor x y ∧ Builtin.bitXor x y ≤ 255
    omega
  · omega
theorem deO_oct {a x y : Int} (h : 0 ≤ x ∧ x ≤ 255) (h2 : 0 ≤ y ∧ y ≤ 255) : 0 ≤ deO a (x, y) ∧ deO a (x, y) ≤ 255 := by
  unfold deO
  split
  · have := xor_bound 8 h.1 h2.1 (by omega) (by omega)
    show 0 ≤ Builtin.bitXor x y ∧ Builtin.bitXor x y ≤ 255
    omega
  · omega
theorem xor_back {x y : Int} (h : 0 ≤ x) (h2 : 0 ≤ y) : Builtin.bitXor (Builtin.bitXor x y) y = x := by
  rw [Bits.bitXor_pp h h2, Bits.bitXor_pp (Int.natCast_nonneg _) h2, Int.toNat_natCast, Nat.xor_assoc, Nat.xor_self, Nat.xor_zero]
  omega
theorem de_ci {a x y : Int} (h : 0 ≤ x ∧ x ≤ 255) (h2 : 0 ≤ y ∧ y ≤ 255) : deO a (ciO a (x, y), y) = x := by
  unfold deO ciO
  by_cases e : a = 1
  · rw [if_pos e, if_pos e]
    exact xor_back h.1 h2.1
  · rw [if_neg e, if_neg e]
    show ((x + y) % 256 - y) % 256 = x
    omega
theorem cyL_octs {f : Int → Int × Int → Int} (hf : ∀ a x y, (0 ≤ x ∧ x ≤ 255) → (0 ≤ y ∧ y ≤ 255) → 0 ≤ f a (x, y) ∧ f a (x, y) ≤ 255) (a k x : Int) {p : List Int} (h : octs p) : octs (cyL f a k x p) := by
  unfold cyL
  split
  · exact h
  · intro i hi
    obtain ⟨⟨u, v⟩, hm, rfl⟩ := List.mem_map.mp hi
    obtain ⟨m1, m2⟩ := List.of_mem_zip hm
    exact hf a u v (h u m1) (strL_octs _ _ v m2)
theorem cyL_len {f : Int → Int × Int → Int} (a k x : Int) (p : List Int) : (cyL f a k x p).length = p.length := by
  unfold cyL
  split
  · rfl
  · rw [List.length_map, List.length_zip]
    show min p.length (strL p.length _).length = _
    rw [strL_len, Nat.min_self]
theorem zip_back {a : Int} : ∀ (p q : List Int), octs p → octs q → p.length = q.length → (((p.zip q).map (ciO a)).zip q).map (deO a) = p
  | [], q, _, _, _ => by simp
  | x :: p, [], _, _, h => by simp at h
  | x :: p, y :: q, hp, hq, h => by
    simp only [List.zip_cons_cons, List.map_cons]
    rw [zip_back p q (fun i hi => hp i (List.mem_cons_of_mem _ hi)) (fun i hi => hq i (List.mem_cons_of_mem _ hi)) (by simpa using h)]
    have := de_ci (a := a) (hp x (by simp)) (hq y (by simp))
    rw [this]
theorem cy_back (a k x : Int) (p : List Int) (h : octs p) : cyL deO a k x (cyL ciO a k x p) = p := by
  have e := cyL_len (f := ciO) a k x p
  unfold cyL at e ⊢
  by_cases z : a = 0
  · rw [if_pos z, if_pos z]
  · rw [if_neg z] at e
    rw [if_neg z, if_neg z, e]
    exact zip_back p _ h (strL_octs _ _) (strL_len _ _).symm
theorem cy_take (f : Int → Int × Int → Int) (a k x : Int) (p : List Int) (j : Nat) : cyL f a k x (p.take j) = (cyL f a k x p).take j := by
  unfold cyL
  by_cases z : a = 0
  · rw [if_pos z, if_pos z]
  · rw [if_neg z, if_neg z, ← List.map_take]
    congr 1
    show (p.take j).zip (strL (p.take j).length _) = (p.zip (strL p.length _)).take j
    simp only [List.zip, List.take_zipWith, strL_take, List.length_take]
end Gx
set_option Elab.async false
set_option linter.all false
set_option maxRecDepth 100000
set_option maxHeartbeats 0
namespace K25
open PySem PySem.Spec PyProof.Rows L2 Gx
abbrev PR : Program := PySem.Challenge.pw_shellgate_k25_whole_outcomes
def top (i : Nat) : Stmt := PR.main.body.getD i (.Pass ⟨0, 0, 0, 0⟩)
def c_is_whole : CSs := (.cons (.ret (.andV (.isi (.var 0) [.int]) (.andV (.notV (.isi (.var 0) [.bool])) (.chain .LtE .LtE (.var 1) (.var 0) (.var 2))))) .nil)
def c_is_tuple_of : CSs := (.cons (.ret (.andV (.isi (.var 0) [.tuple]) (.chain .LtE .LtE (.var 1) (.bi .len (.cons (.var 0) .nil)) (.var 2)))) .nil)
def c_fits_octets : CSs := (.cons (.ret (.andV (.call 1 "is_tuple_of" (.cons (.var 0) (.cons (.var 1) (.cons (.var 2) .nil)))) (.bi .all (.cons (.fl (.comp [3] (.nm 3) (.seq (.var 0)) .non (.call 0 "is_whole" (.cons (.var 3) (.cons (.cst (.int 0)) (.cons (.cst (.int 255)) .nil)))))) .nil)))) .nil)
def c_is_same : CSs := (.cons (.ite (.tru (.isi (.var 1) [.tuple])) (.cons (.ite (.or (.not (.tru (.isi (.var 0) [.tuple]))) (.cmp .NotEq (.bi .len (.cons (.var 0) .nil)) (.bi .len (.cons (.var 1) .nil)))) (.cons (.ret (.cst (.bl false))) .nil) .nil) (.cons (.ret (.bi .all (.cons (.fl (.comp [2, 3] (.tp (.cons (.nm 2) (.cons (.nm 3) .nil))) (.zip (.var 0) (.var 1)) .non (.call 3 "is_same" (.cons (.var 2) (.cons (.var 3) .nil))))) .nil))) .nil)) .nil) (.cons (.ite (.or (.cmp .Is (.var 1) (.cst .non)) (.cmp .Is (.var 0) (.cst .non))) (.cons (.ret (.andV (.cmp .Is (.var 0) (.cst .non)) (.cmp .Is (.var 1) (.cst .non)))) .nil) .nil) (.cons (.ite (.cmp .NotEq (.isi (.var 0) [.bool]) (.isi (.var 1) [.bool])) (.cons (.ret (.cst (.bl false))) .nil) .nil) (.cons (.ret (.andV (.isi (.var 0) [.int, .str]) (.andV (.cmp .Eq (.isi (.var 0) [.str]) (.isi (.var 1) [.str])) (.cmp .Eq (.var 0) (.var 1))))) .nil))))
def c_need_octets : CSs := (.cons (.ite (.not (.tru (.call 2 "fits_octets" (.cons (.var 0) (.cons (.cst (.int 0)) (.cons (.glob "MOST" (.int 20000)) .nil)))))) (.cons (.rse "InvalidOctets") .nil) .nil) .nil)
def c_octets_in : CSs := (.cons (.ret (.bi .tuple (.cons (.fl (.comp [2] (.nm 2) (.rng1 (.var 1)) .non (.bop .BitAnd (.bop .RShift (.var 0) (.bop .Mult (.cst (.int 8)) (.bop .Sub (.bop .Sub (.var 1) (.cst (.int 1))) (.var 2)))) (.cst (.int 255))))) .nil))) .nil)
def c_more_in : CSs := (.cons (.ret (.bop .Add (.glob "LEAST" (.int 2)) (.bop .Mod (.neg (.bop .Add (.bop .Add (.glob "HEAD_plainpackets" (.int 3)) (.var 0)) (.glob "LEAST" (.int 2)))) (.glob "BLOCK" (.int 8))))) .nil)
def c_plain_in : CSs := (.cons (.asg (.nm 1) (.bi .len (.cons (.var 0) .nil))) (.cons (.asg (.nm 2) (.call 6 "more_in" (.cons (.var 1) .nil))) (.cons (.ret (.bop .Add (.bop .Add (.tup (.cons (.bop .FloorDiv (.var 1) (.cst (.int 256))) (.cons (.bop .Mod (.var 1) (.cst (.int 256))) (.cons (.var 2) .nil)))) (.var 0)) (.bop .Mult (.tup (.cons (.cst (.int 0)) .nil)) (.var 2)))) .nil)))
def c_length_in : CSs := (.cons (.asg (.nm 1) (.bop .Add (.bop .Mult (.ix (.var 0) (.cst (.int 0))) (.cst (.int 256))) (.ix (.var 0) (.cst (.int 1))))) (.cons (.ret (.ife (.and (.cmp .LtE (.var 1) (.glob "PAYLOAD_squeezes" (.int 300))) (.cmp .Eq (.ix (.var 0) (.cst (.int 2))) (.call 6 "more_in" (.cons (.var 1) .nil)))) (.bop .Add (.bop .Add (.glob "HEAD_plainpackets" (.int 3)) (.var 1)) (.ix (.var 0) (.cst (.int 2)))) (.cst .non))) .nil))
def c_sum_in_b1 : CSs := (.cons (.asg (.nm 2) (.bop .Mod (.bop .Add (.bop .Mult (.bop .BitXor (.var 2) (.var 3)) (.glob "FACTOR" (.int 6364136223846793005))) (.glob "STEP" (.int 1442695040888963407))) (.glob "SPAN" (.int 18446744073709551616)))) (.cons (.asg (.nm 2) (.bop .BitXor (.var 2) (.bop .RShift (.var 2) (.cst (.int 29))))) .nil))
def c_sum_in : CSs := (.cons (.asg (.nm 2) (.var 0)) (.cons (.forS (.nm 3) (.seq (.var 1)) c_sum_in_b1) (.cons (.ret (.var 2)) .nil)))
def c_fits_setting : CSs := (.cons (.ite (.or (.not (.tru (.call 1 "is_tuple_of" (.cons (.var 0) (.cons (.cst (.int 4)) (.cons (.cst (.int 4)) .nil)))))) (.or (.not (.tru (.call 0 "is_whole" (.cons (.ix (.var 0) (.cst (.int 0))) (.cons (.cst (.int 0)) (.cons (.cst (.int 2)) .nil)))))) (.not (.tru (.call 0 "is_whole" (.cons (.ix (.var 0) (.cst (.int 2))) (.cons (.cst (.int 0)) (.cons (.cst (.int 2)) .nil)))))))) (.cons (.ret (.cst (.bl false))) .nil) .nil) (.cons (.ret (.andV (.call 0 "is_whole" (.cons (.ix (.var 0) (.cst (.int 1))) (.cons (.cst (.int 0)) (.cons (.glob "TOP" (.int 18446744073709551615)) .nil)))) (.call 0 "is_whole" (.cons (.ix (.var 0) (.cst (.int 3))) (.cons (.cst (.int 0)) (.cons (.glob "TOP" (.int 18446744073709551615)) .nil)))))) .nil))
def c_stream_in_b1 : CSs := (.cons (.asg (.nm 4) (.bop .Mod (.bop .Add (.bop .Mult (.var 4) (.glob "FACTOR" (.int 6364136223846793005))) (.glob "STEP" (.int 1442695040888963407))) (.glob "SPAN" (.int 18446744073709551616)))) (.cons (.app 5 (.bop .RShift (.var 4) (.cst (.int 56)))) .nil))
def c_stream_in : CSs := (.cons (.par [4, 5] (.cons (.call 9 "sum_in" (.cons (.glob "STREAM" (.int 17)) (.cons (.bop .Add (.call 5 "octets_in" (.cons (.var 0) (.cons (.glob "WORD" (.int 8)) .nil))) (.call 5 "octets_in" (.cons (.var 1) (.cons (.glob "WORD" (.int 8)) .nil)))) .nil))) (.cons (.ml (.disp .nil)) .nil))) (.cons (.forS (.nm 3) (.rng1 (.var 2)) c_stream_in_b1) (.cons (.ret (.var 5)) .nil)))
def c_plain_again : CSs := (.cons (.ite (.cmp .Eq (.ix (.var 0) (.cst (.int 0))) (.cst (.int 0))) (.cons (.ret (.var 2)) .nil) .nil) (.cons (.asg (.nm 3) (.fl (.zips (.var 2) (.call 11 "stream_in" (.cons (.ix (.var 0) (.cst (.int 1))) (.cons (.var 1) (.cons (.bi .len (.cons (.var 2) .nil)) .nil))))))) (.cons (.ret (.bi .tuple (.cons (.fl (.comp [4, 5] (.tp (.cons (.nm 4) (.cons (.nm 5) .nil))) (.seq (.var 3)) .non (.ife (.cmp .Eq (.ix (.var 0) (.cst (.int 0))) (.cst (.int 1))) (.bop .BitXor (.var 4) (.var 5)) (.bop .Mod (.bop .Sub (.var 4) (.var 5)) (.cst (.int 256)))))) .nil))) .nil)))
def c_need_setting : CSs := (.cons (.ite (.not (.tru (.call 10 "fits_setting" (.cons (.var 0) .nil)))) (.cons (.rse "InvalidSetting") .nil) .nil) .nil)
def c_check_in : CSs := (.cons (.ite (.cmp .Eq (.ix (.var 0) (.cst (.int 2))) (.cst (.int 0))) (.cons (.ret (.tup .nil)) .nil) .nil) (.cons (.asg (.nm 3) (.call 9 "sum_in" (.cons (.glob "CHECK" (.int 19)) (.cons (.bop .Add (.bop .Add (.call 5 "octets_in" (.cons (.ix (.var 0) (.cst (.int 3))) (.cons (.glob "WORD" (.int 8)) .nil))) (.call 5 "octets_in" (.cons (.var 1) (.cons (.glob "WORD" (.int 8)) .nil)))) (.var 2)) .nil)))) (.cons (.ret (.sl (.call 5 "octets_in" (.cons (.var 3) (.cons (.glob "WORD" (.int 8)) .nil))) (.som (.bop .Sub (.glob "WORD" (.int 8)) (.ix (.glob "SIZES" (.tup [(.int 0), (.int 4), (.int 8)])) (.ix (.var 0) (.cst (.int 2)))))) .non)) .nil)))
def c_need_payloads : CSs := (.cons (.ite (.or (.not (.tru (.call 1 "is_tuple_of" (.cons (.var 0) (.cons (.cst (.int 0)) (.cons (.glob "PACKETS" (.int 60)) .nil)))))) (.not (.tru (.bi .all (.cons (.fl (.comp [1] (.nm 1) (.seq (.var 0)) .non (.call 2 "fits_octets" (.cons (.var 1) (.cons (.cst (.int 0)) (.cons (.glob "PAYLOAD_sealing" (.int 300)) .nil)))))) .nil))))) (.cons (.rse "InvalidPayload") .nil) .nil) .nil)
def c_fed_in : CSs := (.cons (.ret (.bop .Add (.bop .Add (.sl (.var 0) .non (.som (.cst (.int 2)))) (.tup (.cons (.bop .Add (.ix (.var 0) (.cst (.int 2))) (.var 1)) .nil))) (.sl (.var 0) (.som (.cst (.int 3))) .non))) .nil)
def c_headed_b1 : CSs := (.cons (.ite (.cmp .Eq (.ix (.var 3) (.cst (.int 0))) (.ix (.glob "HEAD_sealing" (.tup [(.int 83), (.int 71), (.int 49), (.int 10)])) (.var 1))) (.cons (.par [1, 3] (.cons (.bop .Add (.var 1) (.cst (.int 1))) (.cons (.sl (.var 3) (.som (.cst (.int 1))) .non) .nil))) .nil) (.cons (.asg (.nm 4) (.cst (.str "head"))) .nil)) .nil)
def c_headed : CSs := (.cons (.asg (.tp (.cons (.nm 1) (.cons (.nm 2) (.cons (.nm 3) (.cons (.nm 4) .nil))))) (.var 0)) (.cons (.whl (.and (.cmp .Lt (.var 1) (.bi .len (.cons (.glob "HEAD_sealing" (.tup [(.int 83), (.int 71), (.int 49), (.int 10)])) .nil))) (.and (.cmp .NotEq (.var 3) (.tup .nil)) (.cmp .Eq (.var 4) (.cst (.str ""))))) c_headed_b1) (.cons (.ret (.tup (.cons (.var 1) (.cons (.var 2) (.cons (.var 3) (.cons (.var 4) .nil)))))) .nil)))
def c_pulled_in : CSs := (.cons (.asg (.nm 0) (.call 17 "headed" (.cons (.var 0) .nil))) (.cons (.asg (.tp (.cons (.nm 5) (.cons (.nm 6) (.cons (.nm 7) (.cons (.nm 8) .nil))))) (.var 0)) (.cons (.ite (.or (.cmp .NotEq (.var 8) (.cst (.str ""))) (.or (.cmp .Lt (.var 5) (.bi .len (.cons (.glob "HEAD_sealing" (.tup [(.int 83), (.int 71), (.int 49), (.int 10)])) .nil))) (.cmp .Lt (.bi .len (.cons (.var 7) .nil)) (.glob "FIRST" (.int 8))))) (.cons (.ret (.tup (.cons (.var 0) (.cons (.cst .non) .nil)))) .nil) .nil) (.cons (.asg (.nm 2) (.call 8 "length_in" (.cons (.call 12 "plain_again" (.cons (.var 1) (.cons (.var 6) (.cons (.sl (.var 7) .non (.som (.glob "FIRST" (.int 8)))) .nil)))) .nil))) (.cons (.ite (.cmp .Is (.var 2) (.cst .non)) (.cons (.ret (.tup (.cons (.tup (.cons (.var 5) (.cons (.var 6) (.cons (.var 7) (.cons (.cst (.str "length")) .nil))))) (.cons (.cst .non) .nil)))) .nil) .nil) (.cons (.asg (.nm 3) (.bop .Add (.var 2) (.ix (.glob "SIZES" (.tup [(.int 0), (.int 4), (.int 8)])) (.ix (.var 1) (.cst (.int 2)))))) (.cons (.ite (.cmp .Lt (.bi .len (.cons (.var 7) .nil)) (.var 3)) (.cons (.ret (.tup (.cons (.var 0) (.cons (.cst .non) .nil)))) .nil) .nil) (.cons (.asg (.nm 4) (.call 12 "plain_again" (.cons (.var 1) (.cons (.var 6) (.cons (.sl (.var 7) .non (.som (.var 2))) .nil))))) (.cons (.ite (.cmp .NotEq (.call 14 "check_in" (.cons (.var 1) (.cons (.var 6) (.cons (.var 4) .nil)))) (.sl (.var 7) (.som (.var 2)) (.som (.var 3)))) (.cons (.ret (.tup (.cons (.tup (.cons (.var 5) (.cons (.var 6) (.cons (.var 7) (.cons (.cst (.str "check")) .nil))))) (.cons (.cst .non) .nil)))) .nil) .nil) (.cons (.ret (.tup (.cons (.tup (.cons (.var 5) (.cons (.bop .Add (.var 6) (.cst (.int 1))) (.cons (.sl (.var 7) (.som (.var 3)) .non) (.cons (.var 8) .nil))))) (.cons (.var 4) .nil)))) .nil))))))))))
def c_all_in_b1 : CSs := (.cons (.app 2 (.var 3)) (.cons (.asg (.tp (.cons (.nm 0) (.cons (.nm 3) .nil))) (.call 18 "pulled_in" (.cons (.var 0) (.cons (.var 1) .nil)))) .nil))
def c_all_in : CSs := (.cons (.asg (.nm 2) (.ml (.disp .nil))) (.cons (.asg (.tp (.cons (.nm 0) (.cons (.nm 3) .nil))) (.call 18 "pulled_in" (.cons (.var 0) (.cons (.var 1) .nil)))) (.cons (.whl (.cmp .IsNot (.var 3) (.cst .non)) c_all_in_b1) (.cons (.ret (.tup (.cons (.var 0) (.cons (.var 2) .nil)))) .nil))))
def c_sort_of : CSs := (.cons (.ite (.cmp .Eq (.ix (.var 0) (.cst (.int 2))) (.cst (.int 0))) (.cons (.ret (.cst (.str "unchecked"))) .nil) .nil) (.cons (.ite (.cmp .GtE (.var 2) (.bi .len (.cons (.var 1) .nil))) (.cons (.ret (.cst (.str "chance"))) .nil) .nil) (.cons (.asg (.nm 4) (.call 14 "check_in" (.cons (.var 0) (.cons (.var 2) (.cons (.call 7 "plain_in" (.cons (.ix (.var 1) (.var 2)) .nil)) .nil))))) (.cons (.ret (.ife (.cmp .Eq (.var 4) (.call 14 "check_in" (.cons (.var 0) (.cons (.var 2) (.cons (.var 3) .nil))))) (.cst (.str "twin")) (.cst (.str "chance")))) .nil))))
def c_outcome_in_b1 : CSs := (.cons (.ite (.or (.cmp .GtE (.var 5) (.bi .len (.cons (.var 1) .nil))) (.cmp .NotEq (.var 6) (.call 7 "plain_in" (.cons (.ix (.var 1) (.var 5)) .nil)))) (.cons (.ret (.tup (.cons (.call 20 "sort_of" (.cons (.var 0) (.cons (.var 1) (.cons (.var 5) (.cons (.var 6) .nil))))) (.cons (.var 5) (.cons (.var 6) .nil))))) .nil) .nil) .nil)
def c_outcome_in : CSs := (.cons (.asg (.tp (.cons (.nm 3) (.cons (.nm 4) .nil))) (.call 19 "all_in" (.cons (.call 16 "fed_in" (.cons (.glob "FRESH" (.tup [(.int 0), (.int 0), (.tup []), (.str "")])) (.cons (.var 2) .nil))) (.cons (.var 0) .nil)))) (.cons (.forS (.tp (.cons (.nm 5) (.cons (.nm 6) .nil))) (.enum (.var 4)) c_outcome_in_b1) (.cons (.ret (.tup (.cons (.cst (.str "beginning")) (.cons (.bi .len (.cons (.var 4) .nil)) (.cons (.ix (.var 3) (.cst (.int 3))) .nil))))) .nil)))
def c_outcome_of : CSs := (.cons (.exp (.call 13 "need_setting" (.cons (.var 0) .nil))) (.cons (.exp (.call 15 "need_payloads" (.cons (.var 1) .nil))) (.cons (.exp (.call 4 "need_octets" (.cons (.var 2) .nil))) (.cons (.ret (.call 21 "outcome_in" (.cons (.var 0) (.cons (.var 1) (.cons (.var 2) .nil))))) .nil))))
def c_takes_outcome : CSs := (.cons (.exp (.call 13 "need_setting" (.cons (.var 0) .nil))) (.cons (.exp (.call 15 "need_payloads" (.cons (.var 1) .nil))) (.cons (.exp (.call 4 "need_octets" (.cons (.var 2) .nil))) (.cons (.ret (.call 3 "is_same" (.cons (.var 3) (.cons (.call 21 "outcome_in" (.cons (.var 0) (.cons (.var 1) (.cons (.var 2) .nil)))) .nil)))) .nil))))
def c_law_cup : CSs := (.cons (.asg (.nm 1) (.bi .abs (.cons (.ix (.fl (.op .Add (.fl (.ofs (.var 0))) (.fl (.disp (.cons (.cst (.int 0)) .nil))))) (.cst (.int 0))) .nil))) (.cons (.ret (.ml (.disp (.cons (.ife (.cmp .GtE (.var 1) (.bop .Pow (.cst (.int 10)) (.cst (.int 18)))) (.bop .FloorDiv (.var 1) (.cst (.int 131))) (.cst (.int 0))) (.cons (.bop .Add (.bop .Mod (.bi .int (.cons (.bop .Add (.bop .Mult (.var 1) (.cst (.int 359))) (.cst (.int 2801))) .nil)) (.cst (.int 2077503011))) (.cst (.int 233))) .nil))))) .nil))
def c_law_roll : CSs := (.cons (.ite (.cmp .Gt (.ix (.var 0) (.cst (.int 0))) (.cst (.int 0))) (.cons (.asg (.nm 3) (.bop .Mod (.bi .int (.cons (.ix (.var 0) (.cst (.int 0))) .nil)) (.var 1))) (.cons (.asg (.sub (.var 0) (.cst (.int 0))) (.bop .FloorDiv (.ix (.var 0) (.cst (.int 0))) (.var 1))) (.cons (.ret (.var 3)) .nil))) .nil) (.cons (.asg (.sub (.var 0) (.cst (.int 1))) (.bop .Mod (.bi .int (.cons (.bop .Add (.bop .Mult (.ix (.var 0) (.cst (.int 1))) (.cst (.int 31181))) (.cst (.int 8123))) .nil)) (.cst (.int 2147483543)))) (.cons (.asg (.nm 2) (.bop .Mod (.bi .int (.cons (.bop .Mult (.ix (.var 0) (.cst (.int 1))) (.bop .Add (.ix (.var 0) (.cst (.int 1))) (.cst (.int 307)))) .nil)) (.cst (.int 2147483587)))) (.cons (.ret (.bop .Mod (.bi .int (.cons (.bop .FloorDiv (.var 2) (.cst (.int 907))) .nil)) (.var 1))) .nil))))
def c_law_some : CSs := (.cons (.ret (.ix (.var 1) (.call 25 "_law_roll" (.cons (.var 0) (.cons (.bi .len (.cons (.var 1) .nil)) .nil))))) .nil)
def c_law_octets_b1 : CSs := (.cons (.asg (.nm 2) (.fl (.op .Add (.fl (.disp (.cons (.bop .Mod (.bi .int (.cons (.var 0) .nil)) (.cst (.int 256))) .nil))) (.var 2)))) (.cons (.asg (.nm 0) (.bop .FloorDiv (.var 0) (.cst (.int 256)))) .nil))
def c_law_octets : CSs := (.cons (.asg (.nm 2) (.fl (.disp .nil))) (.cons (.forS (.nm 3) (.rng1 (.var 1)) c_law_octets_b1) (.cons (.ret (.bi .tuple (.cons (.var 2) .nil))) .nil)))
def c_law_number_b1 : CSs := (.cons (.asg (.nm 1) (.bop .Add (.bop .Mult (.var 1) (.cst (.int 256))) (.var 2))) .nil)
def c_law_number : CSs := (.cons (.asg (.nm 1) (.cst (.int 0))) (.cons (.forS (.nm 2) (.seq (.var 0)) c_law_number_b1) (.cons (.ret (.var 1)) .nil)))
def c_law_sum_b1 : CSs := (.cons (.asg (.nm 4) (.bop .Mod (.bi .int (.cons (.var 2) .nil)) (.cst (.int 256)))) (.cons (.asg (.nm 2) (.bop .Mod (.bi .int (.cons (.bop .Add (.bop .Mult (.bop .Add (.bop .Sub (.var 2) (.var 4)) (.bop .BitXor (.var 4) (.var 3))) (.cst (.int 6364136223846793005))) (.cst (.int 1442695040888963407))) .nil)) (.bop .Pow (.cst (.int 2)) (.cst (.int 64))))) (.cons (.asg (.nm 2) (.bop .BitXor (.var 2) (.bop .FloorDiv (.var 2) (.bop .Pow (.cst (.int 2)) (.cst (.int 29)))))) .nil)))
def c_law_sum : CSs := (.cons (.asg (.nm 2) (.var 0)) (.cons (.forS (.nm 3) (.seq (.var 1)) c_law_sum_b1) (.cons (.ret (.var 2)) .nil)))
def c_law_bytes : CSs := (.cons (.ret (.bi .tuple (.cons (.fl (.comp [2] (.nm 2) (.rng1 (.var 1)) .non (.call 26 "_law_some" (.cons (.var 0) (.cons (.fl (.disp (.cons (.cst (.int 0)) (.cons (.cst (.int 1)) (.cons (.cst (.int 7)) (.cons (.cst (.int 254)) (.cons (.cst (.int 255)) (.cons (.call 25 "_law_roll" (.cons (.var 0) (.cons (.cst (.int 256)) .nil))) .nil)))))))) .nil))))) .nil))) .nil)
def c_law_word : CSs := (.cons (.ret (.call 28 "_law_number" (.cons (.bi .tuple (.cons (.fl (.comp [1] (.nm 1) (.rng1 (.cst (.int 8))) .non (.call 25 "_law_roll" (.cons (.var 0) (.cons (.cst (.int 256)) .nil))))) .nil)) .nil))) .nil)
def c_law_stream_b1 : CSs := (.cons (.asg (.nm 4) (.bop .Mod (.bi .int (.cons (.bop .Add (.bop .Mult (.var 4) (.cst (.int 6364136223846793005))) (.cst (.int 1442695040888963407))) .nil)) (.bop .Pow (.cst (.int 2)) (.cst (.int 64))))) (.cons (.app 5 (.bop .FloorDiv (.var 4) (.bop .Pow (.cst (.int 2)) (.cst (.int 56))))) .nil))
def c_law_stream : CSs := (.cons (.par [4, 5] (.cons (.call 29 "_law_sum" (.cons (.cst (.int 17)) (.cons (.bop .Add (.call 27 "_law_octets" (.cons (.var 0) (.cons (.cst (.int 8)) .nil))) (.call 27 "_law_octets" (.cons (.var 1) (.cons (.cst (.int 8)) .nil)))) .nil))) (.cons (.ml (.disp .nil)) .nil))) (.cons (.forS (.nm 3) (.rng1 (.var 2)) c_law_stream_b1) (.cons (.ret (.var 5)) .nil)))
def c_law_ciphered_b1 : CSs := (.cons (.ite (.cmp .Eq (.ix (.var 0) (.cst (.int 0))) (.cst (.int 1))) (.cons (.app 4 (.bop .BitXor (.var 5) (.var 6))) .nil) (.cons (.app 4 (.bop .Mod (.bi .int (.cons (.ife (.tru (.var 3)) (.bop .Sub (.var 5) (.var 6)) (.bop .Add (.var 5) (.var 6))) .nil)) (.cst (.int 256)))) .nil)) .nil)
def c_law_ciphered : CSs := (.cons (.ite (.cmp .Eq (.ix (.var 0) (.cst (.int 0))) (.cst (.int 0))) (.cons (.ret (.var 2)) .nil) .nil) (.cons (.asg (.nm 4) (.ml (.disp .nil))) (.cons (.forS (.tp (.cons (.nm 5) (.cons (.nm 6) .nil))) (.zip (.var 2) (.call 32 "_law_stream" (.cons (.ix (.var 0) (.cst (.int 1))) (.cons (.var 1) (.cons (.bi .len (.cons (.var 2) .nil)) .nil))))) c_law_ciphered_b1) (.cons (.ret (.bi .tuple (.cons (.var 4) .nil))) .nil))))
def c_law_check : CSs := (.cons (.asg (.nm 3) (.call 27 "_law_octets" (.cons (.call 29 "_law_sum" (.cons (.cst (.int 19)) (.cons (.bop .Add (.bop .Add (.call 27 "_law_octets" (.cons (.ix (.var 0) (.cst (.int 3))) (.cons (.cst (.int 8)) .nil))) (.call 27 "_law_octets" (.cons (.var 1) (.cons (.cst (.int 8)) .nil)))) (.var 2)) .nil))) (.cons (.cst (.int 8)) .nil)))) (.cons (.ret (.sl (.var 3) (.som (.bop .Sub (.cst (.int 8)) (.ix (.fl (.disp (.cons (.cst (.int 0)) (.cons (.cst (.int 4)) (.cons (.cst (.int 8)) .nil))))) (.ix (.var 0) (.cst (.int 2)))))) .non)) .nil))
def c_law_plain_b1 : CSs := (.cons (.asg (.nm 1) (.bop .Add (.var 1) (.cst (.int 1)))) .nil)
def c_law_plain : CSs := (.cons (.asg (.nm 1) (.cst (.int 2))) (.cons (.whl (.cmp .Gt (.bop .Mod (.bi .int (.cons (.bop .Add (.bop .Add (.cst (.int 3)) (.bi .len (.cons (.var 0) .nil))) (.var 1)) .nil)) (.cst (.int 8))) (.cst (.int 0))) c_law_plain_b1) (.cons (.ret (.bop .Add (.bop .Add (.bop .Add (.call 27 "_law_octets" (.cons (.bi .len (.cons (.var 0) .nil)) (.cons (.cst (.int 2)) .nil))) (.tup (.cons (.var 1) .nil))) (.var 0)) (.bop .Mult (.tup (.cons (.cst (.int 0)) .nil)) (.var 1)))) .nil)))
def c_law_sealed : CSs := (.cons (.asg (.nm 3) (.call 35 "_law_plain" (.cons (.var 2) .nil))) (.cons (.ret (.bop .Add (.call 33 "_law_ciphered" (.cons (.var 0) (.cons (.var 1) (.cons (.var 3) (.cons (.cst (.bl false)) .nil))))) (.call 34 "_law_check" (.cons (.var 0) (.cons (.var 1) (.cons (.var 3) .nil)))))) .nil))
def c_law_way_b1 : CSs := (.cons (.asg (.nm 2) (.bop .Add (.var 2) (.call 36 "_law_sealed" (.cons (.var 0) (.cons (.var 3) (.cons (.var 4) .nil)))))) .nil)
def c_law_way : CSs := (.cons (.asg (.nm 2) (.tup (.cons (.cst (.int 83)) (.cons (.cst (.int 71)) (.cons (.cst (.int 49)) (.cons (.cst (.int 10)) .nil)))))) (.cons (.forS (.tp (.cons (.nm 3) (.cons (.nm 4) .nil))) (.enum (.var 1)) c_law_way_b1) (.cons (.ret (.var 2)) .nil)))
def c_law_next : CSs := (.cons (.ite (.cmp .Lt (.bi .len (.cons (.var 2) .nil)) (.cst (.int 8))) (.cons (.ret (.tup (.cons (.cst (.str "")) (.cons (.cst .non) (.cons (.var 2) .nil))))) .nil) .nil) (.cons (.asg (.nm 3) (.call 33 "_law_ciphered" (.cons (.var 0) (.cons (.var 1) (.cons (.sl (.var 2) .non (.som (.cst (.int 8)))) (.cons (.cst (.bl true)) .nil)))))) (.cons (.asg (.nm 4) (.bop .Add (.bop .Mult (.ix (.var 3) (.cst (.int 0))) (.cst (.int 256))) (.ix (.var 3) (.cst (.int 1))))) (.cons (.ite (.or (.cmp .Gt (.var 4) (.cst (.int 300))) (.cmp .NotEq (.ix (.var 3) (.cst (.int 2))) (.bop .Sub (.bop .Sub (.bi .len (.cons (.call 35 "_law_plain" (.cons (.bop .Mult (.tup (.cons (.cst (.int 0)) .nil)) (.var 4)) .nil)) .nil)) (.var 4)) (.cst (.int 3))))) (.cons (.ret (.tup (.cons (.cst (.str "length")) (.cons (.cst .non) (.cons (.var 2) .nil))))) .nil) .nil) (.cons (.par [6, 7] (.cons (.bop .Add (.bop .Add (.cst (.int 3)) (.var 4)) (.ix (.var 3) (.cst (.int 2)))) (.cons (.ix (.fl (.disp (.cons (.cst (.int 0)) (.cons (.cst (.int 4)) (.cons (.cst (.int 8)) .nil))))) (.ix (.var 0) (.cst (.int 2)))) .nil))) (.cons (.ite (.cmp .Lt (.bi .len (.cons (.var 2) .nil)) (.bop .Add (.var 6) (.var 7))) (.cons (.ret (.tup (.cons (.cst (.str "")) (.cons (.cst .non) (.cons (.var 2) .nil))))) .nil) .nil) (.cons (.asg (.nm 5) (.call 33 "_law_ciphered" (.cons (.var 0) (.cons (.var 1) (.cons (.sl (.var 2) .non (.som (.var 6))) (.cons (.cst (.bl true)) .nil)))))) (.cons (.ite (.cmp .NotEq (.call 34 "_law_check" (.cons (.var 0) (.cons (.var 1) (.cons (.var 5) .nil)))) (.sl (.var 2) (.som (.var 6)) (.som (.bop .Add (.var 6) (.var 7))))) (.cons (.ret (.tup (.cons (.cst (.str "check")) (.cons (.cst .non) (.cons (.var 2) .nil))))) .nil) .nil) (.cons (.ret (.tup (.cons (.cst (.str "")) (.cons (.var 5) (.cons (.sl (.var 2) (.som (.bop .Add (.var 6) (.var 7))) .non) .nil))))) .nil)))))))))
def c_law_taken_b1 : CSs := (.cons (.app 3 (.var 7)) (.cons (.asg (.tp (.cons (.nm 4) (.cons (.nm 7) (.cons (.nm 1) .nil)))) (.call 38 "_law_next" (.cons (.var 0) (.cons (.bi .len (.cons (.var 3) .nil)) (.cons (.var 1) .nil))))) .nil))
def c_law_taken_b2 : CSs := (.cons (.ite (.and (.cmp .Eq (.var 5) (.var 6)) (.cmp .Eq (.var 4) (.cst (.str "")))) (.cons (.asg (.nm 2) (.bop .Add (.var 2) (.cst (.int 1)))) .nil) (.cons (.asg (.nm 4) (.cst (.str "head"))) .nil)) .nil)
def c_law_taken : CSs := (.cons (.par [2, 3, 4] (.cons (.cst (.int 0)) (.cons (.ml (.disp .nil)) (.cons (.cst (.str "")) .nil)))) (.cons (.forS (.tp (.cons (.nm 5) (.cons (.nm 6) .nil))) (.zip (.sl (.var 1) .non (.som (.cst (.int 4)))) (.tup (.cons (.cst (.int 83)) (.cons (.cst (.int 71)) (.cons (.cst (.int 49)) (.cons (.cst (.int 10)) .nil)))))) c_law_taken_b2) (.cons (.asg (.nm 1) (.sl (.var 1) (.som (.var 2)) .non)) (.cons (.ite (.cmp .Lt (.var 2) (.cst (.int 4))) (.cons (.ret (.tup (.cons (.var 2) (.cons (.fl (.disp .nil)) (.cons (.var 1) (.cons (.var 4) .nil)))))) .nil) .nil) (.cons (.asg (.tp (.cons (.nm 4) (.cons (.nm 7) (.cons (.nm 1) .nil)))) (.call 38 "_law_next" (.cons (.var 0) (.cons (.cst (.int 0)) (.cons (.var 1) .nil))))) (.cons (.whl (.cmp .IsNot (.var 7) (.cst .non)) c_law_taken_b1) (.cons (.ret (.tup (.cons (.cst (.int 4)) (.cons (.var 3) (.cons (.var 1) (.cons (.var 4) .nil)))))) .nil)))))))
def c_law_setting : CSs := (.cons (.asgc false 1 (.comp [2] (.nm 2) (.rng1 (.cst (.int 2))) .non (.call 26 "_law_some" (.cons (.var 0) (.cons (.fl (.disp (.cons (.cst (.int 0)) (.cons (.cst (.int 5)) (.cons (.bop .Sub (.bop .Pow (.cst (.int 2)) (.cst (.int 64))) (.cst (.int 1))) (.cons (.call 31 "_law_word" (.cons (.var 0) .nil)) .nil)))))) .nil))))) (.cons (.ret (.tup (.cons (.call 25 "_law_roll" (.cons (.var 0) (.cons (.cst (.int 3)) .nil))) (.cons (.ix (.var 1) (.cst (.int 0))) (.cons (.call 25 "_law_roll" (.cons (.var 0) (.cons (.cst (.int 3)) .nil))) (.cons (.ix (.var 1) (.cst (.int 1))) .nil)))))) .nil))
def c_law_payloads : CSs := (.cons (.ret (.bi .tuple (.cons (.fl (.comp [2] (.nm 2) (.rng1 (.var 1)) .non (.call 30 "_law_bytes" (.cons (.var 0) (.cons (.call 26 "_law_some" (.cons (.var 0) (.cons (.fl (.disp (.cons (.cst (.int 0)) (.cons (.cst (.int 1)) (.cons (.cst (.int 2)) (.cons (.cst (.int 3)) (.cons (.cst (.int 5)) (.cons (.cst (.int 11)) .nil)))))))) .nil))) .nil))))) .nil))) .nil)
def c_law_same : CSs := (.cons (.ite (.or (.tru (.isi (.var 0) [.bool])) (.tru (.isi (.var 1) [.bool]))) (.cons (.ret (.andV (.isi (.var 0) [.bool]) (.andV (.isi (.var 1) [.bool]) (.cmp .Eq (.var 0) (.var 1))))) .nil) .nil) (.cons (.ite (.and (.tru (.isi (.var 0) [.tuple])) (.tru (.isi (.var 1) [.tuple]))) (.cons (.ret (.andV (.cmp .Eq (.bi .len (.cons (.var 0) .nil)) (.bi .len (.cons (.var 1) .nil))) (.cmp .Eq (.fl (.comp [2, 3] (.tp (.cons (.nm 2) (.cons (.nm 3) .nil))) (.zip (.var 0) (.var 1)) (.som (.not (.tru (.call 42 "_law_same" (.cons (.var 2) (.cons (.var 3) .nil)))))) (.cst (.int 1)))) (.fl (.disp .nil))))) .nil) .nil) (.cons (.ret (.andV (.notV (.isi (.var 0) [.tuple])) (.andV (.notV (.isi (.var 1) [.tuple])) (.cmp .Eq (.var 0) (.var 1))))) .nil)))
def c_law_outcome_b1 : CSs := (.cons (.ite (.or (.cmp .GtE (.var 7) (.bi .len (.cons (.var 1) .nil))) (.cmp .NotEq (.var 8) (.call 35 "_law_plain" (.cons (.ix (.var 1) (.var 7)) .nil)))) (.cons (.ite (.cmp .Eq (.ix (.var 0) (.cst (.int 2))) (.cst (.int 0))) (.cons (.ret (.tup (.cons (.cst (.str "unchecked")) (.cons (.var 7) (.cons (.var 8) .nil))))) .nil) .nil) (.cons (.asg (.nm 9) (.andV (.cmp .Lt (.var 7) (.bi .len (.cons (.var 1) .nil))) (.cmp .Eq (.call 34 "_law_check" (.cons (.var 0) (.cons (.var 7) (.cons (.call 35 "_law_plain" (.cons (.ix (.var 1) (.var 7)) .nil)) .nil)))) (.call 34 "_law_check" (.cons (.var 0) (.cons (.var 7) (.cons (.var 8) .nil))))))) (.cons (.ret (.tup (.cons (.ife (.tru (.var 9)) (.cst (.str "twin")) (.cst (.str "chance"))) (.cons (.var 7) (.cons (.var 8) .nil))))) .nil))) .nil) .nil)
def c_law_outcome : CSs := (.cons (.asg (.tp (.cons (.nm 3) (.cons (.nm 4) (.cons (.nm 5) (.cons (.nm 6) .nil))))) (.call 39 "_law_taken" (.cons (.var 0) (.cons (.var 2) .nil)))) (.cons (.forS (.tp (.cons (.nm 7) (.cons (.nm 8) .nil))) (.enum (.var 4)) c_law_outcome_b1) (.cons (.ret (.tup (.cons (.cst (.str "beginning")) (.cons (.bi .len (.cons (.var 4) .nil)) (.cons (.var 6) .nil))))) .nil)))
def c_law_bent : CSs := (.cons (.ite (.and (.tru (.isi (.var 1) [.tuple])) (.and (.cmp .NotEq (.var 1) (.tup .nil)) (.cmp .Gt (.call 25 "_law_roll" (.cons (.var 0) (.cons (.cst (.int 5)) .nil))) (.cst (.int 0))))) (.cons (.asg (.nm 2) (.call 25 "_law_roll" (.cons (.var 0) (.cons (.bi .len (.cons (.var 1) .nil)) .nil)))) (.cons (.ret (.bop .Add (.bop .Add (.sl (.var 1) .non (.som (.var 2))) (.tup (.cons (.call 44 "_law_bent" (.cons (.var 0) (.cons (.ix (.var 1) (.var 2)) .nil))) .nil))) (.sl (.var 1) (.som (.bop .Add (.var 2) (.cst (.int 1)))) .non))) .nil)) .nil) (.cons (.ite (.and (.tru (.isi (.var 1) [.int])) (.not (.tru (.isi (.var 1) [.bool])))) (.cons (.ret (.call 26 "_law_some" (.cons (.var 0) (.cons (.fl (.disp (.cons (.bop .Add (.var 1) (.cst (.int 1))) (.cons (.bop .Sub (.var 1) (.cst (.int 1))) (.cons (.cmp .Eq (.var 1) (.cst (.int 1))) (.cons (.cst .non) .nil)))))) .nil)))) .nil) .nil) (.cons (.ret (.call 26 "_law_some" (.cons (.var 0) (.cons (.fl (.disp (.cons (.cst .non) (.cons (.tup .nil) (.cons (.cst (.str "twin")) (.cons (.cst (.str "chance")) (.cons (.cst (.str "beginning")) (.cons (.cst (.str "unchecked")) (.cons (.cst (.str "")) (.cons (.cst (.str "check")) .nil)))))))))) .nil)))) .nil)))
def c_law_b1 : CSs := (.cons (.ite (.not (.tru (.call 42 "_law_same" (.cons (.call 23 "takes_outcome" (.cons (.var 8) (.cons (.var 9) (.cons (.var 5) (.cons (.var 6) .nil))))) (.cons (.call 42 "_law_same" (.cons (.var 6) (.cons (.var 10) .nil))) .nil))))) (.cons (.ret (.cst (.bl false))) .nil) .nil) .nil)
def c_law_b2 : CSs := (.cons (.asg (.nm 10) (.call 43 "_law_outcome" (.cons (.var 8) (.cons (.var 9) (.cons (.var 5) .nil))))) (.cons (.ite (.not (.tru (.call 42 "_law_same" (.cons (.call 22 "outcome_of" (.cons (.var 8) (.cons (.var 9) (.cons (.var 5) .nil)))) (.cons (.var 10) .nil))))) (.cons (.ret (.cst (.bl false))) .nil) .nil) (.cons (.ite (.cmp .IsNot (.call 23 "takes_outcome" (.cons (.var 8) (.cons (.var 9) (.cons (.var 5) (.cons (.var 10) .nil))))) (.cst (.bl true))) (.cons (.ret (.cst (.bl false))) .nil) .nil) (.cons (.asg (.nm 11) (.fl (.op .Add (.fl (.comp [17] (.nm 17) (.rng1 (.cst (.int 3))) .non (.call 44 "_law_bent" (.cons (.var 1) (.cons (.var 10) .nil))))) (.fl (.disp (.cons (.sl (.var 10) .non (.som (.cst (.int 2)))) (.cons (.bop .Add (.var 10) (.tup (.cons (.cst (.int 0)) .nil))) (.cons (.fl (.ofs (.var 10))) (.cons (.cst .non) (.cons (.tup .nil) .nil)))))))))) (.cons (.asg (.nm 11) (.fl (.op .Add (.var 11) (.fl (.comp [18] (.nm 18) (.seq (.tup (.cons (.cst (.str "beginning")) (.cons (.cst (.str "twin")) (.cons (.cst (.str "chance")) (.cons (.cst (.str "unchecked")) .nil)))))) .non (.bop .Add (.tup (.cons (.var 18) .nil)) (.sl (.var 10) (.som (.cst (.int 1))) .non))))))) (.cons (.forS (.nm 6) (.seq (.var 11)) c_law_b1) .nil))))))
def c_law : CSs := (.cons (.asg (.nm 1) (.call 24 "_law_cup" (.cons (.var 0) .nil))) (.cons (.par [8, 9] (.cons (.call 40 "_law_setting" (.cons (.var 1) .nil)) (.cons (.call 41 "_law_payloads" (.cons (.var 1) (.cons (.bop .Add (.cst (.int 1)) (.call 25 "_law_roll" (.cons (.var 1) (.cons (.cst (.int 3)) .nil)))) .nil))) .nil))) (.cons (.asg (.nm 2) (.call 41 "_law_payloads" (.cons (.var 1) (.cons (.bop .Add (.cst (.int 1)) (.call 25 "_law_roll" (.cons (.var 1) (.cons (.cst (.int 3)) .nil)))) .nil)))) (.cons (.asg (.nm 3) (.call 25 "_law_roll" (.cons (.var 1) (.cons (.bop .Add (.bi .len (.cons (.var 9) .nil)) (.cst (.int 1))) .nil)))) (.cons (.asg (.nm 4) (.fl (.disp (.cons (.call 37 "_law_way" (.cons (.var 8) (.cons (.var 9) .nil))) (.cons (.call 37 "_law_way" (.cons (.var 8) (.cons (.bop .Add (.sl (.var 9) .non (.som (.var 3))) (.var 2)) .nil))) (.cons (.call 37 "_law_way" (.cons (.var 8) (.cons (.var 2) .nil))) .nil)))))) (.cons (.forS (.nm 5) (.seq (.fl (.op .Add (.var 4) (.fl (.disp (.cons (.sl (.ix (.var 4) (.cst (.int 0))) .non (.som (.call 25 "_law_roll" (.cons (.var 1) (.cons (.bi .len (.cons (.ix (.var 4) (.cst (.int 0))) .nil)) .nil))))) (.cons (.tup .nil) .nil))))))) c_law_b2) (.cons (.asg (.tp (.cons (.nm 12) (.cons (.nm 13) (.cons (.nm 14) .nil)))) (.tup (.cons (.tup (.cons (.cst (.int 0)) (.cons (.cst (.int 0)) (.cons (.cst (.int 1)) (.cons (.cst (.int 5)) .nil))))) (.cons (.tup (.cons (.cst (.int 10)) (.cons (.cst (.int 147)) (.cons (.cst (.int 0)) .nil)))) (.cons (.tup (.cons (.cst (.int 181)) (.cons (.cst (.int 239)) (.cons (.cst (.int 1)) .nil)))) .nil))))) (.cons (.par [15, 5] (.cons (.tup (.cons (.var 13) (.cons (.tup (.cons (.cst (.int 7)) .nil)) .nil))) (.cons (.call 37 "_law_way" (.cons (.var 12) (.cons (.tup (.cons (.var 14) .nil)) .nil))) .nil))) (.cons (.ite (.cmp .NotEq (.call 22 "outcome_of" (.cons (.var 12) (.cons (.var 15) (.cons (.var 5) .nil)))) (.tup (.cons (.cst (.str "twin")) (.cons (.cst (.int 0)) (.cons (.tup (.cons (.cst (.int 0)) (.cons (.cst (.int 3)) (.cons (.cst (.int 2)) (.cons (.cst (.int 181)) (.cons (.cst (.int 239)) (.cons (.cst (.int 1)) (.cons (.cst (.int 0)) (.cons (.cst (.int 0)) .nil))))))))) .nil))))) (.cons (.ret (.cst (.bl false))) .nil) .nil) (.cons (.ite (.cmp .NotEq (.call 22 "outcome_of" (.cons (.tup (.cons (.cst (.int 0)) (.cons (.cst (.int 0)) (.cons (.cst (.int 2)) (.cons (.cst (.int 5)) .nil))))) (.cons (.var 15) (.cons (.call 37 "_law_way" (.cons (.tup (.cons (.cst (.int 0)) (.cons (.cst (.int 0)) (.cons (.cst (.int 2)) (.cons (.cst (.int 5)) .nil))))) (.cons (.tup (.cons (.var 14) .nil)) .nil))) .nil)))) (.tup (.cons (.cst (.str "chance")) (.cons (.cst (.int 0)) (.cons (.tup (.cons (.cst (.int 0)) (.cons (.cst (.int 3)) (.cons (.cst (.int 2)) (.cons (.cst (.int 181)) (.cons (.cst (.int 239)) (.cons (.cst (.int 1)) (.cons (.cst (.int 0)) (.cons (.cst (.int 0)) .nil))))))))) .nil))))) (.cons (.ret (.cst (.bl false))) .nil) .nil) (.cons (.ite (.cmp .NotEq (.call 22 "outcome_of" (.cons (.var 12) (.cons (.tup .nil) (.cons (.var 5) .nil)))) (.tup (.cons (.cst (.str "chance")) (.cons (.cst (.int 0)) (.cons (.tup (.cons (.cst (.int 0)) (.cons (.cst (.int 3)) (.cons (.cst (.int 2)) (.cons (.cst (.int 181)) (.cons (.cst (.int 239)) (.cons (.cst (.int 1)) (.cons (.cst (.int 0)) (.cons (.cst (.int 0)) .nil))))))))) .nil))))) (.cons (.ret (.cst (.bl false))) .nil) .nil) (.cons (.ite (.cmp .NotEq (.call 22 "outcome_of" (.cons (.var 12) (.cons (.var 15) (.cons (.tup .nil) .nil)))) (.tup (.cons (.cst (.str "beginning")) (.cons (.cst (.int 0)) (.cons (.cst (.str "")) .nil))))) (.cons (.ret (.cst (.bl false))) .nil) .nil) (.cons (.ite (.cmp .NotEq (.call 22 "outcome_of" (.cons (.tup (.cons (.cst (.int 0)) (.cons (.cst (.int 0)) (.cons (.cst (.int 0)) (.cons (.cst (.int 0)) .nil))))) (.cons (.var 15) (.cons (.call 37 "_law_way" (.cons (.tup (.cons (.cst (.int 0)) (.cons (.cst (.int 0)) (.cons (.cst (.int 0)) (.cons (.cst (.int 0)) .nil))))) (.cons (.tup (.cons (.var 13) (.cons (.tup (.cons (.cst (.int 8)) .nil)) .nil))) .nil))) .nil)))) (.tup (.cons (.cst (.str "unchecked")) (.cons (.cst (.int 1)) (.cons (.tup (.cons (.cst (.int 0)) (.cons (.cst (.int 1)) (.cons (.cst (.int 4)) (.cons (.cst (.int 8)) (.cons (.cst (.int 0)) (.cons (.cst (.int 0)) (.cons (.cst (.int 0)) (.cons (.cst (.int 0)) .nil))))))))) .nil))))) (.cons (.ret (.cst (.bl false))) .nil) .nil) (.cons (.asg (.nm 6) (.tup (.cons (.cst (.int 83)) (.cons (.cst (.int 71)) (.cons (.cst (.int 49)) (.cons (.cst (.int 10)) (.cons (.cst (.int 0)) (.cons (.cst (.int 1)) (.cons (.cst (.int 4)) (.cons (.cst (.int 7)) (.cons (.cst (.int 0)) (.cons (.cst (.int 0)) (.cons (.cst (.int 1)) (.cons (.cst (.int 0)) .nil)))))))))))))) (.cons (.ite (.cmp .NotEq (.call 22 "outcome_of" (.cons (.tup (.cons (.cst (.int 0)) (.cons (.cst (.int 0)) (.cons (.cst (.int 0)) (.cons (.cst (.int 0)) .nil))))) (.cons (.tup (.cons (.tup (.cons (.cst (.int 7)) .nil)) .nil)) (.cons (.var 6) .nil)))) (.tup (.cons (.cst (.str "unchecked")) (.cons (.cst (.int 0)) (.cons (.tup (.cons (.cst (.int 0)) (.cons (.cst (.int 1)) (.cons (.cst (.int 4)) (.cons (.cst (.int 7)) (.cons (.cst (.int 0)) (.cons (.cst (.int 0)) (.cons (.cst (.int 1)) (.cons (.cst (.int 0)) .nil))))))))) .nil))))) (.cons (.ret (.cst (.bl false))) .nil) .nil) (.cons (.asgc false 7 (.comp [16] (.nm 16) (.seq (.tup (.cons (.cst .non) (.cons (.tup (.cons (.cst (.int 0)) (.cons (.cst (.int 0)) (.cons (.cst (.int 0)) .nil)))) .nil)))) .non (.lam 0 "_law_error" (.call 22 "outcome_of" (.cons (.var 16) (.cons (.cst .non) (.cons (.cst .non) .nil))))))) (.cons (.asg (.nm 7) (.fl (.op .Add (.var 7) (.fl (.comp [16] (.nm 16) (.seq (.tup (.cons (.cst .non) (.cons (.fl (.disp (.cons (.tup .nil) .nil))) (.cons (.tup (.cons (.tup (.cons (.cst (.int 256)) .nil)) .nil)) .nil))))) .non (.lam 0 "_law_error" (.call 22 "outcome_of" (.cons (.var 12) (.cons (.var 16) (.cons (.cst .non) .nil)))))))))) (.cons (.asg (.nm 7) (.fl (.op .Add (.var 7) (.fl (.comp [16] (.nm 16) (.seq (.tup (.cons (.cst .non) (.cons (.fl (.disp (.cons (.cst (.int 83)) .nil))) (.cons (.tup (.cons (.neg (.cst (.int 1))) .nil)) .nil))))) .non (.lam 0 "_law_error" (.call 22 "outcome_of" (.cons (.var 12) (.cons (.tup .nil) (.cons (.var 16) .nil)))))))))) (.cons (.asg (.nm 7) (.fl (.op .Add (.var 7) (.fl (.comp [16] (.nm 16) (.seq (.tup (.cons (.cst .non) (.cons (.tup (.cons (.cst (.int 0)) (.cons (.cst (.int 0)) (.cons (.cst (.int 0)) .nil)))) .nil)))) .non (.lam 0 "_law_error" (.call 23 "takes_outcome" (.cons (.var 16) (.cons (.cst .non) (.cons (.cst .non) (.cons (.cst .non) .nil))))))))))) (.cons (.asg (.nm 7) (.fl (.op .Add (.var 7) (.fl (.comp [16] (.nm 16) (.seq (.tup (.cons (.cst .non) (.cons (.fl (.disp (.cons (.tup .nil) .nil))) (.cons (.tup (.cons (.tup (.cons (.cst (.int 256)) .nil)) .nil)) .nil))))) .non (.lam 0 "_law_error" (.call 23 "takes_outcome" (.cons (.var 12) (.cons (.var 16) (.cons (.cst .non) (.cons (.cst .non) .nil))))))))))) (.cons (.asg (.nm 7) (.fl (.op .Add (.var 7) (.fl (.comp [16] (.nm 16) (.seq (.tup (.cons (.cst .non) (.cons (.fl (.disp (.cons (.cst (.int 83)) .nil))) (.cons (.tup (.cons (.neg (.cst (.int 1))) .nil)) .nil))))) .non (.lam 0 "_law_error" (.call 23 "takes_outcome" (.cons (.var 12) (.cons (.tup .nil) (.cons (.var 16) (.cons (.cst .non) .nil))))))))))) (.cons (.ret (.cmp .Eq (.var 7) (.fl (.op .Mult (.fl (.op .Add (.fl (.op .Add (.fl (.op .Mult (.fl (.disp (.cons (.cst (.str "setting")) .nil))) (.cst (.int 2)))) (.fl (.op .Mult (.fl (.disp (.cons (.cst (.str "payload")) .nil))) (.cst (.int 3)))))) (.fl (.op .Mult (.fl (.disp (.cons (.cst (.str "octets")) .nil))) (.cst (.int 3)))))) (.cst (.int 2)))))) .nil))))))))))))))))))))))
def c_law_error : CSs := (.cons (.ret (.cst (.str ""))) .nil)
def T : Tb where
  defs := [
  ⟨"is_whole", top 11, ["value", "low", "high"], ["value", "low", "high"], false, ⟨3, 3, false, c_is_whole⟩⟩,
  ⟨"is_tuple_of", top 12, ["value", "low", "high"], ["value", "low", "high"], false, ⟨3, 3, false, c_is_tuple_of⟩⟩,
  ⟨"fits_octets", top 13, ["value", "low", "high", "own"], ["value", "low", "high"], false, ⟨3, 4, false, c_fits_octets⟩⟩,
  ⟨"is_same", top 14, ["one", "other", "low", "high"], ["one", "other"], false, ⟨2, 4, false, c_is_same⟩⟩,
  ⟨"need_octets", top 15, ["value"], ["value"], false, ⟨1, 1, false, c_need_octets⟩⟩,
  ⟨"octets_in", top 16, ["number", "many", "at"], ["number", "many"], false, ⟨2, 3, false, c_octets_in⟩⟩,
  ⟨"more_in", top 22, ["many"], ["many"], false, ⟨1, 1, false, c_more_in⟩⟩,
  ⟨"plain_in", top 23, ["payload", "many", "more"], ["payload"], false, ⟨1, 3, false, c_plain_in⟩⟩,
  ⟨"length_in", top 24, ["first", "many"], ["first"], false, ⟨1, 2, false, c_length_in⟩⟩,
  ⟨"sum_in", top 29, ["start", "octets", "found", "own"], ["start", "octets"], false, ⟨2, 4, false, c_sum_in⟩⟩,
  ⟨"fits_setting", top 32, ["value"], ["value"], false, ⟨1, 1, false, c_fits_setting⟩⟩,
  ⟨"stream_in", top 33, ["key", "number", "many", "at", "turn", "found"], ["key", "number", "many"], false, ⟨3, 6, false, c_stream_in⟩⟩,
  ⟨"plain_again", top 34, ["setting", "number", "octets", "pairs", "own", "more"], ["setting", "number", "octets"], false, ⟨3, 6, false, c_plain_again⟩⟩,
  ⟨"need_setting", top 35, ["value"], ["value"], false, ⟨1, 1, false, c_need_setting⟩⟩,
  ⟨"check_in", top 42, ["setting", "number", "plain", "found"], ["setting", "number", "plain"], false, ⟨3, 4, false, c_check_in⟩⟩,
  ⟨"need_payloads", top 43, ["value", "own"], ["value"], false, ⟨1, 2, false, c_need_payloads⟩⟩,
  ⟨"fed_in", top 47, ["taker", "octets"], ["taker", "octets"], false, ⟨2, 2, false, c_fed_in⟩⟩,
  ⟨"headed", top 48, ["taker", "seen", "number", "rest", "word"], ["taker"], false, ⟨1, 5, false, c_headed⟩⟩,
  ⟨"pulled_in", top 49, ["taker", "setting", "many", "whole", "plain", "seen", "number", "rest", "word"], ["taker", "setting"], false, ⟨2, 9, false, c_pulled_in⟩⟩,
  ⟨"all_in", top 50, ["taker", "setting", "found", "plain"], ["taker", "setting"], false, ⟨2, 4, false, c_all_in⟩⟩,
  ⟨"sort_of", top 52, ["setting", "payloads", "number", "plain", "own"], ["setting", "payloads", "number", "plain"], false, ⟨4, 5, false, c_sort_of⟩⟩,
  ⟨"outcome_in", top 53, ["setting", "payloads", "octets", "taker", "found", "number", "plain"], ["setting", "payloads", "octets"], false, ⟨3, 7, false, c_outcome_in⟩⟩,
  ⟨"outcome_of", top 54, ["setting", "payloads", "octets"], ["setting", "payloads", "octets"], false, ⟨3, 3, false, c_outcome_of⟩⟩,
  ⟨"takes_outcome", top 55, ["setting", "payloads", "octets", "value"], ["setting", "payloads", "octets", "value"], false, ⟨4, 4, false, c_takes_outcome⟩⟩,
  ⟨"_law_cup", top 57, ["script", "cell"], ["script"], false, ⟨1, 2, true, c_law_cup⟩⟩,
  ⟨"_law_roll", top 58, ["cup", "many", "deep", "found"], ["cup", "many"], false, ⟨2, 4, false, c_law_roll⟩⟩,
  ⟨"_law_some", top 59, ["cup", "things"], ["cup", "things"], false, ⟨2, 2, false, c_law_some⟩⟩,
  ⟨"_law_octets", top 60, ["number", "many", "found", "at"], ["number", "many"], false, ⟨2, 4, false, c_law_octets⟩⟩,
  ⟨"_law_number", top 61, ["octets", "found", "own"], ["octets"], false, ⟨1, 3, false, c_law_number⟩⟩,
  ⟨"_law_sum", top 62, ["start", "octets", "found", "own", "low"], ["start", "octets"], false, ⟨2, 5, false, c_law_sum⟩⟩,
  ⟨"_law_bytes", top 63, ["cup", "many", "at"], ["cup", "many"], false, ⟨2, 3, false, c_law_bytes⟩⟩,
  ⟨"_law_word", top 64, ["cup", "at"], ["cup"], false, ⟨1, 2, false, c_law_word⟩⟩,
  ⟨"_law_stream", top 65, ["key", "number", "many", "at", "turn", "found"], ["key", "number", "many"], false, ⟨3, 6, false, c_law_stream⟩⟩,
  ⟨"_law_ciphered", top 66, ["setting", "number", "octets", "back", "found", "own", "more"], ["setting", "number", "octets", "back"], false, ⟨4, 7, false, c_law_ciphered⟩⟩,
  ⟨"_law_check", top 67, ["setting", "number", "plain", "own"], ["setting", "number", "plain"], false, ⟨3, 4, false, c_law_check⟩⟩,
  ⟨"_law_plain", top 68, ["payload", "many"], ["payload"], false, ⟨1, 2, false, c_law_plain⟩⟩,
  ⟨"_law_sealed", top 69, ["setting", "number", "payload", "plain"], ["setting", "number", "payload"], false, ⟨3, 4, false, c_law_sealed⟩⟩,
  ⟨"_law_way", top 70, ["setting", "payloads", "found", "number", "payload"], ["setting", "payloads"], false, ⟨2, 5, false, c_law_way⟩⟩,
  ⟨"_law_next", top 71, ["setting", "number", "octets", "front", "many", "plain", "long", "size"], ["setting", "number", "octets"], false, ⟨3, 8, false, c_law_next⟩⟩,
  ⟨"_law_taken", top 72, ["setting", "octets", "seen", "found", "word", "own", "due", "plain"], ["setting", "octets"], false, ⟨2, 8, false, c_law_taken⟩⟩,
  ⟨"_law_setting", top 73, ["cup", "keys", "turn"], ["cup"], false, ⟨1, 3, false, c_law_setting⟩⟩,
  ⟨"_law_payloads", top 74, ["cup", "many", "turn"], ["cup", "many"], false, ⟨2, 3, false, c_law_payloads⟩⟩,
  ⟨"_law_same", top 75, ["one", "other", "a", "b"], ["one", "other"], false, ⟨2, 4, false, c_law_same⟩⟩,
  ⟨"_law_outcome", top 77, ["setting", "payloads", "octets", "seen", "plains", "rest", "word", "at", "own", "twin"], ["setting", "payloads", "octets"], false, ⟨3, 10, false, c_law_outcome⟩⟩,
  ⟨"_law_bent", top 78, ["cup", "value", "at"], ["cup", "value"], false, ⟨2, 3, false, c_law_bent⟩⟩,
  ⟨"law", top 79, ["script", "cup", "others", "at", "ways", "octets", "odd", "words", "setting", "payloads", "due", "odds", "plain", "one", "other", "sent", "own", "turn", "word"], ["script"], true, ⟨1, 19, false, c_law⟩⟩]
  gds := [  ⟨"_law_error", top 76, ["call"], "call", ⟨false, [⟨"InvalidSetting", none, (.cst (.str "setting"))⟩, ⟨"InvalidNumber", none, (.cst (.str "number"))⟩, ⟨"InvalidOctets", none, (.cst (.str "octets"))⟩, ⟨"InvalidPayload", none, (.cst (.str "payload"))⟩, ⟨"InvalidTaker", none, (.cst (.str "taker"))⟩, ⟨"GateError", none, (.cst (.str "other"))⟩], 1, c_law_error⟩⟩]
  glob := [("BLOCK", .int 8), ("CHECK", .int 19), ("FACTOR", .int 6364136223846793005), ("FIRST", .int 8), ("FRESH", .tup [(.int 0), (.int 0), (.tup []), (.str "")]), ("HEAD_plainpackets", .int 3), ("HEAD_sealing", .tup [(.int 83), (.int 71), (.int 49), (.int 10)]), ("LEAST", .int 2), ("MOST", .int 20000), ("PACKETS", .int 60), ("PAYLOAD_sealing", .int 300), ("PAYLOAD_squeezes", .int 300), ("SIZES", .tup [(.int 0), (.int 4), (.int 8)]), ("SPAN", .int 18446744073709551616), ("STEP", .int 1442695040888963407), ("STREAM", .int 17), ("TOP", .int 18446744073709551615), ("WORD", .int 8)]
  free := ["abs", "all", "bool", "enumerate", "int", "isinstance", "len", "list", "range", "str", "tuple", "zip"]
  rps := []
  exs := ["GateError", "InvalidNumber", "InvalidOctets", "InvalidSetting", "InvalidPayload", "InvalidTaker"]
  subs := (([("GateError", "GateError", true), ("GateError", "InvalidNumber", false), ("GateError", "InvalidOctets", false), ("GateError", "InvalidSetting", false), ("GateError", "InvalidPayload", false), ("GateError", "InvalidTaker", false), ("InvalidNumber", "GateError", true), ("InvalidNumber", "InvalidNumber", true), ("InvalidNumber", "InvalidOctets", false), ("InvalidNumber", "InvalidSetting", false), ("InvalidNumber", "InvalidPayload", false), ("InvalidNumber", "InvalidTaker", false), ("InvalidOctets", "GateError", true), ("InvalidOctets", "InvalidNumber", false), ("InvalidOctets", "InvalidOctets", true), ("InvalidOctets", "InvalidSetting", false), ("InvalidOctets", "InvalidPayload", false), ("InvalidOctets", "InvalidTaker", false), ("InvalidSetting", "GateError", true), ("InvalidSetting", "InvalidNumber", false), ("InvalidSetting", "InvalidOctets", false), ("InvalidSetting", "InvalidSetting", true), ("InvalidSetting", "InvalidPayload", false), ("InvalidSetting", "InvalidTaker", false), ("InvalidPayload", "GateError", true), ("InvalidPayload", "InvalidNumber", false), ("InvalidPayload", "InvalidOctets", false), ("InvalidPayload", "InvalidSetting", false), ("InvalidPayload", "InvalidPayload", true), ("InvalidPayload", "InvalidTaker", false)] : List (Str × Str × Bool)) ++ ([("InvalidTaker", "GateError", true), ("InvalidTaker", "InvalidNumber", false), ("InvalidTaker", "InvalidOctets", false), ("InvalidTaker", "InvalidSetting", false), ("InvalidTaker", "InvalidPayload", false), ("InvalidTaker", "InvalidTaker", true)] : List (Str × Str × Bool)))
def loose : List Str := (["GateError", "InvalidNumber", "InvalidOctets", "InvalidSetting", "InvalidPayload", "InvalidTaker", "MOST", "WORD", "TOP", "is_whole", "is_tuple_of", "fits_octets", "is_same", "need_octets", "octets_in", "PAYLOAD_squeezes", "HEAD_plainpackets", "BLOCK", "LEAST", "more_in", "plain_in", "length_in", "FACTOR", "STEP", "SPAN", "sum_in", "STREAM", "fits_setting", "stream_in", "plain_again"] : List Str) ++ (["need_setting", "CHECK", "SIZES", "PAYLOAD_sealing", "PACKETS", "HEAD_sealing", "check_in", "need_payloads", "FRESH", "FIRST", "fed_in", "headed", "pulled_in", "all_in", "sort_of", "outcome_in", "outcome_of", "takes_outcome", "_law_cup", "_law_roll", "_law_some", "_law_octets", "_law_number", "_law_sum", "_law_bytes", "_law_word", "_law_stream", "_law_ciphered", "_law_check", "_law_plain"] : List Str) ++ (["_law_sealed", "_law_way", "_law_next", "_law_taken", "_law_setting", "_law_payloads", "_law_same", "_law_error", "_law_outcome", "_law_bent"] : List Str)
end K25
set_option Elab.async false
set_option linter.all false
set_option maxRecDepth 100000
set_option maxHeartbeats 0
namespace K25
open PySem PySem.Spec PyProof.Rows L2 Gx
abbrev RowL : PySem.W.OpenLaw := PySem.Challenge.rw_shellgate_k25_whole_outcomes
abbrev R : PySem.W.OpenRow := PySem.W.OpenLaw.row RowL
abbrev hk : PySem.W.Hook := He.hookX 5 T.fa T.fn [] T.lams T.ex
def ob (s : PySem.W.SharedT) : He.AlX := He.obsX 5 T.fa T.fn [] T.lams T.ex (HandSHeadRun.getT s)
theorem ob_eq (s : PySem.W.SharedT) : ob s = hk.obs s.abs := He.obsX_eq (HandSHeadRun.getT_eq s)
theorem hrun (w : World) : HandSHeadRun.RunEq R (PySem.W.view R.prog [79]) hk ob 9000 loose w := by
  intro os
  kernel_rfl
theorem chk : T.chk = true := by kernel_rfl
end K25
set_option Elab.async false
set_option linter.all false
set_option maxRecDepth 100000
set_option maxHeartbeats 4000000
namespace K25
open PySem PySem.Spec PyProof.Rows L2 Gx
section
variable {W n : Nat} {S : Sto}
theorem is_whole (i lo hi : Int) (hn : 1 ≤ n) : C T.prg W n 0 [.int i, .int lo, .int hi] S = .ok (.bl (decide (lo ≤ i) && decide (i ≤ hi))) S := by
  obtain ⟨n, rfl⟩ : ∃ m, n = m + 1 := ⟨n - 1, by omega⟩
  rw [call_eq (d := ⟨3, 3, false, c_is_whole⟩) rfl rfl]
  by_cases h : lo ≤ i
  · by_cases h2 : i ≤ hi <;> simp [c_is_whole, ends, leave, exSs, exS, evE, evEs, isiD, der, truD, cmpD, h, h2, R.bind, opt]
  · simp [c_is_whole, ends, leave, exSs, exS, evE, evEs, isiD, der, truD, cmpD, h, R.bind, opt]
theorem is_tuple_of (xs : List D) (lo hi : Int) (hn : 1 ≤ n) : C T.prg W n 1 [.tup xs, .int lo, .int hi] S = .ok (.bl (decide (lo ≤ xs.length) && decide ((xs.length : Int) ≤ hi))) S := by
  obtain ⟨n, rfl⟩ : ∃ m, n = m + 1 := ⟨n - 1, by omega⟩
  rw [call_eq (d := ⟨3, 3, false, c_is_tuple_of⟩) rfl rfl]
  by_cases h : lo ≤ xs.length
  · by_cases h2 : (xs.length : Int) ≤ hi <;> simp [c_is_tuple_of, ends, leave, exSs, exS, evE, evEs, isiD, der, truD, cmpD, h, h2, R.bind, opt, biD]
  · simp [c_is_tuple_of, ends, leave, exSs, exS, evE, evEs, isiD, der, truD, cmpD, h, R.bind, opt, biD]
theorem all_map_true : ∀ (l : List D), biD .all [.lst (l.map fun _ => D.bl true)] = some (.bl true) := by
  intro l
  have : ∀ l : List D, blsD (l.map fun _ => D.bl true) = some (l.map fun _ => true) := by
    intro l
    induction l with
    | nil => rfl
    | cons d r ih => simp only [List.map_cons, blsD, ih, Option.map_some]
  show (blsD _).map _ = _
  rw [this]
  simp
theorem fits_octets (l : List Int) (lo hi : Int) (h : octs l) (h0 : lo ≤ l.length) (hl : (l.length : Int) ≤ hi) (hs : l.length ≤ 16777216) (hn : 2 ≤ n) : C T.prg W n 2 [tIs l, .int lo, .int hi] S = .ok (.bl true) S := by
  obtain ⟨n, rfl⟩ : ∃ m, n = m + 1 := ⟨n - 1, by omega⟩
  rw [call_eq (d := ⟨3, 4, false, c_fits_octets⟩) rfl rfl]
  have e1 : (lv T.prg W n).call 1 [.tup (l.map D.int), .int lo, .int hi] S = .ok (.bl true) S := by
    have := is_tuple_of (W := W) (S := S) (l.map D.int) lo hi (n := n) (by omega)
    rw [tIs_len] at this
    simpa [h0, hl] using this
  have e2 : ∀ ρ : Gx.Env, ρ.length = 4 → compL (cF (Oc T.prg W n) [3] (.nm 3) .non (.call 0 "is_whole" (.cons (.var 3) (.cons (.cst (.int 0)) (.cons (.cst (.int 255)) .nil)))) ρ) (l.map D.int) S = .ok ((l.map D.int).map fun _ => D.bl true) S := fun ρ hρ => compL_map _ fun d hd => by
    obtain ⟨i, hi', rfl⟩ := List.mem_map.mp hd
    obtain ⟨a, b⟩ := h i hi'
    have ew := is_whole (W := W) (S := S) i 0 255 (n := n) (by omega)
    obtain ⟨x1, x2, x3, x4, rfl⟩ : ∃ x1 x2 x3 x4, ρ = [x1, x2, x3, x4] := by
      match ρ, hρ with
      | [x1, x2, x3, x4], _ => exact ⟨x1, x2, x3, x4, rfl⟩
    simp [cF, wipeE, evTg, evTo, evE, evEs, Cst.d, ew, a, b]
  have e3 := ev_comp (O := Oc T.prg W n) (ρ := [some (.tup (l.map D.int)), some (.int lo), some (.int hi), none]) (it := .seq (.var 0)) (S := S) (l := l.map D.int) (S1 := S) (by simp [evI, evE, seqD]) (by rw [tIs_len]; exact hs) (e2 _ rfl)
  have e4 := all_map_true (l.map D.int)
  simp only [tIs, c_fits_octets, ends, leave, exSs, exS, evE, evEs, List.map_cons, List.map_nil, List.cons_append, List.nil_append, List.getElem?_cons_zero, List.getElem?_cons_succ, List.replicate, bind_ok', e1, der, truD, opt_some', if_true, e3, e4]
  simp
theorem fits_long (xs : List D) (lo hi : Int) (h : ¬ ((xs.length : Int) ≤ hi)) (hn : 2 ≤ n) : C T.prg W n 2 [.tup xs, .int lo, .int hi] S = .ok (.bl false) S := by
  obtain ⟨n, rfl⟩ : ∃ m, n = m + 1 := ⟨n - 1, by omega⟩
  rw [call_eq (d := ⟨3, 4, false, c_fits_octets⟩) rfl rfl]
  have e1 : (lv T.prg W n).call 1 [.tup xs, .int lo, .int hi] S = .ok (.bl false) S := by
    have := is_tuple_of (W := W) (S := S) xs lo hi (n := n) (by omega)
    rw [decide_eq_false h, Bool.and_false] at this
    exact this
  simp [c_fits_octets, ends, leave, exSs, exS, evE, evEs, e1, der, truD]
end
section
variable {W n : Nat} {S : Sto}
theorem law_cup (ns : List Int) (h : ns.length ≤ 63) (hn : 1 ≤ n) : Wp (C T.prg W n 24 [.scr (ns.map D.int)] []) fun d S' => d = .loc 0 ∧ cupOk S' := by
  obtain ⟨n, rfl⟩ : ∃ m, n = m + 1 := ⟨n - 1, by omega⟩
  obtain ⟨z, hz⟩ : ∃ z : Int, L2.atI (ns.map D.int ++ [D.int 0]) 0 = some (.int z) := by
    cases ns with
    | nil => exact ⟨0, rfl⟩
    | cons x r =>
      refine ⟨x, ?_⟩
      have := atI_nat (xs := (x :: r).map D.int ++ [D.int 0]) (by simp : 0 < _)
      simpa using this
  have hs : ns.length ≤ 16777215 := by omega
  have hp := int_abs_nonneg z
  generalize hc : (if z < 0 then -z else z) = c at hp
  have e : C T.prg W (n + 1) 24 [.scr (ns.map D.int)] [] = .ok (.loc 0) (cupS (if 1000000000000000000 ≤ c then c / 131 else 0) ((c * 359 + 2801) % 2077503011 + 233)) := by
    rw [call_eq (d := ⟨1, 2, true, c_law_cup⟩) rfl rfl]
    by_cases h1 : 1000000000000000000 ≤ c <;>
      simp [c_law_cup, ends, leave, exSs, exS, evE, evEs, evF, evT, evTg, der, seqL, lopD, ixD, hz, biD, hc, hs, sz, cmpD, bopD, powOk, mulOk, Cst.d, h1, cupS] <;> (try omega)
  refine wp_eq e ⟨rfl, _, _, rfl, ?_, ?_, ?_⟩
  · split <;> omega
  · omega
  · omega
theorem law_roll (hS : cupOk S) (m : Int) (hm : 0 < m) (hm2 : m ≤ 18446744073709551616) (hn : 1 ≤ n) : Wp (C T.prg W n 25 [.loc 0, .int m] S) fun d S' => (∃ r : Int, d = .int r ∧ 0 ≤ r ∧ r < m) ∧ cupOk S' := by
  obtain ⟨n, rfl⟩ : ∃ m, n = m + 1 := ⟨n - 1, by omega⟩
  obtain ⟨a, b, rfl, h1, h2, h3⟩ := hS
  have x0 : ∀ a b : Int, L2.atI [D.int a, D.int b] 0 = some (.int a) := fun _ _ => rfl
  have x1 : ∀ a b : Int, L2.atI [D.int a, D.int b] 1 = some (.int b) := fun _ _ => rfl
  have i0 : L2.ixN 2 0 = some 0 := rfl
  have i1 : L2.ixN 2 1 = some 1 := rfl
  have hm2 : m < 115792089237316195423570985008687907853269984665640564039457584007913129639936 := by omega
  by_cases ha : 0 < a
  · refine wp_eq (a := .int (a % m)) (S := cupS (a / m) b) ?_ ⟨⟨a % m, rfl, Int.emod_nonneg _ (by omega), Int.emod_lt_of_pos _ hm⟩, _, _, rfl, Int.ediv_nonneg h1 (by omega), h2, h3⟩
    rw [call_eq (d := ⟨2, 4, false, c_law_roll⟩) rfl rfl]
    simp [c_law_roll, cupS, ends, leave, exSs, exS, evE, evEs, evT, evTg, der, ixD, x0, i0, biD, cmpD, bopD, Cst.d, ha, hm, hm2]
  · have hb : 0 ≤ (b * 31181 + 8123) % 2147483543 ∧ (b * 31181 + 8123) % 2147483543 < 2147483543 := ⟨Int.emod_nonneg _ (by omega), Int.emod_lt_of_pos _ (by omega)⟩
    generalize hb' : (b * 31181 + 8123) % 2147483543 = b' at hb
    refine wp_eq (a := .int ((b' * (b' + 307)) % 2147483587 / 907 % m)) (S := cupS a b') ?_ ⟨⟨_, rfl, Int.emod_nonneg _ (by omega), Int.emod_lt_of_pos _ hm⟩, _, _, rfl, h1, hb.1, by omega⟩
    rw [call_eq (d := ⟨2, 4, false, c_law_roll⟩) rfl rfl]
    have k1 : mulOk b 31181 = true := by simp [mulOk]
    have k2 : mulOk b' (b' + 307) = true := by simp [mulOk]; omega
    simp [c_law_roll, cupS, ends, leave, exSs, exS, evE, evEs, evT, evTg, der, ixD, x0, x1, i1, biD, cmpD, bopD, Cst.d, ha, hm, k1, k2, hb']
theorem law_some (hS : cupOk S) (xs : List D) (hx : xs ≠ []) (hl : xs.length ≤ 16777216) (hn : 2 ≤ n) : Wp (C T.prg W n 26 [.loc 0, .lst xs] S) fun d S' => d ∈ xs ∧ cupOk S' := by
  obtain ⟨n, rfl⟩ : ∃ m, n = m + 1 := ⟨n - 1, by omega⟩
  have hp : 0 < xs.length := List.length_pos_iff.mpr hx
  have len : S.length = 1 := by obtain ⟨a, b, rfl, _⟩ := hS; rfl
  obtain ⟨d, S1, e, ⟨r, rfl, r0, r1⟩, c1⟩ := law_roll (W := W) (n := n) hS (xs.length : Int) (by omega) (by omega) (by omega)
  obtain ⟨x, ex, mx⟩ := atI_mem (xs := xs) r0 r1
  refine wp_eq (a := x) (S := S1) ?_ ⟨mx, c1⟩
  have len1 : S1.length = 1 := by obtain ⟨a, b, rfl, _⟩ := c1; rfl
  rw [call_eq (d := ⟨2, 2, false, c_law_some⟩) rfl rfl]
  have e : (lv T.prg W n).call 25 [.loc 0, .int (xs.length : Int)] S = .ok (.int r) S1 := e
  simp [c_law_some, ends, leave, exSs, exS, evE, evEs, der, ixD, biD, e, ex, len, len1]
theorem law_bytes (hS : cupOk S) (m : Int) (h0 : 0 ≤ m) (hm : m ≤ 16777216) (hn : 3 ≤ n) : Wp (C T.prg W n 30 [.loc 0, .int m] S) fun d S' => (∃ l : List Int, d = tIs l ∧ octs l ∧ (l.length : Int) = m) ∧ cupOk S' := by
  obtain ⟨n, rfl⟩ : ∃ m, n = m + 1 := ⟨n - 1, by omega⟩
  refine wp_call (d := ⟨2, 3, false, c_law_bytes⟩) rfl rfl ?_
  have key := wp_comp (f := cF (Oc T.prg W n) [2] (.nm 2) .non (.call 26 "_law_some" (.cons (.var 0) (.cons (.fl (.disp (.cons (.cst (.int 0)) (.cons (.cst (.int 1)) (.cons (.cst (.int 7)) (.cons (.cst (.int 254)) (.cons (.cst (.int 255)) (.cons (.call 25 "_law_roll" (.cons (.var 0) (.cons (.cst (.int 256)) .nil))) .nil)))))))) .nil))) [some (.loc 0), some (.int m), none])
    cupOk (fun _ y => ∃ i : Int, y = .int i ∧ 0 ≤ i ∧ i ≤ 255) (rngD 0 m) S hS (fun d hd S hS => by
      obtain ⟨d1, S1, e1, ⟨r, rfl, r0, r1⟩, c1⟩ := law_roll (W := W) (n := n) hS 256 (by omega) (by omega) (by omega)
      obtain ⟨d2, S2, e2, m2, c2⟩ := law_some (W := W) (n := n) c1 [.int 0, .int 1, .int 7, .int 254, .int 255, .int r] (by simp) (by simp) (by omega)
      have e1 : (lv T.prg W n).call 25 [.loc 0, .int 256] S = .ok (.int r) S1 := e1
      have e2 : (lv T.prg W n).call 26 [.loc 0, .lst [.int 0, .int 1, .int 7, .int 254, .int 255, .int r]] S1 = .ok d2 S2 := e2
      refine wp_eq (a := some d2) (S := S2) ?_ ⟨c2, d2, rfl, ?_⟩
      · simp [cF, wipeE, evTg, evTo, evE, evEs, evF, Cst.d, e1, e2, sz]
      · simp only [List.mem_cons, List.not_mem_nil, or_false] at m2
        rcases m2 with z | z | z | z | z | z <;> exact ⟨_, z, by omega, by omega⟩) (Q := fun ys S' => cupOk S' ∧ All2 (fun _ y => ∃ i : Int, y = .int i ∧ 0 ≤ i ∧ i ≤ 255) (rngD 0 m) ys) (fun ys S' a b => ⟨a, b⟩)
  obtain ⟨ys, S', e, c', fa⟩ := key
  obtain ⟨l, rfl, ol⟩ := octs_of (ys := ys) fun y hy => by
    obtain ⟨_, _, q⟩ := fa.right y hy
    exact q
  have hlen := fa.len
  rw [rngD_len, List.length_map] at hlen
  have len : S.length = 1 := by obtain ⟨a, b, rfl, _⟩ := hS; rfl
  have len1 : S'.length = 1 := by obtain ⟨a, b, rfl, _⟩ := c'; rfl
  have hsm : smallI m = true := by simp [smallI]; omega
  have hl : (rngD 0 m).length ≤ sz := by rw [rngD_len]; simp [sz]; omega
  refine wp_eq (a := .rt (tIs l)) (S := S') ?_ (wp_ends (by omega) ⟨⟨l, rfl, ol, by omega⟩, c'⟩)
  have e' : evF (Oc T.prg W n) (.comp [2] (.nm 2) (.rng1 (.var 1)) .non (.call 26 "_law_some" (.cons (.var 0) (.cons (.fl (.disp (.cons (.cst (.int 0)) (.cons (.cst (.int 1)) (.cons (.cst (.int 7)) (.cons (.cst (.int 254)) (.cons (.cst (.int 255)) (.cons (.call 25 "_law_roll" (.cons (.var 0) (.cons (.cst (.int 256)) .nil))) .nil)))))))) .nil)))) [some (.loc 0), some (.int m), none] S = .ok (l.map D.int) S' := by
    have ei : evI (Oc T.prg W n) (.rng1 (.var 1)) [some (.loc 0), some (.int m), none] S = .ok (.items (rngD 0 m)) S := by simp [evI, evE, hsm]
    simp only [evF, ei, bind_ok', if_pos hl]
    exact e
  simp only [c_law_bytes, exSs, exS, evE, evEs, List.map_cons, List.map_nil, List.cons_append, List.nil_append, List.replicate, e', bind_ok', biD, der, opt_some', tIs]
theorem law_same (v : D) (h : v = .non ∨ (∃ i, v = .int i) ∨ (∃ x, v = .str x)) (hs : SeqAt.shaped ((toPy v).getD .none) = true) (hn : 1 ≤ n) : C T.prg W n 42 [v, v] S = .ok (.bl true) S := by
  obtain ⟨n, rfl⟩ : ∃ m, n = m + 1 := ⟨n - 1, by omega⟩
  rw [call_eq (d := ⟨2, 4, false, c_law_same⟩) rfl rfl]
  rcases h with rfl | ⟨i, rfl⟩ | ⟨x, rfl⟩
  · have hs : SeqAt.shaped .none = true := hs
    simp [c_law_same, ends, leave, exSs, exS, evE, evEs, evT, isiD, der, truD, cmpD, eqD, eqP, toPy, hs, PyData.eqv]
  · have hs : SeqAt.shaped (.int i) = true := hs
    simp [c_law_same, ends, leave, exSs, exS, evE, evEs, evT, isiD, der, truD, cmpD, eqD, eqP, toPy, hs, PyData.eqv]
  · have hs : SeqAt.shaped (.str x) = true := hs
    simp [c_law_same, ends, leave, exSs, exS, evE, evEs, evT, isiD, der, truD, cmpD, eqD, eqP, toPy, hs, PyData.eqv]
theorem law_same_tup (xs : List D) (hx : ∀ x ∈ xs, ∀ S, C T.prg W n 42 [x, x] S = .ok (.bl true) S) (hl : xs.length ≤ 16777216) (S : Sto) : C T.prg W (n + 1) 42 [.tup xs, .tup xs] S = .ok (.bl true) S := by
  rw [call_eq (d := ⟨2, 4, false, c_law_same⟩) rfl rfl]
  have e1 : compL (cF (Oc T.prg W n) [2, 3] (.tp (.cons (.nm 2) (.cons (.nm 3) .nil))) (.som (.not (.tru (.call 42 "_law_same" (.cons (.var 2) (.cons (.var 3) .nil)))))) (.cst (.int 1)) [some (.tup xs), some (.tup xs), none, none]) (pairsD xs xs) S = .ok [] S := compL_none _ fun d hd => by
    obtain ⟨x, hx', rfl⟩ := pairs_self hd
    have e := hx x hx' S
    simp [cF, wipeE, evTg, evTgs, evTo, evT, evE, evEs, Cst.d, e, noX, cntT, truD, der]
  have e2 := ev_comp (O := Oc T.prg W n) (ρ := [some (.tup xs), some (.tup xs), none, none]) (it := .zip (.var 0) (.var 1)) (S := S) (l := pairsD xs xs) (S1 := S) (by simp [evI, evE]) (by rw [pairs_self_len]; exact hl) e1
  have e3 : eqD (.lst []) (.lst []) = some true := by decide +kernel
  simp [c_law_same, ends, leave, exSs, exS, evE, evEs, evT, isiD, der, truD, cmpD, biD, eqD_int, e2, e3, ev_nil]
theorem law_same_ints (l : List Int) (hl : l.length ≤ 16777216) (hn : 2 ≤ n) (S : Sto) : C T.prg W n 42 [tIs l, tIs l] S = .ok (.bl true) S := by
  obtain ⟨n, rfl⟩ : ∃ m, n = m + 1 := ⟨n - 1, by omega⟩
  refine law_same_tup _ (fun x hx S => ?_) (by rw [tIs_len]; exact hl) S
  obtain ⟨i, _, rfl⟩ := List.mem_map.mp hx
  exact law_same _ (.inr (.inl ⟨i, rfl⟩)) rfl (by omega)
end
section
variable {W n : Nat} {S : Sto}
theorem oct_elt (O : Orc) (x j i : Int) (k : Nat) (hk : 8 * (j - 1 - i) = k) (h0 : 0 ≤ x) : cF O [2] (.nm 2) .non (.bop .BitAnd (.bop .RShift (.var 0) (.bop .Mult (.cst (.int 8)) (.bop .Sub (.bop .Sub (.var 1) (.cst (.int 1))) (.var 2)))) (.cst (.int 255))) [some (.int x), some (.int j), none] (.int i) S = .ok (some (.int (x / 2 ^ k % 256))) S := by
  have m8 : bopD .Mult (.int 8) (.int (j - 1 - i)) = some (.int (k : Int)) := by
    simp only [bopD]
    rw [if_pos (by simp [mulOk]), hk]
  have shr : bopD .RShift (.int x) (.int (k : Int)) = some (.int (x / 2 ^ k)) := by
    simp only [bopD]
    rw [if_pos (Int.natCast_nonneg k), Int.toNat_natCast]
  have an : bopD .BitAnd (.int (x / 2 ^ k)) (.int 255) = some (.int (x / 2 ^ k % 256)) := by
    simp only [bopD]
    exact congrArg (fun z => some (D.int z)) (Bits.bitAnd_mask 8 (Int.ediv_nonneg h0 (Int.pow_nonneg (by decide))))
  have e : evE O (.bop .BitAnd (.bop .RShift (.var 0) (.bop .Mult (.cst (.int 8)) (.bop .Sub (.bop .Sub (.var 1) (.cst (.int 1))) (.var 2)))) (.cst (.int 255))) [some (.int x), some (.int j), some (.int i)] S = .ok (.int (x / 2 ^ k % 256)) S :=
    ev_bop (ev_bop (ev_var (i := 0) rfl) (ev_bop (ev_cst (c := .int 8)) (ev_bop (ev_bop (ev_var (i := 1) rfl) (ev_cst (c := .int 1)) rfl) (ev_var (i := 2) rfl) rfl) m8) shr) (ev_cst (c := .int 255)) an
  show ((evE O _ [some (.int x), some (.int j), some (.int i)] S).bind fun y S5 => .ok (some y) S5) = _
  rw [e]
  rfl
theorem octets_in (x : Int) (m : Nat) (h0 : 0 ≤ x) (hm : m ≤ 1000) (hn : 1 ≤ n) : C T.prg W n 5 [.int x, .int m] S = .ok (tIs (octB m x)) S := by
  obtain ⟨n, rfl⟩ : ∃ m, n = m + 1 := ⟨n - 1, by omega⟩
  rw [call_eq (d := ⟨2, 3, false, c_octets_in⟩) rfl rfl]
  have e1 : compL (cF (Oc T.prg W n) [2] (.nm 2) .non (.bop .BitAnd (.bop .RShift (.var 0) (.bop .Mult (.cst (.int 8)) (.bop .Sub (.bop .Sub (.var 1) (.cst (.int 1))) (.var 2)))) (.cst (.int 255))) [some (.int x), some (.int m), none]) (rngD 0 m) S = .ok ((octB m x).map D.int) S := by
    rw [compL_map (g := fun d => match d with | .int i => .int (x / 2 ^ (8 * (m - 1 - i.toNat)) % 256) | d => d) _ fun d hd => ?_]
    · rw [← octB_range]
      unfold rngD
      rw [List.map_map, List.map_map, Int.sub_zero, Int.toNat_natCast]
      congr 1
      refine List.map_congr_left fun i hi => ?_
      simp
    · unfold rngD at hd
      obtain ⟨i, hi, rfl⟩ := List.mem_map.mp hd
      rw [List.mem_range] at hi
      have hi : i < m := by omega
      have := oct_elt (S := S) (Oc T.prg W n) x m (0 + (i : Int)) (8 * (m - 1 - i)) (by omega) h0
      rw [this]
      simp
  have e2 := ev_comp (O := Oc T.prg W n) (ρ := [some (.int x), some (.int m), none]) (it := .rng1 (.var 1)) (S := S) (l := rngD 0 m) (S1 := S) (ei_rng1 (ev_var rfl) (small_nat (by omega))) (by rw [rngD_len, Int.toNat_natCast]; exact Nat.le_trans hm (by decide)) e1
  show ends false S.length (exSs T.prg.sub (Oc T.prg W n) c_octets_in [some (.int x), some (.int m), none] S) = _
  unfold c_octets_in
  rw [s_ret (d := tIs (octB m x)) (S1 := S) (ev_tupB (ev_fl e2))]
  exact ends_rt
theorem num_loop (O : Orc) : ∀ (l : List Int) (a : Int) (w x2 : Option D), ∃ y, forL (fun d ρ1 S2 => (evTg O (.nm 2) d ρ1 S2).bind fun ρ2 S3 => exSs T.prg.sub O (.cons (.asg (.nm 1) (.bop .Add (.bop .Mult (.var 1) (.cst (.int 256))) (.var 2))) .nil) ρ2 S3) (l.map D.int) [w, some (.int a), x2] S = .ok (.nx [w, some (.int (l.foldl (fun f o => f * 256 + o) a)), y]) S
  | [], a, w, x2 => ⟨x2, rfl⟩
  | i :: r, a, w, x2 => by
    obtain ⟨y, e⟩ := num_loop O r (a * 256 + i) w (some (.int i))
    have k1 : mulOk a 256 = true := by simp [mulOk]
    refine ⟨y, ?_⟩
    rw [List.map_cons]
    unfold forL
    have : ((evTg O (.nm 2) (.int i) [w, some (.int a), x2] S).bind fun ρ2 S3 => exSs T.prg.sub O (.cons (.asg (.nm 1) (.bop .Add (.bop .Mult (.var 1) (.cst (.int 256))) (.var 2))) .nil) ρ2 S3) = .ok (.nx [w, some (.int (a * 256 + i)), some (.int i)]) S := by
      simp [evTg, exSs, exS, evE, Cst.d, bopD, k1]
    rw [this]
    exact e
theorem law_number (l : List Int) (hn : 1 ≤ n) : C T.prg W n 28 [tIs l] S = .ok (.int (numB l)) S := by
  obtain ⟨n, rfl⟩ : ∃ m, n = m + 1 := ⟨n - 1, by omega⟩
  rw [call_eq (d := ⟨1, 3, false, c_law_number⟩) rfl rfl]
  obtain ⟨y, e⟩ := num_loop (S := S) (Oc T.prg W n) l 0 (some (tIs l)) none
  have e2 : exS T.prg.sub (Oc T.prg W n) (.forS (.nm 2) (.seq (.var 0)) c_law_number_b1) [some (tIs l), some (.int 0), none] S = .ok (.nx [some (tIs l), some (.int (numB l)), y]) S := by
    simp only [exS, ei_seq (ev_var (O := Oc T.prg W n) (ρ := [some (tIs l), some (.int 0), none]) (S := S) (i := 0) rfl) (l := l.map D.int) rfl, bind_ok']
    exact e
  show ends false S.length (exSs T.prg.sub (Oc T.prg W n) c_law_number [some (tIs l), none, none] S) = _
  unfold c_law_number
  rw [ss_nx (s_asg (ev_cst (c := .int 0)) (by simp))]
  show ends false S.length (exSs T.prg.sub (Oc T.prg W n) _ [some (tIs l), some (.int 0), none] S) = _
  rw [ss_nx e2, s_ret (ev_var (i := 1) rfl)]
  exact ends_rt
theorem oct_loop (O : Orc) : ∀ (l : List D) (F : List Int) (x : Int) (w x3 : Option D), F.length + l.length ≤ 1000 → ∃ y, forL (fun d ρ1 S2 => (evTg O (.nm 3) d ρ1 S2).bind fun ρ2 S3 => exSs T.prg.sub O c_law_octets_b1 ρ2 S3) l [some (.int x), w, some (.lst (F.map D.int)), x3] S = .ok (.nx [some (.int (x / 256 ^ l.length)), w, some (.lst ((octB l.length x ++ F).map D.int)), y]) S
  | [], F, x, w, x3, _ => ⟨x3, by simp [forL, octB]⟩
  | d :: r, F, x, w, x3, h => by
    obtain ⟨y, e⟩ := oct_loop O r (x % 256 :: F) (x / 256) w (some d) (by simp only [List.length_cons] at h ⊢; omega)
    refine ⟨y, ?_⟩
    unfold forL
    have hl : 1 + (F.map D.int).length ≤ 16777216 := by rw [List.length_map]; omega
    have : ((evTg O (.nm 3) d [some (.int x), w, some (.lst (F.map D.int)), x3] S).bind fun ρ2 S3 => exSs T.prg.sub O c_law_octets_b1 ρ2 S3) = .ok (.nx [some (.int (x / 256)), w, some (.lst ((x % 256 :: F).map D.int)), some d]) S := by
      have hl' : 1 + F.length ≤ 16777216 := by omega
      simp [evTg, c_law_octets_b1, exSs, exS, evE, evEs, evF, Cst.d, bopD, lopD, biD, der, sz, hl']
    rw [this]
    show forL _ r _ S = _
    rw [e]
    have e1 : x / 256 / 256 ^ r.length = x / 256 ^ (d :: r).length := by
      rw [List.length_cons, Int.pow_succ, Int.mul_comm, Int.ediv_ediv]
      simp
    have e2 : octB r.length (x / 256) ++ (x % 256 :: F) = octB (d :: r).length x ++ F := by
      simp [octB]
    rw [e1, e2]
theorem law_octets (x : Int) (m : Nat) (hm : m ≤ 1000) (hn : 1 ≤ n) : C T.prg W n 27 [.int x, .int m] S = .ok (tIs (octB m x)) S := by
  obtain ⟨n, rfl⟩ : ∃ m, n = m + 1 := ⟨n - 1, by omega⟩
  rw [call_eq (d := ⟨2, 4, false, c_law_octets⟩) rfl rfl]
  have hsm : smallI (m : Int) = true := small_nat (by omega)
  obtain ⟨y, e⟩ := oct_loop (S := S) (Oc T.prg W n) (rngD 0 m) [] x (some (.int m)) none (by rw [rngD_len]; simp; omega)
  rw [rngD_len, Int.toNat_natCast, List.append_nil] at e
  have e2 : exS T.prg.sub (Oc T.prg W n) (.forS (.nm 3) (.rng1 (.var 1)) c_law_octets_b1) [some (.int x), some (.int m), some (.lst []), none] S = .ok (.nx [some (.int (x / 256 ^ m)), some (.int m), some (.lst ((octB m x).map D.int)), y]) S := by
    have : evI (Oc T.prg W n) (.rng1 (.var 1)) [some (.int x), some (.int m), some (.lst []), none] S = .ok (.items (rngD 0 m)) S := ei_rng1 (ev_var rfl) hsm
    simp only [exS, this, bind_ok']
    exact e
  show ends false S.length (exSs T.prg.sub (Oc T.prg W n) c_law_octets [some (.int x), some (.int m), none, none] S) = _
  unfold c_law_octets
  rw [ss_nx (s_asg (ev_disp evs_nil (by simp [sz])) (by simp))]
  show ends false S.length (exSs T.prg.sub (Oc T.prg W n) _ [some (.int x), some (.int m), some (.lst []), none] S) = _
  rw [ss_nx e2, s_ret (d := tIs (octB m x)) (S1 := S) (by simp [evE, evEs, biD, der, tIs])]
  exact ends_rt
end
section
variable {W n : Nat} {S : Sto}
theorem is_whole_bl (b : Bool) (lo hi : Int) (hn : 1 ≤ n) : C T.prg W n 0 [.bl b, .int lo, .int hi] S = .ok (.bl false) S := by
  obtain ⟨n, rfl⟩ : ∃ m, n = m + 1 := ⟨n - 1, by omega⟩
  rw [call_eq (d := ⟨3, 3, false, c_is_whole⟩) rfl rfl]
  simp [c_is_whole, ends, leave, exSs, exS, evE, evEs, isiD, der, truD, cmpD]
theorem all_map (g : D → Bool) (l : List D) : biD .all [.lst (l.map fun d => D.bl (g d))] = some (.bl (l.all g)) := by
  have : blsD (l.map fun d => D.bl (g d)) = some (l.map g) := by
    induction l with
    | nil => rfl
    | cons d r ih => simp only [List.map_cons, blsD, ih, Option.map_some]
  show (blsD _).map _ = _
  rw [this]
  simp [List.all_map]
theorem fits_gen (xs : List D) (lo hi : Int) (g : D → Bool) (hg : ∀ d ∈ xs, C T.prg W (n + 1) 0 [d, .int 0, .int 255] S = .ok (.bl (g d)) S) (h0 : lo ≤ xs.length) (hl : (xs.length : Int) ≤ hi) (hs : xs.length ≤ 16777216) : C T.prg W (n + 2) 2 [.tup xs, .int lo, .int hi] S = .ok (.bl (xs.all g)) S := by
  rw [call_eq (d := ⟨3, 4, false, c_fits_octets⟩) rfl rfl]
  have e1 : (lv T.prg W (n + 1)).call 1 [.tup xs, .int lo, .int hi] S = .ok (.bl true) S := by
    have := is_tuple_of (W := W) (S := S) xs lo hi (n := n + 1) (by omega)
    simpa [h0, hl] using this
  have e2 : compL (cF (Oc T.prg W (n + 1)) [3] (.nm 3) .non (.call 0 "is_whole" (.cons (.var 3) (.cons (.cst (.int 0)) (.cons (.cst (.int 255)) .nil)))) [some (.tup xs), some (.int lo), some (.int hi), none]) xs S = .ok (xs.map fun d => D.bl (g d)) S := compL_map _ fun d hd => by
    have ew : (lv T.prg W (n + 1)).call 0 [d, .int 0, .int 255] S = .ok (.bl (g d)) S := hg d hd
    simp [cF, wipeE, evTg, evTo, evE, evEs, Cst.d, ew]
  have e3 := ev_comp (O := Oc T.prg W (n + 1)) (ρ := [some (.tup xs), some (.int lo), some (.int hi), none]) (it := .seq (.var 0)) (S := S) (l := xs) (S1 := S) (by simp [evI, evE, seqD]) hs e2
  have e4 := all_map g xs
  simp only [c_fits_octets, ends, leave, exSs, exS, evE, evEs, List.map_cons, List.map_nil, List.cons_append, List.nil_append, List.getElem?_cons_zero, List.getElem?_cons_succ, List.replicate, bind_ok', e1, der, truD, opt_some', if_true, e3, e4]
  simp
theorem fits_not (v : D) (lo hi : Int) (hv : isiD v [.tuple] = some false) (hd : ∀ S, der S v = v) : C T.prg W (n + 2) 2 [v, .int lo, .int hi] S = .ok (.bl false) S := by
  rw [call_eq (d := ⟨3, 4, false, c_fits_octets⟩) rfl rfl]
  have e1 : (lv T.prg W (n + 1)).call 1 [v, .int lo, .int hi] S = .ok (.bl false) S := by
    show C T.prg W (n + 1) 1 _ S = _
    rw [call_eq (d := ⟨3, 3, false, c_is_tuple_of⟩) rfl rfl]
    simp [c_is_tuple_of, ends, leave, exSs, exS, evE, evEs, hv, hd, truD]
    simp [der]
  simp [c_fits_octets, ends, leave, exSs, exS, evE, evEs, e1, der, truD]
end
end K25
set_option Elab.async false
set_option linter.all false
set_option maxRecDepth 100000
set_option maxHeartbeats 4000000
namespace K25
open PySem PySem.Spec PyProof.Rows L2 Gx
section
variable {W n : Nat} {S : Sto}
theorem sum_loop (O : Orc) : ∀ (l : List Int) (f : Int) (w0 w1 x3 : Option D), ∃ y, forL (fun d ρ1 S2 => (evTg O (.nm 3) d ρ1 S2).bind fun ρ2 S3 => exSs T.prg.sub O c_sum_in_b1 ρ2 S3) (l.map D.int) [w0, w1, some (.int f), x3] S = .ok (.nx [w0, w1, some (.int (sumL f l)), y]) S
  | [], f, w0, w1, x3 => ⟨x3, rfl⟩
  | o :: r, f, w0, w1, x3 => by
    obtain ⟨y, e⟩ := sum_loop O r (stepL f o) w0 w1 (some (.int o))
    refine ⟨y, ?_⟩
    rw [List.map_cons]
    unfold forL
    have mf : ∀ i : Int, bopD .Mult (.int i) (.int 6364136223846793005) = some (.int (i * 6364136223846793005)) := fun i => by
      simp only [bopD]
      rw [if_pos (by simp [mulOk])]
    have sh : ∀ i : Int, bopD .RShift (.int i) (.int 29) = some (.int (i / 536870912)) := fun i => rfl
    have b : exSs T.prg.sub O c_sum_in_b1 [w0, w1, some (.int f), some (.int o)] S = .ok (.nx [w0, w1, some (.int (stepL f o)), some (.int o)]) S := by
      unfold c_sum_in_b1
      rw [ss_nx (s_asg (d := .int (mixL f o)) (S1 := S) (ev_bop (ev_bop (ev_bop (ev_bop (va := .int f) (vb := .int o) (S1 := S) (ev_var (i := 2) rfl) (ev_var (i := 3) rfl) rfl) (vb := .int 6364136223846793005) (S1 := S) (by simp only [evE]) (mf _)) (vb := .int 1442695040888963407) (S1 := S) (by simp only [evE]) rfl) (vb := .int 18446744073709551616) (S1 := S) (by simp only [evE]) (Gx.mod_int (by decide))) (by simp))]
      show exSs T.prg.sub O _ [w0, w1, some (.int (mixL f o)), some (.int o)] S = _
      rw [ss_nx (s_asg (d := .int (stepL f o)) (S1 := S) (ev_bop (va := .int (mixL f o)) (ev_var (i := 2) rfl) (ev_bop (va := .int (mixL f o)) (ev_var (i := 2) rfl) (ev_cst (c := .int 29)) (sh _)) rfl) (by simp))]
      simp only [exSs]
      rfl
    show ((exSs T.prg.sub O c_sum_in_b1 [w0, w1, some (.int f), some (.int o)] S).bind _) = _
    rw [b]
    exact e
theorem sum_in (a : Int) (l : List Int) (hn : 1 ≤ n) : C T.prg W n 9 [.int a, tIs l] S = .ok (.int (sumL a l)) S := by
  obtain ⟨n, rfl⟩ : ∃ m, n = m + 1 := ⟨n - 1, by omega⟩
  rw [call_eq (d := ⟨2, 4, false, c_sum_in⟩) rfl rfl]
  obtain ⟨y, e⟩ := sum_loop (S := S) (Oc T.prg W n) l a (some (.int a)) (some (tIs l)) none
  have e2 : exS T.prg.sub (Oc T.prg W n) (.forS (.nm 3) (.seq (.var 1)) c_sum_in_b1) [some (.int a), some (tIs l), some (.int a), none] S = .ok (.nx [some (.int a), some (tIs l), some (.int (sumL a l)), y]) S := by
    simp only [exS, ei_seq (ev_var (O := Oc T.prg W n) (ρ := [some (.int a), some (tIs l), some (.int a), none]) (S := S) (i := 1) rfl) (l := l.map D.int) rfl, bind_ok']
    exact e
  show ends false S.length (exSs T.prg.sub (Oc T.prg W n) c_sum_in [some (.int a), some (tIs l), none, none] S) = _
  unfold c_sum_in
  rw [ss_nx (s_asg (ev_var (i := 0) rfl) (by simp))]
  show ends false S.length (exSs T.prg.sub (Oc T.prg W n) _ [some (.int a), some (tIs l), some (.int a), none] S) = _
  rw [ss_nx e2, s_ret (ev_var (i := 2) rfl)]
  exact ends_rt
theorem lsum_loop (O : Orc) : ∀ (l : List Int) (f : Int) (w0 w1 x3 x4 : Option D), 0 ≤ f → octs l → ∃ y z, forL (fun d ρ1 S2 => (evTg O (.nm 3) d ρ1 S2).bind fun ρ2 S3 => exSs T.prg.sub O c_law_sum_b1 ρ2 S3) (l.map D.int) [w0, w1, some (.int f), x3, x4] S = .ok (.nx [w0, w1, some (.int (sumL f l)), y, z]) S
  | [], f, w0, w1, x3, x4, _, _ => ⟨x3, x4, rfl⟩
  | o :: r, f, w0, w1, x3, x4, h0, ho => by
    obtain ⟨y, z, e⟩ := lsum_loop O r (stepL f o) w0 w1 (some (.int o)) (some (.int (f % 256))) (stepL_bound f o).1 (fun i hi => ho i (List.mem_cons_of_mem _ hi))
    refine ⟨y, z, ?_⟩
    have oo := ho o List.mem_cons_self
    rw [List.map_cons]
    unfold forL
    have mf : ∀ i : Int, bopD .Mult (.int i) (.int 6364136223846793005) = some (.int (i * 6364136223846793005)) := fun i => by
      simp only [bopD]
      rw [if_pos (by simp [mulOk])]
    have p64 : bopD .Pow (.int 2) (.int 64) = some (.int 18446744073709551616) := by simp [bopD, powOk]
    have p29 : bopD .Pow (.int 2) (.int 29) = some (.int 536870912) := by simp [bopD, powOk]
    have fd : ∀ i : Int, bopD .FloorDiv (.int i) (.int 536870912) = some (.int (i / 536870912)) := fun i => by
      simp only [bopD]
      rw [if_pos ⟨by decide, by decide⟩]
    have b : exSs T.prg.sub O c_law_sum_b1 [w0, w1, some (.int f), some (.int o), x4] S = .ok (.nx [w0, w1, some (.int (stepL f o)), some (.int o), some (.int (f % 256))]) S := by
      unfold c_law_sum_b1
      rw [ss_nx (s_asg (d := .int (f % 256)) (S1 := S) (ev_bop (va := .int f) (ev_int (ev_var (i := 2) rfl)) (ev_cst (c := .int 256)) (Gx.mod_int (by decide))) (by simp))]
      show exSs T.prg.sub O _ [w0, w1, some (.int f), some (.int o), some (.int (f % 256))] S = _
      rw [ss_nx (s_asg (d := .int (mixL f o)) (S1 := S) (ev_bop (va := .int (Builtin.bitXor f o * 6364136223846793005 + 1442695040888963407)) (ev_int (ev_bop (va := .int (Builtin.bitXor f o * 6364136223846793005)) (ev_bop (va := .int (Builtin.bitXor f o)) (ev_bop (va := .int (f - f % 256)) (vb := .int (Builtin.bitXor (f % 256) o)) (S1 := S) (ev_bop (va := .int f) (vb := .int (f % 256)) (S1 := S) (ev_var (i := 2) rfl) (ev_var (i := 4) rfl) rfl) (ev_bop (va := .int (f % 256)) (vb := .int o) (S1 := S) (ev_var (i := 4) rfl) (ev_var (i := 3) rfl) rfl) (by show some (D.int (f - f % 256 + Builtin.bitXor (f % 256) o)) = _; rw [xor_low h0 oo.1 oo.2])) (ev_cst (c := .int 6364136223846793005)) (mf _)) (ev_cst (c := .int 1442695040888963407)) rfl)) (ev_bop (va := .int 2) (vb := .int 64) (S1 := S) (ev_cst (c := .int 2)) (ev_cst (c := .int 64)) p64) (Gx.mod_int (by decide))) (by simp))]
      show exSs T.prg.sub O _ [w0, w1, some (.int (mixL f o)), some (.int o), some (.int (f % 256))] S = _
      rw [ss_nx (s_asg (d := .int (stepL f o)) (S1 := S) (ev_bop (va := .int (mixL f o)) (ev_var (i := 2) rfl) (ev_bop (va := .int (mixL f o)) (ev_var (i := 2) rfl) (ev_bop (va := .int 2) (vb := .int 29) (S1 := S) (ev_cst (c := .int 2)) (ev_cst (c := .int 29)) p29) (fd _)) rfl) (by simp))]
      simp only [exSs]
      rfl
    show ((exSs T.prg.sub O c_law_sum_b1 [w0, w1, some (.int f), some (.int o), x4] S).bind _) = _
    rw [b]
    exact e
theorem law_sum (a : Int) (l : List Int) (h0 : 0 ≤ a) (ho : octs l) (hn : 1 ≤ n) : C T.prg W n 29 [.int a, tIs l] S = .ok (.int (sumL a l)) S := by
  obtain ⟨n, rfl⟩ : ∃ m, n = m + 1 := ⟨n - 1, by omega⟩
  rw [call_eq (d := ⟨2, 5, false, c_law_sum⟩) rfl rfl]
  obtain ⟨y, z, e⟩ := lsum_loop (S := S) (Oc T.prg W n) l a (some (.int a)) (some (tIs l)) none none h0 ho
  have e2 : exS T.prg.sub (Oc T.prg W n) (.forS (.nm 3) (.seq (.var 1)) c_law_sum_b1) [some (.int a), some (tIs l), some (.int a), none, none] S = .ok (.nx [some (.int a), some (tIs l), some (.int (sumL a l)), y, z]) S := by
    simp only [exS, ei_seq (ev_var (O := Oc T.prg W n) (ρ := [some (.int a), some (tIs l), some (.int a), none, none]) (S := S) (i := 1) rfl) (l := l.map D.int) rfl, bind_ok']
    exact e
  show ends false S.length (exSs T.prg.sub (Oc T.prg W n) c_law_sum [some (.int a), some (tIs l), none, none, none] S) = _
  unfold c_law_sum
  rw [ss_nx (s_asg (ev_var (i := 0) rfl) (by simp))]
  show ends false S.length (exSs T.prg.sub (Oc T.prg W n) _ [some (.int a), some (tIs l), some (.int a), none, none] S) = _
  rw [ss_nx e2, s_ret (ev_var (i := 2) rfl)]
  exact ends_rt
end
end K25
set_option Elab.async false
set_option linter.all false
set_option maxRecDepth 100000
set_option maxHeartbeats 4000000
namespace K25
open PySem PySem.Spec PyProof.Rows L2 Gx
section
variable {W n : Nat} {S : Sto}
theorem law_word (hS : cupOk S) (hn : 3 ≤ n) : Wp (C T.prg W n 31 [.loc 0] S) fun d S' => (∃ x : Int, d = .int x ∧ 0 ≤ x ∧ x < 256 ^ 8) ∧ cupOk S' := by
  obtain ⟨n, rfl⟩ : ∃ m, n = m + 1 := ⟨n - 1, by omega⟩
  refine wp_call (d := ⟨1, 2, false, c_law_word⟩) rfl rfl ?_
  have key := wp_comp (f := cF (Oc T.prg W n) [1] (.nm 1) .non (.call 25 "_law_roll" (.cons (.var 0) (.cons (.cst (.int 256)) .nil))) [some (.loc 0), none])
    cupOk (fun _ y => ∃ i : Int, y = .int i ∧ 0 ≤ i ∧ i ≤ 255) (rngD 0 8) S hS (fun d hd S hS => by
      obtain ⟨d1, S1, e1, ⟨r, rfl, r0, r1⟩, c1⟩ := law_roll (W := W) (n := n) hS 256 (by omega) (by omega) (by omega)
      have e1 : (lv T.prg W n).call 25 [.loc 0, .int 256] S = .ok (.int r) S1 := e1
      exact wp_eq (a := some (.int r)) (S := S1) (by simp [cF, wipeE, evTg, evTo, evE, evEs, Cst.d, e1]) ⟨c1, _, rfl, r, rfl, by omega, by omega⟩) (Q := fun ys S' => cupOk S' ∧ All2 (fun _ y => ∃ i : Int, y = .int i ∧ 0 ≤ i ∧ i ≤ 255) (rngD 0 8) ys) (fun ys S' a b => ⟨a, b⟩)
  obtain ⟨ys, S', e, c', fa⟩ := key
  obtain ⟨l, rfl, ol⟩ := octs_of (ys := ys) fun y hy => by
    obtain ⟨_, _, q⟩ := fa.right y hy
    exact q
  have hlen := fa.len
  rw [rngD_len, List.length_map] at hlen
  have hl8 : l.length = 8 := hlen.symm
  have b := numB_bound l ol
  rw [hl8] at b
  have e' : evF (Oc T.prg W n) (.comp [1] (.nm 1) (.rng1 (.cst (.int 8))) .non (.call 25 "_law_roll" (.cons (.var 0) (.cons (.cst (.int 256)) .nil)))) [some (.loc 0), none] S = .ok (l.map D.int) S' := by
    have ei : evI (Oc T.prg W n) (.rng1 (.cst (.int 8))) [some (.loc 0), none] S = .ok (.items (rngD 0 8)) S := ei_rng1 (ev_cst (c := .int 8)) rfl
    have hsz : (rngD 0 8).length ≤ sz := by rw [rngD_len]; decide
    simp only [evF, ei, bind_ok', if_pos hsz]
    exact e
  refine wp_eq (a := .rt (.int (numB l))) (S := S') ?_ (wp_ends (by rw [cup1 c', cup1 hS]; exact Nat.le_refl _) ⟨⟨_, rfl, b.1, b.2⟩, c'⟩)
  show exSs T.prg.sub (Oc T.prg W n) c_law_word [some (.loc 0), none] S = _
  unfold c_law_word
  exact s_ret ((ev_call1 (ev_tupB (ev_fl e'))).trans (law_number l (by omega)))
end
section
variable {W n : Nat} {S : Sto}
theorem is_whole_t (i lo hi : Int) (h1 : lo ≤ i) (h2 : i ≤ hi) (hn : 1 ≤ n) : C T.prg W n 0 [.int i, .int lo, .int hi] S = .ok (.bl true) S := by
  rw [is_whole i lo hi hn, decide_eq_true h1, decide_eq_true h2]
  rfl
theorem need_octets (l : List Int) (h : octs l) (hl : l.length ≤ 20000) (hn : 3 ≤ n) : C T.prg W n 4 [tIs l] S = .ok .non S := by
  obtain ⟨n, rfl⟩ : ∃ m, n = m + 1 := ⟨n - 1, by omega⟩
  rw [call_eq (d := ⟨1, 1, false, c_need_octets⟩) rfl rfl]
  have e1 : (lv T.prg W n).call 2 [.tup (l.map D.int), .int 0, .int 20000] S = .ok (.bl true) S := fits_octets l 0 20000 h (by omega) (by omega) (by omega) (by omega)
  simp [c_need_octets, tIs, ends, leave, exSs, exS, evE, evEs, evT, der, truD, Cst.d, e1]
end
section
variable {W n : Nat} {S : Sto}
def setD (a k c m : Int) : D := .tup [.int a, .int k, .int c, .int m]
def setOk (a k c m : Int) : Prop := 0 ≤ a ∧ a ≤ 2 ∧ 0 ≤ k ∧ k ≤ 18446744073709551615 ∧ 0 ≤ c ∧ c ≤ 2 ∧ 0 ≤ m ∧ m ≤ 18446744073709551615
theorem set_at0 (a k c m : Int) : ixD (setD a k c m) (.int 0) = some (.int a) := rfl
theorem set_at1 (a k c m : Int) : ixD (setD a k c m) (.int 1) = some (.int k) := rfl
theorem set_at2 (a k c m : Int) : ixD (setD a k c m) (.int 2) = some (.int c) := rfl
theorem set_at3 (a k c m : Int) : ixD (setD a k c m) (.int 3) = some (.int m) := rfl
theorem ev_six {O : Orc} {ρ : Gx.Env} {i : Nat} {a k c m j : Int} {d : D} (h : ρ[i]? = some (some (setD a k c m))) (hj : ixD (setD a k c m) (.int j) = some d) : evE O (.ix (.var i) (.cst (.int j))) ρ S = .ok d S :=
  ev_ix (va := setD a k c m) (vb := .int j) (S1 := S) (S2 := S) (ev_var h) (ev_cst (c := .int j)) hj
theorem fits_setting (a k c m : Int) (h : setOk a k c m) (hn : 2 ≤ n) : C T.prg W n 10 [setD a k c m] S = .ok (.bl true) S := by
  obtain ⟨n, rfl⟩ : ∃ m, n = m + 1 := ⟨n - 1, by omega⟩
  rw [call_eq (d := ⟨1, 1, false, c_fits_setting⟩) rfl rfl]
  obtain ⟨h1, h2, h3, h4, h5, h6, h7, h8⟩ := h
  show ends false S.length (exSs T.prg.sub (Oc T.prg W n) c_fits_setting [some (setD a k c m)] S) = _
  unfold c_fits_setting
  have e0 : C T.prg W n 1 [setD a k c m, .int 4, .int 4] S = .ok (.bl true) S := is_tuple_of _ 4 4 (by omega)
  rw [ss_nx (s_skip ((t_or (t_ntru (((ev_callN3 (ev_var rfl) (ev_cst (c := .int 4)) (ev_cst (c := .int 4))).trans e0)))).trans
    ((t_or (t_ntru (((ev_callN3 (ev_six rfl (set_at0 a k c m)) (ev_cst (c := .int 0)) (ev_cst (c := .int 2))).trans (is_whole_t a 0 2 h1 h2 (by omega)))))).trans
      (t_ntru (((ev_callN3 (ev_six rfl (set_at2 a k c m)) (ev_cst (c := .int 0)) (ev_cst (c := .int 2))).trans (is_whole_t c 0 2 h5 h6 (by omega))))))))]
  rw [s_ret ((ev_and_t ((ev_callN3 (ev_six rfl (set_at1 a k c m)) (ev_cst (c := .int 0)) ev_glob).trans (is_whole_t k 0 _ h3 h4 (by omega)))).trans ((ev_callN3 (ev_six rfl (set_at3 a k c m)) (ev_cst (c := .int 0)) ev_glob).trans (is_whole_t m 0 _ h7 h8 (by omega))))]
  exact ends_rt
theorem need_setting (a k c m : Int) (h : setOk a k c m) (hn : 3 ≤ n) : C T.prg W n 13 [setD a k c m] S = .ok .non S := by
  obtain ⟨n, rfl⟩ : ∃ m, n = m + 1 := ⟨n - 1, by omega⟩
  rw [call_eq (d := ⟨1, 1, false, c_need_setting⟩) rfl rfl]
  show ends false S.length (exSs T.prg.sub (Oc T.prg W n) c_need_setting [some (setD a k c m)] S) = _
  unfold c_need_setting
  rw [ss_nx (s_skip (t_ntru (((ev_call1 (ev_var rfl)).trans (fits_setting a k c m h (by omega))))))]
  simp only [exSs]
  exact ends_nx
theorem law_setting (hS : cupOk S) (hn : 5 ≤ n) : Wp (C T.prg W n 40 [.loc 0] S) fun d S' => (∃ a k c m : Int, d = setD a k c m ∧ setOk a k c m) ∧ cupOk S' := by
  obtain ⟨n, rfl⟩ : ∃ m, n = m + 1 := ⟨n - 1, by omega⟩
  refine wp_call (d := ⟨1, 3, false, c_law_setting⟩) rfl rfl ?_
  have key := wp_comp (f := cF (Oc T.prg W n) [2] (.nm 2) .non (.call 26 "_law_some" (.cons (.var 0) (.cons (.fl (.disp (.cons (.cst (.int 0)) (.cons (.cst (.int 5)) (.cons (.bop .Sub (.bop .Pow (.cst (.int 2)) (.cst (.int 64))) (.cst (.int 1))) (.cons (.call 31 "_law_word" (.cons (.var 0) .nil)) .nil)))))) .nil))) [some (.loc 0), none, none])
    cupOk (fun _ y => ∃ i : Int, y = .int i ∧ 0 ≤ i ∧ i ≤ 18446744073709551615) (rngD 0 2) S hS (fun d hd S hS => by
      obtain ⟨d1, S1, e1, ⟨r, rfl, r0, r1⟩, c1⟩ := law_word (W := W) (n := n) hS (by omega)
      obtain ⟨d2, S2, e2, m2, c2⟩ := law_some (W := W) (n := n) c1 [.int 0, .int 5, .int 18446744073709551615, .int r] (by simp) (by simp) (by omega)
      have q : evE (Oc T.prg W n) (.call 26 "_law_some" (.cons (.var 0) (.cons (.fl (.disp (.cons (.cst (.int 0)) (.cons (.cst (.int 5)) (.cons (.bop .Sub (.bop .Pow (.cst (.int 2)) (.cst (.int 64))) (.cst (.int 1))) (.cons (.call 31 "_law_word" (.cons (.var 0) .nil)) .nil)))))) .nil))) [some (.loc 0), none, some d] S = .ok d2 S2 :=
        (ev_call2 (ev_var rfl) (ev_disp (evs_cons (ev_cst (c := .int 0)) (evs_cons (ev_cst (c := .int 5)) (evs_cons (va := .int 18446744073709551615) (ev_bop (ev_pw (j := 18446744073709551616) (by simp [bopD, powOk])) (ev_cst (c := .int 1)) rfl) (evs_cons ((ev_call1 (ev_var rfl)).trans e1) evs_nil)))) (by simp [sz]))).trans e2
      refine wp_eq (a := some d2) (S := S2) ?_ ⟨c2, d2, rfl, ?_⟩
      · show ((evE (Oc T.prg W n) _ [some (.loc 0), none, some d] S).bind fun y S5 => .ok (some y) S5) = _
        rw [q]
        rfl
      · simp only [List.mem_cons, List.not_mem_nil, or_false] at m2
        have : (256 : Int) ^ 8 = 18446744073709551616 := by decide
        rcases m2 with z | z | z | z <;> exact ⟨_, z, by omega, by omega⟩) (Q := fun ys S' => cupOk S' ∧ All2 (fun _ y => ∃ i : Int, y = .int i ∧ 0 ≤ i ∧ i ≤ 18446744073709551615) (rngD 0 2) ys) (fun ys S' a b => ⟨a, b⟩)
  obtain ⟨ys, S1, e, c1, fa⟩ := key
  have hlen : ys.length = 2 := fa.len.symm.trans (by rw [rngD_len]; rfl)
  obtain ⟨k, m, rfl⟩ : ∃ k m, ys = [k, m] := by
    match ys, hlen with
    | [k, m], _ => exact ⟨k, m, rfl⟩
  obtain ⟨_, _, ⟨k, rfl, k0, k1⟩⟩ := fa.right k (by simp)
  obtain ⟨_, _, ⟨m, rfl, m0, m1⟩⟩ := fa.right m (by simp)
  obtain ⟨d2, S2, e2, ⟨a, rfl, a0, a1⟩, c2⟩ := law_roll (W := W) (n := n) c1 3 (by omega) (by omega) (by omega)
  obtain ⟨d3, S3, e3, ⟨c, rfl, cc0, cc1⟩, c3⟩ := law_roll (W := W) (n := n) c2 3 (by omega) (by omega) (by omega)
  have ec : exS T.prg.sub (Oc T.prg W n) (.asgc false 1 (.comp [2] (.nm 2) (.rng1 (.cst (.int 2))) .non (.call 26 "_law_some" (.cons (.var 0) (.cons (.fl (.disp (.cons (.cst (.int 0)) (.cons (.cst (.int 5)) (.cons (.bop .Sub (.bop .Pow (.cst (.int 2)) (.cst (.int 64))) (.cst (.int 1))) (.cons (.call 31 "_law_word" (.cons (.var 0) .nil)) .nil)))))) .nil))))) [some (.loc 0), none, none] S = .ok (.nx [some (.loc 0), some (.lst [.int k, .int m]), none]) S1 := by
    refine s_asgc ?_ (by simp)
    have ei : evI (Oc T.prg W n) (.rng1 (.cst (.int 2))) [some (.loc 0), none, none] S = .ok (.items (rngD 0 2)) S := ei_rng1 (ev_cst (c := .int 2)) rfl
    have hsz : (rngD 0 2).length ≤ sz := by rw [rngD_len]; decide
    simp only [evF, ei, bind_ok', if_pos hsz]
    exact e
  have ix (j : Int) (d : D) (h : ixD (.lst [.int k, .int m]) (.int j) = some d) (S : Sto) : evE (Oc T.prg W n) (.ix (.var 1) (.cst (.int j))) [some (.loc 0), some (.lst [.int k, .int m]), none] S = .ok d S :=
    ev_ix (va := .lst [.int k, .int m]) (vb := .int j) (S1 := S) (S2 := S) (ev_var rfl) (ev_cst (c := .int j)) h
  refine wp_eq (a := .rt (setD a k c m)) (S := S3) ?_ (wp_ends (by rw [cup1 c3, cup1 hS]; exact Nat.le_refl _) ⟨⟨a, k, c, m, rfl, a0, by omega, k0, k1, cc0, by omega, m0, m1⟩, c3⟩)
  show exSs T.prg.sub (Oc T.prg W n) c_law_setting [some (.loc 0), none, none] S = _
  unfold c_law_setting
  rw [ss_nx ec]
  exact s_ret (ev_tup (evs_cons ((ev_call2 (ev_var rfl) (ev_cst (c := .int 3))).trans e2) (evs_cons (ix 0 _ rfl S2) (evs_cons ((ev_call2 (ev_var rfl) (ev_cst (c := .int 3))).trans e3) (evs_cons (ix 1 _ rfl S3) evs_nil)))) (by simp [sz]))
end
end K25
set_option Elab.async false
set_option linter.all false
set_option maxRecDepth 100000
set_option maxHeartbeats 4000000
namespace K25
open PySem PySem.Spec PyProof.Rows L2 Gx
section
variable {W n : Nat} {S : Sto}
def sumC (m x : Int) (p : List Int) : Int := sumL 19 (octB 8 m ++ octB 8 x ++ p)
def chkL (c m x : Int) (p : List Int) : List Int := if c = 0 then [] else (octB 8 (sumC m x p)).drop (if c = 1 then 4 else 0)
theorem chk0 (m x : Int) (p : List Int) : chkL 0 m x p = [] := rfl
theorem chk12 (m x : Int) (p : List Int) : chkL 1 m x p = (chkL 2 m x p).drop 4 := rfl
theorem chk_octs (c m x : Int) (p : List Int) : octs (chkL c m x p) := by
  unfold chkL
  split
  · exact fun _ h => by cases h
  · exact fun i hi => octB_octs 8 _ i (List.mem_of_mem_drop hi)
theorem chk_len (c m x : Int) (p : List Int) : (chkL c m x p).length ≤ 8 := by
  unfold chkL
  split
  · exact Nat.zero_le _
  · rw [List.length_drop, octB_len]; omega
theorem add3 (m x : Int) (p : List Int) (hl : p.length ≤ 20000) : bopD .Add (tIs (octB 8 m ++ octB 8 x)) (tIs p) = some (tIs (octB 8 m ++ octB 8 x ++ p)) :=
  add_ints (by rw [List.length_append, octB_len, octB_len]; simp only [sz]; omega)
theorem add2 (m x : Int) : bopD .Add (tIs (octB 8 m)) (tIs (octB 8 x)) = some (tIs (octB 8 m ++ octB 8 x)) :=
  add_ints (by rw [octB_len, octB_len]; decide)
theorem octs3 (m x : Int) (p : List Int) (h : octs p) : octs (octB 8 m ++ octB 8 x ++ p) := octs_app (octs_app (octB_octs 8 m) (octB_octs 8 x)) h
theorem sizes_at (c : Int) (h : c = 1 ∨ c = 2) : ixD (.tup [.int 0, .int 4, .int 8]) (.int c) = some (.int (4 * c)) := by
  rcases h with rfl | rfl <;> rfl
theorem sizes_at' (c : Int) (h : c = 0 ∨ c = 1 ∨ c = 2) : ixD (.lst [.int 0, .int 4, .int 8]) (.int c) = some (.int (4 * c)) := by
  rcases h with rfl | rfl | rfl <;> rfl
theorem chk_cut (c m x : Int) (p : List Int) (h : c = 0 ∨ c = 1 ∨ c = 2) : cutI (octB 8 (sumC m x p)) (some (8 - 4 * c)) none = chkL c m x p := by
  rcases h with rfl | rfl | rfl
  · refine (cut_drop (octB 8 (sumC m x p)) 8 (by rw [octB_len]; decide)).trans ?_
    rw [List.drop_of_length_le (by rw [octB_len]; decide)]
    rfl
  · exact cut_drop (octB 8 (sumC m x p)) 4 (by rw [octB_len]; decide)
  · exact cut_drop (octB 8 (sumC m x p)) 0 (by rw [octB_len]; decide)
theorem sumC_bound (m x : Int) (p : List Int) : 0 ≤ sumC m x p ∧ sumC m x p < 18446744073709551616 := sumL_bound _ _ ⟨by omega, by omega⟩
theorem check_in (a k c m x : Int) (p : List Int) (h : setOk a k c m) (hx : 0 ≤ x) (hl : p.length ≤ 20000) (hn : 2 ≤ n) : C T.prg W n 14 [setD a k c m, .int x, tIs p] S = .ok (tIs (chkL c m x p)) S := by
  obtain ⟨n, rfl⟩ : ∃ m, n = m + 1 := ⟨n - 1, by omega⟩
  rw [call_eq (d := ⟨3, 4, false, c_check_in⟩) rfl rfl]
  obtain ⟨h1, h2, h3, h4, h5, h6, h7, h8⟩ := h
  show ends false S.length (exSs T.prg.sub (Oc T.prg W n) c_check_in [some (setD a k c m), some (.int x), some (tIs p), none] S) = _
  unfold c_check_in
  by_cases hc : c = 0
  · subst hc
    rw [ss_rt (s_then (t_eqI (i := 0) (j := 0) (ev_six rfl (set_at2 a k 0 m)) (ev_cst (c := .int 0))) (s_ret (ev_tup evs_nil (by simp [sz]))))]
    exact ends_rt
  · have hc' : c = 1 ∨ c = 2 := by omega
    rw [ss_nx (s_skip ((t_eqI (i := c) (j := 0) (ev_six rfl (set_at2 a k c m)) (ev_cst (c := .int 0))).trans (by rw [decide_eq_false hc])))]
    rw [ss_nx (s_asg (d := .int (sumC m x p)) (S1 := S) ((ev_call2 (ev_glob) (ev_bop (ev_bop ((ev_call2 (ev_six rfl (set_at3 a k c m)) ev_glob).trans (octets_in m 8 h7 (by omega) (by omega))) ((ev_call2 (ev_var (i := 1) rfl) ev_glob).trans (octets_in x 8 hx (by omega) (by omega))) (add2 m x)) (ev_var (i := 2) rfl) (add3 m x p hl))).trans (sum_in 19 _ (by omega))) (by simp))]
    show ends false S.length (exSs T.prg.sub (Oc T.prg W n) _ [some (setD a k c m), some (.int x), some (tIs p), some (.int (sumC m x p))] S) = _
    rw [s_ret (d := tIs (chkL c m x p)) (S1 := S) ((ev_slT (l := octB 8 (sumC m x p)) (p := some (8 - 4 * c)) (S1 := S) ((ev_call2 (ev_var (i := 3) rfl) ev_glob).trans (octets_in _ 8 (sumC_bound m x p).1 (by omega) (by omega))) (ev_o (ev_bop (va := .int 8) (vb := .int (4 * c)) (S1 := S) ev_glob (ev_ix (va := .tup [.int 0, .int 4, .int 8]) (vb := .int c) (S1 := S) ev_glob (ev_six rfl (set_at2 a k c m)) (sizes_at c hc')) rfl)) evo_non).trans (by rw [chk_cut c m x p (.inr hc')]))]
    exact ends_rt
theorem law_check (a k c m x : Int) (p : List Int) (h : setOk a k c m) (ho : octs p) (hl : p.length ≤ 20000) (hn : 2 ≤ n) : C T.prg W n 34 [setD a k c m, .int x, tIs p] S = .ok (tIs (chkL c m x p)) S := by
  obtain ⟨n, rfl⟩ : ∃ m, n = m + 1 := ⟨n - 1, by omega⟩
  rw [call_eq (d := ⟨3, 4, false, c_law_check⟩) rfl rfl]
  obtain ⟨h1, h2, h3, h4, h5, h6, h7, h8⟩ := h
  show ends false S.length (exSs T.prg.sub (Oc T.prg W n) c_law_check [some (setD a k c m), some (.int x), some (tIs p), none] S) = _
  unfold c_law_check
  have e1 : evE (Oc T.prg W n) (.call 27 "_law_octets" (.cons (.ix (.var 0) (.cst (.int 3))) (.cons (.cst (.int 8)) .nil))) [some (setD a k c m), some (.int x), some (tIs p), none] S = .ok (tIs (octB 8 m)) S := (ev_call2 (ev_six rfl (set_at3 a k c m)) (ev_cst (c := .int 8))).trans (law_octets m 8 (by omega) (by omega))
  have e2 : evE (Oc T.prg W n) (.call 27 "_law_octets" (.cons (.var 1) (.cons (.cst (.int 8)) .nil))) [some (setD a k c m), some (.int x), some (tIs p), none] S = .ok (tIs (octB 8 x)) S := (ev_call2 (ev_var (i := 1) rfl) (ev_cst (c := .int 8))).trans (law_octets x 8 (by omega) (by omega))
  rw [ss_nx (s_asg (d := tIs (octB 8 (sumC m x p))) (S1 := S) ((ev_call2 ((ev_call2 (ev_cst (c := .int 19)) (ev_bop (ev_bop e1 e2 (add2 m x)) (ev_var (i := 2) rfl) (add3 m x p hl))).trans (law_sum 19 _ (by omega) (octs3 m x p ho) (by omega))) (ev_cst (c := .int 8))).trans (law_octets _ 8 (by omega) (by omega))) (by simp))]
  show ends false S.length (exSs T.prg.sub (Oc T.prg W n) _ [some (setD a k c m), some (.int x), some (tIs p), some (tIs (octB 8 (sumC m x p)))] S) = _
  have hc' : c = 0 ∨ c = 1 ∨ c = 2 := by omega
  rw [s_ret (d := tIs (chkL c m x p)) (S1 := S) ((ev_slT (l := octB 8 (sumC m x p)) (p := some (8 - 4 * c)) (S1 := S) (ev_var (i := 3) rfl) (ev_o (ev_bop (va := .int 8) (vb := .int (4 * c)) (S1 := S) (ev_cst (c := .int 8)) (ev_ix (va := .lst [.int 0, .int 4, .int 8]) (vb := .int c) (S1 := S) (ev_disp (evs_cons (ev_cst (c := .int 0)) (evs_cons (ev_cst (c := .int 4)) (evs_cons (ev_cst (c := .int 8)) evs_nil))) (by simp [sz])) (ev_six rfl (set_at2 a k c m)) (sizes_at' c hc')) rfl)) evo_non).trans (by rw [chk_cut c m x p hc']))]
  exact ends_rt
end
section
variable {W n : Nat} {S : Sto}
theorem pw64 : bopD .Pow (.int 2) (.int 64) = some (.int 18446744073709551616) := by simp [bopD, powOk]
theorem pw56 : bopD .Pow (.int 2) (.int 56) = some (.int 72057594037927936) := by simp [bopD, powOk]
theorem mulF (i : Int) : bopD .Mult (.int i) (.int 6364136223846793005) = some (.int (i * 6364136223846793005)) := by
  simp only [bopD]
  rw [if_pos (by simp [mulOk])]
theorem add88 (a b : Int) : bopD .Add (tIs (octB 8 a)) (tIs (octB 8 b)) = some (tIs (octB 8 a ++ octB 8 b)) := add_ints (by rw [octB_len, octB_len]; decide)
theorem str_loop (O : Orc) : ∀ (l : List D) (t : Int) (F : List Int) (w0 w1 w2 x3 : Option D), F.length + l.length ≤ 16777216 → ∃ y t', forL (fun d ρ1 S2 => (evTg O (.nm 3) d ρ1 S2).bind fun ρ2 S3 => exSs T.prg.sub O c_stream_in_b1 ρ2 S3) l [w0, w1, w2, x3, some (.int t), some (.loc S.length)] (S ++ [.lst (F.map D.int)]) = .ok (.nx [w0, w1, w2, y, some (.int t'), some (.loc S.length)]) (S ++ [.lst ((F ++ strL l.length t).map D.int)])
  | [], t, F, w0, w1, w2, x3, _ => ⟨x3, t, by simp [forL, strL]⟩
  | d :: r, t, F, w0, w1, w2, x3, h => by
    simp only [List.length_cons] at h
    obtain ⟨y, t', e⟩ := str_loop O r (trn t) (F ++ [trn t / 72057594037927936]) w0 w1 w2 (some d) (by rw [List.length_append, List.length_singleton]; omega)
    refine ⟨y, t', forL_cons (forL_turn (tg_nm (by simp)) (ρ3 := [w0, w1, w2, some d, some (.int (trn t)), some (.loc S.length)]) (S2 := S ++ [.lst ((F ++ [trn t / 72057594037927936]).map D.int)]) ?_) (e.trans (by rw [List.length_cons, strL_snoc F r.length t F]))⟩
    show exSs T.prg.sub O c_stream_in_b1 [w0, w1, w2, some d, some (.int t), some (.loc S.length)] _ = _
    unfold c_stream_in_b1
    rw [ss_nx (s_asg (d := .int (trn t)) (ev_bop (ev_bop (va := .int (t * 6364136223846793005)) (ev_bop (ev_var (i := 4) rfl) ev_glob (mulF t)) ev_glob rfl) ev_glob (Gx.mod_int (by decide))) (by simp))]
    show exSs T.prg.sub O _ [w0, w1, w2, some d, some (.int (trn t)), some (.loc S.length)] _ = _
    rw [ss_nx (s_app (k := S.length) (d := .int (trn t / 72057594037927936)) rfl (ev_bop (ev_var (i := 4) rfl) (ev_cst (c := .int 56)) rfl) at_end (by rw [List.length_map]; simp only [sz]; omega)), set_end, List.map_append]
    exact exSs_nil
theorem stream_in (k x : Int) (m : Nat) (hk : 0 ≤ k) (hx : 0 ≤ x) (hm : m ≤ 100000) (hS : shut S = true) (hn : 2 ≤ n) : C T.prg W n 11 [.int k, .int x, .int m] S = .ok (.lst ((strm k x m).map D.int)) S := by
  obtain ⟨n, rfl⟩ : ∃ m, n = m + 1 := ⟨n - 1, by omega⟩
  rw [call_eq (d := ⟨3, 6, false, c_stream_in⟩) rfl rfl]
  show ends false S.length (exSs T.prg.sub (Oc T.prg W n) c_stream_in [some (.int k), some (.int x), some (.int m), none, none, none] S) = _
  unfold c_stream_in
  rw [ss_nx (s_par2 (d := .int (sumL 17 (octB 8 k ++ octB 8 x))) (e := .loc S.length) (S1 := S ++ [.lst (List.map D.int [])]) (evs_cons ((ev_call2 ev_glob (ev_bop ((ev_call2 (ev_var (i := 0) rfl) ev_glob).trans (octets_in k 8 hk (by omega) (by omega))) ((ev_call2 (ev_var (i := 1) rfl) ev_glob).trans (octets_in x 8 hx (by omega) (by omega))) (add88 k x))).trans (sum_in 17 _ (by omega))) (evs_cons (ev_ml ef_disp0) evs_nil)) (by simp) (by simp))]
  show ends false S.length (exSs T.prg.sub (Oc T.prg W n) _ [some (.int k), some (.int x), some (.int m), none, some (.int (sumL 17 (octB 8 k ++ octB 8 x))), some (.loc S.length)] _) = _
  obtain ⟨y, t', e⟩ := str_loop (S := S) (Oc T.prg W n) (rngD 0 m) (sumL 17 (octB 8 k ++ octB 8 x)) [] (some (.int k)) (some (.int x)) (some (.int m)) none (by rw [rngD_len]; simp; omega)
  rw [rngD_len, Int.toNat_natCast, List.nil_append] at e
  rw [ss_nx (s_for (ei_rng1 (ev_var rfl) (small_nat (by omega))) e), s_ret (ev_var (i := 5) rfl)]
  exact leave_loc hS
theorem lstr_loop (O : Orc) : ∀ (l : List D) (t : Int) (F : List Int) (w0 w1 w2 x3 : Option D), F.length + l.length ≤ 16777216 → ∃ y t', forL (fun d ρ1 S2 => (evTg O (.nm 3) d ρ1 S2).bind fun ρ2 S3 => exSs T.prg.sub O c_law_stream_b1 ρ2 S3) l [w0, w1, w2, x3, some (.int t), some (.loc S.length)] (S ++ [.lst (F.map D.int)]) = .ok (.nx [w0, w1, w2, y, some (.int t'), some (.loc S.length)]) (S ++ [.lst ((F ++ strL l.length t).map D.int)])
  | [], t, F, w0, w1, w2, x3, _ => ⟨x3, t, by simp [forL, strL]⟩
  | d :: r, t, F, w0, w1, w2, x3, h => by
    simp only [List.length_cons] at h
    obtain ⟨y, t', e⟩ := lstr_loop O r (trn t) (F ++ [trn t / 72057594037927936]) w0 w1 w2 (some d) (by rw [List.length_append, List.length_singleton]; omega)
    refine ⟨y, t', forL_cons (forL_turn (tg_nm (by simp)) (ρ3 := [w0, w1, w2, some d, some (.int (trn t)), some (.loc S.length)]) (S2 := S ++ [.lst ((F ++ [trn t / 72057594037927936]).map D.int)]) ?_) (e.trans (by rw [List.length_cons, strL_snoc F r.length t F]))⟩
    show exSs T.prg.sub O c_law_stream_b1 [w0, w1, w2, some d, some (.int t), some (.loc S.length)] _ = _
    unfold c_law_stream_b1
    rw [ss_nx (s_asg (d := .int (trn t)) (ev_bop (ev_int (ev_bop (va := .int (t * 6364136223846793005)) (ev_bop (ev_var (i := 4) rfl) (ev_cst (c := .int 6364136223846793005)) (mulF t)) (ev_cst (c := .int 1442695040888963407)) rfl)) (ev_pw pw64) (Gx.mod_int (by decide))) (by simp))]
    show exSs T.prg.sub O _ [w0, w1, w2, some d, some (.int (trn t)), some (.loc S.length)] _ = _
    rw [ss_nx (s_app (k := S.length) (d := .int (trn t / 72057594037927936)) rfl (ev_bop (ev_var (i := 4) rfl) (ev_pw pw56) rfl) at_end (by rw [List.length_map]; simp only [sz]; omega)), set_end, List.map_append]
    exact exSs_nil
theorem law_stream (k x : Int) (m : Nat) (hm : m ≤ 100000) (hS : shut S = true) (hn : 2 ≤ n) : C T.prg W n 32 [.int k, .int x, .int m] S = .ok (.lst ((strm k x m).map D.int)) S := by
  obtain ⟨n, rfl⟩ : ∃ m, n = m + 1 := ⟨n - 1, by omega⟩
  rw [call_eq (d := ⟨3, 6, false, c_law_stream⟩) rfl rfl]
  show ends false S.length (exSs T.prg.sub (Oc T.prg W n) c_law_stream [some (.int k), some (.int x), some (.int m), none, none, none] S) = _
  unfold c_law_stream
  rw [ss_nx (s_par2 (d := .int (sumL 17 (octB 8 k ++ octB 8 x))) (e := .loc S.length) (S1 := S ++ [.lst (List.map D.int [])]) (evs_cons ((ev_call2 (ev_cst (c := .int 17)) (ev_bop ((ev_call2 (ev_var (i := 0) rfl) (ev_cst (c := .int 8))).trans (law_octets k 8 (by omega) (by omega))) ((ev_call2 (ev_var (i := 1) rfl) (ev_cst (c := .int 8))).trans (law_octets x 8 (by omega) (by omega))) (add88 k x))).trans (law_sum 17 _ (by omega) (octs_app (octB_octs 8 k) (octB_octs 8 x)) (by omega))) (evs_cons (ev_ml ef_disp0) evs_nil)) (by simp) (by simp))]
  show ends false S.length (exSs T.prg.sub (Oc T.prg W n) _ [some (.int k), some (.int x), some (.int m), none, some (.int (sumL 17 (octB 8 k ++ octB 8 x))), some (.loc S.length)] _) = _
  obtain ⟨y, t', e⟩ := lstr_loop (S := S) (Oc T.prg W n) (rngD 0 m) (sumL 17 (octB 8 k ++ octB 8 x)) [] (some (.int k)) (some (.int x)) (some (.int m)) none (by rw [rngD_len]; simp; omega)
  rw [rngD_len, Int.toNat_natCast, List.nil_append] at e
  rw [ss_nx (s_for (ei_rng1 (ev_var rfl) (small_nat (by omega))) e), s_ret (ev_var (i := 5) rfl)]
  exact leave_loc hS
end
section
variable {W n : Nat} {S : Sto}
theorem cy_zero (f : Int → Int × Int → Int) (k x : Int) (p : List Int) : cyL f 0 k x p = p := if_pos rfl
theorem cy_pos (f : Int → Int × Int → Int) {a : Int} (h : ¬ a = 0) (k x : Int) (p : List Int) : cyL f a k x p = (p.zip (strm k x p.length)).map (f a) := if_neg h
theorem strm_len (k x : Int) (m : Nat) : (strm k x m).length = m := strL_len _ _
theorem plain_again (a k c m x : Int) (p : List Int) (h : setOk a k c m) (hx : 0 ≤ x) (hl : p.length ≤ 100000) (hS : shut S = true) (hn : 3 ≤ n) : C T.prg W n 12 [setD a k c m, .int x, tIs p] S = .ok (tIs (cyL deO a k x p)) S := by
  obtain ⟨n, rfl⟩ : ∃ m, n = m + 1 := ⟨n - 1, by omega⟩
  rw [call_eq (d := ⟨3, 6, false, c_plain_again⟩) rfl rfl]
  show ends false S.length (exSs T.prg.sub (Oc T.prg W n) c_plain_again [some (setD a k c m), some (.int x), some (tIs p), none, none, none] S) = _
  unfold c_plain_again
  by_cases ha : a = 0
  · subst ha
    rw [ss_rt (s_then (t_eqI (i := 0) (j := 0) (ev_six rfl (set_at0 0 k c m)) (ev_cst (c := .int 0))) (s_ret (ev_var rfl))), cy_zero]
    exact ends_rt
  · rw [ss_nx (s_skip ((t_eqI (i := a) (j := 0) (ev_six rfl (set_at0 a k c m)) (ev_cst (c := .int 0))).trans (by rw [decide_eq_false ha])))]
    rw [ss_nx (s_asg (ev_fl (ev_zips (ev_var (i := 2) rfl) ((ev_callN3 (ev_six rfl (set_at1 a k c m)) (ev_var (i := 1) rfl) (ev_lenT (ev_var (i := 2) rfl))).trans (stream_in k x p.length h.2.2.1 hx hl hS (by omega))))) (by simp)), pairs_ints, cy_pos deO ha]
    have hz : (p.zip (strm k x p.length)).length ≤ sz := by rw [List.length_zip, strm_len]; simp only [sz]; omega
    show ends false S.length (exSs T.prg.sub (Oc T.prg W n) _ [some (setD a k c m), some (.int x), some (tIs p), some (.lst ((p.zip (strm k x p.length)).map prI)), none, none] S) = _
    rw [s_ret (d := tIs ((p.zip (strm k x p.length)).map (deO a))) (S1 := S) (ev_tupB (ev_fl (ev_comp (l := (p.zip (strm k x p.length)).map prI) (ei_seq (ev_var rfl) rfl) (by rw [List.length_map]; exact hz) (compL_all2 (ys := ((p.zip (strm k x p.length)).map (deO a)).map D.int) ?_))))]
    · exact ends_rt
    · rw [List.map_map]
      have tg : ∀ q : Int × Int, evTg (Oc T.prg W n) (.tp (.cons (.nm 4) (.cons (.nm 5) .nil))) (prI q) (wipeE [some (setD a k c m), some (.int x), some (tIs p), some (.lst ((p.zip (strm k x p.length)).map prI)), none, none] [4, 5]) S = .ok [some (setD a k c m), some (.int x), some (tIs p), some (.lst ((p.zip (strm k x p.length)).map prI)), some (.int q.1), some (.int q.2)] S := fun q => tg2 (by simp [wipeE]) (by simp [wipeE])
      refine all2_map _ fun q => cF_eq (tg q) ?_
      show evE _ _ [some (setD a k c m), some (.int x), some (tIs p), some (.lst ((p.zip (strm k x p.length)).map prI)), some (.int q.1), some (.int q.2)] S = .ok (.int (deO a q)) S
      rw [ev_ife (t_eqI (i := a) (j := 1) (ev_six rfl (set_at0 a k c m)) (ev_cst (c := .int 1)))]
      unfold deO
      by_cases h1 : a = 1
      · rw [decide_eq_true h1, if_pos rfl, if_pos h1]
        exact ev_bop (ev_var (i := 4) rfl) (ev_var (i := 5) rfl) rfl
      · rw [decide_eq_false h1, if_neg Bool.false_ne_true, if_neg h1]
        exact ev_bop (ev_bop (ev_var (i := 4) rfl) (ev_var (i := 5) rfl) rfl) (ev_cst (c := .int 256)) (Gx.mod_int (by decide))
/-- enciphered or plain again, as the flag says -/
def fB (b : Bool) : Int → Int × Int → Int := if b then deO else ciO
theorem lci_loop (O : Orc) (a k c m : Int) (b : Bool) : ∀ (l : List (Int × Int)) (F : List Int) (w1 w2 x5 x6 : Option D), F.length + l.length ≤ 16777216 → ∃ y z, forL (fun d ρ1 S2 => (evTg O (.tp (.cons (.nm 5) (.cons (.nm 6) .nil))) d ρ1 S2).bind fun ρ2 S3 => exSs T.prg.sub O c_law_ciphered_b1 ρ2 S3) (l.map prI) [some (setD a k c m), w1, w2, some (.bl b), some (.loc S.length), x5, x6] (S ++ [.lst (F.map D.int)]) = .ok (.nx [some (setD a k c m), w1, w2, some (.bl b), some (.loc S.length), y, z]) (S ++ [.lst ((F ++ l.map (fB b a)).map D.int)])
  | [], F, w1, w2, x5, x6, _ => ⟨x5, x6, by simp [forL]⟩
  | q :: r, F, w1, w2, x5, x6, h => by
    simp only [List.length_cons] at h
    obtain ⟨y, z, e⟩ := lci_loop O a k c m b r (F ++ [fB b a q]) w1 w2 (some (.int q.1)) (some (.int q.2)) (by rw [List.length_append, List.length_singleton]; omega)
    refine ⟨y, z, forL_cons (forL_turn (tg2 (by simp) (by simp)) (ρ3 := [some (setD a k c m), w1, w2, some (.bl b), some (.loc S.length), some (.int q.1), some (.int q.2)]) (S2 := S ++ [.lst ((F ++ [fB b a q]).map D.int)]) ?_) (e.trans (by simp))⟩
    show exSs T.prg.sub O c_law_ciphered_b1 [some (setD a k c m), w1, w2, some (.bl b), some (.loc S.length), some (.int q.1), some (.int q.2)] _ = _
    unfold c_law_ciphered_b1
    have hlt : (F.map D.int).length < sz := by rw [List.length_map]; simp only [sz]; omega
    by_cases h1 : a = 1
    · have ef : fB b a q = Builtin.bitXor q.1 q.2 := by cases b <;> simp [fB, ciO, deO, h1]
      rw [ss_nx (s_then ((t_eqI (i := a) (j := 1) (ev_six rfl (set_at0 a k c m)) (ev_cst (c := .int 1))).trans (by rw [decide_eq_true h1])) ((ss_nx (s_app (k := S.length) (d := .int (fB b a q)) rfl (ev_bop (ev_var (i := 5) rfl) (ev_var (i := 6) rfl) (by rw [ef]; rfl)) at_end hlt)).trans (by rw [set_end]; exact exSs_nil)))]
      simp only [List.map_append]
      exact exSs_nil
    · have ef : fB b a q = (if b then q.1 - q.2 else q.1 + q.2) % 256 := by cases b <;> simp [fB, ciO, deO, h1]
      have ee : evE O (.ife (.tru (.var 3)) (.bop .Sub (.var 5) (.var 6)) (.bop .Add (.var 5) (.var 6))) [some (setD a k c m), w1, w2, some (.bl b), some (.loc S.length), some (.int q.1), some (.int q.2)] (S ++ [.lst (F.map D.int)]) = .ok (.int (if b then q.1 - q.2 else q.1 + q.2)) (S ++ [.lst (F.map D.int)]) := by
        rw [ev_ife (t_tru (ev_var (i := 3) rfl))]
        cases b
        · exact ev_bop (ev_var (i := 5) rfl) (ev_var (i := 6) rfl) rfl
        · exact ev_bop (ev_var (i := 5) rfl) (ev_var (i := 6) rfl) rfl
      rw [ss_nx (s_else ((t_eqI (i := a) (j := 1) (ev_six rfl (set_at0 a k c m)) (ev_cst (c := .int 1))).trans (by rw [decide_eq_false h1])) ((ss_nx (s_app (k := S.length) (d := .int (fB b a q)) rfl (ev_bop (ev_int ee) (ev_cst (c := .int 256)) (by rw [ef]; exact Gx.mod_int (by decide))) at_end hlt)).trans (by rw [set_end]; exact exSs_nil)))]
      simp only [List.map_append]
      exact exSs_nil
theorem law_ciphered (a k c m x : Int) (p : List Int) (b : Bool) (hl : p.length ≤ 100000) (hS : shut S = true) (hn : 3 ≤ n) : C T.prg W n 33 [setD a k c m, .int x, tIs p, .bl b] S = .ok (tIs (cyL (fB b) a k x p)) S := by
  obtain ⟨n, rfl⟩ : ∃ m, n = m + 1 := ⟨n - 1, by omega⟩
  rw [call_eq (d := ⟨4, 7, false, c_law_ciphered⟩) rfl rfl]
  show ends false S.length (exSs T.prg.sub (Oc T.prg W n) c_law_ciphered [some (setD a k c m), some (.int x), some (tIs p), some (.bl b), none, none, none] S) = _
  unfold c_law_ciphered
  by_cases ha : a = 0
  · subst ha
    rw [ss_rt (s_then (t_eqI (i := 0) (j := 0) (ev_six rfl (set_at0 0 k c m)) (ev_cst (c := .int 0))) (s_ret (ev_var rfl))), cy_zero]
    exact ends_rt
  · rw [ss_nx (s_skip ((t_eqI (i := a) (j := 0) (ev_six rfl (set_at0 a k c m)) (ev_cst (c := .int 0))).trans (by rw [decide_eq_false ha])))]
    rw [ss_nx (s_asg (d := .loc S.length) (S1 := S ++ [.lst (List.map D.int [])]) (ev_ml ef_disp0) (by simp)), cy_pos (fB b) ha]
    show ends false S.length (exSs T.prg.sub (Oc T.prg W n) _ [some (setD a k c m), some (.int x), some (tIs p), some (.bl b), some (.loc S.length), none, none] _) = _
    have hS2 : shut (S ++ [.lst (List.map D.int [])]) = true := by
      unfold shut at hS ⊢
      rw [List.all_append, hS]
      rfl
    obtain ⟨y, z, e⟩ := lci_loop (S := S) (Oc T.prg W n) a k c m b (p.zip (strm k x p.length)) [] (some (.int x)) (some (tIs p)) none none (by rw [List.length_zip, strm_len]; simp; omega)
    rw [List.nil_append] at e
    have ez := ei_zipTL (O := Oc T.prg W n) (a := .var 2) (ρ := [some (setD a k c m), some (.int x), some (tIs p), some (.bl b), some (.loc S.length), none, none]) (S := S ++ [.lst (List.map D.int [])]) (ev_var rfl) ((ev_callN3 (f := 32) (x := "_law_stream") (ev_six (i := 0) rfl (set_at1 a k c m)) (ev_var (i := 1) rfl) (ev_lenT (ev_var (i := 2) rfl))).trans (law_stream k x p.length hl hS2 (by omega)))
    rw [pairs_ints] at ez
    have er : evE (Oc T.prg W n) (.bi .tuple (.cons (.var 4) .nil)) [some (setD a k c m), some (.int x), some (tIs p), some (.bl b), some (.loc S.length), y, z] (S ++ [.lst ((p.zip (strm k x p.length)).map (fB b a) |>.map D.int)]) = .ok (tIs ((p.zip (strm k x p.length)).map (fB b a))) (S ++ [.lst ((p.zip (strm k x p.length)).map (fB b a) |>.map D.int)]) :=
      ev_bi1 (ev_var (i := 4) rfl) (by rw [der_end]; rfl)
    rw [ss_nx (s_for ez e), s_ret er]
    exact leave_tI hS
end
end K25
set_option Elab.async false
set_option linter.all false
set_option maxRecDepth 100000
set_option maxHeartbeats 4000000
namespace K25
open PySem PySem.Spec PyProof.Rows L2 Gx
/-! ### what the text tells -/
def moreN (m : Int) : Int := 2 + -(3 + m + 2) % 8
theorem moreN_ge (m : Int) : 2 ≤ moreN m ∧ moreN m ≤ 9 := by unfold moreN; omega
def plainL (l : List Int) : List Int := [(l.length : Int) / 256, (l.length : Int) % 256, moreN l.length] ++ l ++ List.replicate (moreN l.length).toNat 0
section
variable {W n : Nat} {S : Sto}
theorem more_in (m : Int) (hn : 1 ≤ n) : C T.prg W n 6 [.int m] S = .ok (.int (moreN m)) S := by
  obtain ⟨n, rfl⟩ : ∃ m, n = m + 1 := ⟨n - 1, by omega⟩
  rw [call_eq (d := ⟨1, 1, false, c_more_in⟩) rfl rfl]
  simp [c_more_in, ends, leave, exSs, exS, evE, evEs, bopD, moreN]
theorem plain_in (l : List Int) (hl : l.length ≤ 1000000) (hn : 2 ≤ n) : C T.prg W n 7 [tIs l] S = .ok (tIs (plainL l)) S := by
  obtain ⟨n, rfl⟩ : ∃ m, n = m + 1 := ⟨n - 1, by omega⟩
  rw [call_eq (d := ⟨1, 3, false, c_plain_in⟩) rfl rfl]
  have e1 : (lv T.prg W n).call 6 [.int (l.length : Int)] S = .ok (.int (moreN l.length)) S := more_in _ (by omega)
  have hm := moreN_ge l.length
  have e2 : bopD .Mult (.tup [.int 0]) (.int (moreN l.length)) = some (.tup (List.replicate (moreN l.length).toNat (.int 0))) := by
    simp only [bopD, List.length_cons, List.length_nil, rep_ints, List.map_replicate]
    rw [if_pos (by simp only [sz]; omega)]
  have e3 : bopD .Add (.tup [.int ((l.length : Int) / 256), .int ((l.length : Int) % 256), .int (moreN l.length)]) (.tup (l.map D.int)) = some (.tup (.int ((l.length : Int) / 256) :: .int ((l.length : Int) % 256) :: .int (moreN l.length) :: l.map D.int)) := by
    simp only [bopD, List.length_cons, List.length_nil, List.length_map]
    rw [if_pos (by simp only [sz]; omega)]
    rfl
  have e4 : bopD .Add (.tup (.int ((l.length : Int) / 256) :: .int ((l.length : Int) % 256) :: .int (moreN l.length) :: l.map D.int)) (.tup (List.replicate (moreN l.length).toNat (.int 0))) = some (tIs (plainL l)) := by
    simp only [bopD, List.length_cons, List.length_map, List.length_replicate]
    rw [if_pos (by simp only [sz]; omega)]
    simp [plainL, tIs]
  have e5 : ∀ a b : Int, 0 < b → b < 1000 → bopD .FloorDiv (.int a) (.int b) = some (.int (a / b)) := fun a b h1 h2 => by simp only [bopD]; rw [if_pos ⟨h1, by omega⟩]
  have e6 : ∀ a b : Int, 0 < b → bopD .Mod (.int a) (.int b) = some (.int (a % b)) := fun a b h1 => by simp only [bopD]; rw [if_pos h1]
  have e1' : (lv T.prg W n).call 6 [.int (l.length : Int)] S = .ok (.int (moreN l.length)) S := e1
  simp only [tIs] at e4
  simp [c_plain_in, tIs, ends, leave, exSs, exS, evE, evEs, evTg, biD, der, Cst.d, e1, e5, e6, e2, e3, e4, sz]
end
section
variable {W n : Nat} {S : Sto}
theorem ix_map (l : List Int) (k : Nat) (h : k < l.length) : L2.atI (l.map D.int) (k : Int) = some (.int l[k]) := by
  rw [atI_nat (by rw [List.length_map]; exact h), List.getElem_map]
def lenL (x y z : Int) : D := if x * 256 + y ≤ 300 ∧ z = moreN (x * 256 + y) then .int (3 + (x * 256 + y) + z) else .non
theorem length_in (x y z : Int) (r : List Int) (hn : 2 ≤ n) : C T.prg W n 8 [tIs (x :: y :: z :: r)] S = .ok (lenL x y z) S := by
  obtain ⟨n, rfl⟩ : ∃ m, n = m + 1 := ⟨n - 1, by omega⟩
  rw [call_eq (d := ⟨1, 2, false, c_length_in⟩) rfl rfl]
  have e1 : (lv T.prg W n).call 6 [.int (x * 256 + y)] S = .ok (.int (moreN (x * 256 + y))) S := more_in _ (by omega)
  have i0 : L2.atI (D.int x :: D.int y :: D.int z :: r.map D.int) 0 = some (.int x) := ix_map (x :: y :: z :: r) 0 (by simp)
  have i1 : L2.atI (D.int x :: D.int y :: D.int z :: r.map D.int) 1 = some (.int y) := ix_map (x :: y :: z :: r) 1 (by simp)
  have i2 : L2.atI (D.int x :: D.int y :: D.int z :: r.map D.int) 2 = some (.int z) := ix_map (x :: y :: z :: r) 2 (by simp)
  have k1 : mulOk x 256 = true := by simp [mulOk]
  by_cases h2 : z = moreN (x * 256 + y)
  · subst h2
    by_cases h1 : x * 256 + y ≤ 300 <;>
      simp [c_length_in, tIs, ends, leave, exSs, exS, evE, evEs, evT, evTg, der, ixD, Cst.d, i0, i1, i2, bopD, k1, e1, cmpD, eqD_int, lenL, h1]
  · by_cases h1 : x * 256 + y ≤ 300 <;>
      simp [c_length_in, tIs, ends, leave, exSs, exS, evE, evEs, evT, evTg, der, ixD, Cst.d, i0, i1, i2, bopD, k1, e1, cmpD, eqD_int, lenL, h1, h2]
def payL (x y z : Int) (r : List Int) : D := if 8 ≤ r.length + 3 ∧ (x * 256 + y ≤ 300 ∧ z = moreN (x * 256 + y)) ∧ 3 + (x * 256 + y) + z = (r.length : Int) + 3 then tIs (r.take (r.length - z.toNat)) else .non
end
section
variable {W n : Nat} {S : Sto}
def payD : List Int → D
  | x :: y :: z :: r => payL x y z r
  | _ => .non
theorem law_octets2 (m : Int) (hn : 1 ≤ n) : C T.prg W n 27 [.int m, .int 2] S = .ok (tIs [m / 256 % 256, m % 256]) S := by
  obtain ⟨n, rfl⟩ : ∃ m, n = m + 1 := ⟨n - 1, by omega⟩
  rw [call_eq (d := ⟨2, 4, false, c_law_octets⟩) rfl rfl]
  have e0 : rngD 0 2 = [.int 0, .int 1] := rfl
  simp [c_law_octets, c_law_octets_b1, tIs, ends, leave, exSs, exS, evE, evEs, evF, evI, evTg, smallI, e0, forL, turn, biD, bopD, lopD, der, Cst.d, sz]
theorem law_while (m : Int) (l : List Int) (hm : (l.length : Int) = m) (O : Orc) : ∀ (k i fuel : Nat), (i : Int) + k = moreN m - 2 → k < fuel →
    whileL (fun ρ1 S1 => evT O (.cmp .Gt (.bop .Mod (.bi .int (.cons (.bop .Add (.bop .Add (.cst (.int 3)) (.bi .len (.cons (.var 0) .nil))) (.var 1)) .nil)) (.cst (.int 8))) (.cst (.int 0))) ρ1 S1) (fun ρ1 S1 => exSs T.prg.sub O c_law_plain_b1 ρ1 S1) fuel [some (tIs l), some (.int (2 + i))] S = .ok (.nx [some (tIs l), some (.int (moreN m))]) S := by
  intro k
  induction k with
  | zero =>
    intro i fuel h hf
    obtain ⟨fuel, rfl⟩ : ∃ f, fuel = f + 1 := ⟨fuel - 1, by omega⟩
    have e : (2 : Int) + i = moreN m := by omega
    rw [e]
    have nz : ¬ (0 < (3 + m + moreN m) % 8) := by unfold moreN; omega
    subst hm
    exact whileL_stop (by simp [tIs, evT, evE, evEs, biD, bopD, der, Cst.d, cmpD, nz])
  | succ k ih =>
    intro i fuel h hf
    obtain ⟨fuel, rfl⟩ : ∃ f, fuel = f + 1 := ⟨fuel - 1, by omega⟩
    have pz : 0 < (3 + m + (2 + (i : Int))) % 8 := by unfold moreN at h; omega
    have := ih (i + 1) fuel (by omega) (by omega)
    have e : (2 : Int) + i + 1 = 2 + ((i + 1 : Nat) : Int) := by omega
    subst hm
    rw [← e] at this
    rw [whileL_step (S1 := S) (S2 := S) (ρ1 := [some (tIs l), some (.int (2 + (i : Int) + 1))]) (by simp [tIs, evT, evE, evEs, biD, bopD, der, Cst.d, cmpD, pz]) (by simp [c_law_plain_b1, exSs, exS, evE, evTg, bopD, der, Cst.d])]
    exact this
theorem law_plain (l : List Int) (hl : l.length ≤ 65535) (hW : 20 ≤ W) (hn : 2 ≤ n) : C T.prg W n 35 [tIs l] S = .ok (tIs (plainL l)) S := by
  obtain ⟨n, rfl⟩ : ∃ m, n = m + 1 := ⟨n - 1, by omega⟩
  rw [call_eq (d := ⟨1, 2, false, c_law_plain⟩) rfl rfl]
  have hm := moreN_ge l.length
  have w := law_while (S := S) (l.length : Int) l rfl (Oc T.prg W n) (moreN l.length - 2).toNat 0 W (by omega) (by omega)
  have e1 : (lv T.prg W n).call 27 [.int (l.length : Int), .int 2] S = .ok (tIs [(l.length : Int) / 256, (l.length : Int) % 256]) S := by
    have := law_octets2 (W := W) (S := S) (l.length : Int) (n := n) (by omega)
    have e : (l.length : Int) / 256 % 256 = (l.length : Int) / 256 := by omega
    rw [e] at this
    exact this
  have e2 : bopD .Mult (.tup [.int 0]) (.int (moreN l.length)) = some (.tup (List.replicate (moreN l.length).toNat (.int 0))) := by
    simp only [bopD, List.length_cons, List.length_nil, rep_ints, List.map_replicate]
    rw [if_pos (by simp only [sz]; omega)]
  have e3 : bopD .Add (.tup [.int ((l.length : Int) / 256), .int ((l.length : Int) % 256), .int (moreN l.length)]) (.tup (l.map D.int)) = some (.tup (.int ((l.length : Int) / 256) :: .int ((l.length : Int) % 256) :: .int (moreN l.length) :: l.map D.int)) := by
    simp only [bopD, List.length_cons, List.length_nil, List.length_map]
    rw [if_pos (by simp only [sz]; omega)]
    rfl
  have e4 : bopD .Add (.tup (.int ((l.length : Int) / 256) :: .int ((l.length : Int) % 256) :: .int (moreN l.length) :: l.map D.int)) (.tup (List.replicate (moreN l.length).toNat (.int 0))) = some (tIs (plainL l)) := by
    simp only [bopD, List.length_cons, List.length_map, List.length_replicate]
    rw [if_pos (by simp only [sz]; omega)]
    simp [plainL, tIs]
  have e5 : bopD .Add (.tup [.int ((l.length : Int) / 256), .int ((l.length : Int) % 256)]) (.tup [.int (moreN l.length)]) = some (.tup [.int ((l.length : Int) / 256), .int ((l.length : Int) % 256), .int (moreN l.length)]) := by
    simp [bopD, sz]
  simp only [tIs] at e4 w e1
  have w : whileL (fun ρ1 S1 => evT (Oc T.prg W n) (.cmp .Gt (.bop .Mod (.bi .int (.cons (.bop .Add (.bop .Add (.cst (.int 3)) (.bi .len (.cons (.var 0) .nil))) (.var 1)) .nil)) (.cst (.int 8))) (.cst (.int 0))) ρ1 S1) (fun ρ1 S1 => exSs T.prg.sub (Oc T.prg W n) c_law_plain_b1 ρ1 S1) W [some (.tup (l.map D.int)), some (.int 2)] S = .ok (.nx [some (.tup (l.map D.int)), some (.int (moreN l.length))]) S := w
  simp [c_law_plain, tIs, ends, leave, exSs, exS, evE, evEs, evTg, Cst.d, w, biD, der, e1, e2, e3, e4, e5, sz]
end
section
variable {W n : Nat} {S : Sto}
theorem same_told (v : D) (h : ∀ S, C T.prg W n 42 [v, v] S = .ok (.bl true) S) (hn : 1 ≤ n) : C T.prg W (n + 1) 42 [.tup [.str "told", v], .tup [.str "told", v]] S = .ok (.bl true) S :=
  law_same_tup _ (fun x hx S => by
    simp only [List.mem_cons, List.not_mem_nil, or_false] at hx
    rcases hx with rfl | rfl
    · exact law_same _ (.inr (.inr ⟨_, rfl⟩)) (by decide +kernel) hn
    · exact h S) (by simp) S
/-- a call that tells what it ought to -/
theorem octs_plain {l : List Int} (h : octs l) (hl : l.length ≤ 300) : octs (plainL l) := by
  have hm := moreN_ge l.length
  refine octs_app (octs_app (fun i hi => ?_) h) fun i hi => ?_
  · simp only [List.mem_cons, List.not_mem_nil, or_false] at hi
    rcases hi with rfl | rfl | rfl <;> omega
  · rw [List.mem_replicate] at hi
    omega
theorem len_plain (l : List Int) : (plainL l).length = 3 + l.length + (moreN l.length).toNat := by
  unfold plainL
  simp only [List.length_append, List.length_cons, List.length_nil, List.length_replicate]
theorem len_ok (l : List Int) (hl : l.length ≤ 300) : lenL ((l.length : Int) / 256) ((l.length : Int) % 256) (moreN l.length) = .int (3 + l.length + moreN l.length) := by
  have e : (l.length : Int) / 256 * 256 + (l.length : Int) % 256 = l.length := by omega
  unfold lenL
  rw [e, if_pos ⟨by omega, rfl⟩]
theorem pay_ok (l q : List Int) (hl : l.length ≤ 300) (hq : (q.length : Int) = moreN l.length) : payL ((l.length : Int) / 256) ((l.length : Int) % 256) (moreN l.length) (l ++ q) = tIs l := by
  have e : (l.length : Int) / 256 * 256 + (l.length : Int) % 256 = l.length := by omega
  have hm := moreN_ge l.length
  have h8 : 8 ≤ 3 + (l.length : Int) + moreN l.length := by unfold moreN; omega
  unfold payL
  rw [e, if_pos ⟨by rw [List.length_append]; omega, ⟨by omega, rfl⟩, by rw [List.length_append]; omega⟩]
  congr 1
  have : (l ++ q).length - (moreN (l.length : Int)).toNat = l.length := by rw [List.length_append]; omega
  rw [this, List.take_left]
end
end K25
set_option Elab.async false
set_option linter.all false
set_option maxRecDepth 100000
set_option maxHeartbeats 1000000
namespace K25
open PySem PySem.Spec PyProof.Rows L2 Gx
section
variable {W n : Nat} {S : Sto}
def seaL (a k c m x : Int) (p : List Int) : List Int := cyL ciO a k x (plainL p) ++ chkL c m x (plainL p)
theorem plain_small {p : List Int} (hl : p.length ≤ 300) : (plainL p).length ≤ 312 := by
  have := moreN_ge p.length
  rw [len_plain]
  omega
theorem sea_len {a k c m x : Int} {p : List Int} (hl : p.length ≤ 300) : (seaL a k c m x p).length ≤ 320 := by
  unfold seaL
  have h1 := plain_small hl
  have h2 := chk_len c m x (plainL p)
  rw [List.length_append, cyL_len]
  omega
theorem sea_octs {a k c m x : Int} {p : List Int} (h : octs p) (hl : p.length ≤ 300) : octs (seaL a k c m x p) :=
  octs_app (cyL_octs (fun _ _ _ h h2 => ciO_oct h h2) a k x (octs_plain h hl)) (chk_octs c m x _)
theorem add_sea {a k c m x : Int} {p : List Int} (hl : p.length ≤ 300) : bopD .Add (tIs (cyL ciO a k x (plainL p))) (tIs (chkL c m x (plainL p))) = some (tIs (seaL a k c m x p)) :=
  add_ints (by have := plain_small hl; have := chk_len c m x (plainL p); rw [cyL_len]; simp only [sz]; omega)
theorem law_sealed (a k c m x : Int) (p : List Int) (h : setOk a k c m) (hp : octs p) (hl : p.length ≤ 300) (hS : shut S = true) (hW : 20 ≤ W) (hn : 4 ≤ n) : C T.prg W n 36 [setD a k c m, .int x, tIs p] S = .ok (tIs (seaL a k c m x p)) S := by
  obtain ⟨n, rfl⟩ : ∃ m, n = m + 1 := ⟨n - 1, by omega⟩
  rw [call_eq (d := ⟨3, 4, false, c_law_sealed⟩) rfl rfl]
  have h1 := plain_small hl
  show ends false S.length (exSs T.prg.sub (Oc T.prg W n) c_law_sealed [some (setD a k c m), some (.int x), some (tIs p), none] S) = _
  unfold c_law_sealed
  rw [ss_nx (s_asg (d := tIs (plainL p)) (S1 := S) ((ev_call1 (ev_var (i := 2) rfl)).trans (law_plain p (by omega) hW (by omega))) (by simp))]
  show ends false S.length (exSs T.prg.sub (Oc T.prg W n) _ [some (setD a k c m), some (.int x), some (tIs p), some (tIs (plainL p))] S) = _
  rw [s_ret (ev_bop ((ev_callN4 (ev_var (i := 0) rfl) (ev_var (i := 1) rfl) (ev_var (i := 3) rfl) (ev_cst (c := .bl false))).trans (law_ciphered a k c m x _ false (by omega) hS (by omega))) ((ev_callN3 (ev_var (i := 0) rfl) (ev_var (i := 1) rfl) (ev_var (i := 3) rfl)).trans (law_check a k c m x _ h (octs_plain hp hl) (by omega) (by omega))) (add_sea hl))]
  exact ends_rt
/-! ### ways -/
def wayL (a k c m : Int) : Nat → List (List Int) → List Int
  | _, [] => []
  | i, p :: r => seaL a k c m i p ++ wayL a k c m (i + 1) r
def pays (ps : List (List Int)) : Prop := ∀ p ∈ ps, octs p ∧ p.length ≤ 300
theorem pays_tail {p : List Int} {ps : List (List Int)} (h : pays (p :: ps)) : pays ps := fun q hq => h q (List.mem_cons_of_mem _ hq)
theorem way_len (a k c m : Int) : ∀ (i : Nat) (ps : List (List Int)), pays ps → (wayL a k c m i ps).length ≤ 320 * ps.length
  | _, [], _ => Nat.zero_le _
  | i, p :: r, h => by
    have h1 := sea_len (a := a) (k := k) (c := c) (m := m) (x := i) (h p (by simp)).2
    have h2 := way_len a k c m (i + 1) r (pays_tail h)
    simp only [wayL, List.length_append, List.length_cons]
    omega
def enI (i : Nat) (ps : List (List Int)) : List D := enumD i (ps.map tIs)
theorem way_loop (O : Orc) (b : CSs) (a k c m : Int) (f : Nat) (x : Str) (hb : b = .cons (.asg (.nm 2) (.bop .Add (.var 2) (.call f x (.cons (.var 0) (.cons (.var 3) (.cons (.var 4) .nil)))))) .nil) :
    ∀ (ps : List (List Int)) (i : Nat) (F : List Int) (w1 x3 x4 : Option D), (∀ p ∈ ps, ∀ j : Nat, O.call f [setD a k c m, .int j, tIs p] S = .ok (tIs (seaL a k c m j p)) S) → pays ps → F.length + 320 * ps.length ≤ 16777216 →
      ∃ y z, forL (fun d ρ1 S2 => (evTg O (.tp (.cons (.nm 3) (.cons (.nm 4) .nil))) d ρ1 S2).bind fun ρ2 S3 => exSs T.prg.sub O b ρ2 S3) (enI i ps) [some (setD a k c m), w1, some (tIs F), x3, x4] S = .ok (.nx [some (setD a k c m), w1, some (tIs (F ++ wayL a k c m i ps)), y, z]) S
  | [], i, F, w1, x3, x4, _, _, _ => ⟨x3, x4, by simp [enI, enumD, forL, wayL]⟩
  | p :: r, i, F, w1, x3, x4, hc, hp, hl => by
    have h1 := sea_len (a := a) (k := k) (c := c) (m := m) (x := i) (hp p (by simp)).2
    simp only [List.length_cons] at hl
    obtain ⟨y, z, e⟩ := way_loop O b a k c m f x hb r (i + 1) (F ++ seaL a k c m i p) w1 (some (.int i)) (some (tIs p)) (fun q hq => hc q (List.mem_cons_of_mem _ hq)) (pays_tail hp) (by rw [List.length_append]; omega)
    refine ⟨y, z, forL_cons (forL_turn (tg2 (by simp) (by simp)) (ρ3 := [some (setD a k c m), w1, some (tIs (F ++ seaL a k c m i p)), some (.int i), some (tIs p)]) (S2 := S) ?_) (e.trans (by simp [wayL]))⟩
    subst hb
    show exSs T.prg.sub O _ [some (setD a k c m), w1, some (tIs F), some (.int i), some (tIs p)] S = _
    rw [ss_nx (s_asg (ev_bop (ev_var (i := 2) rfl) ((ev_callN3 (ev_var (i := 0) rfl) (ev_var (i := 3) rfl) (ev_var (i := 4) rfl)).trans (hc p (by simp) i)) (add_ints (by simp only [sz]; omega))) (by simp))]
    exact exSs_nil
theorem law_way (a k c m : Int) (ps : List (List Int)) (h : setOk a k c m) (hp : pays ps) (hl : ps.length ≤ 60) (hS : shut S = true) (hW : 20 ≤ W) (hn : 5 ≤ n) : C T.prg W n 37 [setD a k c m, .tup (ps.map tIs)] S = .ok (tIs ([83, 71, 49, 10] ++ wayL a k c m 0 ps)) S := by
  obtain ⟨n, rfl⟩ : ∃ m, n = m + 1 := ⟨n - 1, by omega⟩
  rw [call_eq (d := ⟨2, 5, false, c_law_way⟩) rfl rfl]
  show ends false S.length (exSs T.prg.sub (Oc T.prg W n) c_law_way [some (setD a k c m), some (.tup (ps.map tIs)), none, none, none] S) = _
  unfold c_law_way
  rw [ss_nx (s_asg (d := tIs [83, 71, 49, 10]) (S1 := S) (ev_tup (evs_cons (ev_cst (c := .int 83)) (evs_cons (ev_cst (c := .int 71)) (evs_cons (ev_cst (c := .int 49)) (evs_cons (ev_cst (c := .int 10)) evs_nil)))) (by simp [sz])) (by simp))]
  show ends false S.length (exSs T.prg.sub (Oc T.prg W n) _ [some (setD a k c m), some (.tup (ps.map tIs)), some (tIs [83, 71, 49, 10]), none, none] S) = _
  obtain ⟨y, z, e⟩ := way_loop (S := S) (Oc T.prg W n) c_law_way_b1 a k c m 36 "_law_sealed" rfl ps 0 [83, 71, 49, 10] (some (.tup (ps.map tIs))) none none (fun p q j => law_sealed a k c m j p h (hp p q).1 (hp p q).2 hS hW (by omega)) hp (by simp only [List.length_cons, List.length_nil]; omega)
  rw [ss_nx (s_for (ei_enumT (ev_var rfl)) e), s_ret (ev_var (i := 2) rfl)]
  exact ends_rt
theorem pays_of : ∀ {ys : List D}, (∀ y ∈ ys, ∃ l : List Int, y = tIs l ∧ octs l ∧ l.length ≤ 11) → ∃ ps : List (List Int), ys = ps.map tIs ∧ pays ps ∧ ∀ p ∈ ps, p.length ≤ 11
  | [], _ => ⟨[], rfl, (fun q (h : q ∈ []) => by cases h), (fun q (h : q ∈ []) => by cases h)⟩
  | y :: ys, h => by
    obtain ⟨l, rfl, ol, ll⟩ := h y (by simp)
    obtain ⟨ps, rfl, hp, hq⟩ := pays_of (fun z hz => h z (List.mem_cons_of_mem _ hz))
    exact ⟨l :: ps, rfl, fun q hq => (List.mem_cons.mp hq).elim (fun e => e ▸ ⟨ol, by omega⟩) (hp q), fun q h => (List.mem_cons.mp h).elim (fun e => e ▸ ll) (hq q)⟩
theorem law_payloads (hS : cupOk S) (m : Int) (h0 : 0 ≤ m) (hm : m ≤ 60) (hn : 5 ≤ n) : Wp (C T.prg W n 41 [.loc 0, .int m] S) fun d S' => (∃ ps : List (List Int), d = .tup (ps.map tIs) ∧ pays ps ∧ (∀ p ∈ ps, p.length ≤ 11) ∧ (ps.length : Int) = m) ∧ cupOk S' := by
  obtain ⟨n, rfl⟩ : ∃ m, n = m + 1 := ⟨n - 1, by omega⟩
  refine wp_call (d := ⟨2, 3, false, c_law_payloads⟩) rfl rfl ?_
  have key := wp_comp (f := cF (Oc T.prg W n) [2] (.nm 2) .non (.call 30 "_law_bytes" (.cons (.var 0) (.cons (.call 26 "_law_some" (.cons (.var 0) (.cons (.fl (.disp (.cons (.cst (.int 0)) (.cons (.cst (.int 1)) (.cons (.cst (.int 2)) (.cons (.cst (.int 3)) (.cons (.cst (.int 5)) (.cons (.cst (.int 11)) .nil)))))))) .nil))) .nil))) [some (.loc 0), some (.int m), none])
    cupOk (fun _ y => ∃ l : List Int, y = tIs l ∧ octs l ∧ l.length ≤ 11) (rngD 0 m) S hS (fun d hd S hS => by
      obtain ⟨d1, S1, e1, m1, c1⟩ := law_some (W := W) (n := n) hS [.int 0, .int 1, .int 2, .int 3, .int 5, .int 11] (by simp) (by simp) (by omega)
      obtain ⟨x, rfl, hx0, hx1⟩ : ∃ x : Int, d1 = .int x ∧ 0 ≤ x ∧ x ≤ 11 := by
        simp only [List.mem_cons, List.not_mem_nil, or_false] at m1
        rcases m1 with z | z | z | z | z | z <;> exact ⟨_, z, by omega, by omega⟩
      obtain ⟨d2, S2, e2, ⟨l, rfl, ol, ll⟩, c2⟩ := law_bytes (W := W) (n := n) c1 x hx0 (by omega) (by omega)
      have tg : evTg (Oc T.prg W n) (.nm 2) d (wipeE [some (.loc 0), some (.int m), none] [2]) S = .ok [some (.loc 0), some (.int m), some d] S := tg_nm (by simp [wipeE])
      exact wp_eq (cF_eq tg ((ev_call2 (ev_var rfl) ((ev_call2 (ev_var rfl) (ev_disp (evs_cons (ev_cst (c := .int 0)) (evs_cons (ev_cst (c := .int 1)) (evs_cons (ev_cst (c := .int 2)) (evs_cons (ev_cst (c := .int 3)) (evs_cons (ev_cst (c := .int 5)) (evs_cons (ev_cst (c := .int 11)) evs_nil)))))) (by simp [sz]))).trans e1)).trans e2)) ⟨c2, _, rfl, l, rfl, ol, by omega⟩)
    (Q := fun ys S' => cupOk S' ∧ All2 (fun _ y => ∃ l : List Int, y = tIs l ∧ octs l ∧ l.length ≤ 11) (rngD 0 m) ys) (fun ys S' a b => ⟨a, b⟩)
  obtain ⟨ys, S1, e, c1, fa⟩ := key
  have hlen := fa.len
  rw [rngD_len] at hlen
  obtain ⟨ps, rfl, hp, hq⟩ := pays_of (ys := ys) fun y hy => by
    obtain ⟨_, _, q⟩ := fa.right y hy
    exact q
  rw [List.length_map] at hlen
  refine wp_eq (a := .rt (.tup (ps.map tIs))) (S := S1) ?_ (wp_ends (by rw [cup1 c1, cup1 hS]; exact Nat.le_refl _) ⟨⟨ps, rfl, hp, hq, by omega⟩, c1⟩)
  show exSs T.prg.sub (Oc T.prg W n) c_law_payloads [some (.loc 0), some (.int m), none] S = _
  unfold c_law_payloads
  have ei : evI (Oc T.prg W n) (.rng1 (.var 1)) [some (.loc 0), some (.int m), none] S = .ok (.items (rngD 0 m)) S := ei_rng1 (ev_var rfl) (by simp [smallI]; omega)
  have hsz : (rngD 0 m).length ≤ sz := by rw [rngD_len]; simp only [sz]; omega
  refine s_ret (ev_tupB (ev_fl ?_))
  simp only [evF, ei, bind_ok', if_pos hsz]
  exact e
end
end K25
set_option Elab.async false
set_option linter.all false
set_option maxRecDepth 100000
set_option maxHeartbeats 1000000
namespace K25
open PySem PySem.Spec PyProof.Rows L2 Gx
section
/-! ### taking, in plain -/
inductive Wd where
  | no | chk | hd | len
deriving DecidableEq
def Wd.s : Wd → Str
  | .no => "" | .chk => "check" | .hd => "head" | .len => "length"
theorem Wd.ne {w : Wd} (h : w ≠ .no) : w = .chk ∨ w = .hd ∨ w = .len := by cases w <;> simp at h ⊢
structure Tk where
  seen : Nat
  num : Nat
  rest : List Int
  word : Wd
def Tk.d (t : Tk) : D := .tup [.int t.seen, .int t.num, tIs t.rest, .str t.word.s]
def szN (c : Int) : Nat := (4 * c).toNat
def lenO : List Int → Option Nat
  | x :: y :: z :: _ => if x * 256 + y ≤ 300 ∧ z = moreN (x * 256 + y) then some (3 + (x * 256 + y) + z).toNat else none
  | _ => none
def nx (a k c m : Int) (i : Nat) (r : List Int) : Wd × Option (List Int) × List Int :=
  if r.length < 8 then (.no, none, r) else
    match lenO (cyL deO a k i r) with
    | none => (.len, none, r)
    | some L => if r.length < L + szN c then (.no, none, r) else
      if chkL c m i ((cyL deO a k i r).take L) = (r.drop L).take (szN c) then (.no, some ((cyL deO a k i r).take L), r.drop (L + szN c)) else (.chk, none, r)
theorem lenO_inv {l : List Int} {L : Nat} (h : lenO l = some L) : ∃ x y z r, l = x :: y :: z :: r ∧ (x * 256 + y ≤ 300 ∧ z = moreN (x * 256 + y)) ∧ L = (3 + (x * 256 + y) + z).toNat := by
  rcases l with _ | ⟨x, _ | ⟨y, _ | ⟨z, r⟩⟩⟩
  · simp [lenO] at h
  · simp [lenO] at h
  · simp [lenO] at h
  · simp only [lenO] at h
    split at h
    · next q => exact ⟨x, y, z, r, rfl, q, (Option.some.inj h).symm⟩
    · simp at h
theorem lenO_b {l : List Int} {L : Nat} (h : lenO l = some L) (o : octs l) : 8 ≤ L ∧ L ≤ 312 := by
  obtain ⟨x, y, z, r, rfl, q, e⟩ := lenO_inv h
  have h1 := o x (by simp)
  have h2 := o y (by simp)
  have h3 := moreN_ge (x * 256 + y)
  have h4 : (3 + (x * 256 + y) + z) % 8 = 0 := by rw [q.2]; unfold moreN; omega
  omega
theorem lenO_app {l : List Int} (q : List Int) (h : 3 ≤ l.length) : lenO (l ++ q) = lenO l := by
  match l, h with
  | x :: y :: z :: r, _ => rfl
theorem lenO_take {l : List Int} {L : Nat} (h : 3 ≤ L) : lenO (l.take L) = lenO l := by
  match L, h with
  | L + 3, _ =>
    match l with
    | [] => rfl
    | [x] => rfl
    | [x, y] => rfl
    | x :: y :: z :: r => rfl
theorem octs_take {l : List Int} (o : octs l) (j : Nat) : octs (l.take j) := fun i hi => o i (List.mem_of_mem_take hi)
theorem octs_drop {l : List Int} (o : octs l) (j : Nat) : octs (l.drop j) := fun i hi => o i (List.mem_of_mem_drop hi)
theorem cyD_octs (a k x : Int) {p : List Int} (h : octs p) : octs (cyL deO a k x p) := cyL_octs (fun _ _ _ h h2 => deO_oct h h2) a k x h
theorem cy_pre (a k x : Int) (r y : List Int) {j : Nat} (h : j ≤ r.length) : (cyL deO a k x (r ++ y)).take j = (cyL deO a k x r).take j := by
  rw [← cy_take, ← cy_take, List.take_append_of_le_length h]
theorem len_pre (a k x : Int) (r y : List Int) (h : 3 ≤ r.length) : lenO (cyL deO a k x (r ++ y)) = lenO (cyL deO a k x r) := by
  rw [← lenO_take (l := cyL deO a k x (r ++ y)) (L := r.length) h, cy_pre a k x r y (Nat.le_refl _), lenO_take h]
/-- what a packet taken is -/
theorem nx_some {a k c m : Int} {i : Nat} {r r1 p : List Int} {w : Wd} (h : nx a k c m i r = (w, some p, r1)) : w = .no ∧ ∃ L, lenO (cyL deO a k i r) = some L ∧ 8 ≤ r.length ∧ L + szN c ≤ r.length ∧ p = (cyL deO a k i r).take L ∧ r1 = r.drop (L + szN c) ∧ chkL c m i p = (r.drop L).take (szN c) := by
  unfold nx at h
  split at h
  · cases h
  · next h8 =>
    split at h
    · cases h
    · next L hL =>
      split at h
      · cases h
      · next hs =>
        split at h
        · next hc => cases h; exact ⟨rfl, L, hL, by omega, by omega, rfl, rfl, hc⟩
        · cases h
theorem nx_none {a k c m : Int} {i : Nat} {r r1 : List Int} {w : Wd} (h : nx a k c m i r = (w, none, r1)) : r1 = r ∧ w ≠ .hd := by
  unfold nx at h
  split at h
  · cases h; exact ⟨rfl, by simp⟩
  · split at h
    · cases h; exact ⟨rfl, by simp⟩
    · split at h
      · cases h; exact ⟨rfl, by simp⟩
      · split at h
        · cases h
        · cases h; exact ⟨rfl, by simp⟩
theorem nx_plain {a k c m : Int} {i : Nat} {r r1 p : List Int} {w : Wd} (h : nx a k c m i r = (w, some p, r1)) (o : octs r) : octs p ∧ lenO p = some p.length ∧ 8 + r1.length ≤ r.length ∧ octs r1 ∧ p.length ≤ 312 := by
  obtain ⟨_, L, hL, h8, hs, rfl, rfl, _⟩ := nx_some h
  have b := lenO_b hL (cyD_octs a k i o)
  have e : ((cyL deO a k i r).take L).length = L := by rw [List.length_take, cyL_len]; omega
  refine ⟨octs_take (cyD_octs a k i o) _, by rw [lenO_take (by omega), e, hL], ?_, octs_drop o _, by omega⟩
  rw [List.length_drop]
  omega
theorem nx_app {a k c m : Int} {i : Nat} {r r1 p : List Int} {w : Wd} (y : List Int) (h : nx a k c m i r = (w, some p, r1)) (o : octs r) : nx a k c m i (r ++ y) = (w, some p, r1 ++ y) := by
  obtain ⟨rfl, L, hL, h8, hs, rfl, rfl, hc⟩ := nx_some h
  have e1 := len_pre a k i r y (by omega)
  have e2 := cy_pre a k i r y (show L ≤ r.length by omega)
  unfold nx
  rw [if_neg (by rw [List.length_append]; omega), e1, hL]
  show (if (r ++ y).length < L + szN c then _ else _) = _
  rw [if_neg (by rw [List.length_append]; omega), e2]
  have e3 : ((r ++ y).drop L).take (szN c) = (r.drop L).take (szN c) := by rw [List.drop_append_of_le_length (by omega), List.take_append_of_le_length (by rw [List.length_drop]; omega)]
  rw [e3, if_pos hc, List.drop_append_of_le_length (by omega)]
theorem nx_word {a k c m : Int} {i : Nat} {r r1 : List Int} {w : Wd} (y : List Int) (h : nx a k c m i r = (w, none, r1)) (hw : w ≠ .no) : nx a k c m i (r ++ y) = (w, none, r ++ y) := by
  unfold nx at h ⊢
  split at h
  · cases h; exact absurd rfl hw
  · next h8 =>
    have e1 := len_pre a k i r y (by omega)
    rw [if_neg (by rw [List.length_append]; omega), e1]
    split at h
    · next hL => cases h; rfl
    · next L hL =>
      show (if (r ++ y).length < L + szN c then _ else _) = _
      split at h
      · cases h; exact absurd rfl hw
      · next hs =>
        have e2 := cy_pre a k i r y (show L ≤ r.length by omega)
        have e3 : ((r ++ y).drop L).take (szN c) = (r.drop L).take (szN c) := by rw [List.drop_append_of_le_length (by omega), List.take_append_of_le_length (by rw [List.length_drop]; omega)]
        rw [if_neg (by rw [List.length_append]; omega), e2, e3]
        split at h
        · cases h
        · next hc => cases h; rw [if_neg hc]
/-! ### all that can be taken -/
inductive Al (a k c m : Int) : Nat → List Int → List (List Int) → List Int → Wd → Prop
  | stop {i : Nat} {r : List Int} {w : Wd} (h : nx a k c m i r = (w, none, r)) : Al a k c m i r [] r w
  | step {i : Nat} {r p r1 : List Int} {ps : List (List Int)} {r2 : List Int} {w : Wd} (h : nx a k c m i r = (.no, some p, r1)) (t : Al a k c m (i + 1) r1 ps r2 w) : Al a k c m i r (p :: ps) r2 w
variable {a k c m : Int}
theorem al_ex : ∀ (N i : Nat) (r : List Int), r.length ≤ N → octs r → ∃ ps r2 w, Al a k c m i r ps r2 w
  | N, i, r, hN, o => by
    match h : nx a k c m i r with
    | (w, none, r1) =>
      obtain ⟨rfl, _⟩ := nx_none h
      exact ⟨[], _, w, .stop h⟩
    | (w, some p, r1) =>
      obtain ⟨_, _, l, o1, _⟩ := nx_plain h o
      obtain ⟨rfl, _⟩ := nx_some h
      match N with
      | 0 => omega
      | N + 1 =>
        obtain ⟨ps, r2, w, t⟩ := al_ex N (i + 1) r1 (by omega) o1
        exact ⟨p :: ps, r2, w, .step h t⟩
theorem al_facts {i : Nat} {r r2 : List Int} {ps : List (List Int)} {w : Wd} (t : Al a k c m i r ps r2 w) : octs r → 8 * ps.length + r2.length ≤ r.length ∧ octs r2 ∧ w ≠ .hd ∧ ∀ p ∈ ps, octs p ∧ lenO p = some p.length ∧ p.length ≤ 312 := by
  induction t with
  | stop h =>
    intro o
    exact ⟨by simp, o, (nx_none h).2, fun p hp => by cases hp⟩
  | step h t ih =>
    intro o
    obtain ⟨p1, p2, p3, p4, p5⟩ := nx_plain h o
    obtain ⟨q1, q2, q3, q4⟩ := ih p4
    refine ⟨by rw [List.length_cons]; omega, q2, q3, fun p hp => ?_⟩
    rcases List.mem_cons.mp hp with rfl | z
    · exact ⟨p1, p2, p5⟩
    · exact q4 p z
theorem al_det {i : Nat} {r r2 : List Int} {ps : List (List Int)} {w : Wd} (t : Al a k c m i r ps r2 w) : ∀ {r3 : List Int} {qs : List (List Int)} {v : Wd}, Al a k c m i r qs r3 v → ps = qs ∧ r2 = r3 ∧ w = v := by
  induction t with
  | stop h =>
    intro r3 qs v u
    cases u with
    | stop h2 => rw [h] at h2; cases h2; exact ⟨rfl, rfl, rfl⟩
    | step h2 u2 => rw [h] at h2; cases h2
  | step h t ih =>
    intro r3 qs v u
    cases u with
    | stop h2 => rw [h] at h2; cases h2
    | step h2 u2 =>
      rw [h] at h2
      cases h2
      obtain ⟨rfl, rfl, rfl⟩ := ih u2
      exact ⟨rfl, rfl, rfl⟩
theorem al_app {i : Nat} {r r1 : List Int} {ps : List (List Int)} {w : Wd} (t : Al a k c m i r ps r1 w) : octs r → w = .no → ∀ {y r2 : List Int} {qs : List (List Int)} {v : Wd}, Al a k c m (i + ps.length) (r1 ++ y) qs r2 v → Al a k c m i (r ++ y) (ps ++ qs) r2 v := by
  induction t with
  | stop h => intro _ _ y r2 qs v u; exact u
  | step h t ih =>
    intro o hw y r2 qs v u
    refine .step (nx_app y h o) (ih (nx_plain h o).2.2.2.1 hw ?_)
    rw [List.length_cons] at u
    rwa [show ∀ i j : Nat, i + 1 + j = i + (j + 1) by omega]
theorem al_word {i : Nat} {r r1 : List Int} {ps : List (List Int)} {w : Wd} (t : Al a k c m i r ps r1 w) : octs r → w ≠ .no → ∀ y : List Int, Al a k c m i (r ++ y) ps (r1 ++ y) w := by
  induction t with
  | stop h => intro _ hw y; exact .stop (nx_word y h hw)
  | step h t ih => intro o hw y; exact .step (nx_app y h o) (ih (nx_plain h o).2.2.2.1 hw y)
/-! ### the head -/
def hdGo : List Int → Nat → List Int → Nat × List Int × Wd
  | [], s, r => (s, r, .no)
  | _ :: _, s, [] => (s, [], .no)
  | h :: hs, s, x :: r => if x = h then hdGo hs (s + 1) r else (s, x :: r, .hd)
def HD : List Int := [83, 71, 49, 10]
theorem hd_facts : ∀ (hs : List Int) (s : Nat) (r : List Int), ∃ j, (hdGo hs s r).1 = s + j ∧ j ≤ hs.length ∧ (hdGo hs s r).2.1 = r.drop j ∧ j ≤ r.length ∧ ((hdGo hs s r).2.2 = .no ∨ (hdGo hs s r).2.2 = .hd)
  | [], s, r => ⟨0, rfl, by simp, by simp [hdGo], by simp, .inl rfl⟩
  | _ :: _, s, [] => ⟨0, rfl, by simp, rfl, by simp, .inl rfl⟩
  | h :: hs, s, x :: r => by
    by_cases e : x = h
    · obtain ⟨j, a1, a2, a3, a4, a5⟩ := hd_facts hs (s + 1) r
      simp only [hdGo, if_pos e]
      exact ⟨j + 1, by omega, by simpa using a2, by simpa using a3, by simpa using a4, a5⟩
    · have e2 : hdGo (h :: hs) s (x :: r) = (s, x :: r, .hd) := by simp only [hdGo, if_neg e]
      rw [e2]
      exact ⟨0, rfl, by simp, rfl, by simp, .inr rfl⟩
/-- behind a beginning the head goes on, or stays at its word -/
theorem hd_app : ∀ (hs : List Int) (s : Nat) (r y : List Int), if (hdGo hs s r).2.2 = .no then hdGo hs s (r ++ y) = hdGo (hs.drop ((hdGo hs s r).1 - s)) (hdGo hs s r).1 ((hdGo hs s r).2.1 ++ y) else hdGo hs s (r ++ y) = ((hdGo hs s r).1, (hdGo hs s r).2.1 ++ y, .hd)
  | [], s, r, y => by simp [hdGo]
  | h :: hs, s, [], y => by simp [hdGo]
  | h :: hs, s, x :: r, y => by
    have ih := hd_app hs (s + 1) r y
    obtain ⟨j, a1, _⟩ := hd_facts hs (s + 1) r
    by_cases e : x = h
    · simp only [hdGo, if_pos e, List.cons_append] at ih ⊢
      have z : (hdGo hs (s + 1) r).1 - s = ((hdGo hs (s + 1) r).1 - (s + 1)) + 1 := by omega
      rw [z, List.drop_succ_cons]
      exact ih
    · have e2 : hdGo (h :: hs) s (x :: r) = (s, x :: r, .hd) := by simp only [hdGo, if_neg e]
      have e3 : hdGo (h :: hs) s (x :: r ++ y) = (s, x :: r ++ y, .hd) := by simp only [hdGo, if_neg e, List.cons_append]
      rw [e2, e3]
      rw [if_neg (show ¬ ((s, x :: r, Wd.hd) : Nat × List Int × Wd).2.2 = Wd.no from fun h => by cases h)]
def hdT (t : Tk) : Tk := match t.word with
  | .no => ⟨(hdGo (HD.drop t.seen) t.seen t.rest).1, t.num, (hdGo (HD.drop t.seen) t.seen t.rest).2.1, (hdGo (HD.drop t.seen) t.seen t.rest).2.2⟩
  | _ => t
def fedT (t : Tk) (y : List Int) : Tk := ⟨t.seen, t.num, t.rest ++ y, t.word⟩
theorem hdT_no {s i : Nat} {r : List Int} : hdT ⟨s, i, r, .no⟩ = ⟨(hdGo (HD.drop s) s r).1, i, (hdGo (HD.drop s) s r).2.1, (hdGo (HD.drop s) s r).2.2⟩ := rfl
theorem hdT_word {t : Tk} (h : t.word ≠ .no) : hdT t = t := by
  obtain ⟨s, i, r, w⟩ := t
  cases w
  · exact absurd rfl h
  all_goals rfl
theorem hdT_num (t : Tk) : (hdT t).num = t.num := by
  obtain ⟨s, i, r, w⟩ := t
  cases w <;> rfl
theorem hdT_4 {i : Nat} {r : List Int} : hdT ⟨4, i, r, .no⟩ = ⟨4, i, r, .no⟩ := rfl
theorem hdT_facts {t : Tk} (h : t.seen ≤ 4) (o : octs t.rest) : (hdT t).seen ≤ 4 ∧ octs (hdT t).rest ∧ (hdT t).rest.length ≤ t.rest.length := by
  obtain ⟨s, i, r, w⟩ := t
  cases w
  case no =>
    obtain ⟨j, a1, a2, a3, a4, a5⟩ := hd_facts (HD.drop s) s r
    rw [hdT_no]
    have h : s ≤ 4 := h
    have a2 : j ≤ 4 - s := by rw [List.length_drop] at a2; exact a2
    show (hdGo (HD.drop s) s r).1 ≤ 4 ∧ octs (hdGo (HD.drop s) s r).2.1 ∧ (hdGo (HD.drop s) s r).2.1.length ≤ r.length
    rw [a1, a3, List.length_drop]
    exact ⟨by omega, octs_drop o _, by omega⟩
  all_goals exact ⟨h, o, Nat.le_refl _⟩
theorem hdT_fed (t : Tk) (y : List Int) (h : t.seen ≤ 4) : hdT (fedT (hdT t) y) = hdT (fedT t y) := by
  obtain ⟨s, i, r, w⟩ := t
  cases w
  case no =>
    have e := hd_app (HD.drop s) s r y
    obtain ⟨j, a1, a2, a3, a4, a5⟩ := hd_facts (HD.drop s) s r
    have h : s ≤ 4 := h
    rw [hdT_no]
    show hdT ⟨(hdGo (HD.drop s) s r).1, i, (hdGo (HD.drop s) s r).2.1 ++ y, (hdGo (HD.drop s) s r).2.2⟩ = hdT ⟨s, i, r ++ y, .no⟩
    rcases a5 with z | z
    · rw [z, if_pos rfl] at e
      rw [z, hdT_no, hdT_no, e, List.drop_drop, a1]
      rw [show s + (s + j - s) = s + j by omega]
    · rw [z, if_neg (by simp)] at e
      rw [z, hdT_no, e]
      rfl
  all_goals rfl
/-! ### a taker, with a setting -/
inductive Tak (a k c m : Int) : Tk → Tk → List (List Int) → Prop
  | stay {t : Tk} (h : (hdT t).word ≠ .no ∨ (hdT t).seen < 4) : Tak a k c m t (hdT t) []
  | go {t : Tk} {r2 : List Int} {ps : List (List Int)} {w : Wd} (h1 : (hdT t).word = .no) (h2 : ¬ (hdT t).seen < 4) (h : Al a k c m (hdT t).num (hdT t).rest ps r2 w) : Tak a k c m t ⟨(hdT t).seen, (hdT t).num + ps.length, r2, w⟩ ps
def Tk.ok (t : Tk) : Prop := t.seen ≤ 4 ∧ octs t.rest
theorem tak_ex (t : Tk) (h : t.ok) : ∃ t' ps, Tak a k c m t t' ps := by
  by_cases z : (hdT t).word = .no
  · by_cases q : (hdT t).seen < 4
    · exact ⟨_, _, .stay (.inr q)⟩
    · obtain ⟨ps, r2, w, u⟩ := al_ex (a := a) (k := k) (c := c) (m := m) _ (hdT t).num (hdT t).rest (Nat.le_refl _) (hdT_facts h.1 h.2).2.1
      exact ⟨_, _, .go z q u⟩
  · exact ⟨_, _, .stay (.inl z)⟩
theorem tak_det {t t1 t2 : Tk} {ps qs : List (List Int)} (u : Tak a k c m t t1 ps) (v : Tak a k c m t t2 qs) : t1 = t2 ∧ ps = qs := by
  cases u with
  | stay h =>
    cases v with
    | stay _ => exact ⟨rfl, rfl⟩
    | go h1 h2 _ => exact absurd h (by simp [h1, h2])
  | go h1 h2 h =>
    cases v with
    | stay h3 => exact absurd h3 (by simp [h1, h2])
    | go _ _ h3 =>
      obtain ⟨rfl, rfl, rfl⟩ := al_det h h3
      exact ⟨rfl, rfl⟩
theorem tak_ok {t t' : Tk} {ps : List (List Int)} (u : Tak a k c m t t' ps) (h : t.ok) : t'.ok ∧ t'.num = t.num + ps.length ∧ 8 * ps.length + t'.rest.length ≤ t.rest.length ∧ ∀ p ∈ ps, octs p ∧ lenO p = some p.length ∧ p.length ≤ 312 := by
  obtain ⟨f1, f2, f3⟩ := hdT_facts h.1 h.2
  cases u with
  | stay _ => exact ⟨⟨f1, f2⟩, by rw [hdT_num]; rfl, by simpa using f3, fun p hp => by cases hp⟩
  | go h1 h2 u =>
    obtain ⟨g1, g2, g3, g4⟩ := al_facts u f2
    exact ⟨⟨f1, g2⟩, by rw [hdT_num], Nat.le_trans g1 f3, g4⟩
/-- what comes in two pieces is taken as what comes at once -/
theorem tak_app {t t1 t2 : Tk} {ps qs : List (List Int)} {y : List Int} (h : t.ok) (u : Tak a k c m t t1 ps) (v : Tak a k c m (fedT t1 y) t2 qs) : Tak a k c m (fedT t y) t2 (ps ++ qs) := by
  have hf := hdT_fed t y h.1
  obtain ⟨f1, f2, f3⟩ := hdT_facts h.1 h.2
  cases u with
  | stay z =>
    rw [List.nil_append]
    cases v with
    | stay z2 => rw [hf] at z2 ⊢; exact .stay z2
    | go z2 z3 al => rw [hf] at z2 z3 al ⊢; exact .go z2 z3 al
  | go z1 z2 al =>
    rename_i r2 w
    have s4 : (hdT t).seen = 4 := by omega
    have e1 : hdT (fedT t y) = fedT (hdT t) y := by
      rw [← hf]
      have gen : ∀ q : Tk, q.word = .no → q.seen = 4 → hdT (fedT q y) = fedT q y := by
        rintro ⟨s, i, r, w⟩ z s4
        have z : w = .no := z
        have s4 : s = 4 := s4
        subst z s4
        rfl
      exact gen _ z1 s4
    by_cases hw : w = .no
    · subst hw
      have e2 : hdT (fedT ⟨(hdT t).seen, (hdT t).num + ps.length, r2, .no⟩ y) = ⟨4, (hdT t).num + ps.length, r2 ++ y, .no⟩ := by
        rw [s4]
        rfl
      cases v with
      | stay z3 => rw [e2] at z3; simp at z3
      | go z3 z4 al2 =>
        rename_i r3 w2
        rw [e2] at al2 ⊢
        have := al_app al f2 rfl al2
        have q := Tak.go (a := a) (k := k) (c := c) (m := m) (t := fedT t y) (by rw [e1]; exact z1) (by rw [e1]; exact z2) (by rw [e1]; exact this)
        rw [e1] at q
        have e5 : (⟨(fedT (hdT t) y).seen, (fedT (hdT t) y).num + (ps ++ qs).length, r3, w2⟩ : Tk) = ⟨4, (hdT t).num + ps.length + qs.length, r3, w2⟩ := by
          show (⟨(hdT t).seen, (hdT t).num + (ps ++ qs).length, r3, w2⟩ : Tk) = _
          rw [s4, List.length_append, Nat.add_assoc]
        rw [e5] at q
        exact q
    · have e2 : hdT (fedT ⟨(hdT t).seen, (hdT t).num + ps.length, r2, w⟩ y) = ⟨(hdT t).seen, (hdT t).num + ps.length, r2 ++ y, w⟩ := hdT_word hw
      cases v with
      | go z3 _ _ => rw [e2] at z3; exact absurd z3 hw
      | stay z3 =>
        rw [e2, List.append_nil]
        have q := Tak.go (a := a) (k := k) (c := c) (m := m) (t := fedT t y) (by rw [e1]; exact z1) (by rw [e1]; exact z2) (by rw [e1]; exact al_word al f2 hw y)
        rw [e1] at q
        exact q
end
end K25
set_option Elab.async false
set_option linter.all false
set_option maxRecDepth 100000
set_option maxHeartbeats 1000000
namespace K25
open PySem PySem.Spec PyProof.Rows L2 Gx
section
variable {W n : Nat} {S : Sto}
theorem t_andF {O : Orc} {ρ : Gx.Env} {t u : CT} {S1 : Sto} (h : evT O t ρ S = .ok false S1) : evT O (.and t u) ρ S = .ok false S1 := by
  simp only [evT, h, bind_ok', Bool.false_eq_true, if_false]
theorem t_andT {O : Orc} {ρ : Gx.Env} {t u : CT} {S1 : Sto} (h : evT O t ρ S = .ok true S1) : evT O (.and t u) ρ S = evT O u ρ S1 := by
  simp only [evT, h, bind_ok', if_true]
theorem tg4 {O : Orc} {ρ : Gx.Env} {i j k l : Nat} {a b c d : D} (hi : i < ρ.length) (hj : j < ρ.length) (hk : k < ρ.length) (hl : l < ρ.length) : evTg O (.tp (.cons (.nm i) (.cons (.nm j) (.cons (.nm k) (.cons (.nm l) .nil))))) (.tup [a, b, c, d]) ρ S = .ok ((((ρ.set i (some a)).set j (some b)).set k (some c)).set l (some d)) S := by
  have h2 : j < (ρ.set i (some a)).length := by rw [List.length_set]; exact hj
  have h3 : k < ((ρ.set i (some a)).set j (some b)).length := by rw [List.length_set, List.length_set]; exact hk
  have h4 : l < (((ρ.set i (some a)).set j (some b)).set k (some c)).length := by rw [List.length_set, List.length_set, List.length_set]; exact hl
  have hc : [a, b, c, d].length = cntT (.cons (.nm i) (.cons (.nm j) (.cons (.nm k) (.cons (.nm l) .nil)))) := rfl
  simp only [evTg, evTgs, if_pos hi, if_pos h2, if_pos h3, if_pos h4, if_pos hc, bind_ok', noX]
theorem t_lt {O : Orc} {ρ : Gx.Env} {a b : CE} {S1 S2 : Sto} {i j : Int} (ha : evE O a ρ S = .ok (.int i) S1) (hb : evE O b ρ S1 = .ok (.int j) S2) : evT O (.cmp .Lt a b) ρ S = .ok (decide (i < j)) S2 := t_cmp (op := .Lt) ha hb rfl
theorem ev_hd4 {O : Orc} {ρ : Gx.Env} : evE O (.bi .len (.cons (.glob "HEAD_sealing" (.tup [.int 83, .int 71, .int 49, .int 10])) .nil)) ρ S = .ok (.int 4) S := ev_len (xs := [.int 83, .int 71, .int 49, .int 10]) ev_glob
theorem eq_wd (w v : Wd) : eqD (.str w.s) (.str v.s) = some (decide (w = v)) := by cases w <;> cases v <;> decide +kernel
theorem t_wd {O : Orc} {ρ : Gx.Env} {a : CE} {w : Wd} (ha : evE O a ρ S = .ok (.str w.s) S) : evT O (.cmp .Eq a (.cst (.str ""))) ρ S = .ok (decide (w = .no)) S :=
  t_cmp (op := .Eq) (va := .str w.s) (vb := .str Wd.no.s) ha (ev_cst (c := .str "")) (eq_wd w .no)
theorem t_wdn {O : Orc} {ρ : Gx.Env} {a : CE} {w : Wd} (ha : evE O a ρ S = .ok (.str w.s) S) : evT O (.cmp .NotEq a (.cst (.str ""))) ρ S = .ok (!decide (w = .no)) S :=
  t_ne (va := .str w.s) (vb := .str Wd.no.s) ha (ev_cst (c := .str "")) (eq_wd w .no)
theorem t_neT2 {O : Orc} {ρ : Gx.Env} {a b : CE} {S1 S2 : Sto} {l k : List Int} (ha : evE O a ρ S = .ok (tIs l) S1) (hb : evE O b ρ S1 = .ok (tIs k) S2) : evT O (.cmp .NotEq a b) ρ S = .ok (!decide (l = k)) S2 := t_ne ha hb (eq_tIs l k)
theorem fed_in (t : Tk) (y : List Int) (hl : t.rest.length + y.length ≤ 16777216) (hn : 1 ≤ n) : C T.prg W n 16 [t.d, tIs y] S = .ok (fedT t y).d S := by
  obtain ⟨n, rfl⟩ : ∃ m, n = m + 1 := ⟨n - 1, by omega⟩
  rw [call_eq (d := ⟨2, 2, false, c_fed_in⟩) rfl rfl]
  show ends false S.length (exSs T.prg.sub (Oc T.prg W n) c_fed_in [some (.tup [.int t.seen, .int t.num, tIs t.rest, .str t.word.s]), some (tIs y)] S) = _
  unfold c_fed_in
  rw [s_ret (ev_bop (va := .tup [.int t.seen, .int t.num, tIs (t.rest ++ y)]) (vb := .tup [.str t.word.s]) (d := (fedT t y).d) (S1 := S) (ev_bop (va := .tup [.int t.seen, .int t.num]) (vb := .tup [tIs (t.rest ++ y)]) (S1 := S) (ev_sl (xs := [.int t.seen, .int t.num, tIs t.rest, .str t.word.s]) (ev_var (i := 0) rfl) evo_non (ev_o (ev_cst (c := .int 2))))
    (ev_tup1 (ev_bop (ev_ix (va := .tup [.int t.seen, .int t.num, tIs t.rest, .str t.word.s]) (vb := .int 2) (S1 := S) (ev_var (i := 0) rfl) (ev_cst (c := .int 2)) rfl) (ev_var (i := 1) rfl) (add_ints (by simp only [sz]; omega)))) rfl) (ev_sl (xs := [.int t.seen, .int t.num, tIs t.rest, .str t.word.s]) (ev_var (i := 0) rfl) (ev_o (ev_cst (c := .int 3))) evo_non) rfl)]
  exact ends_rt
/-! ### the head -/
theorem hd_loop (O : Orc) (i : Int) (w0 : Option D) : ∀ (j s : Nat) (r : List Int) (f : Nat), s + j = 4 → j + 1 < f →
    whileL (fun ρ1 S1 => evT O (.and (.cmp .Lt (.var 1) (.bi .len (.cons (.glob "HEAD_sealing" (.tup [.int 83, .int 71, .int 49, .int 10])) .nil))) (.and (.cmp .NotEq (.var 3) (.tup .nil)) (.cmp .Eq (.var 4) (.cst (.str ""))))) ρ1 S1) (fun ρ1 S1 => exSs T.prg.sub O c_headed_b1 ρ1 S1) f [w0, some (.int s), some (.int i), some (tIs r), some (.str Wd.no.s)] S
      = .ok (.nx [w0, some (.int (hdGo (HD.drop s) s r).1), some (.int i), some (tIs (hdGo (HD.drop s) s r).2.1), some (.str (hdGo (HD.drop s) s r).2.2.s)]) S := by
  intro j
  induction j with
  | zero =>
    intro s r f hs hf
    obtain ⟨f, rfl⟩ : ∃ g, f = g + 1 := ⟨f - 1, by omega⟩
    obtain rfl : s = 4 := by omega
    rw [whileL_stop (S1 := S) (t_andF ((t_lt (i := ((4 : Nat) : Int)) (j := 4) (ev_var rfl) ev_hd4).trans rfl))]
    rfl
  | succ j ih =>
    intro s r f hs hf
    obtain ⟨f, rfl⟩ : ∃ g, f = g + 1 := ⟨f - 1, by omega⟩
    have hlt : decide ((s : Int) < 4) = true := decide_eq_true (by omega)
    obtain ⟨h, eh, ix⟩ : ∃ h, HD.drop s = h :: HD.drop (s + 1) ∧ ixD (.tup [.int 83, .int 71, .int 49, .int 10]) (.int (s : Int)) = some (.int h) := by
      have : s = 0 ∨ s = 1 ∨ s = 2 ∨ s = 3 := by omega
      rcases this with rfl | rfl | rfl | rfl <;> exact ⟨_, rfl, rfl⟩
    rw [eh]
    have tt : ∀ (r : List Int) (w : Wd), evT O (.and (.cmp .Lt (.var 1) (.bi .len (.cons (.glob "HEAD_sealing" (.tup [.int 83, .int 71, .int 49, .int 10])) .nil))) (.and (.cmp .NotEq (.var 3) (.tup .nil)) (.cmp .Eq (.var 4) (.cst (.str ""))))) [w0, some (.int s), some (.int i), some (tIs r), some (.str w.s)] S = .ok (!decide (r = []) && decide (w = .no)) S := fun r w => by
      have e2 := t_neT2 (O := O) (ρ := [w0, some (.int s), some (.int i), some (tIs r), some (.str w.s)]) (S := S) (S1 := S) (S2 := S) (l := r) (k := []) (ev_var (i := 3) rfl) (ev_tup evs_nil (by simp [sz]))
      refine (t_andT ((t_lt (i := (s : Int)) (j := 4) (ev_var rfl) ev_hd4).trans (by rw [hlt]))).trans ?_
      by_cases z : r = []
      · rw [decide_eq_true z] at e2 ⊢
        exact t_andF e2
      · rw [decide_eq_false z] at e2 ⊢
        exact (t_andT e2).trans (t_wd (ev_var (i := 4) rfl))
    cases r with
    | nil =>
      rw [whileL_stop (S1 := S) ((tt [] .no).trans rfl)]
      rfl
    | cons x r =>
      have eq : evT O (.cmp .Eq (.ix (.var 3) (.cst (.int 0))) (.ix (.glob "HEAD_sealing" (.tup [.int 83, .int 71, .int 49, .int 10])) (.var 1))) [w0, some (.int s), some (.int i), some (tIs (x :: r)), some (.str Wd.no.s)] S = .ok (decide (x = h)) S :=
        t_eqI (ev_ix (va := .tup (.int x :: r.map D.int)) (vb := .int 0) (S1 := S) (ev_var (i := 3) rfl) (ev_cst (c := .int 0)) (atI_nat (xs := D.int x :: r.map D.int) (r := 0) (by simp))) (ev_ix ev_glob (ev_var (i := 1) rfl) ix)
      by_cases z : x = h
      · have go := ih (s + 1) r f (by omega) (by omega)
        rw [whileL_step (S1 := S) (S2 := S) (ρ1 := [w0, some (.int ((s + 1 : Nat) : Int)), some (.int i), some (tIs r), some (.str Wd.no.s)]) ((tt (x :: r) .no).trans rfl), go]
        · rw [show hdGo (h :: HD.drop (s + 1)) s (x :: r) = hdGo (HD.drop (s + 1)) (s + 1) r from if_pos z]
        · unfold c_headed_b1
          rw [ss_nx (s_then (eq.trans (by rw [decide_eq_true z])) ((ss_nx (s_par2 (d := .int ((s + 1 : Nat) : Int)) (e := tIs r) (S1 := S) (evs_cons (ev_bop (va := .int s) (vb := .int 1) (S1 := S) (ev_var (i := 1) rfl) (ev_cst (c := .int 1)) rfl) (evs_cons ((ev_slI (j := 3) (l := x :: r) rfl (ev_o (ev_cst (c := .int 1))) evo_non).trans (by rw [show cutI (x :: r) (some 1) none = r from cut_drop (x :: r) 1 (by simp)])) evs_nil)) (by simp) (by simp))).trans exSs_nil))]
          exact exSs_nil
      · obtain ⟨f, rfl⟩ : ∃ g, f = g + 1 := ⟨f - 1, by omega⟩
        rw [whileL_step (S1 := S) (S2 := S) (ρ1 := [w0, some (.int s), some (.int i), some (tIs (x :: r)), some (.str Wd.hd.s)]) ((tt (x :: r) .no).trans rfl), whileL_stop (S1 := S) ((tt (x :: r) .hd).trans rfl)]
        · rw [show hdGo (h :: HD.drop (s + 1)) s (x :: r) = (s, x :: r, .hd) from if_neg z]
        · unfold c_headed_b1
          rw [ss_nx (s_else (eq.trans (by rw [decide_eq_false z])) ((ss_nx (s_asg (d := .str Wd.hd.s) (S1 := S) (ev_cst (c := .str "head")) (by simp))).trans exSs_nil))]
          exact exSs_nil
theorem headed (t : Tk) (h : t.ok) (hW : 10 ≤ W) (hn : 1 ≤ n) : C T.prg W n 17 [t.d] S = .ok (hdT t).d S := by
  obtain ⟨n, rfl⟩ : ∃ m, n = m + 1 := ⟨n - 1, by omega⟩
  rw [call_eq (d := ⟨1, 5, false, c_headed⟩) rfl rfl]
  obtain ⟨f, rfl⟩ : ∃ f, W = f + 1 := ⟨W - 1, by omega⟩
  obtain ⟨s, i, r, w⟩ := t
  have hs : s ≤ 4 := h.1
  show ends false S.length (exSs T.prg.sub (Oc T.prg (f + 1) n) c_headed [some (.tup [.int s, .int i, tIs r, .str w.s]), none, none, none, none] S) = _
  unfold c_headed
  rw [ss_nx (s_asgt (S1 := S) (ev_var (i := 0) rfl) (tg4 (a := .int s) (b := .int i) (c := tIs r) (d := .str w.s) (by simp) (by simp) (by simp) (by simp)))]
  show ends false S.length (exSs T.prg.sub (Oc T.prg (f + 1) n) _ [some (.tup [.int s, .int i, tIs r, .str w.s]), some (.int s), some (.int i), some (tIs r), some (.str w.s)] S) = _
  by_cases hw : w = .no
  · subst hw
    have e := hd_loop (S := S) (Oc T.prg (f + 1) n) i (some (.tup [.int s, .int i, tIs r, .str Wd.no.s])) (4 - s) s r (f + 1) (by omega) (by omega)
    have e2 : exS T.prg.sub (Oc T.prg (f + 1) n) (.whl (.and (.cmp .Lt (.var 1) (.bi .len (.cons (.glob "HEAD_sealing" (.tup [.int 83, .int 71, .int 49, .int 10])) .nil))) (.and (.cmp .NotEq (.var 3) (.tup .nil)) (.cmp .Eq (.var 4) (.cst (.str ""))))) c_headed_b1) [some (.tup [.int s, .int i, tIs r, .str Wd.no.s]), some (.int s), some (.int i), some (tIs r), some (.str Wd.no.s)] S = .ok (.nx [some (.tup [.int s, .int i, tIs r, .str Wd.no.s]), some (.int (hdGo (HD.drop s) s r).1), some (.int i), some (tIs (hdGo (HD.drop s) s r).2.1), some (.str (hdGo (HD.drop s) s r).2.2.s)]) S := by
      simp only [exS]
      exact e
    rw [ss_nx e2, s_ret (ev_tup (evs_cons (ev_var (i := 1) rfl) (evs_cons (ev_var (i := 2) rfl) (evs_cons (ev_var (i := 3) rfl) (evs_cons (ev_var (i := 4) rfl) evs_nil)))) (by simp [sz]))]
    exact ends_rt
  · have e2 : exS T.prg.sub (Oc T.prg (f + 1) n) (.whl (.and (.cmp .Lt (.var 1) (.bi .len (.cons (.glob "HEAD_sealing" (.tup [.int 83, .int 71, .int 49, .int 10])) .nil))) (.and (.cmp .NotEq (.var 3) (.tup .nil)) (.cmp .Eq (.var 4) (.cst (.str ""))))) c_headed_b1) [some (.tup [.int s, .int i, tIs r, .str w.s]), some (.int s), some (.int i), some (tIs r), some (.str w.s)] S = .ok (.nx [some (.tup [.int s, .int i, tIs r, .str w.s]), some (.int s), some (.int i), some (tIs r), some (.str w.s)]) S := by
      simp only [exS]
      show whileL _ _ (f + 1) _ _ = _
      refine whileL_stop (S1 := S) ?_
      have e1 := t_lt (O := Oc T.prg (f + 1) n) (ρ := [some (.tup [.int s, .int i, tIs r, .str w.s]), some (.int s), some (.int i), some (tIs r), some (.str w.s)]) (S := S) (i := (s : Int)) (j := 4) (ev_var (i := 1) rfl) ev_hd4
      by_cases z : (s : Int) < 4
      · rw [decide_eq_true z] at e1
        refine (t_andT e1).trans ?_
        have e2 := t_neT2 (O := Oc T.prg (f + 1) n) (ρ := [some (.tup [.int s, .int i, tIs r, .str w.s]), some (.int s), some (.int i), some (tIs r), some (.str w.s)]) (S := S) (S1 := S) (S2 := S) (l := r) (k := []) (ev_var (i := 3) rfl) (ev_tup evs_nil (by simp [sz]))
        by_cases z2 : r = []
        · rw [decide_eq_true z2] at e2
          exact t_andF e2
        · rw [decide_eq_false z2] at e2
          exact (t_andT e2).trans ((t_wd (ev_var (i := 4) rfl)).trans (by rw [decide_eq_false hw]))
      · rw [decide_eq_false z] at e1
        exact t_andF e1
    rw [ss_nx e2, s_ret (ev_tup (evs_cons (ev_var (i := 1) rfl) (evs_cons (ev_var (i := 2) rfl) (evs_cons (ev_var (i := 3) rfl) (evs_cons (ev_var (i := 4) rfl) evs_nil)))) (by simp [sz]))]
    rw [hdT_word (t := ⟨s, i, r, w⟩) hw]
    exact ends_rt
end
end K25
set_option Elab.async false
set_option linter.all false
set_option maxRecDepth 100000
set_option maxHeartbeats 1000000
namespace K25
open PySem PySem.Spec PyProof.Rows L2 Gx
section
variable {W n : Nat} {S : Sto}
def optT : Option (List Int) → D
  | none => .non
  | some p => tIs p
def pulT (a k c m : Int) (t : Tk) : Tk × Option (List Int) :=
  if (hdT t).word ≠ .no ∨ (hdT t).seen < 4 then (hdT t, none) else
    match nx a k c m (hdT t).num (hdT t).rest with
    | (w, none, r) => (⟨(hdT t).seen, (hdT t).num, r, w⟩, none)
    | (_, some p, r1) => (⟨(hdT t).seen, (hdT t).num + 1, r1, .no⟩, some p)
theorem sizes_at3 (c : Int) (h : c = 0 ∨ c = 1 ∨ c = 2) : ixD (.tup [.int 0, .int 4, .int 8]) (.int c) = some (.int (szN c)) := by
  rcases h with rfl | rfl | rfl <;> rfl
theorem pulT_stay {a k c m : Int} {t : Tk} {s i : Nat} {r : List Int} {w : Wd} (hq : hdT t = ⟨s, i, r, w⟩) (h : w ≠ .no ∨ s < 4) : pulT a k c m t = (⟨s, i, r, w⟩, none) := by
  unfold pulT
  rw [hq, if_pos h]
theorem pulT_none {a k c m : Int} {t : Tk} {s i : Nat} {r r1 : List Int} {w : Wd} (hq : hdT t = ⟨s, i, r, .no⟩) (h : ¬ s < 4) (hx : nx a k c m i r = (w, none, r1)) : pulT a k c m t = (⟨s, i, r1, w⟩, none) := by
  unfold pulT
  rw [hq, if_neg (by simpa using h)]
  show (match nx a k c m i r with | (w, none, r) => ((⟨s, i, r, w⟩ : Tk), none) | (_, some p, r1) => (⟨s, i + 1, r1, .no⟩, some p)) = _
  rw [hx]
theorem pulT_some {a k c m : Int} {t : Tk} {s i : Nat} {r r1 p : List Int} {w : Wd} (hq : hdT t = ⟨s, i, r, .no⟩) (h : ¬ s < 4) (hx : nx a k c m i r = (w, some p, r1)) : pulT a k c m t = (⟨s, i + 1, r1, .no⟩, some p) := by
  unfold pulT
  rw [hq, if_neg (by simpa using h)]
  show (match nx a k c m i r with | (w, none, r) => ((⟨s, i, r, w⟩ : Tk), none) | (_, some p, r1) => (⟨s, i + 1, r1, .no⟩, some p)) = _
  rw [hx]
theorem cut_lh (l : List Int) (i j : Nat) (h : i ≤ j) (hj : j ≤ l.length) : cutI l (some (i : Int)) (some (j : Int)) = (l.drop i).take (j - i) := by
  have e1 : HT.sIx l.length 0 (some (i : Int)) = i := by
    show (if (i : Int) < 0 then ((i : Int) + l.length).toNat else min (i : Int).toNat l.length) = i
    rw [if_neg (by omega)]; omega
  have e2 : HT.sIx l.length l.length (some (j : Int)) = j := by
    show (if (j : Int) < 0 then ((j : Int) + l.length).toNat else min (j : Int).toNat l.length) = j
    rw [if_neg (by omega)]; omega
  unfold cutI
  rw [e1, e2]
theorem len_in (l : List Int) (h : 3 ≤ l.length) (o : octs l) (hn : 2 ≤ n) : C T.prg W n 8 [tIs l] S = .ok (match lenO l with | some L => .int L | none => .non) S := by
  match l, h with
  | x :: y :: z :: r, _ =>
    rw [length_in x y z r hn]
    have h1 := o x (by simp)
    have h2 := o y (by simp)
    have h3 := o z (by simp)
    unfold lenL lenO
    by_cases q : x * 256 + y ≤ 300 ∧ z = moreN (x * 256 + y)
    · simp only [if_pos q]
      congr 2
      omega
    · simp only [if_neg q]
theorem pulled_in (a k c m : Int) (t : Tk) (h : setOk a k c m) (ht : t.ok) (hl : t.rest.length ≤ 100000) (hS : shut S = true) (hW : 10 ≤ W) (hn : 4 ≤ n) : C T.prg W n 18 [t.d, setD a k c m] S = .ok (.tup [(pulT a k c m t).1.d, optT (pulT a k c m t).2]) S := by
  obtain ⟨n, rfl⟩ : ∃ m, n = m + 1 := ⟨n - 1, by omega⟩
  rw [call_eq (d := ⟨2, 9, false, c_pulled_in⟩) rfl rfl]
  have hc : c = 0 ∨ c = 1 ∨ c = 2 := by have := h.2.2.2.2; omega
  obtain ⟨f1, f2, f3⟩ := hdT_facts ht.1 ht.2
  have eh := headed (S := S) (n := n) t ht hW (by omega)
  obtain ⟨q, hq⟩ : ∃ q, hdT t = q := ⟨_, rfl⟩
  rw [hq] at f1 f2 f3 eh
  obtain ⟨s, i, r, w⟩ := q
  have f1 : s ≤ 4 := f1
  have f2 : octs r := f2
  have f3 : r.length ≤ t.rest.length := f3
  show ends false S.length (exSs T.prg.sub (Oc T.prg W n) c_pulled_in [some t.d, some (setD a k c m), none, none, none, none, none, none, none] S) = _
  unfold c_pulled_in
  rw [ss_nx (s_asg ((ev_call1 (ev_var (i := 0) rfl)).trans eh) (by simp))]
  rw [ss_nx (s_asgt (S1 := S) (ev_var (i := 0) rfl) (tg4 (a := .int s) (b := .int i) (c := tIs r) (d := .str w.s) (by simp) (by simp) (by simp) (by simp)))]
  show ends false S.length (exSs T.prg.sub (Oc T.prg W n) _ [some (⟨s, i, r, w⟩ : Tk).d, some (setD a k c m), none, none, none, some (.int s), some (.int i), some (tIs r), some (.str w.s)] S) = _
  by_cases hw : w = .no
  case neg =>
    rw [pulT_stay hq (.inl hw)]
    rw [ss_rt (s_then (t_or_t ((t_wdn (w := w) (ev_var (i := 8) rfl)).trans (by rw [decide_eq_false hw]; rfl))) (s_ret (ev_tup2 (ev_var (i := 0) rfl) (ev_cst (c := .non)))))]
    exact ends_rt
  subst hw
  by_cases hs : s < 4
  case pos =>
    rw [pulT_stay hq (.inr hs)]
    rw [ss_rt (s_then ((t_or ((t_wdn (w := .no) (ev_var (i := 8) rfl)).trans rfl)).trans (t_or_t ((t_lt (i := (s : Int)) (j := 4) (ev_var (i := 5) rfl) ev_hd4).trans (by rw [decide_eq_true (by omega)])))) (s_ret (ev_tup2 (ev_var (i := 0) rfl) (ev_cst (c := .non)))))]
    exact ends_rt
  have o1 : evT (Oc T.prg W n) (.or (.cmp .NotEq (.var 8) (.cst (.str ""))) (.or (.cmp .Lt (.var 5) (.bi .len (.cons (.glob "HEAD_sealing" (.tup [.int 83, .int 71, .int 49, .int 10])) .nil))) (.cmp .Lt (.bi .len (.cons (.var 7) .nil)) (.glob "FIRST" (.int 8))))) [some (⟨s, i, r, .no⟩ : Tk).d, some (setD a k c m), none, none, none, some (.int s), some (.int i), some (tIs r), some (.str Wd.no.s)] S = .ok (decide ((r.length : Int) < 8)) S :=
    (t_or ((t_wdn (w := .no) (ev_var (i := 8) rfl)).trans rfl)).trans ((t_or ((t_lt (i := (s : Int)) (j := 4) (ev_var (i := 5) rfl) ev_hd4).trans (by rw [decide_eq_false (by omega)]))).trans (t_lt (ev_lenT (ev_var (i := 7) rfl)) ev_glob))
  by_cases h8 : r.length < 8
  case pos =>
    have hx : nx a k c m i r = (.no, none, r) := by unfold nx; rw [if_pos h8]
    rw [pulT_none hq hs hx]
    rw [ss_rt (s_then (o1.trans (by rw [decide_eq_true (by omega)])) (s_ret (ev_tup2 (ev_var (i := 0) rfl) (ev_cst (c := .non)))))]
    exact ends_rt
  rw [ss_nx (s_skip (o1.trans (by rw [decide_eq_false (by omega)])))]
  have pa : ∀ j : Nat, C T.prg W n 12 [setD a k c m, .int (i : Int), tIs (r.take j)] S = .ok (tIs ((cyL deO a k i r).take j)) S := fun j => (plain_again a k c m i (r.take j) h (by omega) (by rw [List.length_take]; omega) hS (by omega)).trans (by rw [cy_take])
  have cr : octs (cyL deO a k i r) := cyD_octs a k i f2
  have cl : (cyL deO a k i r).length = r.length := cyL_len a k i r
  have li := len_in (W := W) (S := S) (n := n) ((cyL deO a k i r).take 8) (by rw [List.length_take]; omega) (octs_take cr 8) (by omega)
  rw [lenO_take (by omega)] at li
  cases hL : lenO (cyL deO a k i r) with
  | none =>
    have hx : nx a k c m i r = (.len, none, r) := by unfold nx; rw [if_neg h8, hL]
    rw [pulT_none hq hs hx]
    rw [hL] at li
    rw [ss_nx (s_asg (d := .non) (S1 := S) ((ev_call1 ((ev_callN3 (ev_var (i := 1) rfl) (ev_var (i := 6) rfl) ((ev_slI (j := 7) (l := r) rfl evo_non (ev_o ev_glob)).trans (by rw [show cutI r none (some 8) = r.take 8 from cut_take r 8]))).trans (pa 8))).trans li) (by simp))]
    show ends false S.length (exSs T.prg.sub (Oc T.prg W n) _ [some (⟨s, i, r, .no⟩ : Tk).d, some (setD a k c m), some .non, none, none, some (.int s), some (.int i), some (tIs r), some (.str Wd.no.s)] S) = _
    rw [ss_rt (s_then (t_cmp (op := .Is) (va := .non) (vb := .non) (c := true) (S1 := S) (ev_var (i := 2) rfl) (ev_cst (c := .non)) rfl) (s_ret (ev_tup2 (ev_tup (evs_cons (ev_var (i := 5) rfl) (evs_cons (ev_var (i := 6) rfl) (evs_cons (ev_var (i := 7) rfl) (evs_cons (ev_cst (c := .str "length")) evs_nil)))) (by simp [sz])) (ev_cst (c := .non)))))]
    exact ends_rt
  | some L =>
    have bL := lenO_b hL cr
    rw [hL] at li
    rw [ss_nx (s_asg (d := .int L) (S1 := S) ((ev_call1 ((ev_callN3 (ev_var (i := 1) rfl) (ev_var (i := 6) rfl) ((ev_slI (j := 7) (l := r) rfl evo_non (ev_o ev_glob)).trans (by rw [show cutI r none (some 8) = r.take 8 from cut_take r 8]))).trans (pa 8))).trans li) (by simp))]
    show ends false S.length (exSs T.prg.sub (Oc T.prg W n) _ [some (⟨s, i, r, .no⟩ : Tk).d, some (setD a k c m), some (.int L), none, none, some (.int s), some (.int i), some (tIs r), some (.str Wd.no.s)] S) = _
    rw [ss_nx (s_skip (t_cmp (op := .Is) (va := .int L) (vb := .non) (c := false) (S1 := S) (ev_var (i := 2) rfl) (ev_cst (c := .non)) rfl))]
    rw [ss_nx (s_asg (d := .int ((L + szN c : Nat) : Int)) (S1 := S) (ev_bop (op := .Add) (va := .int L) (vb := .int (szN c)) (S1 := S) (ev_var (i := 2) rfl) (ev_ix (va := .tup [.int 0, .int 4, .int 8]) (vb := .int c) (S1 := S) ev_glob (ev_six (i := 1) rfl (set_at2 a k c m)) (sizes_at3 c hc)) (by show some (D.int ((L : Int) + (szN c : Int))) = _; rw [Int.natCast_add])) (by simp))]
    show ends false S.length (exSs T.prg.sub (Oc T.prg W n) _ [some (⟨s, i, r, .no⟩ : Tk).d, some (setD a k c m), some (.int L), some (.int ((L + szN c : Nat) : Int)), none, some (.int s), some (.int i), some (tIs r), some (.str Wd.no.s)] S) = _
    have lt := t_lt (O := Oc T.prg W n) (ρ := [some (⟨s, i, r, .no⟩ : Tk).d, some (setD a k c m), some (.int L), some (.int ((L + szN c : Nat) : Int)), none, some (.int s), some (.int i), some (tIs r), some (.str Wd.no.s)]) (S := S) (S1 := S) (S2 := S) (i := (r.length : Int)) (j := ((L + szN c : Nat) : Int)) (ev_lenT (ev_var (i := 7) rfl)) (ev_var (i := 3) rfl)
    by_cases hs2 : r.length < L + szN c
    case pos =>
      have hx : nx a k c m i r = (.no, none, r) := by unfold nx; rw [if_neg h8, hL]; exact if_pos hs2
      rw [pulT_none hq hs hx]
      rw [ss_rt (s_then (lt.trans (by rw [decide_eq_true (by omega)])) (s_ret (ev_tup2 (ev_var (i := 0) rfl) (ev_cst (c := .non)))))]
      exact ends_rt
    rw [ss_nx (s_skip (lt.trans (by rw [decide_eq_false (by omega)])))]
    obtain ⟨p, hp⟩ : ∃ p, (cyL deO a k i r).take L = p := ⟨_, rfl⟩
    have pL := pa L
    rw [hp] at pL
    have lp : p.length ≤ 312 := by rw [← hp, List.length_take]; omega
    rw [ss_nx (s_asg (d := tIs p) (S1 := S) ((ev_callN3 (ev_var (i := 1) rfl) (ev_var (i := 6) rfl) ((ev_slI (j := 7) (l := r) rfl evo_non (ev_o (ev_var (i := 2) rfl))).trans (by rw [cut_take r L]))).trans pL) (by simp))]
    show ends false S.length (exSs T.prg.sub (Oc T.prg W n) _ [some (⟨s, i, r, .no⟩ : Tk).d, some (setD a k c m), some (.int L), some (.int ((L + szN c : Nat) : Int)), some (tIs p), some (.int s), some (.int i), some (tIs r), some (.str Wd.no.s)] S) = _
    have cut := cut_lh r L (L + szN c) (by omega) (by omega)
    rw [show L + szN c - L = szN c by omega] at cut
    have ne := t_neT2 (O := Oc T.prg W n) (ρ := [some (⟨s, i, r, .no⟩ : Tk).d, some (setD a k c m), some (.int L), some (.int ((L + szN c : Nat) : Int)), some (tIs p), some (.int s), some (.int i), some (tIs r), some (.str Wd.no.s)]) (S := S) (S1 := S) (S2 := S) (l := chkL c m i p) (k := (r.drop L).take (szN c)) ((ev_callN3 (x := "check_in") (ev_var (i := 1) rfl) (ev_var (i := 6) rfl) (ev_var (i := 4) rfl)).trans (check_in a k c m i p h (by omega) (by omega) (by omega))) ((ev_slI (j := 7) (l := r) rfl (ev_o (ev_var (i := 2) rfl)) (ev_o (ev_var (i := 3) rfl))).trans (by rw [cut]))
    by_cases hk : chkL c m i p = (r.drop L).take (szN c)
    case neg =>
      have hx : nx a k c m i r = (.chk, none, r) := by unfold nx; rw [if_neg h8, hL]; show (if _ then _ else if _ then _ else _) = _; rw [if_neg hs2, hp, if_neg hk]
      rw [pulT_none hq hs hx]
      rw [ss_rt (s_then (ne.trans (by rw [decide_eq_false hk]; rfl)) (s_ret (ev_tup2 (ev_tup (evs_cons (ev_var (i := 5) rfl) (evs_cons (ev_var (i := 6) rfl) (evs_cons (ev_var (i := 7) rfl) (evs_cons (ev_cst (c := .str "check")) evs_nil)))) (by simp [sz])) (ev_cst (c := .non)))))]
      exact ends_rt
    have hx : nx a k c m i r = (.no, some p, r.drop (L + szN c)) := by unfold nx; rw [if_neg h8, hL]; show (if _ then _ else if _ then _ else _) = _; rw [if_neg hs2, hp, if_pos hk]
    rw [pulT_some hq hs hx]
    rw [ss_nx (s_skip (ne.trans (by rw [decide_eq_true hk]; rfl)))]
    rw [s_ret (ev_tup2 (ev_tup (evs_cons (ev_var (i := 5) rfl) (evs_cons (ev_bop (va := .int i) (vb := .int 1) (d := .int ((i + 1 : Nat) : Int)) (S1 := S) (ev_var (i := 6) rfl) (ev_cst (c := .int 1)) rfl) (evs_cons ((ev_slI (j := 7) (l := r) rfl (ev_o (ev_var (i := 3) rfl)) evo_non).trans (by rw [cut_drop r _ (by omega)])) (evs_cons (ev_var (i := 8) rfl) evs_nil)))) (by simp [sz])) (ev_var (i := 4) rfl))]
    exact ends_rt
end
end K25
set_option Elab.async false
set_option linter.all false
set_option maxRecDepth 100000
set_option maxHeartbeats 1000000
namespace K25
open PySem PySem.Spec PyProof.Rows L2 Gx
section
variable {W n : Nat} {S : Sto}
def pyO : List Int → List Int
  | x :: y :: _ :: r => r.take (x * 256 + y).toNat
  | _ => []
/-! ### lists of packets in the store -/
theorem noloc_ints : ∀ l : List Int, nolocL (l.map D.int) = true
  | [] => rfl
  | i :: r => by
    show (noloc (D.int i) && nolocL (r.map D.int)) = true
    rw [noloc_ints r]
    rfl
theorem noloc_tIs : ∀ ps : List (List Int), nolocL (ps.map tIs) = true
  | [] => rfl
  | p :: r => by
    show (nolocL (p.map D.int) && nolocL (r.map tIs)) = true
    rw [noloc_ints p, noloc_tIs r]
    rfl
theorem shut_end (h : shut S = true) (ps : List (List Int)) : shut (S ++ [.lst (ps.map tIs)]) = true := by
  unfold shut at h ⊢
  rw [List.all_append, h]
  show (true && (nolocL (ps.map tIs) && true)) = true
  rw [noloc_tIs]
  rfl
theorem frz_tI (k : Nat) (S : Sto) (m : Nat) (l : List Int) : frz k S (m + 2) (tIs l) = some (tIs l) := by
  show ((l.map D.int).mapM (frz k S (m + 1))).map D.tup = _
  rw [frz_ints]
  rfl
theorem frz_tIL (k : Nat) (S : Sto) (m : Nat) : ∀ ps : List (List Int), (ps.map tIs).mapM (frz k S (m + 2)) = some (ps.map tIs)
  | [] => rfl
  | p :: r => by
    rw [List.map_cons, List.mapM_cons, frz_tIL k S m r, frz_tI]
    rfl
theorem frz_locN {k j : Nat} {S : Sto} {m : Nat} {xs : List D} (h : ¬ j < k) (h2 : S[j]? = some (.lst xs)) : frz k S (m + 1) (.loc j) = (xs.mapM (frz k S m)).map D.lst := by
  simp only [frz, if_neg h, h2]
theorem frz_end (m : Nat) (ps : List (List Int)) : frz S.length (S ++ [.lst (ps.map tIs)]) (m + 3) (.loc S.length) = some (.lst (ps.map tIs)) := by
  rw [frz_locN (Nat.lt_irrefl _) at_end, frz_tIL]
  rfl
theorem frz_tup {k : Nat} {S : Sto} {m : Nat} {xs : List D} : frz k S (m + 1) (.tup xs) = (xs.mapM (frz k S m)).map D.tup := by
  simp only [frz]
theorem frz_int {k : Nat} {S : Sto} {m : Nat} {i : Int} : frz k S (m + 1) (.int i) = some (.int i) := by
  simp only [frz]
theorem frz_str {k : Nat} {S : Sto} {m : Nat} {x : Str} : frz k S (m + 1) (.str x) = some (.str x) := by
  simp only [frz]
theorem mapM4 {f : D → Option D} {a b c d : D} (h1 : f a = some a) (h2 : f b = some b) (h3 : f c = some c) (h4 : f d = some d) : [a, b, c, d].mapM f = some [a, b, c, d] := by
  simp only [List.mapM_cons, List.mapM_nil, h1, h2, h3, h4]
  rfl
theorem mapM2 {f : D → Option D} {a b c d : D} (h1 : f a = some c) (h2 : f b = some d) : [a, b].mapM f = some [c, d] := by
  simp only [List.mapM_cons, List.mapM_nil, h1, h2]
  rfl
theorem frz_tk (k : Nat) (S : Sto) (m : Nat) (t : Tk) : frz k S (m + 4) t.d = some t.d := by
  unfold Tk.d
  rw [frz_tup, mapM4 frz_int frz_int (frz_tI k S (m + 1) t.rest) frz_str]
  rfl
theorem leave_to {d d' : D} {o : Ob} (h : shut S = true) (e : frz S.length (S ++ [o]) 8 d = some d') : leave false S.length d (S ++ [o]) = .ok d' S := by
  unfold leave
  rw [if_neg (by simp), List.take_left, if_pos h, e]
  rfl
theorem leave_all {ps : List (List Int)} {t : Tk} (h : shut S = true) : leave false S.length (.tup [t.d, .loc S.length]) (S ++ [.lst (ps.map tIs)]) = .ok (.tup [t.d, .lst (ps.map tIs)]) S :=
  leave_to h (by rw [frz_tup, mapM2 (frz_tk _ _ 3 t) (frz_end 4 ps)]; rfl)
/-! ### all that can be taken -/
theorem all_loop (a k c m : Int) (h : setOk a k c m) (hS : shut S = true) (hW : 10 ≤ W) (hn : 4 ≤ n) : ∀ {i : Nat} {r r2 : List Int} {ps : List (List Int)} {w : Wd}, Al a k c m i r ps r2 w → ∀ (t : Tk) (F : List (List Int)) (f : Nat), hdT t = ⟨4, i, r, .no⟩ → octs r → r.length ≤ 100000 → F.length + ps.length ≤ 100000 → ps.length < f →
    whileL (fun ρ1 S1 => evT (Oc T.prg W n) (.cmp .IsNot (.var 3) (.cst .non)) ρ1 S1) (fun ρ1 S1 => exSs T.prg.sub (Oc T.prg W n) c_all_in_b1 ρ1 S1) f [some (pulT a k c m t).1.d, some (setD a k c m), some (.loc S.length), some (optT (pulT a k c m t).2)] (S ++ [.lst (F.map tIs)])
      = .ok (.nx [some (⟨4, i + ps.length, r2, w⟩ : Tk).d, some (setD a k c m), some (.loc S.length), some .non]) (S ++ [.lst ((F ++ ps).map tIs)]) := by
  intro i r r2 ps w al
  induction al with
  | stop hx =>
    intro t F f ht o hl hF hf
    obtain ⟨f, rfl⟩ : ∃ g, f = g + 1 := ⟨f - 1, by omega⟩
    rw [pulT_none ht (by decide) hx, List.append_nil]
    exact whileL_stop (t_cmp (op := .IsNot) (va := .non) (vb := .non) (c := false) (ev_var (i := 3) rfl) (ev_cst (c := .non)) rfl)
  | step hx al ih =>
    rename_i i r p r1 ps r2 w
    intro t F f ht o hl hF hf
    obtain ⟨f, rfl⟩ : ∃ g, f = g + 1 := ⟨f - 1, by omega⟩
    obtain ⟨_, _, l1, o1, _⟩ := nx_plain hx o
    rw [List.length_cons] at hF hf
    have go := ih ⟨4, i + 1, r1, .no⟩ (F ++ [p]) f rfl o1 (by omega) (by rw [List.length_append, List.length_singleton]; omega) (by omega)
    rw [pulT_some ht (by decide) hx]
    have e1 : evT (Oc T.prg W n) (.cmp .IsNot (.var 3) (.cst .non)) [some (⟨4, i + 1, r1, .no⟩ : Tk).d, some (setD a k c m), some (.loc S.length), some (tIs p)] (S ++ [.lst (F.map tIs)]) = .ok true (S ++ [.lst (F.map tIs)]) := t_cmp (op := .IsNot) (va := tIs p) (vb := .non) (c := true) (ev_var (i := 3) rfl) (ev_cst (c := .non)) rfl
    refine (whileL_step e1 (S2 := S ++ [.lst ((F ++ [p]).map tIs)]) (ρ1 := [some (pulT a k c m ⟨4, i + 1, r1, .no⟩).1.d, some (setD a k c m), some (.loc S.length), some (optT (pulT a k c m ⟨4, i + 1, r1, .no⟩).2)]) ?_).trans ?_
    · show exSs T.prg.sub (Oc T.prg W n) c_all_in_b1 [some (⟨4, i + 1, r1, .no⟩ : Tk).d, some (setD a k c m), some (.loc S.length), some (tIs p)] _ = _
      unfold c_all_in_b1
      rw [ss_nx (s_app (k := S.length) (d := tIs p) rfl (ev_var (i := 3) rfl) at_end (by rw [List.length_map]; simp only [sz]; omega)), set_end, show F.map tIs ++ [tIs p] = (F ++ [p]).map tIs by simp]
      rw [ss_nx (s_asgt ((ev_call2 (ev_var (i := 0) rfl) (ev_var (i := 1) rfl)).trans (pulled_in a k c m ⟨4, i + 1, r1, .no⟩ h ⟨Nat.le_refl _, o1⟩ (by show r1.length ≤ _; omega) (shut_end hS _) hW hn)) (tg2 (by simp) (by simp)))]
      exact exSs_nil
    · rw [go]
      rw [show i + 1 + ps.length = i + (p :: ps).length by rw [List.length_cons]; omega, List.append_assoc]
      rfl
theorem all_in (a k c m : Int) (h : setOk a k c m) {t t' : Tk} {ps : List (List Int)} (u : Tak a k c m t t' ps) (ht : t.ok) (hl : t.rest.length ≤ 50000) (hS : shut S = true) (hW : 10 ≤ W) (hW2 : ps.length < W) (hn : 5 ≤ n) : C T.prg W n 19 [t.d, setD a k c m] S = .ok (.tup [t'.d, .lst (ps.map tIs)]) S := by
  obtain ⟨n, rfl⟩ : ∃ m, n = m + 1 := ⟨n - 1, by omega⟩
  rw [call_eq (d := ⟨2, 4, false, c_all_in⟩) rfl rfl]
  obtain ⟨f1, f2, f3⟩ := hdT_facts ht.1 ht.2
  show ends false S.length (exSs T.prg.sub (Oc T.prg W n) c_all_in [some t.d, some (setD a k c m), none, none] S) = _
  unfold c_all_in
  rw [ss_nx (s_asg (ev_ml ef_disp0) (by simp))]
  show ends false S.length (exSs T.prg.sub (Oc T.prg W n) _ [some t.d, some (setD a k c m), some (.loc S.length), none] (S ++ [.lst (([] : List (List Int)).map tIs)])) = _
  rw [ss_nx (s_asgt ((ev_call2 (ev_var (i := 0) rfl) (ev_var (i := 1) rfl)).trans (pulled_in a k c m t h ht (by omega) (shut_end hS []) hW (by omega))) (tg2 (by simp) (by simp)))]
  show ends false S.length (exSs T.prg.sub (Oc T.prg W n) _ [some (pulT a k c m t).1.d, some (setD a k c m), some (.loc S.length), some (optT (pulT a k c m t).2)] (S ++ [.lst (([] : List (List Int)).map tIs)])) = _
  have e2 : exS T.prg.sub (Oc T.prg W n) (.whl (.cmp .IsNot (.var 3) (.cst .non)) c_all_in_b1) [some (pulT a k c m t).1.d, some (setD a k c m), some (.loc S.length), some (optT (pulT a k c m t).2)] (S ++ [.lst (([] : List (List Int)).map tIs)]) = .ok (.nx [some t'.d, some (setD a k c m), some (.loc S.length), some .non]) (S ++ [.lst (ps.map tIs)]) := by
    simp only [exS]
    cases u with
    | stay z =>
      have e := pulT_stay (a := a) (k := k) (c := c) (m := m) (t := t) (s := (hdT t).seen) (i := (hdT t).num) (r := (hdT t).rest) (w := (hdT t).word) rfl z
      rw [e]
      obtain ⟨f, rfl⟩ : ∃ f, W = f + 1 := ⟨W - 1, by omega⟩
      exact whileL_stop (t_cmp (op := .IsNot) (va := .non) (vb := .non) (c := false) (ev_var (i := 3) rfl) (ev_cst (c := .non)) rfl)
    | go z1 z2 al =>
      have s4 : (hdT t).seen = 4 := by omega
      have := (tak_ok (Tak.go z1 z2 al) ht).2.2.1
      have e := all_loop (W := W) (n := n) a k c m h hS hW (by omega) al t [] W (by rw [← s4, ← z1]) f2 (by omega) (by rw [List.length_nil]; omega) hW2
      rw [s4]
      exact e
  rw [ss_nx e2, s_ret (ev_tup2 (ev_var (i := 0) rfl) (ev_var (i := 2) rfl))]
  exact leave_all hS
/-! ### taken, pulled -/
def optP : Option (List Int) → D
  | none => .non
  | some p => tIs (pyO p)
end
end K25
set_option Elab.async false
set_option linter.all false
set_option maxRecDepth 100000
set_option maxHeartbeats 1000000
namespace K25
open PySem PySem.Spec PyProof.Rows L2 Gx
section
variable {W n : Nat} {S : Sto}
/-! ### the law's own taking -/
theorem many_of (x y : Int) : bopD .Mult (.int x) (.int 256) = some (.int (x * 256)) := by
  simp only [bopD]
  rw [if_pos (by simp [mulOk])]
theorem sizes_atL (c : Int) (h : c = 0 ∨ c = 1 ∨ c = 2) : ixD (.lst [.int 0, .int 4, .int 8]) (.int c) = some (.int (szN c)) := by
  rcases h with rfl | rfl | rfl <;> rfl
def nxD (q : Wd × Option (List Int) × List Int) : D := .tup [.str q.1.s, optT q.2.1, tIs q.2.2]
theorem law_next (a k c m : Int) (i : Nat) (r : List Int) (h : setOk a k c m) (o : octs r) (hl : r.length ≤ 100000) (hS : shut S = true) (hW : 20 ≤ W) (hn : 4 ≤ n) : C T.prg W n 38 [setD a k c m, .int i, tIs r] S = .ok (nxD (nx a k c m i r)) S := by
  obtain ⟨n, rfl⟩ : ∃ m, n = m + 1 := ⟨n - 1, by omega⟩
  rw [call_eq (d := ⟨3, 8, false, c_law_next⟩) rfl rfl]
  have hc : c = 0 ∨ c = 1 ∨ c = 2 := by have := h.2.2.2.2; omega
  show ends false S.length (exSs T.prg.sub (Oc T.prg W n) c_law_next [some (setD a k c m), some (.int i), some (tIs r), none, none, none, none, none] S) = _
  unfold c_law_next
  have o1 := t_lt (O := Oc T.prg W n) (ρ := [some (setD a k c m), some (.int i), some (tIs r), none, none, none, none, none]) (S := S) (S1 := S) (S2 := S) (i := (r.length : Int)) (j := 8) (ev_lenT (ev_var (i := 2) rfl)) (ev_cst (c := .int 8))
  by_cases h8 : r.length < 8
  case pos =>
    have hx : nx a k c m i r = (.no, none, r) := by unfold nx; rw [if_pos h8]
    rw [hx]
    rw [ss_rt (s_then (o1.trans (by rw [decide_eq_true (by omega)])) (s_ret (ev_tup (evs_cons (ev_cst (c := .str "")) (evs_cons (ev_cst (c := .non)) (evs_cons (ev_var (i := 2) rfl) evs_nil))) (by simp [sz]))))]
    exact ends_rt
  rw [ss_nx (s_skip (o1.trans (by rw [decide_eq_false (by omega)])))]
  have cr : octs (cyL deO a k i r) := cyD_octs a k i o
  have cl : (cyL deO a k i r).length = r.length := cyL_len a k i r
  have pa : ∀ j : Nat, C T.prg W n 33 [setD a k c m, .int (i : Int), tIs (r.take j), .bl true] S = .ok (tIs ((cyL deO a k i r).take j)) S := fun j => (law_ciphered a k c m i (r.take j) true (by rw [List.length_take]; omega) hS (by omega)).trans (by rw [show fB true = deO from rfl, cy_take])
  obtain ⟨q, hq⟩ : ∃ q, cyL deO a k i r = q := ⟨_, rfl⟩
  have h3 : 8 ≤ q.length := by rw [← hq]; omega
  rw [hq] at pa cr
  rw [ss_nx (s_asg (d := tIs (q.take 8)) (S1 := S) ((ev_callN4 (ev_var (i := 0) rfl) (ev_var (i := 1) rfl) ((ev_slI (j := 2) (l := r) rfl evo_non (ev_o (ev_cst (c := .int 8)))).trans (by rw [show cutI r none (some 8) = r.take 8 from cut_take r 8])) (ev_cst (c := .bl true))).trans (pa 8)) (by simp))]
  show ends false S.length (exSs T.prg.sub (Oc T.prg W n) _ [some (setD a k c m), some (.int i), some (tIs r), some (tIs (q.take 8)), none, none, none, none] S) = _
  obtain ⟨x, y, z, w, rfl⟩ : ∃ x y z w, q = x :: y :: z :: w := by
    rcases q with _ | ⟨x, _ | ⟨y, _ | ⟨z, w⟩⟩⟩
    · simp at h3
    · simp at h3
    · simp at h3
    · exact ⟨x, y, z, w, rfl⟩
  have hx0 := cr x (by simp)
  have hy0 := cr y (by simp)
  have hz0 := cr z (by simp)
  have ix : ∀ (x5 x6 x7 x4 : Option D) (j : Int) (d : Int), L2.atI ((x :: y :: z :: w.take 5).map D.int) j = some (.int d) → evE (Oc T.prg W n) (.ix (.var 3) (.cst (.int j))) [some (setD a k c m), some (.int i), some (tIs r), some (tIs (x :: y :: z :: w.take 5)), x4, x5, x6, x7] S = .ok (.int d) S := fun x5 x6 x7 x4 j d hj => ev_ix (va := .tup ((x :: y :: z :: w.take 5).map D.int)) (vb := .int j) (S1 := S) (ev_var (i := 3) rfl) (ev_cst (c := .int j)) hj
  have a0 : L2.atI ((x :: y :: z :: w.take 5).map D.int) 0 = some (.int x) := ix_map (x :: y :: z :: w.take 5) 0 (by simp)
  have a1 : L2.atI ((x :: y :: z :: w.take 5).map D.int) 1 = some (.int y) := ix_map (x :: y :: z :: w.take 5) 1 (by simp)
  have a2 : L2.atI ((x :: y :: z :: w.take 5).map D.int) 2 = some (.int z) := ix_map (x :: y :: z :: w.take 5) 2 (by simp)
  show ends false S.length (exSs T.prg.sub (Oc T.prg W n) _ [some (setD a k c m), some (.int i), some (tIs r), some (tIs (x :: y :: z :: w.take 5)), none, none, none, none] S) = _
  obtain ⟨M, hM⟩ : ∃ M, x * 256 + y = M := ⟨_, rfl⟩
  have M0 : 0 ≤ M := by omega
  rw [ss_nx (s_asg (d := .int M) (S1 := S) (ev_bop (va := .int (x * 256)) (vb := .int y) (S1 := S) (ev_bop (va := .int x) (vb := .int 256) (S1 := S) (ix _ _ _ _ 0 x a0) (ev_cst (c := .int 256)) (many_of x y)) (ix _ _ _ _ 1 y a1) (by rw [← hM]; rfl)) (by simp))]
  show ends false S.length (exSs T.prg.sub (Oc T.prg W n) _ [some (setD a k c m), some (.int i), some (tIs r), some (tIs (x :: y :: z :: w.take 5)), some (.int M), none, none, none] S) = _
  have lo : lenO (x :: y :: z :: w) = if M ≤ 300 ∧ z = moreN M then some (3 + M + z).toNat else none := by rw [← hM]; rfl
  have gt : evT (Oc T.prg W n) (.cmp .Gt (.var 4) (.cst (.int 300))) [some (setD a k c m), some (.int i), some (tIs r), some (tIs (x :: y :: z :: w.take 5)), some (.int M), none, none, none] S = .ok (decide (M > 300)) S := t_cmp (op := .Gt) (va := .int M) (vb := .int 300) (ev_var (i := 4) rfl) (ev_cst (c := .int 300)) rfl
  have bad : (M > 300 ∨ z ≠ moreN M) → nx a k c m i r = (.len, none, r) := fun hb => by unfold nx; rw [if_neg h8, hq, lo, if_neg (by omega)]
  have ret : ends false S.length (exSs T.prg.sub (Oc T.prg W n) (.cons (.ret (.tup (.cons (.cst (.str "length")) (.cons (.cst .non) (.cons (.var 2) .nil))))) .nil) [some (setD a k c m), some (.int i), some (tIs r), some (tIs (x :: y :: z :: w.take 5)), some (.int M), none, none, none] S) = .ok (nxD (.len, none, r)) S := by
    rw [s_ret (ev_tup (evs_cons (ev_cst (c := .str "length")) (evs_cons (ev_cst (c := .non)) (evs_cons (ev_var (i := 2) rfl) evs_nil))) (by simp [sz]))]
    exact ends_rt
  have rt : exSs T.prg.sub (Oc T.prg W n) (.cons (.ret (.tup (.cons (.cst (.str "length")) (.cons (.cst .non) (.cons (.var 2) .nil))))) .nil) [some (setD a k c m), some (.int i), some (tIs r), some (tIs (x :: y :: z :: w.take 5)), some (.int M), none, none, none] S = .ok (.rt (nxD (.len, none, r))) S := s_ret (ev_tup (evs_cons (ev_cst (c := .str "length")) (evs_cons (ev_cst (c := .non)) (evs_cons (ev_var (i := 2) rfl) evs_nil))) (by simp [sz]))
  by_cases h300 : M > 300
  case pos =>
    rw [bad (.inl h300), ss_rt (s_then (t_or_t (gt.trans (by rw [decide_eq_true h300]))) rt)]
    exact ends_rt
  have mg := moreN_ge M
  have z5 : evT (Oc T.prg W n) (.cmp .NotEq (.ix (.var 3) (.cst (.int 2))) (.bop .Sub (.bop .Sub (.bi .len (.cons (.call 35 "_law_plain" (.cons (.bop .Mult (.tup (.cons (.cst (.int 0)) .nil)) (.var 4)) .nil)) .nil)) (.var 4)) (.cst (.int 3)))) [some (setD a k c m), some (.int i), some (tIs r), some (tIs (x :: y :: z :: w.take 5)), some (.int M), none, none, none] S = .ok (!decide (z = moreN M)) S := by
    have lp := len_plain (List.replicate M.toNat 0)
    rw [List.length_replicate] at lp
    have eM : ((M.toNat : Nat) : Int) = M := by omega
    rw [eM] at lp
    refine t_ne (va := .int z) (vb := .int (moreN M)) (ix _ _ _ _ 2 z a2) (ev_bop (va := .int (3 + moreN M)) (vb := .int 3) (S1 := S) (ev_bop (va := .int (3 + M + moreN M)) (vb := .int M) (S1 := S) ((ev_lenT (l := plainL (List.replicate M.toNat 0)) ((ev_call1 (ev_bop (ev_tup1 (ev_cst (c := .int 0))) (ev_var (i := 4) rfl) (mul_int1 M0 (by omega)))).trans (law_plain _ (by rw [List.length_replicate]; omega) hW (by omega)))).trans ?_) (ev_var (i := 4) rfl) ?_) (ev_cst (c := .int 3)) ?_) (eqD_int _ _)
    · rw [lp]
      congr 2
      omega
    · show some (D.int _) = some (D.int _)
      congr 2
      omega
    · show some (D.int _) = some (D.int _)
      congr 2
      omega
  have gt0 := gt.trans (by rw [decide_eq_false h300])
  by_cases hz : z = moreN M
  case neg =>
    rw [bad (.inr hz), ss_rt (s_then ((t_or gt0).trans (z5.trans (by rw [decide_eq_false hz]; rfl))) rt)]
    exact ends_rt
  rw [ss_nx (s_skip ((t_or gt0).trans (z5.trans (by rw [decide_eq_true hz]; rfl))))]
  obtain ⟨L, hL⟩ : ∃ L : Nat, (3 + M + z).toNat = L := ⟨_, rfl⟩
  have eL : (L : Int) = 3 + M + z := by omega
  rw [if_pos ⟨by omega, hz⟩, hL] at lo
  have bL := lenO_b lo cr
  rw [ss_nx (s_par2 (d := .int L) (e := .int (szN c)) (S1 := S) (evs_cons (ev_bop (va := .int (3 + M)) (vb := .int z) (S1 := S) (ev_bop (va := .int 3) (vb := .int M) (S1 := S) (ev_cst (c := .int 3)) (ev_var (i := 4) rfl) rfl) (ix _ _ _ _ 2 z a2) (by rw [eL]; rfl)) (evs_cons (ev_ix (va := .lst [.int 0, .int 4, .int 8]) (vb := .int c) (S1 := S) (ev_disp (evs_cons (ev_cst (c := .int 0)) (evs_cons (ev_cst (c := .int 4)) (evs_cons (ev_cst (c := .int 8)) evs_nil))) (by simp [sz])) (ev_six (i := 0) rfl (set_at2 a k c m)) (sizes_atL c hc)) evs_nil)) (by simp) (by simp))]
  show ends false S.length (exSs T.prg.sub (Oc T.prg W n) _ [some (setD a k c m), some (.int i), some (tIs r), some (tIs (x :: y :: z :: w.take 5)), some (.int M), none, some (.int L), some (.int (szN c))] S) = _
  have sum : ∀ x5 : Option D, evE (Oc T.prg W n) (.bop .Add (.var 6) (.var 7)) [some (setD a k c m), some (.int i), some (tIs r), some (tIs (x :: y :: z :: w.take 5)), some (.int M), x5, some (.int L), some (.int (szN c))] S = .ok (.int ((L + szN c : Nat) : Int)) S := fun x5 => ev_bop (op := .Add) (va := .int L) (vb := .int (szN c)) (S1 := S) (ev_var (i := 6) rfl) (ev_var (i := 7) rfl) (by show some (D.int ((L : Int) + (szN c : Int))) = _; rw [Int.natCast_add])
  have lt := t_lt (O := Oc T.prg W n) (S := S) (S1 := S) (S2 := S) (i := (r.length : Int)) (j := ((L + szN c : Nat) : Int)) (ev_lenT (ev_var (ρ := [some (setD a k c m), some (.int i), some (tIs r), some (tIs (x :: y :: z :: w.take 5)), some (.int M), none, some (.int L), some (.int (szN c))]) (i := 2) rfl)) (sum none)
  by_cases hs2 : r.length < L + szN c
  case pos =>
    have hx : nx a k c m i r = (.no, none, r) := by unfold nx; rw [if_neg h8, hq, lo]; exact if_pos hs2
    rw [hx, ss_rt (s_then (lt.trans (by rw [decide_eq_true (by omega)])) (s_ret (ev_tup (evs_cons (ev_cst (c := .str "")) (evs_cons (ev_cst (c := .non)) (evs_cons (ev_var (i := 2) rfl) evs_nil))) (by simp [sz]))))]
    exact ends_rt
  rw [ss_nx (s_skip (lt.trans (by rw [decide_eq_false (by omega)])))]
  obtain ⟨p, hp⟩ : ∃ p, (x :: y :: z :: w).take L = p := ⟨_, rfl⟩
  have pL := pa L
  rw [hp] at pL
  have lp : p.length ≤ 312 := by rw [← hp, List.length_take]; omega
  have op : octs p := by rw [← hp]; exact octs_take cr L
  rw [ss_nx (s_asg (d := tIs p) (S1 := S) ((ev_callN4 (ev_var (i := 0) rfl) (ev_var (i := 1) rfl) ((ev_slI (j := 2) (l := r) rfl evo_non (ev_o (ev_var (i := 6) rfl))).trans (by rw [cut_take r L])) (ev_cst (c := .bl true))).trans pL) (by simp))]
  show ends false S.length (exSs T.prg.sub (Oc T.prg W n) _ [some (setD a k c m), some (.int i), some (tIs r), some (tIs (x :: y :: z :: w.take 5)), some (.int M), some (tIs p), some (.int L), some (.int (szN c))] S) = _
  have cut := cut_lh r L (L + szN c) (by omega) (by omega)
  rw [show L + szN c - L = szN c by omega] at cut
  have ne := t_neT2 (O := Oc T.prg W n) (ρ := [some (setD a k c m), some (.int i), some (tIs r), some (tIs (x :: y :: z :: w.take 5)), some (.int M), some (tIs p), some (.int L), some (.int (szN c))]) (S := S) (S1 := S) (S2 := S) (l := chkL c m i p) (k := (r.drop L).take (szN c)) ((ev_callN3 (x := "_law_check") (ev_var (i := 0) rfl) (ev_var (i := 1) rfl) (ev_var (i := 5) rfl)).trans (law_check a k c m i p h op (by omega) (by omega))) ((ev_slI (j := 2) (l := r) rfl (ev_o (ev_var (i := 6) rfl)) (ev_o (sum _))).trans (by rw [cut]))
  by_cases hk : chkL c m i p = (r.drop L).take (szN c)
  case neg =>
    have hx : nx a k c m i r = (.chk, none, r) := by unfold nx; rw [if_neg h8, hq, lo]; show (if _ then _ else if _ then _ else _) = _; rw [if_neg hs2, hp, if_neg hk]
    rw [hx, ss_rt (s_then (ne.trans (by rw [decide_eq_false hk]; rfl)) (s_ret (ev_tup (evs_cons (ev_cst (c := .str "check")) (evs_cons (ev_cst (c := .non)) (evs_cons (ev_var (i := 2) rfl) evs_nil))) (by simp [sz]))))]
    exact ends_rt
  have hx : nx a k c m i r = (.no, some p, r.drop (L + szN c)) := by unfold nx; rw [if_neg h8, hq, lo]; show (if _ then _ else if _ then _ else _) = _; rw [if_neg hs2, hp, if_pos hk]
  rw [hx, ss_nx (s_skip (ne.trans (by rw [decide_eq_true hk]; rfl)))]
  rw [s_ret (ev_tup (evs_cons (ev_cst (c := .str "")) (evs_cons (ev_var (i := 5) rfl) (evs_cons ((ev_slI (j := 2) (l := r) rfl (ev_o (sum _)) evo_non).trans (by rw [cut_drop r _ (by omega)])) evs_nil))) (by simp [sz]))]
  exact ends_rt
end
end K25
set_option Elab.async false
set_option linter.all false
set_option maxRecDepth 100000
set_option maxHeartbeats 1000000
namespace K25
open PySem PySem.Spec PyProof.Rows L2 Gx
section
variable {W n : Nat} {S : Sto}
/-! ### the law's own head, and all it takes -/
theorem zip_prI : ∀ (a b : List Int), pairsD (a.map D.int) (b.map D.int) = (a.zip b).map prI := pairs_ints
def LH : D := .tup [.int 83, .int 71, .int 49, .int 10]
theorem lh_stay (O : Orc) (w0 w1 w3 w7 : Option D) (s : Nat) : ∀ (l : List (Int × Int)) (x5 x6 : Option D), ∃ y z, forL (fun d ρ1 S2 => (evTg O (.tp (.cons (.nm 5) (.cons (.nm 6) .nil))) d ρ1 S2).bind fun ρ2 S3 => exSs T.prg.sub O c_law_taken_b2 ρ2 S3) (l.map prI) [w0, w1, some (.int s), w3, some (.str Wd.hd.s), x5, x6, w7] S
    = .ok (.nx [w0, w1, some (.int s), w3, some (.str Wd.hd.s), y, z, w7]) S
  | [], x5, x6 => ⟨x5, x6, by simp [forL]⟩
  | (p, q) :: l, x5, x6 => by
    obtain ⟨y, z, e⟩ := lh_stay O w0 w1 w3 w7 s l (some (.int p)) (some (.int q))
    refine ⟨y, z, forL_cons (forL_turn (tg2 (by simp) (by simp)) (ρ3 := [w0, w1, some (.int s), w3, some (.str Wd.hd.s), some (.int p), some (.int q), w7]) (S2 := S) ?_) e⟩
    show exSs T.prg.sub O c_law_taken_b2 [w0, w1, some (.int s), w3, some (.str Wd.hd.s), some (.int p), some (.int q), w7] S = _
    unfold c_law_taken_b2
    have eq : evT O (.cmp .Eq (.var 5) (.var 6)) [w0, w1, some (.int s), w3, some (.str Wd.hd.s), some (.int p), some (.int q), w7] S = .ok (decide (p = q)) S := t_eqI (ev_var (i := 5) rfl) (ev_var (i := 6) rfl)
    have tst : evT O (.and (.cmp .Eq (.var 5) (.var 6)) (.cmp .Eq (.var 4) (.cst (.str "")))) [w0, w1, some (.int s), w3, some (.str Wd.hd.s), some (.int p), some (.int q), w7] S = .ok false S := by
      by_cases h : p = q
      · exact (t_andT (eq.trans (by rw [decide_eq_true h]))).trans ((t_wd (w := .hd) (ev_var (i := 4) rfl)).trans rfl)
      · exact t_andF (eq.trans (by rw [decide_eq_false h]))
    rw [ss_nx (s_else tst ((ss_nx (s_asg (d := .str Wd.hd.s) (S1 := S) (ev_cst (c := .str "head")) (by simp))).trans exSs_nil))]
    exact exSs_nil
theorem lh_go (O : Orc) (w0 w1 w3 w7 : Option D) : ∀ (hs : List Int) (s : Nat) (r : List Int) (x5 x6 : Option D), ∃ y z, forL (fun d ρ1 S2 => (evTg O (.tp (.cons (.nm 5) (.cons (.nm 6) .nil))) d ρ1 S2).bind fun ρ2 S3 => exSs T.prg.sub O c_law_taken_b2 ρ2 S3) ((r.zip hs).map prI) [w0, w1, some (.int s), w3, some (.str Wd.no.s), x5, x6, w7] S
    = .ok (.nx [w0, w1, some (.int (hdGo hs s r).1), w3, some (.str (hdGo hs s r).2.2.s), y, z, w7]) S
  | [], s, r, x5, x6 => ⟨x5, x6, by cases r <;> simp [forL, hdGo]⟩
  | h :: hs, s, [], x5, x6 => ⟨x5, x6, by simp [forL, hdGo]⟩
  | h :: hs, s, x :: r, x5, x6 => by
    have eq : evT O (.cmp .Eq (.var 5) (.var 6)) [w0, w1, some (.int s), w3, some (.str Wd.no.s), some (.int x), some (.int h), w7] S = .ok (decide (x = h)) S := t_eqI (ev_var (i := 5) rfl) (ev_var (i := 6) rfl)
    by_cases z : x = h
    · obtain ⟨y, u, e⟩ := lh_go O w0 w1 w3 w7 hs (s + 1) r (some (.int x)) (some (.int h))
      rw [show hdGo (h :: hs) s (x :: r) = hdGo hs (s + 1) r from if_pos z]
      refine ⟨y, u, forL_cons (forL_turn (tg2 (by simp) (by simp)) (ρ3 := [w0, w1, some (.int ((s + 1 : Nat) : Int)), w3, some (.str Wd.no.s), some (.int x), some (.int h), w7]) (S2 := S) ?_) e⟩
      show exSs T.prg.sub O c_law_taken_b2 [w0, w1, some (.int s), w3, some (.str Wd.no.s), some (.int x), some (.int h), w7] S = _
      unfold c_law_taken_b2
      rw [ss_nx (s_then ((t_andT (eq.trans (by rw [decide_eq_true z]))).trans ((t_wd (w := .no) (ev_var (i := 4) rfl)).trans rfl)) ((ss_nx (s_asg (d := .int ((s + 1 : Nat) : Int)) (S1 := S) (ev_bop (va := .int s) (vb := .int 1) (S1 := S) (ev_var (i := 2) rfl) (ev_cst (c := .int 1)) rfl) (by simp))).trans exSs_nil))]
      exact exSs_nil
    · obtain ⟨y, u, e⟩ := lh_stay (S := S) O w0 w1 w3 w7 s (r.zip hs) (some (.int x)) (some (.int h))
      rw [show hdGo (h :: hs) s (x :: r) = (s, x :: r, .hd) from if_neg z]
      refine ⟨y, u, forL_cons (forL_turn (tg2 (by simp) (by simp)) (ρ3 := [w0, w1, some (.int s), w3, some (.str Wd.hd.s), some (.int x), some (.int h), w7]) (S2 := S) ?_) e⟩
      show exSs T.prg.sub O c_law_taken_b2 [w0, w1, some (.int s), w3, some (.str Wd.no.s), some (.int x), some (.int h), w7] S = _
      unfold c_law_taken_b2
      rw [ss_nx (s_else (t_andF (eq.trans (by rw [decide_eq_false z]))) ((ss_nx (s_asg (d := .str Wd.hd.s) (S1 := S) (ev_cst (c := .str "head")) (by simp))).trans exSs_nil))]
      exact exSs_nil
theorem zip_take (r hs : List Int) : (r.take hs.length).zip hs = r.zip hs := by
  induction hs generalizing r with
  | nil => cases r <;> rfl
  | cons h hs ih =>
    cases r with
    | nil => rfl
    | cons x r => simp only [List.length_cons, List.take_succ_cons, List.zip_cons_cons, ih]
theorem lt_loop (a k c m : Int) (h : setOk a k c m) (hS : shut S = true) (hW : 20 ≤ W) (hn : 4 ≤ n) (w2 w5 w6 : Option D) : ∀ {i : Nat} {r r2 : List Int} {ps : List (List Int)} {w : Wd}, Al a k c m i r ps r2 w → ∀ (F : List (List Int)) (f : Nat) (v : Wd) (pl : Option (List Int)) (r0 : List Int), nx a k c m i r = (v, pl, r0) → F.length = i → octs r → r.length ≤ 100000 → F.length + ps.length ≤ 100000 → ps.length < f →
    whileL (fun ρ1 S1 => evT (Oc T.prg W n) (.cmp .IsNot (.var 7) (.cst .non)) ρ1 S1) (fun ρ1 S1 => exSs T.prg.sub (Oc T.prg W n) c_law_taken_b1 ρ1 S1) f [some (setD a k c m), some (tIs r0), w2, some (.loc S.length), some (.str v.s), w5, w6, some (optT pl)] (S ++ [.lst (F.map tIs)])
      = .ok (.nx [some (setD a k c m), some (tIs r2), w2, some (.loc S.length), some (.str w.s), w5, w6, some .non]) (S ++ [.lst ((F ++ ps).map tIs)]) := by
  intro i r r2 ps w al
  induction al with
  | stop hx =>
    intro F f v pl r0 e hF o hl hF2 hf
    rw [hx] at e
    cases e
    obtain ⟨f, rfl⟩ : ∃ g, f = g + 1 := ⟨f - 1, by omega⟩
    rw [List.append_nil]
    exact whileL_stop (t_cmp (op := .IsNot) (va := .non) (vb := .non) (c := false) (ev_var (i := 7) rfl) (ev_cst (c := .non)) rfl)
  | step hx al ih =>
    rename_i i r p r1 ps r2 w
    intro F f v pl r0 e hF o hl hF2 hf
    rw [hx] at e
    cases e
    obtain ⟨f, rfl⟩ : ∃ g, f = g + 1 := ⟨f - 1, by omega⟩
    obtain ⟨_, _, l1, o1, _⟩ := nx_plain hx o
    rw [List.length_cons] at hF2 hf
    obtain ⟨q, hq⟩ : ∃ q, nx a k c m (i + 1) r1 = q := ⟨_, rfl⟩
    obtain ⟨v1, pl1, r3⟩ := q
    have go := ih (F ++ [p]) f v1 pl1 r3 hq (by rw [List.length_append, List.length_singleton, hF]) o1 (by omega) (by rw [List.length_append, List.length_singleton]; omega) (by omega)
    have e1 : evT (Oc T.prg W n) (.cmp .IsNot (.var 7) (.cst .non)) [some (setD a k c m), some (tIs r1), w2, some (.loc S.length), some (.str Wd.no.s), w5, w6, some (tIs p)] (S ++ [.lst (F.map tIs)]) = .ok true (S ++ [.lst (F.map tIs)]) := t_cmp (op := .IsNot) (va := tIs p) (vb := .non) (c := true) (ev_var (i := 7) rfl) (ev_cst (c := .non)) rfl
    refine (whileL_step e1 (S2 := S ++ [.lst ((F ++ [p]).map tIs)]) (ρ1 := [some (setD a k c m), some (tIs r3), w2, some (.loc S.length), some (.str v1.s), w5, w6, some (optT pl1)]) ?_).trans ?_
    · unfold c_law_taken_b1
      rw [ss_nx (s_app (k := S.length) (d := tIs p) rfl (ev_var (i := 7) rfl) at_end (by rw [List.length_map]; simp only [sz]; omega)), set_end, show F.map tIs ++ [tIs p] = (F ++ [p]).map tIs by simp]
      have el : evE (Oc T.prg W n) (.bi .len (.cons (.var 3) .nil)) [some (setD a k c m), some (tIs r1), w2, some (.loc S.length), some (.str Wd.no.s), w5, w6, some (tIs p)] (S ++ [.lst ((F ++ [p]).map tIs)]) = .ok (.int ((i + 1 : Nat) : Int)) (S ++ [.lst ((F ++ [p]).map tIs)]) := ev_bi1 (v := .loc S.length) (ev_var (i := 3) rfl) (by rw [der_end]; show some (D.int (((F ++ [p]).map tIs).length : Nat)) = _; rw [List.length_map, List.length_append, List.length_singleton, hF])
      have en := law_next (W := W) (n := n) (S := S ++ [.lst ((F ++ [p]).map tIs)]) a k c m (i + 1) r1 h o1 (by omega) (shut_end hS _) hW hn
      rw [hq] at en
      rw [ss_nx (s_asgt ((ev_callN3 (ev_var (i := 0) rfl) el (ev_var (i := 1) rfl)).trans en) (tg3 (a := .str v1.s) (b := optT pl1) (c := tIs r3) (by simp) (by simp) (by simp)))]
      exact exSs_nil
    · rw [go, List.append_assoc]
      rfl
theorem mapM4' {f : D → Option D} {a b c d b' : D} (h1 : f a = some a) (h2 : f b = some b') (h3 : f c = some c) (h4 : f d = some d) : [a, b, c, d].mapM f = some [a, b', c, d] := by
  simp only [List.mapM_cons, List.mapM_nil, h1, h2, h3, h4]
  rfl
theorem ei_zipTT {O : Orc} {ρ : Gx.Env} {a b : CE} {xs ys : List D} (ha : evE O a ρ S = .ok (.tup xs) S) (hb : evE O b ρ S = .ok (.tup ys) S) : evI O (.zip a b) ρ S = .ok (.items (pairsD xs ys)) S := by
  simp only [evI, ha, hb, bind_ok']
/-- a head that is there whole has no word -/
theorem hd_full : ∀ {hs : List Int} {s : Nat} {o r : List Int}, hdGo hs s o = (s + hs.length, r, .hd) → False
  | [], s, o, r, h => by simp [hdGo] at h
  | x :: hs, s, [], r, h => by simp [hdGo] at h
  | x :: hs, s, y :: o, r, h => by
    unfold hdGo at h
    split at h
    · exact hd_full (hs := hs) (s := s + 1) (o := o) (r := r) (by rw [h, List.length_cons]; congr 1; omega)
    · have := congrArg Prod.fst h
      simp at this
theorem law_taken (a k c m : Int) (h : setOk a k c m) (o : List Int) (oo : octs o) {t' : Tk} {ps : List (List Int)} (u : Tak a k c m ⟨0, 0, o, .no⟩ t' ps) (hl : o.length ≤ 50000) (hS : shut S = true) (hW : 20 ≤ W) (hW2 : ps.length < W) (hn : 5 ≤ n) : C T.prg W n 39 [setD a k c m, tIs o] S = .ok (.tup [.int t'.seen, .lst (ps.map tIs), tIs t'.rest, .str t'.word.s]) S := by
  obtain ⟨n, rfl⟩ : ∃ m, n = m + 1 := ⟨n - 1, by omega⟩
  rw [call_eq (d := ⟨2, 8, false, c_law_taken⟩) rfl rfl]
  show ends false S.length (exSs T.prg.sub (Oc T.prg W n) c_law_taken [some (setD a k c m), some (tIs o), none, none, none, none, none, none] S) = _
  unfold c_law_taken
  rw [ss_nx (s_par3 (d := .int 0) (e := .loc S.length) (f := .str Wd.no.s) (S1 := S ++ [.lst []]) (evs_cons (ev_cst (c := .int 0)) (evs_cons (ev_ml ef_disp0) (evs_cons (ev_cst (c := .str "")) evs_nil))) (by simp) (by simp) (by simp))]
  show ends false S.length (exSs T.prg.sub (Oc T.prg W n) _ [some (setD a k c m), some (tIs o), some (.int ((0 : Nat) : Int)), some (.loc S.length), some (.str Wd.no.s), none, none, none] (S ++ [.lst (([] : List (List Int)).map tIs)])) = _
  obtain ⟨y, z, e⟩ := lh_go (S := S ++ [.lst (([] : List (List Int)).map tIs)]) (Oc T.prg W n) (some (setD a k c m)) (some (tIs o)) (some (.loc S.length)) none HD 0 o none none
  have ez : evI (Oc T.prg W n) (.zip (.sl (.var 1) .non (.som (.cst (.int 4)))) (.tup (.cons (.cst (.int 83)) (.cons (.cst (.int 71)) (.cons (.cst (.int 49)) (.cons (.cst (.int 10)) .nil)))))) [some (setD a k c m), some (tIs o), some (.int ((0 : Nat) : Int)), some (.loc S.length), some (.str Wd.no.s), none, none, none] (S ++ [.lst (([] : List (List Int)).map tIs)]) = .ok (.items ((o.zip HD).map prI)) (S ++ [.lst (([] : List (List Int)).map tIs)]) := by
    have e1 := ev_slI (O := Oc T.prg W n) (ρ := [some (setD a k c m), some (tIs o), some (.int ((0 : Nat) : Int)), some (.loc S.length), some (.str Wd.no.s), none, none, none]) (S := S ++ [.lst (([] : List (List Int)).map tIs)]) (j := 1) (l := o) rfl evo_non (ev_o (ev_cst (c := .int 4)))
    rw [show cutI o none (some 4) = o.take HD.length from cut_take o 4] at e1
    have e2 : evE (Oc T.prg W n) (.tup (.cons (.cst (.int 83)) (.cons (.cst (.int 71)) (.cons (.cst (.int 49)) (.cons (.cst (.int 10)) .nil))))) [some (setD a k c m), some (tIs o), some (.int ((0 : Nat) : Int)), some (.loc S.length), some (.str Wd.no.s), none, none, none] (S ++ [.lst (([] : List (List Int)).map tIs)]) = .ok (.tup (HD.map D.int)) (S ++ [.lst (([] : List (List Int)).map tIs)]) := ev_tup (evs_cons (ev_cst (c := .int 83)) (evs_cons (ev_cst (c := .int 71)) (evs_cons (ev_cst (c := .int 49)) (evs_cons (ev_cst (c := .int 10)) evs_nil)))) (by simp [sz, HD])
    refine (ei_zipTT e1 e2).trans ?_
    rw [pairs_ints, zip_take]
  rw [ss_nx (s_for ez e)]
  obtain ⟨j, j1, j2, j3, j4, j5⟩ := hd_facts HD 0 o
  obtain ⟨g, hg⟩ : ∃ g, hdGo HD 0 o = g := ⟨_, rfl⟩
  have et : hdT ⟨0, 0, o, .no⟩ = ⟨g.1, 0, g.2.1, g.2.2⟩ := by rw [← hg]; rfl
  rw [hg] at j1 j3 j5 ⊢
  obtain ⟨s, r, w⟩ := g
  have j1 : s = j := by have : s = 0 + j := j1; omega
  have j3 : r = o.drop j := j3
  subst j1
  have s4 : s ≤ 4 := j2
  show ends false S.length (exSs T.prg.sub (Oc T.prg W n) _ [some (setD a k c m), some (tIs o), some (.int s), some (.loc S.length), some (.str w.s), y, z, none] (S ++ [.lst (([] : List (List Int)).map tIs)])) = _
  rw [ss_nx (s_asg (d := tIs r) (S1 := S ++ [.lst (([] : List (List Int)).map tIs)]) ((ev_slI (j := 1) (l := o) rfl (ev_o (ev_var (i := 2) rfl)) evo_non).trans (by rw [cut_drop o s j4, j3])) (by simp))]
  show ends false S.length (exSs T.prg.sub (Oc T.prg W n) _ [some (setD a k c m), some (tIs r), some (.int s), some (.loc S.length), some (.str w.s), y, z, none] (S ++ [.lst (([] : List (List Int)).map tIs)])) = _
  have lt := t_lt (O := Oc T.prg W n) (ρ := [some (setD a k c m), some (tIs r), some (.int s), some (.loc S.length), some (.str w.s), y, z, none]) (S := S ++ [.lst (([] : List (List Int)).map tIs)]) (S1 := S ++ [.lst (([] : List (List Int)).map tIs)]) (S2 := S ++ [.lst (([] : List (List Int)).map tIs)]) (i := (s : Int)) (j := 4) (ev_var (i := 2) rfl) (ev_cst (c := .int 4))
  have fr : ∀ (l : List (List Int)) (v : D) (r : List Int) (q : D) (d : D), frz S.length (S ++ [.lst (l.map tIs)]) 7 v = some v → frz S.length (S ++ [.lst (l.map tIs)]) 7 q = some q → frz S.length (S ++ [.lst (l.map tIs)]) 7 d = some (.lst (l.map tIs)) → leave false S.length (.tup [v, d, tIs r, q]) (S ++ [.lst (l.map tIs)]) = .ok (.tup [v, .lst (l.map tIs), tIs r, q]) S := fun l v r q d hv hq hd =>
    leave_to hS (by rw [frz_tup, mapM4' hv hd (frz_tI _ _ 5 r) hq]; rfl)
  by_cases hs : s < 4
  case pos =>
    have hu := Tak.stay (a := a) (k := k) (c := c) (m := m) (t := ⟨0, 0, o, .no⟩) (by rw [et]; exact .inr hs)
    obtain ⟨rfl, rfl⟩ := tak_det u hu
    rw [et]
    rw [ss_rt (s_then (lt.trans (by rw [decide_eq_true (by omega)])) (s_ret (ev_tup (evs_cons (ev_var (i := 2) rfl) (evs_cons (ev_disp evs_nil (by simp [sz])) (evs_cons (ev_var (i := 1) rfl) (evs_cons (ev_var (i := 4) rfl) evs_nil)))) (by simp [sz]))))]
    exact fr [] (.int s) r (.str w.s) (.lst []) frz_int frz_str rfl
  obtain rfl : s = 4 := by omega
  rw [ss_nx (s_skip (lt.trans (by rw [decide_eq_false (by omega)])))]
  have w0 : w = .no := by
    rcases j5 with z | z
    · exact z
    · exfalso
      have z : w = .hd := z
      subst z
      exact hd_full (hs := HD) (s := 0) (o := o) (r := r) hg
  subst w0
  have j3' : r = o.drop 4 := j3
  have or : octs r := by rw [j3']; exact octs_drop oo _
  have lr : r.length ≤ 50000 := by rw [j3', List.length_drop]; omega
  obtain ⟨q, hq⟩ : ∃ q, nx a k c m 0 r = q := ⟨_, rfl⟩
  obtain ⟨v, pl, r0⟩ := q
  have en := law_next (W := W) (n := n) (S := S ++ [.lst (([] : List (List Int)).map tIs)]) a k c m 0 r h or (by omega) (shut_end hS _) hW (by omega)
  rw [hq] at en
  rw [ss_nx (s_asgt ((ev_callN3 (ev_var (i := 0) rfl) (ev_cst (c := .int 0)) (ev_var (i := 1) rfl)).trans en) (tg3 (a := .str v.s) (b := optT pl) (c := tIs r0) (by simp) (by simp) (by simp)))]
  show ends false S.length (exSs T.prg.sub (Oc T.prg W n) _ [some (setD a k c m), some (tIs r0), some (.int ((4 : Nat) : Int)), some (.loc S.length), some (.str v.s), y, z, some (optT pl)] (S ++ [.lst (([] : List (List Int)).map tIs)])) = _
  cases u with
  | stay z1 => rw [et] at z1; exact absurd z1 (by simp)
  | go z1 z2 al =>
    rename_i r2 w2
    rw [et] at al ⊢
    have l8 := (al_facts al or).1
    have l8 : 8 * ps.length + r2.length ≤ r.length := l8
    have e3 := lt_loop (W := W) (n := n) (S := S) a k c m h hS hW (by omega) (some (.int ((4 : Nat) : Int))) y z al [] W v pl r0 hq rfl or (by show r.length ≤ _; omega) (by rw [List.length_nil]; omega) hW2
    have e4 : exS T.prg.sub (Oc T.prg W n) (.whl (.cmp .IsNot (.var 7) (.cst .non)) c_law_taken_b1) [some (setD a k c m), some (tIs r0), some (.int ((4 : Nat) : Int)), some (.loc S.length), some (.str v.s), y, z, some (optT pl)] (S ++ [.lst (([] : List (List Int)).map tIs)]) = .ok (.nx [some (setD a k c m), some (tIs r2), some (.int ((4 : Nat) : Int)), some (.loc S.length), some (.str w2.s), y, z, some .non]) (S ++ [.lst (ps.map tIs)]) := by
      simp only [exS]
      exact e3
    rw [ss_nx e4, s_ret (ev_tup (evs_cons (ev_cst (c := .int 4)) (evs_cons (ev_var (i := 3) rfl) (evs_cons (ev_var (i := 1) rfl) (evs_cons (ev_var (i := 4) rfl) evs_nil)))) (by simp [sz]))]
    exact fr ps (.int 4) r2 (.str w2.s) (.loc S.length) frz_int frz_str (frz_end 4 ps)
end
end K25
set_option Elab.async false
set_option linter.all false
set_option maxRecDepth 100000
set_option maxHeartbeats 1000000
namespace K25
open PySem PySem.Spec PyProof.Rows L2 Gx
section
variable {W n : Nat} {S : Sto}
/-! ### sameness of what is taken -/
theorem same_int (i : Int) (hn : 1 ≤ n) (S : Sto) : C T.prg W n 42 [.int i, .int i] S = .ok (.bl true) S := law_same _ (.inr (.inl ⟨i, rfl⟩)) rfl hn
theorem same_wd (w : Wd) (hn : 1 ≤ n) (S : Sto) : C T.prg W n 42 [.str w.s, .str w.s] S = .ok (.bl true) S := law_same _ (.inr (.inr ⟨w.s, rfl⟩)) (by cases w <;> decide +kernel) hn
theorem same_tk (s i : Int) (r : List Int) (w : Wd) (hl : r.length ≤ 16777216) (hn : 3 ≤ n) (S : Sto) : C T.prg W n 42 [.tup [.int s, .int i, tIs r, .str w.s], .tup [.int s, .int i, tIs r, .str w.s]] S = .ok (.bl true) S := by
  obtain ⟨n, rfl⟩ : ∃ m, n = m + 1 := ⟨n - 1, by omega⟩
  refine law_same_tup _ (fun x hx S => ?_) (by simp) S
  simp only [List.mem_cons, List.not_mem_nil, or_false] at hx
  rcases hx with rfl | rfl | rfl | rfl
  · exact same_int _ (by omega) S
  · exact same_int _ (by omega) S
  · exact law_same_ints _ hl (by omega) S
  · exact same_wd w (by omega) S
theorem same_tIs (ps : List (List Int)) (hp : ∀ p ∈ ps, p.length ≤ 16777216) (hl : ps.length ≤ 16777216) (hn : 3 ≤ n) (S : Sto) : C T.prg W n 42 [.tup (ps.map tIs), .tup (ps.map tIs)] S = .ok (.bl true) S := by
  obtain ⟨n, rfl⟩ : ∃ m, n = m + 1 := ⟨n - 1, by omega⟩
  refine law_same_tup _ (fun x hx S => ?_) (by rw [List.length_map]; exact hl) S
  obtain ⟨p, hp', rfl⟩ := List.mem_map.mp hx
  exact law_same_ints _ (hp p hp') (by omega) S
theorem same_two {u v : D} (hu : ∀ S, C T.prg W n 42 [u, u] S = .ok (.bl true) S) (hv : ∀ S, C T.prg W n 42 [v, v] S = .ok (.bl true) S) (S : Sto) : C T.prg W (n + 1) 42 [.tup [u, v], .tup [u, v]] S = .ok (.bl true) S := by
  refine law_same_tup _ (fun x hx S => ?_) (by simp) S
  simp only [List.mem_cons, List.not_mem_nil, or_false] at hx
  rcases hx with rfl | rfl
  · exact hu S
  · exact hv S
/-- a value is as itself -/
theorem eq_self {m k : Nat} {v : D} (h : Pl m k v) (hk : k ≤ 64) : eqD v v = some true := by
  obtain ⟨p, h1, h2⟩ := pl_shaped h hk
  have h3 : p.canLay0 = true := by
    unfold SeqAt.shaped at h2
    exact (Bool.and_eq_true_iff.mp h2).1
  have e : eqP v v = some true := by
    unfold eqP
    simp only [h1, h2, Bool.and_self, if_true, SeqAt.eqv_refl p h3]
  unfold eqD
  split
  · simp
  · exact e
theorem pl_wd {m k : Nat} (w : Wd) : Pl m k (.str w.s) := pl_str (by cases w <;> decide +kernel)
theorem pl_tk {m k : Nat} (s i : Int) (r : List Int) (w : Wd) (hl : r.length ≤ m) (hm : 4 ≤ m) : Pl m (k + 2) (.tup [.int s, .int i, tIs r, .str w.s]) := by
  refine ⟨hm, fun x hx => ?_⟩
  simp only [List.mem_cons, List.not_mem_nil, or_false] at hx
  rcases hx with rfl | rfl | rfl | rfl
  · exact pl_int
  · exact pl_int
  · exact pl_tIs r hl
  · exact pl_wd w
theorem pl_two {m k : Nat} {u v : D} (hu : Pl m k u) (hv : Pl m k v) (hm : 2 ≤ m) : Pl m (k + 1) (.tup [u, v]) := by
  refine ⟨hm, fun x hx => ?_⟩
  simp only [List.mem_cons, List.not_mem_nil, or_false] at hx
  rcases hx with rfl | rfl
  · exact hu
  · exact hv
theorem pl_tL {m k : Nat} (ps : List (List Int)) (hp : ∀ p ∈ ps, p.length ≤ m) (hl : ps.length ≤ m) : Pl m (k + 2) (.tup (ps.map tIs)) :=
  ⟨by rw [List.length_map]; exact hl, fun x hx => by obtain ⟨p, hp', rfl⟩ := List.mem_map.mp hx; exact pl_tIs p (hp p hp')⟩
/-- a payload, as the law cuts it out -/
theorem pyO_len (p : List Int) : (pyO p).length ≤ p.length := by
  rcases p with _ | ⟨x, _ | ⟨y, _ | ⟨z, r⟩⟩⟩
  · exact Nat.le_refl _
  · simp [pyO]
  · simp [pyO]
  · show (r.take _).length ≤ _
    rw [List.length_take]
    simp only [List.length_cons]
    omega
theorem cut_own {p : List Int} (o : octs p) (h : lenO p = some p.length) : ∃ x y : Int, L2.atI (p.map D.int) 0 = some (.int x) ∧ L2.atI (p.map D.int) 1 = some (.int y) ∧ cutI p (some 3) (some (3 + x * 256 + y)) = pyO p := by
  have b := lenO_b h o
  obtain ⟨x, y, z, r, rfl, q, e⟩ := lenO_inv h
  have h1 := o x (by simp)
  have h2 := o y (by simp)
  have h3 := moreN_ge (x * 256 + y)
  simp only [List.length_cons] at e b
  refine ⟨x, y, ix_map (x :: y :: z :: r) 0 (by simp), ix_map (x :: y :: z :: r) 1 (by simp), ?_⟩
  have := cut_lh (x :: y :: z :: r) 3 (3 + (x * 256 + y).toNat) (by omega) (by simp only [List.length_cons]; omega)
  rw [show ((3 + (x * 256 + y).toNat : Nat) : Int) = 3 + x * 256 + y by omega, show 3 + (x * 256 + y).toNat - 3 = (x * 256 + y).toNat by omega] at this
  exact this
theorem way_octs (a k c m : Int) : ∀ (i : Nat) (ps : List (List Int)), pays ps → octs (wayL a k c m i ps)
  | _, [], _ => fun _ h => by cases h
  | i, p :: r, h => octs_app (sea_octs (h p (by simp)).1 (h p (by simp)).2) (way_octs a k c m (i + 1) r (pays_tail h))
end
end K25
set_option Elab.async false
set_option linter.all false
set_option maxRecDepth 100000
set_option maxHeartbeats 1000000
namespace K25
open PySem PySem.Spec PyProof.Rows L2 Gx
section
variable {W n : Nat} {S : Sto}
/-! ### sameness of any plain values -/
def Sv (m : Nat) : Nat → D → Prop
  | _, .non => True
  | _, .bl _ => True
  | _, .int _ => True
  | _, .str x => PyData.strOk x = true
  | k + 1, .tup xs => xs.length ≤ m ∧ ∀ x ∈ xs, Sv m k x
  | _, _ => False
theorem sv_non {m k : Nat} : Sv m k .non := by cases k <;> trivial
theorem sv_bl {m k : Nat} {b : Bool} : Sv m k (.bl b) := by cases k <;> trivial
theorem sv_int {m k : Nat} {i : Int} : Sv m k (.int i) := by cases k <;> trivial
theorem sv_str {m k : Nat} {x : Str} (h : PyData.strOk x = true) : Sv m k (.str x) := by cases k <;> exact h
theorem sv_tIs {m k : Nat} (l : List Int) (h : l.length ≤ m) : Sv m (k + 1) (tIs l) :=
  ⟨by rw [List.length_map]; exact h, fun x hx => by obtain ⟨i, _, rfl⟩ := List.mem_map.mp hx; exact sv_int⟩
def sB : Nat → D → D → Bool
  | k + 1, .tup xs, .tup ys => decide (xs.length = ys.length) && (xs.zip ys).all fun p => sB k p.1 p.2
  | _, .non, .non => true
  | _, .bl a, .bl b => a == b
  | _, .int i, .int j => decide (i = j)
  | _, .str x, .str y => x == y
  | _, _, _ => false
def sOk : D → Bool
  | .str x => PyData.strOk x
  | _ => true
theorem sv_ok {m k : Nat} {v : D} (h : Sv m k v) : sOk v = true := by
  cases v with
  | str x => cases k <;> exact h
  | _ => rfl
theorem shaped_str {x : Str} (h : PyData.strOk x = true) : SeqAt.shaped (.str x) = true := by
  unfold SeqAt.shaped
  simp only [PyData.canLay0, h, PyData.depth]
  rfl
theorem eq_is {i : Int} {x : Str} (h : sOk (.str x) = true) : eqD (.int i) (.str x) = some false := by
  show eqP (.int i) (.str x) = _
  have s1 : SeqAt.shaped (.int i) = true := rfl
  simp only [eqP, toPy, s1, shaped_str h, Bool.and_self, if_true]
  rfl
theorem eq_si {i : Int} {x : Str} (h : sOk (.str x) = true) : eqD (.str x) (.int i) = some false := by
  show eqP (.str x) (.int i) = _
  have s1 : SeqAt.shaped (.int i) = true := rfl
  simp only [eqP, toPy, s1, shaped_str h, Bool.and_self, if_true]
  rfl
theorem eq_ns {x : Str} (h : sOk (.str x) = true) : eqD .non (.str x) = some false := by
  show eqP .non (.str x) = _
  have s1 : SeqAt.shaped .none = true := rfl
  simp only [eqP, toPy, s1, shaped_str h, Bool.and_self, if_true]
  rfl
theorem eq_sn {x : Str} (h : sOk (.str x) = true) : eqD (.str x) .non = some false := by
  show eqP (.str x) .non = _
  have s1 : SeqAt.shaped .none = true := rfl
  simp only [eqP, toPy, s1, shaped_str h, Bool.and_self, if_true]
  rfl
theorem eq_ni {i : Int} : eqD .non (.int i) = some false := rfl
theorem eq_in {i : Int} : eqD (.int i) .non = some false := rfl
theorem eq_nn : eqD .non .non = some true := rfl
theorem eq_bb {a b : Bool} : eqD (.bl a) (.bl b) = some (a == b) := by cases a <;> cases b <;> rfl
theorem eq_ss {a b : Str} : eqD (.str a) (.str b) = some (a == b) := rfl
theorem ty_int_int : (Ty.int == Ty.int) = true := rfl
theorem ty_int_bool : (Ty.int == Ty.bool) = false := rfl
theorem ty_int_str : (Ty.int == Ty.str) = false := rfl
theorem ty_int_tuple : (Ty.int == Ty.tuple) = false := rfl
theorem ty_int_list : (Ty.int == Ty.list) = false := rfl
theorem ty_bool_int : (Ty.bool == Ty.int) = false := rfl
theorem ty_bool_bool : (Ty.bool == Ty.bool) = true := rfl
theorem ty_bool_str : (Ty.bool == Ty.str) = false := rfl
theorem ty_bool_tuple : (Ty.bool == Ty.tuple) = false := rfl
theorem ty_bool_list : (Ty.bool == Ty.list) = false := rfl
theorem ty_str_int : (Ty.str == Ty.int) = false := rfl
theorem ty_str_bool : (Ty.str == Ty.bool) = false := rfl
theorem ty_str_str : (Ty.str == Ty.str) = true := rfl
theorem ty_str_tuple : (Ty.str == Ty.tuple) = false := rfl
theorem ty_str_list : (Ty.str == Ty.list) = false := rfl
theorem ty_tuple_int : (Ty.tuple == Ty.int) = false := rfl
theorem ty_tuple_bool : (Ty.tuple == Ty.bool) = false := rfl
theorem ty_tuple_str : (Ty.tuple == Ty.str) = false := rfl
theorem ty_tuple_tuple : (Ty.tuple == Ty.tuple) = true := rfl
theorem ty_tuple_list : (Ty.tuple == Ty.list) = false := rfl
theorem ty_list_int : (Ty.list == Ty.int) = false := rfl
theorem ty_list_bool : (Ty.list == Ty.bool) = false := rfl
theorem ty_list_str : (Ty.list == Ty.str) = false := rfl
theorem ty_list_tuple : (Ty.list == Ty.tuple) = false := rfl
theorem ty_list_list : (Ty.list == Ty.list) = true := rfl
theorem compL_fm {f : D → Sto → Gx.R (Option D)} {g : D → Option D} {S : Sto} : ∀ (l : List D), (∀ d ∈ l, f d S = .ok (g d) S) → compL f l S = .ok (l.filterMap g) S
  | [], _ => rfl
  | d :: r, h => by
    show ((f d S).bind fun o S1 => _) = _
    rw [h d (by simp)]
    show ((compL f r S).bind fun ys S2 => _) = _
    rw [compL_fm r fun x hx => h x (List.mem_cons_of_mem _ hx), List.filterMap_cons]
    cases g d <;> rfl
def gP (k : Nat) : D → Bool
  | .tup [a, b] => sB k a b
  | _ => false
def hP (k : Nat) (d : D) : Option D := if gP k d then none else some (.int 1)
theorem fm_all (k : Nat) : ∀ l : List D, (l.filterMap (hP k)).isEmpty = l.all (gP k)
  | [] => rfl
  | d :: r => by
    rw [List.filterMap_cons]
    unfold hP
    cases h : gP k d with
    | true => simp only [if_true, List.all_cons, h, Bool.true_and]; exact fm_all k r
    | false => simp [h]
theorem fm_ints (k : Nat) (l : List D) : ∀ x ∈ l.filterMap (hP k), x = .int 1 := fun x hx => by
  obtain ⟨d, _, e⟩ := List.mem_filterMap.mp hx
  unfold hP at e
  split at e
  · cases e
  · exact (Option.some.inj e).symm
theorem pairs_all (k : Nat) (xs ys : List D) : (pairsD xs ys).all (gP k) = (xs.zip ys).all fun p => sB k p.1 p.2 := by
  unfold pairsD
  rw [List.all_map]
  rfl
theorem pairs_mem {xs ys : List D} {d : D} (h : d ∈ pairsD xs ys) : ∃ x y, x ∈ xs ∧ y ∈ ys ∧ d = .tup [x, y] := by
  unfold pairsD at h
  obtain ⟨⟨x, y⟩, hm, rfl⟩ := List.mem_map.mp h
  obtain ⟨m1, m2⟩ := List.of_mem_zip hm
  exact ⟨x, y, m1, m2, rfl⟩
theorem pairs_len (xs ys : List D) : (pairsD xs ys).length ≤ xs.length := by
  unfold pairsD
  rw [List.length_map, List.length_zip]
  exact Nat.min_le_left _ _
theorem law_sameB {m : Nat} (hm : m ≤ 16777216) : ∀ (k n : Nat) (u v : D) (S : Sto), Sv m k u → Sv m k v → k < n → C T.prg W n 42 [u, v] S = .ok (.bl (sB k u v)) S := by
  intro k
  induction k with
  | zero =>
    intro n u v S hu hv hn
    have hu' := sv_ok hu
    have hv' := sv_ok hv
    obtain ⟨n, rfl⟩ : ∃ j, n = j + 1 := ⟨n - 1, by omega⟩
    rw [call_eq (d := ⟨2, 4, false, c_law_same⟩) rfl rfl]
    cases u <;> first | exact (show False from hu).elim | skip
    all_goals (cases v <;> first | exact (show False from hv).elim | skip)
    all_goals simp [c_law_same, ends, leave, exSs, exS, evE, evEs, evT, isiD, der, truD, cmpD, eq_nn, eq_ni, eq_in, eq_bb, eq_ss, eqD_int, sB, eq_ns, eq_sn, eq_is, eq_si, hu', hv']
  | succ k ih =>
    intro n u v S hu hv hn
    have hu' := sv_ok hu
    have hv' := sv_ok hv
    obtain ⟨n, rfl⟩ : ∃ j, n = j + 1 := ⟨n - 1, by omega⟩
    rw [call_eq (d := ⟨2, 4, false, c_law_same⟩) rfl rfl]
    cases u <;> first | exact (show False from hu).elim | skip
    all_goals (cases v <;> first | exact (show False from hv).elim | skip)
    case tup.tup xs ys =>
      have e1 : compL (cF (Oc T.prg W n) [2, 3] (.tp (.cons (.nm 2) (.cons (.nm 3) .nil))) (.som (.not (.tru (.call 42 "_law_same" (.cons (.var 2) (.cons (.var 3) .nil)))))) (.cst (.int 1)) [some (.tup xs), some (.tup ys), none, none]) (pairsD xs ys) S = .ok ((pairsD xs ys).filterMap (hP k)) S := compL_fm _ fun d hd => by
        obtain ⟨x, y, hx, hy, rfl⟩ := pairs_mem hd
        have e := ih n x y S (hu.2 x hx) (hv.2 y hy) (by omega)
        have tg : evTg (Oc T.prg W n) (.tp (.cons (.nm 2) (.cons (.nm 3) .nil))) (.tup [x, y]) (wipeE [some (.tup xs), some (.tup ys), none, none] [2, 3]) S = .ok [some (.tup xs), some (.tup ys), some x, some y] S := tg2 (by simp [wipeE]) (by simp [wipeE])
        refine (cF_if tg (t_not (t_tru ((ev_call2 (ev_var (i := 2) rfl) (ev_var (i := 3) rfl)).trans e))) (ev_cst (c := .int 1))).trans ?_
        show R.ok (if (!sB k x y) = true then some (D.int 1) else none) S = R.ok (if sB k x y = true then none else some (D.int 1)) S
        cases sB k x y <;> rfl
      have e2 := ev_comp (O := Oc T.prg W n) (ρ := [some (.tup xs), some (.tup ys), none, none]) (it := .zip (.var 0) (.var 1)) (S := S) (l := pairsD xs ys) (S1 := S) (by simp [evI, evE]) (Nat.le_trans (pairs_len xs ys) (Nat.le_trans hu.1 hm)) e1
      have e3 : eqD (.lst ((pairsD xs ys).filterMap (hP k))) (.lst []) = some ((pairsD xs ys).all (gP k)) := by
        rw [← fm_all]
        exact eq_nilL (m := m) (k := 1) ⟨Nat.le_trans (List.length_filterMap_le _ _) (Nat.le_trans (pairs_len xs ys) hu.1), fun x hx => by rw [fm_ints k _ x hx]; exact pl_int⟩ (by omega)
      rw [pairs_all] at e3
      have ed : decide ((xs.length : Int) = ys.length) = decide (xs.length = ys.length) := by
        by_cases h : xs.length = ys.length
        · rw [decide_eq_true h, decide_eq_true (by omega)]
        · rw [decide_eq_false h, decide_eq_false (by omega)]
      by_cases hl : xs.length = ys.length
      · simp [c_law_same, ends, leave, exSs, exS, evE, evEs, evT, isiD, der, truD, cmpD, biD, eqD_int, e2, e3, ev_nil, sB, hl]
      · have hl2 : ¬ ((xs.length : Int) = ys.length) := by omega
        simp [c_law_same, ends, leave, exSs, exS, evE, evEs, evT, isiD, der, truD, cmpD, biD, eqD_int, sB, hl, hl2]
    all_goals simp [c_law_same, ends, leave, exSs, exS, evE, evEs, evT, isiD, der, truD, cmpD, eq_nn, eq_ni, eq_in, eq_bb, eq_ss, eqD_int, sB, eq_ns, eq_sn, eq_is, eq_si, hu', hv']
theorem is_sameB {m : Nat} (hm : m ≤ 16777216) : ∀ (k n : Nat) (u v : D) (S : Sto), Sv m k u → Sv m k v → k < n → C T.prg W n 3 [u, v] S = .ok (.bl (sB k u v)) S := by
  intro k
  induction k with
  | zero =>
    intro n u v S hu hv hn
    have hu' := sv_ok hu
    have hv' := sv_ok hv
    obtain ⟨n, rfl⟩ : ∃ j, n = j + 1 := ⟨n - 1, by omega⟩
    rw [call_eq (d := ⟨2, 4, false, c_is_same⟩) rfl rfl]
    cases u <;> first | exact (show False from hu).elim | skip
    all_goals (cases v <;> first | exact (show False from hv).elim | skip)
    all_goals simp [c_is_same, Cst.d, ty_int_int, ty_int_bool, ty_int_str, ty_int_tuple, ty_int_list, ty_bool_int, ty_bool_bool, ty_bool_str, ty_bool_tuple, ty_bool_list, ty_str_int, ty_str_bool, ty_str_str, ty_str_tuple, ty_str_list, ty_tuple_int, ty_tuple_bool, ty_tuple_str, ty_tuple_tuple, ty_tuple_list, ty_list_int, ty_list_bool, ty_list_str, ty_list_tuple, ty_list_list, ends, leave, exSs, exS, evE, evEs, evT, isiD, isD, der, truD, cmpD, eq_nn, eq_ni, eq_in, eq_bb, eq_ss, eqD_int, sB, eq_ns, eq_sn, eq_is, eq_si, hu', hv']
  | succ k ih =>
    intro n u v S hu hv hn
    have hu' := sv_ok hu
    have hv' := sv_ok hv
    obtain ⟨n, rfl⟩ : ∃ j, n = j + 1 := ⟨n - 1, by omega⟩
    rw [call_eq (d := ⟨2, 4, false, c_is_same⟩) rfl rfl]
    cases u <;> first | exact (show False from hu).elim | skip
    all_goals (cases v <;> first | exact (show False from hv).elim | skip)
    case tup.tup xs ys =>
      have e1 : compL (cF (Oc T.prg W n) [2, 3] (.tp (.cons (.nm 2) (.cons (.nm 3) .nil))) .non (.call 3 "is_same" (.cons (.var 2) (.cons (.var 3) .nil))) [some (.tup xs), some (.tup ys), none, none]) (pairsD xs ys) S = .ok ((pairsD xs ys).map fun d => .bl (gP k d)) S := compL_map _ fun d hd => by
        obtain ⟨x, y, hx, hy, rfl⟩ := pairs_mem hd
        have e := ih n x y S (hu.2 x hx) (hv.2 y hy) (by omega)
        have tg : evTg (Oc T.prg W n) (.tp (.cons (.nm 2) (.cons (.nm 3) .nil))) (.tup [x, y]) (wipeE [some (.tup xs), some (.tup ys), none, none] [2, 3]) S = .ok [some (.tup xs), some (.tup ys), some x, some y] S := tg2 (by simp [wipeE]) (by simp [wipeE])
        exact cF_eq tg ((ev_call2 (ev_var (i := 2) rfl) (ev_var (i := 3) rfl)).trans e)
      have e2 := ev_comp (O := Oc T.prg W n) (ρ := [some (.tup xs), some (.tup ys), none, none]) (it := .zip (.var 0) (.var 1)) (S := S) (l := pairsD xs ys) (S1 := S) (by simp [evI, evE]) (Nat.le_trans (pairs_len xs ys) (Nat.le_trans hu.1 hm)) e1
      have e3 := all_map (gP k) (pairsD xs ys)
      rw [pairs_all] at e3
      have ea : evE (Oc T.prg W n) (.bi .all (.cons (.fl (.comp [2, 3] (.tp (.cons (.nm 2) (.cons (.nm 3) .nil))) (.zip (.var 0) (.var 1)) .non (.call 3 "is_same" (.cons (.var 2) (.cons (.var 3) .nil))))) .nil)) [some (.tup xs), some (.tup ys), none, none] S = .ok (.bl ((xs.zip ys).all fun p => sB k p.1 p.2)) S := ev_bi1 (ev_fl e2) e3
      have t0 : evT (Oc T.prg W n) (.tru (.isi (.var 1) [.tuple])) [some (.tup xs), some (.tup ys), none, none] S = .ok true S := by simp [evT, evE, isiD, der, truD]
      have t1 : evT (Oc T.prg W n) (.not (.tru (.isi (.var 0) [.tuple]))) [some (.tup xs), some (.tup ys), none, none] S = .ok false S := by simp [evT, evE, isiD, der, truD]
      have t2 : evT (Oc T.prg W n) (.cmp .NotEq (.bi .len (.cons (.var 0) .nil)) (.bi .len (.cons (.var 1) .nil))) [some (.tup xs), some (.tup ys), none, none] S = .ok (!decide ((xs.length : Int) = ys.length)) S := t_ne (va := .int xs.length) (vb := .int ys.length) (S1 := S) (ev_len (ev_var (i := 0) rfl)) (ev_len (ev_var (i := 1) rfl)) (eqD_int _ _)
      show ends false S.length (exSs T.prg.sub (Oc T.prg W n) c_is_same [some (.tup xs), some (.tup ys), none, none] S) = _
      unfold c_is_same
      show _ = R.ok (D.bl (decide (xs.length = ys.length) && (xs.zip ys).all fun p => sB k p.1 p.2)) S
      by_cases hl : xs.length = ys.length
      · rw [ss_rt (s_then t0 ((ss_nx (s_skip ((t_or t1).trans (t2.trans (by rw [decide_eq_true (by omega)]; rfl))))).trans (s_ret ea))), decide_eq_true hl, Bool.true_and]
        exact ends_rt
      · rw [ss_rt (s_then t0 (ss_rt (s_then ((t_or t1).trans (t2.trans (by rw [decide_eq_false (by omega)]; rfl))) (s_ret (ev_cst (c := .bl false)))))), decide_eq_false hl, Bool.false_and]
        exact ends_rt
    all_goals simp [c_is_same, Cst.d, ty_int_int, ty_int_bool, ty_int_str, ty_int_tuple, ty_int_list, ty_bool_int, ty_bool_bool, ty_bool_str, ty_bool_tuple, ty_bool_list, ty_str_int, ty_str_bool, ty_str_str, ty_str_tuple, ty_str_list, ty_tuple_int, ty_tuple_bool, ty_tuple_str, ty_tuple_tuple, ty_tuple_list, ty_list_int, ty_list_bool, ty_list_str, ty_list_tuple, ty_list_list, ends, leave, exSs, exS, evE, evEs, evT, isiD, isD, der, truD, cmpD, eq_nn, eq_ni, eq_in, eq_bb, eq_ss, eqD_int, sB, eq_ns, eq_sn, eq_is, eq_si, hu', hv']
theorem law_same_lst (xs ys : List D) (hn : 1 ≤ n) : C T.prg W n 42 [.lst xs, .tup ys] S = .ok (.bl false) S := by
  obtain ⟨n, rfl⟩ : ∃ j, n = j + 1 := ⟨n - 1, by omega⟩
  rw [call_eq (d := ⟨2, 4, false, c_law_same⟩) rfl rfl]
  simp [c_law_same, ends, leave, exSs, exS, evE, evEs, evT, isiD, der, truD, cmpD]
theorem is_same_lst (xs ys : List D) (hn : 1 ≤ n) : C T.prg W n 3 [.lst xs, .tup ys] S = .ok (.bl false) S := by
  obtain ⟨n, rfl⟩ : ∃ j, n = j + 1 := ⟨n - 1, by omega⟩
  rw [call_eq (d := ⟨2, 4, false, c_is_same⟩) rfl rfl]
  simp [c_is_same, Cst.d, ty_int_int, ty_int_bool, ty_int_str, ty_int_tuple, ty_int_list, ty_bool_int, ty_bool_bool, ty_bool_str, ty_bool_tuple, ty_bool_list, ty_str_int, ty_str_bool, ty_str_str, ty_str_tuple, ty_str_list, ty_tuple_int, ty_tuple_bool, ty_tuple_str, ty_tuple_tuple, ty_tuple_list, ty_list_int, ty_list_bool, ty_list_str, ty_list_tuple, ty_list_list, ends, leave, exSs, exS, evE, evEs, evT, isiD, der, truD, cmpD]
end
end K25
set_option Elab.async false
set_option linter.all false
set_option maxRecDepth 100000
set_option maxHeartbeats 1000000
namespace K25
open PySem PySem.Spec PyProof.Rows L2 Gx
section
variable {W n : Nat} {S : Sto}
theorem need_payloads (ps : List (List Int)) (hp : pays ps) (hl : ps.length ≤ 60) (hn : 3 ≤ n) : C T.prg W n 15 [.tup (ps.map tIs)] S = .ok .non S := by
  obtain ⟨n, rfl⟩ : ∃ m, n = m + 1 := ⟨n - 1, by omega⟩
  rw [call_eq (d := ⟨1, 2, false, c_need_payloads⟩) rfl rfl]
  show ends false S.length (exSs T.prg.sub (Oc T.prg W n) c_need_payloads [some (.tup (ps.map tIs)), none] S) = _
  unfold c_need_payloads
  have e1 : C T.prg W n 1 [.tup (ps.map tIs), .int 0, .int 60] S = .ok (.bl true) S := by
    rw [is_tuple_of _ 0 60 (by omega), List.length_map, decide_eq_true (by omega), decide_eq_true (by omega)]
    rfl
  have e2 : compL (cF (Oc T.prg W n) [1] (.nm 1) .non (.call 2 "fits_octets" (.cons (.var 1) (.cons (.cst (.int 0)) (.cons (.glob "PAYLOAD_sealing" (.int 300)) .nil)))) [some (.tup (ps.map tIs)), none]) (ps.map tIs) S = .ok ((ps.map tIs).map fun _ => D.bl true) S := compL_map _ fun d hd => by
    obtain ⟨p, hp', rfl⟩ := List.mem_map.mp hd
    have tg : evTg (Oc T.prg W n) (.nm 1) (tIs p) (wipeE [some (.tup (ps.map tIs)), none] [1]) S = .ok [some (.tup (ps.map tIs)), some (tIs p)] S := tg_nm (by simp [wipeE])
    exact cF_eq tg ((ev_callN3 (ev_var rfl) (ev_cst (c := .int 0)) ev_glob).trans (fits_octets p 0 300 (hp p hp').1 (by omega) (by have := (hp p hp').2; omega) (by have := (hp p hp').2; omega) (by omega)))
  rw [ss_nx (s_skip ((t_or (t_ntru ((ev_callN3 (ev_var rfl) (ev_cst (c := .int 0)) ev_glob).trans e1))).trans (t_ntru (ev_bi1 (b := .all) (ev_fl (ev_comp (l := ps.map tIs) (ei_seq (ev_var rfl) rfl) (by rw [List.length_map]; simp only [sz]; omega) e2)) (all_map_true (ps.map tIs))))))]
  rw [exSs_nil]
  exact ends_nx
/-! ### outcomes -/
def wdC (c : Int) (x : Str) : Str := if c = 0 then "unchecked" else x
def outL (c m : Int) (pp : List (List Int)) (w : Wd) (tot : Nat) : Nat → List (List Int) → D
  | _, [] => .tup [.str "beginning", .int tot, .str w.s]
  | i, own :: r => match pp[i]? with
    | none => .tup [.str (wdC c "chance"), .int i, tIs own]
    | some p => if own = plainL p then outL c m pp w tot (i + 1) r else .tup [.str (wdC c (if chkL c m i (plainL p) = chkL c m i own then "twin" else "chance")), .int i, tIs own]
theorem ev_pay {O : Orc} {ρ : Gx.Env} {v x : Nat} {pp : List (List Int)} {i : Nat} {p : List Int} (h1 : ρ[v]? = some (some (.tup (pp.map tIs)))) (h2 : ρ[x]? = some (some (.int (i : Int)))) (h : pp[i]? = some p) : evE O (.ix (.var v) (.var x)) ρ S = .ok (tIs p) S := by
  obtain ⟨hi, hp⟩ := List.getElem?_eq_some_iff.mp h
  have hi2 : i < (pp.map tIs).length := by rw [List.length_map]; exact hi
  have e : (pp.map tIs)[i] = tIs p := by rw [List.getElem_map, hp]
  refine ev_ix (va := .tup (pp.map tIs)) (vb := .int i) (S1 := S) (ev_var h1) (ev_var h2) ?_
  show L2.atI (pp.map tIs) (i : Int) = _
  rw [atI_nat hi2, e]
theorem t_ge {O : Orc} {ρ : Gx.Env} {a b : CE} {S1 S2 : Sto} {i j : Int} (ha : evE O a ρ S = .ok (.int i) S1) (hb : evE O b ρ S1 = .ok (.int j) S2) : evT O (.cmp .GtE a b) ρ S = .ok (decide (i ≥ j)) S2 := t_cmp (op := .GtE) ha hb rfl
theorem ev_lenL {O : Orc} {ρ : Gx.Env} {v : Nat} {pp : List (List Int)} (h : ρ[v]? = some (some (.tup (pp.map tIs)))) : evE O (.bi .len (.cons (.var v) .nil)) ρ S = .ok (.int pp.length) S := (ev_len (ev_var h)).trans (by rw [List.length_map])
theorem eq_tI2 (a b : List Int) : cmpD .Eq (tIs a) (tIs b) = some (decide (a = b)) := eq_tIs a b
theorem sort_of (a k c m : Int) (h : setOk a k c m) (pp : List (List Int)) (hp : pays pp) (i : Nat) (own : List Int) (lo : own.length ≤ 312) (hn : 3 ≤ n) : C T.prg W n 20 [setD a k c m, .tup (pp.map tIs), .int i, tIs own] S = .ok (.str (wdC c (match pp[i]? with | none => "chance" | some p => if chkL c m i (plainL p) = chkL c m i own then "twin" else "chance"))) S := by
  obtain ⟨n, rfl⟩ : ∃ m, n = m + 1 := ⟨n - 1, by omega⟩
  rw [call_eq (d := ⟨4, 5, false, c_sort_of⟩) rfl rfl]
  show ends false S.length (exSs T.prg.sub (Oc T.prg W n) c_sort_of [some (setD a k c m), some (.tup (pp.map tIs)), some (.int i), some (tIs own), none] S) = _
  unfold c_sort_of wdC
  have t0 := t_eqI (O := Oc T.prg W n) (ρ := [some (setD a k c m), some (.tup (pp.map tIs)), some (.int i), some (tIs own), none]) (S := S) (S1 := S) (S2 := S) (i := c) (j := 0) (ev_six (i := 0) rfl (set_at2 a k c m)) (ev_cst (c := .int 0))
  by_cases hc : c = 0
  · rw [if_pos hc, ss_rt (s_then (t0.trans (by rw [decide_eq_true hc])) (s_ret (ev_cst (c := .str "unchecked"))))]
    exact ends_rt
  rw [if_neg hc, ss_nx (s_skip (t0.trans (by rw [decide_eq_false hc])))]
  have t1 := t_ge (O := Oc T.prg W n) (ρ := [some (setD a k c m), some (.tup (pp.map tIs)), some (.int i), some (tIs own), none]) (S := S) (S1 := S) (S2 := S) (i := (i : Int)) (j := (pp.length : Int)) (ev_var (i := 2) rfl) (ev_lenL (v := 1) rfl)
  cases hq : pp[i]? with
  | none =>
    have hi := List.getElem?_eq_none_iff.mp hq
    rw [ss_rt (s_then (t1.trans (by rw [decide_eq_true (by omega)])) (s_ret (ev_cst (c := .str "chance"))))]
    exact ends_rt
  | some p =>
    obtain ⟨hi, hpe⟩ := List.getElem?_eq_some_iff.mp hq
    have pm : p ∈ pp := by rw [← hpe]; exact List.getElem_mem hi
    have lp := plain_small (hp p pm).2
    rw [ss_nx (s_skip (t1.trans (by rw [decide_eq_false (by omega)])))]
    rw [ss_nx (s_asg (d := tIs (chkL c m i (plainL p))) (S1 := S) ((ev_callN3 (ev_var (i := 0) rfl) (ev_var (i := 2) rfl) ((ev_call1 (ev_pay (v := 1) (x := 2) rfl rfl hq)).trans (plain_in p (by have := (hp p pm).2; omega) (by omega)))).trans (check_in a k c m i (plainL p) h (by omega) (by omega) (by omega))) (by simp))]
    show ends false S.length (exSs T.prg.sub (Oc T.prg W n) _ [some (setD a k c m), some (.tup (pp.map tIs)), some (.int i), some (tIs own), some (tIs (chkL c m i (plainL p)))] S) = _
    have t2 := t_cmp (O := Oc T.prg W n) (ρ := [some (setD a k c m), some (.tup (pp.map tIs)), some (.int i), some (tIs own), some (tIs (chkL c m i (plainL p)))]) (S := S) (op := .Eq) (va := tIs (chkL c m i (plainL p))) (vb := tIs (chkL c m i own)) (S1 := S) (S2 := S) (ev_var (i := 4) rfl) ((ev_callN3 (f := 14) (x := "check_in") (ev_var (i := 0) rfl) (ev_var (i := 2) rfl) (ev_var (i := 3) rfl)).trans (check_in a k c m i own h (by omega) (by omega) (by omega))) (eq_tI2 _ _)
    by_cases he : chkL c m i (plainL p) = chkL c m i own
    · show _ = R.ok (D.str (if chkL c m i (plainL p) = chkL c m i own then "twin" else "chance")) S
      rw [if_pos he, s_ret (d := .str "twin") ((ev_ife (t2.trans (by rw [decide_eq_true he]))).trans ((if_pos rfl).trans (ev_cst (c := .str "twin"))))]
      exact ends_rt
    · show _ = R.ok (D.str (if chkL c m i (plainL p) = chkL c m i own then "twin" else "chance")) S
      rw [if_neg he, s_ret (d := .str "chance") ((ev_ife (t2.trans (by rw [decide_eq_false he]))).trans ((if_neg Bool.false_ne_true).trans (ev_cst (c := .str "chance"))))]
      exact ends_rt
theorem forL_rt {f : D → Gx.Env → Sto → Gx.R Out} {d v : D} {r : List D} {ρ : Gx.Env} {S S1 : Sto} (h : f d ρ S = .ok (.rt v) S1) : forL f (d :: r) ρ S = .ok (.rt v) S1 := by
  simp only [forL, h, bind_ok', turn]
theorem forL_trt {O : Orc} {sub : Str → Str → Option Bool} {ρ ρ2 : Gx.Env} {S S1 S2 : Sto} {tg : CTg} {b : CSs} {d v : D} (h1 : evTg O tg d ρ S = .ok ρ2 S1) (h2 : exSs sub O b ρ2 S1 = .ok (.rt v) S2) : ((evTg O tg d ρ S).bind fun ρ2 S3 => exSs sub O b ρ2 S3) = .ok (.rt v) S2 := by
  simp only [h1, bind_ok', h2]
def outOk (ps : List (List Int)) : Prop := ∀ p ∈ ps, octs p ∧ p.length ≤ 312
theorem out_loop (a k c m : Int) (h : setOk a k c m) (pp : List (List Int)) (hp : pays pp) (w : Wd) (tot : Nat) (w2 w3 w4 : Option D) (hn : 4 ≤ n) : ∀ (qs : List (List Int)) (i : Nat) (x5 x6 : Option D), outOk qs →
    (∃ y5 y6, forL (fun d ρ1 S2 => (evTg (Oc T.prg W n) (.tp (.cons (.nm 5) (.cons (.nm 6) .nil))) d ρ1 S2).bind fun ρ2 S3 => exSs T.prg.sub (Oc T.prg W n) c_outcome_in_b1 ρ2 S3) (enumD i (qs.map tIs)) [some (setD a k c m), some (.tup (pp.map tIs)), w2, w3, w4, x5, x6] S = .ok (.nx [some (setD a k c m), some (.tup (pp.map tIs)), w2, w3, w4, y5, y6]) S ∧ outL c m pp w tot i qs = .tup [.str "beginning", .int tot, .str w.s])
    ∨ forL (fun d ρ1 S2 => (evTg (Oc T.prg W n) (.tp (.cons (.nm 5) (.cons (.nm 6) .nil))) d ρ1 S2).bind fun ρ2 S3 => exSs T.prg.sub (Oc T.prg W n) c_outcome_in_b1 ρ2 S3) (enumD i (qs.map tIs)) [some (setD a k c m), some (.tup (pp.map tIs)), w2, w3, w4, x5, x6] S = .ok (.rt (outL c m pp w tot i qs)) S
  | [], i, x5, x6, _ => .inl ⟨x5, x6, rfl, rfl⟩
  | own :: qs, i, x5, x6, hq => by
    have ho := hq own (by simp)
    have es := sort_of (W := W) (n := n) (S := S) a k c m h pp hp i own ho.2 (by omega)
    have t1 := t_ge (O := Oc T.prg W n) (ρ := [some (setD a k c m), some (.tup (pp.map tIs)), w2, w3, w4, some (.int i), some (tIs own)]) (S := S) (S1 := S) (S2 := S) (i := (i : Int)) (j := (pp.length : Int)) (ev_var (i := 5) rfl) (ev_lenL (v := 1) rfl)
    have tg : evTg (Oc T.prg W n) (.tp (.cons (.nm 5) (.cons (.nm 6) .nil))) (.tup [.int (i : Int), tIs own]) [some (setD a k c m), some (.tup (pp.map tIs)), w2, w3, w4, x5, x6] S = .ok [some (setD a k c m), some (.tup (pp.map tIs)), w2, w3, w4, some (.int i), some (tIs own)] S := tg2 (by simp) (by simp)
    have out : ∀ v : D, evT (Oc T.prg W n) (.or (.cmp .GtE (.var 5) (.bi .len (.cons (.var 1) .nil))) (.cmp .NotEq (.var 6) (.call 7 "plain_in" (.cons (.ix (.var 1) (.var 5)) .nil)))) [some (setD a k c m), some (.tup (pp.map tIs)), w2, w3, w4, some (.int i), some (tIs own)] S = .ok true S → C T.prg W n 20 [setD a k c m, .tup (pp.map tIs), .int i, tIs own] S = .ok v S → forL (fun d ρ1 S2 => (evTg (Oc T.prg W n) (.tp (.cons (.nm 5) (.cons (.nm 6) .nil))) d ρ1 S2).bind fun ρ2 S3 => exSs T.prg.sub (Oc T.prg W n) c_outcome_in_b1 ρ2 S3) (enumD i ((own :: qs).map tIs)) [some (setD a k c m), some (.tup (pp.map tIs)), w2, w3, w4, x5, x6] S = .ok (.rt (.tup [v, .int i, tIs own])) S := fun v ht he => by
      refine forL_rt (forL_trt tg ?_)
      unfold c_outcome_in_b1
      exact ss_rt (s_then ht (s_ret (ev_tup (evs_cons ((ev_callN (evs_cons (ev_var (i := 0) rfl) (evs_cons (ev_var (i := 1) rfl) (evs_cons (ev_var (i := 5) rfl) (evs_cons (ev_var (i := 6) rfl) evs_nil))))).trans he) (evs_cons (ev_var (i := 5) rfl) (evs_cons (ev_var (i := 6) rfl) evs_nil))) (by simp [sz]))))
    cases hqi : pp[i]? with
    | none =>
      have hi := List.getElem?_eq_none_iff.mp hqi
      right
      rw [hqi] at es
      have := out _ (t_or_t (t1.trans (by rw [decide_eq_true (by omega)]))) es
      rw [this]
      unfold outL
      rw [hqi]
    | some p =>
      obtain ⟨hi, hpe⟩ := List.getElem?_eq_some_iff.mp hqi
      have pm : p ∈ pp := by rw [← hpe]; exact List.getElem_mem hi
      have t2 := t_neT2 (O := Oc T.prg W n) (ρ := [some (setD a k c m), some (.tup (pp.map tIs)), w2, w3, w4, some (.int i), some (tIs own)]) (S := S) (S1 := S) (S2 := S) (l := own) (k := plainL p) (ev_var (i := 6) rfl) ((ev_call1 (f := 7) (x := "plain_in") (ev_pay (v := 1) (x := 5) rfl rfl hqi)).trans (plain_in p (by have := (hp p pm).2; omega) (by omega)))
      have t1f := t_or (u := .cmp .NotEq (.var 6) (.call 7 "plain_in" (.cons (.ix (.var 1) (.var 5)) .nil))) (t1.trans (by rw [decide_eq_false (by omega)]))
      by_cases he : own = plainL p
      · have eo : outL c m pp w tot i (own :: qs) = outL c m pp w tot (i + 1) qs := by
          rw [outL, hqi]
          exact if_pos he
        rw [eo]
        have bd : exSs T.prg.sub (Oc T.prg W n) c_outcome_in_b1 [some (setD a k c m), some (.tup (pp.map tIs)), w2, w3, w4, some (.int i), some (tIs own)] S = .ok (.nx [some (setD a k c m), some (.tup (pp.map tIs)), w2, w3, w4, some (.int i), some (tIs own)]) S := by
          unfold c_outcome_in_b1
          rw [ss_nx (s_skip (t1f.trans (t2.trans (by rw [decide_eq_true he]; rfl))))]
          exact exSs_nil
        have ih := out_loop a k c m h pp hp w tot w2 w3 w4 hn qs (i + 1) (some (.int i)) (some (tIs own)) fun q hq' => hq q (List.mem_cons_of_mem _ hq')
        rcases ih with ⟨y5, y6, e, e2⟩ | e
        · exact .inl ⟨y5, y6, forL_cons (forL_turn tg bd) e, e2⟩
        · exact .inr (forL_cons (forL_turn tg bd) e)
      · right
        rw [hqi] at es
        have := out _ (t1f.trans (t2.trans (by rw [decide_eq_false he]; rfl))) es
        rw [this, outL, hqi]
        show _ = R.ok (Out.rt (if own = plainL p then _ else _)) S
        rw [if_neg he]
theorem outcome_in (a k c m : Int) (h : setOk a k c m) (pp : List (List Int)) (hp : pays pp) (o : List Int) (oo : octs o) (hl : o.length ≤ 20000) {t : Tk} {ps : List (List Int)} (u : Tak a k c m ⟨0, 0, o, .no⟩ t ps) (hS : shut S = true) (hW : 10 ≤ W) (hW2 : ps.length < W) (hn : 6 ≤ n) : C T.prg W n 21 [setD a k c m, .tup (pp.map tIs), tIs o] S = .ok (outL c m pp t.word ps.length 0 ps) S := by
  obtain ⟨n, rfl⟩ : ∃ m, n = m + 1 := ⟨n - 1, by omega⟩
  rw [call_eq (d := ⟨3, 7, false, c_outcome_in⟩) rfl rfl]
  show ends false S.length (exSs T.prg.sub (Oc T.prg W n) c_outcome_in [some (setD a k c m), some (.tup (pp.map tIs)), some (tIs o), none, none, none, none] S) = _
  unfold c_outcome_in
  obtain ⟨_, _, _, tp⟩ := tak_ok u ⟨Nat.zero_le _, oo⟩
  have fd := fed_in (W := W) (n := n) (S := S) ⟨0, 0, [], .no⟩ o (by show 0 + o.length ≤ _; omega) (by omega)
  have fd : C T.prg W n 16 [(⟨0, 0, [], .no⟩ : Tk).d, tIs o] S = .ok (⟨0, 0, o, .no⟩ : Tk).d S := fd
  have eg : ∀ ρ : Gx.Env, evE (Oc T.prg W n) (.glob "FRESH" (.tup [.int 0, .int 0, .tup [], .str ""])) ρ S = .ok (⟨0, 0, [], .no⟩ : Tk).d S := fun ρ => ev_glob
  rw [ss_nx (s_asgt ((ev_call2 ((ev_call2 (eg _) (ev_var (i := 2) rfl)).trans fd) (ev_var (i := 0) rfl)).trans (all_in a k c m h u ⟨Nat.zero_le _, oo⟩ (by show o.length ≤ _; omega) hS hW hW2 (by omega))) (tg2 (by simp) (by simp)))]
  show ends false S.length (exSs T.prg.sub (Oc T.prg W n) _ [some (setD a k c m), some (.tup (pp.map tIs)), some (tIs o), some t.d, some (.lst (ps.map tIs)), none, none] S) = _
  have en : evI (Oc T.prg W n) (.enum (.var 4)) [some (setD a k c m), some (.tup (pp.map tIs)), some (tIs o), some t.d, some (.lst (ps.map tIs)), none, none] S = .ok (.items (enumD 0 (ps.map tIs))) S := by
    simp only [evI, ev_var (O := Oc T.prg W n) (ρ := [some (setD a k c m), some (.tup (pp.map tIs)), some (tIs o), some t.d, some (.lst (ps.map tIs)), none, none]) (S := S) (i := 4) (d := .lst (ps.map tIs)) rfl, bind_ok']
  rcases out_loop (W := W) (n := n) (S := S) a k c m h pp hp t.word ps.length (some (tIs o)) (some t.d) (some (.lst (ps.map tIs))) (by omega) ps 0 none none (fun p hq => ⟨(tp p hq).1, (tp p hq).2.2⟩) with ⟨y5, y6, e, e2⟩ | e
  · have l4 : evE (Oc T.prg W n) (.bi .len (.cons (.var 4) .nil)) [some (setD a k c m), some (.tup (pp.map tIs)), some (tIs o), some t.d, some (.lst (ps.map tIs)), y5, y6] S = .ok (.int ps.length) S := ev_bi1 (v := .lst (ps.map tIs)) (ev_var (i := 4) rfl) (show some (D.int ((ps.map tIs).length : Nat)) = _ by rw [List.length_map])
    have l3 : evE (Oc T.prg W n) (.ix (.var 3) (.cst (.int 3))) [some (setD a k c m), some (.tup (pp.map tIs)), some (tIs o), some t.d, some (.lst (ps.map tIs)), y5, y6] S = .ok (.str t.word.s) S := ev_ix (va := t.d) (vb := .int 3) (S1 := S) (ev_var (i := 3) rfl) (ev_cst (c := .int 3)) rfl
    rw [e2, ss_nx (s_for en e), s_ret (ev_tup (evs_cons (ev_cst (c := .str "beginning")) (evs_cons l4 (evs_cons l3 evs_nil))) (by simp [sz]))]
    exact ends_rt
  · rw [ss_rt (s_for en e)]
    exact ends_rt
theorem needs (a k c m : Int) (h : setOk a k c m) (pp : List (List Int)) (hp : pays pp) (hl : pp.length ≤ 60) (o : List Int) (oo : octs o) (ho : o.length ≤ 20000) (hn : 3 ≤ n) : C T.prg W n 13 [setD a k c m] S = .ok .non S ∧ C T.prg W n 15 [.tup (pp.map tIs)] S = .ok .non S ∧ C T.prg W n 4 [tIs o] S = .ok .non S :=
  ⟨need_setting a k c m h hn, need_payloads pp hp hl hn, need_octets o oo ho hn⟩
theorem outcome_of (a k c m : Int) (h : setOk a k c m) (pp : List (List Int)) (hp : pays pp) (hpl : pp.length ≤ 60) (o : List Int) (oo : octs o) (hl : o.length ≤ 20000) {t : Tk} {ps : List (List Int)} (u : Tak a k c m ⟨0, 0, o, .no⟩ t ps) (hS : shut S = true) (hW : 10 ≤ W) (hW2 : ps.length < W) (hn : 7 ≤ n) : C T.prg W n 22 [setD a k c m, .tup (pp.map tIs), tIs o] S = .ok (outL c m pp t.word ps.length 0 ps) S := by
  obtain ⟨n, rfl⟩ : ∃ m, n = m + 1 := ⟨n - 1, by omega⟩
  rw [call_eq (d := ⟨3, 3, false, c_outcome_of⟩) rfl rfl]
  show ends false S.length (exSs T.prg.sub (Oc T.prg W n) c_outcome_of [some (setD a k c m), some (.tup (pp.map tIs)), some (tIs o)] S) = _
  unfold c_outcome_of
  obtain ⟨n1, n2, n3⟩ := needs (W := W) (n := n) (S := S) a k c m h pp hp hpl o oo hl (by omega)
  rw [ss_nx (s_exp ((ev_call1 (ev_var (i := 0) rfl)).trans n1)), ss_nx (s_exp ((ev_call1 (ev_var (i := 1) rfl)).trans n2)), ss_nx (s_exp ((ev_call1 (ev_var (i := 2) rfl)).trans n3)), s_ret ((ev_callN3 (ev_var (i := 0) rfl) (ev_var (i := 1) rfl) (ev_var (i := 2) rfl)).trans (outcome_in a k c m h pp hp o oo hl u hS hW hW2 (by omega)))]
  exact ends_rt
theorem takes_outcome (a k c m : Int) (h : setOk a k c m) (pp : List (List Int)) (hp : pays pp) (hpl : pp.length ≤ 60) (o : List Int) (oo : octs o) (hl : o.length ≤ 20000) {t : Tk} {ps : List (List Int)} (u : Tak a k c m ⟨0, 0, o, .no⟩ t ps) (hS : shut S = true) (hW : 10 ≤ W) (hW2 : ps.length < W) (hn : 7 ≤ n) (v r : D) (hv : ∀ n, 6 ≤ n → C T.prg W n 3 [v, outL c m pp t.word ps.length 0 ps] S = .ok r S) : C T.prg W n 23 [setD a k c m, .tup (pp.map tIs), tIs o, v] S = .ok r S := by
  obtain ⟨n, rfl⟩ : ∃ m, n = m + 1 := ⟨n - 1, by omega⟩
  rw [call_eq (d := ⟨4, 4, false, c_takes_outcome⟩) rfl rfl]
  show ends false S.length (exSs T.prg.sub (Oc T.prg W n) c_takes_outcome [some (setD a k c m), some (.tup (pp.map tIs)), some (tIs o), some v] S) = _
  unfold c_takes_outcome
  obtain ⟨n1, n2, n3⟩ := needs (W := W) (n := n) (S := S) a k c m h pp hp hpl o oo hl (by omega)
  rw [ss_nx (s_exp ((ev_call1 (ev_var (i := 0) rfl)).trans n1)), ss_nx (s_exp ((ev_call1 (ev_var (i := 1) rfl)).trans n2)), ss_nx (s_exp ((ev_call1 (ev_var (i := 2) rfl)).trans n3)), s_ret ((ev_call2 (ev_var (i := 3) rfl) ((ev_callN3 (ev_var (i := 0) rfl) (ev_var (i := 1) rfl) (ev_var (i := 2) rfl)).trans (outcome_in a k c m h pp hp o oo hl u hS hW hW2 (by omega)))).trans (hv n (by omega)))]
  exact ends_rt
theorem sv_out (c m : Int) (pp : List (List Int)) (w : Wd) (tot : Nat) : ∀ (qs : List (List Int)) (i : Nat), outOk qs → Sv 399 2 (outL c m pp w tot i qs) ∧ ∃ x y z, outL c m pp w tot i qs = .tup [x, y, z]
  | [], i, _ => ⟨⟨by show 3 ≤ 399; decide, fun x hx => by
      simp only [List.mem_cons, List.not_mem_nil, or_false] at hx
      rcases hx with rfl | rfl | rfl
      · exact sv_str (by decide +kernel)
      · exact sv_int
      · exact sv_str (by cases w <;> decide +kernel)⟩, _, _, _, rfl⟩
  | own :: qs, i, h => by
    have ho := h own (by simp)
    have wk : ∀ x : Str, PyData.strOk x = true → PyData.strOk (wdC c x) = true := by
      intro x hx
      unfold wdC
      by_cases hc : c = 0
      · rw [if_pos hc]; decide +kernel
      · rw [if_neg hc]; exact hx
    have tw : ∀ P : Prop, ∀ _ : Decidable P, PyData.strOk (if P then ("twin" : Str) else "chance") = true := fun P d => by split <;> decide +kernel
    have tr : ∀ x : Str, PyData.strOk x = true → Sv 399 2 (.tup [.str x, .int i, tIs own]) := fun x hx => ⟨by show 3 ≤ 399; decide, fun y hy => by
      simp only [List.mem_cons, List.not_mem_nil, or_false] at hy
      rcases hy with rfl | rfl | rfl
      · exact sv_str hx
      · exact sv_int
      · exact sv_tIs _ (by have := ho.2; omega)⟩
    rw [outL]
    cases pp[i]? with
    | none => exact ⟨tr _ (wk _ (by decide +kernel)), _, _, _, rfl⟩
    | some p =>
      show Sv 399 2 (if own = plainL p then _ else _) ∧ ∃ x y z, (if own = plainL p then _ else _) = D.tup [x, y, z]
      by_cases he : own = plainL p
      · rw [if_pos he]
        exact sv_out c m pp w tot qs (i + 1) fun q hq => h q (List.mem_cons_of_mem _ hq)
      · rw [if_neg he]
        exact ⟨tr _ (wk _ (tw _ _)), _, _, _, rfl⟩
end
end K25
set_option Elab.async false
set_option linter.all false
set_option maxRecDepth 100000
set_option maxHeartbeats 1000000
namespace K25
open PySem PySem.Spec PyProof.Rows L2 Gx
section
variable {W n : Nat} {S : Sto}
/-! ### the law's own outcome -/
theorem ev_and_f {O : Orc} {a b : CE} {ρ : Gx.Env} {S S1 : Sto} (ha : evE O a ρ S = .ok (.bl false) S1) : evE O (.andV a b) ρ S = .ok (.bl false) S1 := by
  simp [evE, ha, truD, der]
theorem lout_loop (a k c m : Int) (h : setOk a k c m) (pp : List (List Int)) (hp : pays pp) (w : Wd) (tot : Nat) (w2 w3 w4 w5 w6 : Option D) (hW : 20 ≤ W) (hn : 3 ≤ n) : ∀ (qs : List (List Int)) (i : Nat) (x7 x8 x9 : Option D), outOk qs →
    (∃ y7 y8 y9, forL (fun d ρ1 S2 => (evTg (Oc T.prg W n) (.tp (.cons (.nm 7) (.cons (.nm 8) .nil))) d ρ1 S2).bind fun ρ2 S3 => exSs T.prg.sub (Oc T.prg W n) c_law_outcome_b1 ρ2 S3) (enumD i (qs.map tIs)) [some (setD a k c m), some (.tup (pp.map tIs)), w2, w3, w4, w5, w6, x7, x8, x9] S = .ok (.nx [some (setD a k c m), some (.tup (pp.map tIs)), w2, w3, w4, w5, w6, y7, y8, y9]) S ∧ outL c m pp w tot i qs = .tup [.str "beginning", .int tot, .str w.s])
    ∨ forL (fun d ρ1 S2 => (evTg (Oc T.prg W n) (.tp (.cons (.nm 7) (.cons (.nm 8) .nil))) d ρ1 S2).bind fun ρ2 S3 => exSs T.prg.sub (Oc T.prg W n) c_law_outcome_b1 ρ2 S3) (enumD i (qs.map tIs)) [some (setD a k c m), some (.tup (pp.map tIs)), w2, w3, w4, w5, w6, x7, x8, x9] S = .ok (.rt (outL c m pp w tot i qs)) S
  | [], i, x7, x8, x9, _ => .inl ⟨x7, x8, x9, rfl, rfl⟩
  | own :: qs, i, x7, x8, x9, hq => by
    have ho := hq own (by simp)
    obtain ⟨ρ, hρ⟩ : ∃ ρ : Gx.Env, [some (setD a k c m), some (.tup (pp.map tIs)), w2, w3, w4, w5, w6, some (.int (i : Int)), some (tIs own), x9] = ρ := ⟨_, rfl⟩
    have r0 : ρ[0]? = some (some (setD a k c m)) := by rw [← hρ]; rfl
    have r1 : ρ[1]? = some (some (.tup (pp.map tIs))) := by rw [← hρ]; rfl
    have r7 : ρ[7]? = some (some (.int (i : Int))) := by rw [← hρ]; rfl
    have r8 : ρ[8]? = some (some (tIs own)) := by rw [← hρ]; rfl
    have t1 := t_ge (O := Oc T.prg W n) (ρ := ρ) (S := S) (S1 := S) (S2 := S) (i := (i : Int)) (j := (pp.length : Int)) (ev_var r7) (ev_lenL r1)
    have tg : evTg (Oc T.prg W n) (.tp (.cons (.nm 7) (.cons (.nm 8) .nil))) (.tup [.int (i : Int), tIs own]) [some (setD a k c m), some (.tup (pp.map tIs)), w2, w3, w4, w5, w6, x7, x8, x9] S = .ok ρ S := by rw [← hρ]; exact tg2 (by simp) (by simp)
    have c0 := t_eqI (O := Oc T.prg W n) (ρ := ρ) (S := S) (S1 := S) (S2 := S) (i := c) (j := 0) (ev_six r0 (set_at2 a k c m)) (ev_cst (c := .int 0))
    -- the way out, once the packet is another one
    have out : ∀ x : Str, ∀ b : Bool, (if b then ("twin" : Str) else "chance") = x → evT (Oc T.prg W n) (.or (.cmp .GtE (.var 7) (.bi .len (.cons (.var 1) .nil))) (.cmp .NotEq (.var 8) (.call 35 "_law_plain" (.cons (.ix (.var 1) (.var 7)) .nil)))) ρ S = .ok true S → evE (Oc T.prg W n) (.andV (.cmp .Lt (.var 7) (.bi .len (.cons (.var 1) .nil))) (.cmp .Eq (.call 34 "_law_check" (.cons (.var 0) (.cons (.var 7) (.cons (.call 35 "_law_plain" (.cons (.ix (.var 1) (.var 7)) .nil)) .nil)))) (.call 34 "_law_check" (.cons (.var 0) (.cons (.var 7) (.cons (.var 8) .nil)))))) ρ S = .ok (.bl b) S → forL (fun d ρ1 S2 => (evTg (Oc T.prg W n) (.tp (.cons (.nm 7) (.cons (.nm 8) .nil))) d ρ1 S2).bind fun ρ2 S3 => exSs T.prg.sub (Oc T.prg W n) c_law_outcome_b1 ρ2 S3) (enumD i ((own :: qs).map tIs)) [some (setD a k c m), some (.tup (pp.map tIs)), w2, w3, w4, w5, w6, x7, x8, x9] S = .ok (.rt (.tup [.str (wdC c x), .int i, tIs own])) S := fun x b hb ht he => by
      refine forL_rt (forL_trt tg ?_)
      unfold c_law_outcome_b1 wdC
      by_cases hc : c = 0
      · rw [if_pos hc]
        exact ss_rt (s_then ht (ss_rt (s_then (c0.trans (by rw [decide_eq_true hc])) (s_ret (ev_tup (evs_cons (ev_cst (c := .str "unchecked")) (evs_cons (ev_var r7) (evs_cons (ev_var r8) evs_nil))) (by simp [sz]))))))
      · rw [if_neg hc]
        refine ss_rt (s_then ht ((ss_nx (s_skip (c0.trans (by rw [decide_eq_false hc])))).trans ((ss_nx (s_asg he (by rw [← hρ]; simp))).trans ?_)))
        have q9 : (ρ.set 9 (some (.bl b)))[9]? = some (some (.bl b)) := by rw [← hρ]; rfl
        have q7 : (ρ.set 9 (some (.bl b)))[7]? = some (some (.int (i : Int))) := by rw [← hρ]; rfl
        have q8 : (ρ.set 9 (some (.bl b)))[8]? = some (some (tIs own)) := by rw [← hρ]; rfl
        have e9 : evE (Oc T.prg W n) (.ife (.tru (.var 9)) (.cst (.str "twin")) (.cst (.str "chance"))) (ρ.set 9 (some (.bl b))) S = .ok (.str x) S := by
          rw [ev_ife (t_tru (ev_var q9)), ← hb]
          cases b with
          | false => exact (if_neg Bool.false_ne_true).trans (ev_cst (c := .str "chance"))
          | true => exact (if_pos rfl).trans (ev_cst (c := .str "twin"))
        exact s_ret (ev_tup (evs_cons e9 (evs_cons (ev_var q7) (evs_cons (ev_var q8) evs_nil))) (by simp [sz]))
    have tl := t_lt (O := Oc T.prg W n) (ρ := ρ) (S := S) (S1 := S) (S2 := S) (i := (i : Int)) (j := (pp.length : Int)) (ev_var r7) (ev_lenL r1)
    have el := ev_cmp (O := Oc T.prg W n) (ρ := ρ) (S := S) (op := .Lt) (va := .int (i : Int)) (vb := .int pp.length) (c := decide ((i : Int) < pp.length)) (S1 := S) (S2 := S) (ev_var r7) (ev_lenL r1) rfl
    cases hqi : pp[i]? with
    | none =>
      have hi := List.getElem?_eq_none_iff.mp hqi
      right
      have := out "chance" false rfl (t_or_t (t1.trans (by rw [decide_eq_true (by omega)]))) (ev_and_f (el.trans (by rw [decide_eq_false (by omega)])))
      rw [this]
      unfold outL
      rw [hqi]
    | some p =>
      obtain ⟨hi, hpe⟩ := List.getElem?_eq_some_iff.mp hqi
      have pm : p ∈ pp := by rw [← hpe]; exact List.getElem_mem hi
      have pl := law_plain (W := W) (n := n) (S := S) p (by have := (hp p pm).2; omega) hW (by omega)
      have opl := octs_plain (hp p pm).1 (hp p pm).2
      have lpl := plain_small (hp p pm).2
      have t2 := t_neT2 (O := Oc T.prg W n) (ρ := ρ) (S := S) (S1 := S) (S2 := S) (l := own) (k := plainL p) (ev_var r8) ((ev_call1 (f := 35) (x := "_law_plain") (ev_pay r1 r7 hqi)).trans pl)
      have t1f := t_or (u := .cmp .NotEq (.var 8) (.call 35 "_law_plain" (.cons (.ix (.var 1) (.var 7)) .nil))) (t1.trans (by rw [decide_eq_false (by omega)]))
      by_cases he : own = plainL p
      · have eo : outL c m pp w tot i (own :: qs) = outL c m pp w tot (i + 1) qs := by
          rw [outL, hqi]
          exact if_pos he
        rw [eo]
        have bd : exSs T.prg.sub (Oc T.prg W n) c_law_outcome_b1 ρ S = .ok (.nx ρ) S := by
          unfold c_law_outcome_b1
          rw [ss_nx (s_skip (t1f.trans (t2.trans (by rw [decide_eq_true he]; rfl))))]
          exact exSs_nil
        have ih := lout_loop a k c m h pp hp w tot w2 w3 w4 w5 w6 hW hn qs (i + 1) (some (.int i)) (some (tIs own)) x9 fun q hq' => hq q (List.mem_cons_of_mem _ hq')
        rw [hρ] at ih
        rcases ih with ⟨y7, y8, y9, e, e2⟩ | e
        · exact .inl ⟨y7, y8, y9, forL_cons (forL_turn tg bd) e, e2⟩
        · exact .inr (forL_cons (forL_turn tg bd) e)
      · right
        have c1 := law_check (W := W) (n := n) (S := S) a k c m i (plainL p) h opl (by omega) (by omega)
        have c2 := law_check (W := W) (n := n) (S := S) a k c m i own h ho.1 (by have := ho.2; omega) (by omega)
        have ec := ev_cmp (O := Oc T.prg W n) (ρ := ρ) (S := S) (op := .Eq) (va := tIs (chkL c m i (plainL p))) (vb := tIs (chkL c m i own)) (c := decide (chkL c m i (plainL p) = chkL c m i own)) (S1 := S) (S2 := S) ((ev_callN3 (f := 34) (x := "_law_check") (ev_var r0) (ev_var r7) ((ev_call1 (f := 35) (x := "_law_plain") (ev_pay r1 r7 hqi)).trans pl)).trans c1) ((ev_callN3 (f := 34) (x := "_law_check") (ev_var r0) (ev_var r7) (ev_var r8)).trans c2) (eq_tI2 _ _)
        have := out (if chkL c m i (plainL p) = chkL c m i own then "twin" else "chance") (decide (chkL c m i (plainL p) = chkL c m i own)) (by by_cases z : chkL c m i (plainL p) = chkL c m i own <;> simp [z]) (t1f.trans (t2.trans (by rw [decide_eq_false he]; rfl))) ((ev_and_t (el.trans (by rw [decide_eq_true (by omega)]))).trans ec)
        rw [this, outL, hqi]
        show _ = R.ok (Out.rt (if own = plainL p then _ else _)) S
        rw [if_neg he]
theorem law_outcome (a k c m : Int) (h : setOk a k c m) (pp : List (List Int)) (hp : pays pp) (o : List Int) (oo : octs o) (hl : o.length ≤ 20000) {t : Tk} {ps : List (List Int)} (u : Tak a k c m ⟨0, 0, o, .no⟩ t ps) (hS : shut S = true) (hW : 20 ≤ W) (hW2 : ps.length < W) (hn : 6 ≤ n) : C T.prg W n 43 [setD a k c m, .tup (pp.map tIs), tIs o] S = .ok (outL c m pp t.word ps.length 0 ps) S := by
  obtain ⟨n, rfl⟩ : ∃ m, n = m + 1 := ⟨n - 1, by omega⟩
  rw [call_eq (d := ⟨3, 10, false, c_law_outcome⟩) rfl rfl]
  show ends false S.length (exSs T.prg.sub (Oc T.prg W n) c_law_outcome [some (setD a k c m), some (.tup (pp.map tIs)), some (tIs o), none, none, none, none, none, none, none] S) = _
  unfold c_law_outcome
  obtain ⟨_, _, _, tp⟩ := tak_ok u ⟨Nat.zero_le _, oo⟩
  rw [ss_nx (s_asgt ((ev_call2 (ev_var (i := 0) rfl) (ev_var (i := 2) rfl)).trans (law_taken (W := W) (n := n) a k c m h o oo u (by omega) hS hW hW2 (by omega))) (tg4 (a := .int t.seen) (b := .lst (ps.map tIs)) (c := tIs t.rest) (d := .str t.word.s) (by simp) (by simp) (by simp) (by simp)))]
  show ends false S.length (exSs T.prg.sub (Oc T.prg W n) _ [some (setD a k c m), some (.tup (pp.map tIs)), some (tIs o), some (.int t.seen), some (.lst (ps.map tIs)), some (tIs t.rest), some (.str t.word.s), none, none, none] S) = _
  have en : evI (Oc T.prg W n) (.enum (.var 4)) [some (setD a k c m), some (.tup (pp.map tIs)), some (tIs o), some (.int t.seen), some (.lst (ps.map tIs)), some (tIs t.rest), some (.str t.word.s), none, none, none] S = .ok (.items (enumD 0 (ps.map tIs))) S := by
    simp only [evI, ev_var (O := Oc T.prg W n) (ρ := [some (setD a k c m), some (.tup (pp.map tIs)), some (tIs o), some (.int t.seen), some (.lst (ps.map tIs)), some (tIs t.rest), some (.str t.word.s), none, none, none]) (S := S) (i := 4) (d := .lst (ps.map tIs)) rfl, bind_ok']
  rcases lout_loop (W := W) (n := n) (S := S) a k c m h pp hp t.word ps.length (some (tIs o)) (some (.int t.seen)) (some (.lst (ps.map tIs))) (some (tIs t.rest)) (some (.str t.word.s)) hW (by omega) ps 0 none none none (fun p hq => ⟨(tp p hq).1, (tp p hq).2.2⟩) with ⟨y7, y8, y9, e, e2⟩ | e
  · have l4 : evE (Oc T.prg W n) (.bi .len (.cons (.var 4) .nil)) [some (setD a k c m), some (.tup (pp.map tIs)), some (tIs o), some (.int t.seen), some (.lst (ps.map tIs)), some (tIs t.rest), some (.str t.word.s), y7, y8, y9] S = .ok (.int ps.length) S := ev_bi1 (v := .lst (ps.map tIs)) (ev_var (i := 4) rfl) (show some (D.int ((ps.map tIs).length : Nat)) = _ by rw [List.length_map])
    rw [e2, ss_nx (s_for en e), s_ret (ev_tup (evs_cons (ev_cst (c := .str "beginning")) (evs_cons l4 (evs_cons (ev_var (i := 6) rfl) evs_nil))) (by simp [sz]))]
    exact ends_rt
  · rw [ss_rt (s_for en e)]
    exact ends_rt
/-! ### bent values -/
theorem sv_mono {m : Nat} : ∀ (k : Nat) (v : D), Sv m k v → Sv m (k + 1) v
  | k, .non, _ => sv_non
  | k, .bl _, _ => sv_bl
  | k, .int _, _ => sv_int
  | 0, .str x, h => h
  | k + 1, .str x, h => h
  | k + 1, .tup xs, h => ⟨h.1, fun x hx => sv_mono k x (h.2 x hx)⟩
  | 0, .tup xs, h => (show False from h).elim
  | k, .lst _, h => by cases k <;> exact (show False from h).elim
  | k, .scr _, h => by cases k <;> exact (show False from h).elim
  | k, .loc _, h => by cases k <;> exact (show False from h).elim
  | k, .fn _, h => by cases k <;> exact (show False from h).elim
  | k, .ty _, h => by cases k <;> exact (show False from h).elim
theorem sv_pl {m : Nat} : ∀ (k : Nat) (v : D), Sv m k v → Pl m k v
  | k, .non, _ => pl_non
  | k, .bl _, _ => pl_bl
  | k, .int _, _ => pl_int
  | 0, .str x, h => pl_str h
  | k + 1, .str x, h => pl_str h
  | k + 1, .tup xs, h => ⟨h.1, fun x hx => sv_pl k x (h.2 x hx)⟩
  | 0, .tup xs, h => (show False from h).elim
  | k, .lst _, h => by cases k <;> exact (show False from h).elim
  | k, .scr _, h => by cases k <;> exact (show False from h).elim
  | k, .loc _, h => by cases k <;> exact (show False from h).elim
  | k, .fn _, h => by cases k <;> exact (show False from h).elim
  | k, .ty _, h => by cases k <;> exact (show False from h).elim
theorem sv_up : ∀ (k : Nat) (v : D), Sv 399 k v → Sv 400 k v
  | k, .non, _ => sv_non
  | k, .bl _, _ => sv_bl
  | k, .int _, _ => sv_int
  | 0, .str x, h => h
  | k + 1, .str x, h => h
  | k + 1, .tup xs, h => ⟨by have := h.1; omega, fun x hx => sv_up k x (h.2 x hx)⟩
  | 0, .tup xs, h => (show False from h).elim
  | k, .lst _, h => by cases k <;> exact (show False from h).elim
  | k, .scr _, h => by cases k <;> exact (show False from h).elim
  | k, .loc _, h => by cases k <;> exact (show False from h).elim
  | k, .fn _, h => by cases k <;> exact (show False from h).elim
  | k, .ty _, h => by cases k <;> exact (show False from h).elim
def benL : List D := [.non, .tup [], .str "twin", .str "chance", .str "beginning", .str "unchecked", .str "", .str "check"]
theorem ben_sv {k : Nat} {d : D} (h : d ∈ benL) : Sv 400 (k + 1) d := by
  simp only [benL, List.mem_cons, List.not_mem_nil, or_false] at h
  rcases h with rfl | rfl | rfl | rfl | rfl | rfl | rfl | rfl
  · exact sv_non
  · exact ⟨Nat.zero_le _, fun _ h => by cases h⟩
  all_goals exact sv_str (by decide +kernel)
theorem ben_last (hS : cupOk S) (v : D) (x2 : Option D) (k : Nat) (hn : 2 ≤ n) : Wp (exSs T.prg.sub (Oc T.prg W n) (.cons (.ret (.call 26 "_law_some" (.cons (.var 0) (.cons (.fl (.disp (.cons (.cst .non) (.cons (.tup .nil) (.cons (.cst (.str "twin")) (.cons (.cst (.str "chance")) (.cons (.cst (.str "beginning")) (.cons (.cst (.str "unchecked")) (.cons (.cst (.str "")) (.cons (.cst (.str "check")) .nil)))))))))) .nil)))) .nil) [some (.loc 0), some v, x2] S) fun o S' => ∃ d, o = .rt d ∧ Sv 400 (k + 1) d ∧ cupOk S' := by
  obtain ⟨d, S1, e1, m1, c1⟩ := law_some (W := W) (n := n) hS benL (by simp [benL]) (by simp [benL]) hn
  exact wp_eq (s_ret ((ev_call2 (ev_var (i := 0) rfl) (ev_disp (evs_cons (ev_cst (c := .non)) (evs_cons (ev_tup evs_nil (by simp [sz])) (evs_cons (ev_cst (c := .str "twin")) (evs_cons (ev_cst (c := .str "chance")) (evs_cons (ev_cst (c := .str "beginning")) (evs_cons (ev_cst (c := .str "unchecked")) (evs_cons (ev_cst (c := .str "")) (evs_cons (ev_cst (c := .str "check")) evs_nil)))))))) (by simp [sz]))).trans e1)) ⟨d, rfl, ben_sv m1, c1⟩
theorem isi_t {O : Orc} {ρ : Gx.Env} {i : Nat} {v : D} {ts : List Ty} {b : Bool} (h : ρ[i]? = some (some v)) (hd : isiD (der S v) ts = some b) : evT O (.tru (.isi (.var i) ts)) ρ S = .ok b S := by
  have e : evE O (.isi (.var i) ts) ρ S = .ok (.bl b) S := by simp only [evE, ev_var h, bind_ok', hd, Option.map_some, opt_some', h]
  exact t_tru e
theorem ben_rest (hS : cupOk S) (v : D) (x2 : Option D) (k : Nat) (hv : Sv 399 k v) (hn : 2 ≤ n) : Wp (exSs T.prg.sub (Oc T.prg W n) (cdrop 1 c_law_bent) [some (.loc 0), some v, x2] S) fun o S' => ∃ d, o = .rt d ∧ Sv 400 (k + 1) d ∧ cupOk S' := by
  unfold c_law_bent
  simp only [cdrop]
  cases v with
  | int i =>
    obtain ⟨d, S1, e1, m1, c1⟩ := law_some (W := W) (n := n) hS [.int (i + 1), .int (i - 1), .bl (decide (i = 1)), .non] (by simp) (by simp) hn
    have sd : Sv 400 (k + 1) d := by
      simp only [List.mem_cons, List.not_mem_nil, or_false] at m1
      rcases m1 with rfl | rfl | rfl | rfl
      · exact sv_int
      · exact sv_int
      · exact sv_bl
      · exact sv_non
    have t1 := isi_t (O := Oc T.prg W n) (ρ := [some (.loc 0), some (.int i), x2]) (S := S) (i := 1) (ts := [.int]) (b := true) rfl rfl
    have t2 := isi_t (O := Oc T.prg W n) (ρ := [some (.loc 0), some (.int i), x2]) (S := S) (i := 1) (ts := [.bool]) (b := false) rfl rfl
    refine wp_eq (ss_rt (s_then ((t_andT t1).trans (t_nf t2)) (s_ret ((ev_call2 (ev_var (i := 0) rfl) (ev_disp (evs_cons (ev_bop (op := .Add) (va := .int i) (vb := .int 1) (S1 := S) (ev_var (i := 1) rfl) (ev_cst (c := .int 1)) rfl) (evs_cons (ev_bop (op := .Sub) (va := .int i) (vb := .int 1) (S1 := S) (ev_var (i := 1) rfl) (ev_cst (c := .int 1)) rfl) (evs_cons (ev_cmp (op := .Eq) (va := .int i) (vb := .int 1) (S1 := S) (ev_var (i := 1) rfl) (ev_cst (c := .int 1)) (eqD_int i 1)) (evs_cons (ev_cst (c := .non)) evs_nil)))) (by simp [sz]))).trans e1)))) ⟨d, rfl, sd, c1⟩
  | bl b =>
    have t1 := isi_t (O := Oc T.prg W n) (ρ := [some (.loc 0), some (.bl b), x2]) (S := S) (i := 1) (ts := [.int]) (b := true) rfl rfl
    have t2 := isi_t (O := Oc T.prg W n) (ρ := [some (.loc 0), some (.bl b), x2]) (S := S) (i := 1) (ts := [.bool]) (b := true) rfl rfl
    exact wp_ss (S1 := S) (s_skip ((t_andT t1).trans (t_nt t2))) (ben_last hS _ x2 k hn)
  | non => exact wp_ss (S1 := S) (s_skip (t_andF (isi_t (v := .non) (b := false) rfl rfl))) (ben_last hS _ x2 k hn)
  | str x => exact wp_ss (S1 := S) (s_skip (t_andF (isi_t (v := .str x) (b := false) rfl rfl))) (ben_last hS _ x2 k hn)
  | tup xs => exact wp_ss (S1 := S) (s_skip (t_andF (isi_t (v := .tup xs) (b := false) rfl rfl))) (ben_last hS _ x2 k hn)
  | _ => cases k <;> exact (show False from hv).elim
theorem law_bent : ∀ (k : Nat) (v : D) (n : Nat) (S : Sto), Sv 399 k v → k ≤ 50 → cupOk S → k + 4 ≤ n → Wp (C T.prg W n 44 [.loc 0, v] S) fun d S' => Sv 400 (k + 1) d ∧ cupOk S' := by
  intro k
  induction k with
  | zero =>
    intro v n S hv hk hS hn
    obtain ⟨n, rfl⟩ : ∃ m, n = m + 1 := ⟨n - 1, by omega⟩
    refine wp_call (d := ⟨2, 3, false, c_law_bent⟩) rfl rfl ?_
    show Wp (exSs T.prg.sub (Oc T.prg W n) c_law_bent [some (.loc 0), some v, none] S) _
    obtain ⟨o, S', e, d, rfl, sd, c'⟩ := ben_rest (W := W) (n := n) hS v none 0 hv (by omega)
    have t0 : isiD (der S v) [.tuple] = some false := by
      cases v with
      | tup xs => exact (show False from hv).elim
      | lst | scr | loc | fn | ty => exact (show False from hv).elim
      | _ => rfl
    refine wp_eq (a := .rt d) (S := S') ?_ (wp_ends (by rw [cup1 c', cup1 hS]; exact Nat.le_refl _) ⟨sd, c'⟩)
    unfold c_law_bent at e ⊢
    simp only [cdrop] at e
    exact (ss_nx (s_skip (t_andF (isi_t (i := 1) rfl t0)))).trans e
  | succ k ih =>
    intro v n S hv hk hS hn
    obtain ⟨n, rfl⟩ : ∃ m, n = m + 1 := ⟨n - 1, by omega⟩
    refine wp_call (d := ⟨2, 3, false, c_law_bent⟩) rfl rfl ?_
    show Wp (exSs T.prg.sub (Oc T.prg W n) c_law_bent [some (.loc 0), some v, none] S) _
    by_cases ht : ∃ x r, v = .tup (x :: r)
    case neg =>
      obtain ⟨o, S', e, d, rfl, sd, c'⟩ := ben_rest (W := W) (n := n) hS v none (k + 1) hv (by omega)
      refine wp_eq (a := .rt d) (S := S') ?_ (wp_ends (by rw [cup1 c', cup1 hS]; exact Nat.le_refl _) ⟨sd, c'⟩)
      unfold c_law_bent at e ⊢
      simp only [cdrop] at e
      refine (ss_nx (s_skip (?_ : evT _ _ _ _ = .ok false S))).trans e
      cases v with
      | tup xs =>
        cases xs with
        | nil => exact (t_andT (isi_t (i := 1) (b := true) rfl rfl)).trans (t_andF (t_ne (c := true) (va := .tup []) (vb := .tup []) (S1 := S) (ev_var (i := 1) rfl) (ev_tup evs_nil (by simp [sz])) (show eqD (.tup []) (.tup []) = some true by decide +kernel)))
        | cons x r => exact absurd ⟨x, r, rfl⟩ ht
      | lst | scr | loc | fn | ty => exact (show False from hv).elim
      | non => exact t_andF (isi_t (i := 1) (v := .non) (b := false) rfl rfl)
      | bl b => exact t_andF (isi_t (i := 1) (v := .bl b) (b := false) rfl rfl)
      | int z => exact t_andF (isi_t (i := 1) (v := .int z) (b := false) rfl rfl)
      | str z => exact t_andF (isi_t (i := 1) (v := .str z) (b := false) rfl rfl)
    case pos =>
      obtain ⟨x, r, rfl⟩ := ht
      have en := eq_nilT (sv_pl _ _ hv) (by omega)
      obtain ⟨xs, hxs⟩ : ∃ xs, x :: r = xs := ⟨_, rfl⟩
      rw [hxs] at hv en ⊢
      obtain ⟨hl, hp⟩ : xs.length ≤ 399 ∧ ∀ y ∈ xs, Sv 399 k y := hv
      have hl0 : 0 < xs.length := by rw [← hxs]; simp
      obtain ⟨dr, S1, er, ⟨q, rfl, q0, q1⟩, c1⟩ := law_roll (W := W) (n := n) hS 5 (by omega) (by omega) (by omega)
      have tt : evT (Oc T.prg W n) (.and (.tru (.isi (.var 1) [.tuple])) (.and (.cmp .NotEq (.var 1) (.tup .nil)) (.cmp .Gt (.call 25 "_law_roll" (.cons (.var 0) (.cons (.cst (.int 5)) .nil))) (.cst (.int 0))))) [some (.loc 0), some (.tup xs), none] S = .ok (decide (q > 0)) S1 :=
        (t_andT (isi_t (i := 1) (v := .tup xs) (b := true) rfl rfl)).trans ((t_andT (t_ne (c := false) (va := .tup xs) (vb := .tup []) (S1 := S) (ev_var (i := 1) rfl) (ev_tup evs_nil (by simp [sz])) (show eqD (.tup xs) (.tup []) = some false from en))).trans (t_cmp (op := .Gt) (va := .int q) (vb := .int 0) ((ev_call2 (ev_var (i := 0) rfl) (ev_cst (c := .int 5))).trans er) (ev_cst (c := .int 0)) rfl))
      by_cases hq : q > 0
      case neg =>
        obtain ⟨o, S', e, d, rfl, sd, c'⟩ := ben_rest (W := W) (n := n) c1 (.tup xs) none (k + 1) ⟨hl, hp⟩ (by omega)
        refine wp_eq (a := .rt d) (S := S') ?_ (wp_ends (by rw [cup1 c', cup1 hS]; exact Nat.le_refl _) ⟨sd, c'⟩)
        unfold c_law_bent at e ⊢
        simp only [cdrop] at e
        exact (ss_nx (s_skip (tt.trans (by rw [decide_eq_false hq])))).trans e
      obtain ⟨dj, S2, ej, ⟨j, rfl, j0, j1⟩, c2⟩ := law_roll (W := W) (n := n) c1 (xs.length : Int) (by omega) (by omega) (by omega)
      obtain ⟨j, rfl⟩ : ∃ i : Nat, j = i := ⟨j.toNat, by omega⟩
      have hj : j < xs.length := by omega
      obtain ⟨d, S3, ed, sd, c3⟩ := ih xs[j] n S2 (hp _ (List.getElem_mem hj)) (by omega) c2 (by omega)
      have la := cut_lo xs j
      have lb := cut_hi xs (j + 1)
      refine wp_eq (a := .rt (.tup (Gx.cutD xs none (some (j : Int)) ++ [d] ++ Gx.cutD xs (some ((j + 1 : Nat) : Int)) none))) (S := S3) ?_ (wp_ends (by rw [cup1 c3, cup1 hS]; exact Nat.le_refl _) ⟨⟨?_, ?_⟩, c3⟩)
      · unfold c_law_bent
        refine ss_rt (s_then (tt.trans (by rw [decide_eq_true hq])) ?_)
        rw [ss_nx (s_asg (d := .int j) (S1 := S2) ((ev_call2 (ev_var (i := 0) rfl) (ev_len (xs := xs) (ev_var (i := 1) rfl))).trans ej) (by simp))]
        show exSs T.prg.sub (Oc T.prg W n) _ [some (.loc 0), some (.tup xs), some (.int j)] S2 = _
        have i1 : evE (Oc T.prg W n) (.ix (.var 1) (.var 2)) [some (.loc 0), some (.tup xs), some (.int j)] S2 = .ok xs[j] S2 := ev_ix (va := .tup xs) (vb := .int j) (S1 := S2) (ev_var (i := 1) rfl) (ev_var (i := 2) rfl) (atI_nat hj)
        exact s_ret (ev_bop (va := .tup (Gx.cutD xs none (some (j : Int)) ++ [d])) (vb := .tup (Gx.cutD xs (some ((j + 1 : Nat) : Int)) none)) (S1 := S3) (ev_bop (va := .tup (Gx.cutD xs none (some (j : Int)))) (vb := .tup [d]) (S1 := S2) (ev_sl (xs := xs) (ev_var (i := 1) rfl) evo_non (ev_o (ev_var (i := 2) rfl))) (ev_tup1 ((ev_call2 (ev_var (i := 0) rfl) i1).trans ed)) (add_tups (by rw [List.length_singleton]; simp only [sz]; omega)))
          (ev_sl (xs := xs) (ev_var (i := 1) rfl) (ev_o (ev_bop (op := .Add) (va := .int j) (vb := .int 1) (d := .int ((j + 1 : Nat) : Int)) (S1 := S3) (ev_var (i := 2) rfl) (ev_cst (c := .int 1)) rfl)) evo_non) (add_tups (by rw [List.length_append, List.length_singleton]; simp only [sz]; omega)))
      · rw [List.length_append, List.length_append, List.length_singleton]
        omega
      · intro y hy
        rcases List.mem_append.mp hy with hy | hy
        · rcases List.mem_append.mp hy with hy | hy
          · exact sv_up _ _ (sv_mono _ _ (hp y (cut_mem hy)))
          · rw [List.mem_singleton.mp hy]; exact sd
        · exact sv_up _ _ (sv_mono _ _ (hp y (cut_mem hy)))
end
end K25
set_option Elab.async false
set_option linter.all false
set_option maxRecDepth 100000
set_option maxHeartbeats 1000000
namespace K25
open PySem PySem.Spec PyProof.Rows L2 Gx
section
variable {S : Sto}
def row25 (x0 x2 x3 x4 o x6 x7 set pay due odds x12 x13 x14 x15 x16 x17 x18 : Option D) : Gx.Env := [x0, some (.loc 0), x2, x3, x4, o, x6, x7, set, pay, due, odds, x12, x13, x14, x15, x16, x17, x18]
theorem tail_t (u v : Int) (x0 x2 x3 x4 x5 x6 x7 x8 x9 x10 x11 x12 x13 x14 x15 x16 x17 x18 : Option D) : okT (exSs T.prg.sub (Oc T.prg 400 12) (cdrop 6 c_law) [x0, some (.loc 0), x2, x3, x4, x5, x6, x7, x8, x9, x10, x11, x12, x13, x14, x15, x16, x17, x18] [.lst [.int u, .int v]]) = true := by
  kernel_rfl
theorem oc_C {W n f : Nat} {as : List D} {S : Sto} : (Oc T.prg W n).call f as S = C T.prg W n f as S := rfl
theorem zip_self : ∀ {xs : List D} {p : D × D}, p ∈ xs.zip xs → p.1 = p.2 ∧ p.1 ∈ xs
  | [], p, h => by cases h
  | x :: xs, p, h => by
    rw [List.zip_cons_cons] at h
    rcases List.mem_cons.mp h with rfl | h
    · exact ⟨rfl, List.mem_cons_self⟩
    · have := zip_self h
      exact ⟨this.1, List.mem_cons_of_mem _ this.2⟩
theorem sB_refl {m : Nat} : ∀ (k : Nat) (v : D), Sv m k v → sB k v v = true
  | k, .non, _ => by cases k <;> rfl
  | k, .bl b, _ => by cases k <;> cases b <;> rfl
  | k, .int i, _ => by cases k <;> simp [sB]
  | k, .str x, _ => by cases k <;> simp [sB]
  | k + 1, .tup xs, h => by
    simp only [sB, decide_true, Bool.true_and]
    rw [List.all_eq_true]
    intro p hp
    have := zip_self hp
    rw [← this.1]
    exact sB_refl k p.1 (h.2 _ this.2)
  | 0, .tup xs, h => (show False from h).elim
  | k, .lst _, h => by cases k <;> exact (show False from h).elim
  | k, .scr _, h => by cases k <;> exact (show False from h).elim
  | k, .loc _, h => by cases k <;> exact (show False from h).elim
  | k, .fn _, h => by cases k <;> exact (show False from h).elim
  | k, .ty _, h => by cases k <;> exact (show False from h).elim
/-- an odd value: plain, or a list -/
def oddV (d : D) : Prop := Sv 400 3 d ∨ ∃ xs, d = .lst xs
theorem turn_odd {a k c m : Int} (h : setOk a k c m) (hS : shut S = true) {pp : List (List Int)} (hp : pays pp) (hpl : pp.length ≤ 60) {o : List Int} (oo : octs o) (hl : o.length ≤ 2000) {t : Tk} {ps : List (List Int)} (u : Tak a k c m ⟨0, 0, o, .no⟩ t ps) (hps : ps.length < 400) (hps2 : outOk ps) {d : D} (hd : oddV d) (x0 x2 x3 x4 x7 odds x12 x13 x14 x15 x16 x17 x18 : Option D) :
    exSs T.prg.sub (Oc T.prg 400 12) c_law_b1 (row25 x0 x2 x3 x4 (some (tIs o)) (some d) x7 (some (setD a k c m)) (some (.tup (pp.map tIs))) (some (outL c m pp t.word ps.length 0 ps)) odds x12 x13 x14 x15 x16 x17 x18) S = .ok (.nx (row25 x0 x2 x3 x4 (some (tIs o)) (some d) x7 (some (setD a k c m)) (some (.tup (pp.map tIs))) (some (outL c m pp t.word ps.length 0 ps)) odds x12 x13 x14 x15 x16 x17 x18)) S := by
  obtain ⟨sv, x, y, z, ed⟩ := sv_out c m pp t.word ps.length ps 0 hps2
  obtain ⟨due, hdue⟩ : ∃ due, outL c m pp t.word ps.length 0 ps = due := ⟨_, rfl⟩
  have sv3 : Sv 400 3 due := by rw [← hdue]; exact sv_mono _ _ (sv_up _ _ sv)
  obtain ⟨b, h1, h2⟩ : ∃ b : Bool, (∀ n, 6 ≤ n → C T.prg 400 n 3 [d, outL c m pp t.word ps.length 0 ps] S = .ok (.bl b) S) ∧ C T.prg 400 12 42 [d, due] S = .ok (.bl b) S := by
    rcases hd with hd | ⟨xs, rfl⟩
    · exact ⟨sB 3 d due, fun n hn => by rw [hdue]; exact is_sameB (m := 400) (by omega) 3 n d due S hd sv3 (by omega), law_sameB (m := 400) (by omega) 3 12 d due S hd sv3 (by omega)⟩
    · refine ⟨false, fun n hn => ?_, ?_⟩
      · rw [ed]; exact is_same_lst xs _ (by omega)
      · rw [← hdue, ed]; exact law_same_lst xs _ (by omega)
  have et := takes_outcome (W := 400) (n := 12) (S := S) a k c m h pp hp hpl o oo (by omega) u hS (by omega) hps (by omega) d (.bl b) h1
  rw [hdue]
  have sb := law_sameB (W := 400) (m := 400) (by omega) 0 12 (.bl b) (.bl b) S sv_bl sv_bl (by omega)
  rw [show sB 0 (.bl b) (.bl b) = true from sB_refl (m := 400) 0 _ sv_bl] at sb
  unfold c_law_b1
  rw [ss_nx (s_skip (t_ntru ((ev_call2 ((ev_callN (evs_cons (ev_var (i := 8) rfl) (evs_cons (ev_var (i := 9) rfl) (evs_cons (ev_var (i := 5) rfl) (evs_cons (ev_var (i := 6) rfl) evs_nil))))).trans (oc_C.trans et)) ((ev_call2 (ev_var (i := 6) rfl) (ev_var (i := 10) rfl)).trans (oc_C.trans h2))).trans (oc_C.trans sb))))]
  exact exSs_nil
theorem ev_compN {O : Orc} {own : List Nat} {tg : CTg} {it : CI} {t : CTo} {e : CE} {ρ : Gx.Env} {S S1 S2 : Sto} {l ys : List D} (h : evI O it ρ S = .ok (.items l) S1) (hl : l.length ≤ sz) (hc : noX (compL (cF O own tg t e ρ) l S1) = .ok ys S2) : evF O (.comp own tg it t e) ρ S = .ok ys S2 := by
  simp only [evF, h, bind_ok', if_pos hl]
  exact hc
theorem ev_ofs {O : Orc} {ρ : Gx.Env} {a : CE} {xs : List D} (h : evE O a ρ S = .ok (.tup xs) S) : evE O (.fl (.ofs a)) ρ S = .ok (.lst xs) S := ev_fl (by simp only [evF, h, bind_ok', der, seqL, opt_some'])
theorem body {a k c m : Int} (h : setOk a k c m) (hS : cupOk S) {pp : List (List Int)} (hp : pays pp) (hpl : pp.length ≤ 60) {o : List Int} (oo : octs o) (hl : o.length ≤ 2000) (x0 x2 x3 x4 x6 x7 x10 x11 x12 x13 x14 x15 x16 x17 x18 : Option D) :
    Wp (exSs T.prg.sub (Oc T.prg 400 12) c_law_b2 (row25 x0 x2 x3 x4 (some (tIs o)) x6 x7 (some (setD a k c m)) (some (.tup (pp.map tIs))) x10 x11 x12 x13 x14 x15 x16 x17 x18) S) fun out S' => (∃ y6 y10 y11 y17 y18, out = .nx (row25 x0 x2 x3 x4 (some (tIs o)) y6 x7 (some (setD a k c m)) (some (.tup (pp.map tIs))) y10 y11 x12 x13 x14 x15 x16 y17 y18)) ∧ cupOk S' := by
  unfold c_law_b2
  obtain ⟨t, ps, u⟩ := tak_ex (a := a) (k := k) (c := c) (m := m) ⟨0, 0, o, .no⟩ ⟨Nat.zero_le _, oo⟩
  obtain ⟨tok, tnum, tl, tp⟩ := tak_ok u ⟨Nat.zero_le _, oo⟩
  have tl : 8 * ps.length + t.rest.length ≤ o.length := tl
  have hps : ps.length < 400 := by omega
  have hps2 : outOk ps := fun p hq => ⟨(tp p hq).1, (tp p hq).2.2⟩
  obtain ⟨sv, x, y, z, ed⟩ := sv_out c m pp t.word ps.length ps 0 hps2
  have el := law_outcome (W := 400) (n := 12) (S := S) a k c m h pp hp o oo (by omega) u (shut_cup hS) (by omega) hps (by omega)
  have eo := outcome_of (W := 400) (n := 12) (S := S) a k c m h pp hp hpl o oo (by omega) u (shut_cup hS) (by omega) hps (by omega)
  have et := takes_outcome (W := 400) (n := 12) (S := S) a k c m h pp hp hpl o oo (by omega) u (shut_cup hS) (by omega) hps (by omega) (outL c m pp t.word ps.length 0 ps) (.bl true) (fun n hn => (is_sameB (m := 399) (by omega) 2 n _ _ S sv sv (by omega)).trans (by rw [sB_refl 2 _ sv]))
  have es := (law_sameB (W := 400) (m := 399) (by omega) 2 12 _ _ S sv sv (by omega)).trans (show _ = R.ok (D.bl true) S by rw [sB_refl 2 _ sv])
  have tod := fun {S : Sto} (sh : shut S = true) {d : D} (hd : oddV d) => turn_odd (S := S) h sh hp hpl oo hl u hps hps2 hd
  obtain ⟨due, hdue⟩ : ∃ due, outL c m pp t.word ps.length 0 ps = due := ⟨_, rfl⟩
  rw [hdue] at el eo et es sv ed
  simp only [hdue] at tod
  refine wp_asg (by simp [row25]) ⟨due, S, (ev_callN3 (ev_var (i := 8) rfl) (ev_var (i := 9) rfl) (ev_var (i := 5) rfl)).trans (oc_C.trans el), ?_⟩
  show Wp (exSs T.prg.sub (Oc T.prg 400 12) _ (row25 x0 x2 x3 x4 (some (tIs o)) x6 x7 (some (setD a k c m)) (some (.tup (pp.map tIs))) (some due) x11 x12 x13 x14 x15 x16 x17 x18) S) _
  refine wp_ss (S1 := S) (s_skip (t_ntru ((ev_call2 ((ev_callN3 (ev_var (i := 8) rfl) (ev_var (i := 9) rfl) (ev_var (i := 5) rfl)).trans (oc_C.trans eo)) (ev_var (i := 10) rfl)).trans (oc_C.trans es)))) ?_
  refine wp_ss (S1 := S) (s_skip (t_cmp (op := .IsNot) (c := false) (va := .bl true) (vb := .bl true) (S1 := S) ((ev_callN (evs_cons (ev_var (i := 8) rfl) (evs_cons (ev_var (i := 9) rfl) (evs_cons (ev_var (i := 5) rfl) (evs_cons (ev_var (i := 10) rfl) evs_nil))))).trans (oc_C.trans et)) (ev_cst (c := .bl true)) rfl)) ?_
  -- bent values
  have key := wp_comp (f := cF (Oc T.prg 400 12) [17] (.nm 17) .non (.call 44 "_law_bent" (.cons (.var 1) (.cons (.var 10) .nil))) (row25 x0 x2 x3 x4 (some (tIs o)) x6 x7 (some (setD a k c m)) (some (.tup (pp.map tIs))) (some due) x11 x12 x13 x14 x15 x16 x17 x18))
    cupOk (fun _ y => Sv 400 3 y) (rngD 0 3) S hS (fun d hd S hS => by
      obtain ⟨d1, S1, e1, s1, c1⟩ := law_bent (W := 400) 2 due 12 S sv (by omega) hS (by omega)
      have tg : evTg (Oc T.prg 400 12) (.nm 17) d (wipeE (row25 x0 x2 x3 x4 (some (tIs o)) x6 x7 (some (setD a k c m)) (some (.tup (pp.map tIs))) (some due) x11 x12 x13 x14 x15 x16 x17 x18) [17]) S = .ok (row25 x0 x2 x3 x4 (some (tIs o)) x6 x7 (some (setD a k c m)) (some (.tup (pp.map tIs))) (some due) x11 x12 x13 x14 x15 x16 (some d) x18) S := tg_nm (by simp [wipeE, row25])
      exact wp_eq (cF_eq tg ((ev_call2 (ev_var (i := 1) rfl) (ev_var (i := 10) rfl)).trans (oc_C.trans e1))) ⟨c1, _, rfl, s1⟩) (Q := fun ys S' => cupOk S' ∧ All2 (fun _ y => Sv 400 3 y) (rngD 0 3) ys) (fun ys S' a b => ⟨a, b⟩)
  obtain ⟨ys, S1, ek, c1, fa⟩ := key
  have lys : ys.length = 3 := fa.len.symm.trans (by rw [rngD_len]; rfl)
  have hys : ∀ d ∈ ys, oddV d := fun d hd => by
    obtain ⟨_, _, q⟩ := fa.right d hd
    exact .inl q
  subst ed
  have svx : Sv 399 1 x ∧ Sv 399 1 y ∧ Sv 399 1 z := ⟨sv.2 x (by simp), sv.2 y (by simp), sv.2 z (by simp)⟩
  have up : ∀ v : D, Sv 399 1 v → Sv 400 2 v := fun v hv => sv_mono _ _ (sv_up _ _ hv)
  have tupv : ∀ l : List D, l.length ≤ 400 → (∀ v ∈ l, Sv 400 2 v) → oddV (.tup l) := fun l h1 h2 => .inl ⟨h1, h2⟩
  obtain ⟨zs, hzs⟩ : ∃ zs : List D, zs = [.tup [x, y], .tup [x, y, z, .int 0], .lst [x, y, z], .non, .tup []] := ⟨_, rfl⟩
  have ovz : ∀ d ∈ zs, oddV d := fun d hd => by
    rw [hzs] at hd
    simp only [List.mem_cons, List.not_mem_nil, or_false] at hd
    rcases hd with rfl | rfl | rfl | rfl | rfl
    · exact tupv _ (by simp) fun v hv => by
        simp only [List.mem_cons, List.not_mem_nil, or_false] at hv
        rcases hv with rfl | rfl
        · exact up _ svx.1
        · exact up _ svx.2.1
    · exact tupv _ (by simp) fun v hv => by
        simp only [List.mem_cons, List.not_mem_nil, or_false] at hv
        rcases hv with rfl | rfl | rfl | rfl
        · exact up _ svx.1
        · exact up _ svx.2.1
        · exact up _ svx.2.2
        · exact sv_int
    · exact .inr ⟨_, rfl⟩
    · exact .inl sv_non
    · exact tupv _ (by simp) fun v hv => by cases hv
  have lzs : zs.length = 5 := by rw [hzs]; rfl
  have vd : ∀ (S : Sto) (x11 x17 x18 : Option D), evE (Oc T.prg 400 12) (.var 10) (row25 x0 x2 x3 x4 (some (tIs o)) x6 x7 (some (setD a k c m)) (some (.tup (pp.map tIs))) (some (.tup [x, y, z])) x11 x12 x13 x14 x15 x16 x17 x18) S = .ok (.tup [x, y, z]) S := fun _ _ _ _ => ev_var rfl
  have ez : evE (Oc T.prg 400 12) (.fl (.disp (.cons (.sl (.var 10) .non (.som (.cst (.int 2)))) (.cons (.bop .Add (.var 10) (.tup (.cons (.cst (.int 0)) .nil))) (.cons (.fl (.ofs (.var 10))) (.cons (.cst .non) (.cons (.tup .nil) .nil))))))) (row25 x0 x2 x3 x4 (some (tIs o)) x6 x7 (some (setD a k c m)) (some (.tup (pp.map tIs))) (some (.tup [x, y, z])) x11 x12 x13 x14 x15 x16 x17 x18) S1 = .ok (.lst zs) S1 := by
    rw [hzs]
    exact ev_disp (evs_cons (ev_sl (xs := [x, y, z]) (vd _ _ _ _) evo_non (ev_o (ev_cst (c := .int 2)))) (evs_cons (ev_bop (va := .tup [x, y, z]) (vb := .tup [.int 0]) (S1 := S1) (vd _ _ _ _) (ev_tup1 (ev_cst (c := .int 0))) rfl) (evs_cons (ev_ofs (vd _ _ _ _)) (evs_cons (ev_cst (c := .non)) (evs_cons (ev_tup evs_nil (by simp [sz])) evs_nil))))) (by simp [sz])
  refine wp_asg (by simp [row25]) ⟨.lst (ys ++ zs), S1, ev_lop (va := .lst ys) (vb := .lst zs) (S1 := S1) (ev_fl (ev_compN (l := rngD 0 3) (S1 := S) (ei_rng1 (ev_cst (c := .int 3)) rfl) (by rw [rngD_len]; decide) ek)) ez (by show (if ys.length + zs.length ≤ sz then some (ys ++ zs) else none) = _; rw [if_pos (by rw [lys, lzs]; simp only [sz]; omega)]), ?_⟩
  show Wp (exSs T.prg.sub (Oc T.prg 400 12) _ (row25 x0 x2 x3 x4 (some (tIs o)) x6 x7 (some (setD a k c m)) (some (.tup (pp.map tIs))) (some (.tup [x, y, z])) (some (.lst (ys ++ zs))) x12 x13 x14 x15 x16 x17 x18) S1) _
  obtain ⟨ws, hws⟩ : ∃ ws : List D, ws = [.str "beginning", .str "twin", .str "chance", .str "unchecked"] := ⟨_, rfl⟩
  have swk : ∀ w ∈ ws, Sv 400 2 w := fun w hw => by
    rw [hws] at hw
    simp only [List.mem_cons, List.not_mem_nil, or_false] at hw
    rcases hw with rfl | rfl | rfl | rfl <;> exact sv_str (by decide +kernel)
  have lws : ws.length = 4 := by rw [hws]; rfl
  have ew : evE (Oc T.prg 400 12) (.tup (.cons (.cst (.str "beginning")) (.cons (.cst (.str "twin")) (.cons (.cst (.str "chance")) (.cons (.cst (.str "unchecked")) .nil))))) (row25 x0 x2 x3 x4 (some (tIs o)) x6 x7 (some (setD a k c m)) (some (.tup (pp.map tIs))) (some (.tup [x, y, z])) (some (.lst (ys ++ zs))) x12 x13 x14 x15 x16 x17 x18) S1 = .ok (.tup ws) S1 := by
    rw [hws]
    exact ev_tup (evs_cons (ev_cst (c := .str "beginning")) (evs_cons (ev_cst (c := .str "twin")) (evs_cons (ev_cst (c := .str "chance")) (evs_cons (ev_cst (c := .str "unchecked")) evs_nil)))) (by simp [sz])
  have ecw : compL (cF (Oc T.prg 400 12) [18] (.nm 18) .non (.bop .Add (.tup (.cons (.var 18) .nil)) (.sl (.var 10) (.som (.cst (.int 1))) .non)) (row25 x0 x2 x3 x4 (some (tIs o)) x6 x7 (some (setD a k c m)) (some (.tup (pp.map tIs))) (some (.tup [x, y, z])) (some (.lst (ys ++ zs))) x12 x13 x14 x15 x16 x17 x18)) ws S1 = .ok (ws.map fun w => .tup [w, y, z]) S1 := compL_map _ fun d hd => by
    have tg : evTg (Oc T.prg 400 12) (.nm 18) d (wipeE (row25 x0 x2 x3 x4 (some (tIs o)) x6 x7 (some (setD a k c m)) (some (.tup (pp.map tIs))) (some (.tup [x, y, z])) (some (.lst (ys ++ zs))) x12 x13 x14 x15 x16 x17 x18) [18]) S1 = .ok (row25 x0 x2 x3 x4 (some (tIs o)) x6 x7 (some (setD a k c m)) (some (.tup (pp.map tIs))) (some (.tup [x, y, z])) (some (.lst (ys ++ zs))) x12 x13 x14 x15 x16 x17 (some d)) S1 := tg_nm (by simp [wipeE, row25])
    exact cF_eq tg (ev_bop (va := .tup [d]) (vb := .tup [y, z]) (S1 := S1) (ev_tup1 (ev_var (i := 18) rfl)) (ev_sl (xs := [x, y, z]) (vd _ _ _ _) (ev_o (ev_cst (c := .int 1))) evo_non) rfl)
  obtain ⟨vs, hvs⟩ : ∃ vs : List D, vs = ws.map fun w => .tup [w, y, z] := ⟨_, rfl⟩
  rw [← hvs] at ecw
  have lvs : vs.length = 4 := by rw [hvs, List.length_map, lws]
  have ovv : ∀ d ∈ vs, oddV d := fun d hd => by
    rw [hvs] at hd
    obtain ⟨w, hw, rfl⟩ := List.mem_map.mp hd
    exact tupv _ (by simp) fun v hv => by
      simp only [List.mem_cons, List.not_mem_nil, or_false] at hv
      rcases hv with rfl | rfl | rfl
      · exact swk _ hw
      · exact up _ svx.2.1
      · exact up _ svx.2.2
  refine wp_asg (by simp [row25]) ⟨.lst ((ys ++ zs) ++ vs), S1, ev_lop (va := .lst (ys ++ zs)) (vb := .lst vs) (S1 := S1) (ev_var (i := 11) rfl) (ev_fl (ev_comp (l := ws) (S1 := S1) (ei_seq ew rfl) (by rw [lws]; decide) ecw)) (by show (if (ys ++ zs).length + vs.length ≤ sz then some ((ys ++ zs) ++ vs) else none) = _; rw [if_pos (by rw [List.length_append, lys, lzs, lvs]; simp only [sz]; omega)]), ?_⟩
  show Wp (exSs T.prg.sub (Oc T.prg 400 12) _ (row25 x0 x2 x3 x4 (some (tIs o)) x6 x7 (some (setD a k c m)) (some (.tup (pp.map tIs))) (some (.tup [x, y, z])) (some (.lst ((ys ++ zs) ++ vs))) x12 x13 x14 x15 x16 x17 x18) S1) _
  have all : ∀ d ∈ (ys ++ zs) ++ vs, oddV d := fun d hd => by
    rcases List.mem_append.mp hd with hd | hd
    · rcases List.mem_append.mp hd with hd | hd
      · exact hys d hd
      · exact ovz d hd
    · exact ovv d hd
  refine wp_for (l := (ys ++ zs) ++ vs) (S1 := S1) (ei_seq (ev_var (i := 11) rfl) rfl) (wp_forL (fun ρ S => (∃ y6, ρ = row25 x0 x2 x3 x4 (some (tIs o)) y6 x7 (some (setD a k c m)) (some (.tup (pp.map tIs))) (some (.tup [x, y, z])) (some (.lst ((ys ++ zs) ++ vs))) x12 x13 x14 x15 x16 x17 x18) ∧ S = S1) ⟨⟨_, rfl⟩, rfl⟩ (fun d hd ρ S ⟨⟨y6, er⟩, eS⟩ => ?_) fun ρ2 S2 ⟨⟨y6, er⟩, eS⟩ => ⟨ρ2, rfl, ?_⟩)
  · subst er eS
    have tn := tod (shut_cup c1) (all d hd) x0 x2 x3 x4 x7 (some (.lst ((ys ++ zs) ++ vs))) x12 x13 x14 x15 x16 x17 x18
    refine ⟨_, S, ?_, _, rfl, ⟨some d, rfl⟩, rfl⟩
    rw [tg_nm (by simp [row25])]
    exact tn
  subst er eS
  exact wp_nil ⟨⟨_, _, _, _, _, rfl⟩, c1⟩
end
end K25
set_option Elab.async false
set_option linter.all false
set_option maxRecDepth 100000
set_option maxHeartbeats 1000000
namespace K25
open PySem PySem.Spec PyProof.Rows L2 Gx
section
theorem cutD_take (xs : List D) (j : Nat) : Gx.cutD xs none (some (j : Int)) = xs.take j := by
  unfold Gx.cutD
  rw [HT.sIx_nat, HT.sIx_none, Nat.sub_zero, List.drop_zero]
  by_cases h : j ≤ xs.length
  · rw [Nat.min_eq_left h]
  · rw [Nat.min_eq_right (by omega), List.take_length, List.take_of_length_le (by omega)]
theorem evo_som {O : Orc} {ρ : Gx.Env} {S S1 : Sto} {a : CE} {j : Int} (ha : evE O a ρ S = .ok (.int j) S1) : evO O (.som a) ρ S = .ok (some j) S1 := by simp only [evO, ha, bind_ok']
theorem ev_slX {O : Orc} {ρ : Gx.Env} {S S1 S2 S3 : Sto} {a : CE} {xs : List D} {lo hi : CO} {l h : Option Int} (ha : evE O a ρ S = .ok (.tup xs) S1) (hl : evO O lo ρ S1 = .ok l S2) (hh : evO O hi ρ S2 = .ok h S3) : evE O (.sl a lo hi) ρ S = .ok (.tup (Gx.cutD xs l h)) S3 := by simp only [evE, ha, hl, hh, bind_ok']
theorem law_main (ns : List Int) (h : ns.length ≤ 63) : ∃ S', C T.prg 400 (12 + 1) 45 [.scr (ns.map D.int)] [] = .ok (.bl true) S' := by
  rw [call_eq (d := ⟨1, 19, false, c_law⟩) rfl rfl]
  suffices hh : Wp (exSs T.prg.sub (Oc T.prg 400 12) c_law [some (.scr (ns.map D.int)), none, none, none, none, none, none, none, none, none, none, none, none, none, none, none, none, none, none] []) fun o _ => o = .rt (.bl true) by
    obtain ⟨o, S', e, rfl⟩ := hh
    obtain ⟨S'', e2⟩ := ends_top true S'
    refine ⟨S'', ?_⟩
    rw [← e2]
    exact congrArg (ends false 0) e
  unfold c_law
  obtain ⟨d1, S1, e1, rfl, c1⟩ := law_cup (W := 400) (n := 12) ns h (by omega)
  refine wp_asg (by simp) ⟨.loc 0, S1, (ev_call1 (ev_var rfl)).trans e1, ?_⟩
  obtain ⟨d0, S0, e0, ⟨a, k, c, m, rfl, ok⟩, c0⟩ := law_setting (W := 400) (n := 12) c1 (by omega)
  obtain ⟨d2, S2, e2, ⟨r, rfl, r0, r1⟩, c2⟩ := law_roll (W := 400) (n := 12) c0 3 (by omega) (by omega) (by omega)
  obtain ⟨d3, S3, e3, ⟨pp, rfl, hp, hp1, hpl⟩, c3⟩ := law_payloads (W := 400) (n := 12) c2 (1 + r) (by omega) (by omega) (by omega)
  refine wp_ss (s_par2 (d := setD a k c m) (e := .tup (pp.map tIs)) (S1 := S3) (evs_cons ((ev_call1 (ev_var (i := 1) rfl)).trans e0) (evs_cons ((ev_call2 (ev_var (i := 1) rfl) (ev_bop (va := .int 1) (vb := .int r) (S1 := S0) (ev_cst (c := .int 1)) ((ev_call2 (ev_var (i := 1) rfl) (ev_cst (c := .int 3))).trans e2) rfl)).trans e3) evs_nil)) (by simp) (by simp)) ?_
  obtain ⟨d4, S4, e4, ⟨r', rfl, r0', r1'⟩, c4⟩ := law_roll (W := 400) (n := 12) c3 3 (by omega) (by omega) (by omega)
  obtain ⟨d5, S5, e5, ⟨qq, rfl, hq, hq1, hql⟩, c5⟩ := law_payloads (W := 400) (n := 12) c4 (1 + r') (by omega) (by omega) (by omega)
  refine wp_asg (by simp) ⟨.tup (qq.map tIs), S5, (ev_call2 (ev_var (i := 1) rfl) (ev_bop (va := .int 1) (vb := .int r') (S1 := S3) (ev_cst (c := .int 1)) ((ev_call2 (ev_var (i := 1) rfl) (ev_cst (c := .int 3))).trans e4) rfl)).trans e5, ?_⟩
  show Wp (exSs T.prg.sub (Oc T.prg 400 12) _ (row25 (some (.scr (ns.map D.int))) (some (.tup (qq.map tIs))) none none none none none (some (setD a k c m)) (some (.tup (pp.map tIs))) none none none none none none none none none) S5) _
  obtain ⟨d6, S6, e6, ⟨j, rfl, j0, j1⟩, c6⟩ := law_roll (W := 400) (n := 12) c5 ((pp.length : Int) + 1) (by omega) (by omega) (by omega)
  obtain ⟨j, rfl⟩ : ∃ i : Nat, j = i := ⟨j.toNat, by omega⟩
  refine wp_asg (by simp [row25]) ⟨.int j, S6, (ev_call2 (ev_var (i := 1) rfl) (ev_bop (va := .int pp.length) (vb := .int 1) (S1 := S5) (ev_lenL (v := 9) rfl) (ev_cst (c := .int 1)) rfl)).trans e6, ?_⟩
  show Wp (exSs T.prg.sub (Oc T.prg 400 12) _ (row25 (some (.scr (ns.map D.int))) (some (.tup (qq.map tIs))) (some (.int j)) none none none none (some (setD a k c m)) (some (.tup (pp.map tIs))) none none none none none none none none none) S6) _
  have sh := shut_cup c6
  have lp3 : pp.length ≤ 3 := by omega
  have lq3 : qq.length ≤ 3 := by omega
  have hmix : pays (pp.take j ++ qq) := fun p h => (List.mem_append.mp h).elim (fun z => hp p (List.mem_of_mem_take z)) (hq p)
  have lmix : (pp.take j ++ qq).length ≤ 6 := by rw [List.length_append, List.length_take]; omega
  have wl := fun (l : List (List Int)) (hl : pays l) => law_way (W := 400) (n := 12) (S := S6) a k c m l ok hl
  have hw : ∀ l : List (List Int), pays l → l.length ≤ 6 → octs ([83, 71, 49, 10] ++ wayL a k c m 0 l) ∧ ([83, 71, 49, 10] ++ wayL a k c m 0 l).length ≤ 2000 ∧ 4 ≤ ([83, 71, 49, 10] ++ wayL a k c m 0 l).length := fun l h1 h2 => by
    have := way_len a k c m 0 l h1
    refine ⟨octs_app (fun i hi => ?_) (way_octs a k c m 0 l h1), ?_, ?_⟩
    · simp only [List.mem_cons, List.not_mem_nil, or_false] at hi
      omega
    · rw [List.length_append]; simp only [List.length_cons, List.length_nil]; omega
    · rw [List.length_append]; simp only [List.length_cons, List.length_nil]; omega
  obtain ⟨w1, hw1⟩ : ∃ w, [83, 71, 49, 10] ++ wayL a k c m 0 pp = w := ⟨_, rfl⟩
  obtain ⟨w2, hw2⟩ : ∃ w, [83, 71, 49, 10] ++ wayL a k c m 0 (pp.take j ++ qq) = w := ⟨_, rfl⟩
  obtain ⟨w3, hw3⟩ : ∃ w, [83, 71, 49, 10] ++ wayL a k c m 0 qq = w := ⟨_, rfl⟩
  have y1 := wl pp hp (by omega) sh (by omega) (by omega)
  have y2 := wl (pp.take j ++ qq) hmix (by omega) sh (by omega) (by omega)
  have y3 := wl qq hq (by omega) sh (by omega) (by omega)
  have z1 := hw pp hp (by omega)
  have z2 := hw (pp.take j ++ qq) hmix lmix
  have z3 := hw qq hq (by omega)
  rw [hw1] at y1 z1
  rw [hw2] at y2 z2
  rw [hw3] at y3 z3
  have mix : evE (Oc T.prg 400 12) (.bop .Add (.sl (.var 9) .non (.som (.var 3))) (.var 2)) (row25 (some (.scr (ns.map D.int))) (some (.tup (qq.map tIs))) (some (.int j)) none none none none (some (setD a k c m)) (some (.tup (pp.map tIs))) none none none none none none none none none) S6 = .ok (.tup ((pp.take j ++ qq).map tIs)) S6 := ev_bop (va := .tup ((pp.take j).map tIs)) (vb := .tup (qq.map tIs)) (S1 := S6) ((ev_sl (xs := pp.map tIs) (ev_var (i := 9) rfl) evo_non (ev_o (ev_var (i := 3) rfl))).trans (by rw [cutD_take, List.map_take])) (ev_var (i := 2) rfl) (by rw [add_tups (by rw [List.length_map, List.length_map, List.length_take]; simp only [sz]; omega), List.map_append])
  refine wp_asg (by simp [row25]) ⟨.lst [tIs w1, tIs w2, tIs w3], S6, ev_disp (evs_cons ((ev_call2 (ev_var (i := 8) rfl) (ev_var (i := 9) rfl)).trans (oc_C.trans y1)) (evs_cons ((ev_call2 (ev_var (i := 8) rfl) mix).trans (oc_C.trans y2)) (evs_cons ((ev_call2 (ev_var (i := 8) rfl) (ev_var (i := 2) rfl)).trans (oc_C.trans y3)) evs_nil))) (by simp [sz]), ?_⟩
  show Wp (exSs T.prg.sub (Oc T.prg 400 12) _ (row25 (some (.scr (ns.map D.int))) (some (.tup (qq.map tIs))) (some (.int j)) (some (.lst [tIs w1, tIs w2, tIs w3])) none none none (some (setD a k c m)) (some (.tup (pp.map tIs))) none none none none none none none none none) S6) _
  obtain ⟨d7, S7, e7, ⟨i, rfl, i0, i1⟩, c7⟩ := law_roll (W := 400) (n := 12) c6 (w1.length : Int) (by omega) (by omega) (by omega)
  obtain ⟨i, rfl⟩ : ∃ q : Nat, i = q := ⟨i.toNat, by omega⟩
  have h4 : ∀ S : Sto, evE (Oc T.prg 400 12) (.ix (.var 4) (.cst (.int 0))) (row25 (some (.scr (ns.map D.int))) (some (.tup (qq.map tIs))) (some (.int j)) (some (.lst [tIs w1, tIs w2, tIs w3])) none none none (some (setD a k c m)) (some (.tup (pp.map tIs))) none none none none none none none none none) S = .ok (tIs w1) S := fun S => ev_ix (va := .lst [tIs w1, tIs w2, tIs w3]) (vb := .int 0) (S1 := S) (ev_var (i := 4) rfl) (ev_cst (c := .int 0)) rfl
  have sl : evE (Oc T.prg 400 12) (.sl (.ix (.var 4) (.cst (.int 0))) .non (.som (.call 25 "_law_roll" (.cons (.var 1) (.cons (.bi .len (.cons (.ix (.var 4) (.cst (.int 0))) .nil)) .nil))))) (row25 (some (.scr (ns.map D.int))) (some (.tup (qq.map tIs))) (some (.int j)) (some (.lst [tIs w1, tIs w2, tIs w3])) none none none (some (setD a k c m)) (some (.tup (pp.map tIs))) none none none none none none none none none) S6 = .ok (tIs (w1.take i)) S7 := by
    have e := (ev_call2 (f := 25) (x := "_law_roll") (ev_var (O := Oc T.prg 400 12) (S := S6) (ρ := row25 (some (.scr (ns.map D.int))) (some (.tup (qq.map tIs))) (some (.int j)) (some (.lst [tIs w1, tIs w2, tIs w3])) none none none (some (setD a k c m)) (some (.tup (pp.map tIs))) none none none none none none none none none) (i := 1) rfl) (ev_lenT (h4 S6))).trans (oc_C.trans e7)
    refine (ev_slX (xs := w1.map D.int) (h4 S6) evo_non (evo_som e)).trans ?_
    rw [cutD_take, ← List.map_take]
    rfl
  have items : evE (Oc T.prg 400 12) (.fl (.op .Add (.var 4) (.fl (.disp (.cons (.sl (.ix (.var 4) (.cst (.int 0))) .non (.som (.call 25 "_law_roll" (.cons (.var 1) (.cons (.bi .len (.cons (.ix (.var 4) (.cst (.int 0))) .nil)) .nil))))) (.cons (.tup .nil) .nil)))))) (row25 (some (.scr (ns.map D.int))) (some (.tup (qq.map tIs))) (some (.int j)) (some (.lst [tIs w1, tIs w2, tIs w3])) none none none (some (setD a k c m)) (some (.tup (pp.map tIs))) none none none none none none none none none) S6 = .ok (.lst [tIs w1, tIs w2, tIs w3, tIs (w1.take i), tIs []]) S7 := ev_lop (va := .lst [tIs w1, tIs w2, tIs w3]) (vb := .lst [tIs (w1.take i), .tup []]) (S1 := S6) (ev_var (i := 4) rfl) (ev_disp (evs_cons sl (evs_cons (ev_tup evs_nil (by simp [sz])) evs_nil)) (by simp [sz])) rfl
  refine wp_for (l := [tIs w1, tIs w2, tIs w3, tIs (w1.take i), tIs []]) (S1 := S7) (ei_seq items rfl) (wp_forL (fun ρ S => (∃ y5 y6 y10 y11 y17 y18, ρ = row25 (some (.scr (ns.map D.int))) (some (.tup (qq.map tIs))) (some (.int j)) (some (.lst [tIs w1, tIs w2, tIs w3])) y5 y6 none (some (setD a k c m)) (some (.tup (pp.map tIs))) y10 y11 none none none none none y17 y18) ∧ cupOk S) ⟨⟨_, _, _, _, _, _, rfl⟩, c7⟩ (fun d hd ρ S ⟨⟨y5, y6, y10, y11, y17, y18, er⟩, cS⟩ => ?_) fun ρ2 S8 ⟨⟨y5, y6, y10, y11, y17, y18, er⟩, c8⟩ => ⟨ρ2, rfl, ?_⟩)
  · subst er
    obtain ⟨o, rfl, oo, lo⟩ : ∃ o : List Int, d = tIs o ∧ octs o ∧ o.length ≤ 2000 := by
      simp only [List.mem_cons, List.not_mem_nil, or_false] at hd
      rcases hd with z | z | z | z | z
      · exact ⟨w1, z, z1.1, z1.2.1⟩
      · exact ⟨w2, z, z2.1, z2.2.1⟩
      · exact ⟨w3, z, z3.1, z3.2.1⟩
      · exact ⟨w1.take i, z, octs_take z1.1 i, by rw [List.length_take]; omega⟩
      · exact ⟨[], z, (fun i hi => by cases hi), Nat.zero_le _⟩
    obtain ⟨out, S', eb, ⟨v6, v10, v11, v17, v18, eo⟩, c'⟩ := body ok cS hp (by omega) oo lo (some (.scr (ns.map D.int))) (some (.tup (qq.map tIs))) (some (.int j)) (some (.lst [tIs w1, tIs w2, tIs w3])) y6 none y10 y11 none none none none none y17 y18
    refine ⟨out, S', ?_, _, eo, ⟨_, _, _, _, _, _, rfl⟩, c'⟩
    rw [tg_nm (by simp [row25])]
    exact eb
  subst er
  obtain ⟨u, v, rfl, _⟩ := c8
  exact wp_okT (tail_t u v _ _ _ _ _ _ _ _ _ _ _ _ _ _ _ _ _ _)
end
end K25
set_option Elab.async false
set_option linter.all false
set_option maxRecDepth 100000
set_option maxHeartbeats 4000000
namespace K25
open PySem PySem.Spec PyProof.Rows L2 Gx
/-! ### the law -/
theorem row_holds : PySem.W.OpenLaw.Holds RowL := by
  w_on; o_law
  refine HandSHeadRun.head_any (r := R) (q := PySem.W.view PR [79]) (H := hk) (ob := ob) (M := 9000) (loose := loose) (d := HandSHeadRun.topDef PR 79) (kwd := []) ob_eq
    (by kernel_rfl) (fun s => by kernel_rfl) hrun (by kernel_rfl) (by kernel_rfl) (by kernel_rfl) (by rfl) (by first | assumption | decide +kernel) (by decide +kernel) ⟨rfl, rfl, rfl, rfl, rfl, by decide +kernel⟩ ?hw ?hc
  case hw => w_witness2
  case hc =>
    refine LamX.walk_ofTsE (l := RowL) (n := 63) (k := lvK 13) (x := "script") (CX := fun w => L2.CX PR w) rfl (by decide) (by kernel_rfl) ⟨rfl, by decide, by decide⟩ ?F (fun w H s e s' z => by
      obtain ⟨_, _, _, _, _, _, _, _, _, _, _, _, q⟩ := z
      exact q)
    intro w mg fa h Y G hmg0
    obtain ⟨K, KX, c⟩ := Y
    refine ⟨K, KX, law_at (T := T) (P := PR) (m := 12) (i := 45) (Wn := 400) rfl chk rfl KX G c (hf := rfl) rfl hmg0 fun ns hns => law_main ns hns⟩
end K25
theorem PySem.Challenge.cw_shellgate_k25_whole_outcomes_holds : PySem.Challenge.rw_shellgate_k25_whole_outcomes.Holds :=
  K25.row_holds
