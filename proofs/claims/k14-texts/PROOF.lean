import PyProof.Rows.All
import Wide.All
import OpenK.AllK
import Wide.FinOn
import HandS.ForMost
import HandS.Exc
import HandS.ExcOwn
import HandS.WordsExc
import HandS.HotCalls
import HandS.ExcIs
import HandS.IsInst
import HandS.Deep
import HandS.TupAny
import HandS.TupMul
import HandS.Zip
import HandS.Wide
import HandS.SortRule
import HandS.TryOnly
import HandS.Style
import KE.GoesComp
import KE.GoesRaise
import HandS.SuiteRaise
import KE.RegKIsAll
import KE.RegKTryMore
import PySem.Challenge.RW_shortgrid_k14_texts
set_option Elab.async false
set_option linter.all false
set_option maxRecDepth 100000
/-! A small language of values and what its terms are worth: the plain side, no machine in sight. -/
namespace SG
open PySem PySem.Spec PyProof.Rows L2

/-- values as trees; scr: the script; lst's mark: made since the def's entry -/
inductive PV where
  | non
  | bl (b : Bool)
  | int (i : Int)
  | str (x : Str)
  | scr (xs : List Int)
  | lst (y : Bool) (xs : List PV)
  | tup (xs : List PV)

/-- an answer: a value, an error of a class by name, or nothing known -/
inductive Rs (α : Type) where
  | ok (a : α)
  | err (c : Str)
  | no
def Rs.bind {α β : Type} (r : Rs α) (f : α → Rs β) : Rs β :=
  match r with
  | .ok a => f a
  | .err c => .err c
  | .no => .no
@[simp] theorem Rs.ok_bind {α β : Type} (a : α) (f : α → Rs β) : (Rs.ok a).bind f = f a := (rfl)
@[simp] theorem Rs.err_bind {α β : Type} (c : Str) (f : α → Rs β) : (Rs.err c : Rs α).bind f = .err c := (rfl)
@[simp] theorem Rs.no_bind {α β : Type} (f : α → Rs β) : (Rs.no : Rs α).bind f = .no := (rfl)
def Rs.when {α : Type} (c : Prop) [Decidable c] (a : α) : Rs α := if c then .ok a else .no
theorem Rs.when_ok {α : Type} {c : Prop} [Decidable c] {a b : α} (h : Rs.when c a = .ok b) : c ∧ a = b := by
  unfold Rs.when at h
  split at h
  · injection h with h; exact ⟨by assumption, h⟩
  · cases h
@[simp] theorem Rs.when_pos {α : Type} {c : Prop} [Decidable c] {a : α} (h : c) : Rs.when c a = .ok a := by
  unfold Rs.when; rw [if_pos h]

/-! ### terms -/
inductive Op where | add | sub | mul | fdiv | mod | pow
  deriving DecidableEq, Repr
inductive Cp where | eq | ne | lt | le | gt | ge | isin | notin
  deriving DecidableEq, Repr
inductive Bi where | len | abs | int | list | tuple | sum | all | max | min | sorted | str
  deriving DecidableEq, Repr
mutual
inductive E where
  | non
  | bl (b : Bool)
  | int (i : Int)
  | str (x : Str)
  | gint (x : Str) (i : Int)
  | gstr (x : Str) (z : Str)
  | var (i : Nat)
  | op (o : Op) (a b : E)
  | neg (a : E)
  | not (a : E)
  | cmp (o : Cp) (a b : E)
  | chain (o o2 : Cp) (a b c : E)
  | isN (n : Bool) (a : E)
  | and (a b : E)
  | or (a b : E)
  | ix (a i : E)
  | ixv (v : Nat) (i : E)
  | slLo (a lo : E)
  | slHi (a hi : E)
  | slLoV (v : Nat) (lo : E)
  | slHiV (v : Nat) (hi : E)
  | rvL (a : E)
  | joinE (a b : E)
  | splitE (a b : E)
  | lst (es : Es)
  | tup (es : Es)
  | bi (b : Bi) (es : Es)
  | isi (a : E) (t : String)
  | call (f : Str) (es : Es)
  | comp (own : List Nat) (tg : List Nat) (single : Bool) (it : It) (elt : E)
  | compIf (own : List Nat) (tg : List Nat) (single : Bool) (it : It) (c : E) (elt : E)
inductive Es where
  | nil
  | cons (e : E) (es : Es)
inductive It where
  | val (e : E)
  | rng1 (e : E)
  | rng2 (a b : E)
  | zip (a b : E)
  | enum (a : E)
end

/-! ### what the operators are worth -/
/-- the two factors' product may be made -/
def MulOk (a b : Int) : Prop := a.natAbs < 2 ^ 64 ∨ b.natAbs < 2 ^ 64 ∨ a.natAbs.log2 + b.natAbs.log2 < 1000000
instance (a b : Int) : Decidable (MulOk a b) := by unfold MulOk; exact inferInstance
def DivOk (b : Int) : Prop := b ≠ 0 ∧ b.natAbs.log2 < 9000
instance (b : Int) : Decidable (DivOk b) := by unfold DivOk; exact inferInstance
def PowOk (a b : Int) : Prop := 0 ≤ b ∧ b ≤ 1000000 ∧ a.natAbs < 2 ^ 64
instance (a b : Int) : Decidable (PowOk a b) := by unfold PowOk; exact inferInstance
def i63 (k : Int) : Prop := -(2 ^ 63) ≤ k ∧ k < 2 ^ 63
instance (k : Int) : Decidable (i63 k) := by unfold i63; exact inferInstance

def addV : PV → PV → Rs PV
  | .int a, .int b => .ok (.int (a + b))
  | .str a, .str b => Rs.when (a.length + b.length ≤ sizeLine) (.str (a ++ b))
  | .lst _ xs, .lst _ ys => Rs.when (xs.length + ys.length ≤ sizeLine) (.lst true (xs ++ ys))
  | .tup xs, .tup ys => Rs.when (xs.length + ys.length ≤ sizeLine) (.tup (xs ++ ys))
  | _, _ => .no
def subV : PV → PV → Rs PV
  | .int a, .int b => .ok (.int (a - b))
  | _, _ => .no
def mulV : PV → PV → Rs PV
  | .int a, .int b => Rs.when (MulOk a b) (.int (a * b))
  | .lst _ xs, .int k => Rs.when (i63 k ∧ xs.length * k.toNat ≤ sizeLine) (.lst true (List.replicate k.toNat xs).flatten)
  | .tup xs, .int k => Rs.when (xs ≠ [] ∧ 0 ≤ k ∧ k ≤ 1000 ∧ xs.length ≤ 1000) (.tup (List.replicate k.toNat xs).flatten)
  | _, _ => .no
def fdivV : PV → PV → Rs PV
  | .int a, .int b => Rs.when (DivOk b) (.int (a.fdiv b))
  | _, _ => .no
def modV : PV → PV → Rs PV
  | .int a, .int b => Rs.when (b ≠ 0) (.int (a.fmod b))
  | _, _ => .no
def powV : PV → PV → Rs PV
  | .int a, .int b => Rs.when (PowOk a b) (.int (a ^ b.toNat))
  | _, _ => .no
def opV : Op → PV → PV → Rs PV
  | .add => addV
  | .sub => subV
  | .mul => mulV
  | .fdiv => fdivV
  | .mod => modV
  | .pow => powV
def negV : PV → Rs PV
  | .int a => .ok (.int (-a))
  | _ => .no
def notV : PV → Rs PV
  | .bl a => .ok (.bl (!a))
  | _ => .no

mutual
/-- as plain data -/
def PV.toD : PV → PyData
  | .non => .none
  | .bl b => .bool b
  | .int i => .int i
  | .str x => .str x
  | .scr _ => .dict []
  | .lst _ xs => .list (PV.toDs xs)
  | .tup xs => .tuple (PV.toDs xs)
def PV.toDs : List PV → List PyData
  | [] => []
  | x :: xs => PV.toD x :: PV.toDs xs
end
def okD (p : PV) : Bool := SeqAt.shaped p.toD
def eqP (p q : PV) : Bool := PyData.eqv p.toD q.toD
def eqV' (p q : PV) : Rs PV := Rs.when (okD p = true ∧ okD q = true) (.bl (eqP p q))
def neV' (p q : PV) : Rs PV := Rs.when (okD p = true ∧ okD q = true) (.bl (!eqP p q))
def ltV : PV → PV → Rs PV
  | .int a, .int b => .ok (.bl (decide (a < b)))
  | _, _ => .no
def leV : PV → PV → Rs PV
  | .int a, .int b => .ok (.bl (decide (a ≤ b)))
  | _, _ => .no
def gtV : PV → PV → Rs PV
  | .int a, .int b => .ok (.bl (decide (b < a)))
  | _, _ => .no
def geV : PV → PV → Rs PV
  | .int a, .int b => .ok (.bl (decide (b ≤ a)))
  | _, _ => .no
/-- a text of one sign -/
def sgn1 : PV → Option Nat
  | .str x => match x.cps.toList with
    | [c] => some c
    | _ => none
  | _ => none
def sgnV (c : Nat) : PV := .str ⟨#[c]⟩
def inV' (p : PV) : PV → Rs PV
  | .lst y xs => Rs.when (okD p = true ∧ okD (.lst y xs) = true) (.bl (xs.any fun z => eqP z p))
  | .str z => match sgn1 p with
    | some c => .ok (.bl (decide (c ∈ z.cps.toList)))
    | none => .no
  | _ => .no
def notinV' (p : PV) : PV → Rs PV
  | .lst y xs => Rs.when (okD p = true ∧ okD (.lst y xs) = true) (.bl (!xs.any fun z => eqP z p))
  | .str z => match sgn1 p with
    | some c => .ok (.bl (!decide (c ∈ z.cps.toList)))
    | none => .no
  | _ => .no
def cpV : Cp → PV → PV → Rs PV
  | .eq => eqV'
  | .ne => neV'
  | .lt => ltV
  | .le => leV
  | .gt => gtV
  | .ge => geV
  | .isin => inV'
  | .notin => notinV'
def isNon : PV → Bool
  | .non => true
  | _ => false
def isNV (n : Bool) (p : PV) : Rs PV := .ok (.bl (if n then !isNon p else isNon p))
/-- the item at a place -/
def ixV : PV → PV → Rs PV
  | .lst _ xs, .int i => match atI xs i with
    | some p => .ok p
    | none => .no
  | .tup xs, .int i => match atI xs i with
    | some p => .ok p
    | none => .no
  | .scr xs, .int i => match atI xs i with
    | some z => .ok (.int z)
    | none => .no
  | .str z, .int i => match atI z.cps.toList i with
    | some c => Rs.when (z.length ≤ sizeLine) (sgnV c)
    | none => .no
  | _, _ => .no
def cutL {α : Type} (xs : List α) (lo hi : Option Int) : List α := (xs.drop (HT.sIx xs.length 0 lo)).take (HT.sIx xs.length xs.length hi - HT.sIx xs.length 0 lo)
def slV (lo hi : Option Int) : PV → Rs PV
  | .lst _ xs => .ok (.lst true (cutL xs lo hi))
  | .tup xs => .ok (.tup (cutL xs lo hi))
  | .str z => Rs.when (z.length ≤ sizeLine) (.str (cutS z lo hi))
  | _ => .no
def slLoV (p : PV) : PV → Rs PV
  | .int i => slV (some i) none p
  | _ => .no
def slHiV (p : PV) : PV → Rs PV
  | .int i => slV none (some i) p
  | _ => .no
def revV : PV → Rs PV
  | .lst _ xs => .ok (.lst true xs.reverse)
  | _ => .no
def typeName : PV → Option String
  | .non => some "NoneType"
  | .bl _ => some "bool"
  | .int _ => some "int"
  | .str _ => some "str"
  | .scr _ => none
  | .lst _ _ => some "list"
  | .tup _ => some "tuple"
def isiV (t : String) (p : PV) : Rs PV :=
  match typeName p with
  | none => .no
  | some a => match kitB a t with
    | none => .no
    | some b => .ok (.bl b)
def ints? : List PV → Option (List Int)
  | [] => some []
  | .int i :: r => (ints? r).map (i :: ·)
  | _ => none
def bools? : List PV → Option (List Bool)
  | [] => some []
  | .bl i :: r => (bools? r).map (i :: ·)
  | _ => none
def maxI : List Int → Int
  | [] => 0
  | x :: r => r.foldl max x
def minI : List Int → Int
  | [] => 0
  | x :: r => r.foldl min x
def lenV : PV → Rs PV
  | .lst _ xs => .ok (.int xs.length)
  | .tup xs => .ok (.int xs.length)
  | .scr xs => .ok (.int xs.length)
  | .str z => Rs.when (z.length ≤ sizeLine) (.int z.length)
  | _ => .no
def absV : PV → Rs PV
  | .int i => .ok (.int (if i < 0 then -i else i))
  | _ => .no
def intV : PV → Rs PV
  | .int i => .ok (.int i)
  | .bl b => .ok (.int (if b then 1 else 0))
  | .str a => match intText? a with
    | some n => Rs.when (a.length ≤ 640) (.int n)
    | none => .no
  | _ => .no
def strV : PV → Rs PV
  | .int i => Rs.when (i.natAbs.log2 < 1920) (.str (Str.ofString (toString i)))
  | _ => .no
def strs? : List PV → Option (List Str)
  | [] => some []
  | .str i :: r => (strs? r).map (i :: ·)
  | _ => none
def joinV : PV → PV → Rs PV
  | .str a, .lst _ xs => match strs? xs with
    | some ys => Rs.when ((ys.map fun x => x.length).sum + ys.length * a.length ≤ 16777216) (.str (Txt.join a ys))
    | none => .no
  | _, _ => .no
/-- a text, and no other thing -/
def txtV : PV → Rs PV
  | .str a => .ok (.str a)
  | _ => .no
def splitV : PV → PV → Rs PV
  | .str a, .str b => Rs.when ((b.length == 0) = false ∧ a.length + 2 ≤ sizeLine) (.lst true ((Txt.split a b).map PV.str))
  | _, _ => .no
def listV : PV → Rs PV
  | .lst _ xs => .ok (.lst true xs)
  | .tup xs => .ok (.lst true xs)
  | _ => .no
def tupleV : PV → Rs PV
  | .lst _ xs => .ok (.tup xs)
  | .tup xs => .ok (.tup xs)
  | _ => .no
def sumV : PV → Rs PV
  | .lst _ xs => match ints? xs with
    | some ns => .ok (.int ns.sum)
    | none => .no
  | _ => .no
def allV : PV → Rs PV
  | .lst _ xs => match bools? xs with
    | some bs => .ok (.bl (bs.all id))
    | none => .no
  | _ => .no
def maxV : PV → Rs PV
  | .lst _ xs => match ints? xs with
    | some ns => Rs.when (0 < ns.length) (.int (maxI ns))
    | none => .no
  | _ => .no
def minV : PV → Rs PV
  | .lst _ xs => match ints? xs with
    | some ns => Rs.when (0 < ns.length) (.int (minI ns))
    | none => .no
  | _ => .no
def max2V : PV → PV → Rs PV
  | .int i, .int j => .ok (.int (if j > i then j else i))
  | _, _ => .no
def min2V : PV → PV → Rs PV
  | .int i, .int j => .ok (.int (if j < i then j else i))
  | _, _ => .no
def bi1 : Bi → PV → Rs PV
  | .len => lenV
  | .abs => absV
  | .int => intV
  | .list => listV
  | .tuple => tupleV
  | .sum => sumV
  | .all => allV
  | .max => maxV
  | .min => minV
  | .str => strV
  | _ => fun _ => .no
def bi2 : Bi → PV → PV → Rs PV
  | .max => max2V
  | .min => min2V
  | _ => fun _ _ => .no
def biV (b : Bi) : List PV → Rs PV
  | [p] => bi1 b p
  | [p, q] => bi2 b p q
  | _ => .no

/-! ### slots -/
inductive Sl where
  | no
  | fz (p : PV)
  | own (xs : List PV)
abbrev Rho := List Sl
def getV (ρ : Rho) (i : Nat) : Rs PV :=
  match ρ[i]? with
  | some (.fz p) => .ok p
  | _ => .no
/-- a variable whose item is read: an owned list may stay owned -/
def getB (ρ : Rho) (i : Nat) : Rs PV :=
  match ρ[i]? with
  | some (.fz p) => .ok p
  | some (.own xs) => .ok (.lst true xs)
  | _ => .no
def wipeS (ρ : Rho) : List Nat → Rho
  | [] => ρ
  | v :: vs => (wipeS ρ vs).set v .no
/-- the target's slots are set -/
def setT (single : Bool) (tg : List Nat) (p : PV) (ρ : Rho) : Rs Rho :=
  match single, tg, p with
  | true, [i], p => .ok (ρ.set i (.fz p))
  | false, [i, j], .tup [x, y] => .ok ((ρ.set i (.fz x)).set j (.fz y))
  | false, [i, j], .lst _ [x, y] => .ok ((ρ.set i (.fz x)).set j (.fz y))
  | false, [i, j, k], .tup [x, y, z] => .ok (((ρ.set i (.fz x)).set j (.fz y)).set k (.fz z))
  | false, [i, j, k], .lst _ [x, y, z] => .ok (((ρ.set i (.fz x)).set j (.fz y)).set k (.fz z))
  | false, [i, j, k, l], .tup [x, y, z, w] => .ok ((((ρ.set i (.fz x)).set j (.fz y)).set k (.fz z)).set l (.fz w))
  | _, _, _ => .no
/-- over the items: f tells what is made of one (none: left out) -/
def compL (f : PV → Rs (Option PV)) : List PV → List PV → Rs (List PV)
  | [], acc => .ok acc
  | x :: xs, acc => match f x with
    | .ok none => compL f xs acc
    | .ok (some y) => if acc.length < sizeLine then compL f xs (acc ++ [y]) else .no
    | .err c => .err c
    | .no => .no
def i62 (k : Int) : Prop := -(2 ^ 62) ≤ k ∧ k < 2 ^ 62
instance (k : Int) : Decidable (i62 k) := by unfold i62; exact inferInstance
def rngL (lo : Int) (n : Nat) : List PV := (List.range n).map fun i => .int (lo + (i : Nat))
def itemsV : PV → Rs (List PV)
  | .lst _ xs => .ok xs
  | .tup xs => .ok xs
  | .str z => .ok (z.cps.toList.map sgnV)
  | _ => .no
def rng1V : PV → Rs (List PV)
  | .int j => Rs.when (i62 j) (rngL 0 j.toNat)
  | _ => .no
def rng2V : PV → PV → Rs (List PV)
  | .int i, .int j => Rs.when (i62 i ∧ i62 j) (rngL i (j - i).toNat)
  | _, _ => .no
def zipL : List PV → List PV → List PV
  | x :: xs, y :: ys => .tup [x, y] :: zipL xs ys
  | _, _ => []
def zipV : PV → PV → Rs (List PV)
  | .lst _ xs, .lst _ ys => .ok (zipL xs ys)
  | .tup xs, .tup ys => .ok (zipL xs ys)
  | _, _ => .no
def enumL (k : Nat) : List PV → List PV
  | [] => []
  | x :: xs => .tup [.int (k : Nat), x] :: enumL (k + 1) xs
def enumV : PV → Rs (List PV)
  | .lst _ xs => .ok (enumL 0 xs)
  | _ => .no
def boolV : PV → Rs Bool
  | .bl b => .ok b
  | _ => .no

/-! ### what terms are worth -/
abbrev Gt := Str → List PV → Rs PV
mutual
def eE (G : Gt) (ρ : Rho) : E → Rs PV
  | .non => .ok .non
  | .bl b => .ok (.bl b)
  | .int i => .ok (.int i)
  | .str x => .ok (.str x)
  | .gint _ i => .ok (.int i)
  | .gstr _ z => .ok (.str z)
  | .var i => getV ρ i
  | .op o a b => (eE G ρ a).bind fun p => (eE G ρ b).bind fun q => opV o p q
  | .neg a => (eE G ρ a).bind negV
  | .not a => (eE G ρ a).bind notV
  | .cmp o a b => (eE G ρ a).bind fun p => (eE G ρ b).bind fun q => cpV o p q
  | .chain o o2 a b c => (eE G ρ a).bind fun p => (eE G ρ b).bind fun q => (cpV o p q).bind fun r => (boolV r).bind fun k =>
      if k then (eE G ρ c).bind fun s => cpV o2 q s else .ok (.bl false)
  | .isN n a => (eE G ρ a).bind (isNV n)
  | .and a b => (eE G ρ a).bind fun p => (boolV p).bind fun k => if k then eE G ρ b else .ok (.bl false)
  | .or a b => (eE G ρ a).bind fun p => (boolV p).bind fun k => if k then .ok (.bl true) else eE G ρ b
  | .ix a i => (eE G ρ a).bind fun p => (eE G ρ i).bind fun q => ixV p q
  | .ixv v i => (getB ρ v).bind fun p => (eE G ρ i).bind fun q => ixV p q
  | .slLo a i => (eE G ρ a).bind fun p => (eE G ρ i).bind fun q => slLoV p q
  | .slHi a i => (eE G ρ a).bind fun p => (eE G ρ i).bind fun q => slHiV p q
  | .slLoV v i => (getB ρ v).bind fun p => (eE G ρ i).bind fun q => slLoV p q
  | .slHiV v i => (getB ρ v).bind fun p => (eE G ρ i).bind fun q => slHiV p q
  | .rvL a => (eE G ρ a).bind revV
  | .joinE a b => (eE G ρ a).bind fun p => (txtV p).bind fun p => (eE G ρ b).bind fun q => joinV p q
  | .splitE a b => (eE G ρ a).bind fun p => (txtV p).bind fun p => (eE G ρ b).bind fun q => splitV p q
  | .lst es => (eEs G ρ es).bind fun ps => Rs.when (ps.length ≤ sizeLine) (.lst true ps)
  | .tup es => (eEs G ρ es).bind fun ps => Rs.when (ps.length ≤ sizeLine) (.tup ps)
  | .bi b es => (eEs G ρ es).bind (biV b)
  | .isi a t => (eE G ρ a).bind (isiV t)
  | .call f es => (eEs G ρ es).bind (G f)
  | .comp own tg single it elt => (eI G ρ it).bind fun xs =>
      (compL (fun x => (setT single tg x (wipeS ρ own)).bind fun ρ1 => (eE G ρ1 elt).bind fun y => .ok (some y)) xs []).bind fun ys => .ok (.lst true ys)
  | .compIf own tg single it c elt => (eI G ρ it).bind fun xs =>
      (compL (fun x => (setT single tg x (wipeS ρ own)).bind fun ρ1 => (eE G ρ1 c).bind fun t => (boolV t).bind fun k =>
        if k then (eE G ρ1 elt).bind fun y => .ok (some y) else .ok none) xs []).bind fun ys => .ok (.lst true ys)
def eEs (G : Gt) (ρ : Rho) : Es → Rs (List PV)
  | .nil => .ok []
  | .cons e es => (eE G ρ e).bind fun p => (eEs G ρ es).bind fun ps => .ok (p :: ps)
def eI (G : Gt) (ρ : Rho) : It → Rs (List PV)
  | .val e => (eE G ρ e).bind itemsV
  | .rng1 e => (eE G ρ e).bind rng1V
  | .rng2 a b => (eE G ρ a).bind fun p => (eE G ρ b).bind fun q => rng2V p q
  | .zip a b => (eE G ρ a).bind fun p => (eE G ρ b).bind fun q => zipV p q
  | .enum a => (eE G ρ a).bind enumV
end
end SG

namespace SG
open PySem PySem.Spec PyProof.Rows L2

/-! ### how a tree lies in the abstract heap: H0 the def's entry, S the part that no one changes -/
mutual
def Rp (K : PySem.W.Frag) (H0 S : Hp) : PV → V → Prop
  | .non, v => v = .non
  | .bl b, v => v = .bl b
  | .int i, v => v = .int i
  | .str x, v => v = .str x
  | .scr xs, v => ∃ a, v = .ref a ∧ SqL K S a (xs.map V.int)
  | .lst y xs, v => ∃ a vs, v = .ref a ∧ S a = some (.lst vs) ∧ (y = true → H0 a = none) ∧ RpA K H0 S xs vs
  | .tup xs, v => ∃ a vs, v = .ref a ∧ S a = some (.tup vs) ∧ RpA K H0 S xs vs
def RpA (K : PySem.W.Frag) (H0 S : Hp) : List PV → List V → Prop
  | [], vs => vs = []
  | x :: xs, vs => ∃ v r, vs = v :: r ∧ Rp K H0 S x v ∧ RpA K H0 S xs r
end

section
variable {K : PySem.W.Frag} {H0 S S' H H' : Hp}
mutual
theorem Rp.mono (h : Same S S') : ∀ {p : PV} {v : V}, Rp K H0 S p v → Rp K H0 S' p v
  | .non, _, r => by rw [Rp] at r ⊢; exact r
  | .bl _, _, r => by rw [Rp] at r ⊢; exact r
  | .int _, _, r => by rw [Rp] at r ⊢; exact r
  | .str _, _, r => by rw [Rp] at r ⊢; exact r
  | .scr _, _, r => by
    rw [Rp] at r ⊢
    obtain ⟨a, e, q⟩ := r
    exact ⟨a, e, h.seq q⟩
  | .lst _ _, _, r => by
    rw [Rp] at r ⊢
    obtain ⟨a, vs, e, q, y, z⟩ := r
    exact ⟨a, vs, e, h _ _ q, y, RpA.mono h z⟩
  | .tup _, _, r => by
    rw [Rp] at r ⊢
    obtain ⟨a, vs, e, q, z⟩ := r
    exact ⟨a, vs, e, h _ _ q, RpA.mono h z⟩
theorem RpA.mono (h : Same S S') : ∀ {p : List PV} {v : List V}, RpA K H0 S p v → RpA K H0 S' p v
  | [], _, r => by rw [RpA] at r ⊢; exact r
  | _ :: _, _, r => by
    rw [RpA] at r ⊢
    obtain ⟨v, t, e, a, b⟩ := r
    exact ⟨v, t, e, Rp.mono h a, RpA.mono h b⟩
end
mutual
/-- the marks, told for an earlier entry -/
theorem Rp.early {H1 : Hp} (h : Same H1 H0) : ∀ {p : PV} {v : V}, Rp K H0 S p v → Rp K H1 S p v
  | .non, _, r => by rw [Rp] at r ⊢; exact r
  | .bl _, _, r => by rw [Rp] at r ⊢; exact r
  | .int _, _, r => by rw [Rp] at r ⊢; exact r
  | .str _, _, r => by rw [Rp] at r ⊢; exact r
  | .scr _, _, r => by
    rw [Rp] at r ⊢
    exact r
  | .lst _ _, _, r => by
    rw [Rp] at r ⊢
    obtain ⟨a, vs, e, q, y, z⟩ := r
    exact ⟨a, vs, e, q, fun k => h.free (y k), RpA.early h z⟩
  | .tup _, _, r => by
    rw [Rp] at r ⊢
    obtain ⟨a, vs, e, q, z⟩ := r
    exact ⟨a, vs, e, q, RpA.early h z⟩
theorem RpA.early {H1 : Hp} (h : Same H1 H0) : ∀ {p : List PV} {v : List V}, RpA K H0 S p v → RpA K H1 S p v
  | [], _, r => by rw [RpA] at r ⊢; exact r
  | _ :: _, _, r => by
    rw [RpA] at r ⊢
    obtain ⟨v, t, e, a, b⟩ := r
    exact ⟨v, t, e, Rp.early h a, RpA.early h b⟩
end
end

mutual
/-- the marks taken off: as an argument goes into a def -/
def PV.old : PV → PV
  | .non => .non
  | .bl b => .bl b
  | .int i => .int i
  | .str x => .str x
  | .scr xs => .scr xs
  | .lst _ xs => .lst false (PV.olds xs)
  | .tup xs => .tup (PV.olds xs)
def PV.olds : List PV → List PV
  | [] => []
  | x :: xs => PV.old x :: PV.olds xs
end
mutual
/-- no list within -/
def PV.lf : PV → Bool
  | .scr _ => false
  | .lst _ _ => false
  | .tup xs => PV.lfs xs
  | _ => true
def PV.lfs : List PV → Bool
  | [] => true
  | x :: xs => PV.lf x && PV.lfs xs
end
section
variable {K : PySem.W.Frag} {H0 S S' H H' : Hp}
mutual
theorem Rp.oldM {H1 : Hp} : ∀ {p : PV} {v : V}, Rp K H0 S p v → Rp K H1 S p.old v
  | .non, _, r => by rw [PV.old]; rw [Rp] at r ⊢; exact r
  | .bl _, _, r => by rw [PV.old]; rw [Rp] at r ⊢; exact r
  | .int _, _, r => by rw [PV.old]; rw [Rp] at r ⊢; exact r
  | .str _, _, r => by rw [PV.old]; rw [Rp] at r ⊢; exact r
  | .scr _, _, r => by
    rw [PV.old]
    rw [Rp] at r ⊢
    exact r
  | .lst _ _, _, r => by
    rw [PV.old]
    rw [Rp] at r ⊢
    obtain ⟨a, vs, e, q, y, z⟩ := r
    exact ⟨a, vs, e, q, fun k => Bool.noConfusion k, RpA.oldM z⟩
  | .tup _, _, r => by
    rw [PV.old]
    rw [Rp] at r ⊢
    obtain ⟨a, vs, e, q, z⟩ := r
    exact ⟨a, vs, e, q, RpA.oldM z⟩
theorem RpA.oldM {H1 : Hp} : ∀ {p : List PV} {v : List V}, RpA K H0 S p v → RpA K H1 S (PV.olds p) v
  | [], _, r => by rw [PV.olds]; rw [RpA] at r ⊢; exact r
  | _ :: _, _, r => by
    rw [PV.olds]
    rw [RpA] at r ⊢
    obtain ⟨v, t, e, a, b⟩ := r
    exact ⟨v, t, e, Rp.oldM a, RpA.oldM b⟩
end
/-- a place taken out -/
def rmv (S : Hp) (a : Addr) : Hp := fun b => if b = a then none else S b
theorem rmv_self {a : Addr} : rmv S a a = none := by unfold rmv; rw [if_pos rfl]
theorem rmv_ne {a b : Addr} (h : b ≠ a) : rmv S a b = S b := by unfold rmv; rw [if_neg h]
theorem rmv_same {a : Addr} : Same (rmv S a) S := fun b o h => by
  unfold rmv at h
  split at h
  · cases h
  · exact h
mutual
theorem Rp.out {a : Addr} {ws : List V} (ha : S a = some (.lst ws)) : ∀ {p : PV} {v : V}, p.lf = true → Rp K H0 S p v → Rp K H0 (rmv S a) p v
  | .non, _, _, r => by rw [Rp] at r ⊢; exact r
  | .bl _, _, _, r => by rw [Rp] at r ⊢; exact r
  | .int _, _, _, r => by rw [Rp] at r ⊢; exact r
  | .str _, _, _, r => by rw [Rp] at r ⊢; exact r
  | .scr _, _, l, _ => by rw [PV.lf] at l; cases l
  | .lst _ _, _, l, _ => by rw [PV.lf] at l; cases l
  | .tup _, _, l, r => by
    rw [PV.lf] at l
    rw [Rp] at r ⊢
    obtain ⟨t, vs, e, q, z⟩ := r
    have ne : t ≠ a := fun k => by rw [k, ha] at q; cases q
    exact ⟨t, vs, e, (rmv_ne ne).trans q, RpA.out ha l z⟩
theorem RpA.out {a : Addr} {ws : List V} (ha : S a = some (.lst ws)) : ∀ {p : List PV} {v : List V}, PV.lfs p = true → RpA K H0 S p v → RpA K H0 (rmv S a) p v
  | [], _, _, r => by rw [RpA] at r ⊢; exact r
  | _ :: _, _, l, r => by
    rw [PV.lfs, Bool.and_eq_true] at l
    rw [RpA] at r ⊢
    obtain ⟨v, t, e, x, b⟩ := r
    exact ⟨v, t, e, Rp.out ha l.1 x, RpA.out ha l.2 b⟩
end

/-! ### rows of values -/
theorem RpA.len : ∀ {xs : List PV} {vs : List V}, RpA K H0 S xs vs → vs.length = xs.length
  | [], _, r => by rw [RpA] at r; rw [r]; rfl
  | _ :: xs, _, r => by
    rw [RpA] at r
    obtain ⟨v, t, e, a, b⟩ := r
    rw [e, List.length_cons, List.length_cons, RpA.len b]
theorem RpA.nil : RpA K H0 S [] [] := by rw [RpA]
theorem RpA.cons {p : PV} {v : V} {xs : List PV} {vs : List V} (a : Rp K H0 S p v) (b : RpA K H0 S xs vs) : RpA K H0 S (p :: xs) (v :: vs) := by
  rw [RpA]; exact ⟨v, vs, rfl, a, b⟩
theorem RpA.get : ∀ {xs : List PV} {vs : List V} {i : Nat} {p : PV}, RpA K H0 S xs vs → xs[i]? = some p → ∃ v, vs[i]? = some v ∧ Rp K H0 S p v
  | [], _, _, _, _, e => by simp at e
  | x :: xs, _, 0, p, r, e => by
    rw [RpA] at r
    obtain ⟨v, t, e1, a, b⟩ := r
    subst e1
    simp at e
    subst e
    exact ⟨v, rfl, a⟩
  | x :: xs, _, i + 1, p, r, e => by
    rw [RpA] at r
    obtain ⟨v, t, e1, a, b⟩ := r
    subst e1
    obtain ⟨w, h1, h2⟩ := RpA.get (i := i) (p := p) b (by simpa using e)
    exact ⟨w, by simpa using h1, h2⟩
theorem RpA.app : ∀ {xs ys : List PV} {vs ws : List V}, RpA K H0 S xs vs → RpA K H0 S ys ws → RpA K H0 S (xs ++ ys) (vs ++ ws)
  | [], _, _, _, r, s => by rw [RpA] at r; rw [r]; exact s
  | _ :: _, _, _, _, r, s => by
    rw [RpA] at r
    obtain ⟨v, t, e1, a, b⟩ := r
    subst e1
    exact RpA.cons a (RpA.app b s)
theorem RpA.take : ∀ {xs : List PV} {vs : List V} (n : Nat), RpA K H0 S xs vs → RpA K H0 S (xs.take n) (vs.take n)
  | _, _, 0, _ => by simp; exact RpA.nil
  | [], _, _ + 1, r => by rw [RpA] at r; rw [r]; exact RpA.nil
  | _ :: _, _, n + 1, r => by
    rw [RpA] at r
    obtain ⟨v, t, e1, a, b⟩ := r
    subst e1
    exact RpA.cons a (RpA.take n b)
theorem RpA.drop : ∀ {xs : List PV} {vs : List V} (n : Nat), RpA K H0 S xs vs → RpA K H0 S (xs.drop n) (vs.drop n)
  | _, _, 0, r => r
  | [], _, _ + 1, r => by rw [RpA] at r; rw [r]; exact RpA.nil
  | _ :: _, _, n + 1, r => by
    rw [RpA] at r
    obtain ⟨v, t, e1, a, b⟩ := r
    subst e1
    exact RpA.drop n b
theorem RpA.set : ∀ {xs : List PV} {vs : List V} {p : PV} {v : V} (i : Nat), Rp K H0 S p v → RpA K H0 S xs vs → RpA K H0 S (xs.set i p) (vs.set i v)
  | [], _, _, _, _, _, r => by rw [RpA] at r; rw [r]; exact RpA.nil
  | _ :: _, _, _, _, 0, q, r => by
    rw [RpA] at r
    obtain ⟨v, t, e1, a, b⟩ := r
    subst e1
    exact RpA.cons q b
  | _ :: _, _, _, _, i + 1, q, r => by
    rw [RpA] at r
    obtain ⟨v, t, e1, a, b⟩ := r
    subst e1
    exact RpA.cons a (RpA.set i q b)
theorem RpA.rep {xs : List PV} {vs : List V} (r : RpA K H0 S xs vs) : ∀ n : Nat, RpA K H0 S (List.replicate n xs).flatten (List.replicate n vs).flatten
  | 0 => RpA.nil
  | n + 1 => by
    rw [List.replicate_succ, List.replicate_succ, List.flatten_cons, List.flatten_cons]
    exact RpA.app r (RpA.rep r n)
theorem RpA.snoc {xs : List PV} {vs : List V} {p : PV} {v : V} (r : RpA K H0 S xs vs) (q : Rp K H0 S p v) : RpA K H0 S (xs ++ [p]) (vs ++ [v]) := RpA.app r (RpA.cons q RpA.nil)
theorem RpA.cut {xs : List PV} {vs : List V} (lo hi : Option Int) (r : RpA K H0 S xs vs) : RpA K H0 S (cutL xs lo hi) (cutV vs lo hi) := by
  unfold cutL cutV
  rw [r.len]
  exact RpA.take _ (RpA.drop _ r)
theorem RpA.reverse : ∀ {xs : List PV} {vs : List V}, RpA K H0 S xs vs → RpA K H0 S xs.reverse vs.reverse
  | [], _, r => by rw [RpA] at r; rw [r]; exact RpA.nil
  | _ :: _, _, r => by
    rw [RpA] at r
    obtain ⟨v, t, e1, a, b⟩ := r
    subst e1
    rw [List.reverse_cons, List.reverse_cons]
    exact RpA.snoc (RpA.reverse b) a
theorem RpA.atI {xs : List PV} {vs : List V} {i : Int} {p : PV} (r : RpA K H0 S xs vs) (e : atI xs i = some p) : ∃ v, L2.atI vs i = some v ∧ Rp K H0 S p v := by
  unfold L2.atI at e ⊢
  rw [r.len]
  cases h : ixN xs.length i with
  | none => rw [h] at e; cases e
  | some j =>
    rw [h] at e
    exact RpA.get r e
theorem RpA.ints : ∀ {xs : List PV} {vs : List V} {ns : List Int}, RpA K H0 S xs vs → ints? xs = some ns → vs = ns.map V.int
  | [], _, _, r, e => by
    rw [RpA] at r
    rw [ints?] at e
    injection e with e
    rw [r, ← e]; rfl
  | .int i :: xs, _, ns, r, e => by
    rw [RpA] at r
    obtain ⟨v, t, e1, a, b⟩ := r
    rw [ints?] at e
    cases h : ints? xs with
    | none => rw [h] at e; cases e
    | some ms =>
      rw [h] at e
      injection e with e
      rw [Rp] at a
      rw [e1, a, ← e, RpA.ints b h]; rfl
  | .non :: _, _, _, _, e => by rw [ints?] at e <;> first | cases e | (intro _ _ z; cases z)
  | .bl _ :: _, _, _, _, e => by rw [ints?] at e <;> first | cases e | (intro _ _ z; cases z)
  | .str _ :: _, _, _, _, e => by rw [ints?] at e <;> first | cases e | (intro _ _ z; cases z)
  | .scr _ :: _, _, _, _, e => by rw [ints?] at e <;> first | cases e | (intro _ _ z; cases z)
  | .lst _ _ :: _, _, _, _, e => by rw [ints?] at e <;> first | cases e | (intro _ _ z; cases z)
  | .tup _ :: _, _, _, _, e => by rw [ints?] at e <;> first | cases e | (intro _ _ z; cases z)
theorem RpA.bools : ∀ {xs : List PV} {vs : List V} {ns : List Bool}, RpA K H0 S xs vs → bools? xs = some ns → vs = ns.map V.bl
  | [], _, _, r, e => by
    rw [RpA] at r
    rw [bools?] at e
    injection e with e
    rw [r, ← e]; rfl
  | .bl i :: xs, _, ns, r, e => by
    rw [RpA] at r
    obtain ⟨v, t, e1, a, b⟩ := r
    rw [bools?] at e
    cases h : bools? xs with
    | none => rw [h] at e; cases e
    | some ms =>
      rw [h] at e
      injection e with e
      rw [Rp] at a
      rw [e1, a, ← e, RpA.bools b h]; rfl
  | .non :: _, _, _, _, e => by rw [bools?] at e <;> first | cases e | (intro _ _ z; cases z)
  | .int _ :: _, _, _, _, e => by rw [bools?] at e <;> first | cases e | (intro _ _ z; cases z)
  | .str _ :: _, _, _, _, e => by rw [bools?] at e <;> first | cases e | (intro _ _ z; cases z)
  | .scr _ :: _, _, _, _, e => by rw [bools?] at e <;> first | cases e | (intro _ _ z; cases z)
  | .lst _ _ :: _, _, _, _, e => by rw [bools?] at e <;> first | cases e | (intro _ _ z; cases z)
  | .tup _ :: _, _, _, _, e => by rw [bools?] at e <;> first | cases e | (intro _ _ z; cases z)
mutual
theorem Rp.dp (h : Same S H) : ∀ {p : PV} {v : V}, okD p = true → Rp K H0 S p v → Dp K H v p.toD
  | .non, _, _, r => by rw [Rp] at r; rw [r, PV.toD]; exact .non
  | .bl _, _, _, r => by rw [Rp] at r; rw [r, PV.toD]; exact .bl _
  | .int _, _, _, r => by rw [Rp] at r; rw [r, PV.toD]; exact .int _
  | .str _, _, _, r => by rw [Rp] at r; rw [r, PV.toD]; exact .str _
  | .scr _, _, d, r => by
    unfold okD SeqAt.shaped at d
    rw [PV.toD, Bool.and_eq_true] at d
    exact absurd d.1 (by decide)
  | .lst _ xs, _, d, r => by
    rw [Rp] at r
    obtain ⟨a, vs, e, q, y, z⟩ := r
    rw [e, PV.toD]
    refine .lst (.of (h _ _ q)) (RpA.dp h ?_ z)
    have := SeqAt.canLay_of_shaped d
    rw [PV.toD, PyData.canLay0] at this
    exact this
  | .tup xs, _, d, r => by
    rw [Rp] at r
    obtain ⟨a, vs, e, q, z⟩ := r
    rw [e, PV.toD]
    refine .tup (.of (h _ _ q)) (RpA.dp h ?_ z)
    have := SeqAt.canLay_of_shaped d
    rw [PV.toD, PyData.canLay0] at this
    exact this
theorem RpA.dp (h : Same S H) : ∀ {p : List PV} {v : List V}, PyData.canLayAll0 (PV.toDs p) = true → RpA K H0 S p v → DpAll K H v (PV.toDs p)
  | [], _, _, r => by rw [RpA] at r; rw [r, PV.toDs]; exact .nil
  | x :: xs, _, d, r => by
    rw [RpA] at r
    obtain ⟨v, t, e, a, b⟩ := r
    rw [PV.toDs, PyData.canLayAll0, Bool.and_eq_true] at d
    rw [e, PV.toDs]
    exact .cons (Rp.dp0 h d.1 a) (RpA.dp h d.2 b)
theorem Rp.dp0 (h : Same S H) : ∀ {p : PV} {v : V}, p.toD.canLay0 = true → Rp K H0 S p v → Dp K H v p.toD
  | .non, _, _, r => by rw [Rp] at r; rw [r, PV.toD]; exact .non
  | .bl _, _, _, r => by rw [Rp] at r; rw [r, PV.toD]; exact .bl _
  | .int _, _, _, r => by rw [Rp] at r; rw [r, PV.toD]; exact .int _
  | .str _, _, _, r => by rw [Rp] at r; rw [r, PV.toD]; exact .str _
  | .scr _, _, d, r => by
    rw [PV.toD] at d
    exact absurd d (by decide)
  | .lst _ xs, _, d, r => by
    rw [Rp] at r
    obtain ⟨a, vs, e, q, y, z⟩ := r
    rw [e, PV.toD]
    rw [PV.toD, PyData.canLay0] at d
    exact .lst (.of (h _ _ q)) (RpA.dp h d z)
  | .tup xs, _, d, r => by
    rw [Rp] at r
    obtain ⟨a, vs, e, q, z⟩ := r
    rw [e, PV.toD]
    rw [PV.toD, PyData.canLay0] at d
    exact .tup (.of (h _ _ q)) (RpA.dp h d z)
end

/-! ### steps of the heap -/
/-- S grows, H keeps what it held; what is loose (in H, not in S) stays so -/
structure Ext (S H S' H' : Hp) : Prop where
  st : Same S S'
  in' : Same S' H'
  ls : ∀ a o, H a = some o → S a = none → H' a = some o ∧ S' a = none
theorem Ext.refl (h : Same S H) : Ext S H S H := ⟨Same.refl _, h, fun _ _ a b => ⟨a, b⟩⟩
theorem Ext.trans {S1 H1 S2 H2 : Hp} (a : Ext S H S1 H1) (b : Ext S1 H1 S2 H2) : Ext S H S2 H2 :=
  ⟨a.st.trans b.st, b.in', fun x o h1 h2 => let ⟨c, d⟩ := a.ls x o h1 h2; b.ls x o c d⟩
theorem Ext.same {S1 H1 : Hp} (a : Ext S H S1 H1) (h : Same S H) : Same H H1 := fun b o e => by
  cases q : S b with
  | some u =>
    have := h b u q
    rw [e] at this; cases this
    exact a.in' _ _ (a.st _ _ q)
  | none => exact (a.ls b o e q).1
theorem same_upd {p : Addr} {o : HO} (h : H p = none) : Same H (upd H p o) := fun b x e => by
  rw [upd_ne (ne_of_none e h)]; exact e
theorem upd_both {p : Addr} {o : HO} (h : Same S H) : Same (upd S p o) (upd H p o) := fun b x e => by
  by_cases hb : b = p
  · subst hb
    rw [upd_same] at e ⊢; exact e
  · rw [upd_ne hb] at e ⊢; exact h _ _ e
/-- a new object -/
theorem Ext.new {p : Addr} {o : HO} (h : Same S H) (n : H p = none) : Ext S H (upd S p o) (upd H p o) :=
  ⟨same_upd (h.free n), upd_both h, fun a x e1 e2 => by
    have ne : a ≠ p := ne_of_none e1 n
    rw [upd_ne ne, upd_ne ne]; exact ⟨e1, e2⟩⟩
end
end SG

namespace SG
open PySem PySem.Spec PyProof.Rows L2
/-! a tuple taken no times -/
theorem tuple_mulW0 (l : Addr) (items : Array Value) (n : Nat) (dd : Option Addr) (sl : Array (Option Value)) (x : Int) (u : Tok) (c0 : (decide (x < -(2 ^ 63)) || decide (x ≥ 2 ^ 63)) = false) (c1 : (items.isEmpty || x == 1) = false) (c2 : (decide (x ≤ 0) || items.isEmpty) = true) :
    Meets (Builtin.«tuple.__mul__» ⟨[.ref l, .int x u], []⟩) (fun _ R s => s.heap.get? l = some { cls := .type "tuple", dict := dd, data := .seq items n, slots := sl } ∧
      R (.ok (.ret (Value.ref s.heap.objs.size))) { s with heap := s.heap.push { cls := Value.type "tuple", data := Data.seq #[] }, toks := s.toks }) :=
  .of_wp fun prog w A R s h => by
    obtain ⟨hp, g, d, tk, os⟩ := s
    obtain ⟨hl, h⟩ := h
    have f1 := AutoSeq1.idx_int
    wp_walk using wpAny_loadPart' hl
    repeat (first
      | (refine wpAny_ite_false (decide_eq_false (by rw [c0]; exact Bool.false_ne_true)) ?_; wp_walk using wpAny_loadPart' hl)
      | (refine wpAny_ite_false (decide_eq_false (by rw [c1]; exact Bool.false_ne_true)) ?_; wp_walk using wpAny_loadPart' hl)
      | (refine wpAny_ite_true (decide_eq_true (by rw [c2])) ?_; wp_walk using wpAny_loadPart' hl))
    exact ⟨_, rfl, h⟩
def rRep0 (K : PySem.W.Frag) : R2 := fun x y H Q => ∃ l k xs, x = .ref l ∧ y = .int k ∧ SqT K H l xs ∧ xs ≠ [] ∧ k = 0 ∧ ∀ p, H p = none → Q (.ref p) (upd H p (.tup []))
section
variable {X : Cx}
theorem op_rep0 : OpR X (binaryOp .Mult) (rRep0 X.K) := by
  intro pins s σ H x y v u Q I rx ry h
  obtain ⟨l, k, xs, rfl, rfl, hT, hne, h1, q⟩ := h
  cases rx
  obtain ⟨t, rfl⟩ := ry
  obtain ⟨its, r, ⟨⟨cls, dd, data, sl⟩, ho, hc, n, hd⟩, hs⟩ := I.tuple hT
  simp only at hc hd
  subst hc hd
  have hle : its.length = xs.length := r.length.symm
  have hn : its ≠ [] := fun e => hne (by
    rw [e] at hle
    exact List.eq_nil_of_length_eq_zero hle.symm)
  have hi : its.toArray.isEmpty = false := by
    cases its with
    | nil => exact absurd rfl hn
    | cons a b => rfl
  have c0 : (decide (k < -(2 ^ 63)) || decide (k ≥ 2 ^ 63)) = false := by
    rw [decide_eq_false (by omega), decide_eq_false (by omega)] <;> rfl
  have c1 : (its.toArray.isEmpty || k == 1) = false := by
    rw [hi, Bool.false_or]
    exact beq_eq_false_iff_ne.mpr (by omega)
  have c2 : (decide (k ≤ 0) || its.toArray.isEmpty) = true := by
    rw [hi, Bool.or_false]
    exact decide_eq_true (by omega)
  refine wpAny_binaryOp_repeat_ref (T := "tuple") (U := "int") (by decide) ⟨_, ho, rfl⟩ (fun s' => typeIs_int s' k t) noFill_tuple_mul F.fills_int_mul F.slot_int_rmul repeat_tuple F.slot_int_index.lookup
    (call_meets F.slot_int_rmul (typeIs_int s k t) F.entry_int_rmul (F.args_int_rmul_2 _ _) (int_rmul_tuple k t l its.toArray n dd sl)
      ⟨ho, rfl, ⟨_, ho, rfl⟩, call_meets F.slot_tuple_mul ⟨_, ho, rfl⟩ F.entry_tuple_mul (F.args_tuple_mul_2 _ _) (tuple_mulW0 l its.toArray n dd sl k t c0 c1 c2) ⟨ho, ?_⟩⟩)
  refine ⟨.ref s.heap.objs.size, _, I.laid (t' := s.toks) (o := .tup []) (fun b ob q => Heap.get?_push_of_some _ q) (Nat.le_refl _) ?_, rfl, q _ (I.hok.fresh (Nat.le_refl _))⟩
  exact ⟨by simp, _, .nil, IsTup.new _ _⟩
end
end SG

namespace SG
open PySem PySem.Spec PyProof.Rows L2

/-- a list that is marked stands at a place that was free ahead of the step -/
def Nw (H : Hp) (v : V) (r : PV) : Prop := ∀ xs, r = .lst true xs → ∃ a, v = .ref a ∧ H a = none
def Ans (b : Bool) (K : PySem.W.Frag) (H0 S H : Hp) (r : PV) (Q : VK) : Prop := ∀ v H' S', Ext S H S' H' → Rp K H0 S' r v → (b = true → Nw H v r) → Q v H'
theorem nw_of {H : Hp} {v : V} {r : PV} {b : Bool} (h : ∀ xs, r ≠ .lst true xs) : b = true → Nw H v r := fun _ xs e => absurd e (h xs)
section
variable {b : Bool} {K : PySem.W.Frag} {H0 S H : Hp} {Q : VK}
theorem Ans.int {i : Int} (a : Ans b K H0 S H (.int i) Q) (h : Same S H) : Q (.int i) H := a _ _ _ (.refl h) (by rw [Rp]) (nw_of fun _ e => PV.noConfusion e)
theorem Ans.bl {i : Bool} (a : Ans b K H0 S H (.bl i) Q) (h : Same S H) : Q (.bl i) H := a _ _ _ (.refl h) (by rw [Rp]) (nw_of fun _ e => PV.noConfusion e)
theorem Ans.non (a : Ans b K H0 S H .non Q) (h : Same S H) : Q .non H := a _ _ _ (.refl h) (by rw [Rp]) (nw_of fun _ e => PV.noConfusion e)
theorem Ans.str {i : Str} (a : Ans b K H0 S H (.str i) Q) (h : Same S H) : Q (.str i) H := a _ _ _ (.refl h) (by rw [Rp]) (nw_of fun _ e => PV.noConfusion e)
theorem Ans.lst {xs : List PV} {vs : List V} {p : Addr} (a : Ans b K H0 S H (.lst true xs) Q) (h0 : Same H0 H) (h : Same S H) (n : H p = none) (r : RpA K H0 S xs vs) : Q (.ref p) (upd H p (.lst vs)) := by
  have n2 : S p = none := h.free n
  refine a _ _ _ (.new h n) ?_ fun _ _ _ => ⟨p, rfl, n⟩
  rw [Rp]
  exact ⟨p, vs, rfl, L2.upd_same, fun _ => h0.free n, r.mono (same_upd n2)⟩
theorem Ans.tup {xs : List PV} {vs : List V} {p : Addr} (a : Ans b K H0 S H (.tup xs) Q) (h : Same S H) (n : H p = none) (r : RpA K H0 S xs vs) : Q (.ref p) (upd H p (.tup vs)) := by
  have n2 : S p = none := h.free n
  refine a _ _ _ (.new h n) ?_ (nw_of fun _ e => PV.noConfusion e)
  rw [Rp]
  exact ⟨p, vs, rfl, L2.upd_same, r.mono (same_upd n2)⟩
/-- a value as it stands, no new list -/
theorem Ans.here {r : PV} {v : V} (a : Ans b K H0 S H r Q) (h : Same S H) (q : Rp K H0 S r v) (n : ∀ xs, r ≠ .lst true xs) : Q v H := a _ _ _ (.refl h) q (nw_of n)
theorem Ans.any {r : PV} {v : V} (a : Ans false K H0 S H r Q) (h : Same S H) (q : Rp K H0 S r v) : Q v H := a _ _ _ (.refl h) q fun z => Bool.noConfusion z
end

def rV2 (b : Bool) (K : PySem.W.Frag) (H0 : Hp) (f : PV → PV → Rs PV) : R2 := fun x y H Q =>
  ∃ S p q r, Same H0 H ∧ Same S H ∧ Rp K H0 S p x ∧ Rp K H0 S q y ∧ f p q = .ok r ∧ Ans b K H0 S H r Q
def rV1 (b : Bool) (K : PySem.W.Frag) (H0 : Hp) (f : PV → Rs PV) : V → Hp → VK → Prop := fun x H Q =>
  ∃ S p r, Same H0 H ∧ Same S H ∧ Rp K H0 S p x ∧ f p = .ok r ∧ Ans b K H0 S H r Q
def rVL (b : Bool) (K : PySem.W.Frag) (H0 : Hp) (f : List PV → Rs PV) : List V → Hp → VK → Prop := fun xs H Q =>
  ∃ S ps r, Same H0 H ∧ Same S H ∧ RpA K H0 S ps xs ∧ f ps = .ok r ∧ Ans b K H0 S H r Q

theorem MulOk.ok {i j : Int} (h : MulOk i j) : IntMulOk i j := by
  rcases h with h | h | h
  · exact CMul.ok (.inl ⟨by omega, by omega⟩)
  · exact CMul.ok (.inr ⟨by omega, by omega⟩)
  · exact CMulW.ok h
section
variable {b : Bool} {X : Cx} {H0 : Hp}
theorem opAdd : OpR X (binaryOp .Add) (rV2 b X.K H0 addV) := by
  intro pins s σ H x y v u Q I rx ry h
  obtain ⟨S, p, q, r, h0, hs, rp, rq, e, ans⟩ := h
  cases p with
  | int a =>
    cases q with
    | int b =>
      rw [Rp] at rp rq
      injection e with e
      subst e
      exact op_add pins s σ H x y v u Q I rx ry ⟨a, b, rp, rq, ans.int hs⟩
    | _ => cases e
  | lst m xs =>
    cases q with
    | lst n ys =>
      rw [Rp] at rp rq
      obtain ⟨a, vs, e1, qa, _, za⟩ := rp
      obtain ⟨b, ws, e2, qb, _, zb⟩ := rq
      obtain ⟨hl, e⟩ := Rs.when_ok e
      subst e
      exact op_cat pins s σ H x y v u Q I rx ry ⟨a, b, vs, ws, e1, e2, hs _ _ qa, hs _ _ qb, by rw [za.len, zb.len]; exact hl, fun p n => ans.lst h0 hs n (za.app zb)⟩
    | _ => cases e
  | tup xs =>
    cases q with
    | tup ys =>
      have rp' := rp
      have rq' := rq
      rw [Rp] at rp rq
      obtain ⟨a, vs, e1, qa, za⟩ := rp
      obtain ⟨b, ws, e2, qb, zb⟩ := rq
      obtain ⟨hl, e⟩ := Rs.when_ok e
      subst e
      refine op_catA pins s σ H x y v u Q I rx ry ⟨a, b, vs, ws, e1, e2, .of (hs _ _ qa), .of (hs _ _ qb), by rw [za.len, zb.len]; exact hl, fun z => ?_, fun z1 z2 => ?_, fun _ _ p n => ans.tup hs n (za.app zb)⟩
      · subst z
        have : xs = [] := List.eq_nil_of_length_eq_zero za.len.symm
        subst this
        rw [← e2]
        exact ans.here hs rq' fun _ e => PV.noConfusion e
      · subst z2
        have : ys = [] := List.eq_nil_of_length_eq_zero zb.len.symm
        subst this
        rw [← e1]
        refine ans.here hs ?_ fun _ e => PV.noConfusion e
        rw [List.append_nil]
        exact rp'
    | _ => cases e
  | str a =>
    cases q with
    | str b =>
      rw [Rp] at rp rq
      obtain ⟨hl, e⟩ := Rs.when_ok e
      subst e
      exact op_add_str pins s σ H x y v u Q I rx ry ⟨a, b, rp, rq, hl, ans.str hs⟩
    | _ => cases e
  | _ => cases e
theorem opSub : OpR X (binaryOp .Sub) (rV2 b X.K H0 subV) := by
  intro pins s σ H x y v u Q I rx ry h
  obtain ⟨S, p, q, r, h0, hs, rp, rq, e, ans⟩ := h
  cases p with
  | int a =>
    cases q with
    | int b =>
      rw [Rp] at rp rq
      injection e with e
      subst e
      exact op_sub pins s σ H x y v u Q I rx ry ⟨a, b, rp, rq, ans.int hs⟩
    | _ => cases e
  | _ => cases e
theorem opFdiv : OpR X (binaryOp .FloorDiv) (rV2 b X.K H0 fdivV) := by
  intro pins s σ H x y v u Q I rx ry h
  obtain ⟨S, p, q, r, h0, hs, rp, rq, e, ans⟩ := h
  cases p with
  | int a =>
    cases q with
    | int b =>
      rw [Rp] at rp rq
      obtain ⟨⟨hd1, hd2⟩, e⟩ := Rs.when_ok e
      subst e rp rq
      obtain ⟨t, rfl⟩ := rx
      obtain ⟨t', rfl⟩ := ry
      exact floordiv_int hd1 ⟨.int _, H, I.tok _, ⟨_, rfl⟩, ans.int hs⟩ (.inl (PyProof.noPylong_of_log2 hd2))
    | _ => cases e
  | _ => cases e
theorem opMod : OpR X (binaryOp .Mod) (rV2 b X.K H0 modV) := by
  intro pins s σ H x y v u Q I rx ry h
  obtain ⟨S, p, q, r, h0, hs, rp, rq, e, ans⟩ := h
  cases p with
  | int a =>
    cases q with
    | int b =>
      rw [Rp] at rp rq
      obtain ⟨hd, e⟩ := Rs.when_ok e
      subst e
      exact op_modN pins s σ H x y v u Q I rx ry ⟨a, b, rp, rq, hd, ans.int hs⟩
    | _ => cases e
  | _ => cases e
theorem opPow : OpR X (binaryOp .Pow) (rV2 b X.K H0 powV) := by
  intro pins s σ H x y v u Q I rx ry h
  obtain ⟨S, p, q, r, h0, hs, rp, rq, e, ans⟩ := h
  cases p with
  | int a =>
    cases q with
    | int b =>
      rw [Rp] at rp rq
      obtain ⟨hd, e⟩ := Rs.when_ok e
      subst e
      exact op_pow pins s σ H x y v u Q I rx ry ⟨a, b, rp, rq, hd, ans.int hs⟩
    | _ => cases e
  | _ => cases e
/-- t * 1 is t -/
theorem tupMulOne (l : Addr) (items : Array Value) (n : Nat) (dd : Option Addr) (sl : Array (Option Value)) (u : Tok) :
    Meets (Builtin.«tuple.__mul__» ⟨[.ref l, .int 1 u], []⟩) (fun _ R s => s.heap.get? l = some { cls := .type "tuple", dict := dd, data := .seq items n, slots := sl } ∧ R (.ok (.ret (.ref l))) s) :=
  .of_wp fun prog w A R s h => by
    obtain ⟨hp, g, d, tk, os⟩ := s
    obtain ⟨hl, hR⟩ := h
    have f1 := AutoSeq1.idx_int
    wp_walk using wpAny_loadPart' hl
    all_goals (first | (refine wpAny_ite_false (by decide) ?_; wp_walk using wpAny_loadPart' hl) | skip)
    all_goals (first | (refine wpAny_ite_true (by rw [Bool.or_eq_true]; exact .inr rfl) ?_; wp_walk using wpAny_loadPart' hl) | skip)
    exact ⟨_, rfl, hR⟩
theorem opRepOne {pins : List (Addr × Obj)} {s : Shared} {σ : L2.St} {H : Hp} {l : Addr} {vs : List V} {t : Tok} {Q : VK} (I : Inv X pins σ H s) (hT : SqT X.K H l vs) (q : Q (.ref l) H) :
    wpAny (model X.prog X.w) X.A (binaryOp .Mult (.ref l) (.int 1 t)) (EP X pins σ Q) X.xe s := by
  obtain ⟨its, r, ⟨⟨cls, dd, data, sl⟩, ho, hc, n, hd⟩, hz⟩ := I.tuple hT
  simp only at hc hd
  subst hc hd
  exact wpAny_binaryOp_repeat_ref (T := "tuple") (U := "int") (by decide) ⟨_, ho, rfl⟩ (fun s' => typeIs_int s' 1 t) noFill_tuple_mul F.fills_int_mul F.slot_int_rmul repeat_tuple F.slot_int_index.lookup
    (call_meets F.slot_int_rmul (typeIs_int s 1 t) F.entry_int_rmul (F.args_int_rmul_2 _ _) (int_rmul_tuple 1 t l its.toArray n dd sl)
      ⟨ho, rfl, ⟨_, ho, rfl⟩, call_meets F.slot_tuple_mul ⟨_, ho, rfl⟩ F.entry_tuple_mul (F.args_tuple_mul_2 _ _) (tupMulOne l its.toArray n dd sl t) ⟨ho, ⟨.ref l, H, I, rfl, q⟩⟩⟩)
theorem opMul : OpR X (binaryOp .Mult) (rV2 b X.K H0 mulV) := by
  intro pins s σ H x y v u Q I rx ry h
  obtain ⟨S, p, q, r, h0, hs, rp, rq, e, ans⟩ := h
  cases p with
  | int a =>
    cases q with
    | int b =>
      rw [Rp] at rp rq
      obtain ⟨hm, e⟩ := Rs.when_ok e
      subst e rp rq
      obtain ⟨t, rfl⟩ := rx
      obtain ⟨t', rfl⟩ := ry
      exact mul_int ⟨.int _, H, I.tok _, ⟨_, rfl⟩, ans.int hs⟩ hm.ok
    | _ => cases e
  | lst m xs =>
    cases q with
    | int k =>
      rw [Rp] at rp
      rw [Rp] at rq
      obtain ⟨a, vs, e1, qa, _, za⟩ := rp
      obtain ⟨⟨hk, hl⟩, e⟩ := Rs.when_ok e
      subst e
      exact op_rep pins s σ H x y v u Q I rx ry ⟨a, k, vs, e1, rq, hs _ _ qa, hk.1, hk.2, by rw [za.len]; exact hl, fun p n => ans.lst h0 hs n (za.rep _)⟩
    | _ => cases e
  | tup xs =>
    cases q with
    | int k =>
      have rp' := rp
      rw [Rp] at rp
      rw [Rp] at rq
      obtain ⟨a, vs, e1, qa, za⟩ := rp
      obtain ⟨⟨hne, hk, hk2, hl⟩, e⟩ := Rs.when_ok e
      subst e
      by_cases h1 : k = 1
      · subst h1 e1 rq
        cases rx
        obtain ⟨t, rfl⟩ := ry
        refine opRepOne I (.of (hs _ _ qa)) (ans.here hs ?_ fun _ e => PV.noConfusion e)
        have : (List.replicate (1 : Int).toNat xs).flatten = xs := by simp
        rw [this]
        exact rp'
      · have hv : vs ≠ [] := fun z => hne (by
          have := za.len
          rw [z] at this
          exact List.eq_nil_of_length_eq_zero this.symm)
        by_cases h0 : k = 0
        · refine op_rep0 pins s σ H x y v u Q I rx ry ⟨a, k, vs, e1, rq, .of (hs _ _ qa), hv, h0, fun p n => ?_⟩
          have e0 : (List.replicate k.toNat xs).flatten = [] := by rw [h0]; rfl
          rw [e0] at ans
          exact ans.tup hs n RpA.nil
        · exact op_repT pins s σ H x y v u Q I rx ry ⟨a, k, vs, e1, rq, .of (hs _ _ qa), hv, by omega, hk2, by rw [za.len]; exact hl, fun p n => ans.tup hs n (za.rep _)⟩
    | _ => cases e
  | _ => cases e
theorem unNeg : UnR X (unaryOp .USub) (rV1 b X.K H0 negV) := by
  intro pins s σ H x v Q I rx h
  obtain ⟨S, p, r, h0, hs, rp, e, ans⟩ := h
  cases p with
  | int a =>
    rw [Rp] at rp
    injection e with e
    subst e
    exact un_neg pins s σ H x v Q I rx ⟨a, rp, ans.int hs⟩
  | _ => cases e
theorem cpEq (hu : X.A.units + 64 < cLine) : OpR X (compareOp .Eq) (rV2 b X.K H0 eqV') := by
  intro pins s σ H x y v u Q I rx ry h
  obtain ⟨S, p, q, r, h0, hs, rp, rq, e, ans⟩ := h
  obtain ⟨⟨o1, o2⟩, e⟩ := Rs.when_ok e
  subst e
  exact op_eqD hu pins s σ H x y v u Q I rx ry ⟨_, _, Rp.dp hs o1 rp, Rp.dp hs o2 rq, o1, o2, ans.bl hs⟩
theorem cpNe (hu : X.A.units + 64 < cLine) : OpR X (compareOp .NotEq) (rV2 b X.K H0 neV') := by
  intro pins s σ H x y v u Q I rx ry h
  obtain ⟨S, p, q, r, h0, hs, rp, rq, e, ans⟩ := h
  obtain ⟨⟨o1, o2⟩, e⟩ := Rs.when_ok e
  subst e
  exact op_neD hu pins s σ H x y v u Q I rx ry ⟨_, _, Rp.dp hs o1 rp, Rp.dp hs o2 rq, o1, o2, ans.bl hs⟩
theorem cpLt : OpR X (compareOp .Lt) (rV2 b X.K H0 ltV) := by
  intro pins s σ H x y v u Q I rx ry h
  obtain ⟨S, p, q, r, h0, hs, rp, rq, e, ans⟩ := h
  cases p with
  | int a =>
    cases q with
    | int b =>
      rw [Rp] at rp rq
      injection e with e
      subst e
      exact op_lt pins s σ H x y v u Q I rx ry ⟨a, b, rp, rq, ans.bl hs⟩
    | _ => cases e
  | _ => cases e
theorem cpLe : OpR X (compareOp .LtE) (rV2 b X.K H0 leV) := by
  intro pins s σ H x y v u Q I rx ry h
  obtain ⟨S, p, q, r, h0, hs, rp, rq, e, ans⟩ := h
  cases p with
  | int a =>
    cases q with
    | int b =>
      rw [Rp] at rp rq
      injection e with e
      subst e
      exact op_le pins s σ H x y v u Q I rx ry ⟨a, b, rp, rq, ans.bl hs⟩
    | _ => cases e
  | _ => cases e
theorem cpGt : OpR X (compareOp .Gt) (rV2 b X.K H0 gtV) := by
  intro pins s σ H x y v u Q I rx ry h
  obtain ⟨S, p, q, r, h0, hs, rp, rq, e, ans⟩ := h
  cases p with
  | int a =>
    cases q with
    | int b =>
      rw [Rp] at rp rq
      injection e with e
      subst e
      exact op_gt pins s σ H x y v u Q I rx ry ⟨a, b, rp, rq, ans.bl hs⟩
    | _ => cases e
  | _ => cases e
theorem cpGe : OpR X (compareOp .GtE) (rV2 b X.K H0 geV) := by
  intro pins s σ H x y v u Q I rx ry h
  obtain ⟨S, p, q, r, h0, hs, rp, rq, e, ans⟩ := h
  cases p with
  | int a =>
    cases q with
    | int b =>
      rw [Rp] at rp rq
      injection e with e
      subst e
      exact op_ge pins s σ H x y v u Q I rx ry ⟨a, b, rp, rq, ans.bl hs⟩
    | _ => cases e
  | _ => cases e
theorem toDs_any {f : PyData → Bool} : ∀ xs : List PV, (PV.toDs xs).any f = xs.any fun z => f z.toD
  | [] => rfl
  | x :: xs => by rw [PV.toDs, List.any_cons, List.any_cons, toDs_any xs]
theorem sgn1_eq {p : PV} {c : Nat} (h : sgn1 p = some c) : p = sgnV c := by
  unfold sgn1 at h
  cases p with
  | str x =>
    dsimp only at h
    split at h
    · next q hq =>
      injection h with h
      subst h
      obtain ⟨⟨l⟩⟩ := x
      unfold sgnV
      have hq : l = [q] := hq
      rw [hq]
    · cases h
  | _ => cases h
theorem cpIn (hu : X.A.units + 65 < cLine) : OpR X (compareOp .In) (rV2 b X.K H0 inV') := by
  intro pins s σ H x y v u Q I rx ry h
  obtain ⟨S, p, q, r, h0, hs, rp, rq, e, ans⟩ := h
  cases q with
  | lst m xs =>
    obtain ⟨⟨o1, o2⟩, e⟩ := Rs.when_ok e
    subst e
    have d2 := Rp.dp hs o2 rq
    have o3 := o2
    unfold okD at o3
    rw [PV.toD] at d2 o3
    refine op_inD hu pins s σ H x y v u Q I rx ry ⟨_, _, Rp.dp hs o1 rp, d2, o1, o3, ?_⟩
    rw [toDs_any]
    exact ans.bl hs
  | str z =>
    have e : (match sgn1 p with | some c => Rs.ok (PV.bl (decide (c ∈ z.cps.toList))) | none => .no) = .ok r := e
    cases hg : sgn1 p with
    | none => rw [hg] at e; cases e
    | some c =>
      rw [hg] at e
      injection e with e
      subst e
      have hp := sgn1_eq hg
      subst hp
      unfold sgnV at rp
      rw [Rp] at rp rq
      exact op_in_sign pins s σ H x y v u Q I rx ry ⟨c, z, rp, rq, ans.bl hs⟩
  | _ => cases e
theorem cpNotIn (hu : X.A.units + 65 < cLine) : OpR X (compareOp .NotIn) (rV2 b X.K H0 notinV') := by
  intro pins s σ H x y v u Q I rx ry h
  obtain ⟨S, p, q, r, h0, hs, rp, rq, e, ans⟩ := h
  cases q with
  | lst m xs =>
    obtain ⟨⟨o1, o2⟩, e⟩ := Rs.when_ok e
    subst e
    have d2 := Rp.dp hs o2 rq
    have o3 := o2
    unfold okD at o3
    rw [PV.toD] at d2 o3
    refine op_notInD hu pins s σ H x y v u Q I rx ry ⟨_, _, Rp.dp hs o1 rp, d2, o1, o3, ?_⟩
    rw [toDs_any]
    exact ans.bl hs
  | str z =>
    have e : (match sgn1 p with | some c => Rs.ok (PV.bl (!decide (c ∈ z.cps.toList))) | none => .no) = .ok r := e
    cases hg : sgn1 p with
    | none => rw [hg] at e; cases e
    | some c =>
      rw [hg] at e
      injection e with e
      subst e
      have hp := sgn1_eq hg
      subst hp
      unfold sgnV at rp
      rw [Rp] at rp rq
      exact op_notIn_sign pins s σ H x y v u Q I rx ry ⟨c, z, rp, rq, ans.bl hs⟩
  | _ => cases e

theorem ixR : IxR X (rV2 false X.K H0 ixV) := by
  intro value slice pins s σ H x y v u Q I rx ry h hsub
  obtain ⟨S, p, q, r, h0, hs, rp, rq, e, ans⟩ := h
  cases q with
  | int i =>
    rw [Rp] at rq
    cases p with
    | lst m xs =>
      rw [Rp] at rp
      obtain ⟨a, vs, e1, qa, _, za⟩ := rp
      unfold ixV at e
      dsimp only at e
      cases h : atI xs i with
      | none => rw [h] at e; cases e
      | some z =>
        rw [h] at e
        injection e with e
        subst e
        obtain ⟨w, hw, rw'⟩ := za.atI h
        exact ix_list value slice pins s σ H x y v u Q I rx ry ⟨a, vs, i, w, e1, rq, .of (hs _ _ qa), hw, ans.any hs rw'⟩ hsub
    | tup xs =>
      rw [Rp] at rp
      obtain ⟨a, vs, e1, qa, za⟩ := rp
      unfold ixV at e
      dsimp only at e
      cases h : atI xs i with
      | none => rw [h] at e; cases e
      | some z =>
        rw [h] at e
        injection e with e
        subst e
        obtain ⟨w, hw, rw'⟩ := za.atI h
        exact ix_tup value slice pins s σ H x y v u Q I rx ry ⟨a, vs, i, w, e1, rq, .of (hs _ _ qa), hw, ans.any hs rw'⟩ hsub
    | scr xs =>
      rw [Rp] at rp
      obtain ⟨a, e1, qa⟩ := rp
      unfold ixV at e
      dsimp only at e
      cases h : atI xs i with
      | none => rw [h] at e; cases e
      | some z =>
        rw [h] at e
        injection e with e
        subst e
        have hw : L2.atI (xs.map V.int) i = some (.int z) := by
          unfold L2.atI at h ⊢
          rw [List.length_map]
          cases h2 : ixN xs.length i with
          | none => rw [h2] at h; cases h
          | some j =>
            rw [h2] at h
            show (xs.map V.int)[j]? = _
            rw [List.getElem?_map, show xs[j]? = some z from h]
            rfl
        exact ix_list value slice pins s σ H x y v u Q I rx ry ⟨a, _, i, _, e1, rq, hs.seq qa, hw, ans.int hs⟩ hsub
    | str z =>
      rw [Rp] at rp
      unfold ixV at e
      dsimp only at e
      cases h : atI z.cps.toList i with
      | none => rw [h] at e; cases e
      | some c =>
        rw [h] at e
        obtain ⟨hl, e⟩ := Rs.when_ok e
        subst e
        exact ix_str value slice pins s σ H x y v u Q I rx ry ⟨z, i, c, rp, rq, hl, h, ans.str hs⟩ hsub
    | _ => cases e
  | _ => cases p <;> cases e

/-! ### slices -/
def rVS (b : Bool) (K : PySem.W.Frag) (H0 : Hp) : V → Option Int → Option Int → Hp → VK → Prop := fun x lo hi H Q =>
  ∃ S p r, Same H0 H ∧ Same S H ∧ Rp K H0 S p x ∧ slV lo hi p = .ok r ∧ Ans b K H0 S H r Q
theorem cut_all {α : Type} {xs : List α} {lo hi : Option Int} (h : HT.sIx xs.length 0 lo = 0 ∧ HT.sIx xs.length xs.length hi = xs.length) : cutL xs lo hi = xs := by
  unfold cutL
  rw [h.1, h.2, List.drop_zero, Nat.sub_zero, List.take_length]
theorem slR : SlR X (rVS b X.K H0) := by
  intro pins s σ H x v vl vu lo hi sl Q I rx hsl pl pu h
  obtain ⟨S, p, r, h0, hs, rp, e, ans⟩ := h
  cases p with
  | lst m xs =>
    rw [Rp] at rp
    obtain ⟨a, vs, e1, qa, _, za⟩ := rp
    injection e with e
    subst e
    exact sl_list pins s σ H x v vl vu lo hi sl Q I rx hsl pl pu ⟨a, vs, e1, .of (hs _ _ qa), fun p n => ans.lst h0 hs n (za.cut lo hi)⟩
  | tup xs =>
    have rp' := rp
    rw [Rp] at rp
    obtain ⟨a, vs, e1, qa, za⟩ := rp
    injection e with e
    subst e
    refine sl_tupA pins s σ H x v vl vu lo hi sl Q I rx hsl pl pu ⟨a, vs, e1, .of (hs _ _ qa), fun w => ?_, fun _ p n => ans.tup hs n (za.cut lo hi)⟩
    rw [← e1]
    refine ans.here hs ?_ fun _ e => PV.noConfusion e
    rw [za.len] at w
    rw [cut_all w]
    exact rp'
  | str z =>
    rw [Rp] at rp
    obtain ⟨hl, e⟩ := Rs.when_ok e
    subst e
    exact sl_str pins s σ H x v vl vu lo hi sl Q I rx hsl pl pu ⟨z, rp, hl, ans.str hs⟩
  | _ => cases e

/-! ### the built-in functions -/
theorem max_all : ∀ (l : List Int) (a : Int), a ≤ l.foldl max a ∧ (∀ y ∈ l, y ≤ l.foldl max a) ∧ (l.foldl max a = a ∨ l.foldl max a ∈ l)
  | [], a => ⟨Int.le_refl a, (fun _ h => by cases h), Or.inl rfl⟩
  | x :: l, a => by
    obtain ⟨h1, h2, h3⟩ := max_all l (max a x)
    rw [List.foldl_cons]
    refine ⟨by omega, fun y hy => ?_, ?_⟩
    · rcases List.mem_cons.mp hy with rfl | hy
      · omega
      · exact h2 y hy
    · rcases h3 with h3 | h3
      · rw [h3]
        rcases Int.le_total a x with q | q
        · exact .inr (by rw [Int.max_eq_right q]; exact List.mem_cons_self)
        · exact .inl (Int.max_eq_left q)
      · exact .inr (List.mem_cons_of_mem _ h3)
theorem min_all : ∀ (l : List Int) (a : Int), l.foldl min a ≤ a ∧ (∀ y ∈ l, l.foldl min a ≤ y) ∧ (l.foldl min a = a ∨ l.foldl min a ∈ l)
  | [], a => ⟨Int.le_refl a, (fun _ h => by cases h), Or.inl rfl⟩
  | x :: l, a => by
    obtain ⟨h1, h2, h3⟩ := min_all l (min a x)
    rw [List.foldl_cons]
    refine ⟨by omega, fun y hy => ?_, ?_⟩
    · rcases List.mem_cons.mp hy with rfl | hy
      · omega
      · exact h2 y hy
    · rcases h3 with h3 | h3
      · rw [h3]
        rcases Int.le_total a x with q | q
        · exact .inl (Int.min_eq_left q)
        · exact .inr (by rw [Int.min_eq_right q]; exact List.mem_cons_self)
      · exact .inr (List.mem_cons_of_mem _ h3)
theorem maxI_all {ns : List Int} (h : 0 < ns.length) : maxI ns ∈ ns ∧ ∀ y ∈ ns, y ≤ maxI ns := by
  cases ns with
  | nil => exact absurd h (Nat.lt_irrefl _)
  | cons a l =>
    obtain ⟨h1, h2, h3⟩ := max_all l a
    show l.foldl max a ∈ a :: l ∧ ∀ y ∈ a :: l, y ≤ l.foldl max a
    refine ⟨?_, fun y hy => ?_⟩
    · rcases h3 with h3 | h3
      · rw [h3]; exact List.mem_cons_self
      · exact List.mem_cons_of_mem _ h3
    · rcases List.mem_cons.mp hy with rfl | hy
      · exact h1
      · exact h2 y hy
theorem minI_all {ns : List Int} (h : 0 < ns.length) : minI ns ∈ ns ∧ ∀ y ∈ ns, minI ns ≤ y := by
  cases ns with
  | nil => exact absurd h (Nat.lt_irrefl _)
  | cons a l =>
    obtain ⟨h1, h2, h3⟩ := min_all l a
    show l.foldl min a ∈ a :: l ∧ ∀ y ∈ a :: l, l.foldl min a ≤ y
    refine ⟨?_, fun y hy => ?_⟩
    · rcases h3 with h3 | h3
      · rw [h3]; exact List.mem_cons_self
      · exact List.mem_cons_of_mem _ h3
    · rcases List.mem_cons.mp hy with rfl | hy
      · exact h1
      · exact h2 y hy
theorem RpA.one {K : PySem.W.Frag} {H0 S : Hp} {p : PV} {xs : List V} (r : RpA K H0 S [p] xs) : ∃ v, xs = [v] ∧ Rp K H0 S p v := by
  rw [RpA] at r
  obtain ⟨v, t, e, a, c⟩ := r
  rw [RpA] at c
  exact ⟨v, by rw [e, c], a⟩
theorem RpA.two {K : PySem.W.Frag} {H0 S : Hp} {p q : PV} {xs : List V} (r : RpA K H0 S [p, q] xs) : ∃ v w, xs = [v, w] ∧ Rp K H0 S p v ∧ Rp K H0 S q w := by
  rw [RpA] at r
  obtain ⟨v, t, e, a, c⟩ := r
  obtain ⟨w, e2, d⟩ := c.one
  exact ⟨v, w, by rw [e, e2], a, d⟩
/-- a rule for one argument -/
def One (b : Bool) (X : Cx) (H0 : Hp) (f : Value) (g : PV → Rs PV) : Prop :=
  ∀ (pins : List (Addr × Obj)) (s : Shared) (σ : L2.St) (H : Hp) (S : Hp) (p r : PV) (v : V) (us : List Value) (Q : VK), Inv X pins σ H s → Vals [v] us → Same H0 H → Same S H → Rp X.K H0 S p v → g p = .ok r → Ans b X.K H0 S H r Q →
    wpAny (model X.prog X.w) X.A (call f us) (EP X pins σ Q) X.xe s
def Two (b : Bool) (X : Cx) (H0 : Hp) (f : Value) (g : PV → PV → Rs PV) : Prop :=
  ∀ (pins : List (Addr × Obj)) (s : Shared) (σ : L2.St) (H : Hp) (S : Hp) (p q r : PV) (v w : V) (us : List Value) (Q : VK), Inv X pins σ H s → Vals [v, w] us → Same H0 H → Same S H → Rp X.K H0 S p v → Rp X.K H0 S q w → g p q = .ok r → Ans b X.K H0 S H r Q →
    wpAny (model X.prog X.w) X.A (call f us) (EP X pins σ Q) X.xe s
theorem ca12 {f : Value} {k : Bi} (h1 : One b X H0 f (bi1 k)) (h2 : Two b X H0 f (bi2 k)) : CallR X f (rVL b X.K H0 (biV k)) := by
  intro pins s σ H xs us Q I rs h
  obtain ⟨S, ps, r, h0, hs, rp, e, ans⟩ := h
  match ps, rp, e with
  | [p], rp, e =>
    obtain ⟨v, rfl, r1⟩ := rp.one
    exact h1 pins s σ H S p r v us Q I rs h0 hs r1 e ans
  | [p, q], rp, e =>
    obtain ⟨v, w, rfl, r1, r2⟩ := rp.two
    exact h2 pins s σ H S p q r v w us Q I rs h0 hs r1 r2 e ans
  | [], _, e => cases e
  | _ :: _ :: _ :: _, _, e => cases e
theorem two_no {f : Value} : Two b X H0 f (fun _ _ => .no) := fun _ _ _ _ _ _ _ _ _ _ _ _ _ _ _ _ _ _ e => by cases e
theorem caLen : CallR X (.builtin "len") (rVL b X.K H0 (biV .len)) := by
  refine ca12 (fun pins s σ H S p r v us Q I rs h0 hs r1 e ans => ?_) two_no
  cases p with
  | lst m ys =>
    rw [Rp] at r1
    obtain ⟨a, vs, rfl, qa, _, za⟩ := r1
    injection e with e
    subst e
    exact call_len_seq pins s σ H _ us Q I rs ⟨a, vs, rfl, .inl (.of (hs _ _ qa)), by rw [za.len]; exact ans.int hs⟩
  | tup ys =>
    rw [Rp] at r1
    obtain ⟨a, vs, rfl, qa, za⟩ := r1
    injection e with e
    subst e
    exact call_len_seq pins s σ H _ us Q I rs ⟨a, vs, rfl, .inr (.of (hs _ _ qa)), by rw [za.len]; exact ans.int hs⟩
  | scr ys =>
    rw [Rp] at r1
    obtain ⟨a, rfl, qa⟩ := r1
    injection e with e
    subst e
    exact call_len_seq pins s σ H _ us Q I rs ⟨a, _, rfl, .inl (hs.seq qa), by rw [List.length_map]; exact ans.int hs⟩
  | str z =>
    rw [Rp] at r1
    subst r1
    obtain ⟨hl, e⟩ := Rs.when_ok e
    subst e
    exact call_len_str pins s σ H _ us Q I rs ⟨z, rfl, hl, ans.int hs⟩
  | _ => cases e
theorem caAbs : CallR X (.builtin "abs") (rVL b X.K H0 (biV .abs)) := by
  refine ca12 (fun pins s σ H S p r v us Q I rs h0 hs r1 e ans => ?_) two_no
  cases p with
  | int i =>
    rw [Rp] at r1
    subst r1
    injection e with e
    subst e
    exact call_abs pins s σ H _ us Q I rs ⟨i, rfl, ans.int hs⟩
  | _ => cases e
theorem caInt : CallR X (.type "int") (rVL b X.K H0 (biV .int)) := by
  refine ca12 (fun pins s σ H S p r v us Q I rs h0 hs r1 e ans => ?_) two_no
  cases p with
  | int i =>
    rw [Rp] at r1
    subst r1
    injection e with e
    subst e
    exact call_int1 pins s σ H _ us Q I rs (.inl ⟨i, rfl, ans.int hs⟩)
  | bl i =>
    rw [Rp] at r1
    subst r1
    injection e with e
    subst e
    exact call_int1 pins s σ H _ us Q I rs (.inr ⟨i, rfl, ans.int hs⟩)
  | str a =>
    rw [Rp] at r1
    subst r1
    have e : (match intText? a with | some n => Rs.when (a.length ≤ 640) (PV.int n) | none => .no) = .ok r := e
    cases hg : intText? a with
    | none => rw [hg] at e; cases e
    | some n =>
      rw [hg] at e
      obtain ⟨hl, e⟩ := Rs.when_ok e
      subst e
      exact call_int_str pins s σ H _ us Q I rs ⟨a, n, rfl, hg, hl, ans.int hs⟩
  | _ => cases e
theorem caStr : CallR X (.type "str") (rVL b X.K H0 (biV .str)) := by
  refine ca12 (fun pins s σ H S p r v us Q I rs h0 hs r1 e ans => ?_) two_no
  cases p with
  | int i =>
    rw [Rp] at r1
    subst r1
    obtain ⟨hl, e⟩ := Rs.when_ok e
    subst e
    exact call_str_int pins s σ H _ us Q I rs ⟨i, rfl, hl, ans.str hs⟩
  | _ => cases e
/-! ### join, split -/
theorem strs_eq : ∀ {xs : List PV} {ys : List Str}, strs? xs = some ys → xs = ys.map PV.str
  | [], ys, h => by cases h; rfl
  | .str i :: r, ys, h => by
    have h : (strs? r).map (i :: ·) = some ys := h
    cases hr : strs? r with
    | none => rw [hr] at h; cases h
    | some zs =>
      rw [hr] at h
      injection h with h
      subst h
      rw [strs_eq hr]; rfl
  | .non :: _, _, h => by cases h
  | .bl _ :: _, _, h => by cases h
  | .int _ :: _, _, h => by cases h
  | .scr _ :: _, _, h => by cases h
  | .lst _ _ :: _, _, h => by cases h
  | .tup _ :: _, _, h => by cases h
theorem RpA.strs {K : PySem.W.Frag} {H0 S : Hp} : ∀ {ys : List Str} {vs : List V}, RpA K H0 S (ys.map PV.str) vs → vs = ys.map V.str
  | [], vs, h => by
    have := h.len
    exact List.eq_nil_of_length_eq_zero this
  | y :: ys, vs, h => by
    have h : RpA K H0 S (.str y :: ys.map PV.str) vs := h
    rw [RpA] at h
    obtain ⟨v, t, e, h1, h2⟩ := h
    rw [Rp] at h1
    rw [e, h1, RpA.strs h2]; rfl
theorem RpA.of_strs {K : PySem.W.Frag} {H0 S : Hp} : ∀ {ys : List Str}, RpA K H0 S (ys.map PV.str) (ys.map V.str)
  | [] => RpA.nil
  | y :: ys => RpA.cons (by rw [Rp]) RpA.of_strs
theorem caList : CallR X (.type "list") (rVL b X.K H0 (biV .list)) := by
  refine ca12 (fun pins s σ H S p r v us Q I rs h0 hs r1 e ans => ?_) two_no
  cases p with
  | lst m ys =>
    rw [Rp] at r1
    obtain ⟨a, vs, rfl, qa, _, za⟩ := r1
    injection e with e
    subst e
    exact call_list_of pins s σ H _ us Q I rs ⟨a, vs, rfl, .inl (.of (hs _ _ qa)), fun l n => ans.lst h0 hs n za⟩
  | tup ys =>
    rw [Rp] at r1
    obtain ⟨a, vs, rfl, qa, za⟩ := r1
    injection e with e
    subst e
    exact call_list_of pins s σ H _ us Q I rs ⟨a, vs, rfl, .inr (.of (hs _ _ qa)), fun l n => ans.lst h0 hs n za⟩
  | _ => cases e
theorem caTuple : CallR X (.type "tuple") (rVL b X.K H0 (biV .tuple)) := by
  refine ca12 (fun pins s σ H S p r v us Q I rs h0 hs r1 e ans => ?_) two_no
  cases p with
  | lst m ys =>
    rw [Rp] at r1
    obtain ⟨a, vs, rfl, qa, _, za⟩ := r1
    injection e with e
    subst e
    exact call_tuple_of pins s σ H _ us Q I rs ⟨a, vs, rfl, .inl ⟨.of (hs _ _ qa), fun l n => ans.tup hs n za⟩⟩
  | tup ys =>
    have r1' := r1
    rw [Rp] at r1
    obtain ⟨a, vs, rfl, qa, za⟩ := r1
    injection e with e
    subst e
    exact call_tuple_of pins s σ H _ us Q I rs ⟨a, vs, rfl, .inr ⟨.of (hs _ _ qa), ans.here hs r1' fun _ z => PV.noConfusion z⟩⟩
  | _ => cases e
theorem caSum (hc : X.calm = true) : CallR X (.builtin "sum") (rVL b X.K H0 (biV .sum)) := by
  refine ca12 (fun pins s σ H S p r v us Q I rs h0 hs r1 e ans => ?_) two_no
  cases p with
  | lst m ys =>
    rw [Rp] at r1
    obtain ⟨a, vs, rfl, qa, _, za⟩ := r1
    unfold bi1 sumV at e
    dsimp only at e
    cases h : ints? ys with
    | none => rw [h] at e; cases e
    | some ns =>
      rw [h] at e
      injection e with e
      subst e
      refine cr_sum hc pins s σ H _ us Q I rs ⟨a, ns, rfl, ?_, ans.int hs⟩
      rw [← za.ints h]
      exact .of (hs _ _ qa)
  | _ => cases e
theorem caAll (hc : X.calm = true) : CallR X (.builtin "all") (rVL b X.K H0 (biV .all)) := by
  refine ca12 (fun pins s σ H S p r v us Q I rs h0 hs r1 e ans => ?_) two_no
  cases p with
  | lst m ys =>
    rw [Rp] at r1
    obtain ⟨a, vs, rfl, qa, _, za⟩ := r1
    unfold bi1 allV at e
    dsimp only at e
    cases h : bools? ys with
    | none => rw [h] at e; cases e
    | some ns =>
      rw [h] at e
      injection e with e
      subst e
      refine cr_all hc pins s σ H _ us Q I rs ⟨a, ns, rfl, ?_, ans.bl hs⟩
      rw [← za.bools h]
      exact .of (hs _ _ qa)
  | _ => cases e
theorem caMax (hc : X.calm = true) : CallR X (.builtin "max") (rVL b X.K H0 (biV .max)) := by
  refine ca12 (fun pins s σ H S p r v us Q I rs h0 hs r1 e ans => ?_) fun pins s σ H S p q r v w us Q I rs h0 hs r1 r2 e ans => ?_
  · cases p with
    | lst m ys =>
      rw [Rp] at r1
      obtain ⟨a, vs, rfl, qa, _, za⟩ := r1
      unfold bi1 maxV at e
      dsimp only at e
      cases h : ints? ys with
      | none => rw [h] at e; cases e
      | some ns =>
        rw [h] at e
        obtain ⟨hl, e⟩ := Rs.when_ok e
        subst e
        refine cr_max hc pins s σ H _ us Q I rs ⟨a, ns, rfl, ?_, hl, fun m hm hm2 => ?_⟩
        · rw [← za.ints h]
          exact .of (hs _ _ qa)
        · obtain ⟨q1, q2⟩ := maxI_all hl
          have : m = maxI ns := Int.le_antisymm (q2 m hm) (hm2 _ q1)
          subst this
          exact ans.int hs
    | _ => cases e
  · cases p with
    | int i =>
      cases q with
      | int j =>
        rw [Rp] at r1 r2
        subst r1 r2
        injection e with e
        subst e
        exact call_max2 hc pins s σ H _ us Q I rs ⟨i, j, rfl, ans.int hs⟩
      | _ => cases e
    | _ => cases e
theorem caMin (hc : X.calm = true) : CallR X (.builtin "min") (rVL b X.K H0 (biV .min)) := by
  refine ca12 (fun pins s σ H S p r v us Q I rs h0 hs r1 e ans => ?_) fun pins s σ H S p q r v w us Q I rs h0 hs r1 r2 e ans => ?_
  · cases p with
    | lst m ys =>
      rw [Rp] at r1
      obtain ⟨a, vs, rfl, qa, _, za⟩ := r1
      unfold bi1 minV at e
      dsimp only at e
      cases h : ints? ys with
      | none => rw [h] at e; cases e
      | some ns =>
        rw [h] at e
        obtain ⟨hl, e⟩ := Rs.when_ok e
        subst e
        refine cr_min hc pins s σ H _ us Q I rs ⟨a, ns, rfl, ?_, hl, fun m hm hm2 => ?_⟩
        · rw [← za.ints h]
          exact .of (hs _ _ qa)
        · obtain ⟨q1, q2⟩ := minI_all hl
          have : m = minI ns := Int.le_antisymm (hm2 _ q1) (q2 m hm)
          subst this
          exact ans.int hs
    | _ => cases e
  · cases p with
    | int i =>
      cases q with
      | int j =>
        rw [Rp] at r1 r2
        subst r1 r2
        injection e with e
        subst e
        exact call_min2 hc pins s σ H _ us Q I rs ⟨i, j, rfl, ans.int hs⟩
      | _ => cases e
    | _ => cases e
theorem caIsi {t : String} : CallR X (.builtin "isinstance") (fun xs H Q => ∃ S p r x, Same H0 H ∧ Same S H ∧ xs = [x, .ty t] ∧ Rp X.K H0 S p x ∧ isiV t p = .ok r ∧ Ans b X.K H0 S H r Q) := by
  intro pins s σ H xs us Q I rs h
  obtain ⟨S, p, r, x, h0, hs, rfl, rp, e, ans⟩ := h
  unfold isiV at e
  have go : ∀ a, typeName p = some a → TyX X.K H x (.type a) → wpAny (model X.prog X.w) X.A (call (.builtin "isinstance") us) (EP X pins σ Q) X.xe s := by
    intro a ha ty
    rw [ha] at e
    dsimp only at e
    cases hk : kitB a t with
    | none => rw [hk] at e; cases e
    | some k =>
      rw [hk] at e
      injection e with e
      subst e
      exact call_isi pins s σ H _ us Q I rs ⟨x, .ty t, .type a, .type t, k, rfl, .ty t, ty, kit_ty hk, ans.bl hs⟩
  cases p with
  | non => rw [Rp] at rp; subst rp; exact go _ rfl (.base .non)
  | bl k => rw [Rp] at rp; subst rp; exact go _ rfl (.base (.bl k))
  | int k => rw [Rp] at rp; subst rp; exact go _ rfl (.base (.int k))
  | str k => rw [Rp] at rp; subst rp; exact go _ rfl (.base (.str k))
  | scr k => cases e
  | lst m ys =>
    rw [Rp] at rp
    obtain ⟨a, vs, rfl, qa, _, za⟩ := rp
    exact go _ rfl (.base (.lst (hs _ _ qa)))
  | tup ys =>
    rw [Rp] at rp
    obtain ⟨a, vs, rfl, qa, za⟩ := rp
    exact go _ rfl (.base (.tup (hs _ _ qa)))
end
end SG

namespace SG
open PySem PySem.Spec PyProof.Rows L2

/-! ### from the text to terms -/
/-- what a def's text is read by: the own defs that may be called, the slots, the module's constants -/
structure CP where
  ns : List Str
  N : List Str
  gi : List (Str × Int)
  gs : List (Str × Str)
  cl : List Str
  tr : Bool := false
  md : Bool := false
  hx : List Str := []
def visB (sc : Scope) (x : Str) : Bool := decide (sc.names.lookup x = some .local) || decide (sc.names.lookup x = some .cell) || decide (sc.names.lookup x = some .free)
def globB (sc : Scope) (x : Str) : Bool := decide (sc.names.lookup x = some .globalImplicit)
def plainB (x : Str) : Bool := !decide (x = "__debug__") && !decide (x = "__classdict__") && !decide (x = "__name__")
def ixOf (x : Str) : List Str → Nat → Option Nat
  | [], _ => none
  | y :: r, i => if x = y then some i else ixOf x r (i + 1)
theorem ixOf_get {x : Str} : ∀ {N : List Str} {i j : Nat}, ixOf x N i = some j → ∃ k, j = i + k ∧ N[k]? = some x
  | [], _, _, h => by cases h
  | y :: r, i, j, h => by
    unfold ixOf at h
    split at h
    · injection h with h
      exact ⟨0, by omega, by simp; exact (by assumption : x = y).symm⟩
    · obtain ⟨k, e1, e2⟩ := ixOf_get h
      exact ⟨k + 1, by omega, by simpa using e2⟩
theorem ixOf_get0 {x : Str} {N : List Str} {j : Nat} (h : ixOf x N 0 = some j) : N[j]? = some x := by
  obtain ⟨k, e1, e2⟩ := ixOf_get h
  rw [Nat.zero_add] at e1
  rw [e1]; exact e2
def nameE (cp : CP) (sc : Scope) (x : Str) : Option E :=
  if plainB x = true then
    if visB sc x = true then (ixOf x cp.N 0).map E.var
    else if globB sc x = true then
      match cp.gi.lookup x with
      | some i => some (.gint x i)
      | none => (cp.gs.lookup x).map (E.gstr x)
    else none
  else none
/-- a name that stands in a slot -/
def nameV (cp : CP) (sc : Scope) (x : Str) : Option Nat := if plainB x = true ∧ visB sc x = true then ixOf x cp.N 0 else none
def opOf : Operator → Option Op
  | .Add => some .add
  | .Sub => some .sub
  | .Mult => some .mul
  | .FloorDiv => some .fdiv
  | .Mod => some .mod
  | .Pow => some .pow
  | _ => none
def cpOf : CmpOp → Option Cp
  | .Eq => some .eq
  | .NotEq => some .ne
  | .Lt => some .lt
  | .LtE => some .le
  | .Gt => some .gt
  | .GtE => some .ge
  | .In => some .isin
  | .NotIn => some .notin
  | _ => none
def biTab : List (Str × Bi) := [("len", .len), ("abs", .abs), ("int", .int), ("list", .list), ("tuple", .tuple), ("sum", .sum), ("all", .all), ("max", .max), ("min", .min), ("str", .str)]
def tyTab : List (Str × String) := [("int", "int"), ("bool", "bool"), ("str", "str"), ("list", "list"), ("tuple", "tuple")]
/-- a block's own names that stand among the slots -/
def ownOf (N : List Str) : List (Str × NameKind) → List (Str × Nat)
  | [] => []
  | (x, k) :: r => if k = .local ∨ k = .cell then (match ixOf x N 0 with
      | some i => (x, i) :: ownOf N r
      | none => ownOf N r) else ownOf N r
def blkB (N : List Str) (sc scope : Scope) (own : List (Str × Nat)) : Bool :=
  decide (scope.kind = .function) && scope.names.all (fun y => decide (scope.names.lookup y.1 = some y.2)) && own.all (fun p => decide (N[p.2]? = some p.1)) &&
  scope.names.all (fun y => !decide (y.2 = .free) || (decide (sc.names.lookup y.1 = some .cell) || decide (sc.names.lookup y.1 = some .free))) &&
  scope.names.all (fun y => !(decide (y.2 = .local) || decide (y.2 = .cell)) || ((own.map (·.1)).contains y.1 || !N.contains y.1))
def locB (sc scope : Scope) (x : Str) : Bool :=
  decide (sc.names.lookup x = some .local) || (decide (sc.names.lookup x = some .cell) && decide (scope.names.lookup x = some .cell))
/-- a plain name as a target -/
def tgt1 (cp : CP) (sc scope : Scope) : Expr → Option Nat
  | .Name x _ => if locB sc scope x = true then ixOf x cp.N 0 else none
  | _ => none
def tgts (cp : CP) (sc scope : Scope) : List Expr → Option (List Nat)
  | [] => some []
  | e :: r => match tgt1 cp sc scope e, tgts cp sc scope r with
    | some i, some is => some (i :: is)
    | _, _ => none
def tgt (cp : CP) (sc scope : Scope) : Expr → Option (Bool × List Nat)
  | .Tuple es _ _ => (tgts cp sc scope es).map fun is => (false, is)
  | e => (tgt1 cp sc scope e).map fun i => (true, [i])
def isTup : Expr → Bool
  | .Tuple _ _ _ => true
  | _ => false
theorem isTup_of {e : Expr} (h : isTup e = true) : ∃ es k p, e = .Tuple es k p := by
  cases e <;> first | exact ⟨_, _, _, rfl⟩ | cases h
/-- a plain thing ahead of a method's name -/
def simO : Expr → Bool
  | .Constant _ _ _ => true
  | .Name _ _ => true
  | _ => false
mutual
def cE (cp : CP) : Nat → Scope → Expr → Option E
  | 0, _, _ => none
  | n + 1, sc, e => match e with
    | .Constant c _ _ => match c with
      | .int i => some (.int i)
      | .bool b => some (.bl b)
      | .none => some .non
      | .str x => some (.str x)
      | _ => none
    | .Name x _ => nameE cp sc x
    | .BinOp a o b _ => match opOf o, cE cp n sc a, cE cp n sc b with
      | some o, some a, some b => some (.op o a b)
      | _, _, _ => none
    | .UnaryOp o a _ => match o, cE cp n sc a with
      | .USub, some a => some (.neg a)
      | .Not, some a => some (.not a)
      | _, _ => none
    | .Compare a ops bs _ => match ops, bs with
      | [.Is], [.Constant .none _ _] => (cE cp n sc a).map (E.isN false)
      | [.IsNot], [.Constant .none _ _] => (cE cp n sc a).map (E.isN true)
      | [o], [b] => match cpOf o, cE cp n sc a, cE cp n sc b with
        | some o, some a, some b => some (.cmp o a b)
        | _, _, _ => none
      | [o, o2], [b, c] => match cpOf o, cpOf o2, cE cp n sc a, cE cp n sc b, cE cp n sc c with
        | some o, some o2, some a, some b, some c => some (.chain o o2 a b c)
        | _, _, _, _, _ => none
      | _, _ => none
    | .BoolOp o es p => match o, es with
      | _, [a] => cE cp n sc a
      | .And, a :: b :: r => match cE cp n sc a, cE cp n sc (.BoolOp .And (b :: r) p) with
        | some a, some b => some (.and a b)
        | _, _ => none
      | .Or, a :: b :: r => match cE cp n sc a, cE cp n sc (.BoolOp .Or (b :: r) p) with
        | some a, some b => some (.or a b)
        | _, _ => none
      | _, _ => none
    | .Subscript a i _ => match i with
      | .Slice lo hi st _ => match lo, hi, st with
        | some lo, none, none => match a with
          | .Name x _ => match nameV cp sc x, cE cp n sc lo with
            | some v, some lo => some (.slLoV v lo)
            | _, _ => none
          | a => match cE cp n sc a, cE cp n sc lo with
            | some a, some lo => some (.slLo a lo)
            | _, _ => none
        | none, some hi, none => match a with
          | .Name x _ => match nameV cp sc x, cE cp n sc hi with
            | some v, some hi => some (.slHiV v hi)
            | _, _ => none
          | a => match cE cp n sc a, cE cp n sc hi with
            | some a, some hi => some (.slHi a hi)
            | _, _ => none
        | none, none, some (.UnaryOp .USub (.Constant (.int 1) _ _) _) => (cE cp n sc a).map E.rvL
        | _, _, _ => none
      | i => match a with
        | .Name x _ => match nameV cp sc x, cE cp n sc i with
          | some v, some i => some (.ixv v i)
          | _, _ => none
        | a => match cE cp n sc a, cE cp n sc i with
          | some a, some i => some (.ix a i)
          | _, _ => none
    | .List es _ => (cEs cp n sc es).map E.lst
    | .Tuple es _ _ => (cEs cp n sc es).map E.tup
    | .Call f args kws pos => match f, kws with
      | .Name x _, [] => if globB sc x = true ∧ plainB x = true then
          match args with
          | [] => none
          | a :: r =>
            if cp.ns.contains x = true then (cEs cp n sc (a :: r)).map (E.call x)
            else if x = "isinstance" then
              match r with
              | [.Name t _] => match tyTab.lookup t, cE cp n sc a with
                | some t', some a => if globB sc t = true then some (.isi a t') else none
                | _, _ => none
              | _ => none
            else match biTab.lookup x with
              | some k => (cEs cp n sc (a :: r)).map (E.bi k)
              | none => none
        else none
      | .Attribute o nm ap, [] => match args with
        | [a] => if simO o = true ∧ (ap.endLine == pos.line) = true then
            match cE cp n sc o, cE cp n sc a with
            | some o, some a => if nm = "join" then some (.joinE o a) else if nm = "split" then some (.splitE o a) else none
            | _, _ => none
          else none
        | _ => none
      | _, _ => none
    | .ListComp elt gens scope _ => match gens with
      | [⟨tg, it, ifs, 0⟩] =>
        if blkB cp.N sc scope (ownOf cp.N scope.names) = true then
          match tgt cp (relS scope sc) scope tg, cI cp n sc (isTup tg) it, cE cp n (relS scope sc) elt with
          | some (single, tg), some it, some elt =>
            if tg.all (fun i => ((ownOf cp.N scope.names).map (·.2)).contains i) = true then
              match ifs with
              | [] => some (.comp ((ownOf cp.N scope.names).map (·.2)) tg single it elt)
              | [c] => (cE cp n (relS scope sc) c).map fun c => .compIf ((ownOf cp.N scope.names).map (·.2)) tg single it c elt
              | _ => none
            else none
          | _, _, _ => none
        else none
      | _ => none
    | _ => none
def cEs (cp : CP) : Nat → Scope → List Expr → Option Es
  | 0, _, _ => none
  | n + 1, sc, es => match es with
    | [] => some .nil
    | e :: r => match cE cp n sc e, cEs cp n sc r with
      | some e, some r => some (.cons e r)
      | _, _ => none
def cI (cp : CP) : Nat → Scope → Bool → Expr → Option It
  | 0, _, _, _ => none
  | n + 1, sc, tup, e => match e with
    | .Call (.Name x p) args [] q =>
      if globB sc x = true ∧ plainB x = true ∧ x = "range" then
        match args with
        | [a] => (cE cp n sc a).map It.rng1
        | [a, b] => match cE cp n sc a, cE cp n sc b with
          | some a, some b => some (.rng2 a b)
          | _, _ => none
        | _ => none
      else if globB sc x = true ∧ plainB x = true ∧ x = "zip" ∧ tup = true then
        match args with
        | [a, b] => match cE cp n sc a, cE cp n sc b with
          | some a, some b => some (.zip a b)
          | _, _ => none
        | _ => none
      else if globB sc x = true ∧ plainB x = true ∧ x = "enumerate" ∧ tup = true then
        match args with
        | [a] => (cE cp n sc a).map It.enum
        | _ => none
      else (cE cp n sc (.Call (.Name x p) args [] q)).map It.val
    | e => (cE cp n sc e).map It.val
end
end SG

namespace SG
open PySem PySem.Spec PyProof.Rows L2

/-! ### the slots' tie -/
structure EnvR (K : PySem.W.Frag) (H0 S H : Hp) (ρ : Rho) (σ : L2.St) : Prop where
  h0 : Same H0 H
  hs : Same S H
  len : ρ.length = σ.length
  fz : ∀ (i : Nat) (p : PV), ρ[i]? = some (.fz p) → ∃ v, σ[i]? = some (some v) ∧ Rp K H0 S p v
  own : ∀ (i : Nat) (xs : List PV), ρ[i]? = some (.own xs) → ∃ a vs, σ[i]? = some (some (.ref a)) ∧ H a = some (.lst vs) ∧ S a = none ∧ H0 a = none ∧ RpA K H0 S xs vs
  apart : ∀ (i j : Nat) (xs ys : List PV) (a : Addr), ρ[i]? = some (.own xs) → ρ[j]? = some (.own ys) → σ[i]? = some (some (.ref a)) → σ[j]? = some (some (.ref a)) → i = j
section
variable {K : PySem.W.Frag} {H0 S H S' H' : Hp} {ρ : Rho} {σ : L2.St}
theorem EnvR.ext (r : EnvR K H0 S H ρ σ) (e : Ext S H S' H') : EnvR K H0 S' H' ρ σ :=
  ⟨r.h0.trans (e.same r.hs), e.in', r.len, fun i p h => let ⟨v, a, b⟩ := r.fz i p h; ⟨v, a, b.mono e.st⟩,
    fun i xs h => let ⟨a, vs, q1, q2, q3, q5, q4⟩ := r.own i xs h; let ⟨z1, z2⟩ := e.ls a _ q2 q3; ⟨a, vs, q1, z1, z2, q5, q4.mono e.st⟩, r.apart⟩
theorem get_set {α : Type} {l : List α} {i j : Nat} {x y : α} (h : (l.set i x)[j]? = some y) : (j = i ∧ y = x) ∨ (j ≠ i ∧ l[j]? = some y) := by
  by_cases e : i = j
  · subst e
    by_cases hl : i < l.length
    · rw [List.getElem?_set_self hl] at h
      injection h with h
      exact .inl ⟨rfl, h.symm⟩
    · rw [List.getElem?_eq_none (by rw [List.length_set]; omega)] at h
      cases h
  · rw [List.getElem?_set_ne e] at h
    exact .inr ⟨fun z => e z.symm, h⟩
theorem EnvR.set (r : EnvR K H0 S H ρ σ) {p : PV} {v : V} (i : Nat) (q : Rp K H0 S p v) : EnvR K H0 S H (ρ.set i (.fz p)) (σ.set i (some v)) := by
  refine ⟨r.h0, r.hs, by rw [List.length_set, List.length_set, r.len], fun j p' h => ?_, fun j xs h => ?_, fun j k xs ys a h1 h2 h3 h4 => ?_⟩
  · have hl : j < ρ.length := by
      obtain ⟨z, _⟩ := List.getElem?_eq_some_iff.mp h
      rw [List.length_set] at z; exact z
    rcases get_set h with ⟨e1, e2⟩ | ⟨e1, e2⟩
    · subst e1
      injection e2 with e2
      subst e2
      exact ⟨v, by rw [List.getElem?_set_self (by rw [← r.len]; exact hl)], q⟩
    · obtain ⟨w, a, b⟩ := r.fz j p' e2
      exact ⟨w, by rw [List.getElem?_set_ne (Ne.symm e1)]; exact a, b⟩
  · rcases get_set h with ⟨e1, e2⟩ | ⟨e1, e2⟩
    · cases e2
    · obtain ⟨a, vs, q1, q2⟩ := r.own j xs e2
      exact ⟨a, vs, by rw [List.getElem?_set_ne (Ne.symm e1)]; exact q1, q2⟩
  · rcases get_set h1 with ⟨e1, e2⟩ | ⟨e1, e2⟩
    · cases e2
    · rcases get_set h2 with ⟨e3, e4⟩ | ⟨e3, e4⟩
      · cases e4
      · rw [List.getElem?_set_ne (Ne.symm e1)] at h3
        rw [List.getElem?_set_ne (Ne.symm e3)] at h4
        exact r.apart j k xs ys a e2 e4 h3 h4
theorem EnvR.clear (r : EnvR K H0 S H ρ σ) (i : Nat) : EnvR K H0 S H (ρ.set i .no) (σ.set i none) := by
  refine ⟨r.h0, r.hs, by rw [List.length_set, List.length_set, r.len], fun j p' h => ?_, fun j xs h => ?_, fun j k xs ys a h1 h2 h3 h4 => ?_⟩
  · rcases get_set h with ⟨e1, e2⟩ | ⟨e1, e2⟩
    · cases e2
    · obtain ⟨w, a, b⟩ := r.fz j p' e2
      exact ⟨w, by rw [List.getElem?_set_ne (Ne.symm e1)]; exact a, b⟩
  · rcases get_set h with ⟨e1, e2⟩ | ⟨e1, e2⟩
    · cases e2
    · obtain ⟨a, vs, q1, q2⟩ := r.own j xs e2
      exact ⟨a, vs, by rw [List.getElem?_set_ne (Ne.symm e1)]; exact q1, q2⟩
  · rcases get_set h1 with ⟨e1, e2⟩ | ⟨e1, e2⟩
    · cases e2
    · rcases get_set h2 with ⟨e3, e4⟩ | ⟨e3, e4⟩
      · cases e4
      · rw [List.getElem?_set_ne (Ne.symm e1)] at h3
        rw [List.getElem?_set_ne (Ne.symm e3)] at h4
        exact r.apart j k xs ys a e2 e4 h3 h4
theorem EnvR.wipe (r : EnvR K H0 S H ρ σ) : ∀ vs : List Nat, EnvR K H0 S H (wipeS ρ vs) (L2.wipe σ vs)
  | [] => r
  | v :: vs => by
    unfold wipeS L2.wipe
    exact (EnvR.wipe r vs).clear v
theorem wipe_set {σ : L2.St} {i : Nat} {x : Option V} : ∀ {vs : List Nat}, i ∈ vs → L2.wipe (σ.set i x) vs = L2.wipe σ vs
  | v :: vs, h => by
    show (L2.wipe (σ.set i x) vs).set v _ = (L2.wipe σ vs).set v _
    by_cases hi : i ∈ vs
    · rw [wipe_set hi]
    · have e : i = v := by
        rcases List.mem_cons.mp h with h | h
        · exact h
        · exact absurd h hi
      subst e
      have key : ∀ (ws : List Nat), i ∉ ws → L2.wipe (σ.set i x) ws = (L2.wipe σ ws).set i x := by
        intro ws
        induction ws with
        | nil => intro _; rfl
        | cons w ws ih =>
          intro hw
          show (L2.wipe (σ.set i x) ws).set w _ = ((L2.wipe σ ws).set w _).set i x
          rw [ih (fun z => hw (List.mem_cons_of_mem _ z)), List.set_comm _ _ (fun z => hw (by rw [z]; exact List.mem_cons_self))]
      rw [key vs hi, List.set_set]
theorem wipe_wipe {σ : L2.St} (vs : List Nat) : ∀ ws : List Nat, (∀ i ∈ ws, i ∈ vs) → L2.wipe (L2.wipe σ ws) vs = L2.wipe σ vs
  | [], _ => rfl
  | w :: ws, h => by
    show L2.wipe ((L2.wipe σ ws).set w _) vs = _
    rw [wipe_set (h w List.mem_cons_self)]
    exact wipe_wipe vs ws fun i hi => h i (List.mem_cons_of_mem _ hi)

/-! ### targets -/
def gSeq : List Nat → TGs
  | [] => gNil
  | i :: is => gCons (gName i) (gSeq is)
def gTgt (K : PySem.W.Frag) : Bool → List Nat → TG
  | true, [i] => gName i
  | true, _ => fun _ _ _ _ => False
  | false, is => fun v σ H Q => gTup K is.length (gSeq is) v σ H Q ∨ gLst K is.length (gSeq is) v σ H Q
/-- what a target leaves -/
def TgtQ (K : PySem.W.Frag) (H0 S H : Hp) (tg : List Nat) (ρ' : Rho) (σ : L2.St) (Q : L2.St → Hp → Prop) : Prop :=
  ∀ σ', EnvR K H0 S H ρ' σ' → (∀ vs : List Nat, (∀ i ∈ tg, i ∈ vs) → L2.wipe σ' vs = L2.wipe σ vs) → Q σ' H
theorem seq_ok {Q : L2.St → Hp → Prop} : ∀ {is : List Nat} {xs : List PV} {vs : List V} {ρ : Rho} {σ : L2.St}, EnvR K H0 S H ρ σ → RpA K H0 S xs vs → xs.length = is.length →
    TgtQ K H0 S H is ((is.zip xs).foldl (fun r p => r.set p.1 (.fz p.2)) ρ) σ Q → gSeq is vs σ H Q
  | [], [], _, _, _, r, q, _, h => by
    rw [RpA] at q
    subst q
    exact ⟨rfl, h _ r fun _ _ => rfl⟩
  | i :: is, x :: xs, _, _, σ, r, q, l, h => by
    rw [RpA] at q
    obtain ⟨v, t, e, a, b⟩ := q
    subst e
    refine ⟨v, t, rfl, ?_⟩
    refine seq_ok (r.set i a) b (by simpa using l) fun σ' hr hw => h σ' (by simpa using hr) fun vs hv => ?_
    rw [hw vs fun j hj => hv j (List.mem_cons_of_mem _ hj), wipe_set (hv i List.mem_cons_self)]
theorem setT_seq {single : Bool} {tg : List Nat} {p : PV} {ρ ρ' : Rho} (h : setT single tg p ρ = .ok ρ') :
    (∃ i, single = true ∧ tg = [i] ∧ ρ' = ρ.set i (.fz p)) ∨ (∃ xs, single = false ∧ xs.length = tg.length ∧ ρ' = (tg.zip xs).foldl (fun r p => r.set p.1 (.fz p.2)) ρ ∧ (p = .tup xs ∨ ∃ y, p = .lst y xs)) := by
  unfold setT at h
  split at h <;> first
    | (injection h with h; subst h; exact .inl ⟨_, rfl, rfl, rfl⟩)
    | (injection h with h; subst h; exact .inr ⟨_, rfl, rfl, rfl, .inl rfl⟩)
    | (injection h with h; subst h; exact .inr ⟨_, rfl, rfl, rfl, .inr ⟨_, rfl⟩⟩)
    | cases h
theorem tgt_ok {single : Bool} {tg : List Nat} {p : PV} {v : V} {ρ' : Rho} {Q : L2.St → Hp → Prop} (r : EnvR K H0 S H ρ σ) (q : Rp K H0 S p v) (h : setT single tg p ρ = .ok ρ')
    (hQ : TgtQ K H0 S H tg ρ' σ Q) : gTgt K single tg v σ H Q := by
  rcases setT_seq h with ⟨i, rfl, rfl, rfl⟩ | ⟨xs, rfl, hl, rfl, rfl | ⟨y, rfl⟩⟩
  · exact hQ _ (r.set i q) fun vs hv => wipe_set (hv i List.mem_cons_self)
  · rw [Rp] at q
    obtain ⟨a, vs, rfl, qa, za⟩ := q
    exact .inl ⟨a, vs, rfl, .of (r.hs _ _ qa), by rw [za.len, hl], seq_ok r za hl hQ⟩
  · rw [Rp] at q
    obtain ⟨a, vs, rfl, qa, _, za⟩ := q
    exact .inr ⟨a, vs, rfl, .of (r.hs _ _ qa), by rw [za.len, hl], seq_ok r za hl hQ⟩

/-! ### what is known of a term's run -/
/-- what is wanted of an error of the class -/
def Erx (mg : Str → Option Value) (W : WX) (σ : L2.St) (H : Hp) (C : Str) : Prop := ∀ a, mg C = some (.ref a) → ∀ H', Same H H' → W (.ref a) none σ H'
def Aft {α : Type} (mg : Str → Option Value) (W : WX) (σ : L2.St) (H : Hp) (r : Rs α) (F : α → Prop) : Prop :=
  match r with
  | .ok a => F a
  | .err C => Erx mg W σ H C
  | .no => False
section
variable {α β : Type} {mg : Str → Option Value} {W : WX}
theorem Aft.mono {H1 : Hp} {r : Rs α} {F F' : α → Prop} (h : Aft mg W σ H r F) (hh : Same H H1) (hF : ∀ a, r = .ok a → F a → F' a) : Aft mg W σ H1 r F' := by
  cases r with
  | ok a => exact hF a rfl h
  | err C => exact fun a e H' s => h a e H' (hh.trans s)
  | no => exact h
theorem Aft.bind {r : Rs α} {f : α → Rs β} {F : β → Prop} (h : Aft mg W σ H (r.bind f) F) : Aft mg W σ H r fun a => Aft mg W σ H (f a) F := by
  cases r with
  | ok a => exact h
  | err C => exact h
  | no => exact h
theorem Aft.ok {r : Rs α} {F : α → Prop} (h : Aft mg W σ H r F) (ne : ∀ c, r ≠ .err c) : ∃ a, r = .ok a ∧ F a := by
  cases r with
  | ok a => exact ⟨a, rfl, h⟩
  | err C => exact absurd rfl (ne C)
  | no => exact h.elim
end
end

/-- the terms whose list, if they make one, is new -/
def E.mk : E → Bool
  | .op _ _ _ => true
  | .slLo _ _ => true
  | .slHi _ _ => true
  | .slLoV _ _ => true
  | .slHiV _ _ => true
  | .lst _ => true
  | .bi _ _ => true
  | .splitE _ _ => true
  | .call _ _ => true
  | .comp _ _ _ _ _ => true
  | .compIf _ _ _ _ _ _ => true
  | _ => false
section
variable (G : Gt) (K : PySem.W.Frag) (mg : Str → Option Value) (H0 : Hp) (W : WX)
def spE (c : E) : TE := fun σ H Q => ∃ ρ S, EnvR K H0 S H ρ σ ∧ Aft mg W σ H (eE G ρ c) fun p => Ans c.mk K H0 S H p Q
/-- the value alone -/
def spV (c : E) : TE := fun σ H Q => ∃ ρ S, EnvR K H0 S H ρ σ ∧ Aft mg W σ H (eE G ρ c) fun p => Ans false K H0 S H p Q
def AnsA (S H : Hp) (ps : List PV) (Q : List V → Hp → Prop) : Prop := ∀ vs H' S', Ext S H S' H' → RpA K H0 S' ps vs → Q vs H'
def spA (es : Es) : TA := fun σ H Q => ∃ ρ S, EnvR K H0 S H ρ σ ∧ Aft mg W σ H (eEs G ρ es) fun ps => AnsA K H0 S H ps Q
def AnsT (S H : Hp) (p : PV) (Q : Bool → Hp → Prop) : Prop := ∃ k, p = .bl k ∧ ∀ H' S', Ext S H S' H' → Q k H'
def spT (c : E) : TT := fun σ H Q => ∃ ρ S, EnvR K H0 S H ρ σ ∧ Aft mg W σ H (eE G ρ c) fun p => AnsT S H p Q
/-- what a walk yields -/
def Wk (J : L2.It) (S0 : Hp) (xs : List PV) : Prop := ∀ i S H, Same S0 S → Same H0 H → Same S H →
  (i < xs.length → J.go i H ∧ ∀ x H', J.yld i H x H' → ∃ S' p, Ext S H S' H' ∧ xs[i]? = some p ∧ Rp K H0 S' p x) ∧ (xs.length ≤ i → J.stop i H)
def spI (it : It) : TI := fun σ H R => ∃ ρ S, EnvR K H0 S H ρ σ ∧ Aft mg W σ H (eI G ρ it) fun xs => ∀ J H' S', Ext S H S' H' → Wk K H0 J S' xs → R J H'
end
section
variable {G : Gt} {K : PySem.W.Frag} {mg : Str → Option Value} {H0 : Hp} {W : WX} {σ : L2.St} {H S : Hp} {Q : VK}
theorem Ans.low {b : Bool} {p : PV} (a : Ans false K H0 S H p Q) : Ans b K H0 S H p Q := fun v H' S' e r _ => a v H' S' e r fun z => Bool.noConfusion z
theorem spE_of {c : E} (h : spV G K mg H0 W c σ H Q) : spE G K mg H0 W c σ H Q := by
  obtain ⟨ρ, S, r, a⟩ := h
  exact ⟨ρ, S, r, a.mono (Same.refl _) fun p _ q => q.low⟩
/-- the first of several: its value, then the rest -/
theorem sp_then {c : E} {ρ : Rho} {F : PV → Prop} (r : EnvR K H0 S H ρ σ) (h : Aft mg W σ H (eE G ρ c) F)
    (k : ∀ p v H' S', eE G ρ c = .ok p → F p → Ext S H S' H' → Rp K H0 S' p v → Q v H') : spE G K mg H0 W c σ H Q :=
  ⟨ρ, S, r, h.mono (Same.refl _) fun p e q v H' S' x rp _ => k p v H' S' e q x rp⟩
theorem spT_then {c : E} {ρ : Rho} {F : PV → Prop} {Q : Bool → Hp → Prop} (r : EnvR K H0 S H ρ σ) (h : Aft mg W σ H (eE G ρ c) F)
    (k : ∀ p, eE G ρ c = .ok p → F p → AnsT S H p Q) : spT G K mg H0 W c σ H Q :=
  ⟨ρ, S, r, h.mono (Same.refl _) fun p e q => k p e q⟩
end
end SG

namespace SG
open PySem PySem.Spec PyProof.Rows L2
/-! ### an exception that leaves a comprehension -/
/-! two ways to speak of exceptions: false: the class alone; true: that they have no context, too -/
def ZB : Bool → Value → Option Addr → Obj → Prop
  | false => Zc
  | true => L2N.Zn
def CXB : Bool → Program → World → CXT
  | false => L2.CX
  | true => L2N.CX
def TakesB : Bool → Cx → WX → Prop
  | false => Takes
  | true => L2N.Takes
theorem steadyB {b : Bool} {cls : Value} {d : Option Addr} : PXN.Steady1 (ZB b cls d) := by
  cases b
  · exact PXN.steady_and PXN.steady_cls PXN.steady_dict
  · exact L2N.Zn.steady
/-- an exception on its way at the frame of L, with what stood when it came up -/
def XEL (b : Bool) (X : Cx) (L : Addr) (W : WX) (u : Value) (s' : Shared) : Prop :=
  ∃ a B sI pins σ H cls d, u = .ref a ∧ L2.Inv X pins σ H sI ∧ (∀ b o, sI.heap.get? b = some o → b ∉ frs X.stack → B.get? b = some o) ∧ sI.heap.UpToSlots s'.heap ∧ Sky B X.stack a (ZB b cls d) L s'.heap ∧ H a = none ∧ s'.os = sI.os ∧ AllBare s'.gens ∧ W cls d σ H
structure ThrOk (b : Bool) (X : Cx) (L : Addr) (W : WX) : Prop where
  thr : ∀ u s', XEL b X L W u s' → X.xe u s'
  stk : ∃ e0 o0, X.stack = e0 :: o0 ∧ e0.frame = some L
  frm : X.env.frame = some L
theorem ThrOk.of {b : Bool} {X : Cx} {W : WX} {o0 : List Env} (t : TakesB b X W) (h : X.stack = X.env :: o0) (f : X.env.frame = some X.env.locals) : ThrOk b X X.env.locals W := by
  refine ⟨fun u s' x => ?_, ⟨_, _, h, f⟩, f⟩
  cases b
  · exact (show Takes X W from t) u s' x
  · exact (show L2N.Takes X W from t) u s' x
/-- the block's context, an exception's way out of it told -/
@[reducible] def blkE (X : Cx) (s : Shared) (H : Hp) (scope : Scope) (cenv : Env) (fp : List Addr) (E : Value → Shared → Prop) : Cx := { X.blk s H scope cenv fp with xe := E }
theorem ok_xe {X : Cx} {E : Value → Shared → Prop} (o : Cx.Ok X) : Cx.Ok { X with xe := E } :=
  ⟨o.mod, o.kind, o.glob, o.blt, o.above, o.inj, o.has, o.cab, o.hd, o.frames, o.stk, o.exf, o.bs, o.bsz, o.noex, o.exfs, o.funs, o.frf⟩
theorem inv_xe {X : Cx} {E : Value → Shared → Prop} {pins : List (Addr × Obj)} {σ : L2.St} {H : Hp} {s : Shared} (I : L2.Inv X pins σ H s) : L2.Inv { X with xe := E } pins σ H s :=
  ⟨ok_xe I.ok, I.os, I.bare, I.base, I.loc, I.cell, I.free, I.freeC, I.pin, I.hok, I.len⟩
/-- one object of a heap put in another one's place -/
def putO (h : Heap) (C : Addr) (o : Obj) : Heap := { h with objs := h.objs.setIfInBounds C o }
theorem putO_ne {h : Heap} {C b : Addr} {o : Obj} (hb : b ≠ C) : (putO h C o).get? b = h.get? b := by
  unfold putO Heap.get?
  rw [show ({ h with objs := h.objs.setIfInBounds C o } : Heap).objs = h.objs.setIfInBounds C o from rfl, Array.getElem?_setIfInBounds_ne (fun e => hb e.symm)]
theorem get_lt {h : Heap} {b : Addr} {o : Obj} (e : h.get? b = some o) : b < h.objs.size := by
  unfold Heap.get? at e
  by_cases q : b < h.objs.size
  · exact q
  · rw [Array.getElem?_eq_none (Nat.le_of_not_lt q)] at e
    cases e
theorem putO_eq {h h2 : Heap} {C : Addr} {o : Obj} (hC : C < h.objs.size) (e : h2.get? C = some o) : (putO h C o).get? C = some o := by
  have ho : ∀ c d s, o ≠ ⟨c, d, .freed, s⟩ := by
    intro c d s z
    subst z
    unfold Heap.get? at e
    split at e
    · cases e
    · next x hx => exact hx _ _ _ e
  unfold putO Heap.get?
  rw [show ({ h with objs := h.objs.setIfInBounds C o } : Heap).objs = h.objs.setIfInBounds C o from rfl, Array.getElem?_setIfInBounds_self_of_lt hC]
  split
  · next x y z w => injection w with w; exact absurd w (ho _ _ _)
  · rfl
theorem fun_base {h B B' : Heap} (hB : ∀ b, B.get? b = none → B'.get? b = none) : ∀ {l : List Env}, h.FunFrames B l → h.FunFrames B' l
  | [], _ => trivial
  | env :: rest, ⟨k, ⟨L, o, e1, e2, e3, e4⟩, r⟩ => ⟨k, ⟨L, o, e1, hB L e2, e3, e4⟩, fun_base hB r⟩

theorem traced_same {h h2 B B' : Heap} {e C : Addr} {Z : Obj → Prop} {fl : Value} {m : Str → Option Value} (t : HandSPX.TracedZ h B e Z fl) (hn : h.Ns C m) (sb : Heap.SameBut C h h2) (hB : ∀ b, b ≠ C → B.get? b = none → B'.get? b = none) : HandSPX.TracedZ h2 B' e Z fl ∧ e ≠ C := by
  obtain ⟨oe, vs, T, oT, ts, e1, e2, e3, e4, e5, e6, e7, e8, e9⟩ := t
  obtain ⟨oc, es, ep, c1, c2, _⟩ := hn
  have ne : e ≠ C := fun z => by
    subst z
    rw [c1] at e1; injection e1 with e1; subst e1
    rw [c2] at e3; cases e3
  have nT : T ≠ C := fun z => by
    subst z
    rw [c1] at e7; injection e7 with e7; subst e7
    rw [c2] at e8; cases e8
  exact ⟨⟨oe, vs, T, oT, ts, (sb.2 e ne).trans e1, e2, e3, e4, hB T nT e5, e6, (sb.2 T nT).trans e7, e8, e9⟩, ne⟩
theorem upTo_refl {h : Heap} : h.UpToSlots h := fun b o e _ => ⟨o.slots, by rw [e]⟩
theorem upTo_trans {h h' h'' : Heap} (a : h.UpToSlots h') (b : h'.UpToSlots h'') : h.UpToSlots h'' := fun x o e n => by
  obtain ⟨sl, e1⟩ := a x o e n
  obtain ⟨sl', e2⟩ := b x _ e1 n
  exact ⟨sl', e2⟩
theorem thr_blk {md : Bool} {X : Cx} {L : Addr} {W : WX} (t : ThrOk md X L W) {pins : List (Addr × Obj)} {σ : L2.St} {H3 : Hp} {s3 : Shared} (I3 : L2.Inv X pins σ H3 s3) {scope : Scope} {cl : List (Str × Addr)} {C : Addr} {fp : List Addr} (hC : s3.heap.objs.size ≤ C) (hfp : ∀ b, b ∈ fp → FpOk X pins H3 b) :
    ThrOk md (blkE X s3 H3 scope (compEnvC scope cl C X.env) fp (notedBy (model X.prog X.w) X.A (compEnvC scope cl C X.env) (CompFails (model X.prog X.w) X.A X.xe (compEnvC scope cl C X.env)))) L (fun cls d _ H => W cls d σ H) := by
  refine ⟨fun u s' x => ?_, t.stk, t.frm⟩
  obtain ⟨a, B, sI, pins', σ', H', cls, d, rfl, I', keep, up, sky, ha, hos, hbr, w⟩ := x
  obtain ⟨e0, o0, hst, hf0⟩ := t.stk
  have hcf : (compEnvC scope cl C X.env).frame = e0.frame := by rw [hf0]; exact t.frm
  have hfr : X.A.frames = some (e0 :: o0) := by rw [← hst]; exact I3.ok.frames
  -- what is the same for all three ways
  have fin : ∀ h', HandSPX.HeldZ B X.stack a (ZB md cls d) L h' → s'.heap.UpToSlots h' → CompFails (model X.prog X.w) X.A X.xe (compEnvC scope cl C X.env) (.ref a) { heap := h', gens := s'.gens, drawn := s'.drawn, toks := s'.toks, os := s'.os } := by
    intro h' hh up'
    have up2 := upTo_trans up up'
    obtain ⟨m, hn, _⟩ := I'.loc
    have hn : sI.heap.Ns C m := hn
    have hn' : h'.Ns C m := Heap.Ns.upToSlots hn up2
    obtain ⟨q1, q2, q3, q4⟩ := hh
    refine ⟨m, hn', fun h2 m2 hn2 sb => ?_⟩
    -- the block's names, as they are let go
    have hn2' := hn2
    obtain ⟨o2, _, _, g2, _⟩ := hn2'
    obtain ⟨oC, _, _, gC, dC, _⟩ := hn
    have fpC := I3.fpOk hC (H' := H') I'.free
    have nfr : C ∉ frs X.stack := by
      rcases I3.ok.stk with z | ⟨z, f⟩
      · rw [z]; exact fpC.2.2.1
      · rw [z]
        intro hm
        unfold frs at hm
        rw [List.filterMap_cons, f] at hm
        rcases List.mem_cons.mp hm with e | e
        · exact fpC.2.1 e
        · exact fpC.2.2.1 e
    have gB : B.get? C = some oC := keep C oC gC nfr
    have hBn : ∀ b, B.get? b = none → (putO B C o2).get? b = none := fun b e => by
      have : b ≠ C := fun z => by rw [z, gB] at e; cases e
      rw [putO_ne this]; exact e
    obtain ⟨q4', neC⟩ := traced_same (B' := putO B C o2) q4 hn' sb fun b _ e => hBn b e
    have held2 : HandSPX.HeldZ (putO B C o2) X.stack a (ZB md cls d) L h2 := by
      refine ⟨fun b o e => ?_, hBn a q2, fun_base hBn (Heap.FunFrames.sameBut sb hn2 q3), q4'⟩
      by_cases z : b = C
      · subst z
        rw [putO_eq (get_lt gB) g2] at e
        rw [← e]; exact g2
      · rw [putO_ne z] at e
        rw [sb.2 b z]; exact q1 b o e
    obtain ⟨oe, vs, T, oT, ts, r1, r2, r3, r4, r5⟩ := q4'
    unfold PySem.passOn
    refine wpAny_bind (wpAny_field r1 r3 r4 ?_)
    rw [if_neg (by simp)]
    have hcL : (compEnvC scope cl C X.env).frame = some L := t.frm
    rw [hcL]
    refine wpAny_bind (HandSPX.setFlight_onZ held2 fun h3 held3 up3 => wpAny_throw ?_)
    refine t.thr _ _ ⟨a, putO B C o2, { heap := putO sI.heap C o2, gens := sI.gens, drawn := sI.drawn, toks := sI.toks, os := sI.os }, pins, σ, H', cls, d, rfl, ?_, fun b o e hb => ?_, fun b o e hno => ?_, .inr (.inr held3), ha, hos, hbr, w⟩
    · have IX : L2.Inv X pins σ H' sI := Inv.call' I3 I'.os I'.base I'.hok I'.bare fun b hb => ⟨(hfp b hb).2.2.2.1, (hfp b hb).2.1, (hfp b hb).2.2.2.2.1, (hfp b hb).2.2.2.2.2⟩
      exact Inv.turned IX (fun b o hb e => (putO_ne hb).trans e) fpC.1 fpC.2.1 fpC.2.2.2.1 fpC.2.2.2.2.1 fpC.2.2.2.2.2
    · by_cases z : b = C
      · subst z
        have e : (putO sI.heap b o2).get? b = some o := e
        rw [putO_eq (get_lt gC) g2] at e
        rw [putO_eq (get_lt gB) g2]; exact e
      · have e : (putO sI.heap C o2).get? b = some o := e
        rw [putO_ne z] at e
        rw [putO_ne z]; exact keep b o e hb
    · by_cases z : b = C
      · subst z
        have e : (putO sI.heap b o2).get? b = some o := e
        rw [putO_eq (get_lt gC) g2] at e
        injection e with e
        subst e
        exact up3 b o2 g2 hno
      · have e : (putO sI.heap C o2).get? b = some o := e
        rw [putO_ne z] at e
        obtain ⟨sl, e1⟩ := up2 b o e hno
        have e2 : h2.get? b = some { cls := o.cls, dict := o.dict, data := o.data, slots := sl } := (sb.2 b z).trans e1
        exact up3 b { cls := o.cls, dict := o.dict, data := o.data, slots := sl } e2 hno
  show notedBy _ _ _ _ _ _
  unfold notedBy
  rw [noteFrame_env _ hcf]
  rcases sky with ⟨k1, k2, k3, oe, vs, k4, k5, k6, k7⟩ | fl | hd
  · have k3 : s'.heap.FunFrames B (e0 :: o0) := by rw [← hst]; exact k3
    exact PXN.look_newZ steadyB hfr k3 hf0 k4 k1 k2 k6 k7 k5 fun h' hh up' => fin h' (by rw [hst]; exact hh) up'
  · have fl : HandSPX.FlyingZ B (e0 :: o0) a (ZB md cls d) s'.heap := by rw [← hst]; exact fl
    exact PXN.looks_onZ steadyB hfr hf0 fl fun h' hh up' => fin h' (by rw [hst]; exact hh) up'
  · exact HandSPX.againZ hf0 hd.2.2.2 (fin s'.heap hd upTo_refl)
theorem traced_one {h B B' : Heap} {a : Addr} {Z Z' : Obj → Prop} {f f' : Value} (t : HandSPX.TracedZ h B a Z f) (t' : HandSPX.TracedZ h B' a Z' f') : f = f' := by
  obtain ⟨oe, vs, T, oT, ts, e1, _, e3, e4, _, _, e7, e8, e9⟩ := t
  obtain ⟨oe', vs', T', oT', ts', e1', _, e3', e4', _, _, e7', e8', e9'⟩ := t'
  rw [e1] at e1'; injection e1' with e1'; subst e1'
  rw [e3] at e3'; injection e3' with e3'; subst e3'
  rw [e4] at e4'; injection e4' with e4'; injection e4' with e4'; subst e4'
  rw [e7] at e7'; injection e7' with e7'; subst e7'
  rw [e8] at e8'; injection e8' with e8'; subst e8'
  rw [e9] at e9'; injection e9'
theorem xel_of_call {md : Bool} {X : Cx} {L : Addr} {W : WX} {E : XK} {pins : List (Addr × Obj)} {σ : L2.St} {H : Hp} {s s' : Shared} {u : Value} (I : L2.Inv X pins σ H s) (hE : ∀ cls d H', E cls d H' → W cls d σ H') (c : CXB md X.prog X.w X.stack H s E u s') : XEL md X L W u s' := by
  have fin : XEL md X X.env.locals W u s' → (∃ a B Z, u = .ref a ∧ HandSPX.FlyingZ B X.stack a Z s'.heap) → XEL md X L W u s' := by
    rintro ⟨a, B, sI, pins', σ', H', cls, d, rfl, I', keep, up, sky, r⟩ ⟨a', B2, Z, ea, fl⟩
    injection ea with ea
    subst ea
    refine ⟨a, B, sI, pins', σ', H', cls, d, rfl, I', keep, up, ?_, r⟩
    rcases sky with z | z | z
    · exact .inl z
    · exact .inr (.inl z)
    · have := traced_one fl.2.2.2 z.2.2.2
      cases this
  cases md
  · have c : L2.CX X.prog X.w X.stack H s E u s' := c
    have c' := c
    obtain ⟨a', B2, _, _, _, ea, fl, _⟩ := c'
    exact fin (XE.of_call I hE c) ⟨a', B2, _, ea, fl⟩
  · have c : L2N.CX X.prog X.w X.stack H s E u s' := c
    have c' := c
    obtain ⟨a', B2, _, _, _, ea, fl, _⟩ := c'
    exact fin (L2N.XE.of_call I hE c) ⟨a', B2, _, ea, fl⟩
theorem ThrOk.pass {md : Bool} {X : Cx} {L : Addr} {W : WX} (t : ThrOk md X L W) (σ : L2.St) {E : XK} (hE : ∀ cls d H', E cls d H' → W cls d σ H') : PassesAt (CXB md X.prog X.w) X σ E := fun pins H s e s' I c => t.thr e s' (xel_of_call I hE c)
end SG

namespace SG
open PySem PySem.Spec PyProof.Rows L2
/-- a comprehension whose element may raise -/
theorem lc_coreX {md : Bool} {X : Cx} {L : Addr} {W : WX} (tk : ThrOk md X L W) {pins : List (Addr × Obj)} {s : Shared} {σ : L2.St} {H : Hp} {Q : VK} {elt tg iter : Expr} {ifs : List Expr} {scope : Scope} {own : List (Str × Nat)} {pos pos' : Pos} {wi : TI} {g : TG} {tt : TT} {te : TE} {use : Option (Value → Sem Unit)} {Qf : Value → Shared → Prop}
    (hc : X.calm = true) (hN : X.N.Nodup) (I : L2.Inv X pins σ H s) (hi : PI X tg iter wi) (ok : BlkOk X.N X.env.scope scope own)
    (hg : ∀ (s : Shared) (H : Hp) (C : Addr) (cl : List (Str × Addr)) (fp : List Addr) (E : Value → Shared → Prop), ThrOk md (blkE X s H scope (compEnvC scope cl C X.env) fp E) L (fun cls d _ H => W cls d σ H) → PG (blkE X s H scope (compEnvC scope cl C X.env) fp E) tg g)
    (ht : ∀ (s : Shared) (H : Hp) (C : Addr) (cl : List (Str × Addr)) (fp : List Addr) (E : Value → Shared → Prop), ThrOk md (blkE X s H scope (compEnvC scope cl C X.env) fp E) L (fun cls d _ H => W cls d σ H) → PTs (blkE X s H scope (compEnvC scope cl C X.env) fp E) ifs tt)
    (he : ∀ (s : Shared) (H : Hp) (C : Addr) (cl : List (Str × Addr)) (fp : List Addr) (E : Value → Shared → Prop), ThrOk md (blkE X s H scope (compEnvC scope cl C X.env) fp E) L (fun cls d _ H => W cls d σ H) → PE (blkE X s H scope (compEnvC scope cl C X.env) fp E) elt te)
    (hs : ∀ (x : Value), foldedSetIterable iter X.env x = pure x)
    (h : tLc wi g tt te (own.map fun x => x.2) σ H Q)
    (hRR : ∀ (D C : Addr) (s' : Shared) (m : Str → Option Value) (H' : Hp), L2.Inv X pins σ H' s' → Q (V.ref D) H' → s'.heap.Ns C m → FpOk X pins H' C → compPost (model X.prog X.w) X.A X.xe use Qf (.ref D) C (.ok .next) s') :
    wpAny (model X.prog X.w) X.A (comprehension (.ListComp elt [{ target := tg, iter := iter, ifs := ifs, is_async := 0 }] scope pos) scope X.env pos' (newList []) false (eval iter X.env) use) Qf X.xe s := by
  have hfree : ∀ y : Str × NameKind, y ∈ scope.names → y.2 = NameKind.free → ∃ c, List.lookup y.1 X.env.cells = some c := fun y hy e => by
    rcases ok.free y hy e with k | k
    · exact I.ok.has y.1 (.inl k)
    · exact I.ok.has y.1 (.inr k)
  refine comprehension_at rfl hs (closure_ok hfree) ok.kind (fun y hy e => by rw [ok.uniq y hy, e]) ?_
  refine thn (hi.run pins s σ H _ I h) fun xv s1 hx => thn hx fun itv s2 h2 => ?_
  obtain ⟨it, fp, tn, J, H2, rfl, I2, T, st2, f2, q⟩ := h2
  refine wpAny_newObj_type (newEnv_comp ?_) (by exact Nat.zero_le _)
  obtain ⟨D, hD⟩ : ∃ D, D = s2.heap.objs.size := ⟨_, rfl⟩
  rw [← hD]
  have hDn : H2 D = none := I2.hok.fresh (by rw [hD]; exact Nat.le_refl _)
  obtain ⟨Wt, ⟨m0, w0⟩, turn⟩ := q D hDn
  obtain ⟨s3, hs3⟩ : ∃ s3 : Shared, s3 = { heap := s2.heap.push { cls := .type "list", data := .seq #[] }, gens := s2.gens, drawn := s2.drawn, toks := s2.toks, os := s2.os } := ⟨_, rfl⟩
  obtain ⟨H3, hH3⟩ : ∃ H3, H3 = upd H2 D (.lst []) := ⟨_, rfl⟩
  have h3 : s3.heap = s2.heap.push { cls := .type "list", data := .seq #[] } := by rw [hs3]
  have I3 : L2.Inv X pins σ H3 s3 := by
    rw [hs3, hH3]
    refine I2.laid (fun b o e => Heap.get?_push_of_some _ e) (by rw [hD]; exact Nat.le_refl _) ⟨Nat.zero_le _, [], 0, Paired.nil, ?_⟩
    rw [hD]; exact Heap.get?_push_size _ rfl
  have f3 : ∀ b, b ∈ fp → FpOk X pins H3 b ∧ b < s3.heap.objs.size := fun b hb => by
    obtain ⟨o, e, _⟩ := T.obj 0 s2.heap st2 b hb
    have lt := Heap.lt_size e
    refine ⟨⟨by rw [hH3, upd_ne (by rw [hD]; exact Nat.ne_of_lt lt)]; exact (f2 b hb).1, (f2 b hb).2⟩, ?_⟩
    rw [h3, Heap.size_push]; exact Nat.lt_succ_of_lt lt
  have st3 : tn 0 s3.heap := T.keep 0 s2.heap s3.heap st2 fun b _ o e => by rw [h3]; exact Heap.get?_push_of_some _ e
  have I4 := block_start I3 ok hN f3
  obtain ⟨C, hC⟩ : ∃ C, C = s3.heap.objs.size := ⟨_, rfl⟩
  obtain ⟨cl, hcl⟩ : ∃ cl, cl = cellsFrom (s3.heap.objs.size + 1) scope.names (cloFrom X.env.cells scope.names []) := ⟨_, rfl⟩
  rw [← hcl, ← hC] at I4
  obtain ⟨E, hE⟩ : ∃ E, E = notedBy (model X.prog X.w) X.A (compEnvC scope cl C X.env) (CompFails (model X.prog X.w) X.A X.xe (compEnvC scope cl C X.env)) := ⟨_, rfl⟩
  have tk' : ThrOk md (blkE X s3 H3 scope (compEnvC scope cl C X.env) fp E) L (fun cls d _ H => W cls d σ H) := by
    rw [hE]
    exact thr_blk tk I3 (by rw [hC]; exact Nat.le_refl _) fun b hb => (f3 b hb).1
  have I4' := inv_xe (E := E) I4
  obtain ⟨s4, hs4⟩ : ∃ s4 : Shared, s4 = { heap := pushCells (s3.heap.push { cls := .type "dict", data := .dict #[] }) scope.names, gens := s3.gens, drawn := s3.drawn, toks := s3.toks, os := s3.os } := ⟨_, rfl⟩
  rw [← hs4] at I4'
  have st4 : tn 0 s4.heap := T.keep 0 s3.heap s4.heap st3 fun b _ o e => by rw [hs4]; exact pushCells_keeps _ _ b o (Heap.get?_push_of_some _ e)
  have pg := hg s3 H3 C cl fp E tk'
  have pt := ht s3 H3 C cl fp E tk'
  have pe := he s3 H3 C cl fp E tk'
  subst hE
  have goal : codeAny (model X.prog X.w) X.A (Code.compStart (.ListComp elt [{ target := tg, iter := iter, ifs := ifs, is_async := 0 }] scope pos) 0 (.ref it) (.ref D) (compEnvC scope cl C X.env)) (compEnds (model X.prog X.w) X.A X.xe use Qf (.ref D) (compEnvC scope cl C X.env)) s4 := by
    have stat : ∀ {σ' : L2.St} {H' : Hp} {s' : Shared}, L2.Inv (blkE X s3 H3 scope (compEnvC scope cl C X.env) fp (notedBy (model X.prog X.w) X.A (compEnvC scope cl C X.env) (CompFails (model X.prog X.w) X.A X.xe (compEnvC scope cl C X.env)))) [] σ' H' s' → (∀ b, b ∈ fp → H' b = none) → ∀ b, b ∈ fp → FpOk (blkE X s3 H3 scope (compEnvC scope cl C X.env) fp (notedBy (model X.prog X.w) X.A (compEnvC scope cl C X.env) (CompFails (model X.prog X.w) X.A X.xe (compEnvC scope cl C X.env)))) [] H' b := fun I' hn b hb =>
      ⟨hn b hb, (I'.ok.exf b hb).1, I'.ok.exfs b hb, .inl hb, fun x c e => (I'.ok.exf b hb).2 x c e, fun p hp => by cases hp⟩
    have loop : codeAny (model X.prog X.w) X.A (Code.compLoop (.ListComp elt [{ target := tg, iter := iter, ifs := ifs, is_async := 0 }] scope pos) 0 (.ref it) (.ref D) (compEnvC scope cl C X.env)) (compEnds (model X.prog X.w) X.A X.xe use Qf (.ref D) (compEnvC scope cl C X.env)) s4 := by
      refine compLoop_any (fun n s' => ∃ i H', L2.Inv (blkE X s3 H3 scope (compEnvC scope cl C X.env) fp (notedBy (model X.prog X.w) X.A (compEnvC scope cl C X.env) (CompFails (model X.prog X.w) X.A X.xe (compEnvC scope cl C X.env)))) [] (wipe σ (own.map fun x => x.2)) H' s' ∧ tn i s'.heap ∧ (∀ b, b ∈ fp → H' b = none) ∧ Wt i n H') ?_ m0 ⟨0, H3, I4', st4, fun b hb => (f3 b hb).1.1, by rw [hH3]; exact w0⟩
      intro n s5 ⟨i, H5, I5, st5, n5, w5⟩
      rcases turn i n H5 w5 with ⟨stop, qq⟩ | ⟨go, Nx, hNx, step⟩
      · refine thnF (T.done (blkE X s3 H3 scope (compEnvC scope cl C X.env) fp (notedBy (model X.prog X.w) X.A (compEnvC scope cl C X.env) (CompFails (model X.prog X.w) X.A X.xe (compEnvC scope cl C X.env)))) rfl rfl rfl hc i [] s5 (wipe σ (own.map fun x => x.2)) H5 (fun _ _ => False) I5 (stat I5 n5) st5 stop) fun r s6 ⟨hr, I6⟩ => ?_
        subst hr
        have I7 : L2.Inv X pins σ H5 s6 := Inv.call' I3 I6.os I6.base I6.hok I6.bare fun b hb => ⟨(f3 b hb).1.2.2.2.1, (f3 b hb).1.2.1, (f3 b hb).1.2.2.2.2.1, (f3 b hb).1.2.2.2.2.2⟩
        obtain ⟨m, hn, _⟩ := I6.loc
        have fpC := I3.fpOk (by rw [hC]; exact Nat.le_refl _) (H' := H5) (b := C) I6.free
        have z := hRR D C s6 m H5 I7 qq hn fpC
        cases use with
        | none => exact z
        | some u => exact z
      · refine thnF (T.item (blkE X s3 H3 scope (compEnvC scope cl C X.env) fp (notedBy (model X.prog X.w) X.A (compEnvC scope cl C X.env) (CompFails (model X.prog X.w) X.A X.xe (compEnvC scope cl C X.env)))) rfl rfl rfl hc i [] s5 (wipe σ (own.map fun x => x.2)) H5 (fun _ _ => False) I5 (stat I5 n5) st5 go) fun r s6 ⟨u, hr, h6⟩ => ?_
        subst hr
        refine thnF h6 fun _ s7 ⟨x, H7, I7, r7, y7, st7, n7⟩ => ?_
        have I7' := Inv.pinned I7 (stat I7 n7) (T.obj (i + 1) s7.heap st7)
        have fin : ∀ {σ8 : L2.St} {s' : Shared} {H' : Hp}, wipe σ8 (own.map fun x => x.2) = wipe σ (own.map fun x => x.2) → L2.Inv (blkE X s3 H3 scope (compEnvC scope cl C X.env) fp (notedBy (model X.prog X.w) X.A (compEnvC scope cl C X.env) (CompFails (model X.prog X.w) X.A X.xe (compEnvC scope cl C X.env)))) ([] ++ pinsAt fp s7.heap) σ8 H' s' → Nx H' → ∃ m, m < n ∧ ∃ i H', L2.Inv (blkE X s3 H3 scope (compEnvC scope cl C X.env) fp (notedBy (model X.prog X.w) X.A (compEnvC scope cl C X.env) (CompFails (model X.prog X.w) X.A X.xe (compEnvC scope cl C X.env)))) [] (wipe σ (own.map fun x => x.2)) H' s' ∧ tn i s'.heap ∧ (∀ b, b ∈ fp → H' b = none) ∧ Wt i m H' := by
          intro σ8 s' H' hw I' nx
          obtain ⟨m', hm, w'⟩ := hNx H' nx
          have pin' : ∀ b, b ∈ fp → ∀ o, s7.heap.get? b = some o → s'.heap.get? b = some o ∧ H' b = none := fun b hb o e => by
            have z := I'.pin (b, o) (List.mem_append_right _ (List.mem_append_right [] (mem_pinsAt hb e)))
            exact ⟨z.1, z.2.1⟩
          refine ⟨m', hm, i + 1, H', Inv.weak (Inv.unpinned I') ?_ (fun j v e => ?_), T.keep (i + 1) s7.heap s'.heap st7 fun b hb o e => (pin' b hb o e).1, fun b hb => ?_, w'⟩
          · rw [← hw, wipe_length]
          · rw [← hw] at e; exact (wipe_some e).1
          · obtain ⟨o, e, _⟩ := T.obj (i + 1) s7.heap st7 b hb
            exact (pin' b hb o e).2
        refine thn (pg.run ([] ++ pinsAt fp s7.heap) s7 _ H7 x u _ I7' r7 (step x H7 y7)) fun _ s8 ⟨σ8, H8, I8, hw8, q8⟩ => ?_
        refine thn (pt.run ([] ++ pinsAt fp s7.heap) s8 σ8 H8 _ I8 q8) fun b s9 ⟨H9, I9, q9⟩ => ?_
        cases b with
        | false => exact fin hw8 I9 q9
        | true =>
          refine thn (pe.run ([] ++ pinsAt fp s7.heap) s9 σ8 H9 _ I9 q9) fun z s10 ⟨yv, H10, I10, r10, acc, hD10, hz10, nx⟩ => ?_
          exact app_ok (X := (blkE X s3 H3 scope (compEnvC scope cl C X.env) fp (notedBy (model X.prog X.w) X.A (compEnvC scope cl C X.env) (CompFails (model X.prog X.w) X.A X.xe (compEnvC scope cl C X.env))))) I10 hD10 hz10 r10 fun s11 I11 => fin hw8 I11 nx
    exact codeAny_compStart_list loop (T.self X.A 0 s4 _ _ st4 loop)
  rw [hs4, hs3, hC, hcl, hs3] at goal
  exact goal
theorem pe_lcX {md : Bool} {X : Cx} {L : Addr} {W : WX} (tk : ThrOk md X L W) {elt tg iter : Expr} {ifs : List Expr} {scope : Scope} {own : List (Str × Nat)} {pos : Pos} {wi : TI} {g : TG} {te : L2.St → TE} {tT : L2.St → TT}
    (hc : X.calm = true) (hN : X.N.Nodup) (hi : PI X tg iter wi) (ok : BlkOk X.N X.env.scope scope own)
    (hg : ∀ (σ : L2.St) (s : Shared) (H : Hp) (C : Addr) (cl : List (Str × Addr)) (fp : List Addr) (E : Value → Shared → Prop), ThrOk md (blkE X s H scope (compEnvC scope cl C X.env) fp E) L (fun cls d _ H => W cls d σ H) → PG (blkE X s H scope (compEnvC scope cl C X.env) fp E) tg g)
    (ht : ∀ (σ : L2.St) (s : Shared) (H : Hp) (C : Addr) (cl : List (Str × Addr)) (fp : List Addr) (E : Value → Shared → Prop), ThrOk md (blkE X s H scope (compEnvC scope cl C X.env) fp E) L (fun cls d _ H => W cls d σ H) → PTs (blkE X s H scope (compEnvC scope cl C X.env) fp E) ifs (tT σ))
    (he : ∀ (σ : L2.St) (s : Shared) (H : Hp) (C : Addr) (cl : List (Str × Addr)) (fp : List Addr) (E : Value → Shared → Prop), ThrOk md (blkE X s H scope (compEnvC scope cl C X.env) fp E) L (fun cls d _ H => W cls d σ H) → PE (blkE X s H scope (compEnvC scope cl C X.env) fp E) elt (te σ))
    (hs : ∀ (x : Value), foldedSetIterable iter X.env x = pure x) :
    PE X (.ListComp elt [{ target := tg, iter := iter, ifs := ifs, is_async := 0 }] scope pos) (fun σ H Q => tLc wi g (tT σ) (te σ) (own.map fun x => x.2) σ H Q) := by
  refine ⟨fun pins s σ H Q I h => ?_⟩
  rw [eval_ListComp]
  exact lc_coreX tk hc hN I hi ok (hg σ) (ht σ) (he σ) hs h fun D C s' m H' I' q hn f => ⟨m, hn, fun h'' sb => ⟨V.ref D, H', Inv.turned I' (fun b o hb e => (sb.2 b hb).trans e) f.1 f.2.1 f.2.2.2.1 f.2.2.2.2.1 f.2.2.2.2.2, rfl, q⟩⟩
theorem ps_setLcX {md : Bool} {X : Cx} {L : Addr} {W : WX} (tk : ThrOk md X L W) {i : Nat} {y : Str} {py : Pos} {elt tg iter : Expr} {ifs : List Expr} {scope : Scope} {own : List (Str × Nat)} {pos spos : Pos} {wi : TI} {g : TG} {te : L2.St → TE} {tT : L2.St → TT}
    (hc : X.calm = true) (hN : X.N.Nodup) (hy : X.N[i]? = some y) (hyl : X.env.scope.names.lookup y = some .local)
    (hsw : swapsWith (.ListComp elt [{ target := tg, iter := iter, ifs := ifs, is_async := 0 }] scope pos) (some (.Name y py)) spos.line X.env = pure true)
    (hi : PI X tg iter wi) (ok : BlkOk X.N X.env.scope scope own)
    (hg : ∀ (σ : L2.St) (s : Shared) (H : Hp) (C : Addr) (cl : List (Str × Addr)) (fp : List Addr) (E : Value → Shared → Prop), ThrOk md (blkE X s H scope (compEnvC scope cl C X.env) fp E) L (fun cls d _ H => W cls d σ H) → PG (blkE X s H scope (compEnvC scope cl C X.env) fp E) tg g)
    (ht : ∀ (σ : L2.St) (s : Shared) (H : Hp) (C : Addr) (cl : List (Str × Addr)) (fp : List Addr) (E : Value → Shared → Prop), ThrOk md (blkE X s H scope (compEnvC scope cl C X.env) fp E) L (fun cls d _ H => W cls d σ H) → PTs (blkE X s H scope (compEnvC scope cl C X.env) fp E) ifs (tT σ))
    (he : ∀ (σ : L2.St) (s : Shared) (H : Hp) (C : Addr) (cl : List (Str × Addr)) (fp : List Addr) (E : Value → Shared → Prop), ThrOk md (blkE X s H scope (compEnvC scope cl C X.env) fp E) L (fun cls d _ H => W cls d σ H) → PE (blkE X s H scope (compEnvC scope cl C X.env) fp E) elt (te σ))
    (hs : ∀ (x : Value), foldedSetIterable iter X.env x = pure x) :
    PS X (.Assign [.Name y py] (.ListComp elt [{ target := tg, iter := iter, ifs := ifs, is_async := 0 }] scope pos) spos) (tAsg (fun σ H Q => tLc wi g (tT σ) (te σ) (own.map fun x => x.2) σ H Q) (gName i)) := by
  refine ⟨fun pins s σ H D I h => ?_⟩
  rw [exec_Assign_Name_used y py _ spos hsw]
  refine wpAny_bind (wpAny_standAt (wpAny_bind ?_))
  have h' : tLc wi g (tT σ) (te σ) (own.map fun x => x.2) σ H (fun v H' => gName i v σ H' D.nx) := h
  unfold evalThenUse
  refine wpAny_bind (thn (lc_coreX tk hc hN I hi ok (hg σ) (ht σ) (he σ) hs h' fun L' C s' m H' I' q hn f => ?_) fun x s' hq => wpAny_pure (wpAny_pure hq))
  show wpAny (model X.prog X.w) X.A (assign (.Name y py) X.env (.ref L')) _ X.xe s'
  refine wpAny_assign_Name (store_ok2 I' hN hy (.inl hyl) (show RelV (V.ref L') (Value.ref L') from rfl) (fun s2 I2 x => ?_) (.inr hyl))
  obtain ⟨a, sb, ha⟩ := x
  obtain ⟨f0, f1, f2, f3, f4, f5⟩ := f
  have haC : C ≠ a := by
    rcases ha with z | z
    · rw [z]; exact f1
    · exact fun e => f4 y a z e.symm
  exact ⟨m, Heap.Ns.sameBut hn sb haC, fun h3 sb3 => ⟨σ.set i (some (V.ref L')), H', Inv.turned I2 (fun b o hb e => (sb3.2 b hb).trans e) f0 f1 f3 f4 f5, q⟩⟩
end SG

namespace SG
open PySem PySem.Spec PyProof.Rows L2

theorem pe_imp {X : Cx} {e : Expr} {t t' : TE} (h : PE X e t) (k : ∀ σ H Q, t' σ H Q → t σ H Q) : PE X e t' := ⟨fun pins s σ H Q I q => h.run pins s σ H Q I (k _ _ _ q)⟩
theorem pa_imp {X : Cx} {e : List Expr} {t t' : TA} (h : PA X e t) (k : ∀ σ H Q, t' σ H Q → t σ H Q) : PA X e t' := ⟨fun pos pins s σ H Q I q => h.run pos pins s σ H Q I (k _ _ _ q)⟩
theorem pt_imp {X : Cx} {e : Expr} {t t' : TT} (h : PT X e t) (k : ∀ σ H Q, t' σ H Q → t σ H Q) : PT X e t' := ⟨fun pins s σ H Q I q => h.run pins s σ H Q I (k _ _ _ q)⟩
theorem pi_imp {X : Cx} {tg e : Expr} {t t' : TI} (h : PI X tg e t) (k : ∀ σ H Q, t' σ H Q → t σ H Q) : PI X tg e t' := ⟨fun pins s σ H Q I q => h.run pins s σ H Q I (k _ _ _ q)⟩
theorem pi_or {X : Cx} {tg e : Expr} {t t' : TI} (h : PI X tg e t) (h' : PI X tg e t') : PI X tg e (fun σ H R => t σ H R ∨ t' σ H R) :=
  ⟨fun pins s σ H R I q => q.elim (h.run pins s σ H R I) (h'.run pins s σ H R I)⟩
theorem pg_or {X : Cx} {e : Expr} {t t' : TG} (h : PG X e t) (h' : PG X e t') : PG X e (fun v σ H Q => t v σ H Q ∨ t' v σ H Q) :=
  ⟨fun pins s σ H v u Q I r q => q.elim (h.run pins s σ H v u Q I r) (h'.run pins s σ H v u Q I r)⟩

/-- a def's promise: what the plain function says of it -/
def spF (K : PySem.W.Frag) (mg : Str → Option Value) (g : List PV → Rs PV) : Sp := fun vs H Q E =>
  ∃ S ps H1, Same S H ∧ RpA K H1 S ps vs ∧ match g ps with
    | .ok p => ∀ v H' S', Ext S H S' H' → Rp K H S' p v → Q v H'
    | .err C => ∀ a, mg C = some (.ref a) → ∀ H', Same H H' → E (.ref a) none H'
    | .no => False

def bltNames : List Str := ["len", "abs", "int", "list", "tuple", "sum", "all", "max", "min", "bool", "str", "range", "zip", "enumerate", "isinstance"]
/-- the module's facts -/
structure Glob (cp : CP) (G : Gt) (lv : Nat) (P : Program) (w : World) (K : PySem.W.Frag) (mg : Str → Option Value) (base : Heap) : Prop where
  blt : ∀ x, bltNames.contains x = true → mg x = none
  gi : ∀ x i, cp.gi.lookup x = some i → ∃ t, mg x = some (.int i t)
  gs : ∀ x z, cp.gs.lookup x = some z → ∃ t, mg x = some (.str z t)
  own : ∀ x, cp.ns.contains x = true → ∃ f fd ps, mg x = some (.ref f) ∧ PySem.W.keepIn K (.ref f) = true ∧ Binds K fd ps [] ∧ FnOk P w K mg base (CXB cp.md P w) lv f fd ps (spF K mg (G x))

structure XOk (cp : CP) (G : Gt) (lv : Nat) (H0 : Hp) (X : Cx) (sc : Scope) (W : WX) : Prop where
  N : X.N = cp.N
  nd : cp.N.Nodup
  sc : X.env.scope = sc
  calm : X.calm = true
  room : Room lv X.A
  thr : ∃ L, ThrOk cp.md X L W
  gl : Glob cp G lv X.prog X.w X.K X.mg X.base

section
variable {cp : CP} {G : Gt} {lv : Nat} {H0 : Hp} {X : Cx} {sc : Scope} {W : WX}
theorem XOk.pass (o : XOk cp G lv H0 X sc W) (σ : L2.St) : PassesAt (CXB cp.md X.prog X.w) X σ (WE W σ) := by
  obtain ⟨L, t⟩ := o.thr
  exact t.pass σ fun _ _ _ h => h
theorem XOk.units (o : XOk cp G lv H0 X sc W) : X.A.units + 65 < cLine := by have := o.room.un; omega

theorem plain_of {x : Str} (h : plainB x = true) : (x == ("__debug__" : Str)) = false ∧ (x == ("__classdict__" : Str)) = false ∧ x ≠ "__name__" := by
  unfold plainB at h
  simp only [Bool.and_eq_true, Bool.not_eq_true', decide_eq_false_iff_not] at h
  exact ⟨beq_eq_false_iff_ne.mpr h.1.1, beq_eq_false_iff_ne.mpr h.1.2, h.2⟩
theorem vis_of {x : Str} (o : XOk cp G lv H0 X sc W) (h : visB sc x = true) : Vis X.env.scope x := by
  unfold visB at h
  rw [o.sc]
  simp only [Bool.or_eq_true, decide_eq_true_eq] at h
  rcases h with (h | h) | h
  · exact .inl h
  · exact .inr (.inl h)
  · exact .inr (.inr h)
theorem gl_of {x : Str} (o : XOk cp G lv H0 X sc W) (h : globB sc x = true) : Gl X x := by
  unfold globB at h
  have := of_decide_eq_true h
  show X.env.scope.names.lookup x = _
  rw [o.sc]; exact this

/-! ### names -/
theorem s_name {x : Str} {pos : Pos} {c : E} (o : XOk cp G lv H0 X sc W) (h : nameE cp sc x = some c) : PE X (.Name x pos) (spE G X.K X.mg H0 W c) := by
  unfold nameE at h
  split at h
  · rename_i hp
    obtain ⟨p1, p2, _⟩ := plain_of hp
    split at h
    · rename_i hv
      cases hi : ixOf x cp.N 0 with
      | none => rw [hi] at h; cases h
      | some i =>
        rw [hi] at h
        injection h with h
        subst h
        have hN : X.N[i]? = some x := by rw [o.N]; exact ixOf_get0 hi
        refine pe_imp (pe_var hN (vis_of o hv) p1 p2) fun σ H Q h => ?_
        obtain ⟨ρ, S, r, a⟩ := h
        unfold eE getV at a
        split at a
        · rename_i p hp
          obtain ⟨v, h1, h2⟩ := r.fz _ _ hp
          exact ⟨v, h1, a v H S (.refl r.hs) h2 fun z => Bool.noConfusion z⟩
        · exact a.elim
    · split at h
      · rename_i hg
        cases hi : cp.gi.lookup x with
        | some i =>
          rw [hi] at h
          injection h with h
          subst h
          obtain ⟨t, ht⟩ := o.gl.gi x i hi
          refine pe_imp (pe_glob (v := .int i) (gl_of o hg) ht ⟨t, rfl⟩ p1) fun σ H Q h => ?_
          obtain ⟨ρ, S, r, a⟩ := h
          unfold eE at a
          exact Ans.int a r.hs
        | none =>
          rw [hi] at h
          cases hz : cp.gs.lookup x with
          | none => rw [hz] at h; cases h
          | some z =>
            rw [hz] at h
            injection h with h
            subst h
            obtain ⟨t, ht⟩ := o.gl.gs x z hz
            refine pe_imp (pe_glob (v := .str z) (gl_of o hg) ht ⟨t, rfl⟩ p1) fun σ H Q h => ?_
            obtain ⟨ρ, S, r, a⟩ := h
            unfold eE at a
            exact Ans.str a r.hs
      · cases h
  · cases h

/-! ### operators -/
theorem when_ne {α : Type} {c : Prop} [Decidable c] {a : α} (k : Str) : Rs.when c a ≠ .err k := by
  unfold Rs.when; split <;> exact fun h => by cases h
theorem opV_ne (o : Op) (p q : PV) (c : Str) : opV o p q ≠ .err c := by
  cases o <;> cases p <;> cases q <;> first
    | exact fun h => by cases h
    | exact when_ne c
theorem inV_ne (p q : PV) (c : Str) : inV' p q ≠ .err c := by
  cases q with
  | lst y xs => exact when_ne c
  | str z =>
    show (match sgn1 p with | some c => Rs.ok (PV.bl (decide (c ∈ z.cps.toList))) | none => .no) ≠ _
    cases sgn1 p <;> exact fun h => by cases h
  | _ => exact fun h => by cases h
theorem notinV_ne (p q : PV) (c : Str) : notinV' p q ≠ .err c := by
  cases q with
  | lst y xs => exact when_ne c
  | str z =>
    show (match sgn1 p with | some c => Rs.ok (PV.bl (!decide (c ∈ z.cps.toList))) | none => .no) ≠ _
    cases sgn1 p <;> exact fun h => by cases h
  | _ => exact fun h => by cases h
theorem cpV_ne (o : Cp) (p q : PV) (c : Str) : cpV o p q ≠ .err c := by
  cases o with
  | eq => exact when_ne c
  | ne => exact when_ne c
  | isin => exact inV_ne p q c
  | notin => exact notinV_ne p q c
  | lt => cases p <;> cases q <;> exact fun h => by cases h
  | le => cases p <;> cases q <;> exact fun h => by cases h
  | gt => cases p <;> cases q <;> exact fun h => by cases h
  | ge => cases p <;> cases q <;> exact fun h => by cases h
theorem ixV_ne (p q : PV) (c : Str) : ixV p q ≠ .err c := by
  cases p <;> cases q <;> first
    | exact fun h => by cases h
    | (unfold ixV; dsimp only; split <;> first | exact when_ne c | exact fun h => by cases h)
theorem slV_ne (lo hi : Option Int) (p : PV) (c : Str) : slV lo hi p ≠ .err c := by
  cases p <;> first | exact when_ne c | exact fun h => by cases h
theorem opr_of {b : Bool} {o : Operator} {o' : Op} (h : opOf o = some o') : OpR X (binaryOp o) (rV2 b X.K H0 (opV o')) := by
  cases o <;> first
    | (injection h with h; subst h; first | exact opAdd | exact opSub | exact opMul | exact opFdiv | exact opMod | exact opPow)
    | cases h
theorem cpr_of {b : Bool} {o : CmpOp} {o' : Cp} (x : XOk cp G lv H0 X sc W) (h : cpOf o = some o') : OpR X (compareOp o) (rV2 b X.K H0 (cpV o')) := by
  have u := x.units
  cases o <;> first
    | (injection h with h; subst h; first | exact cpEq (by omega) | exact cpNe (by omega) | exact cpLt | exact cpLe | exact cpGt | exact cpGe | exact cpIn u | exact cpNotIn u)
    | cases h
/-- two terms, then an operation on their values -/
theorem s_bin {b : Bool} {f : PV → PV → Rs PV} {a c : E} {σ : L2.St} {H S : Hp} {Q : VK} {ρ : Rho} {K : PySem.W.Frag} {mg : Str → Option Value} (ne : ∀ p q k, f p q ≠ .err k) (r : EnvR K H0 S H ρ σ)
    (h : Aft mg W σ H ((eE G ρ a).bind fun p => (eE G ρ c).bind fun q => f p q) fun p => Ans b K H0 S H p Q) :
    tOp (rV2 b K H0 f) (spE G K mg H0 W a) (spE G K mg H0 W c) σ H Q := by
  refine sp_then r h.bind fun p x H1 S1 e1 h1 x1 rp => ?_
  have r1 := r.ext x1
  refine sp_then r1 (h1.bind.mono (x1.same r.hs) fun _ _ q => q) fun q y H2 S2 e2 h2 x2 rq => ?_
  have r2 := r1.ext x2
  obtain ⟨z, ez, az⟩ := h2.ok (ne p q)
  refine ⟨S2, p, q, z, r2.h0, r2.hs, rp.mono x2.st, rq, ez, fun v H' S' x3 rv nw => ?_⟩
  refine az v H' S' ((x1.trans x2).trans x3) rv fun hb xs ex => ?_
  obtain ⟨a, ea, na⟩ := nw hb xs ex
  exact ⟨a, ea, ((x1.trans x2).same r.hs).free na⟩
theorem s_op {o : Operator} {o' : Op} {a c : Expr} {a' c' : E} {pos : Pos} (ho : opOf o = some o') (ha : PE X a (spE G X.K X.mg H0 W a')) (hc : PE X c (spE G X.K X.mg H0 W c')) :
    PE X (.BinOp a o c pos) (spE G X.K X.mg H0 W (.op o' a' c')) := by
  refine pe_imp (pe_op (opr_of (H0 := H0) (b := true) ho) ha hc) fun σ H Q h => ?_
  obtain ⟨ρ, S, r, h⟩ := h
  unfold eE at h
  exact s_bin (opV_ne o') r h
theorem s_cmp {o : CmpOp} {o' : Cp} {a c : Expr} {a' c' : E} {pos : Pos} (x : XOk cp G lv H0 X sc W) (ho : cpOf o = some o') (hm : behindInMarks o c = false) (ha : PE X a (spE G X.K X.mg H0 W a')) (hc : PE X c (spE G X.K X.mg H0 W c')) :
    PE X (.Compare a [o] [c] pos) (spE G X.K X.mg H0 W (.cmp o' a' c')) := by
  refine pe_imp (pe_cmpR (cpr_of (H0 := H0) (b := false) x ho) ha hc hm) fun σ H Q h => ?_
  obtain ⟨ρ, S, r, h⟩ := h
  unfold eE at h
  exact s_bin (cpV_ne o') r h
theorem s_neg {a : Expr} {a' : E} {pos : Pos} (ha : PE X a (spE G X.K X.mg H0 W a')) : PE X (.UnaryOp .USub a pos) (spE G X.K X.mg H0 W (.neg a')) := by
  refine pe_imp (pe_un (unNeg (b := false) (H0 := H0)) ha) fun σ H Q h => ?_
  obtain ⟨ρ, S, r, h⟩ := h
  unfold eE at h
  refine sp_then r h.bind fun p x H1 S1 e1 h1 x1 rp => ?_
  have r1 := r.ext x1
  obtain ⟨z, ez, az⟩ := h1.ok fun c => by cases p <;> exact fun h => by cases h
  exact ⟨S1, p, z, r1.h0, r1.hs, rp, ez, fun v H' S' x3 rv _ => az v H' S' (x1.trans x3) rv fun z => Bool.noConfusion z⟩
theorem s_not {a : Expr} {a' : E} {pos : Pos} (ha : PE X a (spE G X.K X.mg H0 W a')) : PE X (.UnaryOp .Not a pos) (spE G X.K X.mg H0 W (.not a')) := by
  refine pe_imp (L2.pe_not ha) fun σ H Q h => ?_
  obtain ⟨ρ, S, r, h⟩ := h
  unfold eE at h
  refine sp_then r h.bind fun p x H1 S1 e1 h1 x1 rp => ?_
  have r1 := r.ext x1
  cases p with
  | bl k =>
    rw [Rp] at rp
    subst rp
    exact ⟨k, rfl, h1 _ _ _ x1 (by rw [Rp]) fun z => Bool.noConfusion z⟩
  | _ => exact h1.elim
theorem s_isN {a : Expr} {a' : E} {n : Bool} {op : CmpOp} {j : Nat} {p' pos : Pos} (hop : op = if n then .IsNot else .Is) (ha : PE X a (spE G X.K X.mg H0 W a')) :
    PE X (.Compare a [op] [.Constant .none j p'] pos) (spE G X.K X.mg H0 W (.isN n a')) := by
  have key : ∀ {σ : L2.St} {H S : Hp} {ρ : Rho} {Q : VK}, EnvR X.K H0 S H ρ σ → Aft X.mg W σ H ((eE G ρ a').bind (isNV n)) (fun p => Ans false X.K H0 S H p Q) →
      spE G X.K X.mg H0 W a' σ H fun x H1 => Q (.bl (if n then !decide (x = .non) else decide (x = .non))) H1 := fun {σ H S ρ Q} r h => by
    refine sp_then r h.bind fun p x H1 S1 e1 h1 x1 rp => ?_
    have e : (if n then !decide (x = .non) else decide (x = .non)) = (if n then !isNon p else isNon p) := by
      have : decide (x = .non) = isNon p := by
        cases p with
        | non => rw [Rp] at rp; subst rp; rfl
        | bl k => rw [Rp] at rp; subst rp; rfl
        | int k => rw [Rp] at rp; subst rp; rfl
        | str k => rw [Rp] at rp; subst rp; rfl
        | scr k => rw [Rp] at rp; obtain ⟨a, rfl, _⟩ := rp; rfl
        | lst m k => rw [Rp] at rp; obtain ⟨a, _, rfl, _⟩ := rp; rfl
        | tup k => rw [Rp] at rp; obtain ⟨a, _, rfl, _⟩ := rp; rfl
      rw [this]
    rw [e]
    exact h1 _ _ _ x1 (by rw [Rp]) fun z => Bool.noConfusion z
  cases n with
  | false =>
    subst hop
    refine pe_imp (pe_cmp (pc_isN ha)) fun σ H Q h => ?_
    obtain ⟨ρ, S, r, h⟩ := h
    unfold eE at h
    exact key r h
  | true =>
    subst hop
    refine pe_imp (pe_cmp (pc_notN ha)) fun σ H Q h => ?_
    obtain ⟨ρ, S, r, h⟩ := h
    unfold eE at h
    exact key r h
theorem s_chain {o o2 : CmpOp} {o' o2' : Cp} {a c d : Expr} {a' c' d' : E} {pos : Pos} (x : XOk cp G lv H0 X sc W) (ho : cpOf o = some o') (ho2 : cpOf o2 = some o2') (hm : lastMarks [o, o2] [c, d] = false)
    (ha : PE X a (spE G X.K X.mg H0 W a')) (hc : PE X c (spE G X.K X.mg H0 W c')) (hd : PE X d (spE G X.K X.mg H0 W d')) : PE X (.Compare a [o, o2] [c, d] pos) (spE G X.K X.mg H0 W (.chain o' o2' a' c' d')) := by
  refine pe_imp (pe_chain (cpr_of (H0 := H0) (b := false) x ho) (cpr_of (H0 := H0) (b := false) x ho2) ha hc hd hm) fun σ H Q h => ?_
  obtain ⟨ρ, S, r, h⟩ := h
  unfold eE at h
  refine sp_then r h.bind fun p x H1 S1 e1 h1 x1 rp => ?_
  have r1 := r.ext x1
  refine sp_then r1 (h1.bind.mono (x1.same r.hs) fun _ _ q => q) fun q y H2 S2 e2 h2 x2 rq => ?_
  have r2 := r1.ext x2
  obtain ⟨z, ez, h3⟩ := h2.bind.ok (cpV_ne o' p q)
  refine ⟨S2, p, q, z, r2.h0, r2.hs, rp.mono x2.st, rq, ez, fun v H3 S3 x3 rv _ => ?_⟩
  cases z with
  | bl k =>
    rw [Rp] at rv
    refine ⟨k, rv, ?_⟩
    have x23 := x2.trans x3
    have x123 := x1.trans x23
    have r3 := r2.ext x3
    cases k with
    | false => exact h3 _ _ _ x123 (by rw [Rp]) fun z => Bool.noConfusion z
    | true =>
      have h3' : Aft X.mg W σ H ((eE G ρ d').bind fun s => cpV o2' q s) fun p => Ans false X.K H0 S H p Q := h3
      show spE G X.K X.mg H0 W d' σ H3 fun w' H4 => rV2 false X.K H0 (cpV o2') y w' H4 Q
      refine sp_then r3 (h3'.bind.mono (x123.same r.hs) fun _ _ q => q) fun s w H4 S4 e4 h4 x4 rs => ?_
      have r4 := r3.ext x4
      obtain ⟨u, eu, au⟩ := h4.ok (cpV_ne o2' q s)
      exact ⟨S4, q, s, u, r4.h0, r4.hs, rq.mono (x3.trans x4).st, rs, eu, fun v H' S' x5 rv _ => au v H' S' ((x123.trans x4).trans x5) rv fun z => Bool.noConfusion z⟩
  | _ => exact h3.elim
theorem s_and {a b : Expr} {r : List Expr} {a' b' : E} {pos : Pos} (ha : PE X a (spE G X.K X.mg H0 W a')) (hb : PE X (.BoolOp .And (b :: r) pos) (spE G X.K X.mg H0 W b')) :
    PE X (.BoolOp .And (a :: b :: r) pos) (spE G X.K X.mg H0 W (.and a' b')) := by
  refine pe_imp (pe_and ha hb) fun σ H Q h => ?_
  obtain ⟨ρ, S, r, h⟩ := h
  unfold eE at h
  refine sp_then r h.bind fun p x H1 S1 e1 h1 x1 rp => ?_
  have r1 := r.ext x1
  cases p with
  | bl k =>
    rw [Rp] at rp
    refine ⟨k, rp, ?_⟩
    cases k with
    | false => exact h1 _ _ _ x1 (by rw [Rp]) fun z => Bool.noConfusion z
    | true =>
      have h2 : Aft X.mg W σ H (eE G ρ b') fun p => Ans false X.K H0 S H p Q := h1
      exact ⟨ρ, S1, r1, h2.mono (x1.same r.hs) fun p _ q v H' S' x2 rv _ => q v H' S' (x1.trans x2) rv fun z => Bool.noConfusion z⟩
  | _ => exact h1.elim
theorem s_or {a b : Expr} {r : List Expr} {a' b' : E} {pos : Pos} (ha : PE X a (spE G X.K X.mg H0 W a')) (hb : PE X (.BoolOp .Or (b :: r) pos) (spE G X.K X.mg H0 W b')) :
    PE X (.BoolOp .Or (a :: b :: r) pos) (spE G X.K X.mg H0 W (.or a' b')) := by
  refine pe_imp (pe_or ha hb) fun σ H Q h => ?_
  obtain ⟨ρ, S, r, h⟩ := h
  unfold eE at h
  refine sp_then r h.bind fun p x H1 S1 e1 h1 x1 rp => ?_
  have r1 := r.ext x1
  cases p with
  | bl k =>
    rw [Rp] at rp
    refine ⟨k, rp, ?_⟩
    cases k with
    | true => exact h1 _ _ _ x1 (by rw [Rp]) fun z => Bool.noConfusion z
    | false =>
      have h2 : Aft X.mg W σ H (eE G ρ b') fun p => Ans false X.K H0 S H p Q := h1
      exact ⟨ρ, S1, r1, h2.mono (x1.same r.hs) fun p _ q v H' S' x2 rv _ => q v H' S' (x1.trans x2) rv fun z => Bool.noConfusion z⟩
  | _ => exact h1.elim

/-! ### items and slices -/
theorem s_ix {a i : Expr} {a' i' : E} {pos : Pos} (hs : L2.PlainIx i) (ha : PE X a (spE G X.K X.mg H0 W a')) (hi : PE X i (spE G X.K X.mg H0 W i')) :
    PE X (.Subscript a i pos) (spE G X.K X.mg H0 W (.ix a' i')) := by
  refine pe_imp (pe_ix (ixR (H0 := H0)) ha hi hs) fun σ H Q h => ?_
  obtain ⟨ρ, S, r, h⟩ := h
  unfold eE at h
  exact s_bin (ixV_ne) r h
/-- a slot's own list, read -/
theorem s_ixv {x : Str} {v : Nat} {i : Expr} {i' : E} {p pos : Pos} (o : XOk cp G lv H0 X sc W) (hN : cp.N[v]? = some x) (hv : visB sc x = true) (hp : plainB x = true) (hs : L2.PlainIx i) (hi : PE X i (spE G X.K X.mg H0 W i')) :
    PE X (.Subscript (.Name x p) i pos) (spE G X.K X.mg H0 W (.ixv v i')) := by
  obtain ⟨p1, p2, _⟩ := plain_of hp
  have hN' : X.N[v]? = some x := by rw [o.N]; exact hN
  refine pe_imp (pe_ix ((ixR (H0 := H0)).or (ix_list)) (pe_var hN' (vis_of o hv) p1 p2) hi hs) fun σ H Q h => ?_
  obtain ⟨ρ, S, r, h⟩ := h
  unfold eE getB at h
  split at h
  · rename_i q hq
    obtain ⟨u, h1, h2⟩ := r.fz _ _ hq
    refine ⟨u, h1, ?_⟩
    have h : Aft X.mg W σ H ((eE G ρ i').bind fun q' => ixV q q') fun p => Ans false X.K H0 S H p Q := h
    refine sp_then r h.bind fun q2 y H2 S2 e2 h3 x2 rq => .inl ?_
    have r2 := r.ext x2
    obtain ⟨z, ez, az⟩ := h3.ok (ixV_ne _ q2)
    exact ⟨S2, q, q2, z, r2.h0, r2.hs, h2.mono x2.st, rq, ez, fun v H' S' x3 rv _ => az v H' S' (x2.trans x3) rv fun z => Bool.noConfusion z⟩
  · rename_i xs hq
    obtain ⟨a, vs, h1, hH, hS, hy, ra⟩ := r.own _ _ hq
    refine ⟨.ref a, h1, ?_⟩
    have h : Aft X.mg W σ H ((eE G ρ i').bind fun q' => ixV (.lst true xs) q') fun p => Ans false X.K H0 S H p Q := h
    refine sp_then r h.bind fun q2 y H2 S2 e2 h3 x2 rq => .inr ?_
    have r2 := r.ext x2
    obtain ⟨z, ez, az⟩ := h3.ok (ixV_ne _ q2)
    cases q2 with
    | int i =>
      rw [Rp] at rq
      unfold ixV at ez
      dsimp only at ez
      cases ea : atI xs i with
      | none => rw [ea] at ez; cases ez
      | some z' =>
        rw [ea] at ez
        injection ez with ez
        subst ez
        obtain ⟨w, hw, rw'⟩ := ra.atI ea
        exact ⟨a, vs, i, w, rfl, rq, .of (x2.ls a _ hH hS).1, hw, az w H2 S2 x2 (rw'.mono x2.st) fun z => Bool.noConfusion z⟩
    | _ => cases ez
  · exact h.elim
theorem s_slLo {a lo : Expr} {a' lo' : E} {p2 pos : Pos} (ha : PE X a (spE G X.K X.mg H0 W a')) (hl : PE X lo (spE G X.K X.mg H0 W lo')) :
    PE X (.Subscript a (.Slice (some lo) none none p2) pos) (spE G X.K X.mg H0 W (.slLo a' lo')) := by
  refine pe_imp (pe_slice (slR (b := true) (H0 := H0)) ha (po_some hl) po_none) fun σ H Q h => ?_
  obtain ⟨ρ, S, r, h⟩ := h
  unfold eE at h
  refine sp_then r h.bind fun p x H1 S1 e1 h1 x1 rp => ?_
  have r1 := r.ext x1
  refine sp_then r1 (h1.bind.mono (x1.same r.hs) fun _ _ q => q) fun q y H2 S2 e2 h2 x2 rq => ?_
  have r2 := r1.ext x2
  cases q with
  | int i =>
    rw [Rp] at rq
    refine ⟨i, rq, ?_⟩
    obtain ⟨z, ez, az⟩ := h2.ok (slV_ne _ _ p)
    refine ⟨S2, p, z, r2.h0, r2.hs, rp.mono x2.st, ez, fun v H' S' x3 rv nw => az v H' S' ((x1.trans x2).trans x3) rv fun hb xs ex => ?_⟩
    obtain ⟨a, ea, na⟩ := nw hb xs ex
    exact ⟨a, ea, ((x1.trans x2).same r.hs).free na⟩
  | _ => exact h2.elim
theorem s_slHi {a lo : Expr} {a' lo' : E} {p2 pos : Pos} (ha : PE X a (spE G X.K X.mg H0 W a')) (hl : PE X lo (spE G X.K X.mg H0 W lo')) :
    PE X (.Subscript a (.Slice none (some lo) none p2) pos) (spE G X.K X.mg H0 W (.slHi a' lo')) := by
  refine pe_imp (pe_slice (slR (b := true) (H0 := H0)) ha po_none (po_some hl)) fun σ H Q h => ?_
  obtain ⟨ρ, S, r, h⟩ := h
  unfold eE at h
  refine sp_then r h.bind fun p x H1 S1 e1 h1 x1 rp => ?_
  have r1 := r.ext x1
  show spE G X.K X.mg H0 W lo' σ H1 _
  refine sp_then r1 (h1.bind.mono (x1.same r.hs) fun _ _ q => q) fun q y H2 S2 e2 h2 x2 rq => ?_
  have r2 := r1.ext x2
  cases q with
  | int i =>
    rw [Rp] at rq
    refine ⟨i, rq, ?_⟩
    obtain ⟨z, ez, az⟩ := h2.ok (slV_ne _ _ p)
    refine ⟨S2, p, z, r2.h0, r2.hs, rp.mono x2.st, ez, fun v H' S' x3 rv nw => az v H' S' ((x1.trans x2).trans x3) rv fun hb xs ex => ?_⟩
    obtain ⟨a, ea, na⟩ := nw hb xs ex
    exact ⟨a, ea, ((x1.trans x2).same r.hs).free na⟩
  | _ => exact h2.elim

theorem s_rvL {a : Expr} {a' : E} {k : Nat} {p1 p2 p3 pos : Pos} (ha : PE X a (spE G X.K X.mg H0 W a')) :
    PE X (.Subscript a (.Slice none none (some (.UnaryOp .USub (.Constant (.int 1) k p1) p2)) p3) pos) (spE G X.K X.mg H0 W (.rvL a')) := by
  refine pe_imp (pe_revL ha) fun σ H Q h => ?_
  obtain ⟨ρ, S, r, h⟩ := h
  unfold eE at h
  refine sp_then r h.bind fun p x H1 S1 e1 h1 x1 rp => ?_
  have r1 := r.ext x1
  cases p with
  | lst m xs =>
    have h1 : Ans false X.K H0 S H (.lst true xs.reverse) Q := h1
    rw [Rp] at rp
    obtain ⟨a, vs, e, q, y, z⟩ := rp
    refine ⟨a, vs, e, .of (r1.hs _ _ q), fun p np => ?_⟩
    exact Ans.lst (b := false) (S := S1) (H := H1) (fun v H' S' x3 rv _ => h1 v H' S' (x1.trans x3) rv fun z => Bool.noConfusion z) r1.h0 r1.hs np z.reverse
  | _ => exact h1.elim
/-- a slot's own list, cut -/
theorem sl_own {lo hi : Option Int} {K : PySem.W.Frag} {S H S2 H2 : Hp} {Q : VK} {vs : List V} {xs : List PV} {z : PV} (h0 : Same H0 H2) (hs2 : Same S2 H2) (x2 : Ext S H S2 H2) (hs : Same S H) (ra : RpA K H0 S xs vs)
    (ez : slV lo hi (.lst true xs) = .ok z) (az : Ans true K H0 S H z Q) : ∀ p, H2 p = none → Q (.ref p) (upd H2 p (.lst (cutV vs lo hi))) := by
  injection ez with ez
  subst ez
  intro p np
  refine Ans.lst (b := true) (fun v H' S' x rv nw => az v H' S' (x2.trans x) rv fun hb ys ex => ?_) h0 hs2 np ((ra.mono x2.st).cut lo hi)
  obtain ⟨a, ea, na⟩ := nw hb ys ex
  exact ⟨a, ea, (x2.same hs).free na⟩
theorem s_slLoV {x : Str} {v : Nat} {lo : Expr} {lo' : E} {p p2 pos : Pos} (o : XOk cp G lv H0 X sc W) (hN : cp.N[v]? = some x) (hv : visB sc x = true) (hp : plainB x = true) (hl : PE X lo (spE G X.K X.mg H0 W lo')) :
    PE X (.Subscript (.Name x p) (.Slice (some lo) none none p2) pos) (spE G X.K X.mg H0 W (.slLoV v lo')) := by
  obtain ⟨p1, p3, _⟩ := plain_of hp
  have hN' : X.N[v]? = some x := by rw [o.N]; exact hN
  refine pe_imp (pe_slice ((slR (b := true) (H0 := H0)).or sl_list) (pe_var hN' (vis_of o hv) p1 p3) (po_some hl) po_none) fun σ H Q h => ?_
  obtain ⟨ρ, S, r, h⟩ := h
  unfold eE getB at h
  split at h
  · rename_i q hq
    obtain ⟨u, h1, h2⟩ := r.fz _ _ hq
    refine ⟨u, h1, ?_⟩
    have h : Aft X.mg W σ H ((eE G ρ lo').bind fun q' => slLoV q q') fun p => Ans true X.K H0 S H p Q := h
    refine sp_then r h.bind fun q2 y H2 S2 e2 h3 x2 rq => ?_
    have r2 := r.ext x2
    cases q2 with
    | int i =>
      rw [Rp] at rq
      refine ⟨i, rq, .inl ?_⟩
      obtain ⟨z, ez, az⟩ := h3.ok (slV_ne _ _ q)
      refine ⟨S2, q, z, r2.h0, r2.hs, h2.mono x2.st, ez, fun v H' S' x3 rv nw => az v H' S' (x2.trans x3) rv fun hb xs ex => ?_⟩
      obtain ⟨a, ea, na⟩ := nw hb xs ex
      exact ⟨a, ea, (x2.same r.hs).free na⟩
    | _ => exact h3.elim
  · rename_i xs hq
    obtain ⟨a, vs, h1, hH, hS, hy, ra⟩ := r.own _ _ hq
    refine ⟨.ref a, h1, ?_⟩
    have h : Aft X.mg W σ H ((eE G ρ lo').bind fun q' => slLoV (.lst true xs) q') fun p => Ans true X.K H0 S H p Q := h
    refine sp_then r h.bind fun q2 y H2 S2 e2 h3 x2 rq => ?_
    have r2 := r.ext x2
    cases q2 with
    | int i =>
      rw [Rp] at rq
      refine ⟨i, rq, .inr ?_⟩
      obtain ⟨z, ez, az⟩ := h3.ok (slV_ne _ _ (.lst true xs))
      exact ⟨a, vs, rfl, .of (x2.ls a _ hH hS).1, sl_own r2.h0 r2.hs x2 r.hs ra ez az⟩
    | _ => exact h3.elim
  · exact h.elim
theorem s_slHiV {x : Str} {v : Nat} {lo : Expr} {lo' : E} {p p2 pos : Pos} (o : XOk cp G lv H0 X sc W) (hN : cp.N[v]? = some x) (hv : visB sc x = true) (hp : plainB x = true) (hl : PE X lo (spE G X.K X.mg H0 W lo')) :
    PE X (.Subscript (.Name x p) (.Slice none (some lo) none p2) pos) (spE G X.K X.mg H0 W (.slHiV v lo')) := by
  obtain ⟨p1, p3, _⟩ := plain_of hp
  have hN' : X.N[v]? = some x := by rw [o.N]; exact hN
  refine pe_imp (pe_slice ((slR (b := true) (H0 := H0)).or sl_list) (pe_var hN' (vis_of o hv) p1 p3) po_none (po_some hl)) fun σ H Q h => ?_
  obtain ⟨ρ, S, r, h⟩ := h
  unfold eE getB at h
  split at h
  · rename_i q hq
    obtain ⟨u, h1, h2⟩ := r.fz _ _ hq
    refine ⟨u, h1, ?_⟩
    have h : Aft X.mg W σ H ((eE G ρ lo').bind fun q' => slHiV q q') fun p => Ans true X.K H0 S H p Q := h
    show spE G X.K X.mg H0 W lo' σ H _
    refine sp_then r h.bind fun q2 y H2 S2 e2 h3 x2 rq => ?_
    have r2 := r.ext x2
    cases q2 with
    | int i =>
      rw [Rp] at rq
      refine ⟨i, rq, .inl ?_⟩
      obtain ⟨z, ez, az⟩ := h3.ok (slV_ne _ _ q)
      refine ⟨S2, q, z, r2.h0, r2.hs, h2.mono x2.st, ez, fun v H' S' x3 rv nw => az v H' S' (x2.trans x3) rv fun hb xs ex => ?_⟩
      obtain ⟨a, ea, na⟩ := nw hb xs ex
      exact ⟨a, ea, (x2.same r.hs).free na⟩
    | _ => exact h3.elim
  · rename_i xs hq
    obtain ⟨a, vs, h1, hH, hS, hy, ra⟩ := r.own _ _ hq
    refine ⟨.ref a, h1, ?_⟩
    have h : Aft X.mg W σ H ((eE G ρ lo').bind fun q' => slHiV (.lst true xs) q') fun p => Ans true X.K H0 S H p Q := h
    show spE G X.K X.mg H0 W lo' σ H _
    refine sp_then r h.bind fun q2 y H2 S2 e2 h3 x2 rq => ?_
    have r2 := r.ext x2
    cases q2 with
    | int i =>
      rw [Rp] at rq
      refine ⟨i, rq, .inr ?_⟩
      obtain ⟨z, ez, az⟩ := h3.ok (slV_ne _ _ (.lst true xs))
      exact ⟨a, vs, rfl, .of (x2.ls a _ hH hS).1, sl_own r2.h0 r2.hs x2 r.hs ra ez az⟩
    | _ => exact h3.elim
  · exact h.elim

/-! ### displays and arguments -/
theorem s_nil : PA X [] (spA G X.K X.mg H0 W .nil) := pa_imp pa_nil fun σ H Q h => by
  obtain ⟨ρ, S, r, h⟩ := h
  unfold eEs at h
  exact h [] H S (.refl r.hs) RpA.nil
theorem s_cons {e : Expr} {es : List Expr} {e' : E} {es' : Es} (hs : starEach (e :: es) X.env = (false, eval e X.env) :: starEach es X.env) (he : PE X e (spE G X.K X.mg H0 W e')) (hr : PA X es (spA G X.K X.mg H0 W es')) :
    PA X (e :: es) (spA G X.K X.mg H0 W (.cons e' es')) := pa_imp (pa_cons he hr hs) fun σ H Q h => by
  obtain ⟨ρ, S, r, h⟩ := h
  unfold eEs at h
  refine sp_then r h.bind fun p x H1 S1 e1 h1 x1 rp => ?_
  have r1 := r.ext x1
  refine ⟨ρ, S1, r1, h1.bind.mono (x1.same r.hs) fun ps _ q vs H2 S2 x2 rs => ?_⟩
  exact q (x :: vs) H2 S2 (x1.trans x2) (RpA.cons (rp.mono x2.st) rs)
theorem s_lst {es : List Expr} {es' : Es} {pos : Pos} (h : PA X es (spA G X.K X.mg H0 W es')) : PE X (.List es pos) (spE G X.K X.mg H0 W (.lst es')) := pe_imp (pe_lst h) fun σ H Q h => by
  obtain ⟨ρ, S, r, h⟩ := h
  unfold eE at h
  refine ⟨ρ, S, r, h.bind.mono (Same.refl _) fun ps _ q vs H1 S1 x1 rs => ?_⟩
  have r1 := r.ext x1
  obtain ⟨z, ez, az⟩ := q.ok fun c => when_ne c
  obtain ⟨hl, ez⟩ := Rs.when_ok ez
  subst ez
  refine ⟨by rw [rs.len]; exact hl, fun p np => ?_⟩
  refine Ans.lst (b := true) (fun v H' S' x rv nw => az v H' S' (x1.trans x) rv fun hb xs ex => ?_) r1.h0 r1.hs np rs
  obtain ⟨a, ea, na⟩ := nw hb xs ex
  exact ⟨a, ea, (x1.same r.hs).free na⟩
theorem s_tup {es : List Expr} {es' : Es} {k : Nat} {pos : Pos} (h : PA X es (spA G X.K X.mg H0 W es')) : PE X (.Tuple es k pos) (spE G X.K X.mg H0 W (.tup es')) := pe_imp (pe_tup h) fun σ H Q h => by
  obtain ⟨ρ, S, r, h⟩ := h
  unfold eE at h
  refine ⟨ρ, S, r, h.bind.mono (Same.refl _) fun ps _ q vs H1 S1 x1 rs => ?_⟩
  have r1 := r.ext x1
  obtain ⟨z, ez, az⟩ := q.ok fun c => when_ne c
  obtain ⟨hl, ez⟩ := Rs.when_ok ez
  subst ez
  refine ⟨by rw [rs.len]; exact hl, fun p np => ?_⟩
  exact Ans.tup (b := false) (fun v H' S' x rv nw => az v H' S' (x1.trans x) rv fun z => Bool.noConfusion z) r1.hs np rs

/-! ### calls -/
theorem sumV_ne (p : PV) (c : Str) : sumV p ≠ .err c := by
  unfold sumV; split
  · split <;> exact fun h => by cases h
  · exact fun h => by cases h
theorem allV_ne (p : PV) (c : Str) : allV p ≠ .err c := by
  unfold allV; split
  · split <;> exact fun h => by cases h
  · exact fun h => by cases h
theorem maxV_ne (p : PV) (c : Str) : maxV p ≠ .err c := by
  unfold maxV; split
  · split
    · exact when_ne c
    · exact fun h => by cases h
  · exact fun h => by cases h
theorem minV_ne (p : PV) (c : Str) : minV p ≠ .err c := by
  unfold minV; split
  · split
    · exact when_ne c
    · exact fun h => by cases h
  · exact fun h => by cases h
theorem bi1_ne (k : Bi) (p : PV) (c : Str) : bi1 k p ≠ .err c := by
  cases k with
  | sum => exact sumV_ne p c
  | all => exact allV_ne p c
  | max => exact maxV_ne p c
  | min => exact minV_ne p c
  | len => cases p <;> first | exact when_ne c | exact fun h => by cases h
  | str => cases p <;> first | exact when_ne c | exact fun h => by cases h
  | int =>
    cases p with
    | str a =>
      show (match intText? a with | some n => Rs.when (a.length ≤ 640) (PV.int n) | none => .no) ≠ _
      cases intText? a with
      | none => exact fun h => by cases h
      | some n => exact when_ne c
    | _ => exact fun h => by cases h
  | _ => cases p <;> exact fun h => by cases h
theorem bi2_ne (k : Bi) (p q : PV) (c : Str) : bi2 k p q ≠ .err c := by
  cases k <;> cases p <;> cases q <;> exact fun h => by cases h
theorem biV_ne (k : Bi) (ps : List PV) (c : Str) : biV k ps ≠ .err c := by
  match ps with
  | [] => exact fun h => by cases h
  | [p] => exact bi1_ne k p c
  | [p, q] => exact bi2_ne k p q c
  | _ :: _ :: _ :: _ => exact fun h => by cases h
theorem s_args {b : Bool} {f : List PV → Rs PV} {es : Es} {σ : L2.St} {H S : Hp} {Q : VK} {ρ : Rho} {K : PySem.W.Frag} {mg : Str → Option Value} (ne : ∀ p k, f p ≠ .err k) (r : EnvR K H0 S H ρ σ)
    (h : Aft mg W σ H ((eEs G ρ es).bind f) fun p => Ans b K H0 S H p Q) : tCB (rVL b K H0 f) (spA G K mg H0 W es) σ H Q := by
  refine ⟨ρ, S, r, h.bind.mono (Same.refl _) fun ps _ q vs H1 S1 x1 rs => ?_⟩
  have r1 := r.ext x1
  obtain ⟨z, ez, az⟩ := q.ok (ne ps)
  refine ⟨S1, ps, z, r1.h0, r1.hs, rs, ez, fun v H' S' x3 rv nw => az v H' S' (x1.trans x3) rv fun hb xs ex => ?_⟩
  obtain ⟨a, ea, na⟩ := nw hb xs ex
  exact ⟨a, ea, (x1.same r.hs).free na⟩
theorem s_bi {x : Str} {k : Bi} {e : Expr} {es : List Expr} {es' : Es} {p pos : Pos} (o : XOk cp G lv H0 X sc W) (hx : biTab.lookup x = some k) (hg : globB sc x = true)
    (he : starEach (e :: es) X.env = (false, eval e X.env) :: starEach es X.env) (hpl : (backTo pos (starEach es X.env)).any (·.1) = false) (ha : PA X (e :: es) (spA G X.K X.mg H0 W es')) :
    PE X (.Call (.Name x p) (e :: es) [] pos) (spE G X.K X.mg H0 W (.bi k es')) := by
  have fin : ∀ {r : List V → Hp → VK → Prop}, r = rVL true X.K H0 (biV k) → PE X (.Call (.Name x p) (e :: es) [] pos) (tCB r (spA G X.K X.mg H0 W es')) → PE X (.Call (.Name x p) (e :: es) [] pos) (spE G X.K X.mg H0 W (.bi k es')) := by
    intro r hr h
    subst hr
    refine pe_imp h fun σ H Q h => ?_
    obtain ⟨ρ, S, r, h⟩ := h
    unfold eE at h
    exact s_args (biV_ne k) r h
  have hG := gl_of o hg
  unfold biTab at hx
  have step : ∀ {y : Str} {k' : Bi} {l : List (Str × Bi)}, ((y, k') :: l).lookup x = some k → (x = y ∧ k' = k) ∨ l.lookup x = some k := by
    intro y k' l h
    rw [List.lookup_cons] at h
    cases hb : x == y with
    | true => rw [hb] at h; injection h with h; exact .inl ⟨eq_of_beq hb, h⟩
    | false => rw [hb] at h; exact .inr h
  rcases step hx with ⟨rfl, rfl⟩ | hx
  · exact fin rfl (pe_callB caLen hG (o.gl.blt _ (by decide +kernel)) PySem.boot_len ha (by decide) (by decide) he hpl)
  rcases step hx with ⟨rfl, rfl⟩ | hx
  · exact fin rfl (pe_callB caAbs hG (o.gl.blt _ (by decide +kernel)) (by decide +kernel) ha (by decide) (by decide) he hpl)
  rcases step hx with ⟨rfl, rfl⟩ | hx
  · exact fin rfl (pe_callTy caInt hG (o.gl.blt _ (by decide +kernel)) (by decide +kernel) ha (by decide) (by decide) he hpl)
  rcases step hx with ⟨rfl, rfl⟩ | hx
  · exact fin rfl (pe_callTy caList hG (o.gl.blt _ (by decide +kernel)) (by decide +kernel) ha (by decide) (by decide) he hpl)
  rcases step hx with ⟨rfl, rfl⟩ | hx
  · exact fin rfl (pe_callTy caTuple hG (o.gl.blt _ (by decide +kernel)) (by decide +kernel) ha (by decide) (by decide) he hpl)
  rcases step hx with ⟨rfl, rfl⟩ | hx
  · exact fin rfl (pe_callB (caSum o.calm) hG (o.gl.blt _ (by decide +kernel)) (by decide +kernel) ha (by decide) (by decide) he hpl)
  rcases step hx with ⟨rfl, rfl⟩ | hx
  · exact fin rfl (pe_callB (caAll o.calm) hG (o.gl.blt _ (by decide +kernel)) (by decide +kernel) ha (by decide) (by decide) he hpl)
  rcases step hx with ⟨rfl, rfl⟩ | hx
  · exact fin rfl (pe_callB (caMax o.calm) hG (o.gl.blt _ (by decide +kernel)) (by decide +kernel) ha (by decide) (by decide) he hpl)
  rcases step hx with ⟨rfl, rfl⟩ | hx
  · exact fin rfl (pe_callB (caMin o.calm) hG (o.gl.blt _ (by decide +kernel)) (by decide +kernel) ha (by decide) (by decide) he hpl)
  rcases step hx with ⟨rfl, rfl⟩ | hx
  · exact fin rfl (pe_callTy caStr hG (o.gl.blt _ (by decide +kernel)) (by decide +kernel) ha (by decide) (by decide) he hpl)
  · cases hx
/-! ### methods of texts -/
theorem joinV_ne (p q : PV) (c : Str) : joinV p q ≠ .err c := by
  unfold joinV
  split
  · split
    · exact when_ne c
    · exact fun h => by cases h
  · exact fun h => by cases h
theorem splitV_ne (p q : PV) (c : Str) : splitV p q ≠ .err c := by
  unfold splitV
  split
  · exact when_ne c
  · exact fun h => by cases h
theorem simO_base {e : Expr} (h : simO e = true) (nm : Str) (env : Env) : attributeBase e nm env (eval e env) = eval e env := by
  cases e <;> first | rfl | cases h
theorem s_join {a e : Expr} {a' e' : E} {ap pos : Pos} (ho : simO a = true) (hp : (ap.endLine == pos.line) = true) (hs : starEach [e] X.env = [(false, eval e X.env)]) (ha : PE X a (spE G X.K X.mg H0 W a')) (he : PE X e (spE G X.K X.mg H0 W e')) :
    PE X (.Call (.Attribute a "join" ap) [e] [] pos) (spE G X.K X.mg H0 W (.joinE a' e')) := by
  refine pe_imp (pe_join ha he hs (simO_base ho _ _) hp) fun σ H Q h => ?_
  obtain ⟨ρ, S, r, h⟩ := h
  unfold eE at h
  refine sp_then r h.bind fun p x H1 S1 e1 h1 x1 rp => ?_
  have r1 := r.ext x1
  cases p with
  | str t =>
    have h1' : Aft X.mg W σ H ((eE G ρ e').bind fun q => joinV (.str t) q) _ := h1
    rw [Rp] at rp
    refine ⟨⟨t, rp⟩, sp_then r1 (h1'.bind.mono (x1.same r.hs) fun _ _ q => q) fun q y H2 S2 e2 h2 x2 rq => ?_⟩
    have r2 := r1.ext x2
    obtain ⟨z, ez, az⟩ := h2.ok (joinV_ne _ q)
    cases q with
    | lst m xs =>
      have ez' : (match strs? xs with | some ys => Rs.when ((ys.map fun (x : PySem.Str) => x.length).sum + ys.length * t.length ≤ 16777216) (PV.str (Txt.join t ys)) | none => .no) = .ok z := ez
      cases hst : strs? xs with
      | none => rw [hst] at ez'; cases ez'
      | some ys =>
        rw [hst] at ez'
        obtain ⟨hl, ez'⟩ := Rs.when_ok ez'
        subst ez'
        have hx := strs_eq hst
        subst hx
        rw [Rp] at rq
        obtain ⟨l, vs, ey, ql, _, zl⟩ := rq
        have hv := zl.strs
        subst hv
        refine ⟨t, l, ys, rp, by rw [ey], .inl (.of (r2.hs _ _ ql)), hl, ?_⟩
        exact az _ _ _ (x1.trans x2) (by rw [Rp]) (nw_of fun _ e => PV.noConfusion e)
    | _ => cases ez
  | _ => exact h1.elim
theorem s_split {a e : Expr} {a' e' : E} {ap pos : Pos} (ho : simO a = true) (hp : (ap.endLine == pos.line) = true) (hs : starEach [e] X.env = [(false, eval e X.env)]) (ha : PE X a (spE G X.K X.mg H0 W a')) (he : PE X e (spE G X.K X.mg H0 W e')) :
    PE X (.Call (.Attribute a "split" ap) [e] [] pos) (spE G X.K X.mg H0 W (.splitE a' e')) := by
  refine pe_imp (pe_m1 (PySem.F.slot_str_split) (by rfl) mt_split ha he hs (simO_base ho _ _) hp) fun σ H Q h => ?_
  obtain ⟨ρ, S, r, h⟩ := h
  unfold eE at h
  refine sp_then r h.bind fun p x H1 S1 e1 h1 x1 rp => ?_
  have r1 := r.ext x1
  cases p with
  | str t =>
    have h1' : Aft X.mg W σ H ((eE G ρ e').bind fun q => splitV (.str t) q) _ := h1
    rw [Rp] at rp
    refine ⟨⟨t, rp⟩, sp_then r1 (h1'.bind.mono (x1.same r.hs) fun _ _ q => q) fun q y H2 S2 e2 h2 x2 rq => ?_⟩
    have r2 := r1.ext x2
    obtain ⟨z, ez, az⟩ := h2.ok (splitV_ne _ q)
    cases q with
    | str u =>
      obtain ⟨hl, ez'⟩ := Rs.when_ok (show Rs.when ((u.length == 0) = false ∧ t.length + 2 ≤ sizeLine) (PV.lst true ((Txt.split t u).map PV.str)) = .ok z from ez)
      subst ez'
      rw [Rp] at rq
      refine ⟨t, u, rp, by rw [rq], hl.1, hl.2, fun p np => ?_⟩
      exact Ans.lst (b := true) (S := S2) (H := H2) (fun v H' S' x3 rv nw => az v H' S' ((x1.trans x2).trans x3) rv fun hb ys ex => by
        obtain ⟨l, el, nl⟩ := nw hb ys ex
        exact ⟨l, el, ((x1.trans x2).same r.hs).free nl⟩) r2.h0 r2.hs np RpA.of_strs
    | _ => cases ez
  | _ => exact h1.elim
end
end SG

namespace SG
open PySem PySem.Spec PyProof.Rows L2
section
variable {cp : CP} {G : Gt} {lv : Nat} {H0 : Hp} {X : Cx} {sc : Scope} {W : WX}

/-! ### isinstance, own defs -/
theorem s_isi {a : Expr} {a' : E} {t : Str} {T : String} {p q pos : Pos} (o : XOk cp G lv H0 X sc W) (hx : globB sc "isinstance" = true) (ht : tyTab.lookup t = some T) (hg : globB sc t = true)
    (he : starEach [a, .Name t q] X.env = (false, eval a X.env) :: starEach [.Name t q] X.env) (ha : PE X a (spE G X.K X.mg H0 W a')) :
    PE X (.Call (.Name "isinstance" p) [a, .Name t q] [] pos) (spE G X.K X.mg H0 W (.isi a' T)) := by
  have ty : PE X (.Name t q) (tC (.ty T)) := by
    unfold tyTab at ht
    have step : ∀ {y : Str} {k' : String} {l : List (Str × String)}, ((y, k') :: l).lookup t = some T → (t = y ∧ k' = T) ∨ l.lookup t = some T := by
      intro y k' l h
      rw [List.lookup_cons] at h
      cases hb : t == y with
      | true => rw [hb] at h; injection h with h; exact .inl ⟨eq_of_beq hb, h⟩
      | false => rw [hb] at h; exact .inr h
    have hG := gl_of o hg
    rcases step ht with ⟨rfl, rfl⟩ | ht
    · exact pe_bltn hG (o.gl.blt _ (by decide +kernel)) (u := .type "int") (by decide +kernel) rfl (by decide) (by decide)
    rcases step ht with ⟨rfl, rfl⟩ | ht
    · exact pe_bltn hG (o.gl.blt _ (by decide +kernel)) (u := .type "bool") (by decide +kernel) rfl (by decide) (by decide)
    rcases step ht with ⟨rfl, rfl⟩ | ht
    · exact pe_bltn hG (o.gl.blt _ (by decide +kernel)) (u := .type "str") (by decide +kernel) rfl (by decide) (by decide)
    rcases step ht with ⟨rfl, rfl⟩ | ht
    · exact pe_bltn hG (o.gl.blt _ (by decide +kernel)) (u := .type "list") (by decide +kernel) rfl (by decide) (by decide)
    rcases step ht with ⟨rfl, rfl⟩ | ht
    · exact pe_bltn hG (o.gl.blt _ (by decide +kernel)) (u := .type "tuple") (by decide +kernel) rfl (by decide) (by decide)
    · cases ht
  refine pe_imp (pe_callB (caIsi (b := false) (H0 := H0) (t := T)) (gl_of o hx) (o.gl.blt _ (by decide +kernel)) PyProof.Rows.boot_isinstance (pa_cons ha (pa_cons ty pa_nil) he) (by decide) (by decide) he (by rfl)) fun σ H Q h => ?_
  obtain ⟨ρ, S, r, h⟩ := h
  unfold eE at h
  refine sp_then r h.bind fun p x H1 S1 e1 h1 x1 rp => ?_
  have r1 := r.ext x1
  obtain ⟨z, ez, az⟩ := h1.ok fun c => by
    unfold isiV; split
    · exact fun h => by cases h
    · split <;> exact fun h => by cases h
  exact ⟨S1, p, z, x, r1.h0, r1.hs, rfl, rp, ez, fun v H' S' x3 rv _ => az v H' S' (x1.trans x3) rv fun z => Bool.noConfusion z⟩
theorem s_call {x : Str} {e : Expr} {es : List Expr} {es' : Es} {p pos : Pos} (o : XOk cp G lv H0 X sc W) (hx : cp.ns.contains x = true) (hg : globB sc x = true) (hp : plainB x = true)
    (he : starEach (e :: es) X.env = (false, eval e X.env) :: starEach es X.env) (hpl : (backTo pos (starEach es X.env)).any (·.1) = false) (ha : PA X (e :: es) (spA G X.K X.mg H0 W es')) :
    PE X (.Call (.Name x p) (e :: es) [] pos) (spE G X.K X.mg H0 W (.call x es')) := by
  obtain ⟨f, fd, ps, mf, kf, bf, F⟩ := o.gl.own x hx
  obtain ⟨p1, _, _⟩ := plain_of hp
  refine pe_imp (pe_callS F o.room (gl_of o hg) mf kf bf o.pass ha p1 he hpl) fun σ H Q h => ?_
  obtain ⟨ρ, S, r, h⟩ := h
  unfold eE at h
  refine ⟨ρ, S, r, h.bind.mono (Same.refl _) fun ps _ q vs H1 S1 x1 rs => ?_⟩
  have r1 := r.ext x1
  refine ⟨S1, ps, H0, r1.hs, rs, ?_⟩
  cases hG : G x ps with
  | ok p =>
    rw [hG] at q
    intro v H' S' x2 rp
    refine q v H' S' (x1.trans x2) (rp.early r1.h0) fun _ xs ex => ?_
    subst ex
    rw [Rp] at rp
    obtain ⟨a, vs, ea, _, na, _⟩ := rp
    exact ⟨a, ea, (x1.same r.hs).free (na rfl)⟩
  | err C =>
    rw [hG] at q
    exact fun a ma H' s => q a ma H' ((x1.same r.hs).trans s)
  | no =>
    rw [hG] at q
    exact q

/-! ### what is walked -/
theorem wk_list {K : PySem.W.Frag} {S0 : Hp} {a : Addr} {xs : List PV} {vs : List V} (h : S0 a = some (.lst vs)) (r : RpA K H0 S0 xs vs) : Wk K H0 (Itl K a) S0 xs := by
  intro i S H h0 h1 h2
  have hH : SqL K H a vs := .of (h2 _ _ (h0 _ _ h))
  refine ⟨fun hi => ⟨?_, fun x H' y => ?_⟩, fun hi => ⟨vs, hH, by rw [r.len]; exact hi⟩⟩
  · obtain ⟨v, hv, _⟩ := r.get (List.getElem?_eq_getElem hi)
    exact ⟨vs, v, hH, hv⟩
  · obtain ⟨e, y⟩ := y
    subst e
    obtain ⟨v, hv, rv⟩ := r.get (List.getElem?_eq_getElem hi)
    have := y vs hH
    rw [hv] at this
    injection this with this
    subst this
    exact ⟨S, _, .refl h2, List.getElem?_eq_getElem hi, rv.mono h0⟩
theorem wk_tup {K : PySem.W.Frag} {S0 : Hp} {a : Addr} {xs : List PV} {vs : List V} (h : S0 a = some (.tup vs)) (r : RpA K H0 S0 xs vs) : Wk K H0 (Itt K a) S0 xs := by
  intro i S H h0 h1 h2
  have hH : SqT K H a vs := .of (h2 _ _ (h0 _ _ h))
  refine ⟨fun hi => ⟨?_, fun x H' y => ?_⟩, fun hi => ⟨vs, hH, by rw [r.len]; exact hi⟩⟩
  · obtain ⟨v, hv, _⟩ := r.get (List.getElem?_eq_getElem hi)
    exact ⟨vs, v, hH, hv⟩
  · obtain ⟨e, y⟩ := y
    subst e
    obtain ⟨v, hv, rv⟩ := r.get (List.getElem?_eq_getElem hi)
    have := y vs hH
    rw [hv] at this
    injection this with this
    subst this
    exact ⟨S, _, .refl h2, List.getElem?_eq_getElem hi, rv.mono h0⟩
theorem wk_rng {K : PySem.W.Frag} {S0 : Hp} {lo : Int} {n : Nat} : Wk K H0 (Itr lo n) S0 (rngL lo n) := by
  intro i S H h0 h1 h2
  have hl : (rngL lo n).length = n := by unfold rngL; rw [List.length_map, List.length_range]
  rw [hl]
  refine ⟨fun hi => ⟨hi, fun x H' y => ?_⟩, fun hi => hi⟩
  obtain ⟨e, y⟩ := y
  subst e
  subst y
  refine ⟨S, .int (lo + i), .refl h2, ?_, by rw [Rp]⟩
  unfold rngL
  rw [List.getElem?_map, List.getElem?_range hi]
  rfl
theorem zipL_get : ∀ {xs ys : List PV} {i : Nat}, (zipL xs ys)[i]? = match xs[i]?, ys[i]? with
    | some x, some y => some (.tup [x, y])
    | _, _ => none
  | [], ys, i => by simp [zipL]
  | x :: xs, [], i => by
    simp only [zipL, List.getElem?_nil]
    split
    · rename_i h; cases h
    · rfl
  | x :: xs, y :: ys, 0 => by simp [zipL]
  | x :: xs, y :: ys, i + 1 => by
    simp only [zipL, List.getElem?_cons_succ]
    exact zipL_get
theorem zipL_len : ∀ {xs ys : List PV}, (zipL xs ys).length = min xs.length ys.length
  | [], ys => by simp [zipL]
  | x :: xs, [] => by simp [zipL]
  | x :: xs, y :: ys => by
    simp only [zipL, List.length_cons, zipL_len]
    omega
theorem wk_zipL {K : PySem.W.Frag} {S0 : Hp} {a b : Addr} {xs ys : List PV} {vs ws : List V} (h : S0 a = some (.lst vs)) (r : RpA K H0 S0 xs vs) (h' : S0 b = some (.lst ws)) (r' : RpA K H0 S0 ys ws) : Wk K H0 (Itz K a b) S0 (zipL xs ys) := by
  intro i S H h0 h1 h2
  have hA : SqL K H a vs := .of (h2 _ _ (h0 _ _ h))
  have hB : SqL K H b ws := .of (h2 _ _ (h0 _ _ h'))
  rw [zipL_len]
  refine ⟨fun hi => ?_, fun hi => ⟨vs, ws, hA, hB, by rw [r.len, r'.len]; omega⟩⟩
  have i1 : i < xs.length := by omega
  have i2 : i < ys.length := by omega
  obtain ⟨v, hv, rv⟩ := r.get (List.getElem?_eq_getElem i1)
  obtain ⟨w, hw, rw'⟩ := r'.get (List.getElem?_eq_getElem i2)
  refine ⟨⟨vs, ws, v, w, hA, hB, hv, hw⟩, fun z H' y => ?_⟩
  obtain ⟨T, x', y', rfl, hT, rfl, f1, f2⟩ := y
  have e1 := (f1 vs hA).symm.trans hv
  have e2 := (f2 ws hB).symm.trans hw
  injection e1 with e1
  injection e2 with e2
  subst e1 e2
  have hT2 := h2.free hT
  refine ⟨upd S T (.tup [x', y']), .tup [xs[i], ys[i]], .new h2 hT, ?_, ?_⟩
  · rw [zipL_get, List.getElem?_eq_getElem i1, List.getElem?_eq_getElem i2]
  · rw [Rp]
    exact ⟨T, _, rfl, L2.upd_same, RpA.cons ((rv.mono h0).mono (same_upd hT2)) (RpA.cons ((rw'.mono h0).mono (same_upd hT2)) RpA.nil)⟩
theorem wk_zipT {K : PySem.W.Frag} {S0 : Hp} {a b : Addr} {xs ys : List PV} {vs ws : List V} (h : S0 a = some (.tup vs)) (r : RpA K H0 S0 xs vs) (h' : S0 b = some (.tup ws)) (r' : RpA K H0 S0 ys ws) : Wk K H0 (RZ.ItzT K a b) S0 (zipL xs ys) := by
  intro i S H h0 h1 h2
  have hA : SqT K H a vs := .of (h2 _ _ (h0 _ _ h))
  have hB : SqT K H b ws := .of (h2 _ _ (h0 _ _ h'))
  rw [zipL_len]
  refine ⟨fun hi => ?_, fun hi => ⟨vs, ws, hA, hB, by rw [r.len, r'.len]; omega⟩⟩
  have i1 : i < xs.length := by omega
  have i2 : i < ys.length := by omega
  obtain ⟨v, hv, rv⟩ := r.get (List.getElem?_eq_getElem i1)
  obtain ⟨w, hw, rw'⟩ := r'.get (List.getElem?_eq_getElem i2)
  refine ⟨⟨vs, ws, v, w, hA, hB, hv, hw⟩, fun z H' y => ?_⟩
  obtain ⟨T, x', y', rfl, hT, rfl, f1, f2⟩ := y
  have e1 := (f1 vs hA).symm.trans hv
  have e2 := (f2 ws hB).symm.trans hw
  injection e1 with e1
  injection e2 with e2
  subst e1 e2
  have hT2 := h2.free hT
  refine ⟨upd S T (.tup [x', y']), .tup [xs[i], ys[i]], .new h2 hT, ?_, ?_⟩
  · rw [zipL_get, List.getElem?_eq_getElem i1, List.getElem?_eq_getElem i2]
  · rw [Rp]
    exact ⟨T, _, rfl, L2.upd_same, RpA.cons ((rv.mono h0).mono (same_upd hT2)) (RpA.cons ((rw'.mono h0).mono (same_upd hT2)) RpA.nil)⟩
theorem enumL_get : ∀ {xs : List PV} {k i : Nat}, (enumL k xs)[i]? = (xs[i]?).map fun x => .tup [.int ((k + i : Nat) : Int), x]
  | [], k, i => by simp [enumL]
  | x :: xs, k, 0 => by simp [enumL]
  | x :: xs, k, i + 1 => by
    simp only [enumL, List.getElem?_cons_succ]
    rw [enumL_get]
    have : k + 1 + i = k + (i + 1) := by omega
    rw [this]
theorem enumL_len : ∀ {xs : List PV} {k : Nat}, (enumL k xs).length = xs.length
  | [], _ => rfl
  | x :: xs, k => by simp only [enumL, List.length_cons, enumL_len]
theorem wk_enum {K : PySem.W.Frag} {S0 : Hp} {a : Addr} {xs : List PV} {vs : List V} (h : S0 a = some (.lst vs)) (r : RpA K H0 S0 xs vs) : Wk K H0 (Ite K a) S0 (enumL 0 xs) := by
  intro i S H h0 h1 h2
  have hA : SqL K H a vs := .of (h2 _ _ (h0 _ _ h))
  rw [enumL_len]
  refine ⟨fun hi => ?_, fun hi => ⟨vs, hA, by rw [r.len]; omega⟩⟩
  obtain ⟨v, hv, rv⟩ := r.get (List.getElem?_eq_getElem hi)
  refine ⟨⟨vs, v, hA, hv⟩, fun z H' y => ?_⟩
  obtain ⟨T, x', rfl, hT, rfl, f1⟩ := y
  have e1 := (f1 vs hA).symm.trans hv
  injection e1 with e1
  subst e1
  have hT2 := h2.free hT
  refine ⟨upd S T (.tup [.int (i : Nat), x']), .tup [.int (i : Nat), xs[i]], .new h2 hT, ?_, ?_⟩
  · rw [enumL_get, List.getElem?_eq_getElem hi, Nat.zero_add]
    rfl
  · rw [Rp]
    refine ⟨T, _, rfl, L2.upd_same, RpA.cons (by rw [Rp]) (RpA.cons ((rv.mono h0).mono (same_upd hT2)) RpA.nil)⟩

theorem itemsV_ne (p : PV) (c : Str) : itemsV p ≠ .err c := by cases p <;> exact fun h => by cases h
theorem wk_str {K : PySem.W.Frag} {H0 S0 : Hp} {z : PySem.Str} : Wk K H0 (Its z) S0 (z.cps.toList.map sgnV) := by
  intro i S H h0 h1 h2
  rw [List.length_map, Array.length_toList]
  refine ⟨fun hi => ⟨hi, fun x H' y => ?_⟩, fun hi => hi⟩
  obtain ⟨rfl, c, hc, rfl⟩ := y
  refine ⟨S, sgnV c, .refl h2, ?_, by unfold sgnV; rw [Rp]⟩
  rw [List.getElem?_map, Array.getElem?_toList, hc]; rfl
theorem i_val {tg e : Expr} {e' : E} (he : PE X e (spE G X.K X.mg H0 W e')) : PI X tg e (spI G X.K X.mg H0 W (.val e')) := by
  refine pi_imp (pi_or (pi_or (pi_list he) (pi_tup he)) (pi_str he)) fun σ H R h => ?_
  obtain ⟨ρ, S, r, h⟩ := h
  unfold eI at h
  have hb := h.bind
  cases he' : eE G ρ e' with
  | ok p =>
    cases p with
    | lst m xs =>
      left; left
      refine sp_then r hb fun p x H1 S1 e1 h1 x1 rp => ?_
      rw [he'] at e1
      injection e1 with e1
      subst e1
      have r1 := r.ext x1
      rw [Rp] at rp
      obtain ⟨a, vs, rfl, qa, _, za⟩ := rp
      exact ⟨a, rfl, ⟨vs, .of (r1.hs _ _ qa)⟩, h1 _ _ _ x1 (wk_list qa za)⟩
    | tup xs =>
      left; right
      refine sp_then r hb fun p x H1 S1 e1 h1 x1 rp => ?_
      rw [he'] at e1
      injection e1 with e1
      subst e1
      have r1 := r.ext x1
      rw [Rp] at rp
      obtain ⟨a, vs, rfl, qa, za⟩ := rp
      exact ⟨a, rfl, ⟨vs, .of (r1.hs _ _ qa)⟩, h1 _ _ _ x1 (wk_tup qa za)⟩
    | str z =>
      right
      refine sp_then r hb fun p x H1 S1 e1 h1 x1 rp => ?_
      rw [he'] at e1
      injection e1 with e1
      subst e1
      rw [Rp] at rp
      exact ⟨z, rp, h1 _ _ _ x1 wk_str⟩
    | _ =>
      rw [he'] at hb
      exact hb.elim
  | err C =>
    left; left
    refine sp_then r hb fun p x H1 S1 e1 h1 x1 rp => ?_
    rw [he'] at e1
    cases e1
  | no =>
    rw [he'] at hb
    exact hb.elim
theorem i_rng1 {tg a : Expr} {a' : E} {p pos : Pos} (o : XOk cp G lv H0 X sc W) (hg : globB sc "range" = true) (hs : starEach [a] X.env = [(false, eval a X.env)]) (ha : PE X a (spE G X.K X.mg H0 W a')) :
    PI X tg (.Call (.Name "range" p) [a] [] pos) (spI G X.K X.mg H0 W (.rng1 a')) := by
  refine pi_imp (pi_range1 (gl_of o hg) (o.gl.blt _ (by decide +kernel)) (pa_cons ha pa_nil hs) hs) fun σ H R h => ?_
  obtain ⟨ρ, S, r, h⟩ := h
  unfold eI at h
  refine sp_then r h.bind fun p x H1 S1 e1 h1 x1 rp => ?_
  cases p with
  | int j =>
    rw [Rp] at rp
    subst rp
    obtain ⟨z, ez, az⟩ := h1.ok fun c => when_ne c
    obtain ⟨hj, ez⟩ := Rs.when_ok ez
    subst ez
    exact ⟨j, rfl, hj.1, hj.2, az _ _ _ x1 wk_rng⟩
  | _ => exact h1.elim
theorem i_rng2 {tg a b : Expr} {a' b' : E} {p pos : Pos} (o : XOk cp G lv H0 X sc W) (hg : globB sc "range" = true) (hs : starEach [a, b] X.env = [(false, eval a X.env), (false, eval b X.env)]) (hs2 : starEach [b] X.env = [(false, eval b X.env)])
    (ha : PE X a (spE G X.K X.mg H0 W a')) (hb : PE X b (spE G X.K X.mg H0 W b')) :
    PI X tg (.Call (.Name "range" p) [a, b] [] pos) (spI G X.K X.mg H0 W (.rng2 a' b')) := by
  refine pi_imp (pi_range2 (gl_of o hg) (o.gl.blt _ (by decide +kernel)) (pa_cons ha (pa_cons hb pa_nil hs2) (by rw [hs, hs2])) hs hs2) fun σ H R h => ?_
  obtain ⟨ρ, S, r, h⟩ := h
  unfold eI at h
  refine sp_then r h.bind fun p x H1 S1 e1 h1 x1 rp => ?_
  have r1 := r.ext x1
  refine sp_then r1 (h1.bind.mono (x1.same r.hs) fun _ _ q => q) fun q y H2 S2 e2 h2 x2 rq => ?_
  cases p with
  | int i =>
    cases q with
    | int j =>
      rw [Rp] at rp rq
      subst rp rq
      obtain ⟨z, ez, az⟩ := h2.ok fun c => when_ne c
      obtain ⟨hj, ez⟩ := Rs.when_ok ez
      subst ez
      exact ⟨i, j, rfl, ⟨hj.1.1, hj.1.2, hj.2.1, hj.2.2⟩, az _ _ _ (x1.trans x2) wk_rng⟩
    | _ => exact h2.elim
  | _ => exact h2.elim
theorem i_zip {a b : Expr} {a' b' : E} {elts : List Expr} {kk : Nat} {tpos p pos : Pos} (o : XOk cp G lv H0 X sc W) (hg : globB sc "zip" = true) (hs : starEach [a, b] X.env = (false, eval a X.env) :: starEach [b] X.env) (hs2 : starEach [b] X.env = (false, eval b X.env) :: starEach [] X.env)
    (ha : PE X a (spE G X.K X.mg H0 W a')) (hb : PE X b (spE G X.K X.mg H0 W b')) :
    PI X (.Tuple elts kk tpos) (.Call (.Name "zip" p) [a, b] [] pos) (spI G X.K X.mg H0 W (.zip a' b')) := by
  refine pi_imp (RZ.pi_zipA (gl_of o hg) (o.gl.blt _ (by decide +kernel)) (pa_cons ha (pa_cons hb pa_nil hs2) hs) hs (by rw [hs2]; rfl)) fun σ H R h => ?_
  obtain ⟨ρ, S, r, h⟩ := h
  unfold eI at h
  refine sp_then r h.bind fun p x H1 S1 e1 h1 x1 rp => ?_
  have r1 := r.ext x1
  refine sp_then r1 (h1.bind.mono (x1.same r.hs) fun _ _ q => q) fun q y H2 S2 e2 h2 x2 rq => ?_
  have r2 := r1.ext x2
  cases p with
  | lst m xs =>
    cases q with
    | lst n ys =>
      rw [Rp] at rp rq
      obtain ⟨a, vs, rfl, qa, _, za⟩ := rp
      obtain ⟨b, ws, rfl, qb, _, zb⟩ := rq
      exact ⟨a, b, vs, ws, rfl, .inl ⟨.of (r2.hs _ _ (x2.st _ _ qa)), .of (r2.hs _ _ qb), h2 _ _ _ (x1.trans x2) (wk_zipL (x2.st _ _ qa) (za.mono x2.st) qb zb)⟩⟩
    | _ => exact h2.elim
  | tup xs =>
    cases q with
    | tup ys =>
      rw [Rp] at rp rq
      obtain ⟨a, vs, rfl, qa, za⟩ := rp
      obtain ⟨b, ws, rfl, qb, zb⟩ := rq
      exact ⟨a, b, vs, ws, rfl, .inr ⟨.of (r2.hs _ _ (x2.st _ _ qa)), .of (r2.hs _ _ qb), h2 _ _ _ (x1.trans x2) (wk_zipT (x2.st _ _ qa) (za.mono x2.st) qb zb)⟩⟩
    | _ => exact h2.elim
  | _ => exact h2.elim
theorem i_enum {a : Expr} {a' : E} {elts : List Expr} {kk : Nat} {tpos p pos : Pos} (o : XOk cp G lv H0 X sc W) (hg : globB sc "enumerate" = true) (hs : starEach [a] X.env = [(false, eval a X.env)])
    (ha : PE X a (spE G X.K X.mg H0 W a')) :
    PI X (.Tuple elts kk tpos) (.Call (.Name "enumerate" p) [a] [] pos) (spI G X.K X.mg H0 W (.enum a')) := by
  refine pi_imp (pi_enum (gl_of o hg) (o.gl.blt _ (by decide +kernel)) (pa_cons ha pa_nil hs) hs) fun σ H R h => ?_
  obtain ⟨ρ, S, r, h⟩ := h
  unfold eI at h
  refine sp_then r h.bind fun p x H1 S1 e1 h1 x1 rp => ?_
  have r1 := r.ext x1
  cases p with
  | lst m xs =>
    rw [Rp] at rp
    obtain ⟨a, vs, rfl, qa, _, za⟩ := rp
    exact ⟨a, vs, rfl, .of (r1.hs _ _ qa), h1 _ _ _ x1 (wk_enum qa za)⟩
  | _ => exact h1.elim

/-! ### targets -/
/-- where a name may be stored -/
def FnOk' (X : Cx) (sc scope : Scope) : Prop := ∀ x, locB sc scope x = true → X.fn x = true ∨ X.env.scope.names.lookup x = some .local
theorem loc_of {scope : Scope} {x : Str} (o : XOk cp G lv H0 X sc W) (h : locB sc scope x = true) : Loc X.env.scope x := by
  unfold locB at h
  rw [o.sc]
  simp only [Bool.or_eq_true, Bool.and_eq_true, decide_eq_true_eq] at h
  rcases h with h | h
  · exact .inl h
  · exact .inr h.1
theorem g_one {scope : Scope} {e : Expr} {i : Nat} (o : XOk cp G lv H0 X sc W) (hf : FnOk' X sc scope) (h : tgt1 cp sc scope e = some i) : PG X e (gName i) ∧ (∀ r, starEach (e :: r) X.env = (false, eval e X.env) :: starEach r X.env) ∧
    (∀ r, assignEach (e :: r) X.env = (false, assign e X.env) :: assignEach r X.env) := by
  unfold tgt1 at h
  split at h
  · rename_i x pos
    split at h
    · rename_i hl
      have hN : X.N[i]? = some x := by rw [o.N]; exact ixOf_get0 h
      exact ⟨pg_name (by rw [o.N]; exact o.nd) hN (loc_of o hl) (hf x hl), fun _ => rfl, fun _ => rfl⟩
    · cases h
  · cases h
theorem g_seq {scope : Scope} (o : XOk cp G lv H0 X sc W) (hf : FnOk' X sc scope) : ∀ {es : List Expr} {is : List Nat}, tgts cp sc scope es = some is →
    PGs X es (gSeq is) ∧ (assignEach es X.env).length = is.length ∧ (assignEach es X.env).findIdx? (·.1) = none
  | [], is, h => by
    injection h with h
    subst h
    exact ⟨pgs_nil, rfl, rfl⟩
  | e :: r, is, h => by
    unfold tgts at h
    split at h
    · rename_i i js h1 h2
      injection h with h
      subst h
      obtain ⟨g, _, ha⟩ := g_one o hf h1
      obtain ⟨gs, l, fi⟩ := g_seq o hf h2
      refine ⟨pgs_cons g gs (by rw [ha]; rfl), by rw [ha, List.length_cons, l, List.length_cons], ?_⟩
      rw [ha, List.findIdx?_cons]
      simp only [Bool.false_eq_true, if_false, fi, Option.map_none]
    · cases h
theorem g_tgt {scope : Scope} {e : Expr} {single : Bool} {is : List Nat} (o : XOk cp G lv H0 X sc W) (hf : FnOk' X sc scope) (h : tgt cp sc scope e = some (single, is)) : PG X e (gTgt X.K single is) := by
  unfold tgt at h
  split at h
  · rename_i es k pos
    cases hs : tgts cp sc scope es with
    | none => rw [hs] at h; cases h
    | some js =>
      rw [hs] at h
      injection h with h
      injection h with h1 h2
      subst h1 h2
      obtain ⟨g, l, fi⟩ := g_seq o hf hs
      exact pg_or (pg_tup o.calm g l fi) (pg_lst o.calm g l fi)
  · cases hs : tgt1 cp sc scope e with
    | none => rw [hs] at h; cases h
    | some i =>
      rw [hs] at h
      injection h with h
      injection h with h1 h2
      subst h1 h2
      exact (g_one o hf hs).1
end
end SG

namespace SG
open PySem PySem.Spec PyProof.Rows L2
section
variable {cp : CP} {G : Gt} {lv : Nat} {H0 : Hp} {X : Cx} {sc : Scope} {W : WX}
/-- what an exception tells that leaves a comprehension's block -/
abbrev Wb (W : WX) (σ : L2.St) : WX := fun cls d _ H => W cls d σ H
/-- the context of a comprehension's block -/
theorem XOk.blk (o : XOk cp G lv H0 X sc W) {scope : Scope} {s : Shared} {H : Hp} {C : Addr} {cl : List (Str × Addr)} {fp : List Addr} {ex : Value → Shared → Prop} {L : Addr} {σ : L2.St} (t : ThrOk cp.md (blkE X s H scope (compEnvC scope cl C X.env) fp ex) L (Wb W σ)) :
    XOk cp G lv H0 (blkE X s H scope (compEnvC scope cl C X.env) fp ex) (relS scope sc) (Wb W σ) := by
  refine ⟨o.N, o.nd, ?_, o.calm, o.room, ⟨L, t⟩, o.gl⟩
  rw [← o.sc]; rfl
theorem fn_blk (o : XOk cp G lv H0 X sc W) (scope : Scope) (s : Shared) (H : Hp) (C : Addr) (cl : List (Str × Addr)) (fp : List Addr) (ex : Value → Shared → Prop) :
    FnOk' (blkE X s H scope (compEnvC scope cl C X.env) fp ex) (relS scope sc) scope := by
  intro x h
  unfold locB at h
  simp only [Bool.or_eq_true, Bool.and_eq_true, decide_eq_true_eq] at h
  rcases h with h | h
  · refine .inr ?_
    rw [← o.sc] at h
    exact h
  · refine .inl ?_
    show (scope.names.lookup x == some NameKind.cell) = true
    rw [h.2]; rfl
theorem blk_of {N : List Str} {scope : Scope} {own : List (Str × Nat)} (h : blkB N sc scope own = true) : BlkOk N sc scope own := by
  unfold blkB at h
  simp only [Bool.and_eq_true, decide_eq_true_eq, List.all_eq_true, Bool.or_eq_true, Bool.not_eq_true', decide_eq_false_iff_not] at h
  obtain ⟨⟨⟨⟨h1, h2⟩, h3⟩, h4⟩, h5⟩ := h
  refine ⟨h1, h2, h3, fun y hy e => ?_, fun y hy e => ?_⟩
  · rcases h4 y hy with q | q
    · exact absurd e q
    · exact q
  · rcases h5 y hy with q | q
    · simp only [Bool.or_eq_false_iff, decide_eq_false_iff_not] at q
      rcases e with e | e
      · exact absurd e q.1
      · exact absurd e q.2
    · rcases q with q | q
      · exact .inl (by simpa using q)
      · exact .inr (by simpa using q)

theorem compL_nil {f : PV → Rs (Option PV)} {acc : List PV} {res : Rs (List PV)} (h : compL f [] acc = res) : .ok acc = res := by
  unfold compL at h; exact h
theorem compL_cons {f : PV → Rs (Option PV)} {x : PV} {xs acc : List PV} {res : Rs (List PV)} (hn : res ≠ .no) (h : compL f (x :: xs) acc = res) :
    (f x = .ok none ∧ compL f xs acc = res) ∨ (∃ y, f x = .ok (some y) ∧ acc.length < sizeLine ∧ compL f xs (acc ++ [y]) = res) ∨ ∃ C, f x = .err C ∧ res = .err C := by
  unfold compL at h
  split at h
  · rename_i e; exact .inl ⟨e, h⟩
  · rename_i y e
    split at h
    · exact .inr (.inl ⟨y, e, by assumption, h⟩)
    · exact absurd h.symm hn
  · rename_i C e; exact .inr (.inr ⟨C, e, h.symm⟩)
  · exact absurd h.symm hn

/-- the loop of a comprehension: what a turn is to reach -/
theorem comp_loop {K : PySem.W.Frag} {F : PV → Rs (Option PV)} {J : L2.It} {xs : List PV} {S1 H1 : Hp} {D : Addr} {Qd : Hp → Prop} {BODY : V → Hp → (Hp → Prop) → Prop}
    (h1 : Same H0 H1) (hs : Same S1 H1) (wk : Wk K H0 J S1 xs) (hD : H1 D = none) {res : Rs (List PV)} (hn : res ≠ .no) (hc : compL F xs [] = res)
    (body : ∀ (S H : Hp) (x : V) (p : PV) (r : Option PV) (Nx : Hp → Prop) (vacc : List V), Ext S1 H1 S H → S D = none → H D = some (.lst vacc) → Rp K H0 S p x → F p = .ok r → (r ≠ none → vacc.length < sizeLine) →
      (r = none → ∀ S3 H3, Ext S H S3 H3 → Nx H3) → (∀ y, r = some y → ∀ v S4 H4, Ext S H S4 H4 → Rp K H0 S4 y v → Nx (upd H4 D (.lst (vacc ++ [v])))) → BODY x H Nx)
    (bodyE : ∀ (S H : Hp) (x : V) (p : PV) (Nx : Hp → Prop) (C : Str), Ext S1 H1 S H → Rp K H0 S p x → F p = .err C → res = .err C → BODY x H Nx)
    (fin : ∀ S H vs ys, res = .ok ys → Ext S1 H1 S H → S D = some (.lst vs) → RpA K H0 S ys vs → Qd H) :
    ∃ W : Nat → Nat → Hp → Prop, (∃ m, W 0 m (upd H1 D (.lst []))) ∧ ∀ i m H, W i m H →
      (J.stop i H ∧ Qd H) ∨ (J.go i H ∧ ∃ Nx : Hp → Prop, (∀ H', Nx H' → ∃ m', m' < m ∧ W (i + 1) m' H') ∧ ∀ x H', J.yld i H x H' → BODY x H' Nx) := by
  have nD : S1 D = none := hs.free hD
  refine ⟨fun i m H => m = xs.length - i ∧ i ≤ xs.length ∧ ∃ S acc vacc, Ext S1 H1 S H ∧ S D = none ∧ H D = some (.lst vacc) ∧ RpA K H0 S acc vacc ∧ compL F (xs.drop i) acc = res, ⟨xs.length, by simp, Nat.zero_le _, S1, [], [], ⟨Same.refl _, fun b o e => ?_, fun a o e1 e2 => ?_⟩, nD, L2.upd_same, RpA.nil, hc⟩, ?_⟩
  · have : b ≠ D := fun z => by rw [z, nD] at e; cases e
    rw [upd_ne this]; exact hs _ _ e
  · have : a ≠ D := ne_of_none e1 hD
    rw [upd_ne this]; exact ⟨e1, e2⟩
  rintro i m H ⟨rfl, hi, S, acc, vacc, x1, sD, hHD, ra, hcl⟩
  obtain ⟨wgo, wstop⟩ := wk i S H x1.st (h1.trans (x1.same hs)) x1.in'
  by_cases hlt : i < xs.length
  · obtain ⟨go, yl⟩ := wgo hlt
    rw [List.drop_eq_getElem_cons hlt] at hcl
    refine .inr ⟨go, fun H' => xs.length - (i + 1) = xs.length - (i + 1) ∧ i + 1 ≤ xs.length ∧ ∃ S acc vacc, Ext S1 H1 S H' ∧ S D = none ∧ H' D = some (.lst vacc) ∧ RpA K H0 S acc vacc ∧ compL F (xs.drop (i + 1)) acc = res,
      fun H' nx => ⟨xs.length - (i + 1), by omega, nx⟩, fun x H' y => ?_⟩
    obtain ⟨S', p, x2, hp, rp⟩ := yl x H' y
    rw [List.getElem?_eq_getElem hlt] at hp
    injection hp with hp
    subst hp
    obtain ⟨q1, q2⟩ := x2.ls D _ hHD sD
    have x12 := x1.trans x2
    rcases compL_cons hn hcl with ⟨e, hcl'⟩ | ⟨yv, e, hl, hcl'⟩ | ⟨C, e, er⟩
    · refine body S' H' x _ none _ vacc x12 q2 q1 rp e (fun z => absurd rfl z) (fun _ S3 H3 x3 => ?_) fun y z => by cases z
      obtain ⟨q3, q4⟩ := x3.ls D _ q1 q2
      exact ⟨rfl, hlt, S3, acc, vacc, x12.trans x3, q4, q3, ra.mono (x2.trans x3).st, hcl'⟩
    · refine body S' H' x _ (some yv) _ vacc x12 q2 q1 rp e (fun _ => by rw [ra.len]; exact hl) (fun z => by cases z) fun y z v S4 H4 x4 rv => ?_
      injection z with z
      subst z
      obtain ⟨q3, q4⟩ := x4.ls D _ q1 q2
      have x14 := x12.trans x4
      refine ⟨rfl, hlt, S4, acc ++ [yv], vacc ++ [v], ⟨x14.st, fun b o e => ?_, fun a o e1 e2 => ?_⟩, q4, L2.upd_same, (ra.mono (x2.trans x4).st).snoc rv, hcl'⟩
      · have : b ≠ D := fun z => by rw [z, q4] at e; cases e
        rw [upd_ne this]; exact x14.in' _ _ e
      · have : a ≠ D := ne_of_none e1 hD
        rw [upd_ne this]; exact x14.ls a o e1 e2
    · exact bodyE S' H' x _ _ C x12 rp e er
  · have e : i = xs.length := by omega
    subst e
    rw [List.drop_length] at hcl
    have hr := compL_nil hcl
    refine .inl ⟨wstop (Nat.le_refl _), fin (upd S D (.lst vacc)) H vacc acc hr.symm ⟨x1.st.trans (same_upd sD), fun b o e => ?_, fun a o e1 e2 => ?_⟩ L2.upd_same (ra.mono (same_upd sD))⟩
    · by_cases hb : b = D
      · subst hb
        rw [L2.upd_same] at e
        rw [hHD]; exact e
      · rw [upd_ne hb] at e
        exact x1.in' _ _ e
    · have : a ≠ D := ne_of_none e1 hD
      rw [upd_ne this]; exact x1.ls a o e1 e2

theorem setT_ne {single : Bool} {tg : List Nat} {p : PV} {ρ : Rho} (C : Str) : setT single tg p ρ ≠ .err C := by
  unfold setT; split <;> exact fun h => by cases h
theorem comp_lc {K : PySem.W.Frag} {mg : Str → Option Value} {it : It} {elt' : E} {single : Bool} {is : List Nat} {own : List (Str × Nat)} {σ : L2.St} {H : Hp} {Q : VK} (hsub : is.all (fun i => (own.map (·.2)).contains i) = true)
    (h : spE G K mg H0 W (.comp (own.map (·.2)) is single it elt') σ H Q) : tLc (spI G K mg H0 W it) (gTgt K single is) tYes (spE G K mg H0 (Wb W σ) elt') (own.map (·.2)) σ H Q := by
  obtain ⟨ρ, S, r, h⟩ := h
  unfold eE at h
  refine ⟨ρ, S, r, h.bind.mono (Same.refl _) fun xs _ q J H1 S1 x1 wk D hD => ?_⟩
  have r1 := r.ext x1
  have hn : compL (fun x => (setT single is x (wipeS ρ (own.map (·.2)))).bind fun ρ1 => (eE G ρ1 elt').bind fun y => .ok (some y)) xs [] ≠ .no := fun z => by
    have q1 := q.bind
    rw [z] at q1
    exact q1.elim
  refine comp_loop r1.h0 r1.hs wk hD hn rfl (fun S2 H2 x p rr Nx vacc x2 sD hHD rp hF hl hno hyes => ?_) (fun S2 H2 x p Nx Ce x2 rp hF er => ?_) fun S2 H2 vs ys er x2 e rs => ?_
  · have r2 := (r1.ext x2).wipe (own.map (·.2))
    cases hT : setT single is p (wipeS ρ (own.map (·.2))) with
    | ok ρ1 =>
      rw [hT] at hF
      refine tgt_ok r2 rp hT fun σ2 r3 hw => ⟨?_, ?_⟩
      · rw [hw (own.map (·.2)) fun i hi => by simpa using (List.all_eq_true.mp hsub) i hi]
        exact wipe_wipe _ _ fun i hi => hi
      · refine L2.iteT (B := Nx H2) ?_
        cases hE : eE G ρ1 elt' with
        | ok y =>
          have hF : Rs.ok (some y) = Rs.ok rr := by rw [← hF]; simp only [Rs.ok_bind, hE]
          injection hF with hF
          subst hF
          refine ⟨ρ1, S2, r3, ?_⟩
          rw [hE]
          intro v H4 S4 x4 rv _
          exact ⟨vacc, (x4.ls D _ hHD sD).1, hl (fun z => by cases z), hyes y rfl v S4 H4 x4 rv⟩
        | err C => simp only [Rs.ok_bind, hE, Rs.err_bind] at hF; cases hF
        | no => simp only [Rs.ok_bind, hE, Rs.no_bind] at hF; cases hF
    | err C => rw [hT] at hF; cases hF
    | no => rw [hT] at hF; cases hF
  · have hx : Erx mg W σ H Ce := by
      have q1 := q.bind
      rw [er] at q1
      exact q1
    have r2 := (r1.ext x2).wipe (own.map (·.2))
    have sm : Same H H2 := (x1.trans x2).same r.hs
    cases hT : setT single is p (wipeS ρ (own.map (·.2))) with
    | ok ρ1 =>
      rw [hT] at hF
      refine tgt_ok r2 rp hT fun σ2 r3 hw => ⟨?_, ?_⟩
      · rw [hw (own.map (·.2)) fun i hi => by simpa using (List.all_eq_true.mp hsub) i hi]
        exact wipe_wipe _ _ fun i hi => hi
      · refine L2.iteT (B := Nx H2) ?_
        cases hE : eE G ρ1 elt' with
        | err C =>
          simp only [Rs.ok_bind, hE, Rs.err_bind] at hF
          injection hF with hF
          subst hF
          refine ⟨ρ1, S2, r3, ?_⟩
          rw [hE]
          exact fun a ma H' h' => hx a ma H' (sm.trans h')
        | ok y => simp only [Rs.ok_bind, hE] at hF; cases hF
        | no => simp only [Rs.ok_bind, hE, Rs.no_bind] at hF; cases hF
    | err C => exact absurd hT (setT_ne C)
    | no => rw [hT] at hF; cases hF
  · have q1 := q.bind
    rw [er] at q1
    refine q1 (.ref D) H2 S2 (x1.trans x2) ?_ fun _ _ _ => ⟨D, rfl, (x1.same r.hs).free hD⟩
    rw [Rp]
    exact ⟨D, vs, rfl, e, fun _ => r1.h0.free hD, rs⟩
theorem s_comp {elt iter tg : Expr} {scope : Scope} {pos : Pos} {it : It} {elt' : E} {single : Bool} {is : List Nat} {own : List (Str × Nat)} (o : XOk cp G lv H0 X sc W) (hb : blkB cp.N sc scope own = true) (hsub : is.all (fun i => (own.map (·.2)).contains i) = true)
    (hi : PI X tg iter (spI G X.K X.mg H0 W it))
    (hg : ∀ (L : Addr) (σ : L2.St) (s : Shared) (H : Hp) (C : Addr) (cl : List (Str × Addr)) (fp : List Addr) (ex : Value → Shared → Prop), ThrOk cp.md (blkE X s H scope (compEnvC scope cl C X.env) fp ex) L (Wb W σ) → PG (blkE X s H scope (compEnvC scope cl C X.env) fp ex) tg (gTgt X.K single is))
    (he : ∀ (L : Addr) (σ : L2.St) (s : Shared) (H : Hp) (C : Addr) (cl : List (Str × Addr)) (fp : List Addr) (ex : Value → Shared → Prop), ThrOk cp.md (blkE X s H scope (compEnvC scope cl C X.env) fp ex) L (Wb W σ) → PE (blkE X s H scope (compEnvC scope cl C X.env) fp ex) elt (spE G X.K X.mg H0 (Wb W σ) elt'))
    (hs : ∀ x, foldedSetIterable iter X.env x = pure x) :
    PE X (.ListComp elt [⟨tg, iter, [], 0⟩] scope pos) (spE G X.K X.mg H0 W (.comp (own.map (·.2)) is single it elt')) := by
  have ok : BlkOk X.N X.env.scope scope own := by rw [o.N, o.sc]; exact blk_of hb
  obtain ⟨L, t⟩ := o.thr
  exact pe_imp (pe_lcX t (tT := fun _ => tYes) (te := fun σ => spE G X.K X.mg H0 (Wb W σ) elt') o.calm (by rw [o.N]; exact o.nd) hi ok (hg L) (fun _ _ _ _ _ _ _ _ => pts_nil) (he L) hs) fun σ H Q h => comp_lc hsub h
theorem compIf_lc {K : PySem.W.Frag} {mg : Str → Option Value} {it : It} {elt' c' : E} {single : Bool} {is : List Nat} {own : List (Str × Nat)} {σ : L2.St} {H : Hp} {Q : VK} (hsub : is.all (fun i => (own.map (·.2)).contains i) = true)
    (h : spE G K mg H0 W (.compIf (own.map (·.2)) is single it c' elt') σ H Q) : tLc (spI G K mg H0 W it) (gTgt K single is) (spT G K mg H0 (Wb W σ) c') (spE G K mg H0 (Wb W σ) elt') (own.map (·.2)) σ H Q := by
  obtain ⟨ρ, S, r, h⟩ := h
  unfold eE at h
  refine ⟨ρ, S, r, h.bind.mono (Same.refl _) fun xs _ q J H1 S1 x1 wk D hD => ?_⟩
  have r1 := r.ext x1
  have hn : compL (fun x => (setT single is x (wipeS ρ (own.map (·.2)))).bind fun ρ1 => (eE G ρ1 c').bind fun t => (boolV t).bind fun k => if k then (eE G ρ1 elt').bind fun y => .ok (some y) else .ok none) xs [] ≠ .no := fun z => by
    have q1 := q.bind
    rw [z] at q1
    exact q1.elim
  refine comp_loop r1.h0 r1.hs wk hD hn rfl (fun S2 H2 x p rr Nx vacc x2 sD hHD rp hF hl hno hyes => ?_) (fun S2 H2 x p Nx Ce x2 rp hF er => ?_) fun S2 H2 vs ys er x2 e rs => ?_
  · have r2 := (r1.ext x2).wipe (own.map (·.2))
    cases hT : setT single is p (wipeS ρ (own.map (·.2))) with
    | ok ρ1 =>
      rw [hT] at hF
      refine tgt_ok r2 rp hT fun σ2 r3 hw => ⟨?_, ?_⟩
      · rw [hw (own.map (·.2)) fun i hi => by simpa using (List.all_eq_true.mp hsub) i hi]
        exact wipe_wipe _ _ fun i hi => hi
      · cases hC : eE G ρ1 c' with
        | ok t =>
          cases t with
          | bl k =>
            refine ⟨ρ1, S2, r3, ?_⟩
            rw [hC]
            refine ⟨k, rfl, fun H3 S3 x3 => ?_⟩
            have r4 := r3.ext x3
            cases k with
            | false =>
              refine L2.iteF ?_
              have hF : Rs.ok none = Rs.ok rr := by rw [← hF]; simp only [Rs.ok_bind, hC, boolV]; rfl
              injection hF with hF
              exact hno hF.symm S3 H3 x3
            | true =>
              refine L2.iteT ?_
              cases hE : eE G ρ1 elt' with
              | ok y =>
                have hF : Rs.ok (some y) = Rs.ok rr := by rw [← hF]; simp only [Rs.ok_bind, hC, boolV, hE, if_true]
                injection hF with hF
                subst hF
                refine ⟨ρ1, S3, r4, ?_⟩
                rw [hE]
                intro v H4 S4 x4 rv _
                have x34 := x3.trans x4
                exact ⟨vacc, (x34.ls D _ hHD sD).1, hl (fun z => by cases z), hyes y rfl v S4 H4 x34 rv⟩
              | err C => simp only [Rs.ok_bind, hC, boolV, hE, if_true, Rs.err_bind] at hF; cases hF
              | no => simp only [Rs.ok_bind, hC, boolV, hE, if_true, Rs.no_bind] at hF; cases hF
          | _ => simp only [Rs.ok_bind, hC, boolV, Rs.no_bind] at hF; cases hF
        | err C => simp only [Rs.ok_bind, hC, Rs.err_bind] at hF; cases hF
        | no => simp only [Rs.ok_bind, hC, Rs.no_bind] at hF; cases hF
    | err C => rw [hT] at hF; cases hF
    | no => rw [hT] at hF; cases hF
  · have hx : Erx mg W σ H Ce := by
      have q1 := q.bind
      rw [er] at q1
      exact q1
    have r2 := (r1.ext x2).wipe (own.map (·.2))
    have sm : Same H H2 := (x1.trans x2).same r.hs
    cases hT : setT single is p (wipeS ρ (own.map (·.2))) with
    | ok ρ1 =>
      rw [hT] at hF
      refine tgt_ok r2 rp hT fun σ2 r3 hw => ⟨?_, ?_⟩
      · rw [hw (own.map (·.2)) fun i hi => by simpa using (List.all_eq_true.mp hsub) i hi]
        exact wipe_wipe _ _ fun i hi => hi
      · cases hC : eE G ρ1 c' with
        | ok t =>
          cases t with
          | bl k =>
            refine ⟨ρ1, S2, r3, ?_⟩
            rw [hC]
            refine ⟨k, rfl, fun H3 S3 x3 => ?_⟩
            have r4 := r3.ext x3
            cases k with
            | false => simp only [Rs.ok_bind, hC, boolV] at hF; cases hF
            | true =>
              refine L2.iteT ?_
              cases hE : eE G ρ1 elt' with
              | err C =>
                simp only [Rs.ok_bind, hC, boolV, hE, if_true, Rs.err_bind] at hF
                injection hF with hF
                subst hF
                refine ⟨ρ1, S3, r4, ?_⟩
                rw [hE]
                exact fun a ma H' h' => hx a ma H' ((sm.trans (x3.same r3.hs)).trans h')
              | ok y => simp only [Rs.ok_bind, hC, boolV, hE, if_true] at hF; cases hF
              | no => simp only [Rs.ok_bind, hC, boolV, hE, if_true, Rs.no_bind] at hF; cases hF
          | _ => simp only [Rs.ok_bind, hC, boolV, Rs.no_bind] at hF; cases hF
        | err C =>
          simp only [Rs.ok_bind, hC, Rs.err_bind] at hF
          injection hF with hF
          subst hF
          refine ⟨ρ1, S2, r3, ?_⟩
          rw [hC]
          exact fun a ma H' h' => hx a ma H' (sm.trans h')
        | no => simp only [Rs.ok_bind, hC, Rs.no_bind] at hF; cases hF
    | err C => exact absurd hT (setT_ne C)
    | no => rw [hT] at hF; cases hF
  · have q1 := q.bind
    rw [er] at q1
    refine q1 (.ref D) H2 S2 (x1.trans x2) ?_ fun _ _ _ => ⟨D, rfl, (x1.same r.hs).free hD⟩
    rw [Rp]
    exact ⟨D, vs, rfl, e, fun _ => r1.h0.free hD, rs⟩

theorem s_compIf {elt iter tg c : Expr} {scope : Scope} {pos : Pos} {it : It} {elt' c' : E} {single : Bool} {is : List Nat} {own : List (Str × Nat)} (o : XOk cp G lv H0 X sc W) (hb : blkB cp.N sc scope own = true) (hsub : is.all (fun i => (own.map (·.2)).contains i) = true)
    (hi : PI X tg iter (spI G X.K X.mg H0 W it))
    (hg : ∀ (L : Addr) (σ : L2.St) (s : Shared) (H : Hp) (C : Addr) (cl : List (Str × Addr)) (fp : List Addr) (ex : Value → Shared → Prop), ThrOk cp.md (blkE X s H scope (compEnvC scope cl C X.env) fp ex) L (Wb W σ) → PG (blkE X s H scope (compEnvC scope cl C X.env) fp ex) tg (gTgt X.K single is))
    (ht : ∀ (L : Addr) (σ : L2.St) (s : Shared) (H : Hp) (C : Addr) (cl : List (Str × Addr)) (fp : List Addr) (ex : Value → Shared → Prop), ThrOk cp.md (blkE X s H scope (compEnvC scope cl C X.env) fp ex) L (Wb W σ) → PT (blkE X s H scope (compEnvC scope cl C X.env) fp ex) c (spT G X.K X.mg H0 (Wb W σ) c'))
    (he : ∀ (L : Addr) (σ : L2.St) (s : Shared) (H : Hp) (C : Addr) (cl : List (Str × Addr)) (fp : List Addr) (ex : Value → Shared → Prop), ThrOk cp.md (blkE X s H scope (compEnvC scope cl C X.env) fp ex) L (Wb W σ) → PE (blkE X s H scope (compEnvC scope cl C X.env) fp ex) elt (spE G X.K X.mg H0 (Wb W σ) elt'))
    (hs : ∀ x, foldedSetIterable iter X.env x = pure x) :
    PE X (.ListComp elt [⟨tg, iter, [c], 0⟩] scope pos) (spE G X.K X.mg H0 W (.compIf (own.map (·.2)) is single it c' elt')) := by
  have ok : BlkOk X.N X.env.scope scope own := by rw [o.N, o.sc]; exact blk_of hb
  obtain ⟨L, t⟩ := o.thr
  exact pe_imp (pe_lcX t (tT := fun σ => spT G X.K X.mg H0 (Wb W σ) c') (te := fun σ => spE G X.K X.mg H0 (Wb W σ) elt') o.calm (by rw [o.N]; exact o.nd) hi ok (hg L) (fun σ s H C cl fp ex t => pts_one (ht L σ s H C cl fp ex t)) (he L) hs) fun σ H Q h => compIf_lc hsub h

/-! ### tests -/
theorem t_val {e : Expr} {c : E} (he : PE X e (spE G X.K X.mg H0 W c)) (hw : ∀ whole, isTrue e X.env whole = (do let v ← whole; standAt e.pos; holding [v] (truthy v))) : PT X e (spT G X.K X.mg H0 W c) := by
  refine pt_imp (pt_val he hw) fun σ H Q h => ?_
  obtain ⟨ρ, S, r, h⟩ := h
  refine sp_then r h fun p v H1 S1 e1 h1 x1 rp => ?_
  obtain ⟨k, rfl, hk⟩ := h1
  rw [Rp] at rp
  exact ⟨k, rp, hk H1 S1 x1⟩
theorem t_cmp {o : CmpOp} {o' : Cp} {a c : Expr} {a' c' : E} {pos : Pos} (x : XOk cp G lv H0 X sc W) (ho : cpOf o = some o') (hm : behindInMarks o c = false) (ha : PE X a (spE G X.K X.mg H0 W a')) (hc : PE X c (spE G X.K X.mg H0 W c')) :
    PT X (.Compare a [o] [c] pos) (spT G X.K X.mg H0 W (.cmp o' a' c')) := by
  refine pt_imp (pt_cmpR (cpr_of (H0 := H0) (b := false) x ho) ha hc hm) fun σ H Q h => ?_
  obtain ⟨ρ, S, r, h⟩ := h
  unfold eE at h
  refine s_bin (cpV_ne o') r (h.mono (Same.refl _) fun p _ q v H' S' x1 rp _ => ?_)
  obtain ⟨k, rfl, hk⟩ := q
  rw [Rp] at rp
  exact ⟨k, rp, hk H' S' x1⟩
theorem t_not {a : Expr} {a' : E} {pos : Pos} (ha : PT X a (spT G X.K X.mg H0 W a')) : PT X (.UnaryOp .Not a pos) (spT G X.K X.mg H0 W (.not a')) := by
  refine pt_imp (pt_not ha) fun σ H Q h => ?_
  obtain ⟨ρ, S, r, h⟩ := h
  unfold eE at h
  refine spT_then r h.bind fun p e1 h1 => ?_
  cases p with
  | bl k =>
    obtain ⟨k', e, hk⟩ := h1
    injection e with e
    subst e
    exact ⟨k, rfl, hk⟩
  | _ => exact h1.elim
theorem t_isN {a : Expr} {a' : E} {n : Bool} {op : CmpOp} {j : Nat} {p' pos : Pos} (hop : op = if n then .IsNot else .Is) (ha : PE X a (spE G X.K X.mg H0 W a')) :
    PT X (.Compare a [op] [.Constant .none j p'] pos) (spT G X.K X.mg H0 W (.isN n a')) := by
  have key : ∀ {σ : L2.St} {H S : Hp} {ρ : Rho} {Q : Bool → Hp → Prop}, EnvR X.K H0 S H ρ σ → Aft X.mg W σ H ((eE G ρ a').bind (isNV n)) (fun p => AnsT S H p Q) →
      spE G X.K X.mg H0 W a' σ H fun x H1 => Q (if n then !decide (x = .non) else decide (x = .non)) H1 := fun {σ H S ρ Q} r h => by
    refine sp_then r h.bind fun p x H1 S1 e1 h1 x1 rp => ?_
    have e : (if n then !decide (x = .non) else decide (x = .non)) = (if n then !isNon p else isNon p) := by
      have : decide (x = .non) = isNon p := by
        cases p with
        | non => rw [Rp] at rp; subst rp; rfl
        | bl k => rw [Rp] at rp; subst rp; rfl
        | int k => rw [Rp] at rp; subst rp; rfl
        | str k => rw [Rp] at rp; subst rp; rfl
        | scr k => rw [Rp] at rp; obtain ⟨a, rfl, _⟩ := rp; rfl
        | lst m k => rw [Rp] at rp; obtain ⟨a, _, rfl, _⟩ := rp; rfl
        | tup k => rw [Rp] at rp; obtain ⟨a, _, rfl, _⟩ := rp; rfl
      rw [this]
    rw [e]
    obtain ⟨k, ek, hk⟩ := h1
    injection ek with ek
    rw [ek]
    exact hk H1 S1 x1
  cases n with
  | false =>
    subst hop
    refine pt_imp (pt_cmp (pc_isN ha)) fun σ H Q h => ?_
    obtain ⟨ρ, S, r, h⟩ := h
    unfold eE at h
    have := key r h
    exact ⟨this.choose, this.choose_spec.choose, this.choose_spec.choose_spec.1, this.choose_spec.choose_spec.2.mono (Same.refl _) fun p _ q v H' S' x rp nw => ⟨_, rfl, q v H' S' x rp nw⟩⟩
  | true =>
    subst hop
    refine pt_imp (pt_cmp (pc_notN ha)) fun σ H Q h => ?_
    obtain ⟨ρ, S, r, h⟩ := h
    unfold eE at h
    have := key r h
    exact ⟨this.choose, this.choose_spec.choose, this.choose_spec.choose_spec.1, this.choose_spec.choose_spec.2.mono (Same.refl _) fun p _ q v H' S' x rp nw => ⟨_, rfl, q v H' S' x rp nw⟩⟩
theorem t_chain {o o2 : CmpOp} {o' o2' : Cp} {a c d : Expr} {a' c' d' : E} {pos : Pos} (x : XOk cp G lv H0 X sc W) (ho : cpOf o = some o') (ho2 : cpOf o2 = some o2') (hm : lastMarks [o, o2] [c, d] = false)
    (ha : PE X a (spE G X.K X.mg H0 W a')) (hc : PE X c (spE G X.K X.mg H0 W c')) (hd : PE X d (spE G X.K X.mg H0 W d')) : PT X (.Compare a [o, o2] [c, d] pos) (spT G X.K X.mg H0 W (.chain o' o2' a' c' d')) := by
  refine pt_imp (pt_chain (cpr_of (H0 := H0) (b := false) x ho) (cpr_of (H0 := H0) (b := false) x ho2) ha hc hd hm) fun σ H Q h => ?_
  obtain ⟨ρ, S, r, h⟩ := h
  unfold eE at h
  refine sp_then r h.bind fun p x H1 S1 e1 h1 x1 rp => ?_
  have r1 := r.ext x1
  refine sp_then r1 (h1.bind.mono (x1.same r.hs) fun _ _ q => q) fun q y H2 S2 e2 h2 x2 rq => ?_
  have r2 := r1.ext x2
  obtain ⟨z, ez, h3⟩ := h2.bind.ok (cpV_ne o' p q)
  refine ⟨S2, p, q, z, r2.h0, r2.hs, rp.mono x2.st, rq, ez, fun v H3 S3 x3 rv _ => ?_⟩
  cases z with
  | bl k =>
    rw [Rp] at rv
    refine ⟨k, rv, ?_⟩
    have x23 := x2.trans x3
    have x123 := x1.trans x23
    have r3 := r2.ext x3
    cases k with
    | false =>
      have h3' : AnsT S H (.bl false) Q := h3
      obtain ⟨k, ek, hk⟩ := h3'
      injection ek with ek
      subst ek
      exact ⟨false, rfl, hk _ _ x123⟩
    | true =>
      have h3' : Aft X.mg W σ H ((eE G ρ d').bind fun s => cpV o2' q s) fun p => AnsT S H p Q := h3
      show spE G X.K X.mg H0 W d' σ H3 fun w' H4 => rV2 false X.K H0 (cpV o2') y w' H4 _
      refine sp_then r3 (h3'.bind.mono (x123.same r.hs) fun _ _ q => q) fun s w H4 S4 e4 h4 x4 rs => ?_
      have r4 := r3.ext x4
      obtain ⟨u, eu, au⟩ := h4.ok (cpV_ne o2' q s)
      refine ⟨S4, q, s, u, r4.h0, r4.hs, rq.mono (x3.trans x4).st, rs, eu, fun v H' S' x5 rv _ => ?_⟩
      obtain ⟨k, ek, hk⟩ := au
      subst ek
      rw [Rp] at rv
      exact ⟨k, rv, hk H' S' ((x123.trans x4).trans x5)⟩
  | _ => exact h3.elim
/-- a chain of and, or: whatever its whole is -/
theorem pw_imp {e : Expr} {t t' : TT} (h : PW X e t) (k : ∀ σ H Q, t' σ H Q → t σ H Q) : PW X e t' := ⟨fun wh pins s σ H Q I q => h.run wh pins s σ H Q I (k _ _ _ q)⟩
theorem w_and {a b : Expr} {r : List Expr} {a' b' : E} {pos : Pos} (ha : PT X a (spT G X.K X.mg H0 W a')) (hb : PW X (.BoolOp .And (b :: r) pos) (spT G X.K X.mg H0 W b')) :
    PW X (.BoolOp .And (a :: b :: r) pos) (spT G X.K X.mg H0 W (.and a' b')) := by
  refine pw_imp (pw_and ha hb) fun σ H Q h => ?_
  obtain ⟨ρ, S, r, h⟩ := h
  unfold eE at h
  refine spT_then r h.bind fun p e1 h1 => ?_
  cases p with
  | bl k =>
    refine ⟨k, rfl, fun H1 S1 x1 => ?_⟩
    have r1 := r.ext x1
    cases k with
    | false =>
      have h1' : AnsT S H (.bl false) Q := h1
      obtain ⟨k, ek, hk⟩ := h1'
      injection ek with ek
      subst ek
      refine L2.iteF ?_
      exact hk _ _ x1
    | true =>
      refine L2.iteT ?_
      have h2 : Aft X.mg W σ H (eE G ρ b') fun p => AnsT S H p Q := h1
      refine ⟨ρ, S1, r1, h2.mono (x1.same r.hs) fun p _ q => ?_⟩
      obtain ⟨k, ek, hk⟩ := q
      exact ⟨k, ek, fun H' S' x2 => hk H' S' (x1.trans x2)⟩
  | _ => exact h1.elim
theorem w_or {a b : Expr} {r : List Expr} {a' b' : E} {pos : Pos} (ha : PT X a (spT G X.K X.mg H0 W a')) (hb : PW X (.BoolOp .Or (b :: r) pos) (spT G X.K X.mg H0 W b')) :
    PW X (.BoolOp .Or (a :: b :: r) pos) (spT G X.K X.mg H0 W (.or a' b')) := by
  refine pw_imp (pw_or ha hb) fun σ H Q h => ?_
  obtain ⟨ρ, S, r, h⟩ := h
  unfold eE at h
  refine spT_then r h.bind fun p e1 h1 => ?_
  cases p with
  | bl k =>
    refine ⟨k, rfl, fun H1 S1 x1 => ?_⟩
    have r1 := r.ext x1
    cases k with
    | true =>
      have h1' : AnsT S H (.bl true) Q := h1
      obtain ⟨k, ek, hk⟩ := h1'
      injection ek with ek
      subst ek
      refine L2.iteT ?_
      exact hk _ _ x1
    | false =>
      refine L2.iteF ?_
      have h2 : Aft X.mg W σ H (eE G ρ b') fun p => AnsT S H p Q := h1
      refine ⟨ρ, S1, r1, h2.mono (x1.same r.hs) fun p _ q => ?_⟩
      obtain ⟨k, ek, hk⟩ := q
      exact ⟨k, ek, fun H' S' x2 => hk H' S' (x1.trans x2)⟩
  | _ => exact h1.elim
end
end SG

namespace SG
open PySem PySem.Spec PyProof.Rows L2
section
variable {cp : CP} {G : Gt} {lv : Nat} {H0 : Hp}

/-- the forms that a term may have -/
def fineE : Expr → Bool
  | .Starred _ _ => false
  | .Slice _ _ _ _ => false
  | .Set _ _ _ => false
  | _ => true
theorem fine_of {n : Nat} {sc : Scope} {e : Expr} {c : E} (h : cE cp n sc e = some c) : fineE e = true := by
  cases n with
  | zero => unfold cE at h; cases h
  | succ n =>
    cases e <;> first
      | rfl
      | (unfold cE at h; cases h)
theorem fine_star {e : Expr} (h : fineE e = true) (r : List Expr) (env : Env) : starEach (e :: r) env = (false, eval e env) :: starEach r env := by
  cases e <;> first | rfl | cases h
theorem fine_ix {e : Expr} (h : fineE e = true) : L2.PlainIx e := by
  cases e <;> first | exact fun _ _ => rfl | cases h
theorem fine_fold {e : Expr} (h : fineE e = true) (env : Env) (x : Value) : foldedSetIterable e env x = pure x := by
  cases e <;> first | rfl | cases h
theorem fine_mark {e : Expr} (h : fineE e = true) (o : CmpOp) : behindInMarks o e = false := by
  cases e <;> first | rfl | cases h
theorem fine_last {c d : Expr} (h : fineE d = true) (o o2 : CmpOp) : lastMarks [o, o2] [c, d] = false := by
  unfold lastMarks
  exact fine_mark h o2
theorem fine_args {n : Nat} {sc : Scope} {env : Env} {pos : Pos} : ∀ {es : List Expr} {c : Es}, cEs cp n sc es = some c → (backTo pos (starEach es env)).any (·.1) = false := by
  induction n with
  | zero => intro es c h; unfold cEs at h; cases h
  | succ n ih =>
    intro es c h
    unfold cEs at h
    cases es with
    | nil => rfl
    | cons e r =>
      dsimp only at h
      split at h
      · rename_i e' r' h1 h2
        rw [fine_star (fine_of h1)]
        unfold backTo
        rw [List.map_cons, List.any_cons]
        exact ih h2
      · cases h

/-- a term's run and its test's -/
def GoodE (cp : CP) (G : Gt) (lv : Nat) (H0 : Hp) (n : Nat) : Prop := ∀ (sc : Scope) (X : Cx) (W : WX), XOk cp G lv H0 X sc W → ∀ e c, cE cp n sc e = some c →
  PE X e (spE G X.K X.mg H0 W c) ∧ PT X e (spT G X.K X.mg H0 W c) ∧ ((∃ o es p, e = .BoolOp o es p) → PW X e (spT G X.K X.mg H0 W c))
def GoodEs (cp : CP) (G : Gt) (lv : Nat) (H0 : Hp) (n : Nat) : Prop := ∀ (sc : Scope) (X : Cx) (W : WX), XOk cp G lv H0 X sc W → ∀ es c, cEs cp n sc es = some c → PA X es (spA G X.K X.mg H0 W c)
def GoodI (cp : CP) (G : Gt) (lv : Nat) (H0 : Hp) (n : Nat) : Prop := ∀ (sc : Scope) (X : Cx) (W : WX), XOk cp G lv H0 X sc W → ∀ tg e c, cI cp n sc (isTup tg) e = some c →
  PI X tg e (spI G X.K X.mg H0 W c) ∧ ∀ env x, foldedSetIterable e env x = pure x

theorem good : ∀ n, GoodE cp G lv H0 n ∧ GoodEs cp G lv H0 n ∧ GoodI cp G lv H0 n := by
  intro n
  induction n with
  | zero =>
    refine ⟨fun sc X W o e c h => ?_, fun sc X W o e c h => ?_, fun sc X W o tg e c h => ?_⟩
    · unfold cE at h; cases h
    · unfold cEs at h; cases h
    · unfold cI at h; cases h
  | succ n ih =>
    obtain ⟨ihE, ihEs, ihI⟩ := ih
    have nb : ∀ {e : Expr} {P : Prop}, (∀ o es p, e ≠ .BoolOp o es p) → ((∃ o es p, e = .BoolOp o es p) → P) := fun h ⟨o, es, p, z⟩ => absurd z (h o es p)
    refine ⟨fun sc X W o e c h => ?_, fun sc X W o es c h => ?_, fun sc X W o tg e c h => ?_⟩
    · have both : PE X e (spE G X.K X.mg H0 W c) → (∀ whole, isTrue e X.env whole = (do let v ← whole; standAt e.pos; holding [v] (truthy v))) → (∀ o es p, e ≠ .BoolOp o es p) →
          PE X e (spE G X.K X.mg H0 W c) ∧ PT X e (spT G X.K X.mg H0 W c) ∧ ((∃ o es p, e = .BoolOp o es p) → PW X e (spT G X.K X.mg H0 W c)) := fun a b d => ⟨a, t_val a b, nb d⟩
      unfold cE at h
      cases e with
      | Constant k j pos =>
        dsimp only at h
        cases k with
        | int i =>
          injection h with h; subst h
          refine both (pe_imp pe_int fun σ H Q q => ?_) (fun _ => rfl) (fun _ _ _ z => by cases z)
          obtain ⟨ρ, S, r, a⟩ := q
          unfold eE at a
          exact Ans.int a r.hs
        | bool i =>
          injection h with h; subst h
          refine both (pe_imp pe_bl fun σ H Q q => ?_) (fun _ => rfl) (fun _ _ _ z => by cases z)
          obtain ⟨ρ, S, r, a⟩ := q
          unfold eE at a
          exact Ans.bl a r.hs
        | none =>
          injection h with h; subst h
          refine both (pe_imp pe_non fun σ H Q q => ?_) (fun _ => rfl) (fun _ _ _ z => by cases z)
          obtain ⟨ρ, S, r, a⟩ := q
          unfold eE at a
          exact Ans.non a r.hs
        | str i =>
          injection h with h; subst h
          refine both (pe_imp pe_str fun σ H Q q => ?_) (fun _ => rfl) (fun _ _ _ z => by cases z)
          obtain ⟨ρ, S, r, a⟩ := q
          unfold eE at a
          exact Ans.str a r.hs
        | _ => cases h
      | Name x pos => exact both (s_name o h) (fun _ => rfl) (fun _ _ _ z => by cases z)
      | BinOp a op b pos =>
        dsimp only at h
        split at h
        · rename_i o' a' b' h1 h2 h3
          injection h with h; subst h
          exact both (s_op h1 (ihE sc X W o a a' h2).1 (ihE sc X W o b b' h3).1) (fun _ => rfl) (fun _ _ _ z => by cases z)
        · cases h
      | UnaryOp op a pos =>
        dsimp only at h
        split at h
        · rename_i a' h1
          injection h with h; subst h
          exact both (s_neg (ihE sc X W o a a' h1).1) (fun _ => rfl) (fun _ _ _ z => by cases z)
        · rename_i a' h1
          injection h with h; subst h
          obtain ⟨g1, g2, _⟩ := ihE sc X W o a a' h1
          exact ⟨s_not g1, t_not g2, nb fun _ _ _ z => by cases z⟩
        · cases h
      | Compare a ops bs pos =>
        dsimp only at h
        split at h
        · cases h1 : cE cp n sc a with
          | none => rw [h1] at h; cases h
          | some a' =>
            rw [h1] at h
            injection h with h; subst h
            obtain ⟨g1, _⟩ := ihE sc X W o a a' h1
            exact ⟨s_isN rfl g1, t_isN rfl g1, nb fun _ _ _ z => by cases z⟩
        · cases h1 : cE cp n sc a with
          | none => rw [h1] at h; cases h
          | some a' =>
            rw [h1] at h
            injection h with h; subst h
            obtain ⟨g1, _⟩ := ihE sc X W o a a' h1
            exact ⟨s_isN rfl g1, t_isN rfl g1, nb fun _ _ _ z => by cases z⟩
        · split at h
          · rename_i o' a' b' h1 h2 h3
            injection h with h; subst h
            obtain ⟨g1, _⟩ := ihE sc X W o a a' h2
            obtain ⟨g2, _⟩ := ihE sc X W o _ b' h3
            exact ⟨s_cmp o h1 (fine_mark (fine_of h3) _) g1 g2, t_cmp o h1 (fine_mark (fine_of h3) _) g1 g2, nb fun _ _ _ z => by cases z⟩
          · cases h
        · split at h
          · rename_i o' o2' a' b' c' h1 h2 h3 h4 h5
            injection h with h; subst h
            obtain ⟨g1, _⟩ := ihE sc X W o a a' h3
            obtain ⟨g2, _⟩ := ihE sc X W o _ b' h4
            obtain ⟨g3, _⟩ := ihE sc X W o _ c' h5
            exact ⟨s_chain o h1 h2 (fine_last (fine_of h5) _ _) g1 g2 g3, t_chain o h1 h2 (fine_last (fine_of h5) _ _) g1 g2 g3, nb fun _ _ _ z => by cases z⟩
          · cases h
        · cases h
      | BoolOp op es pos =>
        dsimp only at h
        split at h
        · rename_i a
          obtain ⟨g1, g2, _⟩ := ihE sc X W o a c h
          have w : PW X (.BoolOp op [a] pos) (spT G X.K X.mg H0 W c) := by
            cases op with
            | And => exact pw_and1 g2
            | Or => exact pw_or1 g2
          exact ⟨pe_one g1, w.pt, fun _ => w⟩
        · rename_i a b r
          split at h
          · rename_i a' b' h1 h2
            injection h with h; subst h
            obtain ⟨g1, g2, _⟩ := ihE sc X W o a a' h1
            obtain ⟨k1, k2, k3⟩ := ihE sc X W o _ b' h2
            have w := w_and (pos := pos) g2 (k3 ⟨_, _, _, rfl⟩)
            exact ⟨s_and g1 k1, w.pt, fun _ => w⟩
          · cases h
        · rename_i a b r
          split at h
          · rename_i a' b' h1 h2
            injection h with h; subst h
            obtain ⟨g1, g2, _⟩ := ihE sc X W o a a' h1
            obtain ⟨k1, k2, k3⟩ := ihE sc X W o _ b' h2
            have w := w_or (pos := pos) g2 (k3 ⟨_, _, _, rfl⟩)
            exact ⟨s_or g1 k1, w.pt, fun _ => w⟩
          · cases h
        · cases h
      | Subscript a i pos =>
        dsimp only at h
        split at h
        · split at h
          · split at h
            · rename_i x p
              split at h
              · rename_i v lo' h1 h2
                injection h with h; subst h
                unfold nameV at h1
                split at h1
                · rename_i hv
                  exact both (s_slLoV o (ixOf_get0 h1) hv.2 hv.1 (ihE sc X W o _ lo' h2).1) (fun _ => rfl) (fun _ _ _ z => by cases z)
                · cases h1
              · cases h
            · split at h
              · rename_i a' lo' h1 h2
                injection h with h; subst h
                exact both (s_slLo (ihE sc X W o a a' h1).1 (ihE sc X W o _ lo' h2).1) (fun _ => rfl) (fun _ _ _ z => by cases z)
              · cases h
          · split at h
            · rename_i x p
              split at h
              · rename_i v lo' h1 h2
                injection h with h; subst h
                unfold nameV at h1
                split at h1
                · rename_i hv
                  exact both (s_slHiV o (ixOf_get0 h1) hv.2 hv.1 (ihE sc X W o _ lo' h2).1) (fun _ => rfl) (fun _ _ _ z => by cases z)
                · cases h1
              · cases h
            · split at h
              · rename_i a' lo' h1 h2
                injection h with h; subst h
                exact both (s_slHi (ihE sc X W o a a' h1).1 (ihE sc X W o _ lo' h2).1) (fun _ => rfl) (fun _ _ _ z => by cases z)
              · cases h
          · cases h1 : cE cp n sc a with
            | none => rw [h1] at h; cases h
            | some a' =>
              rw [h1] at h
              injection h with h; subst h
              exact both (s_rvL (ihE sc X W o a a' h1).1) (fun _ => rfl) (fun _ _ _ z => by cases z)
          · cases h
        · split at h
          · rename_i x p
            split at h
            · rename_i v i' h1 h2
              injection h with h; subst h
              unfold nameV at h1
              split at h1
              · rename_i hv
                exact both (s_ixv o (ixOf_get0 h1) hv.2 hv.1 (fine_ix (fine_of h2)) (ihE sc X W o _ i' h2).1) (fun _ => rfl) (fun _ _ _ z => by cases z)
              · cases h1
            · cases h
          · split at h
            · rename_i a' i' h1 h2
              injection h with h; subst h
              exact both (s_ix (fine_ix (fine_of h2)) (ihE sc X W o a a' h1).1 (ihE sc X W o _ i' h2).1) (fun _ => rfl) (fun _ _ _ z => by cases z)
            · cases h
      | List es pos =>
        dsimp only at h
        cases h1 : cEs cp n sc es with
        | none => rw [h1] at h; cases h
        | some es' =>
          rw [h1] at h
          injection h with h; subst h
          exact both (s_lst (ihEs sc X W o es es' h1)) (fun _ => rfl) (fun _ _ _ z => by cases z)
      | Tuple es k pos =>
        dsimp only at h
        cases h1 : cEs cp n sc es with
        | none => rw [h1] at h; cases h
        | some es' =>
          rw [h1] at h
          injection h with h; subst h
          exact both (s_tup (ihEs sc X W o es es' h1)) (fun _ => rfl) (fun _ _ _ z => by cases z)
      | Call f args kws pos =>
        dsimp only at h
        split at h
        · rename_i x p
          split at h
          · rename_i hg
            split at h
            · cases h
            · rename_i a r
              split at h
              · rename_i hns
                cases h1 : cEs cp n sc (a :: r) with
                | none => rw [h1] at h; cases h
                | some es' =>
                  rw [h1] at h
                  injection h with h; subst h
                  have hf : fineE a = true ∧ (backTo pos (starEach r X.env)).any (·.1) = false := by
                    cases n with
                    | zero => unfold cEs at h1; cases h1
                    | succ n =>
                      unfold cEs at h1
                      dsimp only at h1
                      split at h1
                      · rename_i _ _ q1 q2; exact ⟨fine_of q1, fine_args q2⟩
                      · cases h1
                  exact both (s_call o hns hg.1 hg.2 (fine_star hf.1 _ _) hf.2 (ihEs sc X W o _ es' h1)) (fun _ => rfl) (fun _ _ _ z => by cases z)
              · split at h
                · rename_i hx
                  subst hx
                  split at h
                  · rename_i t q
                    split at h
                    · rename_i t' a' h1 h2
                      split at h
                      · rename_i hgt
                        injection h with h; subst h
                        exact both (s_isi o hg.1 h1 hgt (fine_star (fine_of h2) _ _) (ihE sc X W o a a' h2).1) (fun _ => rfl) (fun _ _ _ z => by cases z)
                      · cases h
                    · cases h
                  · cases h
                · split at h
                  · rename_i k hk
                    cases h1 : cEs cp n sc (a :: r) with
                    | none => rw [h1] at h; cases h
                    | some es' =>
                      rw [h1] at h
                      injection h with h; subst h
                      have hf : fineE a = true ∧ (backTo pos (starEach r X.env)).any (·.1) = false := by
                        cases n with
                        | zero => unfold cEs at h1; cases h1
                        | succ n =>
                          unfold cEs at h1
                          dsimp only at h1
                          split at h1
                          · rename_i _ _ q1 q2; exact ⟨fine_of q1, fine_args q2⟩
                          · cases h1
                      exact both (s_bi o hk hg.1 (fine_star hf.1 _ _) hf.2 (ihEs sc X W o _ es' h1)) (fun _ => rfl) (fun _ _ _ z => by cases z)
                  · cases h
          · cases h
        · rename_i o0 nm ap
          split at h
          · rename_i a
            split at h
            · rename_i hg
              split at h
              · rename_i o1 a1 h1 h2
                have g1 := (ihE sc X W o o0 o1 h1).1
                have g2 := (ihE sc X W o a a1 h2).1
                have hs := fine_star (fine_of h2) [] X.env
                split at h
                · rename_i hn
                  subst hn
                  injection h with h; subst h
                  exact both (s_join hg.1 hg.2 hs g1 g2) (fun _ => rfl) (fun _ _ _ z => by cases z)
                · split at h
                  · rename_i hn
                    subst hn
                    injection h with h; subst h
                    exact both (s_split hg.1 hg.2 hs g1 g2) (fun _ => rfl) (fun _ _ _ z => by cases z)
                  · cases h
              · cases h
            · cases h
          · cases h
        · cases h
      | ListComp elt gens scope pos =>
        dsimp only at h
        split at h
        · rename_i tg it ifs
          split at h
          · rename_i hb
            split at h
            · rename_i single is it' elt' h1 h2 h3
              split at h
              · rename_i hsub
                obtain ⟨gi, gf⟩ := ihI sc X W o tg it it' h2
                have gg := fun (L : Addr) (σ : L2.St) (s : Shared) (H : Hp) (C : Addr) (cl : List (Str × Addr)) (fp : List Addr) (ex : Value → Shared → Prop) (t : ThrOk cp.md (blkE X s H scope (compEnvC scope cl C X.env) fp ex) L (Wb W σ)) => g_tgt (o.blk t) (fn_blk o scope s H C cl fp ex) h1
                have ge := fun (L : Addr) (σ : L2.St) (s : Shared) (H : Hp) (C : Addr) (cl : List (Str × Addr)) (fp : List Addr) (ex : Value → Shared → Prop) (t : ThrOk cp.md (blkE X s H scope (compEnvC scope cl C X.env) fp ex) L (Wb W σ)) => (ihE _ _ _ (o.blk t) elt elt' h3).1
                split at h
                · injection h with h; subst h
                  exact both (s_comp o hb hsub gi gg ge (gf X.env)) (fun _ => rfl) (fun _ _ _ z => by cases z)
                · rename_i c0
                  cases h4 : cE cp n (relS scope sc) c0 with
                  | none => rw [h4] at h; cases h
                  | some c' =>
                    rw [h4] at h
                    injection h with h; subst h
                    have gt := fun (L : Addr) (σ : L2.St) (s : Shared) (H : Hp) (C : Addr) (cl : List (Str × Addr)) (fp : List Addr) (ex : Value → Shared → Prop) (t : ThrOk cp.md (blkE X s H scope (compEnvC scope cl C X.env) fp ex) L (Wb W σ)) => (ihE _ _ _ (o.blk t) c0 c' h4).2.1
                    exact both (s_compIf o hb hsub gi gg gt ge (gf X.env)) (fun _ => rfl) (fun _ _ _ z => by cases z)
                · cases h
              · cases h
            · cases h
          · cases h
        · cases h
      | _ => cases h
    · unfold cEs at h
      cases es with
      | nil =>
        injection h with h; subst h
        exact s_nil
      | cons e r =>
        dsimp only at h
        split at h
        · rename_i e' r' h1 h2
          injection h with h; subst h
          exact s_cons (fine_star (fine_of h1) _ _) (ihE sc X W o e e' h1).1 (ihEs sc X W o r r' h2)
        · cases h
    · have val : ∀ c', cE cp n sc e = some c' → PI X tg e (spI G X.K X.mg H0 W (.val c')) ∧ ∀ env x, foldedSetIterable e env x = pure x := fun c' h' =>
        ⟨i_val (ihE sc X W o e c' h').1, fun env x => fine_fold (fine_of h') env x⟩
      have val' : (cE cp n sc e).map It.val = some c → PI X tg e (spI G X.K X.mg H0 W c) ∧ ∀ env x, foldedSetIterable e env x = pure x := fun h' => by
        cases h1 : cE cp n sc e with
        | none => rw [h1] at h'; cases h'
        | some c' =>
          rw [h1] at h'
          injection h' with h'; subst h'
          exact val c' h1
      unfold cI at h
      split at h
      · rename_i x p args q
        split at h
        · rename_i hg
          obtain ⟨g1, g2, rfl⟩ := hg
          split at h
          · rename_i a
            cases h1 : cE cp n sc a with
            | none => rw [h1] at h; cases h
            | some a' =>
              rw [h1] at h
              injection h with h; subst h
              exact ⟨i_rng1 o g1 (fine_star (fine_of h1) _ _) (ihE sc X W o a a' h1).1, fun _ _ => rfl⟩
          · rename_i a b
            split at h
            · rename_i a' b' h1 h2
              injection h with h; subst h
              exact ⟨i_rng2 o g1 (by rw [fine_star (fine_of h1), fine_star (fine_of h2)]; rfl) (fine_star (fine_of h2) _ _) (ihE sc X W o a a' h1).1 (ihE sc X W o b b' h2).1, fun _ _ => rfl⟩
            · cases h
          · cases h
        · split at h
          · rename_i hg
            obtain ⟨g1, g2, rfl, gt⟩ := hg
            split at h
            · rename_i a b
              split at h
              · rename_i a' b' h1 h2
                injection h with h; subst h
                obtain ⟨es, k, tp, rfl⟩ := isTup_of gt
                exact ⟨i_zip o g1 (fine_star (fine_of h1) _ _) (fine_star (fine_of h2) _ _) (ihE sc X W o a a' h1).1 (ihE sc X W o b b' h2).1, fun _ _ => rfl⟩
              · cases h
            · cases h
          · split at h
            · rename_i hg
              obtain ⟨g1, g2, rfl, gt⟩ := hg
              split at h
              · rename_i a
                cases h1 : cE cp n sc a with
                | none => rw [h1] at h; cases h
                | some a' =>
                  rw [h1] at h
                  injection h with h; subst h
                  obtain ⟨es, k, tp, rfl⟩ := isTup_of gt
                  exact ⟨i_enum o g1 (fine_star (fine_of h1) _ _) (ihE sc X W o a a' h1).1, fun _ _ => rfl⟩
              · cases h
            · exact val' h
      · exact val' h
end
end SG

namespace SG
open PySem PySem.Spec PyProof.Rows L2

/-! ### statements -/
mutual
inductive S where
  | asg (f : List Nat) (i : Nat) (e : E)
  | asgM (f : List Nat) (i : Nat) (e : E)
  | asgT (f : List Nat) (tg : List Nat) (e : E)
  | setI (f : List Nat) (v : Nat) (i e : E)
  | app (f : List Nat) (v : Nat) (e : E)
  | ext (f : List Nat) (v : Nat) (e : E)
  | rev (v : Nat)
  | clr (v : Nat)
  | ex (f : List Nat) (e : E)
  | ret (f : List Nat) (e : E)
  | iff (f : List Nat) (c : E) (a b : Ss)
  | whl (f : List Nat) (c : E) (b : Ss)
  | for (f : List Nat) (tg : List Nat) (single : Bool) (it : It) (b : Ss)
  | rse (c : Str)
  | tryN (b : Ss) (wrap : Bool)
  | tryX (f : List Nat) (g : Str) (es : Es) (c d : Str)
  | cpy (i v : Nat)
  | dig (f : List Nat) (i : Nat) (g : Str) (es : Es) (t : Dg)
  | nev
inductive Ss where
  | nil
  | cons (s : S) (r : Ss)
/-- what follows a call whose lists are changed within: looks, then the loop that changes them, and the rest -/
inductive Dg where
  | chk (f : List Nat) (c : E) (a : Ss) (t : Dg)
  | fin (w : Nat) (f : List Nat) (c : E) (a : Ss) (z : Int) (rest : Ss)
end
inductive Out where
  | nx (ρ : Rho)
  | ret (p : PV)
  | err (c : Str)
  | no
def Rs.out {α : Type} (r : Rs α) (f : α → Out) : Out :=
  match r with
  | .ok a => f a
  | .err c => .err c
  | .no => .no
@[simp] theorem Rs.ok_out {α : Type} (a : α) (f : α → Out) : (Rs.ok a).out f = f a := (rfl)
@[simp] theorem Rs.err_out {α : Type} (c : Str) (f : α → Out) : (Rs.err c : Rs α).out f = .err c := (rfl)
@[simp] theorem Rs.no_out {α : Type} (f : α → Out) : (Rs.no : Rs α).out f = .no := (rfl)
def Out.seq (o : Out) (f : Rho → Out) : Out :=
  match o with
  | .nx ρ => f ρ
  | o => o
@[simp] theorem Out.nx_seq (ρ : Rho) (f : Rho → Out) : (Out.nx ρ).seq f = f ρ := (rfl)
@[simp] theorem Out.ret_seq (p : PV) (f : Rho → Out) : (Out.ret p).seq f = .ret p := (rfl)
@[simp] theorem Out.err_seq (p : Str) (f : Rho → Out) : (Out.err p).seq f = .err p := (rfl)
@[simp] theorem Out.no_seq (f : Rho → Out) : Out.no.seq f = .no := (rfl)
def frzI (i : Nat) (ρ : Rho) : Rho :=
  match ρ[i]? with
  | some (.own xs) => ρ.set i (.fz (.lst true xs))
  | _ => ρ
def frzA : List Nat → Rho → Rho
  | [], ρ => ρ
  | i :: is, ρ => frzA is (frzI i ρ)
def ownV (ρ : Rho) (v : Nat) : Rs (List PV) :=
  match ρ[v]? with
  | some (.own xs) => .ok xs
  | _ => .no
/-- what is stored at a name whose list is changed in place -/
def ownOr (mk : Bool) (p : PV) : Sl :=
  match p with
  | .lst true xs => if (mk && PV.lfs xs) = true then .own xs else .fz p
  | p => .fz p
def setIV (xs : List PV) (p : PV) : PV → Rs (List PV)
  | .int k => match ixN xs.length k with
    | some j => .ok (xs.set j p)
    | none => .no
  | _ => .no
def lstV : PV → Rs (List PV)
  | .lst _ xs => .ok xs
  | _ => .no
def whileF (t : Rho → Rs Bool) (b : Rho → Out) (pre : Rho → Rho) : Nat → Rho → Out
  | 0, _ => .no
  | n + 1, ρ => (t (pre ρ)).out fun k => if k then (b (pre ρ)).seq (whileF t b pre n) else .nx (pre ρ)
open Classical in
noncomputable def whileR (t : Rho → Rs Bool) (b : Rho → Out) (pre : Rho → Rho) (ρ : Rho) : Out :=
  if h : ∃ n, whileF t b pre n ρ ≠ .no then whileF t b pre (Classical.choose h) ρ else .no
def forL (st : PV → Rho → Rs Rho) (b : Rho → Out) : List PV → Rho → Out
  | [], ρ => .nx ρ
  | x :: xs, ρ => (st x ρ).out fun ρ1 => (b ρ1).seq (forL st b xs)
/-- the law's own names of errors -/
abbrev Nm := Str → Rs PV
def catchN (nm : Nm) (wrap : Bool) : Out → Out
  | .err c => (nm c).out fun p => .ret (if wrap then .lst true [p] else p)
  | o => o
/-- a new list of what a list in a slot holds -/
def cpyS (G : Gt) (ρ : Rho) (i v : Nat) : Out :=
  match ρ[v]? with
  | some (.own xs) => if PV.lfs xs = true then .nx (ρ.set i (.fz (.lst true xs))) else .no
  | _ => (eE G ρ (.bi .list (.cons (.var v) .nil))).out fun p => .nx (ρ.set i (.fz p))
/-- the slot of which a term makes such a list -/
def cpyOf (M : List Nat) (i : Nat) : E → Option Nat
  | .bi .list (.cons (.var v) .nil) => if (M.contains v && !M.contains i) = true then some v else none
  | _ => none
def noNx : Out → Out
  | .nx _ => .no
  | o => o
/-- a list of lists of whole numbers, which may be made longer by z -/
def DigOk (G : Gt) (ρ0 : Rho) (i w : Nat) (f : List Nat) (c : E) (z : Int) (p : PV) : Prop :=
  i ≠ w ∧ ∃ ls : List (List Int), p = .lst true (ls.map fun ns => .lst true (ns.map PV.int)) ∧ (∀ ns ∈ ls, ns.length + ls.length < sizeLine) ∧
    ∀ ns ∈ ls, ∀ k, eE G (frzA f ((ρ0.set i .no).set w (.own ((ns ++ List.replicate k z).map PV.int)))) c = .ok (.bl false)
/-- a call whose refusal by the one class is turned to another one -/
def trX (ρ : Rho) (c d : Str) : Rs PV → Out
  | .ok _ => .nx ρ
  | .err e => if e = c then .err d else .no
  | .no => .no
def argX (f : List PV → Out) : Rs (List PV) → Out
  | .ok ps => f ps
  | _ => .no
open Classical in
noncomputable def digIf (P : Prop) (o : Out) : Out := if P then o else .no
mutual
noncomputable def eS (G : Gt) (nm : Nm) (ρ : Rho) : S → Out
  | .asg f i e => (eE G (frzA f ρ) e).out fun p => .nx ((frzA f ρ).set i (.fz p))
  | .asgM f i e => (eE G (frzA f ρ) e).out fun p => .nx ((frzA f ρ).set i (ownOr e.mk p))
  | .asgT f tg e => (eE G (frzA f ρ) e).out fun p => (setT false tg p (frzA f ρ)).out fun ρ1 => .nx ρ1
  | .setI f v i e => (ownV (frzA f ρ) v).out fun xs => (eE G (frzA f ρ) e).out fun p => (eE G (frzA f ρ) i).out fun q => (setIV xs p q).out fun ys => .nx ((frzA f ρ).set v (.own ys))
  | .app f v e => (ownV (frzA f ρ) v).out fun xs => (eE G (frzA f ρ) e).out fun p => if xs.length < sizeLine then .nx ((frzA f ρ).set v (.own (xs ++ [p]))) else .no
  | .ext f v e => (ownV (frzA f ρ) v).out fun xs => (eE G (frzA f ρ) e).out fun p => (lstV p).out fun zs => if xs.length + zs.length ≤ sizeLine then .nx ((frzA f ρ).set v (.own (xs ++ zs))) else .no
  | .rev v => (ownV ρ v).out fun xs => .nx (ρ.set v (.own xs.reverse))
  | .clr v => (ownV ρ v).out fun _ => .nx (ρ.set v (.own []))
  | .ex f e => (eE G (frzA f ρ) e).out fun _ => .nx (frzA f ρ)
  | .ret f e => (eE G (frzA f ρ) e).out .ret
  | .iff f c a b => (eE G (frzA f ρ) c).out fun p => (boolV p).out fun k => if k then eSs G nm ρ a else eSs G nm ρ b
  | .whl f c b => whileR (fun ρ => (eE G ρ c).bind boolV) (fun ρ => eSs G nm ρ b) (frzA f) ρ
  | .for f tg single it b => (eI G (frzA f ρ) it).out fun xs => forL (setT single tg) (fun ρ => eSs G nm ρ b) xs (frzA f ρ)
  | .rse c => .err c
  | .tryN b wrap => catchN nm wrap (eSs G nm ρ b)
  | .tryX f g es c d => argX (fun ps => trX (frzA f ρ) c d (G g ps)) (eEs G (frzA f ρ) es)
  | .cpy i v => cpyS G ρ i v
  | .dig f i g es t => (eEs G (frzA f ρ) es).out fun ps => (G g ps).out fun p => eDg G nm (frzA f ρ) i p t
  | .nev => .no
noncomputable def eSs (G : Gt) (nm : Nm) (ρ : Rho) : Ss → Out
  | .nil => .nx ρ
  | .cons s r => (eS G nm ρ s).seq fun ρ1 => eSs G nm ρ1 r
noncomputable def eDg (G : Gt) (nm : Nm) (ρ : Rho) (i : Nat) (p : PV) : Dg → Out
  | .chk f c a t => (eE G (frzA f (ρ.set i (.fz p))) c).out fun q => (boolV q).out fun k => if k then noNx (eSs G nm (ρ.set i (.fz p)) a) else eDg G nm ρ i p t
  | .fin w f c a z rest => digIf (DigOk G ρ i w f c z p) (eSs G nm ((ρ.set i .no).set w .no) rest)
end
theorem whileF_more {t : Rho → Rs Bool} {b : Rho → Out} {pre : Rho → Rho} : ∀ {n m : Nat} {ρ : Rho}, n ≤ m → whileF t b pre n ρ ≠ .no → whileF t b pre m ρ = whileF t b pre n ρ
  | 0, _, _, _, h => absurd rfl h
  | n + 1, 0, _, h, _ => absurd h (Nat.not_succ_le_zero _)
  | n + 1, m + 1, ρ, h, hn => by
    unfold whileF at hn ⊢
    cases ht : t (pre ρ) with
    | ok k =>
      rw [ht] at hn
      simp only [Rs.ok_out] at hn ⊢
      cases k with
      | true =>
        simp only [if_true] at hn ⊢
        cases hb : b (pre ρ) with
        | nx ρ1 =>
          rw [hb] at hn
          simp only [Out.nx_seq] at hn ⊢
          exact whileF_more (Nat.le_of_succ_le_succ h) hn
        | _ => rfl
      | false => rfl
    | _ => rfl
/-- the loop's worth, by any number of turns that is enough -/
theorem whileR_eq {t : Rho → Rs Bool} {b : Rho → Out} {pre : Rho → Rho} {n : Nat} {ρ : Rho} {o : Out} (h : whileF t b pre n ρ = o) (ho : o ≠ .no) : whileR t b pre ρ = o := by
  have ex : ∃ n, whileF t b pre n ρ ≠ .no := ⟨n, by rw [h]; exact ho⟩
  unfold whileR
  rw [dif_pos ex]
  have hc := Classical.choose_spec ex
  rcases Nat.le_total n (Classical.choose ex) with q | q
  · rw [whileF_more q (by rw [h]; exact ho), h]
  · rw [← whileF_more q hc, h]
theorem whileR_ex {t : Rho → Rs Bool} {b : Rho → Out} {pre : Rho → Rho} {ρ : Rho} (h : whileR t b pre ρ ≠ .no) : ∃ n, whileF t b pre n ρ = whileR t b pre ρ := by
  unfold whileR at h ⊢
  split at h
  · rename_i ex
    exact ⟨_, by rw [dif_pos ex]⟩
  · exact absurd rfl h

/-! ### the program's defs -/
structure FI where
  np : Nat
  nv : Nat
  body : Ss
def startR (nv : Nat) (ps : List PV) : Rho := ps.map Sl.fz ++ List.replicate (nv - ps.length) .no
noncomputable def runF (G : Gt) (nm : Nm) (fi : FI) (ps : List PV) : Rs PV :=
  if ps.length = fi.np then
    match eSs G nm (startR fi.nv (PV.olds ps)) fi.body with
    | .nx _ => .ok .non
    | .ret p => .ok p
    | .err c => .err c
    | .no => .no
  else .no
def nmAt (nm : Nm) : Nat → Nm
  | 0, _ => .no
  | _ + 1, c => nm c
noncomputable def callF (B : Str → Option FI) (nm : Nm) : Nat → Gt
  | 0, _, _ => .no
  | k + 1, f, ps => match B f with
    | some fi => runF (callF B nm k) (nmAt nm k) fi ps
    | none => .no

/-! ### from the text -/
mutual
/-- the slots that a term reads as a whole -/
def E.fv : E → List Nat
  | .var i => [i]
  | .op _ a b => a.fv ++ b.fv
  | .neg a => a.fv
  | .not a => a.fv
  | .cmp _ a b => a.fv ++ b.fv
  | .chain _ _ a b c => a.fv ++ b.fv ++ c.fv
  | .isN _ a => a.fv
  | .and a b => a.fv ++ b.fv
  | .or a b => a.fv ++ b.fv
  | .ix a b => a.fv ++ b.fv
  | .ixv _ b => b.fv
  | .slLo a b => a.fv ++ b.fv
  | .slHi a b => a.fv ++ b.fv
  | .slLoV _ b => b.fv
  | .slHiV _ b => b.fv
  | .rvL a => a.fv
  | .joinE a b => a.fv ++ b.fv
  | .splitE a b => a.fv ++ b.fv
  | .lst es => es.fv
  | .tup es => es.fv
  | .bi _ es => es.fv
  | .isi a _ => a.fv
  | .call _ es => es.fv
  | .comp _ _ _ it e => it.fv ++ e.fv
  | .compIf _ _ _ it c e => it.fv ++ c.fv ++ e.fv
  | _ => []
def Es.fv : Es → List Nat
  | .nil => []
  | .cons e es => e.fv ++ es.fv
def It.fv : It → List Nat
  | .val e => e.fv
  | .rng1 e => e.fv
  | .rng2 a b => a.fv ++ b.fv
  | .zip a b => a.fv ++ b.fv
  | .enum a => a.fv
end
def dedup : List Nat → List Nat
  | [] => []
  | x :: r => if (dedup r).contains x then dedup r else x :: dedup r
def fzOf (M : List Nat) (l : List Nat) : List Nat := dedup (l.filter fun i => M.contains i)
def methE (x : Expr) : Option (Str × Str × Pos × List Expr × Pos) :=
  match x with
  | .Call (.Attribute (.Name x _) m ap) args [] cpos => some (x, m, ap, args, cpos)
  | _ => none
mutual
/-- the names that a def's body changes in place -/
def mutS : Nat → Stmt → List Str
  | 0, _ => []
  | n + 1, st => match st with
    | .Expr e _ => match methE e with
      | some (x, _) => [x]
      | none => []
    | .Assign [.Subscript (.Name x _) _ _] _ _ => [x]
    | .If _ a b _ => mutSs n a ++ mutSs n b
    | .While _ a _ _ => mutSs n a
    | .For _ _ a _ _ => mutSs n a
    | .Try a _ _ _ _ => mutSs n a
    | _ => []
def mutSs : Nat → List Stmt → List Str
  | 0, _ => []
  | n + 1, l => match l with
    | [] => []
    | s :: r => mutS n s ++ mutSs n r
end
def slotsOf (N : List Str) : List Str → List Nat
  | [] => []
  | x :: r => match ixOf x N 0 with
    | some i => i :: slotsOf N r
    | none => slotsOf N r
/-- a list that is made for a name on its own line -/
def lcSwap (sc : Scope) (x : Str) (px : Pos) : Expr → Option Bool
  | .ListComp _ _ scope lp =>
    if sc.names.lookup x = some .local then
      if (px.line == lp.line) = true ∧ (scope.names.any fun (n, k) => n == x && (k == .local || k == .cell)) = false then some true else none
    else some false
  | _ => some false
def notComp : Expr → Bool
  | .ListComp _ _ _ _ => false
  | .Tuple _ _ _ => false
  | _ => true
/-- a quick look whether the loop that changes lists within comes -/
def digLook (x : Str) : List Stmt → Bool
  | .If _ _ _ _ :: r => digLook x r
  | .For _ (.Name x1 _) _ _ _ :: .Expr (.Call (.Attribute (.Name x2 _) m _) _ _ _) _ :: _ => x1 == x && x2 == x && m == "clear"
  | _ => false
mutual
def cS (cp : CP) (M : List Nat) : Nat → Scope → Stmt → Option S
  | 0, _, _ => none
  | n + 1, sc, st => match st with
    | .Return v _ => match v with
      | some e => (cE cp n sc e).map fun c => .ret (fzOf M c.fv) c
      | none => none
    | .Expr e _ => match methE e with
      | some (x, m, ap, args, cpos) =>
        if (ap.endLine == cpos.line) = true then
          match nameV cp sc x, args with
          | some v, [a] => match cE cp n sc a with
            | some a => if m = "append" then some (.app (fzOf M a.fv) v a) else if m = "extend" then some (.ext (fzOf M a.fv) v a) else none
            | none => none
          | some v, [] => if m = "reverse" then some (.rev v) else if m = "clear" then some (.clr v) else none
          | _, _ => none
        else none
      | none => if notComp e = true then (cE cp n sc e).map fun c => .ex (fzOf M c.fv) c else none
    | .Assign ts e _ => match ts with
      | [.Name x px] => match tgt1 cp sc sc (.Name x px), cE cp n sc e, lcSwap sc x px e with
        | some i, some c, some _ => match cpyOf M i c with
          | some v => some (.cpy i v)
          | none => some (if M.contains i = true then .asgM (fzOf M c.fv) i c else .asg (fzOf M c.fv) i c)
        | _, _, _ => none
      | [.Tuple es k p] => match tgts cp sc sc es, cE cp n sc e with
        | some is, some c => if notComp e = true then some (.asgT (fzOf M c.fv) is c) else none
        | _, _ => none
      | [.Subscript (.Name x _) i _] => match nameV cp sc x, cE cp n sc i, cE cp n sc e with
        | some v, some i, some c => some (.setI (fzOf M (c.fv ++ i.fv)) v i c)
        | _, _, _ => none
      | _ => none
    | .If c a b _ => match cE cp n sc c, cSs cp M n sc a, cSs cp M n sc b with
      | some c, some a, some b => some (.iff (fzOf M c.fv) c a b)
      | _, _, _ => none
    | .While c b els _ => match els with
      | [] => match cE cp n sc c, cSs cp M n sc b with
        | some c, some b => some (.whl (fzOf M c.fv) c b)
        | _, _ => none
      | _ => none
    | .For tg it b els _ => match els with
      | [] => match tgt cp sc sc tg, cI cp n sc (isTup tg) it, cSs cp M n sc b with
        | some (single, is), some it, some b => some (.for (fzOf M it.fv) is single it b)
        | _, _, _ => none
      | _ => none
    | .Raise (some (.Call (.Name x _) [.Constant (.str _) _ _] [] _)) none _ => if cp.cl.contains x = true ∧ globB sc x = true ∧ plainB x = true then some (.rse x) else none
    | .Try b [.ExceptHandler (some (.Name c _)) (some x) [.Return (some h) _] _] [] [] _ =>
      if cp.tr = true ∧ c = "GridError" ∧ plainB x = true ∧ globB sc c = true ∧ globB sc "_law_names" = true ∧ sc.names.lookup x = some .local then
        match ixOf x cp.N 0, cSs cp M n sc b with
        | some _, some b => match h with
          | .Call (.Name y _) [.Name x' _] [] _ => if y = "_law_names" ∧ x' = x then some (.tryN b false) else none
          | .List [.Call (.Name y _) [.Name x' _] [] _] _ => if y = "_law_names" ∧ x' = x then some (.tryN b true) else none
          | _ => none
        | _, _ => none
      else none
    | .Try [.Expr (.Call (.Name g _) (a :: as) [] _) _] [.ExceptHandler (some (.Name c _)) none [.Raise (some (.Call (.Name d _) [.Constant (.str _) _ _] [] _)) none _] _] [] [] _ =>
      if cp.hx.contains g = true ∧ globB sc g = true ∧ plainB g = true ∧ cp.cl.contains c = true ∧ globB sc c = true ∧ plainB c = true ∧ cp.cl.contains d = true ∧ globB sc d = true ∧ plainB d = true then
        (cEs cp n sc (a :: as)).map fun es => .tryX (fzOf M es.fv) g es c d
      else none
    | _ => none
def cSs (cp : CP) (M : List Nat) : Nat → Scope → List Stmt → Option Ss
  | 0, _, _ => none
  | n + 1, sc, l => match l with
    | [] => some .nil
    | s :: r => match cDs cp M n sc s r with
      | some d => some (.cons d .nil)
      | none => match cSs cp M n sc r with
        | some r' => some (.cons ((cS cp M n sc s).getD .nev) r')
        | none => none
def cDs (cp : CP) (M : List Nat) : Nat → Scope → Stmt → List Stmt → Option S
  | 0, _, _, _ => none
  | n + 1, sc, s, r => match s with
    | .Assign [.Name x px] (.Call (.Name g _) (a :: as) [] _) _ =>
      if digLook x r = true ∧ globB sc g = true ∧ plainB g = true ∧ cp.ns.contains g = true then
        match tgt1 cp sc sc (.Name x px), cEs cp n sc (a :: as), cDg cp M n sc x r with
        | some i, some es, some t => some (.dig (fzOf M es.fv) i g es t)
        | _, _, _ => none
      else none
    | _ => none
def cDg (cp : CP) (M : List Nat) : Nat → Scope → Str → List Stmt → Option Dg
  | 0, _, _, _ => none
  | n + 1, sc, x, l => match l with
    | .If c a [] _ :: r => match cE cp n sc c, cSs cp M n sc a, cDg cp M n sc x r with
      | some c, some a, some t => some (.chk (fzOf M c.fv) c a t)
      | _, _, _ => none
    | .For (.Name y py) (.Name x1 _) [.If c a [] _, .Expr (.Call (.Attribute (.Name y1 _) m1 ap1) [.Constant (.int z) _ _] [] cp1) _] [] _ :: .Expr (.Call (.Attribute (.Name x2 _) m2 ap2) [] [] cp2) _ :: rest =>
      if x1 = x ∧ x2 = x ∧ y1 = y ∧ m1 = "append" ∧ m2 = "clear" ∧ (ap1.endLine == cp1.line) = true ∧ (ap2.endLine == cp2.line) = true then
        match tgt1 cp sc sc (.Name y py), nameV cp sc y, nameV cp sc x, cE cp n sc c, cSs cp M n sc a, cSs cp M n sc rest with
        | some w, some _, some _, some c, some a, some rest => some (.fin w (fzOf M c.fv) c a z rest)
        | _, _, _, _, _, _ => none
      else none
    | _ => none
end
/-- a def's names: its parameters, then the others -/
def namesOf (ps : List Str) (sc : Scope) : List Str := ps ++ (sc.names.filter fun y => (decide (y.2 = .local) || decide (y.2 = .cell)) && !ps.contains y.1).map (·.1)
end SG

namespace SG
open PySem PySem.Spec PyProof.Rows L2

/-! ### the state between two statements: f the floor, Se and H0 the entry -/
structure StR (K : PySem.W.Frag) (H0 Se f : Hp) (nv : Nat) (ρ : Rho) (σ : L2.St) (H : Hp) : Prop where
  ex : ∃ S, EnvR K H0 S H ρ σ ∧ Ext Se H0 S H ∧ Same f S
  nv : σ.length = nv
section
variable {K : PySem.W.Frag} {H0 Se f f' S H S' H' : Hp} {nv : Nat} {ρ : Rho} {σ : L2.St}
theorem StR.floor (r : StR K H0 Se f nv ρ σ H) (h : Same f' f) : StR K H0 Se f' nv ρ σ H :=
  let ⟨S, a, b, c⟩ := r.ex
  ⟨⟨S, a, b, h.trans c⟩, r.nv⟩
/-- an owned list is given up: no one changes it from here on -/
theorem EnvR.frz_own (r : EnvR K H0 S H ρ σ) (x : Ext Se H0 S H) (i : Nat) {xs : List PV} {a : Addr} {vs : List V} (h : ρ[i]? = some (.own xs)) (h1 : σ[i]? = some (some (.ref a))) (h2 : H a = some (.lst vs)) (h3 : S a = none) (h4 : H0 a = none) (h5 : RpA K H0 S xs vs) :
    EnvR K H0 (upd S a (.lst vs)) H (ρ.set i (.fz (.lst true xs))) σ ∧ Ext Se H0 (upd S a (.lst vs)) H := by
  have up : Same S (upd S a (.lst vs)) := same_upd h3
  refine ⟨⟨r.h0, fun b o q => ?_, by rw [List.length_set, r.len], fun j p q => ?_, fun j ys q => ?_, fun j k ys zs b q1 q2 q3 q4 => ?_⟩, ⟨x.st.trans up, fun b o q => ?_, fun b o q1 q2 => ?_⟩⟩
  · by_cases hb : b = a
    · subst hb; rw [L2.upd_same] at q; rw [h2]; exact q
    · rw [upd_ne hb] at q; exact r.hs _ _ q
  · rcases get_set q with ⟨q1, q2⟩ | ⟨q1, q2⟩
    · subst q1
      injection q2 with q2
      subst q2
      refine ⟨.ref a, h1, ?_⟩
      rw [Rp]
      exact ⟨a, vs, rfl, L2.upd_same, fun _ => h4, h5.mono up⟩
    · obtain ⟨v, q3, q4⟩ := r.fz j p q2
      exact ⟨v, q3, q4.mono up⟩
  · rcases get_set q with ⟨q1, q2⟩ | ⟨q1, q2⟩
    · cases q2
    · obtain ⟨b, ws, q3, q4, q5, q6, q7⟩ := r.own j ys q2
      have ne : b ≠ a := fun z => q1 (r.apart j i ys xs a q2 h (by rw [q3, z]) h1)
      exact ⟨b, ws, q3, q4, by rw [upd_ne ne]; exact q5, q6, q7.mono up⟩
  · rcases get_set q1 with ⟨z1, z2⟩ | ⟨z1, z2⟩
    · cases z2
    · rcases get_set q2 with ⟨z3, z4⟩ | ⟨z3, z4⟩
      · cases z4
      · exact r.apart j k ys zs b z2 z4 q3 q4
  · by_cases hb : b = a
    · subst hb; rw [L2.upd_same] at q; rw [h2]; exact q
    · rw [upd_ne hb] at q; exact x.in' _ _ q
  · have ne : b ≠ a := fun z => by rw [z, h4] at q1; cases q1
    rw [upd_ne ne]
    exact x.ls b o q1 q2
theorem EnvR.frz (r : EnvR K H0 S H ρ σ) (x : Ext Se H0 S H) (i : Nat) : ∃ S', EnvR K H0 S' H (frzI i ρ) σ ∧ Ext Se H0 S' H ∧ Same S S' := by
  unfold frzI
  cases h : ρ[i]? with
  | none => exact ⟨S, r, x, Same.refl _⟩
  | some s =>
    cases s with
    | no => exact ⟨S, r, x, Same.refl _⟩
    | fz p => exact ⟨S, r, x, Same.refl _⟩
    | own xs =>
      obtain ⟨a, vs, h1, h2, h3, h4, h5⟩ := r.own i xs h
      obtain ⟨k1, k2⟩ := r.frz_own x i h h1 h2 h3 h4 h5
      exact ⟨_, k1, k2, same_upd h3⟩
/-- the same as before, in a later heap -/
theorem EnvR.thaw (r : EnvR K H0 S H ρ σ) (x : Ext Se H0 S H) (h : Same H H') : EnvR K H0 S H' ρ σ ∧ Ext Se H0 S H' :=
  ⟨⟨r.h0.trans h, r.hs.trans h, r.len, r.fz, fun i xs q => let ⟨a, vs, h1, h2, h3, h4, h5⟩ := r.own i xs q; ⟨a, vs, h1, h _ _ h2, h3, h4, h5⟩, r.apart⟩,
    ⟨x.st, x.in'.trans h, fun a o q1 q2 => let ⟨z1, z2⟩ := x.ls a o q1 q2; ⟨h _ _ z1, z2⟩⟩⟩
theorem EnvR.frzA (x : Ext Se H0 S H) (r : EnvR K H0 S H ρ σ) : ∀ (l : List Nat), ∃ S', EnvR K H0 S' H (frzA l ρ) σ ∧ Ext Se H0 S' H ∧ Same S S' := by
  intro l
  induction l generalizing S ρ with
  | nil => exact ⟨S, r, x, Same.refl _⟩
  | cons i l ih =>
    obtain ⟨S1, r1, x1, s1⟩ := r.frz x i
    obtain ⟨S2, r2, x2, s2⟩ := ih x1 r1
    exact ⟨S2, r2, x2, s1.trans s2⟩
/-- the value of a new list, owned from here on -/
theorem EnvR.setOwn {xs : List PV} {v : V} (r : EnvR K H0 S H ρ σ) (x : Ext Se H0 S H) (x1 : Ext S H S' H') (i : Nat) (l : PV.lfs xs = true) (rp : Rp K H0 S' (.lst true xs) v) (nw : ∃ a, v = .ref a ∧ H a = none) :
    ∃ S2, EnvR K H0 S2 H' (ρ.set i (.own xs)) (σ.set i (some v)) ∧ Ext Se H0 S2 H' ∧ Same S S2 := by
  obtain ⟨a, rfl, na⟩ := nw
  rw [Rp] at rp
  obtain ⟨a', vs, ea, qa, ya, za⟩ := rp
  injection ea with ea
  subst ea
  have nS : S a = none := r.hs.free na
  have n0 : H0 a = none := r.h0.free na
  have sS : Same S (rmv S' a) := fun b o q => by
    have ne : b ≠ a := ne_of_none q nS
    rw [rmv_ne ne]; exact x1.st _ _ q
  have xx := x.trans x1
  refine ⟨rmv S' a, ⟨r.h0.trans (x1.same r.hs), fun b o q => x1.in' _ _ (rmv_same _ _ q), by rw [List.length_set, List.length_set, r.len], fun j p q => ?_, fun j ys q => ?_, fun j k ys zs b q1 q2 q3 q4 => ?_⟩, ⟨fun b o q => ?_, fun b o q => x1.in' _ _ (rmv_same _ _ q), fun b o q1 q2 => ?_⟩, sS⟩
  · rcases get_set q with ⟨z1, z2⟩ | ⟨z1, z2⟩
    · cases z2
    · obtain ⟨w, q1, q2⟩ := r.fz j p z2
      exact ⟨w, by rw [List.getElem?_set_ne (Ne.symm z1)]; exact q1, q2.mono sS⟩
  · have hl : j < ρ.length := by
      obtain ⟨z, _⟩ := List.getElem?_eq_some_iff.mp q
      rw [List.length_set] at z; exact z
    rcases get_set q with ⟨z1, z2⟩ | ⟨z1, z2⟩
    · subst z1
      injection z2 with z2
      subst z2
      exact ⟨a, vs, by rw [List.getElem?_set_self (by rw [← r.len]; exact hl)], x1.in' _ _ qa, rmv_self, n0, RpA.out qa l za⟩
    · obtain ⟨b, ws, q3, q4, q5, q6, q7⟩ := r.own j ys z2
      obtain ⟨q8, q9⟩ := x1.ls b _ q4 q5
      have ne : b ≠ a := ne_of_none q4 na
      exact ⟨b, ws, by rw [List.getElem?_set_ne (Ne.symm z1)]; exact q3, q8, by rw [rmv_ne ne]; exact q9, q6, q7.mono sS⟩
  · have key : ∀ (j : Nat) (ys : List PV), j ≠ i → ρ[j]? = some (.own ys) → σ[j]? ≠ some (some (.ref a)) := fun j ys z1 z2 z3 => by
      obtain ⟨c, ws, q3, q4, _⟩ := r.own j ys z2
      rw [q3] at z3
      injection z3 with z3
      injection z3 with z3
      injection z3 with z3
      rw [z3, na] at q4; cases q4
    have hs : ∀ (j : Nat) (ys : List PV), (ρ.set i (.own xs))[j]? = some (.own ys) → j = i → (σ.set i (some (.ref a)))[j]? = some (some (.ref b)) → b = a := fun j ys z1 z2 z3 => by
      subst z2
      have hl : j < σ.length := by
        obtain ⟨z, _⟩ := List.getElem?_eq_some_iff.mp z3
        rw [List.length_set] at z; exact z
      rw [List.getElem?_set_self hl] at z3
      injection z3 with z3
      injection z3 with z3
      injection z3 with z3
      exact z3.symm
    by_cases hj : j = i
    · by_cases hk : k = i
      · rw [hj, hk]
      · have := hs j ys q1 hj q3
        subst this
        rcases get_set q2 with ⟨z3, _⟩ | ⟨z3, z4⟩
        · exact absurd z3 hk
        · rw [List.getElem?_set_ne (Ne.symm z3)] at q4
          exact absurd q4 (key k zs hk z4)
    · by_cases hk : k = i
      · have := hs k zs q2 hk q4
        subst this
        rcases get_set q1 with ⟨z3, _⟩ | ⟨z3, z4⟩
        · exact absurd z3 hj
        · rw [List.getElem?_set_ne (Ne.symm z3)] at q3
          exact absurd q3 (key j ys hj z4)
      · rcases get_set q1 with ⟨z3, _⟩ | ⟨z3, z4⟩
        · exact absurd z3 hj
        · rcases get_set q2 with ⟨z5, _⟩ | ⟨z5, z6⟩
          · exact absurd z5 hk
          · rw [List.getElem?_set_ne (Ne.symm z3)] at q3
            rw [List.getElem?_set_ne (Ne.symm z5)] at q4
            exact r.apart j k ys zs b z4 z6 q3 q4
  · have ne : b ≠ a := fun z => by rw [z] at q; rw [x.st _ _ q] at nS; cases nS
    rw [rmv_ne ne]; exact xx.st _ _ q
  · have ne : b ≠ a := ne_of_none q1 n0
    obtain ⟨z1, z2⟩ := xx.ls b o q1 q2
    exact ⟨z1, by rw [rmv_ne ne]; exact z2⟩
/-- an owned list is changed -/
theorem EnvR.change {xs ys : List PV} {ws : List V} {a : Addr} (r : EnvR K H0 S H ρ σ) (x : Ext Se H0 S H) (i : Nat) (ho : ρ[i]? = some (.own xs)) (hi : σ[i]? = some (some (.ref a))) (sa : S a = none) (n0 : H0 a = none) (ra : RpA K H0 S ys ws) :
    EnvR K H0 S (upd H a (.lst ws)) (ρ.set i (.own ys)) σ ∧ Ext Se H0 S (upd H a (.lst ws)) := by
  have hin : Same S (upd H a (.lst ws)) := fun b o q => by
    have ne : b ≠ a := ne_of_none q sa
    rw [upd_ne ne]; exact r.hs _ _ q
  have h0' : Same H0 (upd H a (.lst ws)) := fun b o q => by
    have ne : b ≠ a := ne_of_none q n0
    rw [upd_ne ne]; exact r.h0 _ _ q
  refine ⟨⟨h0', hin, by rw [List.length_set, r.len], fun j p q => ?_, fun j zs q => ?_, fun j k zs us b q1 q2 q3 q4 => ?_⟩, ⟨x.st, hin, fun b o q1 q2 => ?_⟩⟩
  · rcases get_set q with ⟨z1, z2⟩ | ⟨z1, z2⟩
    · cases z2
    · exact r.fz j p z2
  · rcases get_set q with ⟨z1, z2⟩ | ⟨z1, z2⟩
    · subst z1
      injection z2 with z2
      subst z2
      exact ⟨a, ws, hi, L2.upd_same, sa, n0, ra⟩
    · obtain ⟨b, us, q3, q4, q5, q6, q7⟩ := r.own j zs z2
      have ne : b ≠ a := fun z => z1 (r.apart j i zs xs a z2 ho (by rw [q3, z]) hi)
      exact ⟨b, us, q3, by rw [upd_ne ne]; exact q4, q5, q6, q7⟩
  · have g : ∀ (j : Nat) (zs : List PV), (ρ.set i (.own ys))[j]? = some (.own zs) → ∃ zs', ρ[j]? = some (.own zs') := fun j zs q => by
      rcases get_set q with ⟨z1, z2⟩ | ⟨z1, z2⟩
      · exact ⟨xs, by rw [z1]; exact ho⟩
      · exact ⟨zs, z2⟩
    obtain ⟨z1, w1⟩ := g j zs q1
    obtain ⟨z2, w2⟩ := g k us q2
    exact r.apart j k z1 z2 b w1 w2 q3 q4
  · have ne : b ≠ a := ne_of_none q1 n0
    rw [upd_ne ne]
    exact x.ls b o q1 q2
end

/-! ### what is known of a statement's run -/
section
variable (G : Gt) (nm : Nm) (K : PySem.W.Frag) (mg : Str → Option Value) (H0 Se : Hp) (nv : Nat) (W : WX)
def AftS (f : Hp) (D : Ends) (o : Out) : Prop :=
  match o with
  | .nx ρ => ∀ σ H, StR K H0 Se f nv ρ σ H → D.nx σ H
  | .ret p => ∀ v H S, Ext Se H0 S H → Rp K H0 S p v → D.rt v H
  | .err C => ∀ a, mg C = some (.ref a) → ∀ σ H, σ.length = nv → Same H0 H → W (.ref a) none σ H
  | .no => False
def spS (s : S) : TS := fun D σ H => ∃ ρ f, StR K H0 Se f nv ρ σ H ∧ AftS K mg H0 Se nv W f D (eS G nm ρ s)
def spSs (s : Ss) : TS := fun D σ H => ∃ ρ f, StR K H0 Se f nv ρ σ H ∧ AftS K mg H0 Se nv W f D (eSs G nm ρ s)
end
section
variable {K : PySem.W.Frag} {mg : Str → Option Value} {H0 Se f f' : Hp} {nv : Nat} {W : WX} {D : Ends} {o : Out}
theorem AftS.floor (h : AftS K mg H0 Se nv W f D o) (s : Same f f') : AftS K mg H0 Se nv W f' D o := by
  cases o with
  | nx ρ => exact fun σ H r => h σ H (r.floor s)
  | ret p => exact h
  | err C => exact h
  | no => exact h
theorem AftS.nx_of {ρ : Rho} {σ : L2.St} {H : Hp} (h : AftS K mg H0 Se nv W f D (.nx ρ)) (r : StR K H0 Se f nv ρ σ H) : D.nx σ H := h σ H r
theorem AftS.ne (h : AftS K mg H0 Se nv W f D o) : o ≠ .no := fun z => by subst z; exact h
/-- the term of a statement, then the rest -/
theorem st_term {α : Type} {r : Rs α} {k : α → Out} {σ : L2.St} {H : Hp} (hn : σ.length = nv) (h0 : Same H0 H) (h : AftS K mg H0 Se nv W f D (r.out k)) : Aft mg W σ H r fun a => AftS K mg H0 Se nv W f D (k a) := by
  cases r with
  | ok a => exact h
  | err C => exact fun a ma H' s => h a ma σ H' hn (h0.trans s)
  | no => exact h
end
end SG

namespace SG
open PySem PySem.Spec PyProof.Rows L2
theorem raiseB {md : Bool} {X : Cx} {W : WX} {e : Expr} {t : L2.St → Hp → XK → Prop} {pos : Pos} (hc : X.calm = true) (tk : TakesB md X W) (mk1 : md = false → PMk X e t) (mk2 : md = true → L2N.PMk X e t) : PS X (.Raise (some e) none pos) (fun _ σ H => t σ H fun cls d H' => W cls d σ H') := by
  cases md
  · exact ps_raise hc (show Takes X W from tk) (mk1 rfl)
  · exact L2N.ps_raise hc (show L2N.Takes X W from tk) (mk2 rfl)

theorem ps_imp {X : Cx} {s : Stmt} {t t' : TS} (h : PS X s t) (k : ∀ D σ H, t' D σ H → t D σ H) : PS X s t' := ⟨fun pins s σ H D I q => h.run pins s σ H D I (k _ _ _ q)⟩
theorem pss_imp {X : Cx} {s : List Stmt} {t t' : TS} (h : PSs X s t) (k : ∀ D σ H, t' D σ H → t D σ H) : PSs X s t' := ⟨fun pins s σ H D I q => h.run pins s σ H D I (k _ _ _ q)⟩

/-- what is known of an error class of the text -/
def ClsF (K : PySem.W.Frag) (mg : Str → Option Value) (C : Str) : Prop :=
  ∃ a bmB, mg C = some (.ref a) ∧ ExcBaseFacts "ValueError" "ValueError.__new__" "ValueError.__init__" bmB ∧ PySem.W.excIn K a bmB "ValueError.__new__" = true ∧ PySem.W.keepIn K (.ref a) = true ∧
    PySem.W.subIn K (.ref a) (.type "BaseException") = some true ∧ PySem.W.typeIn K (.ref a) = some (.type "type")
structure SOk (cp : CP) (G : Gt) (lv : Nat) (H0 : Hp) (X : Cx) (sc : Scope) (W : WX) : Prop where
  x : XOk cp G lv H0 X sc W
  kind : sc.kind = .function
  fn : ∀ y, X.fn y = true
  takes : TakesB cp.md X W
  passes : PassesOwn (model X.prog X.w) X.A X.env X.xe
  passH : cp.hx ≠ [] → ∀ hd : Option Value, PassesOwnAt (model X.prog X.w) (X.A.mark hd) X.A X.env X.xe
  stk : X.stack = X.env :: X.outer
  frame : X.env.frame = some X.env.locals
  cls : ∀ C, cp.cl.contains C = true → ClsF X.K X.mg C
theorem SOk.fn' {cp : CP} {G : Gt} {lv : Nat} {H0 : Hp} {X : Cx} {sc : Scope} {W : WX} (o : SOk cp G lv H0 X sc W) : FnOk' X sc sc := fun x _ => .inl (o.fn x)

section
variable {cp : CP} {G : Gt} {nm : Nm} {lv : Nat} {H0 Se : Hp} {X : Cx} {sc : Scope} {W : WX}
/-- the first term of a statement -/
theorem st_go {K : PySem.W.Frag} {mg : Str → Option Value} {nv : Nat} {fl H : Hp} {f : List Nat} {ρ : Rho} {σ : L2.St} {e : E} {k : PV → Out} {D : Ends} {Q : VK} (r : StR K H0 Se fl nv ρ σ H) (h : AftS K mg H0 Se nv W fl D ((eE G (frzA f ρ) e).out k))
    (hk : ∀ p S1 S' v H', EnvR K H0 S1 H (frzA f ρ) σ → Ext Se H0 S1 H → Same fl S1 → Ext S1 H S' H' → Rp K H0 S' p v → (e.mk = true → Nw H v p) → AftS K mg H0 Se nv W fl D (k p) → Q v H') : spE G K mg H0 W e σ H Q := by
  obtain ⟨S, r0, x0, s0⟩ := r.ex
  obtain ⟨S1, r1, x1, s1⟩ := EnvR.frzA x0 r0 f
  exact ⟨frzA f ρ, S1, r1, (st_term r.nv r1.h0 h).mono (Same.refl _) fun p _ q v H' S' x2 rp nw => hk p S1 S' v H' r1 x1 (s0.trans s1) x2 rp nw q⟩
theorem s_asg {i : Nat} {e : E} {f : List Nat} {D : Ends} {σ : L2.St} {H : Hp} {K : PySem.W.Frag} {mg : Str → Option Value} {nv : Nat} (h : spS G nm K mg H0 Se nv W (.asg f i e) D σ H) : tAsg (spE G K mg H0 W e) (gName i) D σ H := by
  obtain ⟨ρ, fl, r, h⟩ := h
  unfold eS at h
  refine st_go r h fun p S1 S' v H' r1 x1 s1 x2 rp nw q => ?_
  exact q _ _ ⟨⟨S', (r1.ext x2).set i rp, x1.trans x2, s1.trans x2.st⟩, by rw [List.length_set]; exact r.nv⟩
theorem s_asgM {i : Nat} {e : E} {f : List Nat} {D : Ends} {σ : L2.St} {H : Hp} {K : PySem.W.Frag} {mg : Str → Option Value} {nv : Nat} (h : spS G nm K mg H0 Se nv W (.asgM f i e) D σ H) : tAsg (spE G K mg H0 W e) (gName i) D σ H := by
  obtain ⟨ρ, fl, r, h⟩ := h
  unfold eS at h
  refine st_go r h fun p S1 S' v H' r1 x1 s1 x2 rp nw q => ?_
  have plain : ownOr e.mk p = .fz p → gName i v σ H' D.nx := fun z => by
    rw [z] at q
    exact q _ _ ⟨⟨S', (r1.ext x2).set i rp, x1.trans x2, s1.trans x2.st⟩, by rw [List.length_set]; exact r.nv⟩
  cases p with
  | lst m xs =>
    cases m with
    | false => exact plain rfl
    | true =>
      cases hm : (e.mk && PV.lfs xs) with
      | false => exact plain (by unfold ownOr; dsimp only; rw [if_neg (by rw [hm]; exact Bool.false_ne_true)])
      | true =>
        have z : ownOr e.mk (.lst true xs) = .own xs := by unfold ownOr; dsimp only; rw [if_pos hm]
        rw [z] at q
        rw [Bool.and_eq_true] at hm
        obtain ⟨S2, r2, x3, s3⟩ := r1.setOwn x1 x2 i hm.2 rp (nw hm.1 xs rfl)
        exact q _ _ ⟨⟨S2, r2, x3, s1.trans s3⟩, by rw [List.length_set]; exact r.nv⟩
  | _ => exact plain rfl
theorem s_asgT {tg : List Nat} {e : E} {f : List Nat} {D : Ends} {σ : L2.St} {H : Hp} {K : PySem.W.Frag} {mg : Str → Option Value} {nv : Nat} (h : spS G nm K mg H0 Se nv W (.asgT f tg e) D σ H) : tAsg (spE G K mg H0 W e) (gTgt K false tg) D σ H := by
  obtain ⟨ρ, fl, r, h⟩ := h
  unfold eS at h
  refine st_go r h fun p S1 S' v H' r1 x1 s1 x2 rp nw q => ?_
  have r2 := r1.ext x2
  cases hT : setT false tg p (frzA f ρ) with
  | ok ρ1 =>
    rw [hT] at q
    have hlen : ρ1.length = (frzA f ρ).length := by
      rcases setT_seq hT with ⟨_, z, _⟩ | ⟨xs, _, _, e1, _⟩
      · cases z
      · subst e1
        have : ∀ (l : List (Nat × PV)) (ρ : Rho), (l.foldl (fun r p => r.set p.1 (.fz p.2)) ρ).length = ρ.length := by
          intro l
          induction l with
          | nil => intro ρ; rfl
          | cons a l ih => intro ρ; rw [List.foldl_cons, ih, List.length_set]
        exact this _ _
    refine tgt_ok r2 rp hT fun σ' r3 _ => ?_
    exact q _ _ ⟨⟨S', r3, x1.trans x2, s1.trans x2.st⟩, by rw [← r3.len, hlen, r2.len]; exact r.nv⟩
  | err C =>
    rcases setT_seq (single := false) (tg := tg) (p := p) (ρ := frzA f ρ) (ρ' := ρ) (by
      unfold setT at hT
      split at hT <;> cases hT) with ⟨_, z, _⟩ | ⟨xs, _, _, e1, _⟩
    · cases z
    · rw [hT] at q
      unfold setT at hT
      split at hT <;> cases hT
  | no => rw [hT] at q; exact q.elim
theorem s_ex {e : E} {f : List Nat} {D : Ends} {σ : L2.St} {H : Hp} {K : PySem.W.Frag} {mg : Str → Option Value} {nv : Nat} (h : spS G nm K mg H0 Se nv W (.ex f e) D σ H) : tDrop (spE G K mg H0 W e) D σ H := by
  obtain ⟨ρ, fl, r, h⟩ := h
  unfold eS at h
  refine st_go r h fun p S1 S' v H' r1 x1 s1 x2 rp nw q => ?_
  exact q _ _ ⟨⟨S', r1.ext x2, x1.trans x2, s1.trans x2.st⟩, r.nv⟩
theorem s_ret {e : E} {f : List Nat} {D : Ends} {σ : L2.St} {H : Hp} {K : PySem.W.Frag} {mg : Str → Option Value} {nv : Nat} (h : spS G nm K mg H0 Se nv W (.ret f e) D σ H) : tRet (spE G K mg H0 W e) D σ H := by
  obtain ⟨ρ, fl, r, h⟩ := h
  unfold eS at h
  refine st_go r h fun p S1 S' v H' r1 x1 s1 x2 rp nw q => ?_
  exact q _ _ _ (x1.trans x2) rp
theorem s_if {c : E} {a b : Ss} {f : List Nat} {D : Ends} {σ : L2.St} {H : Hp} {K : PySem.W.Frag} {mg : Str → Option Value} {nv : Nat} (h : spS G nm K mg H0 Se nv W (.iff f c a b) D σ H) :
    tIfS (spT G K mg H0 W c) (spSs G nm K mg H0 Se nv W a) (spSs G nm K mg H0 Se nv W b) D σ H := by
  obtain ⟨ρ, fl, r, h⟩ := h
  unfold eS at h
  obtain ⟨S, r0, x0, s0⟩ := r.ex
  obtain ⟨S1, r1, x1, s1⟩ := EnvR.frzA x0 r0 f
  refine ⟨frzA f ρ, S1, r1, (st_term r.nv r1.h0 h).mono (Same.refl _) fun p _ q => ?_⟩
  cases p with
  | bl k =>
    refine ⟨k, rfl, fun H' S' x2 => ?_⟩
    obtain ⟨r2, x3⟩ := r0.thaw x0 (x2.same r1.hs)
    have st : StR K H0 Se fl nv ρ σ H' := ⟨⟨S, r2, x3, s0⟩, r.nv⟩
    cases k with
    | true => exact L2.iteT ⟨_, fl, st, q⟩
    | false => exact L2.iteF ⟨_, fl, st, q⟩
  | _ => exact q.elim
theorem s_cpy {i v : Nat} {D : Ends} {σ : L2.St} {H : Hp} {K : PySem.W.Frag} {mg : Str → Option Value} {nv : Nat} (h : spS G nm K mg H0 Se nv W (.cpy i v) D σ H) : tAsg (spE G K mg H0 W (.bi .list (.cons (.var v) .nil))) (gName i) D σ H := by
  obtain ⟨ρ, fl, r, h⟩ := h
  unfold eS cpyS at h
  have other : AftS K mg H0 Se nv W fl D ((eE G ρ (.bi .list (.cons (.var v) .nil))).out fun p => .nx (ρ.set i (.fz p))) → tAsg (spE G K mg H0 W (.bi .list (.cons (.var v) .nil))) (gName i) D σ H := fun h => by
    refine st_go (f := []) r h fun p S1 S' v H' r1 x1 s1 x2 rp nw q => ?_
    exact q _ _ ⟨⟨S', (r1.ext x2).set i rp, x1.trans x2, s1.trans x2.st⟩, by rw [List.length_set]; exact r.nv⟩
  split at h
  · rename_i xs hv
    split at h
    · rename_i lf
      obtain ⟨S, r0, x0, s0⟩ := r.ex
      obtain ⟨a, vs, h1, h2, h3, h4, h5⟩ := r0.own v xs hv
      obtain ⟨r1, x1⟩ := r0.frz_own x0 v hv h1 h2 h3 h4 h5
      have hl : v < ρ.length := (List.getElem?_eq_some_iff.mp hv).1
      have ev : eE G (ρ.set v (.fz (.lst true xs))) (.bi .list (.cons (.var v) .nil)) = .ok (.lst true xs) := by
        unfold eE eEs eE eEs getV
        rw [List.getElem?_set_self hl]
        rfl
      refine ⟨_, _, r1, ?_⟩
      rw [ev]
      intro u H' S' x2 rp nw
      obtain ⟨b, rfl, nb⟩ := nw rfl xs rfl
      -- back: the list in the slot is taken out again
      have Sa : S' a = some (.lst vs) := x2.st _ _ L2.upd_same
      have x3 : Ext S H (rmv S' a) H' := ⟨fun c o q => by
          have ne : c ≠ a := ne_of_none q h3
          rw [rmv_ne ne]; exact x2.st _ _ (by rw [upd_ne ne]; exact q), fun c o q => x2.in' _ _ (rmv_same _ _ q), fun c o q1 q2 => by
          by_cases hc : c = a
          · subst hc
            rw [h2] at q1
            injection q1 with q1
            subst q1
            exact ⟨x2.in' _ _ Sa, rmv_self⟩
          · obtain ⟨z1, z2⟩ := x2.ls c o q1 (by rw [upd_ne hc]; exact q2)
            exact ⟨z1, by rw [rmv_ne hc]; exact z2⟩⟩
      have nba : b ≠ a := fun z => by rw [z, h2] at nb; cases nb
      have rp' : Rp K H0 (rmv S' a) (.lst true xs) (.ref b) := by
        rw [Rp] at rp ⊢
        obtain ⟨c, ws, e, q, y, z⟩ := rp
        injection e with e
        subst e
        exact ⟨b, ws, rfl, by rw [rmv_ne nba]; exact q, y, RpA.out Sa lf z⟩
      exact h _ _ ⟨⟨rmv S' a, (r0.ext x3).set i rp', x0.trans x3, s0.trans x3.st⟩, by rw [List.length_set]; exact r.nv⟩
    · exact h.elim
  · exact other h
theorem s_while {c : E} {b : Ss} {f : List Nat} {D : Ends} {σ : L2.St} {H : Hp} {K : PySem.W.Frag} {mg : Str → Option Value} {nv : Nat} (h : spS G nm K mg H0 Se nv W (.whl f c b) D σ H) :
    tWhile (spT G K mg H0 W c) (spSs G nm K mg H0 Se nv W b) D σ H := by
  obtain ⟨ρ, fl, r, h⟩ := h
  unfold eS at h
  obtain ⟨n, hn⟩ := whileR_ex h.ne
  rw [← hn] at h
  refine ⟨fun m σ H => ∃ ρ, StR K H0 Se fl nv ρ σ H ∧ AftS K mg H0 Se nv W fl D (whileF (fun ρ => (eE G ρ c).bind boolV) (fun ρ => eSs G nm ρ b) (frzA f) m ρ), ⟨n, ρ, r, h⟩, ?_⟩
  rintro m σ H ⟨ρ, r, h⟩
  cases m with
  | zero => unfold whileF at h; exact h.elim
  | succ m =>
    unfold whileF at h
    obtain ⟨S, r0, x0, s0⟩ := r.ex
    obtain ⟨S1, r1, x1, s1⟩ := EnvR.frzA x0 r0 f
    have h1 := (st_term r.nv r1.h0 h).bind
    refine ⟨frzA f ρ, S1, r1, h1.mono (Same.refl _) fun p _ q => ?_⟩
    cases p with
    | bl k =>
      refine ⟨k, rfl, fun H' S' x2 => ?_⟩
      have r2 := r1.ext x2
      have st : StR K H0 Se fl nv (frzA f ρ) σ H' := ⟨⟨S', r2, x1.trans x2, (s0.trans s1).trans x2.st⟩, r.nv⟩
      cases k with
      | true =>
        have q : AftS K mg H0 Se nv W fl D ((eSs G nm (frzA f ρ) b).seq (whileF (fun ρ => (eE G ρ c).bind boolV) (fun ρ => eSs G nm ρ b) (frzA f) m)) := q
        refine L2.iteT ⟨fun σ' H' => ∃ ρ', StR K H0 Se fl nv ρ' σ' H' ∧ AftS K mg H0 Se nv W fl D (whileF (fun ρ => (eE G ρ c).bind boolV) (fun ρ => eSs G nm ρ b) (frzA f) m ρ'), fun σ' H' z => ⟨m, Nat.lt_succ_self _, z⟩, _, fl, st, ?_⟩
        cases ho : eSs G nm (frzA f ρ) b with
        | nx ρ' => rw [ho] at q; exact fun σ' H' z => ⟨ρ', z, q⟩
        | ret p => rw [ho] at q; exact q
        | err C => rw [ho] at q; exact q
        | no => rw [ho] at q; exact q
      | false =>
        have q : AftS K mg H0 Se nv W fl D (.nx (frzA f ρ)) := q
        exact L2.iteF (q _ _ st)
    | _ => exact q.elim
theorem s_for {it : It} {tg : List Nat} {single : Bool} {b : Ss} {f : List Nat} {D : Ends} {σ : L2.St} {H : Hp} {K : PySem.W.Frag} {mg : Str → Option Value} {nv : Nat} (h : spS G nm K mg H0 Se nv W (.for f tg single it b) D σ H) :
    tFor (spI G K mg H0 W it) (gTgt K single tg) (spSs G nm K mg H0 Se nv W b) D σ H := by
  obtain ⟨ρ, fl, r, h⟩ := h
  unfold eS at h
  obtain ⟨S, r0, x0, s0⟩ := r.ex
  obtain ⟨S1, r1, x1, s1⟩ := EnvR.frzA x0 r0 f
  refine ⟨frzA f ρ, S1, r1, (st_term r.nv r1.h0 h).mono (Same.refl _) fun xs _ q J H1 S2 x2 wk => ?_⟩
  have r2 := r1.ext x2
  refine ⟨fun i m σ H => m = xs.length - i ∧ i ≤ xs.length ∧ ∃ ρ, StR K H0 Se S2 nv ρ σ H ∧ AftS K mg H0 Se nv W S2 D (forL (setT single tg) (fun ρ => eSs G nm ρ b) (xs.drop i) ρ),
    ⟨xs.length, by simp, Nat.zero_le _, frzA f ρ, ⟨⟨S2, r2, x1.trans x2, Same.refl _⟩, r.nv⟩, q.floor ((s0.trans s1).trans x2.st)⟩, ?_⟩
  rintro i m σ H ⟨rfl, hi, ρ, r, q⟩
  obtain ⟨S3, r3, x3, s3⟩ := r.ex
  obtain ⟨wgo, wstop⟩ := wk i S3 H s3 r3.h0 r3.hs
  by_cases hlt : i < xs.length
  · obtain ⟨go, yl⟩ := wgo hlt
    rw [List.drop_eq_getElem_cons hlt] at q
    refine .inr ⟨go, fun σ' H' => xs.length - (i + 1) = xs.length - (i + 1) ∧ i + 1 ≤ xs.length ∧ ∃ ρ, StR K H0 Se S2 nv ρ σ' H' ∧ AftS K mg H0 Se nv W S2 D (forL (setT single tg) (fun ρ => eSs G nm ρ b) (xs.drop (i + 1)) ρ),
      fun σ' H' z => ⟨xs.length - (i + 1), by omega, z⟩, fun x H' y => ?_⟩
    obtain ⟨S4, p, x4, hp, rp⟩ := yl x H' y
    rw [List.getElem?_eq_getElem hlt] at hp
    injection hp with hp
    subst hp
    have r4 := r3.ext x4
    unfold forL at q
    cases hT : setT single tg xs[i] ρ with
    | ok ρ1 =>
      rw [hT] at q
      have hlen : ρ1.length = ρ.length := by
        rcases setT_seq hT with ⟨_, _, _, e1⟩ | ⟨ys, _, _, e1, _⟩
        · subst e1; rw [List.length_set]
        · subst e1
          have : ∀ (l : List (Nat × PV)) (ρ : Rho), (l.foldl (fun r p => r.set p.1 (.fz p.2)) ρ).length = ρ.length := by
            intro l
            induction l with
            | nil => intro ρ; rfl
            | cons a l ih => intro ρ; rw [List.foldl_cons, ih, List.length_set]
          exact this _ _
      refine tgt_ok r4 rp hT fun σ' r5 _ => ?_
      refine ⟨ρ1, S2, ⟨⟨S4, r5, x3.trans x4, s3.trans x4.st⟩, by rw [← r5.len, hlen, r3.len]; exact r.nv⟩, ?_⟩
      have q : AftS K mg H0 Se nv W S2 D ((eSs G nm ρ1 b).seq (forL (setT single tg) (fun ρ => eSs G nm ρ b) (xs.drop (i + 1)))) := q
      cases ho : eSs G nm ρ1 b with
      | nx ρ' => rw [ho] at q; exact fun σ' H' z => ⟨rfl, hlt, ρ', z, q⟩
      | ret p => rw [ho] at q; exact q
      | err C => rw [ho] at q; exact q
      | no => rw [ho] at q; exact q
    | err C =>
      unfold setT at hT
      split at hT <;> cases hT
    | no => rw [hT] at q; exact q.elim
  · have e : i = xs.length := by omega
    subst e
    rw [List.drop_length] at q
    exact .inl ⟨wstop (Nat.le_refl _), q _ _ r⟩
theorem ownV_of {ρ : Rho} {v : Nat} {xs : List PV} (h : ownV ρ v = .ok xs) : ρ[v]? = some (.own xs) := by
  unfold ownV at h
  split at h
  · rename_i q; injection h with h; subst h; exact q
  · cases h
theorem ownV_ne {ρ : Rho} {v : Nat} (c : Str) : ownV ρ v ≠ .err c := by
  unfold ownV; split <;> exact fun h => by cases h
theorem out_ok {α : Type} {K : PySem.W.Frag} {mg : Str → Option Value} {nv : Nat} {f : Hp} {D : Ends} {r : Rs α} {k : α → Out} (h : AftS K mg H0 Se nv W f D (r.out k)) (ne : ∀ c, r ≠ .err c) : ∃ a, r = .ok a ∧ AftS K mg H0 Se nv W f D (k a) := by
  cases r with
  | ok a => exact ⟨a, rfl, h⟩
  | err C => exact absurd rfl (ne C)
  | no => exact h.elim
theorem ixN_lt {n : Nat} {k : Int} {j : Nat} (h : ixN n k = some j) : j < n := (ixN_seq h).2.1
theorem s_setI {v : Nat} {i e : E} {f : List Nat} {D : Ends} {σ : L2.St} {H : Hp} {K : PySem.W.Frag} {mg : Str → Option Value} {nv : Nat} (h : spS G nm K mg H0 Se nv W (.setI f v i e) D σ H) :
    tAsg (spE G K mg H0 W e) (gSub (tVar v) (spE G K mg H0 W i) rSetL) D σ H := by
  obtain ⟨ρ, fl, r, h⟩ := h
  unfold eS at h
  obtain ⟨xs, ho, h⟩ := out_ok h ownV_ne
  have ho := ownV_of ho
  refine st_go r h fun p S1 S2 x H2 r1 x1 s1 x2 rp nw q => ?_
  have r2 := r1.ext x2
  obtain ⟨a, vs, h1, h2, h3, h4, h5⟩ := r2.own v xs ho
  refine ⟨.ref a, h1, ?_⟩
  refine ⟨frzA f ρ, S2, r2, (st_term r.nv r2.h0 q).mono (Same.refl _) fun k _ q y H3 S3 x3 rk _ => ?_⟩
  have r3 := r2.ext x3
  obtain ⟨h2', h3'⟩ := x3.ls a _ h2 h3
  obtain ⟨ys, e1, q⟩ := out_ok q fun c => by
    unfold setIV; split
    · split <;> exact fun h => by cases h
    · exact fun h => by cases h
  cases k with
  | int k =>
    rw [Rp] at rk
    subst rk
    unfold setIV at e1
    dsimp only at e1
    cases hj : ixN xs.length k with
    | none => rw [hj] at e1; cases e1
    | some j =>
      rw [hj] at e1
      injection e1 with e1
      subst e1
      refine ⟨a, vs, k, j, rfl, rfl, h2', by rw [h5.len]; exact hj, ?_⟩
      obtain ⟨r4, x4⟩ := r3.change ((x1.trans x2).trans x3) v ho h1 h3' h4 ((h5.mono x3.st).set j (rp.mono x3.st))
      exact q _ _ ⟨⟨S3, r4, x4, (s1.trans x2.st).trans x3.st⟩, r.nv⟩
  | _ => cases e1
/-- a method of a list that stands in a slot -/
theorem s_app {v : Nat} {e : E} {f : List Nat} {D : Ends} {σ : L2.St} {H : Hp} {K : PySem.W.Frag} {mg : Str → Option Value} {nv : Nat} (h : spS G nm K mg H0 Se nv W (.app f v e) D σ H) :
    tDrop (tBM K "list" rAppend (tVar v) (tCons (spE G K mg H0 W e) tNil)) D σ H := by
  obtain ⟨ρ, fl, r, h⟩ := h
  unfold eS at h
  obtain ⟨xs, ho, h⟩ := out_ok h ownV_ne
  have ho := ownV_of ho
  obtain ⟨S, r0, x0, s0⟩ := r.ex
  obtain ⟨S1, r1, x1, s1⟩ := EnvR.frzA x0 r0 f
  obtain ⟨a, vs, h1, h2, h3, h4, h5⟩ := r1.own v xs ho
  refine ⟨.ref a, h1, .inl ⟨rfl, vs, .of h2⟩, ?_⟩
  refine ⟨frzA f ρ, S1, r1, (st_term r.nv r1.h0 h).mono (Same.refl _) fun p _ q y H2 S2 x2 rp _ => ?_⟩
  have r2 := r1.ext x2
  obtain ⟨h2', h3'⟩ := x2.ls a _ h2 h3
  split at q
  · rename_i hl
    refine ⟨a, vs, y, rfl, rfl, h2', by rw [h5.len]; exact hl, ?_⟩
    obtain ⟨r3, x3⟩ := r2.change (x1.trans x2) v ho h1 h3' h4 ((h5.mono x2.st).snoc rp)
    exact q _ _ ⟨⟨S2, r3, x3, (s0.trans s1).trans x2.st⟩, r.nv⟩
  · exact q.elim
theorem s_ext {v : Nat} {e : E} {f : List Nat} {D : Ends} {σ : L2.St} {H : Hp} {K : PySem.W.Frag} {mg : Str → Option Value} {nv : Nat} (h : spS G nm K mg H0 Se nv W (.ext f v e) D σ H) :
    tDrop (tBM K "list" rExtend (tVar v) (tCons (spE G K mg H0 W e) tNil)) D σ H := by
  obtain ⟨ρ, fl, r, h⟩ := h
  unfold eS at h
  obtain ⟨xs, ho, h⟩ := out_ok h ownV_ne
  have ho := ownV_of ho
  obtain ⟨S, r0, x0, s0⟩ := r.ex
  obtain ⟨S1, r1, x1, s1⟩ := EnvR.frzA x0 r0 f
  obtain ⟨a, vs, h1, h2, h3, h4, h5⟩ := r1.own v xs ho
  refine ⟨.ref a, h1, .inl ⟨rfl, vs, .of h2⟩, ?_⟩
  refine ⟨frzA f ρ, S1, r1, (st_term r.nv r1.h0 h).mono (Same.refl _) fun p _ q y H2 S2 x2 rp _ => ?_⟩
  have r2 := r1.ext x2
  obtain ⟨h2', h3'⟩ := x2.ls a _ h2 h3
  cases p with
  | lst m zs =>
    have q : AftS K mg H0 Se nv W fl D (if xs.length + zs.length ≤ sizeLine then .nx ((frzA f ρ).set v (.own (xs ++ zs))) else .no) := q
    rw [Rp] at rp
    obtain ⟨b, ws, rfl, qb, _, zb⟩ := rp
    split at q
    · rename_i hl
      refine ⟨a, b, vs, ws, rfl, rfl, h2', r2.hs _ _ qb, by rw [h5.len, zb.len]; exact hl, ?_⟩
      obtain ⟨r3, x3⟩ := r2.change (x1.trans x2) v ho h1 h3' h4 ((h5.mono x2.st).app zb)
      exact q _ _ ⟨⟨S2, r3, x3, (s0.trans s1).trans x2.st⟩, r.nv⟩
    · exact q.elim
  | _ => exact q.elim
theorem s_rev {v : Nat} {D : Ends} {σ : L2.St} {H : Hp} {K : PySem.W.Frag} {mg : Str → Option Value} {nv : Nat} (h : spS G nm K mg H0 Se nv W (.rev v) D σ H) :
    tDrop (tBM0 K "list" rReverse (tVar v)) D σ H := by
  obtain ⟨ρ, fl, r, h⟩ := h
  unfold eS at h
  obtain ⟨xs, ho, q⟩ := out_ok h ownV_ne
  have ho := ownV_of ho
  obtain ⟨S1, r1, x1, s1⟩ := r.ex
  obtain ⟨a, vs, h1, h2, h3, h4, h5⟩ := r1.own v xs ho
  refine ⟨.ref a, h1, .inl ⟨rfl, vs, .of h2⟩, a, vs, rfl, rfl, h2, ?_⟩
  obtain ⟨r3, x3⟩ := r1.change x1 v ho h1 h3 h4 h5.reverse
  exact q _ _ ⟨⟨S1, r3, x3, s1⟩, r.nv⟩
theorem s_clr {v : Nat} {D : Ends} {σ : L2.St} {H : Hp} {K : PySem.W.Frag} {mg : Str → Option Value} {nv : Nat} (h : spS G nm K mg H0 Se nv W (.clr v) D σ H) :
    tDrop (tBM0 K "list" rClear (tVar v)) D σ H := by
  obtain ⟨ρ, fl, r, h⟩ := h
  unfold eS at h
  obtain ⟨xs, ho, q⟩ := out_ok h ownV_ne
  have ho := ownV_of ho
  obtain ⟨S1, r1, x1, s1⟩ := r.ex
  obtain ⟨a, vs, h1, h2, h3, h4, h5⟩ := r1.own v xs ho
  refine ⟨.ref a, h1, .inl ⟨rfl, vs, .of h2⟩, a, vs, rfl, rfl, h2, ?_⟩
  obtain ⟨r3, x3⟩ := r1.change x1 v ho h1 h3 h4 RpA.nil
  exact q _ _ ⟨⟨S1, r3, x3, s1⟩, r.nv⟩
theorem s_rse {x m : Str} {j : Nat} {p p2 pos pos' : Pos} (o : SOk cp G lv H0 X sc W) (hx : cp.cl.contains x = true) (hg : globB sc x = true) (hp : plainB x = true) :
    PS X (.Raise (some (.Call (.Name x p) [.Constant (.str m) j p2] [] pos)) none pos') (spS G nm X.K X.mg H0 Se cp.N.length W (.rse x)) := by
  obtain ⟨a, bmB, mC, F, q, kC, sb, ty⟩ := o.cls x hx
  obtain ⟨p1, _, _⟩ := plain_of hp
  have tk := o.takes
  refine ps_imp (raiseB o.x.calm tk (mk1 := fun _ => pmk_own F q mC kC (raises_own sb ty) (gl_of o.x hg) p1) (mk2 := fun _ => L2N.pmk_own F q mC kC (raises_own sb ty) (gl_of o.x hg) p1)) fun D σ H h => ?_
  obtain ⟨ρ, fl, r, h⟩ := h
  unfold eS at h
  obtain ⟨S1, r1, _, _⟩ := r.ex
  exact h a mC σ H r.nv r1.h0
end
end SG

namespace SG
open PySem PySem.Spec PyProof.Rows L2

/-! ### a def that is called while an exception is handled, and that raises nothing: p the exception's record -/
structure FnX (P : Program) (w : World) (K : PySem.W.Frag) (mg : Str → Option Value) (base : Heap) (k : Nat) (f : Addr) (fd : FuncData) (ps : List Str) (sp : Addr × Obj → List V → Hp → VK → Prop) : Prop where
  len : ∀ p vs H Q, sp p vs H Q → vs.length = ps.length
  run : ∀ (A : Around) (outer : List Env) (s : Shared) (H : Hp) (args : Args) (us : List Value) (vs : List V) (Q : VK) (p : Addr × Obj), L2H.RoomH k A → L2H.PinOk outer H s p → Env0 P w K mg base A outer s H → BindsTo s fd args (ps.zip us) → Vals vs us → sp p vs H Q →
    codeAny (model P w) A (.call (.ref f) args) (CR CX0 outer P w H s Q fun _ _ _ => False) s
theorem fnX_of {P : Program} {w : World} {K : PySem.W.Frag} {mg : Str → Option Value} {base : Heap} {k : Nat} {x qual : Str} {st : Stmt} {f : Addr} {fd : FuncData} {N ps : List Str} {sp : Addr × Obj → List V → Hp → VK → Prop} (F : Fun K x qual st f fd) (S : FnScope N ps (defScope st))
    (len : ∀ p vs H Q, sp p vs H Q → vs.length = ps.length)
    (hbody : ∀ (cdv : Value) (A : Around) (outer : List Env) (s : Shared) (H : Hp) (vs : List V) (Q : VK) (p : Addr × Obj), L2H.RoomH k (A.deeper (envOfC qual (defScope st) s.heap.objs.size f cdv)) → sp p vs H Q →
      ∃ t, PSs (L2H.cxH CX0 P w K mg base N qual (defScope st) f cdv A outer s H (fun _ _ _ => False) p).nox (defBody st) t ∧ t { nx := fun _ H' => Q .non H', rt := Q } (L2.start N vs) H) :
    FnX P w K mg base (k + 1) f fd ps sp := by
  obtain ⟨oc, od, kV, doc, pm, an, cdv, ct, osl, rfl, lk, hcd⟩ := F.ex
  refine ⟨len, fun A outer s H args us vs Q p hr hpin e0 hb r hsp => ?_⟩
  have hl := len _ _ _ _ hsp
  have KX : K.In s.heap := e0.mod.kin.keeps fun b o e => (e0.bs b o e).1
  have lim : s.heap.NoLimit := e0.mod.nolimit.keeps fun b o e => (e0.bs b o e).1
  refine codeAny_call_function hr.depth (KX _ _ lk) rfl S.co S.gen rfl (PySem.W.codeRec_of KX hcd) (hb _ _ _ _ ?_)
  refine wpAny_newFunctionEnv_cells S.kind (fun y hy => ?_) fun env he s1 x1 => ?_
  · rcases S.par y.1 (List.of_mem_zip (show (y.1, y.2) ∈ ps.zip us from hy)).1 with q | q
    · exact .inl q
    · exact .inr ⟨q, PySem.W.cellsFrom_some _ _ _ (.inl q)⟩
  subst he
  refine ⟨lim.keeps x1.toInCall.keep, codeAny_func ?_⟩
  obtain ⟨t, ht, hq⟩ := hbody cdv A outer s H vs Q p (hr.deeper _) hsp
  have I := L2H.inv_startH (CX := CX0) (E := fun _ _ _ => False) S hpin e0 hl r x1
  refine wpAny_mono (ht.nox.run [] s1 _ H _ I hq) (fun fl s' hs => ?_) fun e s' hs => hs
  cases fl with
  | ret u =>
    obtain ⟨v, σ', H', J, rv, q⟩ := hs
    exact ⟨v, H', J.os, J.bare, J.base, J.hok, rv, q⟩
  | next =>
    obtain ⟨σ', H', J, q⟩ := hs
    exact ⟨V.non, H', J.os, J.bare, J.base, J.hok, rfl, q⟩
  | brk =>
    obtain ⟨_, _, _, q⟩ := hs
    exact False.elim q
  | cont =>
    obtain ⟨_, _, _, q⟩ := hs
    exact False.elim q
/-- its call -/
theorem pe_callX {X : Cx} {k : Nat} {f : Addr} {fd : FuncData} {ps : List Str} {sp : Addr × Obj → List V → Hp → VK → Prop} {x : Str} {q pos : Pos} {e : Expr} {ta : TE} {p : Addr × Obj} (F : FnX X.prog X.w X.K X.mg X.base k f fd ps sp) (hr : L2H.RoomH k X.A) (hp : p ∈ X.pn) (hg : Gl X x) (hm : X.mg x = some (.ref f))
    (hk : PySem.W.keepIn X.K (.ref f) = true) (hb : Binds X.K fd ps []) (hdb : (x == ("__debug__" : Str)) = false) (ha : PE X e ta) (he : starEach [e] X.env = [(false, eval e X.env)]) :
    PE X (.Call (.Name x q) [e] [] pos) (fun σ H Q => ta σ H fun v H1 => sp p [v] H1 Q) := by
  have hA : PA X [e] (tCons ta tNil) := pa_cons ha pa_nil he
  refine ⟨fun pins s σ H Q I h => ?_⟩
  refine wpAny_Call_Name_kw (ld_glob I hg hm ?_ hdb)
  refine PySem.W.callWith_K (h₀ := X.base) I.ok.mod.kin hk (thn (hA.run pos pins s σ H (fun vs H1 => sp p vs H1 Q) I h) fun us s1 ⟨vs, H1, I1, r, q⟩ => ⟨I1.kIn, ?_⟩) he rfl
  have hl : us.length = ps.length := by rw [← r.length]; exact F.len _ _ _ _ q
  have b := hb s1 us I1.kIn (by rw [List.append_nil]; exact hl)
  rw [List.append_nil] at b
  have P1 := I1.pin p (List.mem_append_left _ hp)
  have hpin : L2H.PinOk X.stack H1 s1 p := ⟨P1.1, P1.2.1, fun hm => (List.mem_cons.mp (I1.stkSub p.1 hm)).elim P1.2.2.1 P1.2.2.2.1, P1.2.2.2.2⟩
  refine wpAny_call (codeAny_mono (F.run X.A X.stack s1 H1 ⟨us, []⟩ us vs Q p hr hpin I1.env0 b r q) fun r s' hq => ?_)
  cases r with
  | error e => exact False.elim hq
  | ok fl =>
    cases fl with
    | ret u => exact I1.after hq
    | next => exact False.elim hq
    | brk => exact False.elim hq
    | cont => exact False.elim hq

/-- what `_law_names` says of an error -/
def spNames (mg : Str → Option Value) (nm : Nm) : Addr × Obj → List V → Hp → VK → Prop := fun p vs H Q =>
  vs = [.ref p.1] ∧ ∃ C ca z, mg C = some (.ref ca) ∧ nm C = .ok (.tup [.str z]) ∧ Zc (.ref ca) none p.2 ∧ (∃ fs, p.2.data = .fields fs) ∧
    ∀ T H', H T = none → Same H H' → H' T = some (.tup [.str z]) → Q (.ref T) H'
structure TryF (nm : Nm) (lv : Nat) (P : Program) (w : World) (K : PySem.W.Frag) (mg : Str → Option Value) (base : Heap) : Prop where
  ex : ∃ ge, mg "GridError" = some (.ref ge) ∧ (∀ C c, nm C ≠ .err c) ∧ ∀ C p, nm C = .ok p → (∃ z, p = .tup [.str z]) ∧ ∀ ca, mg C = some (.ref ca) → PySem.W.exmOne K (.ref ca) (.ref ge) = some true
  fn : ∃ f fd ps, mg "_law_names" = some (.ref f) ∧ PySem.W.keepIn K (.ref f) = true ∧ Binds K fd ps [] ∧ FnX P w K mg base lv f fd ps (spNames mg nm)

/-- what is known of the ways of trying -/
structure TryH (cp : CP) (G : Gt) (nm : Nm) (lv : Nat) (P : Program) (w : World) (K : PySem.W.Frag) (mg : Str → Option Value) (base : Heap) : Prop where
  tr : cp.tr = true → cp.md = false ∧ cp.hx = [] ∧ TryF nm lv P w K mg base
  hot : ∀ x, cp.hx.contains x = true → cp.md = false ∧ ∃ f fd ps, mg x = some (.ref f) ∧ PySem.W.keepIn K (.ref f) = true ∧ Binds K fd ps [] ∧ FnOk P w K mg base (L2N.CX P w) lv f fd ps (spF K mg (G x))
  exm : cp.hx ≠ [] → ∀ C, cp.cl.contains C = true → ∀ ca, mg C = some (.ref ca) → PySem.W.exmOne K (.ref ca) (.ref ca) = some true
section
variable {cp : CP} {G : Gt} {nm : Nm} {lv : Nat} {H0 Se : Hp} {X : Cx} {sc : Scope} {W : WX}
theorem XOk.tr (o : SOk cp G lv H0 X sc W) (hm : cp.md = false) (hh : cp.hx = []) {W' : WX} {pn : List (Addr × Obj)} {xe : Value → Shared → Prop} (tk' : Takes (X.tr pn xe) W') (pa : PassesOwn (model X.prog X.w) X.A X.env xe) : SOk cp G lv H0 (X.tr pn xe) sc W' :=
  have tk : TakesB cp.md (X.tr pn xe) W' := by rw [hm]; exact tk'
  ⟨⟨o.x.N, o.x.nd, o.x.sc, o.x.calm, o.x.room, ⟨_, ThrOk.of tk o.stk o.frame⟩, o.x.gl⟩, o.kind, o.fn, tk, pa, fun z => absurd hh z, o.stk, o.frame, o.cls⟩
/-- the handler's value, from the exception in slot i -/
theorem h_val {x : Str} {i : Nat} {a : Addr} {oe : Obj} {pn : List (Addr × Obj)} {p q pos : Pos} (o : SOk cp G lv H0 X sc W) (t : TryF nm lv X.prog X.w X.K X.mg X.base) (hi : cp.N[i]? = some x) (hx : sc.names.lookup x = some .local) (hp : plainB x = true) (hg : globB sc "_law_names" = true) :
    PE (X.suite a ((a, oe) :: pn)) (.Call (.Name "_law_names" p) [.Name x q] [] pos) (fun σ H Q => σ[i]? = some (some (.ref a)) ∧ spNames X.mg nm (a, oe) [.ref a] H Q) := by
  obtain ⟨f, fd, ps, mf, kf, bf, F⟩ := t.fn
  obtain ⟨p1, p2, _⟩ := plain_of hp
  have hN : (X.suite a ((a, oe) :: pn)).N[i]? = some x := by show X.N[i]? = _; rw [o.x.N]; exact hi
  have hv : Vis (X.suite a ((a, oe) :: pn)).env.scope x := .inl (by show X.env.scope.names.lookup x = _; rw [o.x.sc]; exact hx)
  have hG : Gl (X.suite a ((a, oe) :: pn)) "_law_names" := by have := gl_of o.x hg; exact this
  have r := o.x.room
  exact pe_imp (pe_callX (X := X.suite a ((a, oe) :: pn)) (p := (a, oe)) F ⟨r.dp, r.un⟩ List.mem_cons_self hG mf kf bf (by decide) (pe_var hN hv p1 p2) rfl) fun σ H Q h => ⟨.ref a, h.1, h.2⟩
def tNm (K : PySem.W.Frag) (mg : Str → Option Value) (nm : Nm) (H0 Se : Hp) (i : Nat) (wrap : Bool) (a : Addr) (cls : Value) (d : Option Addr) : TE := fun σ H Q =>
  σ[i]? = some (some (.ref a)) ∧ Same H0 H ∧ ∃ C ca z, cls = .ref ca ∧ d = none ∧ mg C = some (.ref ca) ∧ nm C = .ok (.tup [.str z]) ∧ ∀ v S' H', Ext Se H0 S' H' → Rp K H0 S' (if wrap then .lst true [.tup [.str z]] else .tup [.str z]) v → Q v H'
theorem ext_fresh {H : Hp} (se : Same Se H0) (s0 : Same H0 H) : Ext Se H0 Se H := ⟨Same.refl _, se.trans s0, fun b o q1 q2 => ⟨s0 _ _ q1, q2⟩⟩
theorem ext_add {H0 S' H' : Hp} (x : Ext Se H0 S' H') {T : Addr} {o : HO} (n0 : H0 T = none) (nS : S' T = none) (hT : H' T = some o) : Ext Se H0 (upd S' T o) H' :=
  ⟨x.st.trans (same_upd nS), fun b q e => by
    by_cases hb : b = T
    · subst hb; rw [L2.upd_same] at e; rw [← e]; exact hT
    · rw [upd_ne hb] at e; exact x.in' _ _ e, fun b q e1 e2 => by
    have ne : b ≠ T := ne_of_none e1 n0
    rw [upd_ne ne]; exact x.ls _ _ e1 e2⟩
theorem h_nm {K : PySem.W.Frag} {mg : Str → Option Value} {i : Nat} {a : Addr} {oe : Obj} {cls : Value} {d : Option Addr} {e : Expr} {pos : Pos} (wrap : Bool) {X : Cx} (se : Same Se H0) (hz : Zc cls d oe) (hd : ∃ vs, oe.data = .fields vs)
    (h : PE X e (fun σ H Q => σ[i]? = some (some (.ref a)) ∧ spNames mg nm (a, oe) [.ref a] H Q)) (he : starEach [e] X.env = [(false, eval e X.env)]) : PE X (if wrap then .List [e] pos else e) (tNm K mg nm H0 Se i wrap a cls d) := by
  have key : ∀ (σ : L2.St) (H : Hp) (Q : VK) (Q' : VK) (w : Bool), tNm K mg nm H0 Se i w a cls d σ H Q → (∀ z T H', H T = none → Same H H' → H' T = some (.tup [.str z]) → (∀ v S' H', Ext Se H0 S' H' → Rp K H0 S' (if w then .lst true [.tup [.str z]] else .tup [.str z]) v → Q v H') → Q' (.ref T) H') →
      σ[i]? = some (some (.ref a)) ∧ spNames mg nm (a, oe) [.ref a] H Q' := fun σ H Q Q' w h k => by
    obtain ⟨h1, h2, C, ca, z, e1, e2, h3, h4, h5⟩ := h
    exact ⟨h1, rfl, C, ca, z, h3, h4, by rw [← e1, ← e2]; exact hz, hd, fun T H' n s q => k z T H' n s q h5⟩
  have tupX : ∀ (H H' : Hp) (T : Addr) (z : Str), Same H0 H → H T = none → Same H H' → H' T = some (.tup [.str z]) → Ext Se H0 (upd Se T (.tup [.str z])) H' ∧ Rp K H0 (upd Se T (.tup [.str z])) (.tup [.str z]) (.ref T) := fun H H' T z s0 n s q => by
    refine ⟨ext_add (ext_fresh se (s0.trans s)) (s0.free n) (se.free (s0.free n)) q, ?_⟩
    rw [Rp]
    refine ⟨T, [.str z], rfl, L2.upd_same, ?_⟩
    rw [RpA]
    exact ⟨_, [], rfl, by rw [Rp], by rw [RpA]⟩
  cases wrap with
  | false =>
    refine pe_imp h fun σ H Q q => key σ H Q Q false q fun z T H' n s q1 k => ?_
    · obtain ⟨x, r⟩ := tupX H H' T z q.2.1 n s q1
      exact k _ _ _ x r
  | true =>
    refine pe_imp (pe_lst (pa_cons h pa_nil he)) fun σ H Q q => key σ H Q _ true q fun z T H' n s q1 k => ?_
    · obtain ⟨x, r⟩ := tupX H H' T z q.2.1 n s q1
      refine ⟨by show (1 : Nat) ≤ sizeLine; decide, fun L nL => ?_⟩
      have s0 : Same H0 H' := q.2.1.trans s
      have neLT : T ≠ L := fun z1 => by rw [z1, nL] at q1; cases q1
      refine k _ (upd (upd Se T (.tup [.str z])) L (.lst [.ref T])) _ ?_ ?_
      · have x1 : Ext Se H0 (upd Se T (.tup [.str z])) (upd H' L (.lst [.ref T])) := ⟨x.st, x.in'.trans (same_upd nL), fun b o e1 e2 => ⟨same_upd nL _ _ (x.ls _ _ e1 e2).1, (x.ls _ _ e1 e2).2⟩⟩
        exact ext_add x1 (s0.free nL) (x.in'.free nL) L2.upd_same
      · show Rp K H0 _ (.lst true [.tup [.str z]]) _
        rw [Rp]
        refine ⟨L, [.ref T], rfl, L2.upd_same, fun _ => s0.free nL, ?_⟩
        rw [RpA]
        exact ⟨_, [], rfl, r.mono (same_upd (x.in'.free nL)), by rw [RpA]⟩
theorem s_tryN {body : List Stmt} {b : Ss} {wrap : Bool} {x : Str} {i : Nat} {h : Expr} {np rp pos pos' : Pos} (o : SOk cp G lv H0 X sc W) (hm : cp.md = false) (hh0 : cp.hx = []) (se : Same Se H0) (t : TryF nm lv X.prog X.w X.K X.mg X.base) (hi : cp.N[i]? = some x) (hx : sc.names.lookup x = some .local) (hgE : globB sc "GridError" = true)
    (hb : ∀ (X' : Cx) (W' : WX), X'.prog = X.prog → X'.w = X.w → X'.K = X.K → X'.mg = X.mg → X'.base = X.base → SOk cp G lv H0 X' sc W' → PSs X' body (spSs G nm X'.K X'.mg H0 Se cp.N.length W' b))
    (hh : ∀ (a : Addr) (oe : Obj) (cls : Value) (d : Option Addr) (pn : List (Addr × Obj)), Zc cls d oe → (∃ vs, oe.data = .fields vs) → PE (X.suite a ((a, oe) :: pn)) h (tNm X.K X.mg nm H0 Se i wrap a cls d)) :
    PS X (.Try body [.ExceptHandler (some (.Name "GridError" np)) (some x) [.Return (some h) rp] pos'] [] [] pos) (spS G nm X.K X.mg H0 Se cp.N.length W (.tryN b wrap)) := by
  have hN : X.N[i]? = some x := by rw [o.x.N]; exact hi
  have hln : X.env.kindOf x = some .local := by show X.env.scope.names.lookup x = _; rw [o.x.sc]; exact hx
  obtain ⟨ge, mge, hne, hex⟩ := t.ex
  have hG : Gl X "GridError" := gl_of o.x hgE
  refine ps_imp (ps_try_as (c := .ref ge) o.stk o.frame (by rw [o.x.N]; exact o.x.nd) hN hln ⟨hG, by decide, .inl mge⟩ (by have := o.takes; rw [hm] at this; exact this)
    (tb := fun W' => spSs G nm X.K X.mg H0 Se cp.N.length W' b) (ts := fun a cls d => tRet (tNm X.K X.mg nm H0 Se i wrap a cls d))
    (fun W' pn xe tk pa => hb _ W' rfl rfl rfl rfl rfl (XOk.tr o hm hh0 tk pa)) (fun a oe cls d pn hz hf => pss_one (ps_ret (hh a oe cls d pn hz hf)))) fun D σ H q => ?_
  obtain ⟨ρ, f, r, q⟩ := q
  refine ⟨ρ, f, r, ?_⟩
  unfold eS at q
  cases ho : eSs G nm ρ b with
  | nx ρ1 => rw [ho] at q; exact q
  | ret p => rw [ho] at q; exact q
  | no => rw [ho] at q; exact q
  | err C =>
    rw [ho] at q
    have q : AftS X.K X.mg H0 Se cp.N.length W f D ((nm C).out fun p => .ret (if wrap then .lst true [p] else p)) := q
    cases hp : nm C with
    | no => rw [hp] at q; exact q.elim
    | err c => exact absurd hp (hne C c)
    | ok p =>
      rw [hp] at q
      obtain ⟨⟨z, ez⟩, hm⟩ := hex C p hp
      subst ez
      intro ca mC σ' H' hl s0
      refine ⟨true, hm ca mC, fun _ a na => ?_, fun z => by cases z⟩
      refine ⟨by rw [List.getElem?_set_self (by rw [hl]; exact (List.getElem?_eq_some_iff.mp hi).1)], s0, C, ca, z, rfl, rfl, mC, hp, fun v S' H1 x rp => ?_⟩
      exact q v H1 S' x rp
/-- a call in a try whose suite raises another refusal -/
theorem s_tryX {g c d m : Str} {a : Expr} {as : List Expr} {es : Es} {f : List Nat} {j : Nat} {p q ep np p2 p3 pos1 pos2 pos' pos : Pos} (o : SOk cp G lv H0 X sc W) (t : TryH cp G nm lv X.prog X.w X.K X.mg X.base)
    (hg : cp.hx.contains g = true) (gg : globB sc g = true) (pg : plainB g = true) (hc : cp.cl.contains c = true) (gc : globB sc c = true) (pc : plainB c = true) (hd : cp.cl.contains d = true) (gd : globB sc d = true) (pd : plainB d = true)
    (he : ∀ env, starEach (a :: as) env = (false, eval a env) :: starEach as env) (hpl : ∀ env, (backTo q (starEach as env)).any (·.1) = false)
    (ha : ∀ (X' : Cx) (W' : WX), XOk cp G lv H0 X' sc W' → X'.K = X.K → X'.mg = X.mg → PA X' (a :: as) (spA G X'.K X'.mg H0 W' es)) :
    PS X (.Try [.Expr (.Call (.Name g p) (a :: as) [] q) ep] [.ExceptHandler (some (.Name c np)) none [.Raise (some (.Call (.Name d p2) [.Constant (.str m) j p3] [] pos1)) none pos2] pos'] [] [] pos) (spS G nm X.K X.mg H0 Se cp.N.length W (.tryX f g es c d)) := by
  obtain ⟨hm, fa, fd, ps, mf, kf, bf, F⟩ := t.hot g hg
  have hne : cp.hx ≠ [] := fun z => by rw [z] at hg; cases hg
  obtain ⟨ca, bmC, mC, FC, qC, kC, sbC, tyC⟩ := o.cls c hc
  obtain ⟨da, bmD, mD, FD, qD, kD, sbD, tyD⟩ := o.cls d hd
  obtain ⟨pg1, _, _⟩ := plain_of pg
  obtain ⟨pc1, _, pc3⟩ := plain_of pc
  obtain ⟨pd1, _, _⟩ := plain_of pd
  have ex := t.exm hne c hc ca mC
  have tkW : Takes X W := by have := o.takes; rw [hm] at this; exact this
  have hG : Gl X g := gl_of o.x gg
  refine ps_imp (L2H.ps_try_onlyX (x := c) (c := .ref ca) o.stk o.frame ⟨gl_of o.x gc, pc1, .inl mC⟩ (o.passH hne) tkW
    (tb := fun W' => tDrop (tCallS (spF X.K X.mg (G g)) (fun σ => WE W' σ) (spA G X.K X.mg H0 (fun _ _ _ _ => False) es)))
    (ts := fun _ _ _ => fun _ σ H => W (.ref da) none σ H) (fun W' pn xe tkN tkP pa => ?_) (fun a0 oe cls dd pn hz hf tkS hot => ?_)) fun D σ H h => ?_
  · have xo : XOk cp G lv H0 (X.tr pn xe) sc (fun _ _ _ _ => False) := ⟨o.x.N, o.x.nd, o.x.sc, o.x.calm, o.x.room, ⟨X.env.locals, ⟨fun u s' z => (by obtain ⟨_, _, _, _, _, _, _, _, _, _, _, _, _, _, _, _, z⟩ := z; exact z.elim), ⟨_, _, o.stk, o.frame⟩, o.frame⟩⟩, o.x.gl⟩
    have PAa := ha (X.tr pn xe) _ xo rfl rfl
    exact pss_one (ps_expr (pe_callS (X := X.tr pn xe) (CX := L2N.CX X.prog X.w) F o.x.room hG mf kf bf (fun σ => L2N.passAt tkN σ) PAa pg1 (he _) (hpl _)))
  · exact pss_one (L2H.ps_raiseH (X := L2H.suiteX X a0 ((a0, oe) :: pn)) hot tkS (L2N.pmk_own FD qD mD kD (raises_own sbD tyD) (show Gl X d from gl_of o.x gd) pd1))
  · obtain ⟨ρ, fl, r, h⟩ := h
    unfold eS at h
    obtain ⟨S, r0, x0, s0⟩ := r.ex
    obtain ⟨S1, r1, x1, s1⟩ := EnvR.frzA x0 r0 f
    refine ⟨frzA f ρ, S1, r1, ?_⟩
    cases hE : eEs G (frzA f ρ) es with
    | no => rw [hE] at h; exact h.elim
    | err e => rw [hE] at h; exact h.elim
    | ok ps =>
      rw [hE] at h
      have h : AftS X.K X.mg H0 Se cp.N.length W fl D (trX (frzA f ρ) c d (G g ps)) := h
      intro vs H1 S' x2 rs
      have r2 := r1.ext x2
      refine ⟨S', ps, H0, r2.hs, rs, ?_⟩
      cases hR : G g ps with
      | no => rw [hR] at h; exact h.elim
      | ok v0 =>
        rw [hR] at h
        intro v H' S2 x3 rp
        exact h _ _ ⟨⟨S2, r2.ext x3, x1.trans (x2.trans x3), (s0.trans s1).trans (x2.trans x3).st⟩, r.nv⟩
      | err e =>
        rw [hR] at h
        have h2 : AftS X.K X.mg H0 Se cp.N.length W fl D (if e = c then .err d else .no) := h
        clear h
        by_cases he : e = c
        · rw [if_pos he] at h2
          have h3 : ∀ a1, X.mg d = some (.ref a1) → ∀ (σ : L2.St) (H : Hp), σ.length = cp.N.length → Same H0 H → W (.ref a1) none σ H := h2
          subst he
          intro a1 ma H' sm
          rw [mC] at ma
          injection ma with ma
          injection ma with ma
          subst ma
          exact ⟨true, ex, fun _ a' na => h3 da mD σ H' r.nv (r2.h0.trans sm), fun z => by cases z⟩
        · rw [if_neg he] at h2; exact h2.elim
end
end SG

namespace SG
open PySem PySem.Spec PyProof.Rows L2

/-! ### a call's new lists, changed within -/
/-- a call: its lists are new since before it -/
def spC (G : Gt) (K : PySem.W.Frag) (mg : Str → Option Value) (H0 : Hp) (W : WX) (g : Str) (es : Es) : TE := fun σ H Q => ∃ ρ S, EnvR K H0 S H ρ σ ∧ Aft mg W σ H ((eEs G ρ es).bind (G g)) fun p => ∀ v H' S', Ext S H S' H' → Rp K H S' p v → Q v H'
section
variable {cp : CP} {G : Gt} {nm : Nm} {lv : Nat} {H0 Se : Hp} {X : Cx} {sc : Scope} {W : WX}
theorem s_callC {x : Str} {e : Expr} {es : List Expr} {es' : Es} {p pos : Pos} (o : XOk cp G lv H0 X sc W) (hx : cp.ns.contains x = true) (hg : globB sc x = true) (hp : plainB x = true)
    (he : starEach (e :: es) X.env = (false, eval e X.env) :: starEach es X.env) (hpl : (backTo pos (starEach es X.env)).any (·.1) = false) (ha : PA X (e :: es) (spA G X.K X.mg H0 W es')) :
    PE X (.Call (.Name x p) (e :: es) [] pos) (spC G X.K X.mg H0 W x es') := by
  obtain ⟨f, fd, ps, mf, kf, bf, F⟩ := o.gl.own x hx
  obtain ⟨p1, _, _⟩ := plain_of hp
  refine pe_imp (pe_callS F o.room (gl_of o hg) mf kf bf o.pass ha p1 he hpl) fun σ H Q h => ?_
  obtain ⟨ρ, S, r, h⟩ := h
  refine ⟨ρ, S, r, h.bind.mono (Same.refl _) fun ps _ q vs H1 S1 x1 rs => ?_⟩
  have r1 := r.ext x1
  refine ⟨S1, ps, H0, r1.hs, rs, ?_⟩
  cases hG : G x ps with
  | ok p =>
    rw [hG] at q
    intro v H' S' x2 rp
    exact q v H' S' (x1.trans x2) (rp.early (x1.same r.hs))
  | err C =>
    rw [hG] at q
    exact fun a ma H' s => q a ma H' ((x1.same r.hs).trans s)
  | no =>
    rw [hG] at q
    exact q
theorem out_bind {α β : Type} {r : Rs α} {f : α → Rs β} {k : β → Out} : (r.out fun a => (f a).out k) = (r.bind f).out k := by cases r <;> rfl
/-- the state after such a call -/
def DgS (K : PySem.W.Frag) (H0 Se fl : Hp) (nv : Nat) (ρ0 : Rho) (i : Nat) (p : PV) (σ : L2.St) (H : Hp) : Prop :=
  ∃ S1 Hc σ0 S' v, EnvR K H0 S1 Hc ρ0 σ0 ∧ Ext Se H0 S1 Hc ∧ Same fl S1 ∧ Ext S1 Hc S' H ∧ Rp K Hc S' p v ∧ σ = σ0.set i (some v) ∧ σ0.length = nv ∧ i < nv
def spDg (G : Gt) (nm : Nm) (K : PySem.W.Frag) (mg : Str → Option Value) (H0 Se : Hp) (nv : Nat) (W : WX) (i : Nat) (t : Dg) : TS := fun D σ H => ∃ ρ0 p fl, DgS K H0 Se fl nv ρ0 i p σ H ∧ AftS K mg H0 Se nv W fl D (eDg G nm ρ0 i p t)
theorem s_dig {i : Nat} {g : Str} {es : Es} {f : List Nat} {t : Dg} {D : Ends} {σ : L2.St} {H : Hp} {K : PySem.W.Frag} {mg : Str → Option Value} {nv : Nat} (hi : i < nv) (h : spS G nm K mg H0 Se nv W (.dig f i g es t) D σ H) :
    tSeq (tAsg (spC G K mg H0 W g es) (gName i)) (spDg G nm K mg H0 Se nv W i t) D σ H := by
  obtain ⟨ρ, fl, r, h⟩ := h
  unfold eS at h
  rw [out_bind] at h
  obtain ⟨S, r0, x0, s0⟩ := r.ex
  obtain ⟨S1, r1, x1, s1⟩ := EnvR.frzA x0 r0 f
  show spC G K mg H0 W g es σ H fun v H' => spDg G nm K mg H0 Se nv W i t D (σ.set i (some v)) H'
  refine ⟨frzA f ρ, S1, r1, (st_term r.nv r1.h0 h).mono (Same.refl _) fun p _ q v H' S' x2 rp => ?_⟩
  exact ⟨frzA f ρ, p, fl, ⟨S1, H, σ, S', v, r1, x1, s0.trans s1, x2, rp, rfl, r.nv, hi⟩, q⟩
theorem noNx_aft {K : PySem.W.Frag} {mg : Str → Option Value} {nv : Nat} {fl : Hp} {D D' : Ends} {o : Out} (hr : D'.rt = D.rt) (h : AftS K mg H0 Se nv W fl D (noNx o)) : AftS K mg H0 Se nv W fl D' o := by
  cases o with
  | nx ρ => exact h.elim
  | ret p => intro v H S x r; rw [hr]; exact h v H S x r
  | err C => exact h
  | no => exact h
theorem DgS.env {K : PySem.W.Frag} {fl : Hp} {nv i : Nat} {ρ0 : Rho} {p : PV} {σ : L2.St} {H : Hp} (h : DgS K H0 Se fl nv ρ0 i p σ H) : ∃ S', EnvR K H0 S' H (ρ0.set i (.fz p)) σ ∧ Ext Se H0 S' H ∧ Same fl S' ∧ σ.length = nv := by
  obtain ⟨S1, Hc, σ0, S', v, r1, x1, s1, x2, rp, e, hn, hi⟩ := h
  subst e
  exact ⟨S', (r1.ext x2).set i (rp.early r1.h0), x1.trans x2, s1.trans x2.st, by rw [List.length_set]; exact hn⟩
theorem DgS.later {K : PySem.W.Frag} {fl : Hp} {nv i : Nat} {ρ0 : Rho} {p : PV} {σ : L2.St} {H H' : Hp} (h : DgS K H0 Se fl nv ρ0 i p σ H) (s : Same H H') : DgS K H0 Se fl nv ρ0 i p σ H' := by
  obtain ⟨S1, Hc, σ0, S', v, r1, x1, s1, x2, rp, e, hn, hi⟩ := h
  refine ⟨S1, Hc, σ0, S', v, r1, x1, s1, ⟨x2.st, x2.in'.trans s, fun a o q1 q2 => ?_⟩, rp, e, hn, hi⟩
  obtain ⟨z1, z2⟩ := x2.ls a o q1 q2
  exact ⟨s _ _ z1, z2⟩
theorem s_chk {i : Nat} {c : E} {a : Ss} {f : List Nat} {t : Dg} {D : Ends} {σ : L2.St} {H : Hp} {K : PySem.W.Frag} {mg : Str → Option Value} {nv : Nat} (h : spDg G nm K mg H0 Se nv W i (.chk f c a t) D σ H) :
    tSeq (tIfS (spT G K mg H0 W c) (spSs G nm K mg H0 Se nv W a) tNext) (spDg G nm K mg H0 Se nv W i t) D σ H := by
  obtain ⟨ρ0, p, fl, ds, h⟩ := h
  unfold eDg at h
  obtain ⟨S', r, x, s, hn⟩ := ds.env
  obtain ⟨S2, r2, x2, s2⟩ := EnvR.frzA x r f
  refine ⟨frzA f (ρ0.set i (.fz p)), S2, r2, (st_term hn r2.h0 h).mono (Same.refl _) fun q _ h => ?_⟩
  cases q with
  | bl k =>
    refine ⟨k, rfl, fun H' S3 x3 => ?_⟩
    have hh := x3.same r2.hs
    cases k with
    | true =>
      obtain ⟨r3, x4⟩ := r.thaw x hh
      have h : AftS K mg H0 Se nv W fl D (noNx (eSs G nm (ρ0.set i (.fz p)) a)) := h
      exact L2.iteT ⟨_, fl, ⟨⟨S', r3, x4, s⟩, hn⟩, noNx_aft (D := D) rfl h⟩
    | false => exact L2.iteF ⟨ρ0, p, fl, ds.later hh, h⟩
  | _ => exact h.elim
theorem RpA_map {K : PySem.W.Frag} {H1 S : Hp} : ∀ {ls : List (List Int)} {vs : List V}, RpA K H1 S (ls.map fun ns => .lst true (ns.map PV.int)) vs → ∀ m (hm : m < ls.length), ∃ b, vs[m]? = some (.ref b) ∧ S b = some (.lst (ls[m].map V.int)) ∧ H1 b = none
  | [], _, _, m, hm => absurd hm (Nat.not_lt_zero m)
  | ns :: ls, vs, r, m, hm => by
    rw [List.map_cons, RpA] at r
    obtain ⟨v, t, e, a, b⟩ := r
    subst e
    cases m with
    | zero =>
      rw [Rp] at a
      obtain ⟨x, ws, e1, q, y, z⟩ := a
      subst e1
      have : ws = ns.map V.int := by
        have key : ∀ {ns : List Int} {ws : List V}, RpA K H1 S (ns.map PV.int) ws → ws = ns.map V.int := by
          intro ns
          induction ns with
          | nil => intro ws z; rw [List.map_nil, RpA] at z; rw [z]; rfl
          | cons n ns ih =>
            intro ws z
            rw [List.map_cons, RpA] at z
            obtain ⟨v, t, e, a, b⟩ := z
            rw [Rp] at a
            rw [e, a, ih b]; rfl
        exact key z
      subst this
      exact ⟨x, rfl, q, y rfl⟩
    | succ m =>
      obtain ⟨x, q1, q2, q3⟩ := RpA_map b m (by simpa using hm)
      exact ⟨x, by simpa using q1, by simpa using q2, q3⟩
/-- two slots given up -/
theorem EnvR.two {K : PySem.W.Frag} {S1 Hc H : Hp} {ρ0 : Rho} {σ0 σ : L2.St} {i w : Nat} (r : EnvR K H0 S1 Hc ρ0 σ0) (s : Same Hc H) (hl : σ.length = σ0.length) (he : ∀ j, j ≠ i → j ≠ w → σ[j]? = σ0[j]?) : EnvR K H0 S1 H ((ρ0.set i .no).set w .no) σ := by
  have g : ∀ {j : Nat} {x : Sl}, ((ρ0.set i .no).set w .no)[j]? = some x → x ≠ .no → j ≠ i ∧ j ≠ w ∧ ρ0[j]? = some x := fun {j x} h hx => by
    rcases get_set h with ⟨_, e⟩ | ⟨e1, e2⟩
    · exact absurd e hx
    · rcases get_set e2 with ⟨_, e⟩ | ⟨e3, e4⟩
      · exact absurd e hx
      · exact ⟨e3, e1, e4⟩
  refine ⟨r.h0.trans s, r.hs.trans s, by rw [List.length_set, List.length_set, r.len, hl], fun j p h => ?_, fun j xs h => ?_, fun j k xs ys a h1 h2 h3 h4 => ?_⟩
  · obtain ⟨q1, q2, q3⟩ := g h (fun z => by cases z)
    obtain ⟨v, a, b⟩ := r.fz j p q3
    exact ⟨v, by rw [he j q1 q2]; exact a, b⟩
  · obtain ⟨q1, q2, q3⟩ := g h (fun z => by cases z)
    obtain ⟨a, vs, k1, k2, k3⟩ := r.own j xs q3
    exact ⟨a, vs, by rw [he j q1 q2]; exact k1, s _ _ k2, k3⟩
  · obtain ⟨q1, q2, q3⟩ := g h1 (fun z => by cases z)
    obtain ⟨q4, q5, q6⟩ := g h2 (fun z => by cases z)
    rw [he j q1 q2] at h3
    rw [he k q4 q5] at h4
    exact r.apart j k xs ys a q3 q6 h3 h4
theorem EnvR.twoOwn {K : PySem.W.Frag} {S1 Hc H : Hp} {ρ0 : Rho} {σ0 σ : L2.St} {i w : Nat} {b : Addr} {ns : List Int} (r : EnvR K H0 S1 Hc ρ0 σ0) (s : Same Hc H) (hl : σ.length = σ0.length) (he : ∀ j, j ≠ i → j ≠ w → σ[j]? = σ0[j]?) (hw : σ[w]? = some (some (.ref b))) (hb : H b = some (.lst (ns.map V.int))) (nb : Hc b = none) :
    EnvR K H0 S1 H ((ρ0.set i .no).set w (.own (ns.map PV.int))) σ := by
  have nS : S1 b = none := r.hs.free nb
  have n0 : H0 b = none := r.h0.free nb
  have g : ∀ {j : Nat} {x : Sl}, ((ρ0.set i .no).set w (.own (ns.map PV.int)))[j]? = some x → x ≠ .no → (j = w ∧ x = .own (ns.map PV.int)) ∨ (j ≠ i ∧ j ≠ w ∧ ρ0[j]? = some x) := fun {j x} h hx => by
    rcases get_set h with ⟨e, e'⟩ | ⟨e1, e2⟩
    · exact .inl ⟨e, e'⟩
    · rcases get_set e2 with ⟨_, e⟩ | ⟨e3, e4⟩
      · exact absurd e hx
      · exact .inr ⟨e3, e1, e4⟩
  have ri : RpA K H0 S1 (ns.map PV.int) (ns.map V.int) := by
    have key : ∀ ns : List Int, RpA K H0 S1 (ns.map PV.int) (ns.map V.int) := by
      intro ns
      induction ns with
      | nil => exact RpA.nil
      | cons n ns ih => exact RpA.cons (by rw [Rp]) ih
    exact key ns
  have apt : ∀ (j : Nat) (ys : List PV) (a : Addr), ρ0[j]? = some (Sl.own ys) → σ0[j]? = some (some (V.ref a)) → a ≠ b := fun j ys a h1 h2 e => by
    obtain ⟨a', vs, k1, k2, _⟩ := r.own j ys h1
    rw [h2] at k1
    injection k1 with k1
    injection k1 with k1
    injection k1 with k1
    rw [← k1, e, nb] at k2; cases k2
  refine ⟨r.h0.trans s, r.hs.trans s, by rw [List.length_set, List.length_set, r.len, hl], fun j p h => ?_, fun j xs h => ?_, fun j k xs ys a h1 h2 h3 h4 => ?_⟩
  · rcases g h (fun z => by cases z) with ⟨_, e⟩ | ⟨q1, q2, q3⟩
    · cases e
    · obtain ⟨v, a, b⟩ := r.fz j p q3
      exact ⟨v, by rw [he j q1 q2]; exact a, b⟩
  · rcases g h (fun z => by cases z) with ⟨e1, e⟩ | ⟨q1, q2, q3⟩
    · injection e with e
      subst e e1
      exact ⟨b, _, hw, hb, nS, n0, ri⟩
    · obtain ⟨a, vs, k1, k2, k3⟩ := r.own j xs q3
      exact ⟨a, vs, by rw [he j q1 q2]; exact k1, s _ _ k2, k3⟩
  · rcases g h1 (fun z => by cases z) with ⟨e1, _⟩ | ⟨q1, q2, q3⟩
    · rcases g h2 (fun z => by cases z) with ⟨e2, _⟩ | ⟨q4, q5, q6⟩
      · rw [e1, e2]
      · subst e1
        rw [hw] at h3
        injection h3 with h3
        injection h3 with h3
        injection h3 with h3
        rw [he k q4 q5] at h4
        exact absurd h3.symm (apt k ys a q6 h4)
    · rcases g h2 (fun z => by cases z) with ⟨e2, _⟩ | ⟨q4, q5, q6⟩
      · subst e2
        rw [hw] at h4
        injection h4 with h4
        injection h4 with h4
        injection h4 with h4
        rw [he j q1 q2] at h3
        exact absurd h4.symm (apt j xs a q3 h3)
      · rw [he j q1 q2] at h3
        rw [he k q4 q5] at h4
        exact r.apart j k xs ys a q3 q6 h3 h4
theorem s_fin {i w : Nat} {c : E} {a : Ss} {f : List Nat} {z : Int} {rest : Ss} {D : Ends} {σ : L2.St} {H : Hp} {K : PySem.W.Frag} {mg : Str → Option Value} {nv : Nat} (hwn : w < nv) (h : spDg G nm K mg H0 Se nv W i (.fin w f c a z rest) D σ H) :
    tSeq (tFor (iList K (tVar i)) (gName w) (tSeq (tIfS (spT G K mg H0 W c) (spSs G nm K mg H0 Se nv W a) tNext) (tDrop (tBM K "list" rAppend (tVar w) (tCons (tC (.int z)) tNil)))))
      (tSeq (tDrop (tBM0 K "list" rClear (tVar i))) (spSs G nm K mg H0 Se nv W rest)) D σ H := by
  obtain ⟨ρ0, p, fl, ds, h⟩ := h
  unfold eDg digIf at h
  split at h
  case isFalse => exact h.elim
  rename_i ok
  obtain ⟨hiw, ls, ep, hsz, hck⟩ := ok
  subst ep
  obtain ⟨S1, Hc, σ0, S', v, r1, x1, s1, x2, rp, e, hn, hi⟩ := ds
  subst e
  rw [Rp] at rp
  obtain ⟨ad, vs, ev, qa, ya, za⟩ := rp
  subst ev
  have nad : Hc ad = none := ya rfl
  have lv : vs.length = ls.length := by have := za.len; rw [List.length_map] at this; exact this
  have get := fun m (hm : m < ls.length) => RpA_map za m hm
  have sH : Same S' H := x2.in'
  have cH : Same Hc H := x2.same r1.hs
  have h0i : (σ0.set i (some (V.ref ad)))[i]? = some (some (.ref ad)) := List.getElem?_set_self (by rw [hn]; exact hi)
  -- the loop
  refine ⟨.ref ad, h0i, ad, rfl, ⟨vs, .of (sH _ _ qa)⟩, ?_⟩
  refine for_list (a := ad) (xs := vs) (fun j σ H => σ.length = nv ∧ (∀ s, s ≠ i → s ≠ w → σ[s]? = σ0[s]?) ∧ σ[i]? = some (some (.ref ad)) ∧ Same Hc H ∧ H ad = some (.lst vs) ∧
      ∀ m (hm : m < ls.length), ∃ b k, vs[m]? = some (.ref b) ∧ Hc b = none ∧ k ≤ j ∧ H b = some (.lst ((ls[m] ++ List.replicate k z).map V.int))) ?_ ?_ ?_ ?_
  · refine ⟨by rw [List.length_set]; exact hn, fun s h1 _ => List.getElem?_set_ne (Ne.symm h1), h0i, cH, sH _ _ qa, fun m hm => ?_⟩
    obtain ⟨b, q1, q2, q3⟩ := get m hm
    exact ⟨b, 0, q1, q3, Nat.le_refl _, by rw [List.replicate_zero, List.append_nil]; exact sH _ _ q2⟩
  · rintro j σ H _ ⟨_, _, _, _, q, _⟩
    exact .of q
  · rintro j x σ H hx ⟨hl, he, hsi, hcs, hla, hall⟩
    have hj : j < ls.length := by rw [← lv]; exact (List.getElem?_eq_some_iff.mp hx).1
    obtain ⟨b, k, q1, q2, q3, q4⟩ := hall j hj
    rw [hx] at q1
    injection q1 with q1
    subst q1
    have hw : (σ.set w (some (V.ref b)))[w]? = some (some (.ref b)) := List.getElem?_set_self (by rw [hl]; exact hwn)
    have env := r1.twoOwn (i := i) (w := w) (σ := σ.set w (some (.ref b))) (H := H) (b := b) (ns := ls[j] ++ List.replicate k z) hcs (by rw [List.length_set, hl, hn]) (fun s h1 h2 => by rw [List.getElem?_set_ne (Ne.symm h2)]; exact he s h1 h2) hw q4 q2
    have xe : Ext Se H0 S1 H := ⟨x1.st, x1.in'.trans hcs, fun a o e1 e2 => by
      obtain ⟨z1, z2⟩ := x1.ls a o e1 e2
      exact ⟨hcs _ _ z1, z2⟩⟩
    obtain ⟨S2, r2, x3, s2⟩ := EnvR.frzA xe env f
    have ck := hck _ (List.getElem_mem hj) k
    show tIfS _ _ _ _ _ _
    refine ⟨_, S2, r2, ?_⟩
    rw [ck]
    refine ⟨false, rfl, fun H' S3 x4 => L2.iteF ?_⟩
    have hh : Same H H' := x4.same r2.hs
    refine ⟨.ref b, hw, .inl ⟨rfl, _, .of (hh _ _ q4)⟩, ?_⟩
    have len : ((ls[j] ++ List.replicate k z).map V.int).length < sizeLine := by
      have := hsz _ (List.getElem_mem hj)
      rw [List.length_map, List.length_append, List.length_replicate]; omega
    refine ⟨b, _, .int z, rfl, rfl, hh _ _ q4, len, ?_⟩
    have nab : ad ≠ b := fun e => by
      rw [e, q4] at hla
      injection hla with hla
      injection hla with hla
      rw [← hla, List.getElem?_map] at hx
      cases hg : (ls[j] ++ List.replicate k z)[j]? <;> rw [hg] at hx <;> simp at hx
    refine ⟨by rw [List.length_set]; exact hl, fun s h1 h2 => by rw [List.getElem?_set_ne (Ne.symm h2)]; exact he s h1 h2, by rw [List.getElem?_set_ne (Ne.symm hiw)]; exact hsi, fun a o e1 => ?_, ?_, fun m hm => ?_⟩
    · have ne : a ≠ b := ne_of_none e1 q2
      rw [upd_ne ne]; exact hh _ _ (hcs _ _ e1)
    · rw [upd_ne nab]; exact hh _ _ hla
    · obtain ⟨b', k', t1, t2, t3, t4⟩ := hall m hm
      by_cases eb : b' = b
      · subst eb
        rw [t4] at q4
        injection q4 with q4
        injection q4 with q4
        refine ⟨b', k' + 1, t1, t2, by omega, ?_⟩
        rw [L2.upd_same, ← q4, List.replicate_succ', ← List.append_assoc, List.map_append (l₁ := ls[m] ++ List.replicate k' z)]
        rfl
      · exact ⟨b', k', t1, t2, by omega, by rw [upd_ne eb]; exact hh _ _ t4⟩
  · rintro σ H ⟨hl, he, hsi, hcs, hla, _⟩
    show (tBM0 K "list" rClear (tVar i)) σ H fun _ H1 => spSs G nm K mg H0 Se nv W rest D σ H1
    refine ⟨.ref ad, hsi, .inl ⟨rfl, vs, .of hla⟩, ad, vs, rfl, rfl, hla, ?_⟩
    have hcs' : Same Hc (upd H ad (.lst [])) := fun a o e1 => by
      have ne : a ≠ ad := ne_of_none e1 nad
      rw [upd_ne ne]; exact hcs _ _ e1
    refine ⟨_, fl, ⟨⟨S1, r1.two (i := i) (w := w) hcs' (by rw [hl, hn]) he, ⟨x1.st, x1.in'.trans hcs', fun a o e1 e2 => ?_⟩, s1⟩, hl⟩, h⟩
    obtain ⟨z1, z2⟩ := x1.ls a o e1 e2
    exact ⟨hcs' _ _ z1, z2⟩
end
end SG

namespace SG
open PySem PySem.Spec PyProof.Rows L2

theorem sw_off {x : Str} {px : Pos} {e : Expr} {c : E} {cp : CP} {n l : Nat} {sc : Scope} {env : Env} (he : env.scope = sc) (h : lcSwap sc x px e = some false) (hc : cE cp n sc e = some c) : swapsWith e (some (.Name x px)) l env = pure false := by
  cases e <;> first
    | rfl
    | (cases n <;> · unfold cE at hc; cases hc)
    | skip
  rename_i elt gens scope lp
  unfold lcSwap at h
  dsimp only at h
  split at h
  · split at h <;> cases h
  · rename_i hl
    have k : (env.kindOf x == some .local) = false := by
      have z : env.kindOf x ≠ some .local := by show env.scope.names.lookup x ≠ _; rw [he]; exact hl
      exact beq_eq_false_iff_ne.mpr z
    unfold swapsWith
    simp only [k]
    simp
theorem sw_drop {e : Expr} {c : E} {cp : CP} {n l : Nat} {sc : Scope} {env : Env} (h : notComp e = true) (hc : cE cp n sc e = some c) : swapsWith e none l env = pure false := by
  cases e <;> first
    | rfl
    | (cases n <;> · unfold cE at hc; cases hc)
    | cases h
theorem sw_tup {e : Expr} {es : List Expr} {k : Nat} {p : Pos} {c : E} {cp : CP} {n l : Nat} {sc : Scope} {env : Env} (h : notComp e = true) (hc : cE cp n sc e = some c) : swapsWithSole [.Tuple es k p] e l env = pure false ∧ swappedStores [.Tuple es k p] e env = pure none := by
  cases e <;> first
    | exact ⟨rfl, rfl⟩
    | (cases n <;> · unfold cE at hc; cases hc)
    | cases h
theorem sw_sub {e o i : Expr} {p : Pos} {c : E} {cp : CP} {n l : Nat} {sc : Scope} {env : Env} (hc : cE cp n sc e = some c) : swapsWithSole [.Subscript o i p] e l env = pure false := by
  cases e <;> first
    | rfl
    | (cases n <;> · unfold cE at hc; cases hc)
theorem fine_sub {i o : Expr} {p : Pos} {env : Env} (h : fineE i = true) (v : Value) : assign (.Subscript o i p) env v = (do
      let ov ← holding [v] (eval o env)
      let iv ← holding [v, ov] (eval i env)
      standAt p
      holding [v, ov, iv] (setItem ov iv v)
      release [v, ov, iv] []) := by
  cases i <;> first | rfl | cases h

section
variable {cp : CP} {G : Gt} {nm : Nm} {lv : Nat} {H0 Se : Hp} {M : List Nat}
def GoodS (cp : CP) (G : Gt) (nm : Nm) (lv : Nat) (H0 Se : Hp) (M : List Nat) (n : Nat) : Prop := ∀ (sc : Scope) (X : Cx) (W : WX), SOk cp G lv H0 X sc W → TryH cp G nm lv X.prog X.w X.K X.mg X.base →
  ∀ st c, cS cp M n sc st = some c → PS X st (spS G nm X.K X.mg H0 Se cp.N.length W c)
def GoodSs (cp : CP) (G : Gt) (nm : Nm) (lv : Nat) (H0 Se : Hp) (M : List Nat) (n : Nat) : Prop := ∀ (sc : Scope) (X : Cx) (W : WX), SOk cp G lv H0 X sc W → TryH cp G nm lv X.prog X.w X.K X.mg X.base →
  ∀ st c, cSs cp M n sc st = some c → PSs X st (spSs G nm X.K X.mg H0 Se cp.N.length W c)
theorem locB_self {sc : Scope} {x : Str} (h : locB sc sc x = true) : Loc sc x := by
  unfold locB at h
  simp only [Bool.or_eq_true, Bool.and_eq_true, decide_eq_true_eq] at h
  rcases h with h | ⟨h, _⟩
  · exact .inl h
  · exact .inr h
theorem visB_of_name {X : Cx} {sc : Scope} {W : WX} (o : SOk cp G lv H0 X sc W) {x : Str} {v : Nat} {p : Pos} (h : nameV cp sc x = some v) : PE X (.Name x p) (tVar v) := by
  unfold nameV at h
  split at h
  · rename_i q
    obtain ⟨p1, p2, _⟩ := plain_of q.1
    exact pe_var (by rw [o.x.N]; exact ixOf_get0 h) (vis_of o.x q.2) p1 p2
  · cases h
/-- a name and its value -/
theorem ps_name {X : Cx} {sc : Scope} {W : WX} (o : SOk cp G lv H0 X sc W) {n : Nat} {x : Str} {px pos : Pos} {e : Expr} {i : Nat} {c : E} {b : Bool} (ht : tgt1 cp sc sc (.Name x px) = some i) (hc : cE cp n sc e = some c) (hl : lcSwap sc x px e = some b) :
    PS X (.Assign [.Name x px] e pos) (tAsg (spE G X.K X.mg H0 W c) (gName i)) := by
  have ht : (if locB sc sc x = true then ixOf x cp.N 0 else none) = some i := ht
  split at ht
  case isFalse => cases ht
  rename_i hloc
  have hN : X.N[i]? = some x := by rw [o.x.N]; exact ixOf_get0 ht
  have hL : Loc X.env.scope x := by rw [o.x.sc]; exact locB_self hloc
  cases b with
  | false => exact ps_set (by rw [o.x.N]; exact o.x.nd) hN hL ((good n).1 sc X W o.x e c hc).1 (sw_off o.x.sc hl hc) (.inl (o.fn x))
  | true =>
    cases e <;> first | (unfold lcSwap at hl; cases hl) | skip
    rename_i elt gens scope lp
    unfold lcSwap at hl
    dsimp only at hl
    split at hl
    case isFalse => cases hl
    rename_i hloc2
    split at hl
    case isFalse => cases hl
    rename_i hsw
    have hyl : X.env.scope.names.lookup x = some .local := by rw [o.x.sc]; exact hloc2
    cases n with
    | zero => unfold cE at hc; cases hc
    | succ n =>
      obtain ⟨ihE, ihEs, ihI⟩ := good (cp := cp) (G := G) (lv := lv) (H0 := H0) n
      unfold cE at hc
      dsimp only at hc
      split at hc
      · rename_i tg it ifs
        split at hc
        · rename_i hb
          have ok : BlkOk X.N X.env.scope scope (ownOf cp.N scope.names) := by rw [o.x.N, o.x.sc]; exact blk_of hb
          have sw : swapsWith (.ListComp elt [⟨tg, it, ifs, 0⟩] scope lp) (some (.Name x px)) pos.line X.env = pure true := sw_true (by rw [o.x.sc]; exact o.kind) hyl hsw.1 hsw.2
          split at hc
          · rename_i single is it' elt' h1 h2 h3
            split at hc
            · rename_i hsub
              obtain ⟨gi, gf⟩ := ihI sc X W o.x tg it it' h2
              obtain ⟨L, t⟩ := o.x.thr
              have gg := fun (σ : L2.St) (s : Shared) (H : Hp) (C : Addr) (cl : List (Str × Addr)) (fp : List Addr) (ex : Value → Shared → Prop) (t : ThrOk cp.md (blkE X s H scope (compEnvC scope cl C X.env) fp ex) L (Wb W σ)) => g_tgt (o.x.blk t) (fn_blk o.x scope s H C cl fp ex) h1
              have ge := fun (σ : L2.St) (s : Shared) (H : Hp) (C : Addr) (cl : List (Str × Addr)) (fp : List Addr) (ex : Value → Shared → Prop) (t : ThrOk cp.md (blkE X s H scope (compEnvC scope cl C X.env) fp ex) L (Wb W σ)) => (ihE _ _ _ (o.x.blk t) elt elt' h3).1
              split at hc
              · injection hc with hc; subst hc
                exact ps_imp (ps_setLcX t (tT := fun _ => tYes) (te := fun σ => spE G X.K X.mg H0 (Wb W σ) elt') o.x.calm (by rw [o.x.N]; exact o.x.nd) hN hyl sw gi ok gg (fun _ _ _ _ _ _ _ _ => pts_nil) ge (gf X.env)) fun D σ H h => comp_lc hsub h
              · rename_i c0
                cases h4 : cE cp n (relS scope sc) c0 with
                | none => rw [h4] at hc; cases hc
                | some c' =>
                  rw [h4] at hc
                  injection hc with hc; subst hc
                  have gt := fun (σ : L2.St) (s : Shared) (H : Hp) (C : Addr) (cl : List (Str × Addr)) (fp : List Addr) (ex : Value → Shared → Prop) (t : ThrOk cp.md (blkE X s H scope (compEnvC scope cl C X.env) fp ex) L (Wb W σ)) => (ihE _ _ _ (o.x.blk t) c0 c' h4).2.1
                  exact ps_imp (ps_setLcX t (tT := fun σ => spT G X.K X.mg H0 (Wb W σ) c') (te := fun σ => spE G X.K X.mg H0 (Wb W σ) elt') o.x.calm (by rw [o.x.N]; exact o.x.nd) hN hyl sw gi ok gg (fun σ s H C cl fp ex t => pts_one (gt σ s H C cl fp ex t)) ge (gf X.env)) fun D σ H h => compIf_lc hsub h
              · cases hc
            · cases hc
          · cases hc
        · cases hc
      · cases hc
theorem methE_of {e : Expr} {x m : Str} {ap cpos : Pos} {args : List Expr} (h : methE e = some (x, m, ap, args, cpos)) : ∃ q, e = .Call (.Attribute (.Name x q) m ap) args [] cpos := by
  unfold methE at h
  split at h
  · injection h with h; injection h with h1 h; injection h with h2 h; injection h with h3 h; injection h with h4 h5
    subst h1; subst h2; subst h3; subst h4; subst h5
    exact ⟨_, rfl⟩
  · cases h

theorem cpyOf_of {M : List Nat} {i : Nat} {c : E} {v : Nat} (h : cpyOf M i c = some v) : c = .bi .list (.cons (.var v) .nil) := by
  unfold cpyOf at h
  split at h
  · split at h
    · injection h with h; rw [h]
    · cases h
  · cases h
def GoodDs (cp : CP) (G : Gt) (nm : Nm) (lv : Nat) (H0 Se : Hp) (M : List Nat) (n : Nat) : Prop := ∀ (sc : Scope) (X : Cx) (W : WX), SOk cp G lv H0 X sc W → TryH cp G nm lv X.prog X.w X.K X.mg X.base →
  ∀ s r d, cDs cp M n sc s r = some d → PSs X (s :: r) (spS G nm X.K X.mg H0 Se cp.N.length W d)
def GoodDg (cp : CP) (G : Gt) (nm : Nm) (lv : Nat) (H0 Se : Hp) (M : List Nat) (n : Nat) : Prop := ∀ (sc : Scope) (X : Cx) (W : WX), SOk cp G lv H0 X sc W → TryH cp G nm lv X.prog X.w X.K X.mg X.base →
  ∀ x i l t, ixOf x cp.N 0 = some i → cDg cp M n sc x l = some t → PSs X l (spDg G nm X.K X.mg H0 Se cp.N.length W i t)
theorem nameV_ix {cp : CP} {sc : Scope} {x : Str} {v : Nat} (h : nameV cp sc x = some v) : ixOf x cp.N 0 = some v := by
  unfold nameV at h
  split at h
  · exact h
  · cases h
theorem tgt1_ix {cp : CP} {sc : Scope} {x : Str} {px : Pos} {v : Nat} (h : tgt1 cp sc sc (.Name x px) = some v) : locB sc sc x = true ∧ ixOf x cp.N 0 = some v := by
  have h : (if locB sc sc x = true then ixOf x cp.N 0 else none) = some v := h
  split at h
  · exact ⟨by assumption, h⟩
  · cases h
theorem goodS (se : Same Se H0) : ∀ n, (GoodS cp G nm lv H0 Se M n ∧ GoodSs cp G nm lv H0 Se M n) ∧ GoodDs cp G nm lv H0 Se M n ∧ GoodDg cp G nm lv H0 Se M n := by
  intro n
  induction n with
  | zero =>
    refine ⟨⟨fun sc X W o t st c h => ?_, fun sc X W o t st c h => ?_⟩, fun sc X W o t s r d h => ?_, fun sc X W o t x i l dg hx h => ?_⟩
    · unfold cS at h; cases h
    · unfold cSs at h; cases h
    · unfold cDs at h; cases h
    · unfold cDg at h; cases h
  | succ n ih =>
    obtain ⟨⟨ihS, ihSs⟩, ihDs, ihDg⟩ := ih
    refine ⟨⟨fun sc X W o t st c h => ?_, fun sc X W o t st c h => ?_⟩, fun sc X W o t s r d h => ?_, fun sc X W o t x i l dg hx h => ?_⟩
    · have gE := fun (e : Expr) (c : E) (h : cE cp n sc e = some c) => ((good (cp := cp) (G := G) (lv := lv) (H0 := H0) n).1 sc X W o.x e c h).1
      have gT := fun (e : Expr) (c : E) (h : cE cp n sc e = some c) => ((good (cp := cp) (G := G) (lv := lv) (H0 := H0) n).1 sc X W o.x e c h).2.1
      have gSs := fun (l : List Stmt) (c : Ss) (h : cSs cp M n sc l = some c) => ihSs sc X W o t l c h
      unfold cS at h
      split at h
      · -- return
        split at h
        · rename_i e
          cases h1 : cE cp n sc e with
          | none => rw [h1] at h; cases h
          | some c1 =>
            rw [h1] at h
            injection h with h; subst h
            exact ps_imp (ps_ret (gE e c1 h1)) fun D σ H q => s_ret q
        · cases h
      · -- an expression
        rename_i e pos
        split at h
        · rename_i x m ap args cpos hm
          obtain ⟨q, rfl⟩ := methE_of hm
          split at h
          · rename_i hline
            split at h
            · rename_i v a hv
              split at h
              · rename_i a' ha
                have hs := fun r => fine_star (fine_of ha) r X.env
                split at h
                · rename_i em
                  subst em
                  injection h with h; subst h
                  exact ps_imp (ps_expr (pe_bm PySem.F.plainAttrs_list PySem.F.slot_list_append PySem.F.type_list_append mt_append (visB_of_name o hv) (pa_cons (gE a a' ha) pa_nil (hs [])) rfl (by rw [hs]; rfl) hline (hs []) rfl)) fun D σ H q => s_app q
                · split at h
                  · rename_i em
                    subst em
                    injection h with h; subst h
                    exact ps_imp (ps_expr (pe_bm PySem.F.plainAttrs_list PySem.F.slot_list_extend PySem.F.type_list_extend mt_extend (visB_of_name o hv) (pa_cons (gE a a' ha) pa_nil (hs [])) rfl (by rw [hs]; rfl) hline (hs []) rfl)) fun D σ H q => s_ext q
                  · cases h
              · cases h
            · rename_i v hv
              split at h
              · rename_i em
                subst em
                injection h with h; subst h
                exact ps_imp (ps_expr (pe_bm0 PySem.F.plainAttrs_list PySem.F.slot_list_reverse PySem.F.type_list_reverse mt_reverse (visB_of_name o hv) rfl hline)) fun D σ H q => s_rev q
              · split at h
                · rename_i em
                  subst em
                  injection h with h; subst h
                  exact ps_imp (ps_expr (pe_bm0 PySem.F.plainAttrs_list PySem.F.slot_list_clear PySem.F.type_list_clear mt_clear (visB_of_name o hv) rfl hline)) fun D σ H q => s_clr q
                · cases h
            · cases h
          · cases h
        · split at h
          · rename_i hn
            cases h1 : cE cp n sc e with
            | none => rw [h1] at h; cases h
            | some c1 =>
              rw [h1] at h
              injection h with h; subst h
              exact ps_imp (ps_expr (gE e c1 h1) (sw_drop hn h1)) fun D σ H q => s_ex q
          · cases h
      · -- a value and its place
        rename_i ts e pos
        split at h
        · rename_i x px
          split at h
          · rename_i i c1 b ht h1 hl
            have P := ps_name (pos := pos) o ht h1 hl
            split at h
            · rename_i v hv
              injection h with h; subst h
              have e := cpyOf_of hv
              subst e
              exact ps_imp P fun D σ H q => s_cpy q
            · injection h with h
              split at h
              · subst h; exact ps_imp P fun D σ H q => s_asgM q
              · subst h; exact ps_imp P fun D σ H q => s_asg q
          · cases h
        · rename_i es k p
          split at h
          · rename_i is c1 ht h1
            split at h
            · rename_i hn
              injection h with h; subst h
              have hg : tgt cp sc sc (.Tuple es k p) = some (false, is) := by show Option.map (fun is => (false, is)) (tgts cp sc sc es) = _; rw [ht]; rfl
              obtain ⟨w1, w2⟩ := sw_tup (es := es) (k := k) (p := p) (l := pos.line) (env := X.env) hn h1
              exact ps_imp (ps_asg (gE e c1 h1) (g_tgt o.x o.fn' hg) w1 w2 rfl) fun D σ H q => s_asgT q
            · cases h
          · cases h
        · rename_i x xp i ip
          split at h
          · rename_i v i' c1 hv hi h1
            injection h with h; subst h
            exact ps_imp (ps_asg (gE e c1 h1) (pg_sub (visB_of_name o hv) (gE i i' hi) set_list (fine_sub (fine_of hi))) (sw_sub h1) rfl rfl) fun D σ H q => s_setI q
          · cases h
        · cases h
      · -- if
        split at h
        · rename_i c1 a b h1 h2 h3
          injection h with h; subst h
          exact ps_imp (ps_if (gT _ _ h1) (gSs _ _ h2) (gSs _ _ h3)) fun D σ H q => s_if q
        · cases h
      · -- while
        split at h
        · split at h
          · rename_i c1 b h1 h2
            injection h with h; subst h
            exact ps_imp (ps_while o.passes (gT _ _ h1) (gSs _ _ h2)) fun D σ H q => s_while q
          · cases h
        · cases h
      · -- for
        rename_i tg it b els pos
        split at h
        · split at h
          · rename_i single is it' b' h1 h2 h3
            injection h with h; subst h
            obtain ⟨gi, gf⟩ := (good (cp := cp) (G := G) (lv := lv) (H0 := H0) n).2.2 sc X W o.x tg it it' h2
            exact ps_imp (ps_for o.passes o.x.calm gi (g_tgt o.x o.fn' h1) (gSs _ _ h3) (gf X.env)) fun D σ H q => s_for q
          · cases h
        · cases h
      · -- raise
        split at h
        · rename_i q
          injection h with h; subst h
          exact s_rse o q.1 q.2.1 q.2.2
        · cases h
      · -- try
        split at h
        · rename_i q
          obtain ⟨tr, rfl, hp, g1, g2, hx⟩ := q
          split at h
          · rename_i i b hi hb
            have TB := fun (hh : Expr) (wrap : Bool) (rp np pos' pos : Pos) (k : ∀ (a : Addr) (oe : Obj) (cls : Value) (d : Option Addr) (pn : List (Addr × Obj)), Zc cls d oe → (∃ vs, oe.data = .fields vs) → PE (X.suite a ((a, oe) :: pn)) hh (tNm X.K X.mg nm H0 Se i wrap a cls d)) =>
              s_tryN (np := np) (rp := rp) (pos := pos) (pos' := pos') (h := hh) o (t.tr tr).1 (t.tr tr).2.1 se (t.tr tr).2.2 (ixOf_get0 hi) hx g1 (b := b) (fun X' W' e1 e2 e3 e4 e5 o' => ihSs sc X' W' o' (by rw [e1, e2, e3, e4, e5]; exact t) _ b hb) k
            split at h
            · rename_i y yp x' xp cp'
              split at h
              · rename_i e
                obtain ⟨rfl, rfl⟩ := e
                injection h with h; subst h
                exact TB _ false _ _ _ _ fun a oe cls d pn hz hd => h_nm false (pos := cp') se hz hd (X := X.suite a ((a, oe) :: pn)) (h_val o (t.tr tr).2.2 (ixOf_get0 hi) hx hp g2) rfl
              · cases h
            · rename_i y yp x' xp cp' lp
              split at h
              · rename_i e
                obtain ⟨rfl, rfl⟩ := e
                injection h with h; subst h
                exact TB _ true _ _ _ _ fun a oe cls d pn hz hd => h_nm true (pos := lp) se hz hd (X := X.suite a ((a, oe) :: pn)) (h_val o (t.tr tr).2.2 (ixOf_get0 hi) hx hp g2) rfl
              · cases h
            · cases h
          · cases h
        · cases h
      · -- try, whose suite raises
        rename_i g gp a as cpos ep c np d dp m mj mp dpos rp hp pos
        split at h
        · rename_i q
          obtain ⟨hg, gg, pg, hc, gc, pc, hd, gd, pd⟩ := q
          cases h1 : cEs cp n sc (a :: as) with
          | none => rw [h1] at h; cases h
          | some es =>
            rw [h1] at h
            injection h with h; subst h
            have hf : fineE a = true ∧ ∀ env, (backTo cpos (starEach as env)).any (·.1) = false := by
              cases n with
              | zero => unfold cEs at h1; cases h1
              | succ n =>
                unfold cEs at h1
                dsimp only at h1
                split at h1
                · rename_i _ _ q1 q2; exact ⟨fine_of q1, fun env => fine_args q2⟩
                · cases h1
            exact s_tryX o t hg gg pg hc gc pc hd gd pd (fun env => fine_star hf.1 _ _) hf.2 fun X' W' o' _ _ => (good (cp := cp) (G := G) (lv := lv) (H0 := H0) n).2.1 sc X' W' o' _ es h1
        · cases h
      · cases h
    · unfold cSs at h
      split at h
      · injection h with h; subst h
        refine ⟨fun pins s σ H D I q => pss_nil.run pins s σ H D I ?_⟩
        obtain ⟨ρ, f, r, q⟩ := q
        unfold eSs at q
        exact q σ H r
      · rename_i st0 rest
        split at h
        · rename_i d hd
          injection h with h; subst h
          refine pss_imp (ihDs sc X W o t _ _ _ hd) fun D σ H q => ?_
          obtain ⟨ρ, f, r, q⟩ := q
          unfold eSs eSs at q
          refine ⟨ρ, f, r, ?_⟩
          cases ho : eS G nm ρ d <;> rw [ho] at q <;> exact q
        · split at h
          · rename_i r' h2
            injection h with h; subst h
            have key : PS X st0 (spS G nm X.K X.mg H0 Se cp.N.length W ((cS cp M n sc st0).getD .nev)) := by
              cases h1 : cS cp M n sc st0 with
              | some s' => exact ihS sc X W o t _ _ h1
              | none =>
                refine ps_imp ps_never fun D σ H q => ?_
                obtain ⟨ρ, f, r, q⟩ := q
                unfold Option.getD eS at q
                exact q
            generalize (cS cp M n sc st0).getD .nev = s' at key ⊢
            refine pss_imp (pss_cons key (ihSs sc X W o t _ _ h2)) fun D σ H q => ?_
            obtain ⟨ρ, f, r, q⟩ := q
            unfold eSs at q
            refine ⟨ρ, f, r, ?_⟩
            cases ho : eS G nm ρ s' with
            | nx ρ1 => rw [ho] at q; exact fun σ' H' z => ⟨ρ1, f, z, q⟩
            | ret p => rw [ho] at q; exact q
            | err C => rw [ho] at q; exact q
            | no => rw [ho] at q; exact q.elim
          · cases h
    · -- a call whose lists are changed within
      unfold cDs at h
      split at h
      · rename_i x px g gp a as cpos apos
        split at h
        · rename_i hq
          obtain ⟨_, hg1, hg2, hns⟩ := hq
          split at h
          · rename_i i es t' h1 h2 h3
            injection h with h; subst h
            obtain ⟨hloc, hix⟩ := tgt1_ix h1
            have hN : X.N[i]? = some x := by rw [o.x.N]; exact ixOf_get0 hix
            have hi : i < cp.N.length := (List.getElem?_eq_some_iff.mp (ixOf_get0 hix)).1
            have hL : Loc X.env.scope x := by rw [o.x.sc]; exact locB_self hloc
            have hf : fineE a = true ∧ (backTo cpos (starEach as X.env)).any (·.1) = false := by
              cases n with
              | zero => unfold cEs at h2; cases h2
              | succ n =>
                unfold cEs at h2
                dsimp only at h2
                split at h2
                · rename_i _ _ q1 q2; exact ⟨fine_of q1, fine_args q2⟩
                · cases h2
            have call := s_callC (p := gp) (pos := cpos) o.x hns hg1 hg2 (fine_star hf.1 _ _) hf.2 ((good (cp := cp) (G := G) (lv := lv) (H0 := H0) n).2.1 sc X W o.x _ _ h2)
            exact pss_imp (pss_cons (ps_set (pos' := px) (by rw [o.x.N]; exact o.x.nd) hN hL call rfl (.inl (o.fn x))) (ihDg sc X W o t x i _ _ hix h3)) fun D σ H q => s_dig hi q
          · cases h
        · cases h
      · cases h
    · -- the looks and the loop
      have gT := fun (e : Expr) (c : E) (h : cE cp n sc e = some c) => ((good (cp := cp) (G := G) (lv := lv) (H0 := H0) n).1 sc X W o.x e c h).2.1
      have gSs := fun (l : List Stmt) (c : Ss) (h : cSs cp M n sc l = some c) => ihSs sc X W o t l c h
      unfold cDg at h
      split at h
      · split at h
        · rename_i c1 a1 t1 h1 h2 h3
          injection h with h; subst h
          exact pss_imp (pss_cons (ps_if (gT _ _ h1) (gSs _ _ h2) pss_nil) (ihDg sc X W o t x i _ _ hx h3)) fun D σ H q => s_chk q
        · cases h
      · split at h
        · rename_i hq
          obtain ⟨rfl, rfl, rfl, rfl, rfl, l1, l2⟩ := hq
          split at h
          · rename_i w vy vx c1 a1 r1 h1 hy hv h2 h3 h4
            injection h with h; subst h
            obtain ⟨hloc, hwx⟩ := tgt1_ix h1
            have hNw := ixOf_get0 hwx
            rw [← o.x.N] at hNw
            have hw : w < cp.N.length := (List.getElem?_eq_some_iff.mp (ixOf_get0 hwx)).1
            have hL := locB_self hloc
            rw [← o.x.sc] at hL
            have ey := nameV_ix hy
            rw [hwx] at ey
            injection ey with ey
            subst ey
            have ex := nameV_ix hv
            rw [hx] at ex
            injection ex with ex
            subst ex
            exact pss_imp (pss_cons (ps_for o.passes o.x.calm (pi_list (visB_of_name o hv)) (pg_name (by rw [o.x.N]; exact o.x.nd) hNw hL (.inl (o.fn _)))
                (pss_cons (ps_if (gT _ _ h2) (gSs _ _ h3) pss_nil) (pss_one (ps_expr (pe_bm PySem.F.plainAttrs_list PySem.F.slot_list_append PySem.F.type_list_append mt_append (visB_of_name o hy) (pa_cons pe_int pa_nil rfl) rfl rfl l1 rfl rfl)))))
              (pss_cons (ps_expr (pe_bm0 PySem.F.plainAttrs_list PySem.F.slot_list_clear PySem.F.type_list_clear mt_clear (visB_of_name o hv) rfl l2)) (gSs _ _ h4))) fun D σ H q => s_fin hw q
          · cases h
        · cases h
      · cases h
end
end SG

namespace SG
open PySem PySem.Spec PyProof.Rows L2

section
variable {P : Program} {w : World} {K : PySem.W.Frag} {mg : Str → Option Value} {base : Heap}
/-- the module's standing facts -/
structure Mod (cp : CP) (B : Str → Option FI) (nm : Nm) (P : Program) (w : World) (K : PySem.W.Frag) (mg : Str → Option Value) (base : Heap) : Prop where
  blt : ∀ x, bltNames.contains x = true → mg x = none
  gi : ∀ x i, cp.gi.lookup x = some i → ∃ t, mg x = some (.int i t)
  gs : ∀ x z, cp.gs.lookup x = some z → ∃ t, mg x = some (.str z t)
  cls : ∀ C, cp.cl.contains C = true → ClsF K mg C
  tr : cp.tr = true → cp.md = false ∧ ∀ k, TryF (nmAt nm k) k P w K mg base
  hot : ∀ k x, cp.hx.contains x = true → cp.md = false ∧ ∃ f fd ps, mg x = some (.ref f) ∧ PySem.W.keepIn K (.ref f) = true ∧ Binds K fd ps [] ∧ FnOk P w K mg base (L2N.CX P w) k f fd ps (spF K mg (callF B nm k x))
  exm : cp.hx ≠ [] → ∀ C, cp.cl.contains C = true → ∀ ca, mg C = some (.ref ca) → PySem.W.exmOne K (.ref ca) (.ref ca) = some true
/-- a def's own reading: with no try whose suite raises, or with no other one -/
def cpq (cp : CP) (N : List Str) : Bool → CP
  | false => { cp with N := N, hx := [] }
  | true => { cp with N := N, tr := false }
/-- a def of the text and its term -/
structure DefP (K : PySem.W.Frag) (mg : Str → Option Value) (cp : CP) (B : Str → Option FI) (x : Str) (f : Addr) (fd : FuncData) (ps : List Str) : Prop where
  ex : ∃ (q : Bool) (st : Stmt) (N : List Str) (body : Ss) (n : Nat) (M : List Nat), L2.Fun K x x st f fd ∧ mg x = some (.ref f) ∧ Binds K fd ps [] ∧ FnScope N ps (defScope st) ∧
    cSs (cpq cp N q) M n (defScope st) (defBody st) = some body ∧ B x = some ⟨ps.length, N.length, body⟩
def DefF (K : PySem.W.Frag) (mg : Str → Option Value) (cp : CP) (B : Str → Option FI) (x : Str) : Prop := ∃ (f : Addr) (fd : FuncData) (ps : List Str), DefP K mg cp B x f fd ps

theorem start_get {nv : Nat} {ps : List PV} {i : Nat} {s : Sl} (h : (startR nv ps)[i]? = some s) : (∃ p, ps[i]? = some p ∧ s = .fz p) ∨ (ps.length ≤ i ∧ s = .no) := by
  unfold startR at h
  by_cases hi : i < ps.length
  · rw [List.getElem?_append_left (by rw [List.length_map]; exact hi), List.getElem?_map, List.getElem?_eq_getElem hi] at h
    injection h with h
    exact .inl ⟨ps[i], List.getElem?_eq_getElem hi, h.symm⟩
  · rw [List.getElem?_append_right (by rw [List.length_map]; omega)] at h
    obtain ⟨q, e⟩ := List.getElem?_eq_some_iff.mp h
    rw [List.getElem_replicate] at e
    exact .inr ⟨by omega, e.symm⟩
theorem RpA.at {K : PySem.W.Frag} {H0 S : Hp} : ∀ {ps : List PV} {vs : List V} {i : Nat} {p : PV}, RpA K H0 S ps vs → ps[i]? = some p → ∃ v, vs[i]? = some v ∧ Rp K H0 S p v
  | [], _, _, _, _, h => by simp at h
  | x :: xs, vs, 0, p, r, h => by
    rw [RpA] at r
    obtain ⟨v, r', e, a, b⟩ := r
    subst e
    simp at h
    subst h
    exact ⟨v, rfl, a⟩
  | x :: xs, vs, i + 1, p, r, h => by
    rw [RpA] at r
    obtain ⟨v, r', e, a, b⟩ := r
    subst e
    exact RpA.at (i := i) b (by simpa using h)
theorem env_start {N : List Str} {ps : List PV} {vs : List V} {S H H1 : Hp} (s : Same S H) (r : RpA K H1 S ps vs) (hl : vs.length ≤ N.length) : EnvR K H S H (startR N.length (PV.olds ps)) (L2.start N vs) := by
  have r' : RpA K H S (PV.olds ps) vs := RpA.oldM r
  have l2 : vs.length = (PV.olds ps).length := by have := r'.len; omega
  have noOwn : ∀ (i : Nat) (xs : List PV), (startR N.length (PV.olds ps))[i]? ≠ some (.own xs) := fun i xs h => by
    rcases start_get h with ⟨p, _, e⟩ | ⟨_, e⟩ <;> cases e
  refine ⟨Same.refl _, s, ?_, fun i p h => ?_, fun i xs h => absurd h (noOwn i xs), fun i j xs ys a h _ _ _ => absurd h (noOwn i xs)⟩
  · unfold startR L2.start
    rw [List.length_append, List.length_append, List.length_map, List.length_map, List.length_replicate, List.length_replicate]
    omega
  · rcases start_get h with ⟨q, hq, e⟩ | ⟨_, e⟩
    · injection e with e
      subst e
      obtain ⟨v, hv, hr⟩ := RpA.at r' hq
      refine ⟨v, ?_, hr⟩
      unfold L2.start
      have hi : i < vs.length := (List.getElem?_eq_some_iff.mp hv).1
      rw [List.getElem?_append_left (by rw [List.length_map]; exact hi), List.getElem?_map, hv]
      rfl
    · cases e
theorem okB {CX : CXT} {x qual : Str} {st : Stmt} {f : Addr} {fd : FuncData} {N ps : List Str} {k : Nat} {sp : Sp} (F : L2.Fun K x qual st f fd) (S : FnScope N ps (defScope st)) (len : ∀ (vs : List V) (H : Hp) (Q : VK) (E : XK), sp vs H Q E → vs.length = ps.length)
    (hbody : ∀ (cdv : Value) (A : Around) (outer : List Env) (s : Shared) (H : Hp) (vs : List V) (Q : VK) (E : XK), Room k (A.deeper (envOfC qual (defScope st) s.heap.objs.size f cdv)) → sp vs H Q E →
      ∃ t, PSs (cxOf CX P w K mg base N qual (defScope st) f cdv A outer s H E) (defBody st) t ∧ t { nx := fun _ H' => Q .non H', rt := Q } (L2.start N vs) H) : FnOk P w K mg base CX (k + 1) f fd ps sp := by
  obtain ⟨oc, od, kV, doc, pm, an, cdv, ct, osl, rfl, lk, hcd⟩ := F.ex
  exact fn_of lk hcd S len fun A outer s H vs Q E hr hsp => hbody cdv A outer s H vs Q E hr hsp
theorem takes_cx {md : Bool} {N : List Str} {x : Str} {sc : Scope} {f : Addr} {cdv : Value} {A : Around} {outer : List Env} {s : Shared} {H : Hp} {E : XK} : TakesB md (cxOf (CXB md P w) P w K mg base N x sc f cdv A outer s H E) (fun cls d _ H => E cls d H) := by
  cases md
  · exact takes_of rfl rfl rfl rfl
  · exact L2N.takes_of rfl rfl rfl rfl
theorem fn_step {cp : CP} {B : Str → Option FI} {nm : Nm} (m : Mod cp B nm P w K mg base) {k : Nat}
    (ih : ∀ x, cp.ns.contains x = true → ∃ f fd ps, mg x = some (.ref f) ∧ PySem.W.keepIn K (.ref f) = true ∧ Binds K fd ps [] ∧ FnOk P w K mg base (CXB cp.md P w) k f fd ps (spF K mg (callF B nm k x)))
    {x : Str} {f : Addr} {fd : FuncData} {ps : List Str} (d : DefP K mg cp B x f fd ps) : FnOk P w K mg base (CXB cp.md P w) (k + 1) f fd ps (spF K mg (callF B nm (k + 1) x)) := by
  obtain ⟨q, st, N, body, n, M, F, hm, hb, S, hc, hB⟩ := d.ex
  have ex : ∀ {vs H Q E}, spF K mg (callF B nm (k + 1) x) vs H Q E → ∃ S qs H1, Same S H ∧ RpA K H1 S qs vs ∧ qs.length = ps.length ∧ ∃ o, o = eSs (callF B nm k) (nmAt nm k) (startR N.length (PV.olds qs)) body ∧ match o with
      | .nx _ => ∀ v H' S', Ext S H S' H' → Rp K H S' .non v → Q v H'
      | .ret p => ∀ v H' S', Ext S H S' H' → Rp K H S' p v → Q v H'
      | .err C => ∀ a, mg C = some (.ref a) → ∀ H', Same H H' → E (.ref a) none H'
      | .no => False := fun {vs H Q E} ⟨S, qs, H1, h1, h2, h3⟩ => by
    have e : callF B nm (k + 1) x qs = runF (callF B nm k) (nmAt nm k) ⟨ps.length, N.length, body⟩ qs := by
      show (match B x with | some fi => runF (callF B nm k) (nmAt nm k) fi qs | none => .no) = _
      rw [hB]
    rw [e] at h3
    unfold runF at h3
    dsimp only at h3
    by_cases hl : qs.length = ps.length
    · rw [if_pos hl] at h3
      refine ⟨S, qs, H1, h1, h2, hl, _, rfl, ?_⟩
      cases ho : eSs (callF B nm k) (nmAt nm k) (startR N.length (PV.olds qs)) body with
      | nx ρ => rw [ho] at h3; exact h3
      | ret p => rw [ho] at h3; exact h3
      | err C => rw [ho] at h3; exact h3
      | no => rw [ho] at h3; exact h3
    · rw [if_neg hl] at h3; exact h3.elim
  refine okB F S (fun vs H Q E h => ?_) fun cdv A outer s H vs Q E hr h => ?_
  · obtain ⟨_, qs, _, _, h2, hl, _⟩ := ex h
    have := h2.len; omega
  · obtain ⟨Se, qs, H1, h1, h2, hl, o, ho, h3⟩ := ex h
    have hvl : vs.length ≤ N.length := by
      have := congrArg List.length S.pre
      rw [List.length_take] at this
      have := h2.len; omega
    have tk : TakesB cp.md (cxOf (CXB cp.md P w) P w K mg base N x (defScope st) f cdv A outer s H E) (fun cls d _ H => E cls d H) := takes_cx
    have qm : (cpq cp N q).md = cp.md := by cases q <;> rfl
    have qN : (cpq cp N q).N = N := by cases q <;> rfl
    have qn : (cpq cp N q).ns = cp.ns := by cases q <;> rfl
    have qi : (cpq cp N q).gi = cp.gi := by cases q <;> rfl
    have qgs : (cpq cp N q).gs = cp.gs := by cases q <;> rfl
    have ql : (cpq cp N q).cl = cp.cl := by cases q <;> rfl
    have O : SOk (cpq cp N q) (callF B nm k) k H (cxOf (CXB cp.md P w) P w K mg base N x (defScope st) f cdv A outer s H E) (defScope st) (fun cls d _ H => E cls d H) := by
      refine ⟨⟨by rw [qN]; rfl, by rw [qN]; exact S.nd, rfl, rfl, hr, ⟨_, by rw [qm]; exact ThrOk.of tk rfl rfl⟩, ⟨m.blt, by rw [qi]; exact m.gi, by rw [qgs]; exact m.gs, fun y hy => ?_⟩⟩, S.kind, fun _ => rfl, by rw [qm]; exact tk, passes_of rfl, fun _ => L2H.passesAt_of rfl, rfl, rfl, by rw [ql]; exact m.cls⟩
      rw [qn] at hy
      rw [qm]
      obtain ⟨f, fd, ps, a, b, c, e⟩ := ih y hy
      exact ⟨f, fd, ps, a, b, c, e⟩
    have th : TryH (cpq cp N q) (callF B nm k) (nmAt nm k) k P w K mg base := by
      cases q
      · exact ⟨fun z => ⟨(m.tr z).1, rfl, (m.tr z).2 k⟩, fun x z => (by cases z), fun z => absurd rfl z⟩
      · exact ⟨fun z => (by cases z), fun x z => m.hot k x z, m.exm⟩
    refine ⟨_, (goodS (nm := nmAt nm k) (M := M) h1 n).1.2 _ _ _ O th _ _ hc, ?_⟩
    refine ⟨startR N.length (PV.olds qs), Se, ⟨⟨Se, env_start h1 h2 hvl, Ext.refl h1, Same.refl _⟩, ?_⟩, ?_⟩
    · unfold L2.start
      rw [List.length_append, List.length_map, List.length_replicate]
      show vs.length + (N.length - vs.length) = (cpq cp N q).N.length
      rw [qN]
      omega
    · rw [← ho]
      cases o with
      | nx ρ =>
        intro σ H' r
        obtain ⟨S', r1, x1, _⟩ := r.ex
        exact h3 _ _ S' x1 (by rw [Rp])
      | ret p => exact fun v H' S' x rp => h3 v H' S' x rp
      | err C => exact fun a ma σ H' _ s => h3 a ma H' s
      | no => exact h3
theorem fn_all {cp : CP} {B : Str → Option FI} {nm : Nm} (m : Mod cp B nm P w K mg base) (d : ∀ x, cp.ns.contains x = true → DefF K mg cp B x) :
    ∀ k x, cp.ns.contains x = true → ∃ f fd ps, mg x = some (.ref f) ∧ PySem.W.keepIn K (.ref f) = true ∧ Binds K fd ps [] ∧ FnOk P w K mg base (CXB cp.md P w) k f fd ps (spF K mg (callF B nm k x)) := by
  intro k
  induction k with
  | zero =>
    intro x hx
    obtain ⟨f, fd, ps, D⟩ := d x hx
    obtain ⟨q, st, N, body, n, M, F, hm, hb, _⟩ := D.ex
    have no : ∀ {vs H Q E}, spF K mg (callF B nm 0 x) vs H Q E → False := fun ⟨_, _, _, _, _, z⟩ => z
    exact ⟨f, fd, ps, hm, F.kp, hb, fun vs H Q E h => (no h).elim, fun A outer s H args us vs Q E hr he hb hv h => (no h).elim⟩
  | succ k ih =>
    intro x hx
    obtain ⟨f, fd, ps, D⟩ := d x hx
    obtain ⟨q, st, N, body, n, M, F, hm, hb, _⟩ := D.ex
    exact ⟨f, fd, ps, hm, F.kp, hb, fn_step m ih D⟩
theorem fn_one {cp : CP} {B : Str → Option FI} {nm : Nm} (m : Mod cp B nm P w K mg base) (d : ∀ x, cp.ns.contains x = true → DefF K mg cp B x) {x : Str} {f : Addr} {fd : FuncData} {ps : List Str} (D : DefP K mg cp B x f fd ps) (k : Nat) :
    FnOk P w K mg base (CXB cp.md P w) (k + 1) f fd ps (spF K mg (callF B nm (k + 1) x)) := fn_step m (fn_all m d k) D
/-- the law: its script, its answer -/
def spScr (K : PySem.W.Frag) : Sp := fun vs H Q _ => ∃ (a : Addr) (ns : List Int), vs = [.ref a] ∧ SqL K H a (ns.map V.int) ∧ ns.length ≤ 63 ∧ ∀ H', Q (.bl true) H'
theorem law_of {B : Str → Option FI} {nm : Nm} {f : Addr} {fd : FuncData} {ps : List Str} {k : Nat} {x : Str} (F : FnOk P w K mg base (L2.CX P w) k f fd ps (spF K mg (callF B nm k x)))
    (h : ∀ ns : List Int, ns.length ≤ 63 → callF B nm k x [.scr ns] = .ok (.bl true)) : FnOk P w K mg base (L2.CX P w) k f fd ps (spScr K) :=
  F.imp fun vs H Q E ⟨a, ns, e, hs, hl, q⟩ => by
    subst e
    refine ⟨H, [.scr ns], H, Same.refl _, ?_, ?_⟩
    · rw [RpA]
      refine ⟨_, [], rfl, ?_, by rw [RpA]⟩
      rw [Rp]
      exact ⟨a, rfl, hs⟩
    · rw [h ns hl]
      intro v H' S' _ rp
      have rp : Rp K H S' (.bl true) v := rp
      rw [Rp] at rp
      subst rp
      exact q H'

/-! ### for the table of a law -/
theorem ns_nil {p : Str → Prop} : ∀ y, ([] : List Str).contains y = true → p y := fun _ h => by cases h
theorem ns_cons {p : Str → Prop} {x : Str} {l : List Str} (h : p x) (t : ∀ y, l.contains y = true → p y) : ∀ y, (x :: l).contains y = true → p y := fun y q => by
  by_cases e : y = x
  · subst e; exact h
  · refine t y ?_
    rw [List.contains_cons, Bool.or_eq_true] at q
    rcases q with q | q
    · exact absurd (beq_iff_eq.mp q) e
    · exact q
def goneB (K : PySem.W.Frag) (x : Str) : Bool := match PySem.W.nsIn K mainGlobals x with
  | some none => true
  | _ => false
def bltB (K : PySem.W.Frag) : Bool := bltNames.all (goneB K)
theorem blt_of {h : Heap} (X : K.In h) (G : h.Ns mainGlobals mg) (z : bltB K = true) : ∀ x, bltNames.contains x = true → mg x = none := fun x hx => by
  have q := List.all_eq_true.mp z x (List.contains_iff_mem.mp hx)
  refine PySem.W.mg_none_of X G ?_
  unfold goneB at q
  split at q
  · assumption
  · cases q
theorem lk_nil {α : Type} {p : Str → α → Prop} : ∀ x v, ([] : List (Str × α)).lookup x = some v → p x v := fun _ _ h => by cases h
theorem lk_cons {α : Type} {p : Str → α → Prop} {y : Str} {u : α} {l : List (Str × α)} (h : p y u) (t : ∀ x v, l.lookup x = some v → p x v) : ∀ x v, ((y, u) :: l).lookup x = some v → p x v := fun x v q => by
  rw [List.lookup_cons] at q
  split at q
  · rename_i e
    injection q with q
    subst q
    rw [beq_iff_eq.mp e]; exact h
  · exact t x v q
end
end SG
namespace SG
open PySem PySem.Spec PyProof.Rows L2
theorem cx_no {P : Program} {w : World} {outer : List Env} {H : Hp} {s s' : Shared} {e : Value} (h : L2.CX P w outer H s (fun _ _ _ => False) e s') : False := by
  obtain ⟨_, _, _, _, _, _, _, _, _, _, _, _, z⟩ := h
  exact z
abbrev nm0 : Nm := fun _ => .no
end SG

namespace SG
open PySem PySem.Spec PyProof.Rows L2

/-! ### what the laws' own look at an error does -/
section
variable {X : Cx}
/-- isinstance of an exception that a suite holds -/
theorem call_isP {p : Addr × Obj} {D : Addr} (hp : p ∈ X.pn) (C : ExcC X.K D) (hz : Zc (.ref D) none p.2) (hf : ∃ vs, p.2.data = .fields vs) : CallR X (.builtin "isinstance") (rIsE X.K D p.1) := by
  intro pins s σ H xs us Q I r h
  obtain ⟨c, cv, b, rfl, hcv, e, q⟩ := h
  obtain ⟨x, u, rfl, rx, rt⟩ : ∃ x u, us = [x, u] ∧ RelV (.ref p.1) x ∧ RelV c u := by
    cases r with
    | cons a b =>
      cases b with
      | cons c d =>
        cases d
        exact ⟨_, _, rfl, a, c⟩
  have ex : x = Value.ref p.1 := rx
  have ec := hcv _ rt
  subst ex
  subst ec
  have hget := (I.pin p (List.mem_append.mpr (.inl hp))).1
  have J : PySem.W.InstAt s.heap p.1 p.2 D none := by
    obtain ⟨a, oe⟩ := p
    obtain ⟨oc, od, oda, osl⟩ := oe
    obtain ⟨vs, hv⟩ := hf
    obtain ⟨h1, h2⟩ := hz
    dsimp only at h1 h2 hv
    subst h1
    subst h2
    subst hv
    exact ⟨hget, rfl, rfl, trivial⟩
  exact PySem.W.kia_one (PySem.W.handS_kitx_exc C.hg C.hk C.hs C.hd C.ha C.hn C.ht C.hm) I.kIn J e (fun z => nomatch z) fun tk => ⟨.bl b, H, I.kept (t' := tk) fun _ _ z => z, rfl, q⟩
/-- how often a flat value stands in a list of flat ones -/
def rCountF (K : PySem.W.Frag) : V → List V → Hp → VK → Prop := fun x xs H Q => ∃ (a : Addr) (ys : List V) (y : V), x = V.ref a ∧ xs = [y] ∧ SqL K H a ys ∧ flatV y = true ∧ ys.all flatV = true ∧ Q (.int (ys.countP fun z => eqV z y : Nat)) H
theorem count_of {y : V} : ∀ {ys : List V} {us : List Value}, Vals ys us → ys.all flatV = true → us.countP (eqU y) = ys.countP fun z => eqV z y
  | _, _, .nil, _ => rfl
  | z :: zs, u :: us, .cons r t, f => by
    rw [List.all_cons, Bool.and_eq_true] at f
    rw [List.countP_cons, List.countP_cons, count_of t f.2, eqU_of r f.1]
theorem mt_countF : MtR X "list.count" (rCountF X.K) := by
  intro pins s σ H x xs v us Q I rx rxs h
  obtain ⟨a, ys, y, rfl, rfl, hs, fy, fys, q⟩ := h
  have ex : v = Value.ref a := rx
  subst ex
  obtain ⟨u, rfl, ru⟩ := rxs.one
  obtain ⟨its, rv, ⟨⟨cls, dd, data, sl⟩, n, ho, hc, hdn, hd⟩, hlen⟩ := I.list hs
  simp only at hc hd
  subst hc
  subst hd
  refine call_meets PySem.F.slot_list_count ⟨_, ho, rfl⟩ PySem.F.entry_list_count (PySem.F.args_list_count_2 _ _)
    (SeqAt.list_countAt a its.toArray n dd sl u (eqU y)) ⟨ho, fun u' hu' => mem_eqAt ru fy rv fys u' (by simpa using hu'), ?_⟩
  refine ⟨.int (ys.countP fun z => eqV z y : Nat), H, I.tok _, ⟨s.toks, ?_⟩, q⟩
  show Value.int ((its.toArray.toList.countP (eqU y) : Nat) : Int) s.toks = _
  rw [show its.toArray.toList = its by simp, count_of rv fys]
end
section
variable (K : PySem.W.Frag) (D a : Addr)
def isT (c : V) : TE := tCB (rIsE K D a) (tCons (tVar 0) (tCons (tC c) tNil))
theorem isT_ok {c : V} {cv : Value} {b : Bool} {σ : L2.St} {H : Hp} {Q : VK} (hσ : σ[0]? = some (some (.ref a))) (hr : ∀ u, RelV c u → u = cv) (hk : PySem.W.kitOne K (.ref D) cv = some b) (q : Q (.bl b) H) : isT K D a c σ H Q :=
  ⟨.ref a, hσ, c, cv, b, rfl, hr, hk, q⟩
/-- the body of the look, as terms: C the six classes, z the six words -/
def tNames (C : List Addr) (z : List Str) : TS :=
  tSeq (tAsg (tLst (tCons (isT K D a (.ref (C.getD 0 0))) (tCons (isT K D a (.ref (C.getD 1 0))) (tCons (isT K D a (.ref (C.getD 2 0))) (tCons (isT K D a (.ref (C.getD 3 0))) tNil))))) (gName 1))
  (tSeq (tAsg (tOp rCat (tVar 1) (tLst (tCons (isT K D a (.ref (C.getD 4 0))) (tCons (isT K D a (.ref (C.getD 5 0))) tNil)))) (gName 1))
  (tSeq (tIfS (tOr (tNot (tTest (isT K D a (.ty "ValueError")))) (tTest (tOp rNe (tBM K "list" (rCountF K) (tVar 1) (tCons (tC (.bl true)) tNil)) (tC (.int 1))))) tNever tNext)
    (tRet (tTup (tCons (tOp (rIxL K) (tLst (tCons (tC (.str (z.getD 0 ""))) (tCons (tC (.str (z.getD 1 ""))) (tCons (tC (.str (z.getD 2 ""))) (tCons (tC (.str (z.getD 3 ""))) (tCons (tC (.str (z.getD 4 ""))) (tCons (tC (.str (z.getD 5 ""))) tNil)))))))
      (tBM K "list" (rIndex K) (tVar 1) (tCons (tC (.bl true)) tNil))) tNil)))))
end
theorem atI_six {z : List V} {i : Nat} {v : V} (h : z[i]? = some v) : atI z (i : Nat) = some v := atI_nat h
theorem names_ok {K : PySem.W.Frag} {D a : Addr} {C : List Addr} {z : List Str} {j : Nat} {H : Hp} {Q : VK} (hj : j < 6) (hk : ∀ i, i < 6 → PySem.W.kitOne K (.ref D) (.ref (C.getD i 0)) = some (decide (i = j))) (hv : PySem.W.kitOne K (.ref D) (.type "ValueError") = some true)
    (q : ∀ T H', H T = none → Same H H' → H' T = some (.tup [.str (z.getD j "")]) → Q (.ref T) H') : tNames K D a C z { nx := fun _ H' => Q .non H', rt := Q } [some (.ref a), none] H := by
  have fb : ∀ (l : List Bool), (l.map V.bl).all flatV = true := fun l => by
    rw [List.all_map]; exact List.all_eq_true.mpr fun _ _ => rfl
  refine isT_ok K D a rfl (fun u r => r) (hk 0 (by omega)) ?_
  refine isT_ok K D a rfl (fun u r => r) (hk 1 (by omega)) ?_
  refine isT_ok K D a rfl (fun u r => r) (hk 2 (by omega)) ?_
  refine isT_ok K D a rfl (fun u r => r) (hk 3 (by omega)) ?_
  refine ⟨by show (4 : Nat) ≤ sizeLine; decide, fun p1 n1 => ?_⟩
  have s1 : Same H (upd H p1 (.lst [.bl (decide (0 = j)), .bl (decide (1 = j)), .bl (decide (2 = j)), .bl (decide (3 = j))])) := same_upd n1
  refine ⟨.ref p1, rfl, ?_⟩
  refine isT_ok K D a rfl (fun u r => r) (hk 4 (by omega)) ?_
  refine isT_ok K D a rfl (fun u r => r) (hk 5 (by omega)) ?_
  refine ⟨by show (2 : Nat) ≤ sizeLine; decide, fun p2 n2 => ?_⟩
  have s2 := s1.trans (same_upd (o := .lst [.bl (decide (4 = j)), .bl (decide (5 = j))]) n2)
  refine ⟨p1, p2, _, _, rfl, rfl, same_upd n2 _ _ L2.upd_same, L2.upd_same, by show (6 : Nat) ≤ sizeLine; decide, fun p3 n3 => ?_⟩
  have s3 := s2.trans (same_upd (o := .lst ([.bl (decide (0 = j)), .bl (decide (1 = j)), .bl (decide (2 = j)), .bl (decide (3 = j))] ++ [.bl (decide (4 = j)), .bl (decide (5 = j))])) n3)
  have at3 : (upd (upd (upd H p1 (.lst [.bl (decide (0 = j)), .bl (decide (1 = j)), .bl (decide (2 = j)), .bl (decide (3 = j))])) p2 (.lst [.bl (decide (4 = j)), .bl (decide (5 = j))])) p3 (.lst ([.bl (decide (0 = j)), .bl (decide (1 = j)), .bl (decide (2 = j)), .bl (decide (3 = j))] ++ [.bl (decide (4 = j)), .bl (decide (5 = j))]))) p3
      = some (.lst ((List.range 6).map fun i => .bl (decide (i = j)))) := L2.upd_same
  generalize upd (upd (upd H p1 (.lst [.bl (decide (0 = j)), .bl (decide (1 = j)), .bl (decide (2 = j)), .bl (decide (3 = j))])) p2 (.lst [.bl (decide (4 = j)), .bl (decide (5 = j))])) p3 (.lst ([.bl (decide (0 = j)), .bl (decide (1 = j)), .bl (decide (2 = j)), .bl (decide (3 = j))] ++ [.bl (decide (4 = j)), .bl (decide (5 = j))])) = H3 at s3 at3
  have fl : ((List.range 6).map fun i => V.bl (decide (i = j))).all flatV = true := by
    rw [List.all_map]; exact List.all_eq_true.mpr fun _ _ => rfl
  refine isT_ok K D a rfl (fun u r => r) hv ?_
  refine ⟨true, rfl, ?_⟩
  have cnt : (((List.range 6).map fun i => V.bl (decide (i = j))).countP fun z => eqV z (.bl true)) = 1 := by
    match j, hj with
    | 0, _ => rfl
    | 1, _ => rfl
    | 2, _ => rfl
    | 3, _ => rfl
    | 4, _ => rfl
    | 5, _ => rfl
  refine L2.iteF ?_
  refine ⟨.ref p3, rfl, .inl ⟨rfl, _, .of at3⟩, p3, _, .bl true, rfl, rfl, .of at3, rfl, fl, ?_⟩
  rw [cnt]
  refine ⟨rfl, false, rfl, ?_⟩
  refine L2.iteF ?_
  -- the word
  refine ⟨by show (6 : Nat) ≤ sizeLine; decide, fun p4 n4 => ?_⟩
  have s4 := s3.trans (same_upd (o := .lst [.str (z.getD 0 ""), .str (z.getD 1 ""), .str (z.getD 2 ""), .str (z.getD 3 ""), .str (z.getD 4 ""), .str (z.getD 5 "")]) n4)
  have at3' := same_upd (o := .lst [.str (z.getD 0 ""), .str (z.getD 1 ""), .str (z.getD 2 ""), .str (z.getD 3 ""), .str (z.getD 4 ""), .str (z.getD 5 "")]) n4 _ _ at3
  refine ⟨.ref p3, rfl, .inl ⟨rfl, _, .of at3'⟩, p3, _, .bl true, j, .bl true, rfl, rfl, .of at3', rfl, fl, ?_, rfl, fun m z' hm hz' => ?_, ?_⟩
  · rw [List.getElem?_map, List.getElem?_range hj]
    show some (V.bl (decide (j = j))) = _
    rw [decide_eq_true rfl]
  · rw [List.getElem?_map, List.getElem?_range (by omega)] at hz'
    have e : V.bl (decide (m = j)) = z' := Option.some.inj hz'
    rw [← e, decide_eq_false (by omega)]
    rfl
  · refine ⟨p4, _, (j : Nat), .str (z.getD j ""), rfl, rfl, .inl (.inl L2.upd_same), atI_nat ?_, ?_⟩
    · match j, hj with
      | 0, _ => rfl
      | 1, _ => rfl
      | 2, _ => rfl
      | 3, _ => rfl
      | 4, _ => rfl
      | 5, _ => rfl
    · refine ⟨by show (1 : Nat) ≤ sizeLine; decide, fun T nT => ?_⟩
      exact q T _ ((show Same H _ from s4).free nT) ((show Same H _ from s4).trans (same_upd nT)) L2.upd_same
end SG
namespace SG
open PySem PySem.Spec PyProof.Rows L2
/-- what the classes of the text are -/
structure SixC (K : PySem.W.Frag) (mg : Str → Option Value) (nm : Nm) (C : List Addr) (z : List Str) : Prop where
  ok : ∀ c p, nm c = .ok p → ∃ j, j < 6 ∧ p = .tup [.str (z.getD j "")] ∧ (∀ D, mg c = some (.ref D) → ExcC K D ∧ (∀ i, i < 6 → PySem.W.kitOne K (.ref D) (.ref (C.getD i 0)) = some (decide (i = j))) ∧ PySem.W.kitOne K (.ref D) (.type "ValueError") = some true)
theorem names_fnX {P : Program} {w : World} {K : PySem.W.Frag} {mg : Str → Option Value} {base : Heap} {nm : Nm} {f : Addr} {fd : FuncData} {st : Stmt} {C : List Addr} {z : List Str} (F : L2.Fun K "_law_names" "_law_names" st f fd) (S : FnScope ["_law_e", "_law_some"] ["_law_e"] (defScope st)) (six : SixC K mg nm C z)
    (walk : ∀ (X : Cx) (p : Addr × Obj) (D : Addr), X.K = K → X.mg = mg → X.N = (["_law_e", "_law_some"] : List Str) → X.env.scope = defScope st → p ∈ X.pn → (∀ y, X.fn y = true) → ExcC K D → Zc (.ref D) none p.2 → (∃ vs, p.2.data = .fields vs) → PSs X (defBody st) (tNames K D p.1 C z)) (k : Nat) :
    FnX P w K mg base (k + 1) f fd ["_law_e"] (spNames mg nm) := by
  refine fnX_of F S (fun p vs H Q h => by rw [h.1]; rfl) fun cdv A outer s H vs Q p hr h => ?_
  obtain ⟨rfl, c, D, z', mc, hn, hz, hf, q⟩ := h
  obtain ⟨j, hj, e, hD⟩ := six.ok c _ hn
  obtain ⟨ec, hk, hv⟩ := hD D mc
  injection e with e
  injection e with e
  injection e with e
  subst e
  exact ⟨_, walk _ p D rfl rfl rfl rfl List.mem_cons_self (fun _ => rfl) ec hz hf, names_ok hj hk hv q⟩
theorem fnX_zero {P : Program} {w : World} {K : PySem.W.Frag} {mg : Str → Option Value} {base : Heap} {f : Addr} {fd : FuncData} : FnX P w K mg base 0 f fd ["_law_e"] (spNames mg (nmAt nm0 0)) :=
  ⟨fun _ _ _ _ h => by rw [h.1]; rfl, fun _ _ _ _ _ _ _ _ _ _ _ _ _ _ h => by obtain ⟨_, _, _, _, _, h, _⟩ := h; cases h⟩
theorem tryF_of {P : Program} {w : World} {K : PySem.W.Frag} {mg : Str → Option Value} {base : Heap} {nm : Nm} {f : Addr} {fd : FuncData} {ge : Addr} (mge : mg "GridError" = some (.ref ge)) (ne : ∀ c d, nm c ≠ .err d)
    (six : ∀ c p, nm c = .ok p → (∃ z, p = .tup [.str z]) ∧ ∀ D, mg c = some (.ref D) → PySem.W.exmOne K (.ref D) (.ref ge) = some true) (mf : mg "_law_names" = some (.ref f)) (kf : PySem.W.keepIn K (.ref f) = true) (hb : Binds K fd ["_law_e"] [])
    (F : ∀ k, FnX P w K mg base (k + 1) f fd ["_law_e"] (spNames mg nm)) : ∀ k, TryF (nmAt nm k) k P w K mg base := by
  intro k
  cases k with
  | zero => exact ⟨⟨ge, mge, (fun _ _ (h : Rs.no = _) => by cases h), (fun _ _ (h : Rs.no = _) => by cases h)⟩, f, fd, ["_law_e"], mf, kf, hb, fnX_zero⟩
  | succ k => exact ⟨⟨ge, mge, ne, six⟩, f, fd, ["_law_e"], mf, kf, hb, F k⟩
end SG
namespace SG
open PySem PySem.Spec PyProof.Rows L2
def nmOf (R : List (Str × Str)) : Nm := fun c => match R.lookup c with
  | some z => .ok (.tup [.str z])
  | none => .no
theorem nmOf_ne {R : List (Str × Str)} (c d : Str) : nmOf R c ≠ .err d := by unfold nmOf; split <;> exact fun h => by cases h
theorem nmOf_ok {R : List (Str × Str)} {c : Str} {p : PV} (h : nmOf R c = .ok p) : ∃ z, R.lookup c = some z ∧ p = .tup [.str z] := by
  unfold nmOf at h
  split at h
  · injection h with h; exact ⟨_, by assumption, h.symm⟩
  · cases h
/-- what must be known of an error class that is told by its word -/
structure OneC (K : PySem.W.Frag) (mg : Str → Option Value) (C : List Addr) (zs : List Str) (ge : Addr) (c z : Str) : Prop where
  ok : ∃ (j : Nat) (D : Addr), j < 6 ∧ z = zs.getD j "" ∧ mg c = some (.ref D) ∧ ExcC K D ∧ (∀ i, i < 6 → PySem.W.kitOne K (.ref D) (.ref (C.getD i 0)) = some (decide (i = j))) ∧ PySem.W.kitOne K (.ref D) (.type "ValueError") = some true ∧ PySem.W.exmOne K (.ref D) (.ref ge) = some true
theorem lt_six {p : Nat → Prop} (h0 : p 0) (h1 : p 1) (h2 : p 2) (h3 : p 3) (h4 : p 4) (h5 : p 5) : ∀ i, i < 6 → p i
  | 0, _ => h0
  | 1, _ => h1
  | 2, _ => h2
  | 3, _ => h3
  | 4, _ => h4
  | 5, _ => h5
theorem tr_of {P : Program} {w : World} {K : PySem.W.Frag} {mg : Str → Option Value} {base : Heap} {R : List (Str × Str)} {f ge : Addr} {fd : FuncData} {st : Stmt} {C : List Addr} {z : List Str} (mge : mg "GridError" = some (.ref ge)) (one : ∀ c y, R.lookup c = some y → OneC K mg C z ge c y)
    (mf : mg "_law_names" = some (.ref f)) (hb : Binds K fd ["_law_e"] []) (F : L2.Fun K "_law_names" "_law_names" st f fd) (S : FnScope ["_law_e", "_law_some"] ["_law_e"] (defScope st))
    (walk : ∀ (X : Cx) (p : Addr × Obj) (D : Addr), X.K = K → X.mg = mg → X.N = (["_law_e", "_law_some"] : List Str) → X.env.scope = defScope st → p ∈ X.pn → (∀ y, X.fn y = true) → ExcC K D → Zc (.ref D) none p.2 → (∃ vs, p.2.data = .fields vs) → PSs X (defBody st) (tNames K D p.1 C z)) :
    ∀ k, TryF (nmAt (nmOf R) k) k P w K mg base := by
  refine tryF_of mge nmOf_ne (fun c p h => ?_) mf F.kp hb fun k => names_fnX F S ⟨fun c p h => ?_⟩ walk k
  · obtain ⟨y, h1, rfl⟩ := nmOf_ok h
    obtain ⟨j, D, _, _, mD, _, _, _, e⟩ := (one c y h1).ok
    exact ⟨⟨y, rfl⟩, fun D' h => by cases h.symm.trans mD; exact e⟩
  · obtain ⟨y, h1, rfl⟩ := nmOf_ok h
    obtain ⟨j, D, hj, ez, mD, ec, hk, hv, _⟩ := (one c y h1).ok
    exact ⟨j, hj, by rw [ez], fun D' h => by cases h.symm.trans mD; exact ⟨ec, hk, hv⟩⟩
end SG

namespace SG
open PySem PySem.Spec PyProof.Rows L2

/-! ### the evaluator, for simp -/
theorem eEs_nil0 {G : Gt} {ρ : Rho} : eEs G ρ .nil = .ok [] := by simp only [eEs]
section
variable {G : Gt} {nm : Nm} {ρ : Rho} {a b c e i : E} {es : Es} {k : Int} {j : Nat} {x z : Str} {p q : PV} {ps qs : List PV}
@[simp] theorem eE_non : eE G ρ .non = .ok .non := by simp only [eE]
@[simp] theorem eE_bl {t : Bool} : eE G ρ (.bl t) = .ok (.bl t) := by simp only [eE]
@[simp] theorem eE_int : eE G ρ (.int k) = .ok (.int k) := by simp only [eE]
@[simp] theorem eE_str : eE G ρ (.str x) = .ok (.str x) := by simp only [eE]
@[simp] theorem eE_gint : eE G ρ (.gint x k) = .ok (.int k) := by simp only [eE]
@[simp] theorem eE_gstr : eE G ρ (.gstr x z) = .ok (.str z) := by simp only [eE]
@[simp] theorem eE_var : eE G ρ (.var j) = getV ρ j := by simp only [eE]
@[simp] theorem eE_op {o : Op} : eE G ρ (.op o a b) = (eE G ρ a).bind fun p => (eE G ρ b).bind fun q => opV o p q := by simp only [eE]
@[simp] theorem eE_neg : eE G ρ (.neg a) = (eE G ρ a).bind negV := by simp only [eE]
@[simp] theorem eE_not : eE G ρ (.not a) = (eE G ρ a).bind notV := by simp only [eE]
@[simp] theorem eE_cmp {o : Cp} : eE G ρ (.cmp o a b) = (eE G ρ a).bind fun p => (eE G ρ b).bind fun q => cpV o p q := by simp only [eE]
@[simp] theorem eE_chain {o o2 : Cp} : eE G ρ (.chain o o2 a b c) = (eE G ρ a).bind fun p => (eE G ρ b).bind fun q => (cpV o p q).bind fun r => (boolV r).bind fun k =>
      if k then (eE G ρ c).bind fun s => cpV o2 q s else .ok (.bl false) := by simp only [eE]
@[simp] theorem eE_isN {t : Bool} : eE G ρ (.isN t a) = (eE G ρ a).bind (isNV t) := by simp only [eE]
@[simp] theorem eE_and : eE G ρ (.and a b) = (eE G ρ a).bind fun p => (boolV p).bind fun k => if k then eE G ρ b else .ok (.bl false) := by simp only [eE]
@[simp] theorem eE_or : eE G ρ (.or a b) = (eE G ρ a).bind fun p => (boolV p).bind fun k => if k then .ok (.bl true) else eE G ρ b := by simp only [eE]
@[simp] theorem eE_ix : eE G ρ (.ix a i) = (eE G ρ a).bind fun p => (eE G ρ i).bind fun q => ixV p q := by simp only [eE]
@[simp] theorem eE_ixv : eE G ρ (.ixv j i) = (getB ρ j).bind fun p => (eE G ρ i).bind fun q => ixV p q := by simp only [eE]
@[simp] theorem eE_slLo : eE G ρ (.slLo a i) = (eE G ρ a).bind fun p => (eE G ρ i).bind fun q => slLoV p q := by simp only [eE]
@[simp] theorem eE_slHi : eE G ρ (.slHi a i) = (eE G ρ a).bind fun p => (eE G ρ i).bind fun q => slHiV p q := by simp only [eE]
@[simp] theorem eE_slLoV : eE G ρ (.slLoV j i) = (getB ρ j).bind fun p => (eE G ρ i).bind fun q => slLoV p q := by simp only [eE]
@[simp] theorem eE_slHiV : eE G ρ (.slHiV j i) = (getB ρ j).bind fun p => (eE G ρ i).bind fun q => slHiV p q := by simp only [eE]
@[simp] theorem eE_joinE : eE G ρ (.joinE a b) = (eE G ρ a).bind fun p => (txtV p).bind fun p => (eE G ρ b).bind fun q => joinV p q := by simp only [eE]
@[simp] theorem eE_splitE : eE G ρ (.splitE a b) = (eE G ρ a).bind fun p => (txtV p).bind fun p => (eE G ρ b).bind fun q => splitV p q := by simp only [eE]
@[simp] theorem txtV_str {z : Str} : txtV (.str z) = .ok (.str z) := (rfl)
@[simp] theorem eE_rvL : eE G ρ (.rvL a) = (eE G ρ a).bind revV := by simp only [eE]
@[simp] theorem eE_lst : eE G ρ (.lst es) = (eEs G ρ es).bind fun ps => Rs.when (ps.length ≤ sizeLine) (.lst true ps) := by simp only [eE]
@[simp high] theorem eE_lst0 : eE G ρ (.lst .nil) = .ok (.lst true []) := by
  rw [eE_lst, eEs_nil0]
  exact Rs.when_pos (c := ([] : List PV).length ≤ PySem.sizeLine) (Nat.zero_le _)
@[simp] theorem eE_tup : eE G ρ (.tup es) = (eEs G ρ es).bind fun ps => Rs.when (ps.length ≤ sizeLine) (.tup ps) := by simp only [eE]
@[simp] theorem eE_bi {t : Bi} : eE G ρ (.bi t es) = (eEs G ρ es).bind (biV t) := by simp only [eE]
@[simp] theorem eE_isi {t : String} : eE G ρ (.isi a t) = (eE G ρ a).bind (isiV t) := by simp only [eE]
@[simp] theorem eE_call : eE G ρ (.call x es) = (eEs G ρ es).bind (G x) := by simp only [eE]
@[simp] theorem eEs_nil : eEs G ρ .nil = .ok [] := by simp only [eEs]
@[simp] theorem eEs_cons : eEs G ρ (.cons e es) = (eE G ρ e).bind fun p => (eEs G ρ es).bind fun ps => .ok (p :: ps) := by simp only [eEs]
@[simp] theorem eI_val : eI G ρ (.val e) = (eE G ρ e).bind itemsV := by simp only [eI]
@[simp] theorem eI_rng1 : eI G ρ (.rng1 e) = (eE G ρ e).bind rng1V := by simp only [eI]
@[simp] theorem eI_rng2 : eI G ρ (.rng2 a b) = (eE G ρ a).bind fun p => (eE G ρ b).bind fun q => rng2V p q := by simp only [eI]
@[simp] theorem eI_zip : eI G ρ (.zip a b) = (eE G ρ a).bind fun p => (eE G ρ b).bind fun q => zipV p q := by simp only [eI]
@[simp] theorem eI_enum : eI G ρ (.enum a) = (eE G ρ a).bind enumV := by simp only [eI]
variable {f : List Nat} {s s1 s2 : S} {t t2 : Ss} {tg : List Nat} {w : Bool} {it : It} {cl : Str}
@[simp] theorem eSs_nil : eSs G nm ρ .nil = .nx ρ := by simp only [eSs]
@[simp] theorem eSs_cons : eSs G nm ρ (.cons s t) = (eS G nm ρ s).seq fun ρ1 => eSs G nm ρ1 t := by simp only [eSs]
@[simp] theorem eS_asg : eS G nm ρ (.asg f j e) = (eE G (frzA f ρ) e).out fun p => .nx ((frzA f ρ).set j (.fz p)) := by simp only [eS]
@[simp] theorem eS_asgM : eS G nm ρ (.asgM f j e) = (eE G (frzA f ρ) e).out fun p => .nx ((frzA f ρ).set j (ownOr e.mk p)) := by simp only [eS]
@[simp] theorem eS_asgT : eS G nm ρ (.asgT f tg e) = (eE G (frzA f ρ) e).out fun p => (setT false tg p (frzA f ρ)).out fun ρ1 => .nx ρ1 := by simp only [eS]
@[simp] theorem eS_setI : eS G nm ρ (.setI f j i e) = (ownV (frzA f ρ) j).out fun xs => (eE G (frzA f ρ) e).out fun p => (eE G (frzA f ρ) i).out fun q => (setIV xs p q).out fun ys => .nx ((frzA f ρ).set j (.own ys)) := by simp only [eS]
@[simp] theorem eS_app : eS G nm ρ (.app f j e) = (ownV (frzA f ρ) j).out fun xs => (eE G (frzA f ρ) e).out fun p => if xs.length < sizeLine then .nx ((frzA f ρ).set j (.own (xs ++ [p]))) else .no := by simp only [eS]
@[simp] theorem eS_ext : eS G nm ρ (.ext f j e) = (ownV (frzA f ρ) j).out fun xs => (eE G (frzA f ρ) e).out fun p => (lstV p).out fun zs => if xs.length + zs.length ≤ sizeLine then .nx ((frzA f ρ).set j (.own (xs ++ zs))) else .no := by simp only [eS]
@[simp] theorem eS_rev : eS G nm ρ (.rev j) = (ownV ρ j).out fun xs => .nx (ρ.set j (.own xs.reverse)) := by simp only [eS]
@[simp] theorem eS_clr : eS G nm ρ (.clr j) = (ownV ρ j).out fun _ => .nx (ρ.set j (.own [])) := by simp only [eS]
@[simp] theorem eS_ex : eS G nm ρ (.ex f e) = (eE G (frzA f ρ) e).out fun _ => .nx (frzA f ρ) := by simp only [eS]
@[simp] theorem eS_ret : eS G nm ρ (.ret f e) = (eE G (frzA f ρ) e).out .ret := by simp only [eS]
@[simp] theorem eS_if : eS G nm ρ (.iff f e t t2) = (eE G (frzA f ρ) e).out fun p => (boolV p).out fun k => if k then eSs G nm ρ t else eSs G nm ρ t2 := by simp only [eS]
@[simp] theorem eS_cpy {i v : Nat} : eS G nm ρ (.cpy i v) = cpyS G ρ i v := by simp only [eS]
@[simp] theorem eS_rse : eS G nm ρ (.rse cl) = .err cl := by simp only [eS]
@[simp] theorem eS_tryX {f : List Nat} {g : Str} {es : Es} {c d : Str} : eS G nm ρ (.tryX f g es c d) = argX (fun ps => trX (frzA f ρ) c d (G g ps)) (eEs G (frzA f ρ) es) := by simp only [eS]
@[simp] theorem argX_ok {f : List PV → Out} {ps : List PV} : argX f (.ok ps) = f ps := (rfl)
@[simp] theorem trX_ok {c d : Str} {p : PV} : trX ρ c d (.ok p) = .nx ρ := (rfl)
theorem trX_err {c d : Str} : trX ρ c d (.err c) = .err d := by show (if c = c then Out.err d else Out.no) = _; rw [if_pos rfl]
@[simp] theorem eS_tryN : eS G nm ρ (.tryN t w) = catchN nm w (eSs G nm ρ t) := by simp only [eS]
@[simp] theorem eS_dig {d : Dg} : eS G nm ρ (.dig f j x es d) = (eEs G (frzA f ρ) es).out fun ps => (G x ps).out fun p => eDg G nm (frzA f ρ) j p d := by simp only [eS]
@[simp] theorem eDg_chk {d : Dg} : eDg G nm ρ j p (.chk f e t d) = (eE G (frzA f (ρ.set j (.fz p))) e).out fun q => (boolV q).out fun k => if k then noNx (eSs G nm (ρ.set j (.fz p)) t) else eDg G nm ρ j p d := by simp only [eDg]
theorem eDg_fin {w' : Nat} {z : Int} (h : DigOk G ρ j w' f e z p) : eDg G nm ρ j p (.fin w' f e t z t2) = eSs G nm ((ρ.set j .no).set w' .no) t2 := by
  simp only [eDg, digIf]; rw [if_pos h]
@[simp] theorem noNx_ret {q : PV} : noNx (.ret q) = .ret q := (rfl)
@[simp] theorem eS_nev : eS G nm ρ .nev = .no := by simp only [eS]
@[simp] theorem frzA_nil : frzA [] ρ = ρ := (rfl)
@[simp] theorem frzA_cons {l : List Nat} : frzA (j :: l) ρ = frzA l (frzI j ρ) := (rfl)
end
@[simp] theorem opV_add : opV .add = addV := (rfl)
@[simp] theorem opV_sub : opV .sub = subV := (rfl)
@[simp] theorem opV_mul : opV .mul = mulV := (rfl)
@[simp] theorem opV_fdiv : opV .fdiv = fdivV := (rfl)
@[simp] theorem opV_mod : opV .mod = modV := (rfl)
@[simp] theorem opV_pow : opV .pow = powV := (rfl)
@[simp] theorem cpV_eq : cpV .eq = eqV' := (rfl)
@[simp] theorem cpV_ne' : cpV .ne = neV' := (rfl)
@[simp] theorem cpV_lt : cpV .lt = ltV := (rfl)
@[simp] theorem cpV_le : cpV .le = leV := (rfl)
@[simp] theorem cpV_gt : cpV .gt = gtV := (rfl)
@[simp] theorem cpV_ge : cpV .ge = geV := (rfl)
@[simp] theorem cpV_in : cpV .isin = inV' := (rfl)
@[simp] theorem cpV_nin : cpV .notin = notinV' := (rfl)
section
variable {i j : Int} {x y : Str} {p q : PV} {b c t : Bool} {xs ys : List PV}
@[simp] theorem addV_int : addV (.int i) (.int j) = .ok (.int (i + j)) := (rfl)
@[simp] theorem subV_int : subV (.int i) (.int j) = .ok (.int (i - j)) := (rfl)
theorem mulV_int (h : MulOk i j) : mulV (.int i) (.int j) = .ok (.int (i * j)) := Rs.when_pos h
theorem fdivV_int (h : DivOk j) : fdivV (.int i) (.int j) = .ok (.int (i.fdiv j)) := Rs.when_pos h
theorem modV_int (h : j ≠ 0) : modV (.int i) (.int j) = .ok (.int (i.fmod j)) := Rs.when_pos h
theorem powV_int (h : PowOk i j) : powV (.int i) (.int j) = .ok (.int (i ^ j.toNat)) := Rs.when_pos h
@[simp] theorem negV_int : negV (.int i) = .ok (.int (-i)) := (rfl)
@[simp] theorem notV_bl : notV (.bl b) = .ok (.bl (!b)) := (rfl)
@[simp] theorem boolV_bl : boolV (.bl b) = .ok b := (rfl)
@[simp] theorem ltV_int : ltV (.int i) (.int j) = .ok (.bl (decide (i < j))) := (rfl)
@[simp] theorem leV_int : leV (.int i) (.int j) = .ok (.bl (decide (i ≤ j))) := (rfl)
@[simp] theorem gtV_int : gtV (.int i) (.int j) = .ok (.bl (decide (j < i))) := (rfl)
@[simp] theorem geV_int : geV (.int i) (.int j) = .ok (.bl (decide (j ≤ i))) := (rfl)
theorem eqv_int {i j : Int} : PyData.eqv (.int i) (.int j) = decide (i = j) := by rw [Bool.eq_iff_iff]; simp [PyData.eqv]
theorem shaped_int {i : Int} : SeqAt.shaped (.int i) = true := by simp [SeqAt.shaped, PyData.canLay0, PyData.depth]
@[simp] theorem eqV_int : eqV' (.int i) (.int j) = .ok (.bl (decide (i = j))) := by
  unfold eqV' okD eqP PV.toD
  rw [Rs.when_pos ⟨shaped_int, shaped_int⟩, eqv_int]
@[simp] theorem neV_int : neV' (.int i) (.int j) = .ok (.bl (!decide (i = j))) := by
  unfold neV' okD eqP PV.toD
  rw [Rs.when_pos ⟨shaped_int, shaped_int⟩, eqv_int]
@[simp] theorem lenV_lst : lenV (.lst t xs) = .ok (.int xs.length) := (rfl)
@[simp] theorem lenV_tup : lenV (.tup xs) = .ok (.int xs.length) := (rfl)
@[simp] theorem lenV_scr {ns : List Int} : lenV (.scr ns) = .ok (.int ns.length) := (rfl)
@[simp] theorem absV_int : absV (.int i) = .ok (.int (if i < 0 then -i else i)) := (rfl)
@[simp] theorem intV_int : intV (.int i) = .ok (.int i) := (rfl)
@[simp] theorem listV_lst : listV (.lst t xs) = .ok (.lst true xs) := (rfl)
@[simp] theorem listV_tup : listV (.tup xs) = .ok (.lst true xs) := (rfl)
@[simp] theorem tupleV_lst : tupleV (.lst t xs) = .ok (.tup xs) := (rfl)
@[simp] theorem tupleV_tup : tupleV (.tup xs) = .ok (.tup xs) := (rfl)
@[simp] theorem revV_lst : revV (.lst t xs) = .ok (.lst true xs.reverse) := (rfl)
@[simp] theorem max2V_int : max2V (.int i) (.int j) = .ok (.int (if j > i then j else i)) := (rfl)
@[simp] theorem min2V_int : min2V (.int i) (.int j) = .ok (.int (if j < i then j else i)) := (rfl)
@[simp] theorem biV_len : biV .len [p] = lenV p := (rfl)
@[simp] theorem biV_abs : biV .abs [p] = absV p := (rfl)
@[simp] theorem biV_int : biV .int [p] = intV p := (rfl)
@[simp] theorem biV_list : biV .list [p] = listV p := (rfl)
@[simp] theorem biV_tuple : biV .tuple [p] = tupleV p := (rfl)
@[simp] theorem biV_sum : biV .sum [p] = sumV p := (rfl)
@[simp] theorem biV_all : biV .all [p] = allV p := (rfl)
@[simp] theorem biV_max : biV .max [p] = maxV p := (rfl)
@[simp] theorem biV_min : biV .min [p] = minV p := (rfl)
@[simp] theorem biV_max2 : biV .max [p, q] = max2V p q := (rfl)
@[simp] theorem biV_min2 : biV .min [p, q] = min2V p q := (rfl)
@[simp] theorem itemsV_lst : itemsV (.lst t xs) = .ok xs := (rfl)
@[simp] theorem itemsV_tup : itemsV (.tup xs) = .ok xs := (rfl)
@[simp] theorem lstV_lst : lstV (.lst t xs) = .ok xs := (rfl)
@[simp] theorem enumV_lst : enumV (.lst t xs) = .ok (enumL 0 xs) := (rfl)
@[simp] theorem zipV_lst {t' : Bool} : zipV (.lst t xs) (.lst t' ys) = .ok (zipL xs ys) := (rfl)
@[simp] theorem zipV_tup : zipV (.tup xs) (.tup ys) = .ok (zipL xs ys) := (rfl)
theorem rng1V_int (h : i62 i) : rng1V (.int i) = .ok (rngL 0 i.toNat) := Rs.when_pos h
theorem rng2V_int (h : i62 i) (h2 : i62 j) : rng2V (.int i) (.int j) = .ok (rngL i (j - i).toNat) := Rs.when_pos ⟨h, h2⟩
end
section
variable {i : Int} {t : Bool} {x : Str} {xs : List PV}
@[simp] theorem isi_ii : isiV "int" (.int i) = .ok (.bl true) := by unfold isiV typeName; simp [show L2.kitB "int" "int" = some true from rfl]
@[simp] theorem isi_ib : isiV "bool" (.int i) = .ok (.bl false) := by unfold isiV typeName; simp [show L2.kitB "int" "bool" = some false from rfl]
@[simp] theorem isi_il : isiV "list" (.int i) = .ok (.bl false) := by unfold isiV typeName; simp [show L2.kitB "int" "list" = some false from rfl]
@[simp] theorem isi_is : isiV "str" (.int i) = .ok (.bl false) := by unfold isiV typeName; simp [show L2.kitB "int" "str" = some false from rfl]
@[simp] theorem isi_it : isiV "tuple" (.int i) = .ok (.bl false) := by unfold isiV typeName; simp [show L2.kitB "int" "tuple" = some false from rfl]
@[simp] theorem isi_ll : isiV "list" (.lst t xs) = .ok (.bl true) := by unfold isiV typeName; simp [show L2.kitB "list" "list" = some true from rfl]
@[simp] theorem isi_lt : isiV "tuple" (.lst t xs) = .ok (.bl false) := by unfold isiV typeName; simp [show L2.kitB "list" "tuple" = some false from rfl]
@[simp] theorem isi_li : isiV "int" (.lst t xs) = .ok (.bl false) := by unfold isiV typeName; simp [show L2.kitB "list" "int" = some false from rfl]
@[simp] theorem isi_ls : isiV "str" (.lst t xs) = .ok (.bl false) := by unfold isiV typeName; simp [show L2.kitB "list" "str" = some false from rfl]
@[simp] theorem isi_tt : isiV "tuple" (.tup xs) = .ok (.bl true) := by unfold isiV typeName; simp [show L2.kitB "tuple" "tuple" = some true from rfl]
@[simp] theorem isi_tl : isiV "list" (.tup xs) = .ok (.bl false) := by unfold isiV typeName; simp [show L2.kitB "tuple" "list" = some false from rfl]
@[simp] theorem isi_ti : isiV "int" (.tup xs) = .ok (.bl false) := by unfold isiV typeName; simp [show L2.kitB "tuple" "int" = some false from rfl]
@[simp] theorem isi_ss : isiV "str" (.str x) = .ok (.bl true) := by unfold isiV typeName; simp [show L2.kitB "str" "str" = some true from rfl]
@[simp] theorem isi_bi : isiV "int" (.bl t) = .ok (.bl true) := by unfold isiV typeName; simp [show L2.kitB "bool" "int" = some true from rfl]
@[simp] theorem isi_bb : isiV "bool" (.bl t) = .ok (.bl true) := by unfold isiV typeName; simp [show L2.kitB "bool" "bool" = some true from rfl]
@[simp] theorem isi_bl : isiV "list" (.bl t) = .ok (.bl false) := by unfold isiV typeName; simp [show L2.kitB "bool" "list" = some false from rfl]
end
theorem ixV_lst {t : Bool} {xs : List PV} {n : Nat} {p : PV} (h : xs[n]? = some p) : ixV (.lst t xs) (.int n) = .ok p := by
  unfold ixV; dsimp only; rw [atI_nat h]
theorem ixV_tup {xs : List PV} {n : Nat} {p : PV} (h : xs[n]? = some p) : ixV (.tup xs) (.int n) = .ok p := by
  unfold ixV; dsimp only; rw [atI_nat h]
theorem ixV_scr {xs : List Int} {n : Nat} {p : Int} (h : xs[n]? = some p) : ixV (.scr xs) (.int n) = .ok (.int p) := by
  unfold ixV; dsimp only; rw [atI_nat h]
section
variable {s : Sl} {r : Rho} {i : Nat} {p : PV} {xs : List PV}
@[simp] theorem getV_zero : getV (.fz p :: r) 0 = .ok p := (rfl)
@[simp] theorem getV_succ : getV (s :: r) (i + 1) = getV r i := by unfold getV; rw [List.getElem?_cons_succ]
@[simp] theorem getB_zero : getB (.fz p :: r) 0 = .ok p := (rfl)
@[simp] theorem getB_zero' : getB (.own xs :: r) 0 = .ok (.lst true xs) := (rfl)
@[simp] theorem getB_succ : getB (s :: r) (i + 1) = getB r i := by unfold getB; rw [List.getElem?_cons_succ]
@[simp] theorem ownV_zero : ownV (.own xs :: r) 0 = .ok xs := (rfl)
@[simp] theorem ownV_succ : ownV (s :: r) (i + 1) = ownV r i := by unfold ownV; rw [List.getElem?_cons_succ]
@[simp] theorem frzI_own : frzI 0 (.own xs :: r) = .fz (.lst true xs) :: r := (rfl)
@[simp] theorem frzI_fz : frzI 0 (.fz p :: r) = .fz p :: r := (rfl)
@[simp] theorem frzI_no : frzI 0 (.no :: r) = .no :: r := (rfl)
@[simp] theorem frzI_succ : frzI (i + 1) (s :: r) = s :: frzI i r := by
  unfold frzI; rw [List.getElem?_cons_succ]
  cases r[i]? with
  | none => rfl
  | some s => cases s <;> rfl
end
/-! ### loops -/
section
variable {t : Rho → Rs Bool} {b : Rho → Out} {pre : Rho → Rho} {ρ ρ' : Rho} {o : Out}
theorem whileR_stop (h : t (pre ρ) = .ok false) : whileR t b pre ρ = .nx (pre ρ) := whileR_eq (n := 1) (by unfold whileF; rw [h]; rfl) (fun z => by cases z)
theorem whileR_go (h : t (pre ρ) = .ok true) (hb : b (pre ρ) = .nx ρ') (hr : whileR t b pre ρ' = o) (ho : o ≠ .no) : whileR t b pre ρ = o := by
  obtain ⟨n, hn⟩ := whileR_ex (t := t) (b := b) (pre := pre) (ρ := ρ') (by rw [hr]; exact ho)
  refine whileR_eq (n := n + 1) ?_ ho
  unfold whileF
  rw [h]
  show (b (pre ρ)).seq (whileF t b pre n) = o
  rw [hb]
  show whileF t b pre n ρ' = o
  rw [hn, hr]
theorem whileR_out (h : t (pre ρ) = .ok true) (hb : b (pre ρ) = o) (h1 : ∀ r, o ≠ .nx r) (ho : o ≠ .no) : whileR t b pre ρ = o := by
  refine whileR_eq (n := 1) ?_ ho
  unfold whileF
  rw [h]
  show (b (pre ρ)).seq (whileF t b pre 0) = o
  rw [hb]
  cases o with
  | nx r => exact absurd rfl (h1 r)
  | _ => rfl
end
section
variable {st : PV → Rho → Rs Rho} {b : Rho → Out} {ρ ρ1 ρ' : Rho} {o : Out} {x : PV} {xs : List PV}
@[simp] theorem forL_nil : forL st b [] ρ = .nx ρ := (rfl)
theorem forL_cons : forL st b (x :: xs) ρ = (st x ρ).out fun ρ1 => (b ρ1).seq (forL st b xs) := (rfl)
end
section
variable {G : Gt} {nm : Nm} {f : List Nat} {e elt c : E} {t : Ss} {ρ ρ1 ρ' : Rho} {o : Out} {tg own : List Nat} {w : Bool} {x : PV} {xs : List PV} {it : It}
/-- a while statement -/
noncomputable def wl (G : Gt) (nm : Nm) (f : List Nat) (e : E) (t : Ss) (ρ : Rho) : Out := whileR (fun ρ => (eE G ρ e).bind boolV) (fun ρ => eSs G nm ρ t) (frzA f) ρ
@[simp] theorem eS_whl : eS G nm ρ (.whl f e t) = wl G nm f e t ρ := by simp only [eS, wl]
theorem wl_stop (h : (eE G (frzA f ρ) e).bind boolV = .ok false) : wl G nm f e t ρ = .nx (frzA f ρ) := whileR_stop h
theorem wl_go (h : (eE G (frzA f ρ) e).bind boolV = .ok true) (hb : eSs G nm (frzA f ρ) t = .nx ρ') (hr : wl G nm f e t ρ' = o) (ho : o ≠ .no) : wl G nm f e t ρ = o := whileR_go h hb hr ho
theorem wl_out (h : (eE G (frzA f ρ) e).bind boolV = .ok true) (hb : eSs G nm (frzA f ρ) t = o) (h1 : ∀ r, o ≠ .nx r) (ho : o ≠ .no) : wl G nm f e t ρ = o := whileR_out h hb h1 ho
/-- a for statement's turns -/
noncomputable def fl (G : Gt) (nm : Nm) (tg : List Nat) (w : Bool) (t : Ss) (xs : List PV) (ρ : Rho) : Out := forL (setT w tg) (fun ρ => eSs G nm ρ t) xs ρ
@[simp] theorem eS_for : eS G nm ρ (.for f tg w it t) = (eI G (frzA f ρ) it).out fun xs => fl G nm tg w t xs (frzA f ρ) := by simp only [eS, fl]
@[simp] theorem fl_nil : fl G nm tg w t [] ρ = .nx ρ := (rfl)
theorem fl_cons : fl G nm tg w t (x :: xs) ρ = (setT w tg x ρ).out fun ρ1 => (eSs G nm ρ1 t).seq (fl G nm tg w t xs) := (rfl)
/-- a comprehension's turns -/
def cm (G : Gt) (ρ : Rho) (own tg : List Nat) (w : Bool) (elt : E) (xs : List PV) : Rs PV :=
  (compL (fun x => (setT w tg x (wipeS ρ own)).bind fun ρ1 => (eE G ρ1 elt).bind fun y => .ok (some y)) xs []).bind fun ys => .ok (.lst true ys)
@[simp] theorem eE_comp : eE G ρ (.comp own tg w it elt) = (eI G ρ it).bind (cm G ρ own tg w elt) := by rw [eE]; rfl
def cmIf (G : Gt) (ρ : Rho) (own tg : List Nat) (w : Bool) (c elt : E) (xs : List PV) : Rs PV :=
  (compL (fun x => (setT w tg x (wipeS ρ own)).bind fun ρ1 => (eE G ρ1 c).bind fun t => (boolV t).bind fun k => if k then (eE G ρ1 elt).bind fun y => .ok (some y) else .ok none) xs []).bind fun ys => .ok (.lst true ys)
@[simp] theorem eE_compIf : eE G ρ (.compIf own tg w it c elt) = (eI G ρ it).bind (cmIf G ρ own tg w c elt) := by rw [eE]; rfl
end
theorem compL_map {f : PV → Rs (Option PV)} {g : PV → PV} : ∀ {xs acc : List PV}, (∀ x ∈ xs, f x = .ok (some (g x))) → acc.length + xs.length ≤ sizeLine → compL f xs acc = .ok (acc ++ xs.map g)
  | [], acc, _, _ => by unfold compL; simp
  | x :: xs, acc, h, hl => by
    unfold compL
    rw [h x List.mem_cons_self]
    dsimp only
    rw [List.length_cons] at hl
    rw [if_pos (by omega), compL_map (fun y hy => h y (List.mem_cons_of_mem _ hy)) (by rw [List.length_append]; simp; omega)]
    simp
theorem compL_filter {f : PV → Rs (Option PV)} {c : PV → Bool} {g : PV → PV} : ∀ {xs acc : List PV}, (∀ x ∈ xs, f x = .ok (if c x then some (g x) else none)) → acc.length + xs.length ≤ sizeLine → compL f xs acc = .ok (acc ++ (xs.filter c).map g)
  | [], acc, _, _ => by unfold compL; simp
  | x :: xs, acc, h, hl => by
    unfold compL
    rw [h x List.mem_cons_self]
    rw [List.length_cons] at hl
    cases hc : c x with
    | true =>
      simp only [if_true]
      rw [if_pos (by omega), compL_filter (fun y hy => h y (List.mem_cons_of_mem _ hy)) (by rw [List.length_append]; simp; omega)]
      simp [hc]
    | false =>
      simp only [Bool.false_eq_true, if_false]
      rw [compL_filter (fun y hy => h y (List.mem_cons_of_mem _ hy)) (by omega)]
      simp [hc]
section
variable {G : Gt} {ρ : Rho} {own tg : List Nat} {w : Bool} {elt cc : E} {xs : List PV} {g : PV → PV} {c : PV → Bool}
theorem cm_map (g : PV → PV) (h : ∀ x ∈ xs, ((setT w tg x (wipeS ρ own)).bind fun ρ1 => eE G ρ1 elt) = .ok (g x)) (hl : xs.length ≤ sizeLine) : cm G ρ own tg w elt xs = .ok (.lst true (xs.map g)) := by
  unfold cm
  rw [compL_map (g := g) (fun x hx => ?_) (by simpa using hl)]
  · rfl
  · have := h x hx
    cases hs : setT w tg x (wipeS ρ own) with
    | ok r => rw [hs] at this; simp only [Rs.ok_bind] at this ⊢; rw [this]; rfl
    | err C => rw [hs] at this; cases this
    | no => rw [hs] at this; cases this
theorem cmIf_map (c : PV → Bool) (g : PV → PV) (h : ∀ x ∈ xs, ((setT w tg x (wipeS ρ own)).bind fun ρ1 => eE G ρ1 cc) = .ok (.bl (c x))) (h2 : ∀ x ∈ xs, c x = true → ((setT w tg x (wipeS ρ own)).bind fun ρ1 => eE G ρ1 elt) = .ok (g x))
    (hl : xs.length ≤ sizeLine) : cmIf G ρ own tg w cc elt xs = .ok (.lst true ((xs.filter c).map g)) := by
  unfold cmIf
  rw [compL_filter (c := c) (g := g) (fun x hx => ?_) (by simpa using hl)]
  · rfl
  · have q := h x hx
    have q2 := h2 x hx
    cases hs : setT w tg x (wipeS ρ own) with
    | ok r =>
      rw [hs] at q q2
      simp only [Rs.ok_bind] at q q2 ⊢
      rw [q]
      simp only [Rs.ok_bind, boolV_bl]
      cases hc : c x with
      | true => simp only [if_true]; rw [q2 hc]; rfl
      | false => rfl
    | err C => rw [hs] at q; cases q
    | no => rw [hs] at q; cases q
end
theorem olds_nil : PV.olds [] = [] := by simp only [PV.olds]
theorem olds_cons {p : PV} {ps : List PV} : PV.olds (p :: ps) = p.old :: PV.olds ps := by simp only [PV.olds]
/-! ### integers -/
theorem log2_le {n k : Nat} (h : n < 2 ^ k) : n.log2 ≤ k := by
  by_cases z : n = 0
  · subst z; simp
  · have := (Nat.log2_lt z).mpr h
    omega
theorem mulOk_l {a b : Int} (h : a.natAbs < 2 ^ 64) : MulOk a b := .inl h
theorem mulOk_r {a b : Int} (h : b.natAbs < 2 ^ 64) : MulOk a b := .inr (.inl h)
theorem mulOk_b {a b : Int} {k l : Nat} (h : a.natAbs < 2 ^ k) (h2 : b.natAbs < 2 ^ l) (hk : k + l < 1000000) : MulOk a b := .inr (.inr (by have := log2_le h; have := log2_le h2; omega))
theorem divOk_b {b : Int} {k : Nat} (h : b ≠ 0) (h2 : b.natAbs < 2 ^ k) (hk : k < 9000) : DivOk b := ⟨h, by have := log2_le h2; omega⟩
theorem mulV_l {i j : Int} (h : i.natAbs < 18446744073709551616) : mulV (.int i) (.int j) = .ok (.int (i * j)) := mulV_int (.inl h)
theorem mulV_r {i j : Int} (h : j.natAbs < 18446744073709551616) : mulV (.int i) (.int j) = .ok (.int (i * j)) := mulV_int (.inr (.inl h))
theorem fdivV_l {i j : Int} (h : j ≠ 0) (h2 : j.natAbs < 18446744073709551616) : fdivV (.int i) (.int j) = .ok (.int (i.fdiv j)) := fdivV_int (divOk_b (k := 64) h h2 (by decide))
theorem fmod_pos {a b : Int} (h : 0 ≤ b) : a.fmod b = a % b := Int.fmod_eq_emod_of_nonneg a h
theorem fdiv_pos {a b : Int} (h : 0 ≤ b) : a.fdiv b = a / b := Int.fdiv_eq_ediv_of_nonneg a h
theorem mod_lt {a b : Int} (h : 0 < b) : 0 ≤ a.fmod b ∧ a.fmod b < b := by rw [fmod_pos (by omega)]; exact ⟨Int.emod_nonneg _ (by omega), Int.emod_lt_of_pos _ h⟩
theorem ix2 {p q : PV} {i : Int} {y : Bool} : ∃ m, (m = p ∨ m = q) ∧ ixV (.lst y [p, q]) (.int (i.fmod 2)) = .ok m := by
  obtain ⟨h1, h2⟩ := mod_lt (a := i) (b := 2) (by omega)
  by_cases z : i.fmod 2 = 0
  · rw [z]; exact ⟨p, .inl rfl, ixV_lst (n := 0) rfl⟩
  · have z : i.fmod 2 = 1 := by omega
    rw [z]; exact ⟨q, .inr rfl, ixV_lst (n := 1) rfl⟩
theorem ix3 {p q r : PV} {i : Int} {y : Bool} : ∃ m, (m = p ∨ m = q ∨ m = r) ∧ ixV (.lst y [p, q, r]) (.int (i.fmod 3)) = .ok m := by
  obtain ⟨h1, h2⟩ := mod_lt (a := i) (b := 3) (by omega)
  by_cases z : i.fmod 3 = 0
  · rw [z]; exact ⟨p, .inl rfl, ixV_lst (n := 0) rfl⟩
  · by_cases z1 : i.fmod 3 = 1
    · rw [z1]; exact ⟨q, .inr (.inl rfl), ixV_lst (n := 1) rfl⟩
    · have z : i.fmod 3 = 2 := by omega
      rw [z]; exact ⟨r, .inr (.inr rfl), ixV_lst (n := 2) rfl⟩
theorem stage {G : Gt} {nm : Nm} {ρ ρ' : Rho} {s : S} {r : Ss} {o : Out} (h : eS G nm ρ s = .nx ρ') (h2 : eSs G nm ρ' r = o) : eSs G nm ρ (.cons s r) = o := by rw [eSs_cons, h]; exact h2
theorem stop {G : Gt} {nm : Nm} {ρ : Rho} {s : S} {r : Ss} {p : PV} (h : eS G nm ρ s = .ret p) : eSs G nm ρ (.cons s r) = .ret p := by rw [eSs_cons, h]; rfl
theorem runF_ret {G : Gt} {nm : Nm} {np nv : Nat} {body : Ss} {ps : List PV} {p : PV} (hl : ps.length = np) (h : eSs G nm (startR nv (PV.olds ps)) body = .ret p) : runF G nm ⟨np, nv, body⟩ ps = .ok p := by
  unfold runF; dsimp only; rw [if_pos hl, h]
/-- the law's own cell -/
def cellI (ns : List Int) (k : Nat) : Int := (ns[k]?).getD 0
end SG

namespace BO
open SG
def b_is_whole : Ss := (.cons (.ret [] (.and (.isi (.var 0) "int") (.not (.isi (.var 0) "bool")))) .nil)
def fi_is_whole : FI := ⟨1, 1, b_is_whole⟩
def b_is_among : Ss := (.cons (.ret [] (.and (.call "is_whole" (.cons (.var 0) .nil)) (.chain .le .le (.var 1) (.var 0) (.var 2)))) .nil)
def fi_is_among : FI := ⟨3, 3, b_is_among⟩
def b_are_numbers : Ss := (.cons (.iff [] (.cmp .ne (.bi .len (.cons (.var 0) .nil)) (.var 1)) (.cons (.ret [] (.bl false)) .nil) .nil) (.cons (.ret [] (.bi .all (.cons (.comp [3, 4] [4] true (.val (.var 0)) (.call "is_among" (.cons (.var 4) (.cons (.neg (.var 2)) (.cons (.var 2) .nil))))) .nil))) .nil))
def fi_are_numbers : FI := ⟨3, 5, b_are_numbers⟩
def b_need_lists : Ss := (.cons (.iff [] (.or (.not (.isi (.var 0) "list")) (.not (.chain .le .le (.int 1) (.bi .len (.cons (.var 0) .nil)) (.gint "MOST_ROWS" 3)))) (.cons (.rse "BadRows") .nil) .nil) (.cons (.for [] [1] true (.val (.var 0)) (.cons (.iff [] (.or (.not (.isi (.var 1) "tuple")) (.not (.call "are_numbers" (.cons (.var 1) (.cons (.bi .len (.cons (.var 0) .nil)) (.cons (.gint "MOST_NUMBER" 1000000) .nil)))))) (.cons (.rse "BadRows") .nil) .nil) .nil)) .nil))
def fi_need_lists : FI := ⟨1, 2, b_need_lists⟩
def b_crossed : Ss := (.cons (.asg [] 2 (.op .sub (.op .mul (.ixv 0 (.int 1)) (.ixv 1 (.int 2))) (.op .mul (.ixv 0 (.int 2)) (.ixv 1 (.int 1))))) (.cons (.asg [] 3 (.op .sub (.op .mul (.ixv 0 (.int 2)) (.ixv 1 (.int 0))) (.op .mul (.ixv 0 (.int 0)) (.ixv 1 (.int 2))))) (.cons (.ret [] (.tup (.cons (.var 2) (.cons (.var 3) (.cons (.op .sub (.op .mul (.ixv 0 (.int 0)) (.ixv 1 (.int 1))) (.op .mul (.ixv 0 (.int 1)) (.ixv 1 (.int 0)))) .nil))))) .nil)))
def fi_crossed : FI := ⟨2, 4, b_crossed⟩
def b_inner : Ss := (.cons (.ret [] (.bi .sum (.cons (.comp [2, 3, 4] [3, 4] false (.zip (.var 0) (.var 1)) (.op .mul (.var 3) (.var 4))) .nil))) .nil)
def fi_inner : FI := ⟨2, 5, b_inner⟩
def b_counters_of : Ss := (.cons (.iff [] (.cmp .eq (.bi .len (.cons (.var 0) .nil)) (.int 1)) (.cons (.ret [] (.lst (.cons (.tup (.cons (.int 1) .nil)) .nil))) .nil) .nil) (.cons (.iff [] (.cmp .eq (.bi .len (.cons (.var 0) .nil)) (.int 2)) (.cons (.asgT [] [1, 2] (.var 0)) (.cons (.ret [] (.lst (.cons (.tup (.cons (.ixv 2 (.int 1)) (.cons (.neg (.ixv 2 (.int 0))) .nil))) (.cons (.tup (.cons (.neg (.ixv 1 (.int 1))) (.cons (.ixv 1 (.int 0)) .nil))) .nil)))) .nil)) .nil) (.cons (.asgT [] [1, 4, 3] (.var 0)) (.cons (.ret [] (.lst (.cons (.call "crossed" (.cons (.var 4) (.cons (.var 3) .nil))) (.cons (.call "crossed" (.cons (.var 3) (.cons (.var 1) .nil))) (.cons (.call "crossed" (.cons (.var 1) (.cons (.var 4) .nil))) .nil))))) .nil))))
def fi_counters_of : FI := ⟨1, 5, b_counters_of⟩
def b_bulk_of : Ss := (.cons (.ret [] (.call "inner" (.cons (.ixv 0 (.int 0)) (.cons (.ix (.call "counters_of" (.cons (.var 0) .nil)) (.int 0)) .nil)))) .nil)
def fi_bulk_of : FI := ⟨1, 1, b_bulk_of⟩
def b_bulk : Ss := (.cons (.ex [] (.call "need_lists" (.cons (.var 0) .nil))) (.cons (.ret [] (.call "bulk_of" (.cons (.var 0) .nil))) .nil))
def fi_bulk : FI := ⟨1, 1, b_bulk⟩
def b__law_cell : Ss := (.cons (.iff [] (.cmp .lt (.var 1) (.bi .len (.cons (.var 0) .nil))) (.cons (.ret [] (.ixv 0 (.var 1))) .nil) .nil) (.cons (.ret [] (.int 0)) .nil))
def fi__law_cell : FI := ⟨2, 2, b__law_cell⟩
def b__law_more : Ss := (.cons (.asg [] 2 (.op .add (.op .mul (.call "_law_cell" (.cons (.var 0) (.cons (.var 1) .nil))) (.int 48271)) (.op .mul (.call "_law_cell" (.cons (.var 0) (.cons (.op .mod (.var 1) (.int 5)) .nil))) (.int 16807)))) (.cons (.ret [] (.op .mod (.op .add (.op .add (.var 2) (.op .mul (.op .mul (.int 7919) (.var 1)) (.var 1))) (.int 12345)) (.int 2147483647))) .nil))
def fi__law_more : FI := ⟨2, 3, b__law_more⟩
def b__law_whole : Ss := (.cons (.ret [] (.and (.isi (.var 0) "int") (.not (.isi (.var 0) "bool")))) .nil)
def fi__law_whole : FI := ⟨1, 1, b__law_whole⟩
def b__law_without : Ss := (.cons (.ret [] (.op .add (.slHiV 0 (.var 1)) (.slLoV 0 (.op .add (.var 1) (.int 1))))) .nil)
def fi__law_without : FI := ⟨2, 2, b__law_without⟩
def b__law_bulk : Ss := (.cons (.iff [] (.cmp .eq (.var 0) (.lst .nil)) (.cons (.ret [] (.int 1)) .nil) .nil) (.cons (.asg [] 2 (.int 0)) (.cons (.for [] [3] true (.rng1 (.bi .len (.cons (.var 0) .nil))) (.cons (.asg [] 4 (.op .mul (.ix (.ixv 0 (.int 0)) (.var 3)) (.call "_law_bulk" (.cons (.comp [1, 5] [5] true (.val (.slLoV 0 (.int 1))) (.call "_law_without" (.cons (.var 5) (.cons (.var 3) .nil)))) .nil)))) (.cons (.asg [] 2 (.op .add (.var 2) (.ix (.lst (.cons (.var 4) (.cons (.neg (.var 4)) .nil))) (.op .mod (.var 3) (.int 2))))) .nil))) (.cons (.ret [] (.var 2)) .nil))))
def fi__law_bulk : FI := ⟨1, 6, b__law_bulk⟩
def b__law_drawn : Ss := (.cons (.asgM [] 7 (.lst .nil)) (.cons (.for [] [5] true (.rng1 (.var 2)) (.cons (.asgM [] 6 (.lst .nil)) (.cons (.for [] [4] true (.rng1 (.var 2)) (.cons (.app [] 6 (.op .sub (.op .mod (.op .fdiv (.call "_law_more" (.cons (.var 0) (.cons (.op .add (.op .add (.var 1) (.op .mul (.int 3) (.var 5))) (.var 4)) .nil))) (.int 7)) (.op .add (.op .mul (.int 2) (.var 3)) (.int 1))) (.var 3))) .nil)) (.cons (.app [6] 7 (.bi .tuple (.cons (.var 6) .nil))) .nil)))) (.cons (.ret [7] (.var 7)) .nil)))
def fi__law_drawn : FI := ⟨4, 8, b__law_drawn⟩
def b_need_rows : Ss := (.cons (.ex [] (.call "need_lists" (.cons (.var 0) .nil))) (.cons (.iff [] (.cmp .eq (.call "bulk_of" (.cons (.var 0) .nil)) (.int 0)) (.cons (.rse "BadRows") .nil) .nil) .nil))
def fi_need_rows : FI := ⟨1, 1, b_need_rows⟩
def b_sum_of : Ss := (.cons (.asgM [] 3 (.lst .nil)) (.cons (.for [] [4] true (.rng1 (.bi .len (.cons (.ixv 0 (.int 0)) .nil))) (.cons (.app [] 3 (.bi .sum (.cons (.comp [2, 6, 5] [6, 5] false (.zip (.var 1) (.var 0)) (.op .mul (.var 6) (.ixv 5 (.var 4)))) .nil))) .nil)) (.cons (.ret [3] (.bi .tuple (.cons (.var 3) .nil))) .nil)))
def fi_sum_of : FI := ⟨2, 7, b_sum_of⟩
def b_point_of : Ss := (.cons (.ex [] (.call "need_rows" (.cons (.var 0) .nil))) (.cons (.iff [] (.or (.not (.isi (.var 1) "list")) (.not (.call "are_numbers" (.cons (.var 1) (.cons (.bi .len (.cons (.var 0) .nil)) (.cons (.gint "MOST_PLACE" 1000000000000) .nil)))))) (.cons (.rse "BadWeights") .nil) .nil) (.cons (.ret [] (.call "sum_of" (.cons (.var 0) (.cons (.var 1) .nil)))) .nil)))
def fi_point_of : FI := ⟨2, 2, b_point_of⟩
def b_square : Ss := (.cons (.ret [] (.call "inner" (.cons (.var 0) (.cons (.var 0) .nil)))) .nil)
def fi_square : FI := ⟨1, 1, b_square⟩
def b__law_rows : Ss := (.cons (.asgM [] 9 (.call "_law_drawn" (.cons (.var 0) (.cons (.var 1) (.cons (.var 2) (.cons (.var 3) .nil)))))) (.cons (.asg [] 11 (.op .mod (.call "_law_cell" (.cons (.var 0) (.cons (.var 1) .nil))) (.int 5))) (.cons (.iff [] (.cmp .eq (.var 11) (.int 1)) (.cons (.asgM [] 9 (.comp [4, 6] [6] true (.rng1 (.var 2)) (.bi .tuple (.cons (.comp [4, 5] [5] true (.rng1 (.var 2)) (.op .mul (.ix (.ixv 9 (.var 6)) (.var 5)) (.bi .int (.cons (.cmp .ge (.var 5) (.var 6)) .nil)))) .nil)))) .nil) .nil) (.cons (.iff [] (.and (.cmp .eq (.var 11) (.int 2)) (.cmp .gt (.var 2) (.int 1))) (.cons (.asg [] 10 (.op .add (.int 1) (.op .mod (.op .fdiv (.call "_law_cell" (.cons (.var 0) (.cons (.var 1) .nil))) (.int 5)) (.int 3)))) (.cons (.setI [] 9 (.int 0) (.bi .tuple (.cons (.comp [4, 5] [5] true (.rng1 (.var 2)) (.bi .max (.cons (.neg (.var 3)) (.cons (.bi .min (.cons (.var 3) (.cons (.op .add (.op .mul (.ix (.ixv 9 (.int 1)) (.var 5)) (.var 10)) (.op .mod (.ix (.ixv 9 (.int 0)) (.var 5)) (.int 3))) .nil))) .nil)))) .nil))) .nil)) .nil) (.cons (.iff [9] (.cmp .eq (.call "_law_bulk" (.cons (.var 9) .nil)) (.int 0)) (.cons (.asgM [] 9 (.comp [4, 6] [6] true (.rng1 (.var 2)) (.bi .tuple (.cons (.comp [4, 5] [5] true (.rng1 (.var 2)) (.op .mul (.bi .int (.cons (.cmp .eq (.var 5) (.var 6)) .nil)) (.op .add (.int 1) (.bi .abs (.cons (.ix (.ixv 9 (.var 6)) (.var 5)) .nil))))) .nil)))) (.cons (.asgM [9] 9 (.comp [4, 8] [8] true (.val (.var 9)) (.bi .tuple (.cons (.comp [4, 7] [7] true (.val (.var 8)) (.bi .min (.cons (.var 3) (.cons (.var 7) .nil)))) .nil)))) .nil)) .nil) (.cons (.ret [9] (.var 9)) .nil))))))
def fi__law_rows : FI := ⟨4, 12, b__law_rows⟩
def b__law_tuple : Ss := (.cons (.iff [] (.or (.not (.isi (.var 0) "tuple")) (.cmp .ne (.bi .len (.cons (.var 0) .nil)) (.var 1))) (.cons (.ret [] (.bl false)) .nil) .nil) (.cons (.ret [] (.cmp .eq (.compIf [2, 3] [3] true (.val (.var 0)) (.not (.call "_law_whole" (.cons (.var 3) .nil))) (.var 3)) (.lst .nil))) .nil))
def fi__law_tuple : FI := ⟨2, 4, b__law_tuple⟩
def b__law_rows_told : Ss := (.cons (.iff [] (.or (.not (.isi (.var 0) "list")) (.cmp .ne (.bi .len (.cons (.var 0) .nil)) (.var 1))) (.cons (.ret [] (.bl false)) .nil) .nil) (.cons (.ret [] (.cmp .eq (.compIf [2, 3] [3] true (.val (.var 0)) (.not (.call "_law_tuple" (.cons (.var 3) (.cons (.var 1) .nil)))) (.var 3)) (.lst .nil))) .nil))
def fi__law_rows_told : FI := ⟨2, 4, b__law_rows_told⟩
def b_counters : Ss := (.cons (.ex [] (.call "need_rows" (.cons (.var 0) .nil))) (.cons (.ret [] (.call "counters_of" (.cons (.var 0) .nil))) .nil))
def fi_counters : FI := ⟨1, 1, b_counters⟩
def b__law_inner : Ss := (.cons (.ret [] (.bi .sum (.cons (.comp [2, 3] [3] true (.rng1 (.bi .len (.cons (.var 0) .nil))) (.op .mul (.ixv 0 (.var 3)) (.ixv 1 (.var 3)))) .nil))) .nil)
def fi__law_inner : FI := ⟨2, 4, b__law_inner⟩
def b_need_point : Ss := (.cons (.iff [] (.or (.not (.isi (.var 0) "tuple")) (.not (.call "are_numbers" (.cons (.var 0) (.cons (.var 1) (.cons (.gint "MOST_PLACE" 1000000000000) .nil)))))) (.cons (.rse "BadPoint") .nil) .nil) .nil)
def fi_need_point : FI := ⟨2, 2, b_need_point⟩
def b_whole_weights : Ss := (.cons (.asg [] 6 (.call "bulk_of" (.cons (.var 0) .nil))) (.cons (.asg [] 5 (.comp [2, 3] [3] true (.val (.call "counters_of" (.cons (.var 0) .nil))) (.call "inner" (.cons (.var 1) (.cons (.var 3) .nil))))) (.cons (.iff [] (.cmp .ne (.compIf [2, 4] [4] true (.val (.var 5)) (.cmp .ne (.op .mod (.var 4) (.var 6)) (.int 0)) (.var 4)) (.lst .nil)) (.cons (.ret [] .non) .nil) .nil) (.cons (.ret [] (.comp [2, 4] [4] true (.val (.var 5)) (.op .fdiv (.var 4) (.var 6)))) .nil))))
def fi_whole_weights : FI := ⟨2, 7, b_whole_weights⟩
def b_weights_of : Ss := (.cons (.ex [] (.call "need_rows" (.cons (.var 0) .nil))) (.cons (.ex [] (.call "need_point" (.cons (.var 1) (.cons (.bi .len (.cons (.var 0) .nil)) .nil)))) (.cons (.ret [] (.call "whole_weights" (.cons (.var 0) (.cons (.var 1) .nil)))) .nil)))
def fi_weights_of : FI := ⟨2, 2, b_weights_of⟩
def b__law_counters : Ss := (.cons (.asgM [] 3 (.lst .nil)) (.cons (.for [] [5] true (.rng1 (.bi .len (.cons (.var 0) .nil))) (.cons (.asgM [] 2 (.lst .nil)) (.cons (.for [] [4] true (.rng1 (.bi .len (.cons (.var 0) .nil))) (.cons (.asg [] 6 (.call "_law_bulk" (.cons (.comp [1, 7] [7] true (.val (.op .add (.slHiV 0 (.var 5)) (.slLoV 0 (.op .add (.var 5) (.int 1))))) (.call "_law_without" (.cons (.var 7) (.cons (.var 4) .nil)))) .nil))) (.cons (.app [] 2 (.ix (.lst (.cons (.var 6) (.cons (.neg (.var 6)) .nil))) (.op .mod (.op .add (.var 5) (.var 4)) (.int 2)))) .nil))) (.cons (.app [2] 3 (.bi .tuple (.cons (.var 2) .nil))) .nil)))) (.cons (.ret [3] (.var 3)) .nil)))
def fi__law_counters : FI := ⟨1, 8, b__law_counters⟩
def b__law_sum : Ss := (.cons (.asg [] 3 (.op .mul (.lst (.cons (.int 0) .nil)) (.bi .len (.cons (.ixv 0 (.int 0)) .nil)))) (.cons (.for [] [5] true (.rng1 (.bi .len (.cons (.var 0) .nil))) (.cons (.asg [] 3 (.comp [2, 4] [4] true (.rng1 (.bi .len (.cons (.var 3) .nil))) (.op .add (.ixv 3 (.var 4)) (.op .mul (.ixv 1 (.var 5)) (.ix (.ixv 0 (.var 5)) (.var 4)))))) .nil)) (.cons (.ret [] (.bi .tuple (.cons (.var 3) .nil))) .nil)))
def fi__law_sum : FI := ⟨2, 6, b__law_sum⟩
def b__law_weights : Ss := (.cons (.asg [] 6 (.call "_law_bulk" (.cons (.var 0) .nil))) (.cons (.asg [] 5 (.comp [2, 3] [3] true (.val (.call "_law_counters" (.cons (.var 0) .nil))) (.call "_law_inner" (.cons (.var 1) (.cons (.var 3) .nil))))) (.cons (.iff [] (.cmp .ne (.compIf [2, 4] [4] true (.val (.var 5)) (.cmp .ne (.op .mod (.var 4) (.var 6)) (.int 0)) (.var 4)) (.lst .nil)) (.cons (.ret [] .non) .nil) .nil) (.cons (.ret [] (.comp [2, 4] [4] true (.val (.var 5)) (.op .fdiv (.var 4) (.var 6)))) .nil))))
def fi__law_weights : FI := ⟨2, 7, b__law_weights⟩
def b_less : Ss := (.cons (.ret [] (.bi .tuple (.cons (.comp [3, 4, 5] [4, 5] false (.zip (.var 0) (.var 2)) (.op .sub (.var 4) (.op .mul (.var 1) (.var 5)))) .nil))) .nil)
def fi_less : FI := ⟨3, 6, b_less⟩
def b_least_at : Ss := (.cons (.asg [] 2 .non) (.cons (.for [] [3] true (.rng1 (.bi .len (.cons (.var 0) .nil))) (.cons (.iff [] (.and (.cmp .ne (.ix (.ixv 0 (.var 3)) (.var 1)) (.int 0)) (.or (.isN false (.var 2)) (.cmp .lt (.bi .abs (.cons (.ix (.ixv 0 (.var 3)) (.var 1)) .nil)) (.bi .abs (.cons (.ix (.ixv 0 (.var 2)) (.var 1)) .nil))))) (.cons (.asg [] 2 (.var 3)) .nil) .nil) .nil)) (.cons (.ret [] (.var 2)) .nil)))
def fi_least_at : FI := ⟨2, 4, b_least_at⟩
def b_cleared : Ss := (.cons (.asg [] 4 (.bi .list (.cons (.var 0) .nil))) (.cons (.whl [] (.bl true) (.cons (.asg [] 3 (.call "least_at" (.cons (.var 4) (.cons (.var 1) .nil)))) (.cons (.asg [] 7 (.ixv 4 (.var 3))) (.cons (.asg [] 6 (.op .add (.slHiV 4 (.var 3)) (.slLoV 4 (.op .add (.var 3) (.int 1))))) (.cons (.asg [] 4 (.op .add (.lst (.cons (.var 7) .nil)) (.comp [2, 5] [5] true (.val (.var 6)) (.call "less" (.cons (.var 5) (.cons (.op .fdiv (.ixv 5 (.var 1)) (.ixv 7 (.var 1))) (.cons (.var 7) .nil))))))) (.cons (.iff [] (.cmp .eq (.compIf [2, 5] [5] true (.val (.slLoV 4 (.int 1))) (.cmp .ne (.ixv 5 (.var 1)) (.int 0)) (.var 5)) (.lst .nil)) (.cons (.iff [] (.cmp .lt (.ixv 7 (.var 1)) (.int 0)) (.cons (.asg [] 7 (.call "less" (.cons (.var 7) (.cons (.int 2) (.cons (.var 7) .nil))))) .nil) .nil) (.cons (.ret [] (.tup (.cons (.var 7) (.cons (.slLoV 4 (.int 1)) .nil)))) .nil)) .nil) .nil)))))) .nil))
def fi_cleared : FI := ⟨2, 8, b_cleared⟩
def b_stair_of : Ss := (.cons (.asgM [] 2 (.lst .nil)) (.cons (.asg [] 4 (.bi .list (.cons (.var 0) .nil))) (.cons (.for [] [5] true (.rng1 (.var 1)) (.cons (.asgT [] [6, 4] (.call "cleared" (.cons (.var 4) (.cons (.var 5) .nil)))) (.cons (.app [] 2 (.var 6)) .nil))) (.cons (.for [] [5] true (.rng1 (.var 1)) (.cons (.for [] [3] true (.rng1 (.var 5)) (.cons (.setI [] 2 (.var 3) (.call "less" (.cons (.ixv 2 (.var 3)) (.cons (.op .fdiv (.ix (.ixv 2 (.var 3)) (.var 5)) (.ix (.ixv 2 (.var 5)) (.var 5))) (.cons (.ixv 2 (.var 5)) .nil))))) .nil)) .nil)) (.cons (.ret [2] (.var 2)) .nil)))))
def fi_stair_of : FI := ⟨2, 7, b_stair_of⟩
def b_stair : Ss := (.cons (.ex [] (.call "need_rows" (.cons (.var 0) .nil))) (.cons (.ret [] (.call "stair_of" (.cons (.var 0) (.cons (.bi .len (.cons (.var 0) .nil)) .nil)))) .nil))
def fi_stair : FI := ⟨1, 1, b_stair⟩
def b__law_is_stair : Ss := (.cons (.for [] [2] true (.rng1 (.bi .len (.cons (.var 0) .nil))) (.cons (.iff [] (.or (.cmp .lt (.ix (.ixv 0 (.var 2)) (.var 2)) (.int 1)) (.cmp .ne (.slHi (.ixv 0 (.var 2)) (.var 2)) (.op .mul (.tup (.cons (.int 0) .nil)) (.var 2)))) (.cons (.ret [] (.bl false)) .nil) .nil) (.cons (.for [] [1] true (.rng1 (.var 2)) (.cons (.iff [] (.not (.chain .le .lt (.int 0) (.ix (.ixv 0 (.var 1)) (.var 2)) (.ix (.ixv 0 (.var 2)) (.var 2)))) (.cons (.ret [] (.bl false)) .nil) .nil) .nil)) .nil))) (.cons (.ret [] (.bl true)) .nil))
def fi__law_is_stair : FI := ⟨1, 3, b__law_is_stair⟩
def b_need_both : Ss := (.cons (.ex [] (.call "need_rows" (.cons (.var 0) .nil))) (.cons (.ex [] (.call "need_rows" (.cons (.var 1) .nil))) (.cons (.iff [] (.cmp .ne (.bi .len (.cons (.var 0) .nil)) (.bi .len (.cons (.var 1) .nil))) (.cons (.rse "BadRows") .nil) .nil) .nil)))
def fi_need_both : FI := ⟨2, 2, b_need_both⟩
def b_same : Ss := (.cons (.ex [] (.call "need_both" (.cons (.var 0) (.cons (.var 1) .nil)))) (.cons (.ret [] (.cmp .eq (.call "stair_of" (.cons (.var 0) (.cons (.bi .len (.cons (.var 0) .nil)) .nil))) (.call "stair_of" (.cons (.var 1) (.cons (.bi .len (.cons (.var 1) .nil)) .nil))))) .nil))
def fi_same : FI := ⟨2, 2, b_same⟩
def b_table_of : Ss := (.cons (.asg [] 4 (.comp [2, 3] [3] true (.val (.var 0)) (.call "whole_weights" (.cons (.var 1) (.cons (.var 3) .nil))))) (.cons (.iff [] (.cmp .isin .non (.var 4)) (.cons (.ret [] .non) .nil) .nil) (.cons (.ret [] (.var 4)) .nil)))
def fi_table_of : FI := ⟨2, 5, b_table_of⟩
def b_made_of : Ss := (.cons (.ex [] (.call "need_both" (.cons (.var 0) (.cons (.var 1) .nil)))) (.cons (.ret [] (.call "table_of" (.cons (.var 0) (.cons (.var 1) .nil)))) .nil))
def fi_made_of : FI := ⟨2, 2, b_made_of⟩
def b__law_mixed : Ss := (.cons (.asgM [] 6 (.bi .list (.cons (.var 2) .nil))) (.cons (.for [] [8] true (.rng1 (.int 4)) (.cons (.asg [] 5 (.call "_law_more" (.cons (.var 0) (.cons (.op .add (.var 1) (.var 8)) .nil)))) (.cons (.asg [] 10 (.op .mod (.var 5) (.bi .len (.cons (.var 2) .nil)))) (.cons (.asg [] 11 (.op .mod (.op .fdiv (.var 5) (.int 3)) (.bi .len (.cons (.var 2) .nil)))) (.cons (.asg [] 13 (.op .sub (.op .mod (.op .fdiv (.var 5) (.int 9)) (.int 5)) (.int 2))) (.cons (.asgM [] 12 (.lst .nil)) (.cons (.for [] [7] true (.rng1 (.bi .len (.cons (.var 2) .nil))) (.cons (.app [] 12 (.op .add (.ix (.ixv 6 (.var 10)) (.var 7)) (.op .mul (.var 13) (.ix (.ixv 6 (.var 11)) (.var 7))))) .nil)) (.cons (.iff [12] (.and (.cmp .ne (.var 10) (.var 11)) (.cmp .le (.bi .max (.cons (.comp [3, 9] [9] true (.val (.var 12)) (.bi .abs (.cons (.var 9) .nil))) .nil)) (.int 1000000))) (.cons (.setI [12] 6 (.var 10) (.bi .tuple (.cons (.var 12) .nil))) .nil) .nil) .nil)))))))) (.cons (.asg [] 4 (.op .mod (.call "_law_more" (.cons (.var 0) (.cons (.op .add (.var 1) (.int 4)) .nil))) (.bi .len (.cons (.var 2) .nil)))) (.cons (.setI [] 6 (.var 4) (.bi .tuple (.cons (.comp [3, 9] [9] true (.val (.ixv 6 (.var 4))) (.neg (.var 9))) .nil))) (.cons (.ret [] (.op .add (.slLoV 6 (.var 4)) (.slHiV 6 (.var 4)))) .nil)))))
def fi__law_mixed : FI := ⟨3, 14, b__law_mixed⟩
def b_rounded : Ss := (.cons (.ret [] (.op .fdiv (.op .add (.op .mul (.int 2) (.var 0)) (.var 1)) (.op .mul (.int 2) (.var 1)))) .nil)
def fi_rounded : FI := ⟨2, 2, b_rounded⟩
def b_ways : Ss := (.cons (.asg [] 2 (.lst (.cons (.lst .nil) .nil))) (.cons (.for [] [6] true (.rng1 (.var 0)) (.cons (.asgM [] 3 (.lst .nil)) (.cons (.for [] [4] true (.val (.var 2)) (.cons (.ext [] 3 (.comp [1, 5] [5] true (.val (.tup (.cons (.neg (.int 1)) (.cons (.int 0) (.cons (.int 1) .nil))))) (.op .add (.var 4) (.lst (.cons (.var 5) .nil))))) .nil)) (.cons (.asg [3] 2 (.var 3)) .nil)))) (.cons (.ret [] (.var 2)) .nil)))
def fi_ways : FI := ⟨1, 7, b_ways⟩
def b_pair_less : Ss := (.cons (.ret [] (.call "less" (.cons (.ixv 0 (.var 1)) (.cons (.call "rounded" (.cons (.call "inner" (.cons (.ixv 0 (.var 1)) (.cons (.ixv 0 (.var 2)) .nil))) (.cons (.call "square" (.cons (.ixv 0 (.var 2)) .nil)) .nil))) (.cons (.ixv 0 (.var 2)) .nil))))) .nil)
def fi_pair_less : FI := ⟨3, 3, b_pair_less⟩
def b_shorter_rows : Ss := (.cons (.asgM [] 3 (.compIf [2, 4] [4] true (.rng1 (.bi .len (.cons (.var 0) .nil))) (.cmp .ne (.var 4) (.var 1)) (.call "pair_less" (.cons (.var 0) (.cons (.var 1) (.cons (.var 4) .nil)))))) (.cons (.for [] [6] true (.val (.call "ways" (.cons (.bi .len (.cons (.var 0) .nil)) .nil))) (.cons (.asg [] 5 (.ixv 0 (.var 1))) (.cons (.for [] [4] true (.rng1 (.bi .len (.cons (.var 0) .nil))) (.cons (.iff [] (.cmp .ne (.var 4) (.var 1)) (.cons (.asg [] 5 (.call "less" (.cons (.var 5) (.cons (.ixv 6 (.var 4)) (.cons (.ixv 0 (.var 4)) .nil))))) .nil) .nil) .nil)) (.cons (.app [] 3 (.var 5)) .nil)))) (.cons (.ret [3] (.var 3)) .nil)))
def fi_shorter_rows : FI := ⟨2, 7, b_shorter_rows⟩
def b_once : Ss := (.cons (.for [] [1] true (.rng1 (.bi .len (.cons (.var 0) .nil))) (.cons (.for [] [2] true (.val (.call "shorter_rows" (.cons (.var 0) (.cons (.var 1) .nil)))) (.cons (.iff [] (.cmp .lt (.call "square" (.cons (.var 2) .nil)) (.call "square" (.cons (.ixv 0 (.var 1)) .nil))) (.cons (.ret [] (.op .add (.op .add (.slHiV 0 (.var 1)) (.lst (.cons (.var 2) .nil))) (.slLoV 0 (.op .add (.var 1) (.int 1))))) .nil) .nil) .nil)) .nil)) (.cons (.ret [] .non) .nil))
def fi_once : FI := ⟨1, 3, b_once⟩
def b_short_rows : Ss := (.cons (.asg [] 2 (.bi .list (.cons (.var 0) .nil))) (.cons (.asg [] 3 (.call "once" (.cons (.var 2) .nil))) (.cons (.whl [] (.isN true (.var 3)) (.cons (.asg [] 2 (.var 3)) (.cons (.asg [] 3 (.call "once" (.cons (.var 2) .nil))) .nil))) (.cons .nev .nil))))
def fi_short_rows : FI := ⟨1, 6, b_short_rows⟩
def b_shortened : Ss := (.cons (.ex [] (.call "need_rows" (.cons (.var 0) .nil))) (.cons (.asg [] 1 (.call "short_rows" (.cons (.var 0) .nil))) (.cons (.ret [] (.tup (.cons (.var 1) (.cons (.call "table_of" (.cons (.var 1) (.cons (.var 0) .nil))) (.cons (.call "table_of" (.cons (.var 0) (.cons (.var 1) .nil))) .nil))))) .nil)))
def fi_shortened : FI := ⟨1, 2, b_shortened⟩
def b__law_square : Ss := (.cons (.ret [] (.bi .sum (.cons (.comp [1, 2] [2] true (.val (.var 0)) (.op .mul (.var 2) (.var 2))) .nil))) .nil)
def fi__law_square : FI := ⟨1, 3, b__law_square⟩
def b__law_signs : Ss := (.cons (.asg [] 2 (.lst (.cons (.lst .nil) .nil))) (.cons (.for [] [6] true (.rng1 (.var 0)) (.cons (.asgM [] 3 (.lst .nil)) (.cons (.for [] [4] true (.val (.var 2)) (.cons (.ext [] 3 (.comp [1, 5] [5] true (.val (.tup (.cons (.neg (.int 1)) (.cons (.int 0) (.cons (.int 1) .nil))))) (.op .add (.var 4) (.lst (.cons (.var 5) .nil))))) .nil)) (.cons (.asg [3] 2 (.var 3)) .nil)))) (.cons (.ret [] (.var 2)) .nil)))
def fi__law_signs : FI := ⟨1, 7, b__law_signs⟩
def b__law_is_short : Ss := (.cons (.for [] [1] true (.rng1 (.bi .len (.cons (.var 0) .nil))) (.cons (.iff [] (.and (.cmp .gt (.var 1) (.int 0)) (.cmp .gt (.call "_law_square" (.cons (.ixv 0 (.op .sub (.var 1) (.int 1))) .nil)) (.call "_law_square" (.cons (.ixv 0 (.var 1)) .nil)))) (.cons (.ret [] (.bl false)) .nil) .nil) (.cons (.for [] [2] true (.val (.call "_law_signs" (.cons (.bi .len (.cons (.var 0) .nil)) .nil))) (.cons (.asg [] 3 (.op .add (.op .add (.slHiV 2 (.var 1)) (.lst (.cons (.int 1) .nil))) (.slLoV 2 (.op .add (.var 1) (.int 1))))) (.cons (.iff [] (.cmp .lt (.call "_law_square" (.cons (.call "_law_sum" (.cons (.var 0) (.cons (.var 3) .nil))) .nil)) (.call "_law_square" (.cons (.ixv 0 (.var 1)) .nil))) (.cons (.ret [] (.bl false)) .nil) .nil) .nil))) .nil))) (.cons (.ret [] (.bl true)) .nil))
def fi__law_is_short : FI := ⟨1, 4, b__law_is_short⟩
def b__law_same_grid : Ss := (.cons (.for [] [2] true (.val (.var 0)) (.cons (.iff [] (.isN false (.call "_law_weights" (.cons (.var 1) (.cons (.var 2) .nil)))) (.cons (.ret [] (.bl false)) .nil) .nil) .nil)) (.cons (.for [] [2] true (.val (.var 1)) (.cons (.iff [] (.isN false (.call "_law_weights" (.cons (.var 0) (.cons (.var 2) .nil)))) (.cons (.ret [] (.bl false)) .nil) .nil) .nil)) (.cons (.ret [] (.bl true)) .nil)))
def fi__law_same_grid : FI := ⟨2, 3, b__law_same_grid⟩
def b_root : Ss := (.cons (.asg [] 2 (.int 0)) (.cons (.asg [] 1 (.int 1)) (.cons (.whl [] (.cmp .le (.op .mul (.var 1) (.var 1)) (.var 0)) (.cons (.asg [] 1 (.op .mul (.int 2) (.var 1))) .nil)) (.cons (.whl [] (.cmp .gt (.op .sub (.var 1) (.var 2)) (.int 1)) (.cons (.asg [] 3 (.op .fdiv (.op .add (.var 2) (.var 1)) (.int 2))) (.cons (.iff [] (.cmp .le (.op .mul (.var 3) (.var 3)) (.var 0)) (.cons (.asg [] 2 (.var 3)) .nil) (.cons (.asg [] 1 (.var 3)) .nil)) .nil))) (.cons (.ret [] (.var 2)) .nil)))))
def fi_root : FI := ⟨1, 4, b_root⟩
def b_bounds : Ss := (.cons (.asg [] 4 (.call "bulk_of" (.cons (.var 0) .nil))) (.cons (.ret [] (.comp [2, 3] [3] true (.val (.call "counters_of" (.cons (.var 0) .nil))) (.call "root" (.cons (.op .fdiv (.op .mul (.var 1) (.call "square" (.cons (.var 3) .nil))) (.op .mul (.var 4) (.var 4))) .nil)))) .nil))
def fi_bounds : FI := ⟨2, 5, b_bounds⟩
def b_all_within : Ss := (.cons (.asg [] 2 (.lst (.cons (.lst .nil) .nil))) (.cons (.for [] [5, 3] false (.val (.var 0)) (.cons (.asgM [] 4 (.lst .nil)) (.cons (.for [] [7] true (.val (.var 2)) (.cons (.ext [] 4 (.comp [1, 6] [6] true (.rng2 (.var 5) (.op .add (.var 3) (.int 1))) (.op .add (.var 7) (.lst (.cons (.var 6) .nil))))) .nil)) (.cons (.asg [4] 2 (.var 4)) .nil)))) (.cons (.ret [] (.var 2)) .nil)))
def fi_all_within : FI := ⟨1, 8, b_all_within⟩
def b_is_tried : Ss := (.cons (.for [] [1] true (.val (.var 0)) (.cons (.iff [] (.cmp .ne (.var 1) (.int 0)) (.cons (.ret [] (.cmp .gt (.var 1) (.int 0))) .nil) .nil) .nil)) (.cons (.ret [] (.bl false)) .nil))
def fi_is_tried : FI := ⟨1, 2, b_is_tried⟩
def b_tried : Ss := (.cons (.ret [] (.compIf [1, 3] [3] true (.val (.call "all_within" (.cons (.comp [1, 2] [2] true (.val (.var 0)) (.tup (.cons (.neg (.var 2)) (.cons (.var 2) .nil)))) .nil))) (.call "is_tried" (.cons (.var 3) .nil)) (.var 3))) .nil)
def fi_tried : FI := ⟨1, 4, b_tried⟩
def b_shortest_of : Ss := (.cons (.asg [] 2 .non) (.cons (.for [] [4] true (.val (.var 1)) (.cons (.asg [] 3 (.call "sum_of" (.cons (.var 0) (.cons (.var 4) .nil)))) (.cons (.iff [] (.or (.isN false (.var 2)) (.cmp .lt (.call "square" (.cons (.var 3) .nil)) (.call "square" (.cons (.var 2) .nil)))) (.cons (.asg [] 2 (.var 3)) .nil) .nil) .nil))) (.cons (.ret [] (.var 2)) .nil)))
def fi_shortest_of : FI := ⟨2, 5, b_shortest_of⟩
def b_shortest : Ss := (.cons (.ex [] (.call "need_rows" (.cons (.var 0) .nil))) (.cons (.asg [] 2 (.call "short_rows" (.cons (.var 0) .nil))) (.cons (.asg [] 3 (.call "square" (.cons (.call "shortest_of" (.cons (.var 2) (.cons (.call "tried" (.cons (.call "bounds" (.cons (.var 2) (.cons (.call "square" (.cons (.ixv 2 (.int 0)) .nil)) .nil))) .nil)) .nil))) .nil))) (.cons (.asg [] 1 (.call "bounds" (.cons (.var 2) (.cons (.var 3) .nil)))) (.cons (.asg [] 4 (.call "tried" (.cons (.var 1) .nil))) (.cons (.ret [] (.tup (.cons (.var 2) (.cons (.call "shortest_of" (.cons (.var 2) (.cons (.var 4) .nil))) (.cons (.var 1) (.cons (.var 4) .nil)))))) .nil))))))
def fi_shortest : FI := ⟨1, 5, b_shortest⟩
def b_need_spot : Ss := (.cons (.iff [] (.or (.not (.isi (.var 0) "tuple")) (.or (.cmp .ne (.bi .len (.cons (.var 0) .nil)) (.int 2)) (.not (.isi (.ixv 0 (.int 0)) "tuple")))) (.cons (.rse "BadSpot") .nil) .nil) (.cons (.iff [] (.or (.not (.call "are_numbers" (.cons (.ixv 0 (.int 0)) (.cons (.var 1) (.cons (.gint "MOST_PLACE" 1000000000000) .nil))))) (.not (.call "is_among" (.cons (.ixv 0 (.int 1)) (.cons (.int 1) (.cons (.gint "MOST_BY" 1000000) .nil)))))) (.cons (.rse "BadSpot") .nil) .nil) .nil))
def fi_need_spot : FI := ⟨2, 2, b_need_spot⟩
def b_far : Ss := (.cons (.ret [] (.call "square" (.cons (.bi .tuple (.cons (.comp [2, 3, 4] [3, 4] false (.zip (.var 0) (.ixv 1 (.int 0))) (.op .sub (.op .mul (.ixv 1 (.int 1)) (.var 3)) (.var 4))) .nil)) .nil))) .nil)
def fi_far : FI := ⟨2, 5, b_far⟩
def b_marks : Ss := (.cons (.asg [] 6 (.call "bulk_of" (.cons (.var 0) .nil))) (.cons (.asg [] 5 (.comp [2, 3] [3] true (.val (.call "counters_of" (.cons (.var 0) .nil))) (.call "inner" (.cons (.ixv 1 (.int 0)) (.cons (.var 3) .nil))))) (.cons (.iff [] (.cmp .lt (.var 6) (.int 0)) (.cons (.ret [] (.tup (.cons (.comp [2, 4] [4] true (.val (.var 5)) (.neg (.var 4))) (.cons (.op .mul (.neg (.var 6)) (.ixv 1 (.int 1))) .nil)))) .nil) .nil) (.cons (.ret [] (.tup (.cons (.var 5) (.cons (.op .mul (.var 6) (.ixv 1 (.int 1))) .nil)))) .nil))))
def fi_marks : FI := ⟨2, 7, b_marks⟩
def b_box_of : Ss := (.cons (.asgT [] [8, 3] (.call "marks" (.cons (.var 0) (.cons (.var 1) .nil)))) (.cons (.asgM [] 5 (.lst .nil)) (.cons (.for [] [7, 4] false (.zip (.var 8) (.call "counters_of" (.cons (.var 0) .nil))) (.cons (.asg [] 6 (.call "root" (.cons (.op .mul (.var 2) (.call "square" (.cons (.var 4) .nil))) .nil))) (.cons (.app [] 5 (.tup (.cons (.neg (.op .fdiv (.op .sub (.var 6) (.var 7)) (.var 3))) (.cons (.op .fdiv (.op .add (.var 6) (.var 7)) (.var 3)) .nil)))) .nil))) (.cons (.ret [5] (.var 5)) .nil))))
def fi_box_of : FI := ⟨3, 9, b_box_of⟩
def b_how_many : Ss := (.cons (.asg [] 1 (.int 1)) (.cons (.for [] [3, 2] false (.val (.var 0)) (.cons (.asg [] 1 (.op .mul (.var 1) (.op .add (.op .sub (.var 2) (.var 3)) (.int 1)))) .nil)) (.cons (.ret [] (.var 1)) .nil)))
def fi_how_many : FI := ⟨1, 4, b_how_many⟩
def b_beside : Ss := (.cons (.asg [] 7 (.call "far" (.cons (.call "sum_of" (.cons (.var 0) (.cons (.var 1) .nil))) (.cons (.var 2) .nil)))) (.cons (.for [] [6] true (.val (.call "ways" (.cons (.bi .len (.cons (.var 0) .nil)) .nil))) (.cons (.asg [] 4 (.comp [3, 8, 5] [8, 5] false (.zip (.var 1) (.var 6)) (.op .add (.var 8) (.var 5)))) (.cons (.iff [] (.cmp .lt (.call "far" (.cons (.call "sum_of" (.cons (.var 0) (.cons (.var 4) .nil))) (.cons (.var 2) .nil))) (.var 7)) (.cons (.ret [] (.var 4)) .nil) .nil) .nil))) (.cons (.ret [] .non) .nil)))
def fi_beside : FI := ⟨3, 9, b_beside⟩
def b_begun : Ss := (.cons (.asgT [] [6, 3] (.call "marks" (.cons (.var 0) (.cons (.var 1) .nil)))) (.cons (.asg [] 7 (.comp [2, 5] [5] true (.val (.var 6)) (.call "rounded" (.cons (.var 5) (.cons (.var 3) .nil))))) (.cons (.asg [] 4 (.call "beside" (.cons (.var 0) (.cons (.var 7) (.cons (.var 1) .nil))))) (.cons (.whl [] (.isN true (.var 4)) (.cons (.asg [] 7 (.var 4)) (.cons (.asg [] 4 (.call "beside" (.cons (.var 0) (.cons (.var 7) (.cons (.var 1) .nil))))) .nil))) (.cons (.ret [] (.call "sum_of" (.cons (.var 0) (.cons (.var 7) .nil)))) .nil)))))
def fi_begun : FI := ⟨2, 8, b_begun⟩
def b_nearest : Ss := (.cons (.ex [] (.call "need_rows" (.cons (.var 0) .nil))) (.cons (.ex [] (.call "need_spot" (.cons (.var 1) (.cons (.bi .len (.cons (.var 0) .nil)) .nil)))) (.cons (.asg [] 4 (.call "short_rows" (.cons (.var 0) .nil))) (.cons (.asg [] 3 (.call "box_of" (.cons (.var 4) (.cons (.var 1) (.cons (.call "far" (.cons (.call "begun" (.cons (.var 4) (.cons (.var 1) .nil))) (.cons (.var 1) .nil))) .nil))))) (.cons (.iff [] (.cmp .gt (.call "how_many" (.cons (.var 3) .nil)) (.gint "MOST_LISTS" 2000)) (.cons (.rse "TooMany") .nil) .nil) (.cons (.asg [] 7 (.comp [2, 9] [9] true (.val (.call "all_within" (.cons (.var 3) .nil))) (.call "sum_of" (.cons (.var 4) (.cons (.var 9) .nil))))) (.cons (.asgT [] [8, 6] (.bi .min (.cons (.comp [2, 5] [5] true (.val (.var 7)) (.tup (.cons (.call "far" (.cons (.var 5) (.cons (.var 1) .nil))) (.cons (.var 5) .nil)))) .nil))) (.cons (.ret [] (.tup (.cons (.var 6) (.cons (.var 8) (.cons (.var 4) (.cons (.call "box_of" (.cons (.var 4) (.cons (.var 1) (.cons (.var 8) .nil)))) .nil)))))) .nil))))))))
def fi_nearest : FI := ⟨2, 10, b_nearest⟩
def b_rest : Ss := (.cons (.ex [] (.call "need_rows" (.cons (.var 0) .nil))) (.cons (.ex [] (.call "need_point" (.cons (.var 1) (.cons (.bi .len (.cons (.var 0) .nil)) .nil)))) (.cons (.asg [] 2 (.var 1)) (.cons (.for [] [3, 4] false (.enum (.call "stair_of" (.cons (.var 0) (.cons (.bi .len (.cons (.var 0) .nil)) .nil)))) (.cons (.asg [] 2 (.call "less" (.cons (.var 2) (.cons (.op .fdiv (.ixv 2 (.var 3)) (.ixv 4 (.var 3))) (.cons (.var 4) .nil))))) .nil)) (.cons (.ret [] (.var 2)) .nil)))))
def fi_rest : FI := ⟨2, 5, b_rest⟩
def b_rests : Ss := (.cons (.ex [] (.call "need_rows" (.cons (.var 0) .nil))) (.cons (.iff [] (.cmp .gt (.bi .abs (.cons (.call "bulk_of" (.cons (.var 0) .nil)) .nil)) (.gint "MOST_RESTS" 400)) (.cons (.rse "TooMany") .nil) .nil) (.cons (.asg [] 5 (.comp [1, 3, 4] [3, 4] false (.enum (.call "stair_of" (.cons (.var 0) (.cons (.bi .len (.cons (.var 0) .nil)) .nil)))) (.tup (.cons (.int 0) (.cons (.op .sub (.ixv 4 (.var 3)) (.int 1)) .nil))))) (.cons (.ret [] (.comp [1, 2] [2] true (.val (.call "all_within" (.cons (.var 5) .nil))) (.bi .tuple (.cons (.var 2) .nil)))) .nil))))
def fi_rests : FI := ⟨1, 6, b_rests⟩
def b_index : Ss := (.cons (.ex [] (.call "need_both" (.cons (.var 0) (.cons (.var 1) .nil)))) (.cons (.iff [] (.isN false (.call "table_of" (.cons (.var 0) (.cons (.var 1) .nil)))) (.cons (.ret [] .non) .nil) .nil) (.cons (.ret [] (.op .fdiv (.bi .abs (.cons (.call "bulk_of" (.cons (.var 0) .nil)) .nil)) (.bi .abs (.cons (.call "bulk_of" (.cons (.var 1) .nil)) .nil)))) .nil)))
def fi_index : FI := ⟨2, 2, b_index⟩
def b_both_stairs : Ss := (.cons (.asg [] 3 (.bi .len (.cons (.var 0) .nil))) (.cons (.asg [] 5 (.op .add (.comp [2, 4] [4] true (.val (.var 0)) (.op .add (.var 4) (.var 4))) (.comp [2, 4] [4] true (.val (.var 1)) (.op .add (.var 4) (.op .mul (.tup (.cons (.int 0) .nil)) (.var 3)))))) (.cons (.ret [] (.call "stair_of" (.cons (.var 5) (.cons (.op .mul (.int 2) (.var 3)) .nil)))) .nil)))
def fi_both_stairs : FI := ⟨2, 6, b_both_stairs⟩
def b_joined : Ss := (.cons (.ex [] (.call "need_both" (.cons (.var 0) (.cons (.var 1) .nil)))) (.cons (.asg [] 3 (.bi .len (.cons (.var 0) .nil))) (.cons (.ret [] (.comp [2, 4] [4] true (.val (.slHi (.call "both_stairs" (.cons (.var 0) (.cons (.var 1) .nil))) (.var 3))) (.slHiV 4 (.var 3)))) .nil)))
def fi_joined : FI := ⟨2, 5, b_joined⟩
def b_common : Ss := (.cons (.ex [] (.call "need_both" (.cons (.var 0) (.cons (.var 1) .nil)))) (.cons (.asg [] 3 (.bi .len (.cons (.var 0) .nil))) (.cons (.ret [] (.comp [2, 4] [4] true (.val (.slLo (.call "both_stairs" (.cons (.var 0) (.cons (.var 1) .nil))) (.var 3))) (.slLoV 4 (.var 3)))) .nil)))
def fi_common : FI := ⟨2, 5, b_common⟩
def b_shown : Ss := (.cons (.ex [] (.call "need_rows" (.cons (.var 0) .nil))) (.cons (.ret [] (.joinE (.str "; ") (.comp [1, 3] [3] true (.val (.var 0)) (.joinE (.str " ") (.comp [1, 2] [2] true (.val (.var 3)) (.bi .str (.cons (.var 2) .nil))))))) .nil))
def fi_shown : FI := ⟨1, 4, b_shown⟩
def b_number_in : Ss := (.cons (.asg [] 2 (.var 0)) (.cons (.iff [] (.cmp .eq (.slHiV 0 (.int 1)) (.str "-")) (.cons (.asg [] 2 (.slLoV 0 (.int 1))) .nil) .nil) (.cons (.iff [] (.or (.not (.chain .le .le (.int 1) (.bi .len (.cons (.var 2) .nil)) (.gint "MOST_FIGURES" 7))) (.cmp .ne (.compIf [1, 3] [3] true (.val (.var 2)) (.cmp .notin (.var 3) (.gstr "FIGURES" "0123456789")) (.var 3)) (.lst .nil))) (.cons (.rse "BadText") .nil) .nil) (.cons (.iff [] (.and (.cmp .eq (.ixv 2 (.int 0)) (.str "0")) (.cmp .ne (.var 0) (.str "0"))) (.cons (.rse "BadText") .nil) .nil) (.cons (.ret [] (.bi .int (.cons (.var 0) .nil))) .nil)))))
def fi_number_in : FI := ⟨1, 4, b_number_in⟩
def b_read : Ss := (.cons (.iff [] (.not (.isi (.var 0) "str")) (.cons (.rse "BadText") .nil) .nil) (.cons (.asg [] 3 (.comp [1, 2] [2] true (.val (.splitE (.var 0) (.str "; "))) (.bi .tuple (.cons (.comp [1, 4] [4] true (.val (.splitE (.var 2) (.str " "))) (.call "number_in" (.cons (.var 4) .nil))) .nil)))) (.cons (.tryX [] "need_rows" (.cons (.var 3) .nil) "BadRows" "BadText") (.cons (.ret [] (.var 3)) .nil))))
def fi_read : FI := ⟨1, 5, b_read⟩
end BO

namespace K14
open PySem PySem.Spec PyProof.Rows L2 SG
def topS (i : Nat) : Stmt := PySem.Challenge.pw_shortgrid_k14_texts.main.body.getD i (.Pass ⟨0, 0, 0, 0⟩)
def cp : CP := ⟨["is_whole", "is_among", "are_numbers", "need_lists", "crossed", "inner", "counters_of", "bulk_of", "need_rows", "shown", "number_in", "read", "_law_cell", "_law_more", "_law_whole", "_law_without", "_law_bulk", "_law_drawn", "_law_rows", "_law_tuple", "_law_rows_told", "_law_sign", "_law_odd", "_law_number", "_law_due", "_law_read", "_law_shown", "law"], [], [("MOST_ROWS", 3), ("MOST_NUMBER", 1000000), ("MOST_FIGURES", 7)], [("FIGURES", "0123456789")], ["GridError", "BadRows", "BadPoint", "BadWeights", "BadSpot", "BadText", "TooMany"], true, false, ["need_rows"]⟩
def N0 : List Str := ["thing"]
abbrev b_is_whole : Ss := BO.b_is_whole
def N1 : List Str := ["thing", "least", "most"]
abbrev b_is_among : Ss := BO.b_is_among
def N2 : List Str := ["things", "many", "most", ".0", "thing"]
abbrev b_are_numbers : Ss := BO.b_are_numbers
def N3 : List Str := ["rows", "row"]
abbrev b_need_lists : Ss := BO.b_need_lists
def N4 : List Str := ["one", "other", "first", "second"]
abbrev b_crossed : Ss := BO.b_crossed
def N5 : List Str := ["one", "other", ".0", "a", "b"]
abbrev b_inner : Ss := BO.b_inner
def N6 : List Str := ["rows", "one", "other", "three", "two"]
abbrev b_counters_of : Ss := BO.b_counters_of
def N7 : List Str := ["rows"]
abbrev b_bulk_of : Ss := BO.b_bulk_of
def N8 : List Str := ["rows"]
abbrev b_need_rows : Ss := BO.b_need_rows
def N9 : List Str := ["rows", ".0", "number", "row"]
abbrev b_shown : Ss := BO.b_shown
def N10 : List Str := ["word", ".0", "figures", "sign"]
abbrev b_number_in : Ss := BO.b_number_in
def N11 : List Str := ["text", ".0", "part", "rows", "word"]
abbrev b_read : Ss := BO.b_read
def N12 : List Str := ["_law_script", "_law_k"]
abbrev b__law_cell : Ss := BO.b__law_cell
def N13 : List Str := ["_law_script", "_law_k", "_law_first"]
abbrev b__law_more : Ss := BO.b__law_more
def N14 : List Str := ["_law_found"]
abbrev b__law_whole : Ss := BO.b__law_whole
def N15 : List Str := ["_law_row", "_law_k"]
abbrev b__law_without : Ss := BO.b__law_without
def N16 : List Str := ["_law_rows_here", ".0", "_law_found", "_law_k", "_law_part", "_law_row"]
abbrev b__law_bulk : Ss := BO.b__law_bulk
def N17 : List Str := ["_law_script", "_law_first", "_law_many", "_law_most", "_law_j", "_law_k", "_law_row", "_law_rows_here"]
abbrev b__law_drawn : Ss := BO.b__law_drawn
def N18 : List Str := ["_law_script", "_law_first", "_law_many", "_law_most", ".0", "_law_j", "_law_k", "_law_number_here", "_law_row", "_law_rows_here", "_law_times", "_law_way"]
abbrev b__law_rows : Ss := BO.b__law_rows
def N19 : List Str := ["_law_found", "_law_many", ".0", "_law_number_here"]
abbrev b__law_tuple : Ss := BO.b__law_tuple
def N20 : List Str := ["_law_found", "_law_many", ".0", "_law_row"]
abbrev b__law_rows_told : Ss := BO.b__law_rows_told
def N21 : List Str := ["_law_cell_here", "_law_some"]
def b__law_sign : Ss := (.cons (.asg [] 1 (.str " !\"#$&'()*+,-./0123456789:;<=>?@ABCDEFGHIJKLMNOPQRSTUVWXYZ[\\]^_`")) (.cons (.asg [] 1 (.op .add (.var 1) (.str "abcdefghijklmnopqrstuvwxyz{|}~\n\t"))) (.cons (.ret [] (.ixv 1 (.op .mod (.var 0) (.int 96)))) .nil)))
def N22 : List Str := ["_law_cell_here", "_law_some"]
def b__law_odd : Ss := (.cons (.asg [] 1 (.lst (.cons (.str "") (.cons (.str "0") (.cons (.str "1 2") (.cons (.str "1 2; 2 4") (.cons (.str "-0") (.cons (.str "01") (.cons (.str "1;") (.cons (.str "1; ") (.cons (.str "1  0; 0 1") (.cons (.str "1 0;0 1") (.cons (.str "1000001") (.cons (.str "+1") .nil)))))))))))))) (.cons (.ret [] (.ix (.op .add (.var 1) (.lst (.cons .non (.cons (.int 5) (.cons (.lst (.cons (.str "1") .nil)) (.cons (.str "1 0; 0 1 ") .nil)))))) (.op .mod (.var 0) (.int 16)))) .nil))
def N23 : List Str := ["_law_word", ".0", "_law_figures", "_law_sign_here"]
def b__law_number : Ss := (.cons (.asg [] 2 (.var 0)) (.cons (.iff [] (.cmp .eq (.slHiV 0 (.int 1)) (.str "-")) (.cons (.asg [] 2 (.slLoV 0 (.int 1))) .nil) .nil) (.cons (.iff [] (.or (.cmp .eq (.var 2) (.str "")) (.or (.cmp .gt (.bi .len (.cons (.var 2) .nil)) (.int 7)) (.cmp .ne (.compIf [1, 3] [3] true (.val (.var 2)) (.cmp .notin (.var 3) (.str "0123456789")) (.var 3)) (.lst .nil)))) (.cons (.ret [] .non) .nil) .nil) (.cons (.iff [] (.and (.cmp .eq (.ixv 2 (.int 0)) (.str "0")) (.cmp .ne (.var 0) (.str "0"))) (.cons (.ret [] .non) .nil) .nil) (.cons (.ret [] (.bi .int (.cons (.var 0) .nil))) .nil)))))
def N24 : List Str := ["_law_text", ".0", "_law_number_here", "_law_part", "_law_row", "_law_rows_here", "_law_word"]
def b__law_due : Ss := (.cons (.iff [] (.not (.isi (.var 0) "str")) (.cons (.ret [] .non) .nil) .nil) (.cons (.asg [] 5 (.comp [1, 3] [3] true (.val (.splitE (.var 0) (.str "; "))) (.comp [1, 6] [6] true (.val (.splitE (.var 3) (.str " "))) (.call "_law_number" (.cons (.var 6) .nil))))) (.cons (.for [] [4] true (.val (.var 5)) (.cons (.iff [] (.or (.cmp .ne (.bi .len (.cons (.var 4) .nil)) (.bi .len (.cons (.var 5) .nil))) (.or (.cmp .gt (.bi .len (.cons (.var 5) .nil)) (.int 3)) (.or (.cmp .isin .non (.var 4)) (.cmp .gt (.bi .max (.cons (.comp [1, 2] [2] true (.val (.var 4)) (.bi .abs (.cons (.var 2) .nil))) .nil)) (.int 1000000))))) (.cons (.ret [] .non) .nil) .nil) .nil)) (.cons (.iff [] (.cmp .eq (.call "_law_bulk" (.cons (.var 5) .nil)) (.int 0)) (.cons (.ret [] .non) .nil) .nil) (.cons (.ret [] (.comp [1, 4] [4] true (.val (.var 5)) (.bi .tuple (.cons (.var 4) .nil)))) .nil)))))
def N25 : List Str := ["_law_text", "_law_e"]
def b__law_read : Ss := (.cons (.tryN (.cons (.ret [] (.call "read" (.cons (.var 0) .nil))) .nil) false) .nil)
def N26 : List Str := ["_law_rows_here", "_law_e"]
def b__law_shown : Ss := (.cons (.tryN (.cons (.ret [] (.lst (.cons (.call "shown" (.cons (.var 0) .nil)) .nil))) .nil) false) .nil)
def N27 : List Str := ["_law_script", ".0", "_law_cell_here", "_law_due_here", "_law_found", "_law_handed", "_law_many", "_law_number_here", "_law_place", "_law_row", "_law_rows_here", "_law_text", "_law_told", "_law_way"]
def b_law : Ss := (.cons (.asg [] 6 (.op .add (.int 1) (.op .mod (.op .fdiv (.call "_law_cell" (.cons (.var 0) (.cons (.int 0) .nil))) (.int 6)) (.int 3)))) (.cons (.asg [] 10 (.call "_law_rows" (.cons (.var 0) (.cons (.int 3) (.cons (.var 6) (.cons (.ix (.lst (.cons (.int 3) (.cons (.int 9) (.cons (.int 60) (.cons (.int 1000) (.cons (.int 1000000) (.cons (.int 9) .nil))))))) (.op .mod (.call "_law_cell" (.cons (.var 0) (.cons (.int 0) .nil))) (.int 6))) .nil)))))) (.cons (.asg [] 5 (.bi .list (.cons (.var 10) .nil))) (.cons (.asg [] 12 (.call "_law_shown" (.cons (.var 5) .nil))) (.cons (.asg [] 11 (.joinE (.str "; ") (.comp [1, 9] [9] true (.val (.var 10)) (.joinE (.str " ") (.comp [1, 7] [7] true (.val (.var 9)) (.bi .str (.cons (.var 7) .nil))))))) (.cons (.iff [] (.or (.cmp .ne (.var 12) (.lst (.cons (.var 11) .nil))) (.or (.cmp .ne (.var 5) (.var 10)) (.cmp .ne (.call "_law_shown" (.cons (.op .mul (.lst (.cons (.op .mul (.tup (.cons (.int 0) .nil)) (.var 6)) .nil)) (.var 6)) .nil)) (.tup (.cons (.str "rows") .nil))))) (.cons (.ret [] (.bl false)) .nil) .nil) (.cons (.asg [] 2 (.call "_law_more" (.cons (.var 0) (.cons (.int 2) .nil)))) (.cons (.asg [] 8 (.ix (.lst (.cons (.int 0) (.cons (.bi .len (.cons (.var 11) .nil)) (.cons (.op .mod (.op .fdiv (.var 2) (.int 28)) (.op .add (.bi .len (.cons (.var 11) .nil)) (.int 1))) (.cons (.op .mod (.op .fdiv (.var 2) (.int 28)) (.op .add (.bi .len (.cons (.var 11) .nil)) (.int 1))) .nil))))) (.op .mod (.op .fdiv (.var 2) (.int 7)) (.int 4)))) (.cons (.asg [] 13 (.op .mod (.call "_law_cell" (.cons (.var 0) (.cons (.int 1) .nil))) (.int 8))) (.cons (.iff [] (.cmp .eq (.var 13) (.int 6)) (.cons (.asg [] 11 (.op .add (.op .add (.slHiV 11 (.var 8)) (.ix (.lst (.cons (.str " ") (.cons (.str "\n") (.cons (.str "\t") (.cons (.str "; ") .nil))))) (.op .mod (.op .fdiv (.var 2) (.int 2800)) (.int 4)))) (.slLoV 11 (.var 8)))) .nil) .nil) (.cons (.iff [] (.or (.cmp .eq (.var 13) (.int 1)) (.cmp .eq (.var 13) (.int 2))) (.cons (.asg [] 11 (.op .add (.op .add (.slHiV 11 (.var 8)) (.call "_law_sign" (.cons (.op .fdiv (.var 2) (.int 700)) .nil))) (.slLoV 11 (.var 8)))) .nil) .nil) (.cons (.iff [] (.cmp .eq (.var 13) (.int 3)) (.cons (.asg [] 11 (.op .add (.slHiV 11 (.var 8)) (.slLoV 11 (.op .add (.var 8) (.int 1))))) .nil) .nil) (.cons (.iff [] (.cmp .eq (.var 13) (.int 4)) (.cons (.asg [] 11 (.op .add (.op .add (.slHiV 11 (.var 8)) (.call "_law_sign" (.cons (.op .fdiv (.var 2) (.int 700)) .nil))) (.slLoV 11 (.op .add (.var 8) (.int 1))))) .nil) .nil) (.cons (.iff [] (.cmp .eq (.var 13) (.int 5)) (.cons (.asg [] 11 (.call "_law_odd" (.cons (.var 2) .nil))) .nil) .nil) (.cons (.asg [] 3 (.call "_law_due" (.cons (.var 11) .nil))) (.cons (.asg [] 4 (.call "_law_read" (.cons (.var 11) .nil))) (.cons (.iff [] (.isN false (.var 3)) (.cons (.ret [] (.cmp .eq (.var 4) (.tup (.cons (.str "text") .nil)))) .nil) .nil) (.cons (.ret [] (.and (.call "_law_rows_told" (.cons (.var 4) (.cons (.bi .len (.cons (.var 3) .nil)) .nil))) (.cmp .eq (.var 4) (.var 3)))) .nil))))))))))))))))))
def tab : List (Str × FI) := [("is_whole", BO.fi_is_whole), ("is_among", BO.fi_is_among), ("are_numbers", BO.fi_are_numbers), ("need_lists", BO.fi_need_lists), ("crossed", BO.fi_crossed), ("inner", BO.fi_inner), ("counters_of", BO.fi_counters_of), ("bulk_of", BO.fi_bulk_of), ("need_rows", BO.fi_need_rows), ("shown", BO.fi_shown), ("number_in", BO.fi_number_in), ("read", BO.fi_read), ("_law_cell", BO.fi__law_cell), ("_law_more", BO.fi__law_more), ("_law_whole", BO.fi__law_whole), ("_law_without", BO.fi__law_without), ("_law_bulk", BO.fi__law_bulk), ("_law_drawn", BO.fi__law_drawn), ("_law_rows", BO.fi__law_rows), ("_law_tuple", BO.fi__law_tuple), ("_law_rows_told", BO.fi__law_rows_told), ("_law_sign", ⟨1, 2, b__law_sign⟩), ("_law_odd", ⟨1, 2, b__law_odd⟩), ("_law_number", ⟨1, 4, b__law_number⟩), ("_law_due", ⟨1, 7, b__law_due⟩), ("_law_read", ⟨1, 2, b__law_read⟩), ("_law_shown", ⟨1, 2, b__law_shown⟩), ("law", ⟨1, 14, b_law⟩)]
def B (x : Str) : Option FI := tab.lookup x
theorem sc0 : FnScope N0 ["thing"] (defScope (topS 9)) := ⟨rfl, rfl, rfl, by decide +kernel, rfl, by decide +kernel, by decide +kernel⟩
theorem cs0 : cSs (cpq cp N0 false) [] 60 (defScope (topS 9)) (defBody (topS 9)) = some b_is_whole := by kernel_rfl
theorem sc1 : FnScope N1 ["thing", "least", "most"] (defScope (topS 10)) := ⟨rfl, rfl, rfl, by decide +kernel, rfl, by decide +kernel, by decide +kernel⟩
theorem cs1 : cSs (cpq cp N1 false) [] 60 (defScope (topS 10)) (defBody (topS 10)) = some b_is_among := by kernel_rfl
theorem sc2 : FnScope N2 ["things", "many", "most"] (defScope (topS 14)) := ⟨rfl, rfl, rfl, by decide +kernel, rfl, by decide +kernel, by decide +kernel⟩
theorem cs2 : cSs (cpq cp N2 false) [] 60 (defScope (topS 14)) (defBody (topS 14)) = some b_are_numbers := by kernel_rfl
theorem sc3 : FnScope N3 ["rows"] (defScope (topS 15)) := ⟨rfl, rfl, rfl, by decide +kernel, rfl, by decide +kernel, by decide +kernel⟩
theorem cs3 : cSs (cpq cp N3 false) [] 60 (defScope (topS 15)) (defBody (topS 15)) = some b_need_lists := by kernel_rfl
theorem sc4 : FnScope N4 ["one", "other"] (defScope (topS 16)) := ⟨rfl, rfl, rfl, by decide +kernel, rfl, by decide +kernel, by decide +kernel⟩
theorem cs4 : cSs (cpq cp N4 false) [] 60 (defScope (topS 16)) (defBody (topS 16)) = some b_crossed := by kernel_rfl
theorem sc5 : FnScope N5 ["one", "other"] (defScope (topS 17)) := ⟨rfl, rfl, rfl, by decide +kernel, rfl, by decide +kernel, by decide +kernel⟩
theorem cs5 : cSs (cpq cp N5 false) [] 60 (defScope (topS 17)) (defBody (topS 17)) = some b_inner := by kernel_rfl
theorem sc6 : FnScope N6 ["rows"] (defScope (topS 18)) := ⟨rfl, rfl, rfl, by decide +kernel, rfl, by decide +kernel, by decide +kernel⟩
theorem cs6 : cSs (cpq cp N6 false) [] 60 (defScope (topS 18)) (defBody (topS 18)) = some b_counters_of := by kernel_rfl
theorem sc7 : FnScope N7 ["rows"] (defScope (topS 19)) := ⟨rfl, rfl, rfl, by decide +kernel, rfl, by decide +kernel, by decide +kernel⟩
theorem cs7 : cSs (cpq cp N7 false) [] 60 (defScope (topS 19)) (defBody (topS 19)) = some b_bulk_of := by kernel_rfl
theorem sc8 : FnScope N8 ["rows"] (defScope (topS 20)) := ⟨rfl, rfl, rfl, by decide +kernel, rfl, by decide +kernel, by decide +kernel⟩
theorem cs8 : cSs (cpq cp N8 false) [] 60 (defScope (topS 20)) (defBody (topS 20)) = some b_need_rows := by kernel_rfl
theorem sc9 : FnScope N9 ["rows"] (defScope (topS 24)) := ⟨rfl, rfl, rfl, by decide +kernel, rfl, by decide +kernel, by decide +kernel⟩
theorem cs9 : cSs (cpq cp N9 false) [] 60 (defScope (topS 24)) (defBody (topS 24)) = some b_shown := by kernel_rfl
theorem sc10 : FnScope N10 ["word"] (defScope (topS 25)) := ⟨rfl, rfl, rfl, by decide +kernel, rfl, by decide +kernel, by decide +kernel⟩
theorem cs10 : cSs (cpq cp N10 false) [] 60 (defScope (topS 25)) (defBody (topS 25)) = some b_number_in := by kernel_rfl
theorem sc11 : FnScope N11 ["text"] (defScope (topS 26)) := ⟨rfl, rfl, rfl, by decide +kernel, rfl, by decide +kernel, by decide +kernel⟩
theorem cs11 : cSs (cpq cp N11 true) [] 60 (defScope (topS 26)) (defBody (topS 26)) = some b_read := by kernel_rfl
theorem sc12 : FnScope N12 ["_law_script", "_law_k"] (defScope (topS 28)) := ⟨rfl, rfl, rfl, by decide +kernel, rfl, by decide +kernel, by decide +kernel⟩
theorem cs12 : cSs (cpq cp N12 false) [] 60 (defScope (topS 28)) (defBody (topS 28)) = some b__law_cell := by kernel_rfl
theorem sc13 : FnScope N13 ["_law_script", "_law_k"] (defScope (topS 29)) := ⟨rfl, rfl, rfl, by decide +kernel, rfl, by decide +kernel, by decide +kernel⟩
theorem cs13 : cSs (cpq cp N13 false) [] 60 (defScope (topS 29)) (defBody (topS 29)) = some b__law_more := by kernel_rfl
theorem sc14 : FnScope N14 ["_law_found"] (defScope (topS 30)) := ⟨rfl, rfl, rfl, by decide +kernel, rfl, by decide +kernel, by decide +kernel⟩
theorem cs14 : cSs (cpq cp N14 false) [] 60 (defScope (topS 30)) (defBody (topS 30)) = some b__law_whole := by kernel_rfl
theorem sc15 : FnScope N15 ["_law_row", "_law_k"] (defScope (topS 31)) := ⟨rfl, rfl, rfl, by decide +kernel, rfl, by decide +kernel, by decide +kernel⟩
theorem cs15 : cSs (cpq cp N15 false) [] 60 (defScope (topS 31)) (defBody (topS 31)) = some b__law_without := by kernel_rfl
theorem sc16 : FnScope N16 ["_law_rows_here"] (defScope (topS 32)) := ⟨rfl, rfl, rfl, by decide +kernel, rfl, by decide +kernel, by decide +kernel⟩
theorem cs16 : cSs (cpq cp N16 false) [] 60 (defScope (topS 32)) (defBody (topS 32)) = some b__law_bulk := by kernel_rfl
theorem sc17 : FnScope N17 ["_law_script", "_law_first", "_law_many", "_law_most"] (defScope (topS 33)) := ⟨rfl, rfl, rfl, by decide +kernel, rfl, by decide +kernel, by decide +kernel⟩
theorem cs17 : cSs (cpq cp N17 false) [6, 7] 60 (defScope (topS 33)) (defBody (topS 33)) = some b__law_drawn := by kernel_rfl
theorem sc18 : FnScope N18 ["_law_script", "_law_first", "_law_many", "_law_most"] (defScope (topS 34)) := ⟨rfl, rfl, rfl, by decide +kernel, rfl, by decide +kernel, by decide +kernel⟩
theorem cs18 : cSs (cpq cp N18 false) [9] 60 (defScope (topS 34)) (defBody (topS 34)) = some b__law_rows := by kernel_rfl
theorem sc19 : FnScope N19 ["_law_found", "_law_many"] (defScope (topS 35)) := ⟨rfl, rfl, rfl, by decide +kernel, rfl, by decide +kernel, by decide +kernel⟩
theorem cs19 : cSs (cpq cp N19 false) [] 60 (defScope (topS 35)) (defBody (topS 35)) = some b__law_tuple := by kernel_rfl
theorem sc20 : FnScope N20 ["_law_found", "_law_many"] (defScope (topS 36)) := ⟨rfl, rfl, rfl, by decide +kernel, rfl, by decide +kernel, by decide +kernel⟩
theorem cs20 : cSs (cpq cp N20 false) [] 60 (defScope (topS 36)) (defBody (topS 36)) = some b__law_rows_told := by kernel_rfl
theorem sc21 : FnScope N21 ["_law_cell_here"] (defScope (topS 38)) := ⟨rfl, rfl, rfl, by decide +kernel, rfl, by decide +kernel, by decide +kernel⟩
theorem cs21 : cSs (cpq cp N21 false) [] 60 (defScope (topS 38)) (defBody (topS 38)) = some b__law_sign := by kernel_rfl
theorem sc22 : FnScope N22 ["_law_cell_here"] (defScope (topS 39)) := ⟨rfl, rfl, rfl, by decide +kernel, rfl, by decide +kernel, by decide +kernel⟩
theorem cs22 : cSs (cpq cp N22 false) [] 60 (defScope (topS 39)) (defBody (topS 39)) = some b__law_odd := by kernel_rfl
theorem sc23 : FnScope N23 ["_law_word"] (defScope (topS 40)) := ⟨rfl, rfl, rfl, by decide +kernel, rfl, by decide +kernel, by decide +kernel⟩
theorem cs23 : cSs (cpq cp N23 false) [] 60 (defScope (topS 40)) (defBody (topS 40)) = some b__law_number := by kernel_rfl
theorem sc24 : FnScope N24 ["_law_text"] (defScope (topS 41)) := ⟨rfl, rfl, rfl, by decide +kernel, rfl, by decide +kernel, by decide +kernel⟩
theorem cs24 : cSs (cpq cp N24 false) [] 60 (defScope (topS 41)) (defBody (topS 41)) = some b__law_due := by kernel_rfl
theorem sc25 : FnScope N25 ["_law_text"] (defScope (topS 42)) := ⟨rfl, rfl, rfl, by decide +kernel, rfl, by decide +kernel, by decide +kernel⟩
theorem cs25 : cSs (cpq cp N25 false) [] 60 (defScope (topS 42)) (defBody (topS 42)) = some b__law_read := by kernel_rfl
theorem sc26 : FnScope N26 ["_law_rows_here"] (defScope (topS 43)) := ⟨rfl, rfl, rfl, by decide +kernel, rfl, by decide +kernel, by decide +kernel⟩
theorem cs26 : cSs (cpq cp N26 false) [] 60 (defScope (topS 43)) (defBody (topS 43)) = some b__law_shown := by kernel_rfl
theorem sc27 : FnScope N27 ["_law_script"] (defScope (topS 44)) := ⟨rfl, rfl, rfl, by decide +kernel, rfl, by decide +kernel, by decide +kernel⟩
theorem cs27 : cSs (cpq cp N27 false) [] 60 (defScope (topS 44)) (defBody (topS 44)) = some b_law := by kernel_rfl
def cpN : CP := { cp with ns := ["is_whole", "is_among", "are_numbers", "need_lists", "crossed", "inner", "counters_of", "bulk_of", "need_rows"], tr := false, md := true, hx := [] }
theorem csN0 : cSs (cpq cpN N0 false) [] 60 (defScope (topS 9)) (defBody (topS 9)) = some b_is_whole := by kernel_rfl
theorem csN1 : cSs (cpq cpN N1 false) [] 60 (defScope (topS 10)) (defBody (topS 10)) = some b_is_among := by kernel_rfl
theorem csN2 : cSs (cpq cpN N2 false) [] 60 (defScope (topS 14)) (defBody (topS 14)) = some b_are_numbers := by kernel_rfl
theorem csN3 : cSs (cpq cpN N3 false) [] 60 (defScope (topS 15)) (defBody (topS 15)) = some b_need_lists := by kernel_rfl
theorem csN4 : cSs (cpq cpN N4 false) [] 60 (defScope (topS 16)) (defBody (topS 16)) = some b_crossed := by kernel_rfl
theorem csN5 : cSs (cpq cpN N5 false) [] 60 (defScope (topS 17)) (defBody (topS 17)) = some b_inner := by kernel_rfl
theorem csN6 : cSs (cpq cpN N6 false) [] 60 (defScope (topS 18)) (defBody (topS 18)) = some b_counters_of := by kernel_rfl
theorem csN7 : cSs (cpq cpN N7 false) [] 60 (defScope (topS 19)) (defBody (topS 19)) = some b_bulk_of := by kernel_rfl
theorem csN8 : cSs (cpq cpN N8 false) [] 60 (defScope (topS 20)) (defBody (topS 20)) = some b_need_rows := by kernel_rfl
abbrev NM : Nm := nmOf [("BadRows", "rows"), ("BadText", "text")]
end K14

namespace BO
open SG
@[simp] theorem sz (n : Nat) (h : n ≤ 1000) : n ≤ PySem.sizeLine := Nat.le_trans h (by decide)
section
variable {B : PySem.Str → Option FI} {nm : Nm}
theorem callF_eq {f : PySem.Str} {fi : FI} {k : Nat} {ps : List PV} (h : B f = some fi) : callF B nm (k + 1) f ps = runF (callF B nm k) (nmAt nm k) fi ps := by
  show (match B f with | some fi => runF (callF B nm k) (nmAt nm k) fi ps | none => .no) = _
  rw [h]
/-- what every law's table but one holds -/
structure Kn (B : PySem.Str → Option FI) : Prop where
  whole : B "is_whole" = some fi_is_whole
  among : B "is_among" = some fi_is_among
  numbers : B "are_numbers" = some fi_are_numbers
  lists : B "need_lists" = some fi_need_lists
  crossed : B "crossed" = some fi_crossed
  inner : B "inner" = some fi_inner
  counters : B "counters_of" = some fi_counters_of
  bulk : B "bulk_of" = some fi_bulk_of
  cell : B "_law_cell" = some fi__law_cell
  more : B "_law_more" = some fi__law_more
  lwhole : B "_law_whole" = some fi__law_whole
  without : B "_law_without" = some fi__law_without
  lbulk : B "_law_bulk" = some fi__law_bulk
  drawn : B "_law_drawn" = some fi__law_drawn
variable (kn : Kn B)
include kn
theorem cell {l : Nat} {ns : List Int} (k : Nat) : callF B nm (l + 1) "_law_cell" [.scr ns, .int (k : Int)] = .ok (.int (cellI ns k)) := by
  rw [callF_eq kn.cell]
  unfold runF fi__law_cell b__law_cell
  by_cases h : k < ns.length
  · have hx : ns[k]? = some (cellI ns k) := by unfold cellI; rw [List.getElem?_eq_getElem h]; rfl
    simp [olds_cons, olds_nil, PV.old, startR, h, ixV_scr hx]
  · have hx : cellI ns k = 0 := by unfold cellI; rw [List.getElem?_eq_none (by omega)]; rfl
    simp [olds_cons, olds_nil, PV.old, startR, h, hx]
theorem cellZ {l : Nat} {ns : List Int} {z : Int} (h : 0 ≤ z) : callF B nm (l + 1) "_law_cell" [.scr ns, .int z] = .ok (.int (cellI ns z.toNat)) := by
  have := cell kn (nm := nm) (l := l) (ns := ns) z.toNat
  rwa [Int.toNat_of_nonneg h] at this
theorem lwhole {l : Nat} {i : Int} : callF B nm (l + 1) "_law_whole" [.int i] = .ok (.bl true) := by
  rw [callF_eq kn.lwhole]
  unfold runF fi__law_whole b__law_whole
  simp [olds_cons, olds_nil, PV.old, startR]
/-- the script's further numbers -/
theorem more {l : Nat} {ns : List Int} {k : Int} (h : 0 ≤ k) (h2 : k < 1000) : ∃ z : Int, callF B nm (l + 2) "_law_more" [.scr ns, .int k] = .ok (.int z) ∧ 0 ≤ z := by
  have hm := mod_lt (a := k) (b := 5) (by decide)
  have c1 := cellZ kn (nm := nm) (l := l) (ns := ns) h
  have c2 := cellZ kn (nm := nm) (l := l) (ns := ns) hm.1
  refine ⟨(cellI ns k.toNat * 48271 + cellI ns (k.fmod 5).toNat * 16807 + 7919 * k * k + 12345).fmod 2147483647, ?_, (mod_lt (by decide)).1⟩
  rw [callF_eq kn.more]
  unfold runF fi__law_more b__law_more
  have m1 : (7919 * k).natAbs < 18446744073709551616 := by omega
  simp [olds_cons, olds_nil, PV.old, startR, modV_int, mulV_l, mulV_r, c1, c2, mulV_l m1]
end
/-! ### rows of whole numbers -/
def tupI (r : List Int) : PV := .tup (r.map PV.int)
def rowsV (y : Bool) (R : List (List Int)) : PV := .lst y (R.map tupI)
/-- n rows of n numbers to m either way -/
def Sq (n : Nat) (m : Int) (R : List (List Int)) : Prop := R.length = n ∧ ∀ r ∈ R, r.length = n ∧ ∀ x ∈ r, -m ≤ x ∧ x ≤ m
theorem fl_end {G : Gt} {nm : Nm} {tg : List Nat} {w : Bool} {t : Ss} {x : PV} {xs : List PV} {ρ ρ1 ρ2 : Rho} {o : Out} (h : setT w tg x ρ = .ok ρ1) (h2 : eSs G nm ρ1 t = .nx ρ2) (h3 : fl G nm tg w t xs ρ2 = o) : fl G nm tg w t (x :: xs) ρ = o := by
  rw [fl_cons, h]; show (eSs G nm ρ1 t).seq _ = o; rw [h2]; exact h3
theorem rng_zero {lo : Int} : rngL lo 0 = [] := rfl
theorem rng_succ {lo : Int} {n : Nat} : rngL lo (n + 1) = .int lo :: rngL (lo + 1) n := by
  unfold rngL
  rw [List.range_succ_eq_map, List.map_cons, List.map_map]
  congr 1
  · simp
  · refine List.map_congr_left fun i _ => ?_
    show PV.int (lo + ((i + 1 : Nat) : Int)) = PV.int (lo + 1 + (i : Int))
    congr 1
    omega

theorem lt_line {n : Nat} (h : n < 1000) : n < PySem.sizeLine := Nat.lt_of_lt_of_le h (by decide)
section
variable {B : PySem.Str → Option FI} {nm : Nm}
def drawnIn : Ss := .cons (.app [] 6 (.op .sub (.op .mod (.op .fdiv (.call "_law_more" (.cons (.var 0) (.cons (.op .add (.op .add (.var 1) (.op .mul (.int 3) (.var 5))) (.var 4)) .nil))) (.int 7)) (.op .add (.op .mul (.int 2) (.var 3)) (.int 1))) (.var 3))) .nil
theorem drawn_in (kn : Kn B) {l : Nat} {nm' : Nm} {ns : List Int} {f most k : Int} {many : PV} {X : List PV} (hf : 0 ≤ f) (hf2 : f ≤ 500) (hm : 0 ≤ most) (hk : 0 ≤ k) (hk2 : k ≤ 10) : ∀ (m : Nat) (j : Int) (row : List Int) (s : Sl), 0 ≤ j → j + m ≤ 10 → row.length + m ≤ 100 →
    ∃ (row' : List Int) (s' : Sl), fl (callF B nm (l + 2)) nm' [4] true drawnIn (rngL j m) [.fz (.scr ns), .fz (.int f), .fz many, .fz (.int most), s, .fz (.int k), .own (row.map PV.int), .own X]
      = .nx [.fz (.scr ns), .fz (.int f), .fz many, .fz (.int most), s', .fz (.int k), .own ((row ++ row').map PV.int), .own X] ∧ row'.length = m ∧ ∀ x ∈ row', -most ≤ x ∧ x ≤ most := by
  intro m
  induction m with
  | zero => intro j row s _ _ _; exact ⟨[], s, by rw [rng_zero]; simp, rfl, fun x h => by cases h⟩
  | succ m ih =>
    intro j row s hj hj2 hr
    obtain ⟨z, hz, hz0⟩ := more kn (nm := nm) (l := l) (ns := ns) (k := f + 3 * k + j) (by omega) (by omega)
    obtain ⟨row', s', e, e2, e3⟩ := ih (j + 1) (row ++ [(z.fdiv 7).fmod (2 * most + 1) - most]) (.fz (.int j)) (by omega) (by omega) (by simp; omega)
    have b := mod_lt (a := z.fdiv 7) (b := 2 * most + 1) (by omega)
    refine ⟨((z.fdiv 7).fmod (2 * most + 1) - most) :: row', s', ?_, by simp [e2], fun x hx => ?_⟩
    · rw [rng_succ]
      refine fl_end (ρ1 := [.fz (.scr ns), .fz (.int f), .fz many, .fz (.int most), .fz (.int j), .fz (.int k), .own (row.map PV.int), .own X]) rfl ?_ (e.trans (by simp))
      have nz : 2 * most + 1 ≠ 0 := by omega
      have ll : row.length < PySem.sizeLine := lt_line (by omega)
      unfold drawnIn
      simp [mulV_l, hz, fdivV_l, modV_int, nz, ll]
    · rcases List.mem_cons.mp hx with h | h
      · subst h; omega
      · exact e3 x h
def drawnOut : Ss := .cons (.asgM [] 6 (.lst .nil)) (.cons (.for [] [4] true (.rng1 (.var 2)) drawnIn) (.cons (.app [6] 7 (.bi .tuple (.cons (.var 6) .nil))) .nil))
theorem drawn_out (kn : Kn B) {l : Nat} {nm' : Nm} {ns : List Int} {f most : Int} {n : Nat} (hf : 0 ≤ f) (hf2 : f ≤ 500) (hm : 0 ≤ most) (hn : n ≤ 5) : ∀ (m : Nat) (k : Int) (R : List (List Int)) (s4 s5 s6 : Sl), 0 ≤ k → k + m ≤ 10 → R.length + m ≤ 100 →
    ∃ (R' : List (List Int)) (s4' s5' s6' : Sl), fl (callF B nm (l + 2)) nm' [5] true drawnOut (rngL k m) [.fz (.scr ns), .fz (.int f), .fz (.int (n : Int)), .fz (.int most), s4, s5, s6, .own (R.map tupI)]
      = .nx [.fz (.scr ns), .fz (.int f), .fz (.int (n : Int)), .fz (.int most), s4', s5', s6', .own ((R ++ R').map tupI)] ∧ R'.length = m ∧ ∀ r ∈ R', r.length = n ∧ ∀ x ∈ r, -most ≤ x ∧ x ≤ most := by
  intro m
  induction m with
  | zero => intro k R s4 s5 s6 _ _ _; exact ⟨[], s4, s5, s6, by rw [rng_zero]; simp, rfl, fun x h => by cases h⟩
  | succ m ih =>
    intro k R s4 s5 s6 hk hk2 hR
    obtain ⟨row, s', e1, e2, e3⟩ := drawn_in kn (nm := nm) (l := l) (nm' := nm') (ns := ns) (many := .int (n : Int)) (X := R.map tupI) hf hf2 hm hk (by omega) n 0 [] s4 (by omega) (by omega) (by simp; omega)
    obtain ⟨R', t4, t5, t6, g1, g2, g3⟩ := ih (k + 1) (R ++ [row]) s' (.fz (.int k)) (.fz (.lst true (row.map PV.int))) (by omega) (by omega) (by simp; omega)
    refine ⟨row :: R', t4, t5, t6, ?_, by simp [g2], fun r hr => ?_⟩
    · rw [rng_succ]
      refine fl_end (ρ1 := [.fz (.scr ns), .fz (.int f), .fz (.int (n : Int)), .fz (.int most), s4, .fz (.int k), s6, .own (R.map tupI)]) rfl ?_ (g1.trans (by simp))
      have i6 : i62 (n : Int) := by unfold i62; omega
      have ll : R.length < PySem.sizeLine := lt_line (by omega)
      simp only [List.map_nil, List.nil_append] at e1
      unfold drawnOut
      simp [ownOr, PV.lfs, E.mk, rng1V_int i6, e1, ll, tupI]
    · rcases List.mem_cons.mp hr with h | h
      · subst h; exact ⟨e2, e3⟩
      · exact g3 r h
theorem drawn (kn : Kn B) {l : Nat} {ns : List Int} {f most : Int} {n : Nat} (hf : 0 ≤ f) (hf2 : f ≤ 500) (hm : 0 ≤ most) (hn : n ≤ 5) :
    ∃ R : List (List Int), callF B nm (l + 3) "_law_drawn" [.scr ns, .int f, .int (n : Int), .int most] = .ok (rowsV true R) ∧ Sq n most R := by
  obtain ⟨R, t4, t5, t6, g1, g2, g3⟩ := drawn_out kn (nm := nm) (l := l) (nm' := nmAt nm (l + 2)) (ns := ns) (n := n) hf hf2 hm hn n 0 [] .no .no .no (by omega) (by omega) (by simp; omega)
  refine ⟨R, ?_, g2, g3⟩
  rw [callF_eq kn.drawn]
  refine runF_ret rfl ?_
  have i6 : i62 (n : Int) := by unfold i62; omega
  simp only [List.map_nil, List.nil_append] at g1
  rw [show b__law_drawn = .cons (.asgM [] 7 (.lst .nil)) (.cons (.for [] [5] true (.rng1 (.var 2)) drawnOut) (.cons (.ret [7] (.var 7)) .nil)) from rfl]
  simp [olds_cons, olds_nil, PV.old, startR, ownOr, PV.lfs, E.mk, rng1V_int i6, g1, rowsV]
end
end BO

namespace BO
open SG
section
variable {i : Int} {t : Bool} {x : PySem.Str} {xs : List PV}
@[simp] theorem isi_ni : isiV "int" .non = .ok (.bl false) := by unfold isiV typeName; simp [show L2.kitB "NoneType" "int" = some false from rfl]
@[simp] theorem isi_nl : isiV "list" .non = .ok (.bl false) := by unfold isiV typeName; simp [show L2.kitB "NoneType" "list" = some false from rfl]
@[simp] theorem isi_nt : isiV "tuple" .non = .ok (.bl false) := by unfold isiV typeName; simp [show L2.kitB "NoneType" "tuple" = some false from rfl]
@[simp] theorem isi_ns : isiV "str" .non = .ok (.bl false) := by unfold isiV typeName; simp [show L2.kitB "NoneType" "str" = some false from rfl]
@[simp] theorem isi_si : isiV "int" (.str x) = .ok (.bl false) := by unfold isiV typeName; simp [show L2.kitB "str" "int" = some false from rfl]
@[simp] theorem isi_sl : isiV "list" (.str x) = .ok (.bl false) := by unfold isiV typeName; simp [show L2.kitB "str" "list" = some false from rfl]
@[simp] theorem isi_st : isiV "tuple" (.str x) = .ok (.bl false) := by unfold isiV typeName; simp [show L2.kitB "str" "tuple" = some false from rfl]
@[simp] theorem isi_bt : isiV "tuple" (.bl t) = .ok (.bl false) := by unfold isiV typeName; simp [show L2.kitB "bool" "tuple" = some false from rfl]
@[simp] theorem isi_bs : isiV "str" (.bl t) = .ok (.bl false) := by unfold isiV typeName; simp [show L2.kitB "bool" "str" = some false from rfl]
end
def isScr : PV → Bool
  | .scr _ => true
  | _ => false
def isW : PV → Bool
  | .int _ => true
  | _ => false
def amongB (lo hi : Int) : PV → Bool
  | .int i => decide (lo ≤ i) && decide (i ≤ hi)
  | _ => false
theorem all_bl {α : Type} {f : α → Bool} : ∀ {l : List α}, bools? (l.map fun x => PV.bl (f x)) = some (l.map f)
  | [] => rfl
  | x :: l => by
    show (bools? (l.map fun x => PV.bl (f x))).map (f x :: ·) = _
    rw [all_bl]; rfl
theorem olds_map : ∀ {l : List PV}, PV.olds l = l.map PV.old
  | [] => by rw [olds_nil]; rfl
  | x :: l => by rw [olds_cons, olds_map]; rfl
theorem among_old {lo hi : Int} {v : PV} : amongB lo hi v.old = amongB lo hi v := by cases v <;> simp [PV.old, amongB]
theorem scr_old {v : PV} : isScr v.old = isScr v := by cases v <;> simp [PV.old, isScr]
def seqB : PV → List PV
  | .lst _ xs => xs
  | .tup xs => xs
  | _ => []
/-- a row that the program takes -/
def okRow (n : Nat) : PV → Bool
  | .tup ts => decide ((ts.length : Int) = n) && ts.all (amongB (-1000000) 1000000)
  | _ => false
def okRows : PV → Bool
  | .lst _ xs => decide (1 ≤ xs.length) && decide (xs.length ≤ 3) && xs.all (okRow xs.length)
  | _ => false
/-- nothing in it is a script, nothing is too long -/
def clean1 (x : PV) : Prop := isScr x = false ∧ ∀ t ∈ seqB x, isScr t = false
def short1 (x : PV) : Prop := (seqB x).length ≤ 1000
theorem okRow_old {n : Nat} {x : PV} : okRow n x.old = okRow n x := by
  cases x <;> simp [PV.old, okRow]
  rename_i xs
  rw [olds_map, List.length_map, List.all_map]
  congr 2; funext x; exact among_old
theorem clean_old {x : PV} (h : clean1 x) : clean1 x.old := by
  refine ⟨by rw [scr_old]; exact h.1, ?_⟩
  have : seqB x.old = (seqB x).map PV.old := by cases x <;> simp [PV.old, seqB, olds_map]
  rw [this]
  intro t ht
  obtain ⟨y, hy, rfl⟩ := List.mem_map.mp ht
  rw [scr_old]; exact h.2 y hy
theorem short_old {x : PV} (h : short1 x) : short1 x.old := by
  have : seqB x.old = (seqB x).map PV.old := by cases x <;> simp [PV.old, seqB, olds_map]
  unfold short1; rw [this, List.length_map]; exact h
section
variable {B : PySem.Str → Option FI} {nm : Nm} (kn : Kn B)
include kn
theorem isWhole {l : Nat} {v : PV} (h : isScr v = false) : callF B nm (l + 1) "is_whole" [v] = .ok (.bl (isW v)) := by
  rw [callF_eq kn.whole]
  unfold fi_is_whole b_is_whole
  cases v <;> first
    | (refine runF_ret rfl ?_; simp [olds_cons, olds_nil, PV.old, startR, isW]; done)
    | cases h
theorem isAmong {l : Nat} {v : PV} {lo hi : Int} (h : isScr v = false) : callF B nm (l + 2) "is_among" [v, .int lo, .int hi] = .ok (.bl (amongB lo hi v)) := by
  rw [callF_eq kn.among]
  unfold fi_is_among b_is_among
  have w := isWhole kn (nm := nm) (l := l) (v := v.old) (by rw [scr_old]; exact h)
  cases v with
  | scr _ => cases h
  | int i =>
    refine runF_ret rfl ?_
    simp [PV.old, isW] at w
    by_cases q : lo ≤ i <;> simp [olds_cons, olds_nil, PV.old, startR, w, q, amongB]
  | _ =>
    refine runF_ret rfl ?_
    simp [PV.old, isW] at w
    simp [olds_cons, olds_nil, PV.old, startR, w, amongB]
def isSeq : PV → Bool
  | .lst _ xs => true
  | .tup xs => true
  | _ => false
theorem numbers_at {l : Nat} {p : PV} {xs : List PV} {n m : Int} (h1 : lenV p = .ok (.int xs.length)) (h2 : itemsV p = .ok xs) (hs : ∀ x ∈ xs, isScr x = false) (hl : xs.length ≤ 1000) :
    eSs (callF B nm (l + 2)) (nmAt nm (l + 2)) [.fz p, .fz (.int n), .fz (.int m), .no, .no] b_are_numbers = .ret (.bl (decide ((xs.length : Int) = n) && xs.all (amongB (-m) m))) := by
  unfold b_are_numbers
  by_cases q : (xs.length : Int) = n
  · have hc : cm (callF B nm (l + 2)) [.fz p, .fz (.int n), .fz (.int m), .no, .no] [3, 4] [4] true (.call "is_among" (.cons (.var 4) (.cons (.neg (.var 2)) (.cons (.var 2) .nil)))) xs = .ok (.lst true (xs.map fun x => .bl (amongB (-m) m x))) := by
      refine cm_map _ (fun x hx => ?_) (sz _ hl)
      have := isAmong kn (nm := nm) (l := l) (v := x) (lo := -m) (hi := m) (hs x hx)
      simp [wipeS, setT, this]
    have ha : allV (.lst true (xs.map fun x => .bl (amongB (-m) m x))) = .ok (.bl (xs.all (amongB (-m) m))) := by
      unfold allV; dsimp only; rw [all_bl]; simp [List.all_map]
    simp [h1, h2, q, hc, ha]
  · simp [h1, q]
theorem numbers {l : Nat} {T : PV} {n m : Int} (hT : isSeq T = true) (hs : ∀ x ∈ seqB T, isScr x = false) (hl : (seqB T).length ≤ 1000) :
    callF B nm (l + 3) "are_numbers" [T, .int n, .int m] = .ok (.bl (decide (((seqB T).length : Int) = n) && (seqB T).all (amongB (-m) m))) := by
  rw [callF_eq kn.numbers]
  have hs' : ∀ xs : List PV, (∀ x ∈ xs, isScr x = false) → ∀ x ∈ xs.map PV.old, isScr x = false := fun xs h x hx => by
    obtain ⟨y, hy, rfl⟩ := List.mem_map.mp hx
    rw [scr_old]; exact h y hy
  have ha : ∀ xs : List PV, (xs.map PV.old).all (amongB (-m) m) = xs.all (amongB (-m) m) := fun xs => by
    rw [List.all_map]; congr 1; funext x; exact among_old
  refine runF_ret rfl ?_
  cases T with
  | lst y xs =>
    have := numbers_at kn (nm := nm) (l := l) (p := .lst false (xs.map PV.old)) (xs := xs.map PV.old) (n := n) (m := m) (by simp) (by simp) (hs' _ hs) (by simpa [seqB] using hl)
    rw [ha, List.length_map] at this
    have e : startR 5 (PV.olds [.lst y xs, .int n, .int m]) = [.fz (.lst false (xs.map PV.old)), .fz (.int n), .fz (.int m), .no, .no] := by simp [olds_cons, olds_nil, PV.old, startR, olds_map]
    show eSs _ _ (startR 5 (PV.olds [.lst y xs, .int n, .int m])) b_are_numbers = _
    rw [e]
    exact this
  | tup xs =>
    have := numbers_at kn (nm := nm) (l := l) (p := .tup (xs.map PV.old)) (xs := xs.map PV.old) (n := n) (m := m) (by simp) (by simp) (hs' _ hs) (by simpa [seqB] using hl)
    rw [ha, List.length_map] at this
    have e : startR 5 (PV.olds [.tup xs, .int n, .int m]) = [.fz (.tup (xs.map PV.old)), .fz (.int n), .fz (.int m), .no, .no] := by simp [olds_cons, olds_nil, PV.old, startR, olds_map]
    show eSs _ _ (startR 5 (PV.olds [.tup xs, .int n, .int m])) b_are_numbers = _
    rw [e]
    exact this
  | _ => cases hT

def needIn : Ss := .cons (.iff [] (.or (.not (.isi (.var 1) "tuple")) (.not (.call "are_numbers" (.cons (.var 1) (.cons (.bi .len (.cons (.var 0) .nil)) (.cons (.gint "MOST_NUMBER" 1000000) .nil)))))) (.cons (.rse "BadRows") .nil) .nil) .nil
theorem need_in {l : Nat} {nm' : Nm} {XS : List PV} : ∀ (xs : List PV) (s : Sl), (∀ x ∈ xs, clean1 x ∧ short1 x) →
    (xs.all (okRow XS.length) = true → ∃ s', fl (callF B nm (l + 3)) nm' [1] true needIn xs [.fz (.lst false XS), s] = .nx [.fz (.lst false XS), s']) ∧
    (xs.all (okRow XS.length) = false → fl (callF B nm (l + 3)) nm' [1] true needIn xs [.fz (.lst false XS), s] = .err "BadRows") := by
  intro xs
  induction xs with
  | nil => intro s _; exact ⟨fun _ => ⟨s, rfl⟩, fun h => by cases h⟩
  | cons x xs ih =>
    intro s h
    obtain ⟨hc, hl⟩ := h x List.mem_cons_self
    obtain ⟨i1, i2⟩ := ih (.fz x) fun y hy => h y (List.mem_cons_of_mem _ hy)
    have step : (okRow XS.length x = true → eSs (callF B nm (l + 3)) nm' [.fz (.lst false XS), .fz x] needIn = .nx [.fz (.lst false XS), .fz x]) ∧ (okRow XS.length x = false → eSs (callF B nm (l + 3)) nm' [.fz (.lst false XS), .fz x] needIn = .err "BadRows") := by
      unfold needIn
      cases x with
      | tup ts =>
        have N := numbers kn (nm := nm) (l := l) (T := .tup ts) (n := (XS.length : Int)) (m := 1000000) rfl hc.2 hl
        have e : okRow XS.length (.tup ts) = (decide (((seqB (.tup ts)).length : Int) = (XS.length : Int)) && (seqB (.tup ts)).all (amongB (-1000000) 1000000)) := rfl
        rw [e]
        generalize (decide (((seqB (.tup ts)).length : Int) = (XS.length : Int)) && (seqB (.tup ts)).all (amongB (-1000000) 1000000)) = b at N
        refine ⟨fun q => ?_, fun q => ?_⟩ <;> subst q <;> simp [N]
      | scr ns => cases hc.1
      | _ => exact ⟨fun q => (by cases q), fun _ => by simp⟩
    refine ⟨fun q => ?_, fun q => ?_⟩
    · rw [List.all_cons, Bool.and_eq_true] at q
      obtain ⟨s', e⟩ := i1 q.2
      exact ⟨s', fl_end rfl (step.1 q.1) e⟩
    · rw [List.all_cons, Bool.and_eq_false_iff] at q
      cases hx : okRow XS.length x with
      | true =>
        rcases q with q | q
        · rw [q] at hx; cases hx
        · exact fl_end rfl (step.1 hx) (i2 q)
      | false =>
        rw [fl_cons]
        show (eSs (callF B nm (l + 3)) nm' [.fz (.lst false XS), .fz x] needIn).seq _ = _
        rw [step.2 hx]; rfl
theorem need_lists {l : Nat} {v : PV} (h : isScr v = false) (hx : ∀ x ∈ seqB v, clean1 x ∧ short1 x) : callF B nm (l + 4) "need_lists" [v] = if okRows v then .ok .non else .err "BadRows" := by
  rw [callF_eq kn.lists]
  unfold fi_need_lists
  have hb : b_need_lists = .cons (.iff [] (.or (.not (.isi (.var 0) "list")) (.not (.chain .le .le (.int 1) (.bi .len (.cons (.var 0) .nil)) (.gint "MOST_ROWS" 3)))) (.cons (.rse "BadRows") .nil) .nil) (.cons (.for [] [1] true (.val (.var 0)) needIn) .nil) := rfl
  cases v with
  | scr ns => cases h
  | lst y xs =>
    have hx' : ∀ x ∈ xs.map PV.old, clean1 x ∧ short1 x := fun x hm => by
      obtain ⟨z, hz, rfl⟩ := List.mem_map.mp hm
      exact ⟨clean_old (hx z hz).1, short_old (hx z hz).2⟩
    obtain ⟨n1, n2⟩ := need_in kn (nm := nm) (l := l) (nm' := nmAt nm (l + 3)) (XS := xs.map PV.old) (xs.map PV.old) .no hx'
    have ea : (xs.map PV.old).all (okRow (xs.map PV.old).length) = xs.all (okRow xs.length) := by
      rw [List.all_map, List.length_map]; congr 1; funext x; exact okRow_old
    rw [ea] at n1 n2
    have eo : okRows (.lst y xs) = (decide (1 ≤ xs.length) && decide (xs.length ≤ 3) && xs.all (okRow xs.length)) := rfl
    rw [eo]
    unfold runF
    rw [hb]
    by_cases q1 : 1 ≤ xs.length
    · have q1' : (1 : Int) ≤ (xs.length : Int) := by omega
      by_cases q2 : xs.length ≤ 3
      · have q2' : (xs.length : Int) ≤ 3 := by omega
        cases q3 : xs.all (okRow xs.length) with
        | true =>
          obtain ⟨s', e⟩ := n1 q3
          simp [olds_cons, olds_nil, PV.old, startR, olds_map, q1, q1', q2, q2', e]
        | false =>
          have e := n2 q3
          simp [olds_cons, olds_nil, PV.old, startR, olds_map, q1, q1', q2, q2', e]
      · have q2' : ¬ (xs.length : Int) ≤ 3 := by omega
        simp [olds_cons, olds_nil, PV.old, startR, olds_map, q1, q1', q2, q2']
    · have q1' : ¬ (1 : Int) ≤ (xs.length : Int) := by omega
      simp [olds_cons, olds_nil, PV.old, startR, olds_map, q1, q1']
  | _ =>
    unfold runF
    rw [hb]
    simp [olds_cons, olds_nil, PV.old, startR, okRows]
end
end BO

namespace BO
open SG
/-! ### equality of whole numbers' tables -/
theorem toDs_map : ∀ {l : List PV}, PV.toDs l = l.map PV.toD
  | [] => by simp only [PV.toDs]; rfl
  | x :: l => by simp only [PV.toDs]; rw [toDs_map]; rfl
theorem lay_all {l : List PySem.PyData} (h : ∀ d ∈ l, d.canLay0 = true) : PySem.PyData.canLayAll0 l = true := by
  induction l with
  | nil => simp only [PySem.PyData.canLayAll0]
  | cons x l ih =>
    simp only [PySem.PyData.canLayAll0, Bool.and_eq_true]
    exact ⟨h x List.mem_cons_self, ih fun d hd => h d (List.mem_cons_of_mem _ hd)⟩
theorem depth_all {l : List PySem.PyData} {n : Nat} (h : ∀ d ∈ l, d.depth ≤ n) : PySem.PyData.depthAll l ≤ n := by
  induction l with
  | nil => simp [PySem.PyData.depthAll]
  | cons x l ih =>
    simp only [PySem.PyData.depthAll]
    have h1 := h x List.mem_cons_self
    have h2 := ih fun d hd => h d (List.mem_cons_of_mem _ hd)
    omega
theorem eqv_all {α : Type} [DecidableEq α] {f : α → PySem.PyData} : ∀ {a b : List α}, (∀ x ∈ a, ∀ y, PySem.PyData.eqv (f x) (f y) = decide (x = y)) → PySem.PyData.eqvAll (a.map f) (b.map f) = decide (a = b)
  | [], [], _ => by simp [PySem.PyData.eqvAll]
  | [], _ :: _, _ => by simp [PySem.PyData.eqvAll]
  | _ :: _, [], _ => by simp [PySem.PyData.eqvAll]
  | x :: a, y :: b, h => by
    simp only [List.map_cons, PySem.PyData.eqvAll]
    rw [h x List.mem_cons_self y, eqv_all fun z hz => h z (List.mem_cons_of_mem _ hz)]
    by_cases e : x = y <;> by_cases e2 : a = b <;> simp [e, e2]
/-- data of one level more -/
structure Lv (n : Nat) (p : PV) : Prop where
  lay : p.toD.canLay0 = true
  dep : p.toD.depth ≤ n
theorem Lv.ok {n : Nat} {p : PV} (h : Lv n p) (hn : n ≤ 64) : okD p = true := by
  unfold okD PySem.SeqAt.shaped
  rw [Bool.and_eq_true, decide_eq_true_eq]
  exact ⟨h.lay, Nat.le_trans h.dep hn⟩
theorem Lv.int {n : Nat} {i : Int} : Lv n (.int i) := ⟨by simp [PV.toD, PySem.PyData.canLay0], by simp [PV.toD, PySem.PyData.depth]⟩
theorem Lv.lst {n : Nat} {y : Bool} {xs : List PV} (h : ∀ x ∈ xs, Lv n x) : Lv (n + 1) (.lst y xs) := by
  refine ⟨?_, ?_⟩
  · simp only [PV.toD, PySem.PyData.canLay0, toDs_map]
    exact lay_all fun d hd => by obtain ⟨x, hx, rfl⟩ := List.mem_map.mp hd; exact (h x hx).lay
  · simp only [PV.toD, PySem.PyData.depth, toDs_map]
    have := depth_all (l := xs.map PV.toD) (n := n) fun d hd => by obtain ⟨x, hx, rfl⟩ := List.mem_map.mp hd; exact (h x hx).dep
    omega
theorem Lv.tup {n : Nat} {xs : List PV} (h : ∀ x ∈ xs, Lv n x) : Lv (n + 1) (.tup xs) := by
  refine ⟨?_, ?_⟩
  · simp only [PV.toD, PySem.PyData.canLay0, toDs_map]
    exact lay_all fun d hd => by obtain ⟨x, hx, rfl⟩ := List.mem_map.mp hd; exact (h x hx).lay
  · simp only [PV.toD, PySem.PyData.depth, toDs_map]
    have := depth_all (l := xs.map PV.toD) (n := n) fun d hd => by obtain ⟨x, hx, rfl⟩ := List.mem_map.mp hd; exact (h x hx).dep
    omega
theorem lv_tupI {r : List Int} : Lv 1 (tupI r) := Lv.tup fun x hx => by obtain ⟨i, _, rfl⟩ := List.mem_map.mp hx; exact Lv.int
theorem lv_rows {y : Bool} {R : List (List Int)} : Lv 2 (rowsV y R) := Lv.lst fun x hx => by obtain ⟨r, _, rfl⟩ := List.mem_map.mp hx; exact lv_tupI
theorem eqD_int {i j : Int} : PySem.PyData.eqv (.int i) (.int j) = decide (i = j) := eqv_int
theorem eqD_tup {a b : List Int} : PySem.PyData.eqv (tupI a).toD (tupI b).toD = decide (a = b) := by
  unfold tupI
  simp only [PV.toD, PySem.PyData.eqv, toDs_map, List.map_map]
  exact eqv_all (f := PV.toD ∘ PV.int) fun x _ y => by simp only [Function.comp, PV.toD]; exact eqv_int
theorem eqD_rows {y t : Bool} {a b : List (List Int)} : PySem.PyData.eqv (rowsV y a).toD (rowsV t b).toD = decide (a = b) := by
  unfold rowsV
  simp only [PV.toD, PySem.PyData.eqv, toDs_map, List.map_map]
  exact eqv_all (f := PV.toD ∘ tupI) fun x _ z => eqD_tup
theorem eqV_tup {a b : List Int} : eqV' (tupI a) (tupI b) = .ok (.bl (decide (a = b))) := by
  unfold eqV' eqP; rw [Rs.when_pos ⟨lv_tupI.ok (by decide), lv_tupI.ok (by decide)⟩, eqD_tup]
theorem eqV_rows {y t : Bool} {a b : List (List Int)} : eqV' (rowsV y a) (rowsV t b) = .ok (.bl (decide (a = b))) := by
  unfold eqV' eqP; rw [Rs.when_pos ⟨lv_rows.ok (by decide), lv_rows.ok (by decide)⟩, eqD_rows]
theorem eqV_nil {n : Nat} {y t : Bool} {xs : List PV} (h : Lv n (.lst y xs)) (hn : n ≤ 64) : eqV' (.lst y xs) (.lst t []) = .ok (.bl (decide (xs = []))) := by
  unfold eqV' eqP
  rw [Rs.when_pos ⟨h.ok hn, (Lv.lst (n := 0) fun x hx => by cases hx).ok (by decide)⟩]
  congr 2
  simp only [PV.toD, PySem.PyData.eqv, toDs_map]
  cases xs <;> simp [PySem.PyData.eqvAll]
/-! ### sums of products -/
def dot (a b : List Int) : Int := ((a.zip b).map fun p => p.1 * p.2).sum
theorem old_ints : ∀ {r : List Int}, PV.olds (r.map PV.int) = r.map PV.int
  | [] => by simp [olds_nil]
  | x :: r => by rw [List.map_cons, olds_cons, old_ints]; simp [PV.old]
theorem old_tupI {r : List Int} : (tupI r).old = tupI r := by unfold tupI; simp only [PV.old]; rw [old_ints]
theorem old_rows {y : Bool} {R : List (List Int)} : (rowsV y R).old = rowsV false R := by
  unfold rowsV; simp only [PV.old]; rw [olds_map, List.map_map]
  congr 1
  exact List.map_congr_left fun r _ => old_tupI
theorem ints_map : ∀ {l : List Int}, ints? (l.map PV.int) = some l
  | [] => rfl
  | x :: l => by show (ints? (l.map PV.int)).map (x :: ·) = _; rw [ints_map]; rfl
theorem zip_ints : ∀ {a b : List Int}, zipL (a.map PV.int) (b.map PV.int) = (a.zip b).map fun p => .tup [.int p.1, .int p.2]
  | [], _ => by simp [zipL]
  | _ :: _, [] => by simp [zipL]
  | x :: a, y :: b => by simp only [List.map_cons, zipL, List.zip_cons_cons]; rw [zip_ints]
def mulP : PV → PV
  | .tup [.int x, .int y] => .int (x * y)
  | _ => .non
section
variable {B : PySem.Str → Option FI} {nm : Nm} (kn : Kn B)
include kn
theorem inner {l : Nat} {a b : List Int} (ha : (∀ x ∈ a, x.natAbs < 18446744073709551616) ∨ (∀ x ∈ b, x.natAbs < 18446744073709551616)) (hl : a.length ≤ 1000) : callF B nm (l + 1) "inner" [tupI a, tupI b] = .ok (.int (dot a b)) := by
  rw [callF_eq kn.inner]
  refine runF_ret rfl ?_
  have e : startR 5 (PV.olds [tupI a, tupI b]) = [.fz (tupI a), .fz (tupI b), .no, .no, .no] := by simp [olds_cons, olds_nil, old_tupI, startR]
  rw [e]
  have hc : cm (callF B nm l) [.fz (tupI a), .fz (tupI b), .no, .no, .no] [2, 3, 4] [3, 4] false (.op .mul (.var 3) (.var 4)) ((a.zip b).map fun p => .tup [.int p.1, .int p.2]) = .ok (.lst true (((a.zip b).map fun p => .tup [.int p.1, .int p.2]).map mulP)) := by
    refine cm_map mulP (fun x hx => ?_) (sz _ (by simp; omega))
    obtain ⟨p, hp, rfl⟩ := List.mem_map.mp hx
    have hp' := List.of_mem_zip hp
    have m : mulV (.int p.1) (.int p.2) = .ok (.int (p.1 * p.2)) := by
      rcases ha with h | h
      · exact mulV_l (h _ hp'.1)
      · exact mulV_r (h _ hp'.2)
    simp [wipeS, setT, m, mulP]
  have hs : sumV (.lst true (((a.zip b).map fun p => .tup [.int p.1, .int p.2]).map mulP)) = .ok (.int (dot a b)) := by
    have : (((a.zip b).map fun p => PV.tup [.int p.1, .int p.2]).map mulP) = (((a.zip b).map fun p => p.1 * p.2).map PV.int) := by
      rw [List.map_map, List.map_map]; exact List.map_congr_left fun p _ => rfl
    rw [this]
    unfold sumV; dsimp only; rw [ints_map]; rfl
  have hz : zipV (tupI a) (tupI b) = .ok ((a.zip b).map fun p => .tup [.int p.1, .int p.2]) := by unfold tupI; rw [zipV_tup, zip_ints]
  unfold b_inner
  simp [hz, hc, hs, -List.map_map]

/-- small enough to be a factor -/
def Sm (x : Int) : Prop := x.natAbs < 18446744073709551616
theorem crossed {l : Nat} {a b c d e f : Int} (ha : Sm a) (hb : Sm b) (hc : Sm c) : callF B nm (l + 1) "crossed" [tupI [a, b, c], tupI [d, e, f]] = .ok (tupI [b * f - c * e, c * d - a * f, a * e - b * d]) := by
  rw [callF_eq kn.crossed]
  refine runF_ret rfl ?_
  have e0 : startR 4 (PV.olds [tupI [a, b, c], tupI [d, e, f]]) = [.fz (tupI [a, b, c]), .fz (tupI [d, e, f]), .no, .no] := by simp [olds_cons, olds_nil, old_tupI, startR]
  rw [e0]
  have ix0 : ∀ x y z : Int, ixV (tupI [x, y, z]) (.int 0) = .ok (.int x) := fun x y z => ixV_tup (n := 0) rfl
  have ix1 : ∀ x y z : Int, ixV (tupI [x, y, z]) (.int 1) = .ok (.int y) := fun x y z => ixV_tup (n := 1) rfl
  have ix2 : ∀ x y z : Int, ixV (tupI [x, y, z]) (.int 2) = .ok (.int z) := fun x y z => ixV_tup (n := 2) rfl
  unfold b_crossed
  simp [ix0, ix1, ix2, mulV_l ha, mulV_l hb, mulV_l hc, sz]
  rfl
/-- the rows' counters -/
def cnt : List (List Int) → List (List Int)
  | [[_]] => [[1]]
  | [[a, b], [c, d]] => [[d, -c], [-b, a]]
  | [[a, b, c], [d, e, f], [g, h, i]] => [[e * i - f * h, f * g - d * i, d * h - e * g], [h * c - i * b, i * a - g * c, g * b - h * a], [b * f - c * e, c * d - a * f, a * e - b * d]]
  | _ => []
/-- the rows' bulk -/
def blk : List (List Int) → Int
  | [[a]] => a * 1
  | [[a, b], [c, d]] => a * d + b * -c
  | [[a, b, c], [d, e, f], [g, h, i]] => a * (e * i - f * h) + (b * (f * g - d * i) + c * (d * h - e * g))
  | _ => 0
/-- one to three rows, small numbers -/
inductive Sh : List (List Int) → Prop where
  | one {a : Int} (h : Sm a) : Sh [[a]]
  | two {a b c d : Int} (ha : Sm a) (hb : Sm b) (hc : Sm c) (hd : Sm d) : Sh [[a, b], [c, d]]
  | three {a b c d e f g h i : Int} (ha : Sm a) (hb : Sm b) (hc : Sm c) (hd : Sm d) (he : Sm e) (hf : Sm f) (hg : Sm g) (hh : Sm h) (hi : Sm i) : Sh [[a, b, c], [d, e, f], [g, h, i]]
theorem counters_of {l : Nat} {y : Bool} {R : List (List Int)} (h : Sh R) : callF B nm (l + 2) "counters_of" [rowsV y R] = .ok (rowsV true (cnt R)) := by
  rw [callF_eq kn.counters]
  refine runF_ret rfl ?_
  have e0 : startR 5 (PV.olds [rowsV y R]) = [.fz (rowsV false R), .no, .no, .no, .no] := by simp [olds_cons, olds_nil, old_rows, startR]
  rw [e0]
  cases h with
  | one h =>
    unfold b_counters_of rowsV
    simp [sz, cnt, tupI]
  | @two a b c d ha hb hc hd =>
    have ix0 : ∀ x y : Int, ixV (tupI [x, y]) (.int 0) = .ok (.int x) := fun x y => ixV_tup (n := 0) rfl
    have ix1 : ∀ x y : Int, ixV (tupI [x, y]) (.int 1) = .ok (.int y) := fun x y => ixV_tup (n := 1) rfl
    unfold b_counters_of rowsV
    simp [sz, cnt, setT, ix0, ix1]
    simp [tupI]
  | @three a b c d e f g h i ha hb hc hd he hf hg hh hi =>
    have c1 := crossed kn (nm := nm) (l := l) (d := g) (e := h) (f := i) hd he hf
    have c2 := crossed kn (nm := nm) (l := l) (d := a) (e := b) (f := c) hg hh hi
    have c3 := crossed kn (nm := nm) (l := l) (d := d) (e := e) (f := f) ha hb hc
    unfold b_counters_of rowsV
    simp [sz, cnt, setT, c1, c2, c3]
theorem bulk_of {l : Nat} {y : Bool} {R : List (List Int)} (h : Sh R) : callF B nm (l + 3) "bulk_of" [rowsV y R] = .ok (.int (blk R)) := by
  rw [callF_eq kn.bulk]
  refine runF_ret rfl ?_
  have e0 : startR 1 (PV.olds [rowsV y R]) = [.fz (rowsV false R)] := by simp [olds_cons, olds_nil, old_rows, startR]
  rw [e0]
  have c := counters_of kn (nm := nm) (l := l) (y := false) h
  have key : ∀ (r k : List Int) (R1 K1 : List (List Int)), R = r :: R1 → cnt R = k :: K1 → (∀ x ∈ r, Sm x) → r.length ≤ 1000 → dot r k = blk R → eSs (callF B nm (l + 2)) (nmAt nm (l + 2)) [.fz (rowsV false R)] b_bulk_of = .ret (.int (blk R)) := by
    intro r k R1 K1 e1 e2 hs hl hd
    have i := inner kn (nm := nm) (l := l + 1) (a := r) (b := k) (.inl hs) hl
    have x1 : ixV (rowsV false R) (.int 0) = .ok (tupI r) := by rw [e1]; exact ixV_lst (n := 0) rfl
    have x2 : ixV (rowsV true (cnt R)) (.int 0) = .ok (tupI k) := by rw [e2]; exact ixV_lst (n := 0) rfl
    unfold b_bulk_of
    simp [x1, c, x2, i, hd]
  cases h with
  | one h => exact key _ _ _ _ rfl rfl (by simpa using h) (by simp) (by simp [dot, blk])
  | two ha hb hc hd => exact key _ _ _ _ rfl rfl (by simp; exact ⟨ha, hb⟩) (by simp) (by simp [dot, blk])
  | three ha hb hc hd he hf hg hh hi => exact key _ _ _ _ rfl rfl (by simp; exact ⟨ha, hb, hc⟩) (by simp) (by simp [dot, blk])
end
end BO

namespace BO
open SG
theorem cut_hi {α : Type} {xs : List α} {k : Nat} : cutL xs none (some (k : Int)) = xs.take k := by
  unfold cutL
  rw [HT.sIx_nat, HT.sIx_none]
  simp
theorem cut_lo {α : Type} {xs : List α} {k : Nat} : cutL xs (some (k : Int)) none = xs.drop k := by
  unfold cutL
  rw [HT.sIx_nat, HT.sIx_none]
  by_cases h : k ≤ xs.length
  · rw [Nat.min_eq_left h, List.take_of_length_le (by rw [List.length_drop]; omega)]
  · rw [Nat.min_eq_right (by omega), List.drop_length, List.drop_of_length_le (by omega)]; simp
def wo (k : Nat) (r : List Int) : List Int := r.take k ++ r.drop (k + 1)
section
variable {B : PySem.Str → Option FI} {nm : Nm} (kn : Kn B)
include kn
theorem without {l : Nat} {r : List Int} {k : Nat} (h : r.length ≤ 1000) : callF B nm (l + 1) "_law_without" [tupI r, .int (k : Int)] = .ok (tupI (wo k r)) := by
  rw [callF_eq kn.without]
  refine runF_ret rfl ?_
  have e0 : startR 2 (PV.olds [tupI r, .int (k : Int)]) = [.fz (tupI r), .fz (.int (k : Int))] := by simp [olds_cons, olds_nil, old_tupI, startR, PV.old]
  rw [e0]
  have h1 : slHiV (tupI r) (.int (k : Int)) = .ok (tupI (r.take k)) := by unfold slHiV slV tupI; dsimp only; rw [cut_hi, List.map_take]
  have h2 : slLoV (tupI r) (.int ((k : Int) + 1)) = .ok (tupI (r.drop (k + 1))) := by
    unfold slLoV slV tupI; dsimp only
    have : (k : Int) + 1 = ((k + 1 : Nat) : Int) := by omega
    rw [this, cut_lo, List.map_drop]
  have h3 : addV (tupI (r.take k)) (tupI (r.drop (k + 1))) = .ok (tupI (wo k r)) := by
    unfold addV tupI wo; dsimp only
    rw [Rs.when_pos (sz _ (by simp; omega)), List.map_append]
  unfold b__law_without
  simp [h1, h2, h3]
def lbIn : Ss := .cons (.asg [] 4 (.op .mul (.ix (.ixv 0 (.int 0)) (.var 3)) (.call "_law_bulk" (.cons (.comp [1, 5] [5] true (.val (.slLoV 0 (.int 1))) (.call "_law_without" (.cons (.var 5) (.cons (.var 3) .nil)))) .nil)))) (.cons (.asg [] 2 (.op .add (.var 2) (.ix (.lst (.cons (.var 4) (.cons (.neg (.var 4)) .nil))) (.op .mod (.var 3) (.int 2))))) .nil)
theorem lb_in {l : Nat} {nm' : Nm} {r0 : List Int} {R : List (List Int)} {k : Nat} {x v found : Int} {s3 s4 s5 : Sl} (hk : r0[k]? = some x) (hx : Sm x) (hR : R.length ≤ 1000) (hr : ∀ r ∈ R, r.length ≤ 1000)
    (sub : callF B nm (l + 1) "_law_bulk" [rowsV true (R.map (wo k))] = .ok (.int v)) :
    eSs (callF B nm (l + 1)) nm' [.fz (rowsV false (r0 :: R)), .no, .fz (.int found), .fz (.int (k : Int)), s4, .no] lbIn = .nx [.fz (rowsV false (r0 :: R)), .no, .fz (.int (found + if k % 2 = 0 then x * v else -(x * v))), .fz (.int (k : Int)), .fz (.int (x * v)), .no] := by
  have x1 : ixV (rowsV false (r0 :: R)) (.int 0) = .ok (tupI r0) := ixV_lst (n := 0) rfl
  have x2 : ixV (tupI r0) (.int (k : Int)) = .ok (.int x) := by unfold tupI; exact ixV_tup (by rw [List.getElem?_map, hk]; rfl)
  have x3 : slLoV (rowsV false (r0 :: R)) (.int 1) = .ok (rowsV true R) := by
    unfold slLoV slV rowsV; dsimp only
    rw [show (1 : Int) = ((1 : Nat) : Int) from rfl, cut_lo]; rfl
  have hc : cm (callF B nm (l + 1)) [.fz (rowsV false (r0 :: R)), .no, .fz (.int found), .fz (.int (k : Int)), s4, .no] [1, 5] [5] true (.call "_law_without" (.cons (.var 5) (.cons (.var 3) .nil))) (R.map tupI) = .ok (rowsV true (R.map (wo k))) := by
    have g : ∀ p ∈ R.map tupI, ((setT true [5] p (wipeS [.fz (rowsV false (r0 :: R)), .no, .fz (.int found), .fz (.int (k : Int)), s4, .no] [1, 5])).bind fun ρ1 => eE (callF B nm (l + 1)) ρ1 (.call "_law_without" (.cons (.var 5) (.cons (.var 3) .nil)))) = .ok ((fun p => match p with | .tup ts => (match ints? ts with | some r => tupI (wo k r) | none => .non) | _ => .non) p) := by
      intro p hp
      obtain ⟨r, hr', rfl⟩ := List.mem_map.mp hp
      have w := without kn (nm := nm) (l := l) (r := r) (k := k) (hr r hr')
      simp [wipeS, setT, w]
      simp [tupI, ints_map]
    rw [cm_map _ g (sz _ (by simpa using hR))]
    unfold rowsV
    rw [List.map_map, List.map_map]
    congr 2
    refine List.map_congr_left fun r _ => ?_
    simp [tupI, ints_map]
  have m2 := mod_lt (a := (k : Int)) (b := 2) (by decide)
  have m3 : ((k : Int)).fmod 2 = ((k % 2 : Nat) : Int) := by rw [fmod_pos (by decide)]; omega
  have x4 : ixV (.lst true [.int (x * v), .int (-(x * v))]) (.int ((k : Int).fmod 2)) = .ok (.int (if k % 2 = 0 then x * v else -(x * v))) := by
    rw [m3]
    by_cases q : k % 2 = 0
    · rw [q, if_pos rfl]; exact ixV_lst (n := 0) rfl
    · rw [if_neg q, show k % 2 = 1 by omega]; exact ixV_lst (n := 1) rfl
  have it : itemsV (rowsV true R) = .ok (R.map tupI) := rfl
  unfold lbIn
  simp [x1, x2, x3, it, hc, sub, mulV_l hx, modV_int, x4, sz]

theorem lb_zero {l : Nat} {y : Bool} : callF B nm (l + 1) "_law_bulk" [rowsV y []] = .ok (.int 1) := by
  rw [callF_eq kn.lbulk]
  refine runF_ret rfl ?_
  have e0 : startR 6 (PV.olds [rowsV y []]) = [.fz (rowsV false []), .no, .no, .no, .no, .no] := by simp [olds_cons, olds_nil, old_rows, startR]
  rw [e0]
  have h : eqV' (rowsV false []) (.lst true []) = .ok (.bl true) := eqV_nil (n := 2) (lv_rows (R := [])) (by decide)
  unfold b__law_bulk
  simp [h]
theorem lb_some {l : Nat} {y : Bool} {r0 : List Int} {R : List (List Int)} {v : Int} (hn : (r0 :: R).length ≤ 10)
    (h : ∃ s3 s4 : Sl, fl (callF B nm l) (nmAt nm l) [3] true lbIn (rngL 0 (r0 :: R).length) [.fz (rowsV false (r0 :: R)), .no, .fz (.int 0), .no, .no, .no] = .nx [.fz (rowsV false (r0 :: R)), .no, .fz (.int v), s3, s4, .no]) : callF B nm (l + 1) "_law_bulk" [rowsV y (r0 :: R)] = .ok (.int v) := by
  obtain ⟨s3, s4, h⟩ := h
  rw [callF_eq kn.lbulk]
  refine runF_ret rfl ?_
  have e0 : startR 6 (PV.olds [rowsV y (r0 :: R)]) = [.fz (rowsV false (r0 :: R)), .no, .no, .no, .no, .no] := by simp [olds_cons, olds_nil, old_rows, startR]
  rw [e0]
  have q : eqV' (rowsV false (r0 :: R)) (.lst true []) = .ok (.bl false) := eqV_nil (n := 2) (lv_rows (R := r0 :: R)) (by decide)
  have hl : lenV (rowsV false (r0 :: R)) = .ok (.int ((r0 :: R).length : Int)) := by unfold rowsV; rw [lenV_lst, List.length_map]
  have i6 : i62 ((r0 :: R).length : Int) := by unfold i62; omega
  have hb : b__law_bulk = .cons (.iff [] (.cmp .eq (.var 0) (.lst .nil)) (.cons (.ret [] (.int 1)) .nil) .nil) (.cons (.asg [] 2 (.int 0)) (.cons (.for [] [3] true (.rng1 (.bi .len (.cons (.var 0) .nil))) lbIn) (.cons (.ret [] (.var 2)) .nil))) := rfl
  rw [hb]
  have r1 : rng1V (.int ((r0 :: R).length : Int)) = .ok (rngL 0 (r0 :: R).length) := by rw [rng1V_int i6, Int.toNat_natCast]
  generalize (r0 :: R).length = n at *
  simp [q, hl, r1, h]
theorem lb_one {l : Nat} {y : Bool} {a : Int} (ha : Sm a) : callF B nm (l + 2) "_law_bulk" [rowsV y [[a]]] = .ok (.int (0 + a * 1)) := by
  refine lb_some kn (by simp) ?_
  have z := lb_zero kn (nm := nm) (l := l) (y := true)
  have s := fun (f : Int) (s4 : Sl) => lb_in kn (nm := nm) (l := l) (nm' := nmAt nm (l + 1)) (r0 := [a]) (R := []) (k := 0) (x := a) (v := 1) (found := f) (s3 := .no) (s4 := s4) (s5 := .no) rfl ha (by simp) (by simp) z
  exact ⟨_, _, fl_end rfl (s 0 .no) rfl⟩
theorem lb_two {l : Nat} {y : Bool} {a b c d : Int} (ha : Sm a) (hb : Sm b) (hc : Sm c) (hd : Sm d) : callF B nm (l + 3) "_law_bulk" [rowsV y [[a, b], [c, d]]] = .ok (.int (0 + a * (0 + d * 1) + -(b * (0 + c * 1)))) := by
  refine lb_some kn (by simp) ?_
  have z0 := lb_one kn (nm := nm) (l := l) (y := true) hd
  have z1 := lb_one kn (nm := nm) (l := l) (y := true) hc
  have s0 := fun (f : Int) (s4 : Sl) => lb_in kn (nm := nm) (l := l + 1) (nm' := nmAt nm (l + 2)) (r0 := [a, b]) (R := [[c, d]]) (k := 0) (x := a) (found := f) (s3 := .no) (s4 := s4) (s5 := .no) rfl ha (by simp) (by simp) z0
  have s1 := fun (f : Int) (s4 : Sl) => lb_in kn (nm := nm) (l := l + 1) (nm' := nmAt nm (l + 2)) (r0 := [a, b]) (R := [[c, d]]) (k := 1) (x := b) (found := f) (s3 := .no) (s4 := s4) (s5 := .no) rfl hb (by simp) (by simp) z1
  exact ⟨_, _, fl_end rfl (s0 0 .no) (fl_end rfl (s1 _ _) rfl)⟩
theorem lb_three {l : Nat} {y : Bool} {a b c d e f g h i : Int} (ha : Sm a) (hb : Sm b) (hc : Sm c) (hd : Sm d) (he : Sm e) (hf : Sm f) (hg : Sm g) (hh : Sm h) (hi : Sm i) : callF B nm (l + 4) "_law_bulk" [rowsV y [[a, b, c], [d, e, f], [g, h, i]]]
    = .ok (.int (0 + a * (0 + e * (0 + i * 1) + -(f * (0 + h * 1))) + -(b * (0 + d * (0 + i * 1) + -(f * (0 + g * 1)))) + c * (0 + d * (0 + h * 1) + -(e * (0 + g * 1))))) := by
  refine lb_some kn (by simp) ?_
  have z0 := lb_two kn (nm := nm) (l := l) (y := true) he hf hh hi
  have z1 := lb_two kn (nm := nm) (l := l) (y := true) hd hf hg hi
  have z2 := lb_two kn (nm := nm) (l := l) (y := true) hd he hg hh
  have s0 := fun (q : Int) (s4 : Sl) => lb_in kn (nm := nm) (l := l + 2) (nm' := nmAt nm (l + 3)) (r0 := [a, b, c]) (R := [[d, e, f], [g, h, i]]) (k := 0) (x := a) (found := q) (s3 := .no) (s4 := s4) (s5 := .no) rfl ha (by simp) (by simp) z0
  have s1 := fun (q : Int) (s4 : Sl) => lb_in kn (nm := nm) (l := l + 2) (nm' := nmAt nm (l + 3)) (r0 := [a, b, c]) (R := [[d, e, f], [g, h, i]]) (k := 1) (x := b) (found := q) (s3 := .no) (s4 := s4) (s5 := .no) rfl hb (by simp) (by simp) z1
  have s2 := fun (q : Int) (s4 : Sl) => lb_in kn (nm := nm) (l := l + 2) (nm' := nmAt nm (l + 3)) (r0 := [a, b, c]) (R := [[d, e, f], [g, h, i]]) (k := 2) (x := c) (found := q) (s3 := .no) (s4 := s4) (s5 := .no) rfl hc (by simp) (by simp) z2
  exact ⟨_, _, fl_end rfl (s0 0 .no) (fl_end rfl (s1 _ _) (fl_end rfl (s2 _ _) rfl))⟩
theorem law_bulk {l : Nat} {y : Bool} {R : List (List Int)} (h : Sh R) : callF B nm (l + 4) "_law_bulk" [rowsV y R] = .ok (.int (blk R)) := by
  cases h with
  | one h => rw [lb_one kn (l := l + 2) h]; simp only [blk]; congr 2; omega
  | two ha hb hc hd => rw [lb_two kn (l := l + 1) ha hb hc hd]; simp only [blk]; congr 2; grind
  | three ha hb hc hd he hf hg hh hi => rw [lb_three kn (l := l) ha hb hc hd he hf hg hh hi]; simp only [blk]; congr 2; grind
end
end BO

namespace BO
open SG
/-! ### rows that are none -/
def put (R : List (List Int)) (k : Nat) (x : PV) : List PV := (R.take k).map tupI ++ [x] ++ (R.drop (k + 1)).map tupI
theorem put_len {R : List (List Int)} {k : Nat} {x : PV} (h : k < R.length) : (put R k x).length = R.length := by
  unfold put; simp; omega
theorem okRow_lst {n : Nat} {y : Bool} {xs : List PV} : okRow n (.lst y xs) = false := rfl
theorem put_bad {R : List (List Int)} {k : Nat} {x : PV} (h : k < R.length) (hx : okRow R.length x = false) : okRows (.lst true (put R k x)) = false := by
  unfold okRows; dsimp only
  rw [put_len h]
  have : (put R k x).all (okRow R.length) = false := by
    unfold put
    rw [List.all_append, List.all_append]
    simp [hx]
  rw [this, Bool.and_false]
theorem clean_tupI {r : List Int} : clean1 (tupI r) := ⟨rfl, fun t ht => by obtain ⟨i, _, rfl⟩ := List.mem_map.mp ht; rfl⟩
theorem short_tupI {r : List Int} (h : r.length ≤ 1000) : short1 (tupI r) := by unfold short1 seqB tupI; simpa using h
theorem put_clean {R : List (List Int)} {k : Nat} {x : PV} (hR : ∀ r ∈ R, r.length ≤ 1000) (hx : clean1 x ∧ short1 x) : ∀ z ∈ put R k x, clean1 z ∧ short1 z := by
  intro z hz
  unfold put at hz
  rcases List.mem_append.mp hz with hz | hz
  · rcases List.mem_append.mp hz with hz | hz
    · obtain ⟨r, hr, rfl⟩ := List.mem_map.mp hz
      exact ⟨clean_tupI, short_tupI (hR r (List.mem_of_mem_take hr))⟩
    · rw [List.mem_singleton.mp hz]; exact hx
  · obtain ⟨r, hr, rfl⟩ := List.mem_map.mp hz
    exact ⟨clean_tupI, short_tupI (hR r (List.mem_of_mem_drop hr))⟩
theorem addV_lst {t t' : Bool} {xs ys : List PV} (h : xs.length + ys.length ≤ 1000) : addV (.lst t xs) (.lst t' ys) = .ok (.lst true (xs ++ ys)) := Rs.when_pos (sz _ h)
theorem addV_tup {xs ys : List PV} (h : xs.length + ys.length ≤ 1000) : addV (.tup xs) (.tup ys) = .ok (.tup (xs ++ ys)) := Rs.when_pos (sz _ h)
theorem hi_rows {y : Bool} {R : List (List Int)} {k : Nat} : slHiV (rowsV y R) (.int (k : Int)) = .ok (rowsV true (R.take k)) := by
  unfold slHiV slV rowsV; dsimp only; rw [cut_hi, List.map_take]
theorem lo_rows {y : Bool} {R : List (List Int)} {k : Nat} : slLoV (rowsV y R) (.int ((k : Int) + 1)) = .ok (rowsV true (R.drop (k + 1))) := by
  unfold slLoV slV rowsV; dsimp only
  rw [show (k : Int) + 1 = ((k + 1 : Nat) : Int) by omega, cut_lo, List.map_drop]
theorem hi_tupI {r : List Int} {k : Nat} : slHiV (tupI r) (.int (k : Int)) = .ok (tupI (r.take k)) := by unfold slHiV slV tupI; dsimp only; rw [cut_hi, List.map_take]
theorem lo_tupI {r : List Int} {k : Nat} : slLoV (tupI r) (.int ((k : Int) + 1)) = .ok (tupI (r.drop (k + 1))) := by
  unfold slLoV slV tupI; dsimp only
  rw [show (k : Int) + 1 = ((k + 1 : Nat) : Int) by omega, cut_lo, List.map_drop]
theorem lo_tup1 {r : List Int} : slLoV (tupI r) (.int 1) = .ok (tupI r.tail) := by rw [← List.drop_one]; exact lo_tupI (k := 0)
theorem add_put {R : List (List Int)} {k : Nat} {x : PV} (h : R.length ≤ 400) : ((addV (rowsV true (R.take k)) (.lst true [x])).bind fun p => addV p (rowsV true (R.drop (k + 1)))) = .ok (.lst true (put R k x)) := by
  unfold rowsV
  rw [addV_lst (by simp; omega), Rs.ok_bind, addV_lst (by simp; omega)]
  rfl
/-- a tuple with another item at a place -/
def putI (r : List Int) (k : Nat) (x : PV) : List PV := (r.take k).map PV.int ++ [x] ++ (r.drop (k + 1)).map PV.int
theorem add_putI {r : List Int} {k : Nat} {x : PV} (h : r.length ≤ 400) : ((addV (tupI (r.take k)) (.tup [x])).bind fun p => addV p (tupI (r.drop (k + 1)))) = .ok (.tup (putI r k x)) := by
  unfold tupI
  rw [addV_tup (by simp; omega), Rs.ok_bind, addV_tup (by simp; omega)]
  rfl
theorem putI_bad {n : Nat} {r : List Int} {k : Nat} {x : PV} (hx : amongB (-1000000) 1000000 x = false) : okRow n (.tup (putI r k x)) = false := by
  unfold okRow putI; dsimp only
  rw [List.all_append, List.all_append]
  simp [hx]
theorem putI_clean {r : List Int} {k : Nat} {x : PV} (hr : r.length ≤ 400) (hx : isScr x = false) : clean1 (.tup (putI r k x)) ∧ short1 (.tup (putI r k x)) := by
  refine ⟨⟨rfl, fun t ht => ?_⟩, ?_⟩
  · unfold seqB putI at ht
    rcases List.mem_append.mp ht with ht | ht
    · rcases List.mem_append.mp ht with ht | ht
      · obtain ⟨i, _, rfl⟩ := List.mem_map.mp ht; rfl
      · rw [List.mem_singleton.mp ht]; exact hx
    · obtain ⟨i, _, rfl⟩ := List.mem_map.mp ht; rfl
  · unfold short1 seqB putI; simp; omega
theorem okRow_len {n : Nat} {r : List Int} (h : r.length ≠ n) : okRow n (tupI r) = false := by
  unfold okRow tupI; dsimp only
  have : ((r.map PV.int).length : Int) ≠ (n : Int) := by rw [List.length_map]; omega
  rw [decide_eq_false this, Bool.false_and]
theorem rng_list {n : Nat} : rngL 0 n = (List.range n).map (fun i : Nat => PV.int ((i : Nat) : Int)) := by
  unfold rngL; exact List.map_congr_left fun i _ => by rw [Int.zero_add]
@[simp] theorem intV_bl {b : Bool} : intV (.bl b) = .ok (.int (if b then 1 else 0)) := (rfl)
/-- the four unit rows -/
def four : List (List Int) := [[1, 0, 0, 0], [0, 1, 0, 0], [0, 0, 1, 0], [0, 0, 0, 1]]
end BO

namespace BO
open SG
def good (v : PV) : Prop := isScr v = false ∧ ∀ x ∈ seqB v, clean1 x ∧ short1 x
theorem seqB_old {v : PV} : seqB v.old = (seqB v).map PV.old := by cases v <;> simp [PV.old, seqB, olds_map]
theorem good_old {v : PV} (h : good v) : good v.old := by
  refine ⟨by rw [scr_old]; exact h.1, ?_⟩
  rw [seqB_old]
  intro x hx
  obtain ⟨y, hy, rfl⟩ := List.mem_map.mp hx
  exact ⟨clean_old (h.2 y hy).1, short_old (h.2 y hy).2⟩
theorem okRows_old {v : PV} : okRows v.old = okRows v := by
  cases v <;> simp [PV.old, okRows]
  rename_i xs
  rw [olds_map, List.length_map, List.all_map]
  congr 2; funext x; exact okRow_old
theorem good_rows {y : Bool} {R : List (List Int)} (h : ∀ r ∈ R, r.length ≤ 1000) : good (rowsV y R) := ⟨rfl, fun x hx => by
  obtain ⟨r, hr, rfl⟩ := List.mem_map.mp hx
  exact ⟨clean_tupI, short_tupI (h r hr)⟩⟩
theorem sh_of_sq {n : Nat} {m : Int} {R : List (List Int)} (h : Sq n m R) (hn : 1 ≤ n) (hn3 : n ≤ 3) (hm : m < 18446744073709551616) : Sh R := by
  obtain ⟨hl, hr⟩ := h
  have sm : ∀ {r : List Int} {x : Int}, r ∈ R → x ∈ r → Sm x := fun h1 h2 => by have := (hr _ h1).2 _ h2; unfold Sm; omega
  have l1 : ∀ r ∈ R, r.length = n := fun r h => (hr r h).1
  obtain rfl | rfl | rfl : n = 1 ∨ n = 2 ∨ n = 3 := by omega
  · match R, hl with
    | [r], _ =>
      have := l1 r (by simp)
      match r, this with
      | [a], _ => exact .one (sm (r := [a]) (by simp) (by simp))
  · match R, hl with
    | [r, s], _ =>
      have h1 := l1 r (by simp)
      have h2 := l1 s (by simp)
      match r, s, h1, h2 with
      | [a, b], [c, d], _, _ => exact .two (sm (r := [a, b]) (by simp) (by simp)) (sm (r := [a, b]) (by simp) (by simp)) (sm (r := [c, d]) (by simp) (by simp)) (sm (r := [c, d]) (by simp) (by simp))
  · match R, hl with
    | [r, s, t], _ =>
      have h1 := l1 r (by simp)
      have h2 := l1 s (by simp)
      have h3 := l1 t (by simp)
      match r, s, t, h1, h2, h3 with
      | [a, b, c], [d, e, f], [g, h, i], _, _, _ =>
        exact .three (sm (r := [a, b, c]) (by simp) (by simp)) (sm (r := [a, b, c]) (by simp) (by simp)) (sm (r := [a, b, c]) (by simp) (by simp)) (sm (r := [d, e, f]) (by simp) (by simp)) (sm (r := [d, e, f]) (by simp) (by simp)) (sm (r := [d, e, f]) (by simp) (by simp))
          (sm (r := [g, h, i]) (by simp) (by simp)) (sm (r := [g, h, i]) (by simp) (by simp)) (sm (r := [g, h, i]) (by simp) (by simp))
theorem ok_of_sq {n : Nat} {m : Int} {y : Bool} {R : List (List Int)} (h : Sq n m R) (hn : 1 ≤ n) (hn3 : n ≤ 3) (hm : m ≤ 1000000) : okRows (rowsV y R) = true := by
  obtain ⟨hl, hr⟩ := h
  unfold okRows rowsV; dsimp only
  rw [List.length_map, hl]
  have : (R.map tupI).all (okRow n) = true := by
    rw [List.all_eq_true]
    intro x hx
    obtain ⟨r, hr', rfl⟩ := List.mem_map.mp hx
    obtain ⟨h1, h2⟩ := hr r hr'
    unfold okRow tupI; dsimp only
    rw [List.length_map, h1, decide_eq_true rfl, Bool.true_and, List.all_eq_true]
    intro x hx
    obtain ⟨i, hi, rfl⟩ := List.mem_map.mp hx
    have := h2 i hi
    simp [amongB]; omega
  rw [this]; simp [hn, hn3]
theorem lfs_map {α : Type} {f : α → PV} : ∀ {l : List α}, (∀ x ∈ l, PV.lf (f x) = true) → PV.lfs (l.map f) = true
  | [], _ => by simp [PV.lfs]
  | x :: l, h => by
    rw [List.map_cons]
    simp only [PV.lfs, Bool.and_eq_true]
    exact ⟨h x List.mem_cons_self, lfs_map fun y hy => h y (List.mem_cons_of_mem _ hy)⟩
theorem lfs_rows {R : List (List Int)} : PV.lfs (R.map tupI) = true := lfs_map fun r _ => by
  unfold tupI; simp only [PV.lf]
  exact lfs_map fun i _ => by simp only [PV.lf]
theorem ix6 {p0 p1 p2 p3 p4 p5 : PV} {i : Int} {y : Bool} : ∃ m, (m = p0 ∨ m = p1 ∨ m = p2 ∨ m = p3 ∨ m = p4 ∨ m = p5) ∧ ixV (.lst y [p0, p1, p2, p3, p4, p5]) (.int (i.fmod 6)) = .ok m := by
  obtain ⟨h1, h2⟩ := mod_lt (a := i) (b := 6) (by omega)
  have h : i.fmod 6 = 0 ∨ i.fmod 6 = 1 ∨ i.fmod 6 = 2 ∨ i.fmod 6 = 3 ∨ i.fmod 6 = 4 ∨ i.fmod 6 = 5 := by omega
  rcases h with h | h | h | h | h | h <;> rw [h]
  · exact ⟨p0, by simp, ixV_lst (n := 0) rfl⟩
  · exact ⟨p1, by simp, ixV_lst (n := 1) rfl⟩
  · exact ⟨p2, by simp, ixV_lst (n := 2) rfl⟩
  · exact ⟨p3, by simp, ixV_lst (n := 3) rfl⟩
  · exact ⟨p4, by simp, ixV_lst (n := 4) rfl⟩
  · exact ⟨p5, by simp, ixV_lst (n := 5) rfl⟩
theorem cut_m1 {α : Type} {xs : List α} : cutL xs none (some (-1)) = xs.dropLast := by
  unfold cutL
  have e : HT.sIx xs.length xs.length (some (-1)) = xs.length - 1 := by
    show (if (-1 : Int) < 0 then ((-1 : Int) + (xs.length : Int)).toNat else min (-1 : Int).toNat xs.length) = _
    rw [if_pos (by decide)]; omega
  rw [e, HT.sIx_none]
  simp [List.dropLast_eq_take]
theorem m1_rows {y : Bool} {R : List (List Int)} : slHiV (rowsV y R) (.int (-1)) = .ok (rowsV true R.dropLast) := by
  unfold slHiV slV rowsV; dsimp only; rw [cut_m1, List.map_dropLast]
/-- a whole number within bounds -/
def clampI (m x : Int) : Int := if (if x < m then x else m) > -m then (if x < m then x else m) else -m
theorem clamp_in {m x : Int} (h : 0 ≤ m) : -m ≤ clampI m x ∧ clampI m x ≤ m := by unfold clampI; split <;> split <;> omega
/-- over whole numbers in a row -/
theorem cm_rng {G : Gt} {ρ : Rho} {own tg : List Nat} {w : Bool} {elt : E} {n : Nat} (f : Nat → PV) (h : ∀ j, j < n → ((setT w tg (.int (j : Int)) (wipeS ρ own)).bind fun ρ1 => eE G ρ1 elt) = .ok (f j)) (hn : n ≤ 1000) :
    cm G ρ own tg w elt (rngL 0 n) = .ok (.lst true ((List.range n).map f)) := by
  rw [rng_list, cm_map (fun p => match p with | .int i => f i.toNat | _ => .non) (fun x hx => ?_) (sz _ (by simpa using hn)), List.map_map]
  · congr 2
  · obtain ⟨j, hj, rfl⟩ := List.mem_map.mp hx
    rw [h j (List.mem_range.mp hj)]
    simp
/-- over a list of things of one kind -/
theorem cm_of {α : Type} {G : Gt} {ρ : Rho} {own tg : List Nat} {w : Bool} {elt : E} {l : List α} (mk : α → PV) (f : α → PV) (inv : PV → α) (hi : ∀ a, inv (mk a) = a) (h : ∀ a ∈ l, ((setT w tg (mk a) (wipeS ρ own)).bind fun ρ1 => eE G ρ1 elt) = .ok (f a)) (hn : l.length ≤ 1000) :
    cm G ρ own tg w elt (l.map mk) = .ok (.lst true (l.map f)) := by
  rw [cm_map (fun p => f (inv p)) (fun x hx => ?_) (sz _ (by simpa using hn)), List.map_map]
  · congr 2
    exact List.map_congr_left fun a _ => by simp [hi]
  · obtain ⟨a, ha, rfl⟩ := List.mem_map.mp hx
    rw [h a ha, hi]
def invInt : PV → Int
  | .int i => i
  | _ => 0
def invTup : PV → List Int
  | .tup ts => ts.map invInt
  | _ => []
theorem invTup_tupI (r : List Int) : invTup (tupI r) = r := by
  unfold tupI invTup; dsimp only; rw [List.map_map]
  exact (List.map_congr_left fun _ _ => rfl).trans (List.map_id r)
theorem sumV_ints {l : List Int} {t : Bool} : sumV (.lst t (l.map PV.int)) = .ok (.int l.sum) := by unfold sumV; dsimp only; rw [ints_map]
end BO

namespace BO
open SG
/-! ### tables by their entries -/
def ent (R : List (List Int)) (k j : Nat) : Int := ((R[k]?.getD [])[j]?).getD 0
def tab (n : Nat) (f : Nat → Nat → Int) : List (List Int) := (List.range n).map fun k => (List.range n).map fun j => f k j
theorem tab_sq {n : Nat} {m : Int} {f : Nat → Nat → Int} (h : ∀ k j, k < n → j < n → -m ≤ f k j ∧ f k j ≤ m) : Sq n m (tab n f) := by
  refine ⟨by unfold tab; simp, fun r hr => ?_⟩
  obtain ⟨k, hk, rfl⟩ := List.mem_map.mp hr
  refine ⟨by simp, fun x hx => ?_⟩
  obtain ⟨j, hj, rfl⟩ := List.mem_map.mp hx
  exact h k j (List.mem_range.mp hk) (List.mem_range.mp hj)
section
variable {n : Nat} {m : Int} {R : List (List Int)} (h : Sq n m R) {k j : Nat} (hk : k < n) (hj : j < n)
include h hk
theorem row_at {t : Bool} : ixV (.lst t (R.map tupI)) (.int (k : Int)) = .ok (tupI (R[k]?.getD [])) := by
  have hl : k < R.length := by rw [h.1]; exact hk
  exact ixV_lst (by rw [List.getElem?_map, List.getElem?_eq_getElem hl]; rfl)
theorem row_mem : R[k]?.getD [] ∈ R := by
  have hl : k < R.length := by rw [h.1]; exact hk
  rw [List.getElem?_eq_getElem hl]; exact List.getElem_mem hl
include hj
theorem ent_at : ixV (tupI (R[k]?.getD [])) (.int (j : Int)) = .ok (.int (ent R k j)) := by
  have hl := (h.2 _ (row_mem h hk)).1
  unfold ent tupI
  refine ixV_tup ?_
  rw [List.getElem?_map, List.getElem?_eq_getElem (by omega)]; rfl
theorem ent_in : -m ≤ ent R k j ∧ ent R k j ≤ m := by
  have hr := h.2 _ (row_mem h hk)
  have hl : j < (R[k]?.getD []).length := by rw [hr.1]; exact hj
  unfold ent
  rw [List.getElem?_eq_getElem hl]
  exact hr.2 _ (List.getElem_mem hl)
end
/-- a table that a comprehension within one makes -/
theorem cm_tab {G : Gt} {ρ : Rho} {own tg own2 tg2 : List Nat} {w w2 : Bool} {it : It} {elt : E} {n : Nat} (f : Nat → Nat → Int) (hn : n ≤ 1000)
    (h : ∀ k, k < n → ∃ ρ1, setT w tg (.int (k : Int)) (wipeS ρ own) = .ok ρ1 ∧ eI G ρ1 it = .ok (rngL 0 n) ∧ ∀ j, j < n → ((setT w2 tg2 (.int (j : Int)) (wipeS ρ1 own2)).bind fun ρ2 => eE G ρ2 elt) = .ok (.int (f k j))) :
    cm G ρ own tg w (.bi .tuple (.cons (.comp own2 tg2 w2 it elt) .nil)) (rngL 0 n) = .ok (.lst true ((tab n f).map tupI)) := by
  unfold tab
  rw [List.map_map]
  refine cm_rng _ (fun k hk => ?_) hn
  obtain ⟨ρ1, h1, h2, h3⟩ := h k hk
  have hc := cm_rng (G := G) (ρ := ρ1) (own := own2) (tg := tg2) (w := w2) (elt := elt) (fun j => .int (f k j)) h3 hn
  rw [h1, Rs.ok_bind]
  simp [h2, hc]
  simp [tupI]
end BO

namespace BO
open SG
def lr3 : S := .iff [] (.cmp .eq (.var 11) (.int 1)) (.cons (.asgM [] 9 (.comp [4, 6] [6] true (.rng1 (.var 2)) (.bi .tuple (.cons (.comp [4, 5] [5] true (.rng1 (.var 2)) (.op .mul (.ix (.ixv 9 (.var 6)) (.var 5)) (.bi .int (.cons (.cmp .ge (.var 5) (.var 6)) .nil)))) .nil)))) .nil) .nil
def lr4 : S := .iff [] (.and (.cmp .eq (.var 11) (.int 2)) (.cmp .gt (.var 2) (.int 1))) (.cons (.asg [] 10 (.op .add (.int 1) (.op .mod (.op .fdiv (.call "_law_cell" (.cons (.var 0) (.cons (.var 1) .nil))) (.int 5)) (.int 3)))) (.cons (.setI [] 9 (.int 0) (.bi .tuple (.cons (.comp [4, 5] [5] true (.rng1 (.var 2)) (.bi .max (.cons (.neg (.var 3)) (.cons (.bi .min (.cons (.var 3) (.cons (.op .add (.op .mul (.ix (.ixv 9 (.int 1)) (.var 5)) (.var 10)) (.op .mod (.ix (.ixv 9 (.int 0)) (.var 5)) (.int 3))) .nil))) .nil)))) .nil))) .nil)) .nil
def lr5 : S := .iff [9] (.cmp .eq (.call "_law_bulk" (.cons (.var 9) .nil)) (.int 0)) (.cons (.asgM [] 9 (.comp [4, 6] [6] true (.rng1 (.var 2)) (.bi .tuple (.cons (.comp [4, 5] [5] true (.rng1 (.var 2)) (.op .mul (.bi .int (.cons (.cmp .eq (.var 5) (.var 6)) .nil)) (.op .add (.int 1) (.bi .abs (.cons (.ix (.ixv 9 (.var 6)) (.var 5)) .nil))))) .nil)))) (.cons (.asgM [9] 9 (.comp [4, 8] [8] true (.val (.var 9)) (.bi .tuple (.cons (.comp [4, 7] [7] true (.val (.var 8)) (.bi .min (.cons (.var 3) (.cons (.var 7) .nil)))) .nil)))) .nil)) .nil
theorem rows_body : b__law_rows = .cons (.asgM [] 9 (.call "_law_drawn" (.cons (.var 0) (.cons (.var 1) (.cons (.var 2) (.cons (.var 3) .nil)))))) (.cons (.asg [] 11 (.op .mod (.call "_law_cell" (.cons (.var 0) (.cons (.var 1) .nil))) (.int 5))) (.cons lr3 (.cons lr4 (.cons lr5 (.cons (.ret [9] (.var 9)) .nil))))) := rfl
theorem own_rows {R : List (List Int)} : ownOr true (.lst true (R.map tupI)) = .own (R.map tupI) := by unfold ownOr; dsimp only; rw [lfs_rows]; rfl
theorem rng_n {n : Nat} (h : n ≤ 1000) : rng1V (.int (n : Int)) = .ok (rngL 0 n) := by
  have i6 : i62 (n : Int) := by unfold i62; omega
  rw [rng1V_int i6, Int.toNat_natCast]
theorem ix_zero {m : Nat} (h : 0 < m) : L2.ixN m 0 = some 0 := by unfold L2.ixN; simp; omega
section
variable {G : Gt} {nm : Nm} {ns : List Int} {f most w : Int} {n : Nat} {R : List (List Int)}
theorem lr3_ok (h : Sq n most R) (hn : n ≤ 3) (hm : 1 ≤ most) (hm2 : most ≤ 1000000) : ∃ R', Sq n most R' ∧ eS G nm [.fz (.scr ns), .fz (.int f), .fz (.int (n : Int)), .fz (.int most), .no, .no, .no, .no, .no, .own (R.map tupI), .no, .fz (.int w)] lr3
    = .nx [.fz (.scr ns), .fz (.int f), .fz (.int (n : Int)), .fz (.int most), .no, .no, .no, .no, .no, .own (R'.map tupI), .no, .fz (.int w)] := by
  unfold lr3
  by_cases q : w = 1
  · subst q
    have hc : cm G [.fz (.scr ns), .fz (.int f), .fz (.int (n : Int)), .fz (.int most), .no, .no, .no, .no, .no, .own (R.map tupI), .no, .fz (.int 1)] [4, 6] [6] true (.bi .tuple (.cons (.comp [4, 5] [5] true (.rng1 (.var 2)) (.op .mul (.ix (.ixv 9 (.var 6)) (.var 5)) (.bi .int (.cons (.cmp .ge (.var 5) (.var 6)) .nil)))) .nil)) (rngL 0 n)
        = .ok (.lst true ((tab n fun k j => ent R k j * if k ≤ j then 1 else 0).map tupI)) := by
      refine cm_tab _ (by omega) fun k hk => ⟨[.fz (.scr ns), .fz (.int f), .fz (.int (n : Int)), .fz (.int most), .no, .no, .fz (.int (k : Int)), .no, .no, .own (R.map tupI), .no, .fz (.int 1)], rfl, by simp [rng_n (show n ≤ 1000 by omega)], fun j hj => ?_⟩
      have e1 := row_at h hk (t := true)
      have e2 := ent_at h hk hj
      have e3 := ent_in h hk hj
      have sm : (ent R k j).natAbs < 18446744073709551616 := by omega
      simp [wipeS, setT, e1, e2, mulV_l sm]
    refine ⟨tab n fun k j => ent R k j * if k ≤ j then 1 else 0, tab_sq fun k j hk hj => ?_, ?_⟩
    · have e3 := ent_in h hk hj
      by_cases q : k ≤ j
      · rw [if_pos q]; omega
      · rw [if_neg q]; omega
    · simp [rng_n (show n ≤ 1000 by omega), hc, E.mk, own_rows]
  · exact ⟨R, h, by simp [q]⟩

theorem lr4_ok {B : PySem.Str → Option FI} {nm' : Nm} (kn : Kn B) {l : Nat} (h : Sq n most R) (hn : n ≤ 3) (hm : 1 ≤ most) (hm2 : most ≤ 1000000) (hf : 0 ≤ f) : ∃ (R' : List (List Int)) (s10 : Sl), Sq n most R' ∧ eS (callF B nm' (l + 1)) nm [.fz (.scr ns), .fz (.int f), .fz (.int (n : Int)), .fz (.int most), .no, .no, .no, .no, .no, .own (R.map tupI), .no, .fz (.int w)] lr4
    = .nx [.fz (.scr ns), .fz (.int f), .fz (.int (n : Int)), .fz (.int most), .no, .no, .no, .no, .no, .own (R'.map tupI), s10, .fz (.int w)] := by
  unfold lr4
  by_cases q : w = 2
  · subst q
    by_cases q2 : 1 < n
    · have q2' : (1 : Int) < (n : Int) := by omega
      have c := cellZ kn (nm := nm') (l := l) (ns := ns) hf
      have tb := mod_lt (a := (cellI ns f.toNat).fdiv 5) (b := 3) (by decide)
      obtain ⟨T, hT⟩ : ∃ T, T = 1 + ((cellI ns f.toNat).fdiv 5).fmod 3 := ⟨_, rfl⟩
      have hc : cm (callF B nm' (l + 1)) [.fz (.scr ns), .fz (.int f), .fz (.int (n : Int)), .fz (.int most), .no, .no, .no, .no, .no, .own (R.map tupI), .fz (.int T), .fz (.int 2)] [4, 5] [5] true (.bi .max (.cons (.neg (.var 3)) (.cons (.bi .min (.cons (.var 3) (.cons (.op .add (.op .mul (.ix (.ixv 9 (.int 1)) (.var 5)) (.var 10)) (.op .mod (.ix (.ixv 9 (.int 0)) (.var 5)) (.int 3))) .nil))) .nil))) (rngL 0 n)
          = .ok (.lst true ((List.range n).map fun j => .int (clampI most (ent R 1 j * T + (ent R 0 j).fmod 3)))) := by
        refine cm_rng _ (fun j hj => ?_) (by omega)
        have a1 := row_at h (show 1 < n from q2) (t := true)
        have a0 := row_at h (show 0 < n by omega) (t := true)
        have b1 := ent_at h (show 1 < n from q2) hj
        have b0 := ent_at h (show 0 < n by omega) hj
        have e3 := ent_in h (show 1 < n from q2) hj
        have sm : (ent R 1 j).natAbs < 18446744073709551616 := by omega
        simp at a1 a0
        simp [wipeS, setT, a1, a0, b1, b0, mulV_l sm, modV_int, clampI]
      have hr : ((List.range n).map fun j => PV.int (clampI most (ent R 1 j * T + (ent R 0 j).fmod 3))) = ((List.range n).map fun j => clampI most (ent R 1 j * T + (ent R 0 j).fmod 3)).map PV.int := by rw [List.map_map]; rfl
      have ht : tupleV (.lst true ((List.range n).map fun j => PV.int (clampI most (ent R 1 j * T + (ent R 0 j).fmod 3)))) = .ok (tupI ((List.range n).map fun j => clampI most (ent R 1 j * T + (ent R 0 j).fmod 3))) := by rw [hr]; rfl
      have hset : setIV (R.map tupI) (tupI ((List.range n).map fun j => clampI most (ent R 1 j * T + (ent R 0 j).fmod 3))) (.int 0) = .ok ((R.set 0 ((List.range n).map fun j => clampI most (ent R 1 j * T + (ent R 0 j).fmod 3))).map tupI) := by
        unfold setIV; dsimp only
        have hl := h.1
        have e : L2.ixN (R.map tupI).length 0 = some 0 := ix_zero (by rw [List.length_map]; omega)
        rw [e, List.map_set]
      refine ⟨R.set 0 ((List.range n).map fun j => clampI most (ent R 1 j * T + (ent R 0 j).fmod 3)), .fz (.int T), ⟨by rw [List.length_set]; exact h.1, fun r hr => ?_⟩, ?_⟩
      · rcases List.mem_or_eq_of_mem_set hr with z | z
        · exact h.2 r z
        · subst z
          refine ⟨by simp, fun x hx => ?_⟩
          obtain ⟨j, _, rfl⟩ := List.mem_map.mp hx
          exact clamp_in (by omega)
      · simp [q2', c, fdivV_l, modV_int, ← hT, rng_n (show n ≤ 1000 by omega), hc, ht, hset, -List.map_set, -List.map_map]
    · have q2' : ¬ (1 : Int) < (n : Int) := by omega
      exact ⟨R, .no, h, by simp [q2']⟩
  · exact ⟨R, .no, h, by simp [q]⟩

def mn (m x : Int) : Int := if x < m then x else m
def f1 (R : List (List Int)) (k j : Nat) : Int := (if j = k then 1 else 0) * (1 + if ent R k j < 0 then -ent R k j else ent R k j)
theorem tab_map {n : Nat} {f : Nat → Nat → Int} {g : Int → Int} : (tab n f).map (List.map g) = tab n fun k j => g (f k j) := by
  unfold tab; rw [List.map_map]
  refine List.map_congr_left fun k _ => ?_
  show List.map g (List.map _ _) = _
  rw [List.map_map]; rfl
theorem diag_ne {d : Nat → Nat → Int} (hn : 1 ≤ n) (hn3 : n ≤ 3) (h1 : ∀ k, 1 ≤ d k k) (h0 : ∀ k j, j ≠ k → d k j = 0) : blk (tab n d) ≠ 0 := by
  obtain rfl | rfl | rfl : n = 1 ∨ n = 2 ∨ n = 3 := by omega
  · show d 0 0 * 1 ≠ 0
    have := h1 0; omega
  · show d 0 0 * d 1 1 + d 0 1 * -d 1 0 ≠ 0
    rw [h0 0 1 (by decide), Int.zero_mul, Int.add_zero]
    exact Int.mul_ne_zero (by have := h1 0; omega) (by have := h1 1; omega)
  · show d 0 0 * (d 1 1 * d 2 2 - d 1 2 * d 2 1) + (d 0 1 * (d 1 2 * d 2 0 - d 1 0 * d 2 2) + d 0 2 * (d 1 0 * d 2 1 - d 1 1 * d 2 0)) ≠ 0
    rw [h0 0 1 (by decide), h0 0 2 (by decide), h0 1 2 (by decide)]
    rw [Int.zero_mul, Int.zero_mul, Int.zero_mul, Int.sub_zero, Int.add_zero, Int.add_zero]
    exact Int.mul_ne_zero (by have := h1 0; omega) (Int.mul_ne_zero (by have := h1 1; omega) (by have := h1 2; omega))
theorem lr5_ok {B : PySem.Str → Option FI} {nm' : Nm} (kn : Kn B) {l : Nat} {s10 : Sl} (h : Sq n most R) (hn1 : 1 ≤ n) (hn : n ≤ 3) (hm : 1 ≤ most) (hm2 : most ≤ 1000000) : ∃ (R' : List (List Int)) (s9 : Sl), Sq n most R' ∧ blk R' ≠ 0 ∧ (s9 = .own (R'.map tupI)) ∧
    eS (callF B nm' (l + 4)) nm [.fz (.scr ns), .fz (.int f), .fz (.int (n : Int)), .fz (.int most), .no, .no, .no, .no, .no, .own (R.map tupI), s10, .fz (.int w)] lr5
    = .nx [.fz (.scr ns), .fz (.int f), .fz (.int (n : Int)), .fz (.int most), .no, .no, .no, .no, .no, s9, s10, .fz (.int w)] := by
  have lb := law_bulk kn (nm := nm') (l := l) (y := true) (sh_of_sq h hn1 hn (by omega))
  unfold rowsV at lb
  unfold lr5
  by_cases q : blk R = 0
  · rw [q] at lb
    have hc : cm (callF B nm' (l + 4)) [.fz (.scr ns), .fz (.int f), .fz (.int (n : Int)), .fz (.int most), .no, .no, .no, .no, .no, .own (R.map tupI), s10, .fz (.int w)] [4, 6] [6] true (.bi .tuple (.cons (.comp [4, 5] [5] true (.rng1 (.var 2)) (.op .mul (.bi .int (.cons (.cmp .eq (.var 5) (.var 6)) .nil)) (.op .add (.int 1) (.bi .abs (.cons (.ix (.ixv 9 (.var 6)) (.var 5)) .nil))))) .nil)) (rngL 0 n)
        = .ok (.lst true ((tab n (f1 R)).map tupI)) := by
      refine cm_tab _ (by omega) fun k hk => ⟨[.fz (.scr ns), .fz (.int f), .fz (.int (n : Int)), .fz (.int most), .no, .no, .fz (.int (k : Int)), .no, .no, .own (R.map tupI), s10, .fz (.int w)], rfl, by simp [rng_n (show n ≤ 1000 by omega)], fun j hj => ?_⟩
      have e1 := row_at h hk (t := true)
      have e2 := ent_at h hk hj
      have sm : ((if j = k then 1 else 0 : Int)).natAbs < 18446744073709551616 := by split <;> decide
      have e4 : ((j : Int) = (k : Int)) = (j = k) := propext ⟨fun z => by omega, fun z => by omega⟩
      simp [wipeS, setT, e1, e2, e4, mulV_l sm, f1]
    have hc2 : cm (callF B nm' (l + 4)) [.fz (.scr ns), .fz (.int f), .fz (.int (n : Int)), .fz (.int most), .no, .no, .no, .no, .no, .fz (.lst true ((tab n (f1 R)).map tupI)), s10, .fz (.int w)] [4, 8] [8] true (.bi .tuple (.cons (.comp [4, 7] [7] true (.val (.var 8)) (.bi .min (.cons (.var 3) (.cons (.var 7) .nil)))) .nil)) ((tab n (f1 R)).map tupI)
        = .ok (.lst true ((tab n fun k j => mn most (f1 R k j)).map tupI)) := by
      rw [← tab_map, List.map_map]
      refine cm_of tupI _ invTup invTup_tupI (fun r hr => ?_) (by unfold tab; simp; omega)
      have hl : r.length ≤ 1000 := by
        obtain ⟨k, _, rfl⟩ := List.mem_map.mp hr
        simp; omega
      have hi := cm_of (G := callF B nm' (l + 4)) (ρ := [.fz (.scr ns), .fz (.int f), .fz (.int (n : Int)), .fz (.int most), .no, .no, .no, .no, .fz (tupI r), .fz (.lst true ((tab n (f1 R)).map tupI)), s10, .fz (.int w)]) (own := [4, 7]) (tg := [7]) (w := true) (elt := .bi .min (.cons (.var 3) (.cons (.var 7) .nil))) (l := r) PV.int (fun x => .int (mn most x)) invInt (fun _ => rfl) (fun x _ => by simp [wipeS, setT, mn]) hl
      have it : itemsV (tupI r) = .ok (r.map PV.int) := rfl
      simp [wipeS, setT, it, hi, -List.map_map]
      simp [tupI]
    refine ⟨tab n fun k j => mn most (f1 R k j), .own ((tab n fun k j => mn most (f1 R k j)).map tupI), tab_sq fun k j hk hj => ?_, diag_ne hn1 hn (fun k => ?_) (fun k j z => ?_), rfl, ?_⟩
    · have e3 := ent_in h hk hj
      unfold mn f1
      by_cases z : j = k
      · rw [if_pos z, Int.one_mul]; split <;> split <;> omega
      · rw [if_neg z, Int.zero_mul]; split <;> omega
    · unfold mn f1; rw [if_pos rfl, Int.one_mul]; split <;> split <;> omega
    · unfold mn f1; rw [if_neg z, Int.zero_mul]; split <;> omega
    · simp [lb, rng_n (show n ≤ 1000 by omega), hc, E.mk, own_rows, hc2, -List.map_map]
  · exact ⟨R, .own (R.map tupI), h, q, rfl, by simp [lb, q]⟩
end
end BO

namespace BO
open SG
section
variable {B : PySem.Str → Option FI} {nm : Nm} (kn : Kn B)
include kn
/-- rows with a bulk -/
theorem law_rows (hB : B "_law_rows" = some fi__law_rows) {l n : Nat} {ns : List Int} {f most : Int} (hf : 0 ≤ f) (hf2 : f ≤ 500) (hm : 1 ≤ most) (hm2 : most ≤ 1000000) (hn1 : 1 ≤ n) (hn : n ≤ 3) :
    ∃ R, callF B nm (l + 5) "_law_rows" [.scr ns, .int f, .int (n : Int), .int most] = .ok (rowsV true R) ∧ Sq n most R ∧ blk R ≠ 0 := by
  obtain ⟨R, hR, sq⟩ := drawn kn (nm := nm) (l := l + 1) (ns := ns) (f := f) (most := most) (n := n) hf hf2 (by omega) (by omega)
  have c := cellZ kn (nm := nm) (l := l + 3) (ns := ns) hf
  obtain ⟨R3, sq3, e3⟩ := lr3_ok (G := callF B nm (l + 4)) (nm := nmAt nm (l + 4)) (ns := ns) (f := f) (w := (cellI ns f.toNat).fmod 5) sq hn hm hm2
  obtain ⟨R4, s10, sq4, e4⟩ := lr4_ok (nm := nmAt nm (l + 4)) (ns := ns) (f := f) (w := (cellI ns f.toNat).fmod 5) (nm' := nm) kn (l := l + 3) sq3 hn hm hm2 hf
  obtain ⟨R5, s9, sq5, hb, hs, e5⟩ := lr5_ok (nm := nmAt nm (l + 4)) (ns := ns) (f := f) (w := (cellI ns f.toNat).fmod 5) (nm' := nm) kn (l := l) (s10 := s10) sq4 hn1 hn hm hm2
  refine ⟨R5, ?_, sq5, hb⟩
  rw [callF_eq hB]
  refine runF_ret rfl ?_
  have e0 : startR 12 (PV.olds [.scr ns, .int f, .int (n : Int), .int most]) = [.fz (.scr ns), .fz (.int f), .fz (.int (n : Int)), .fz (.int most), .no, .no, .no, .no, .no, .no, .no, .no] := by simp [olds_cons, olds_nil, PV.old, startR]
  rw [e0, rows_body]
  refine stage (ρ' := [.fz (.scr ns), .fz (.int f), .fz (.int (n : Int)), .fz (.int most), .no, .no, .no, .no, .no, .own (R.map tupI), .no, .no]) ?_ ?_
  · unfold rowsV at hR
    simp [hR, E.mk, own_rows]
  refine stage (ρ' := [.fz (.scr ns), .fz (.int f), .fz (.int (n : Int)), .fz (.int most), .no, .no, .no, .no, .no, .own (R.map tupI), .no, .fz (.int ((cellI ns f.toNat).fmod 5))]) (by simp [c, modV_int]) ?_
  refine stage e3 (stage e4 (stage e5 (stop ?_)))
  subst hs; simp [rowsV]
/-- the program's own look at rows -/
theorem need_rows (hB : B "need_rows" = some fi_need_rows) {l : Nat} {v : PV} (h : good v) (hb : okRows v = false) : callF B nm (l + 5) "need_rows" [v] = .err "BadRows" := by
  rw [callF_eq hB]
  have g := good_old h
  have n := need_lists kn (nm := nm) (l := l) (v := v.old) g.1 g.2
  rw [okRows_old, hb] at n
  simp at n
  unfold runF fi_need_rows b_need_rows
  simp [olds_cons, olds_nil, startR, n]
theorem need_rows_sq (hB : B "need_rows" = some fi_need_rows) {l n : Nat} {y : Bool} {m : Int} {R : List (List Int)} (h : Sq n m R) (hn1 : 1 ≤ n) (hn : n ≤ 3) (hm : m ≤ 1000000) : callF B nm (l + 5) "need_rows" [rowsV y R] = if blk R = 0 then .err "BadRows" else .ok .non := by
  rw [callF_eq hB]
  have g := good_rows (y := false) (R := R) fun r hr => by rw [(h.2 r hr).1]; omega
  have nl := need_lists kn (nm := nm) (l := l) (v := rowsV false R) g.1 g.2
  rw [ok_of_sq h hn1 hn hm] at nl
  have bo := bulk_of kn (nm := nm) (l := l + 1) (y := false) (sh_of_sq h hn1 hn (by omega))
  simp at nl
  unfold runF fi_need_rows b_need_rows
  by_cases q : blk R = 0 <;> simp [olds_cons, olds_nil, startR, old_rows, nl, bo, q]
end
end BO

namespace BO
open SG
/-- a sum of rows by weights, place by place -/
def comb (n : Nat) (W : List Int) (R : List (List Int)) : List Int := (List.range n).map fun j => ((W.zip R).map fun p => p.1 * (p.2[j]?.getD 0)).sum
theorem zip_wr : ∀ {W : List Int} {R : List (List Int)}, zipL (W.map PV.int) (R.map tupI) = (W.zip R).map fun p => .tup [.int p.1, tupI p.2]
  | [], _ => by simp [zipL]
  | _ :: _, [] => by simp [zipL]
  | x :: a, y :: b => by simp only [List.map_cons, zipL, List.zip_cons_cons]; rw [zip_wr]
def invWr : PV → Int × List Int
  | .tup [.int x, r] => (x, invTup r)
  | _ => (0, [])
def sumIn : Ss := .cons (.app [] 3 (.bi .sum (.cons (.comp [2, 6, 5] [6, 5] false (.zip (.var 1) (.var 0)) (.op .mul (.var 6) (.ixv 5 (.var 4)))) .nil))) .nil
def cj (W : List Int) (R : List (List Int)) (j : Nat) : Int := ((W.zip R).map fun p => p.1 * (p.2[j]?.getD 0)).sum
section
variable {B : PySem.Str → Option FI} {nm : Nm}
theorem sum_loop {G : Gt} {nm' : Nm} {n : Nat} {m : Int} {W : List Int} {R : List (List Int)} {y t : Bool} (h : Sq n m R) (hm : m ≤ 1000000) (hn : n ≤ 3) : ∀ (c j : Nat) (X : List Int) (s : Sl), j + c = n → X.length + c ≤ 100 →
    ∃ s', fl G nm' [4] true sumIn (rngL (j : Int) c) [.fz (rowsV y R), .fz (.lst t (W.map PV.int)), .no, .own (X.map PV.int), s, .no, .no] = .nx [.fz (rowsV y R), .fz (.lst t (W.map PV.int)), .no, .own ((X ++ (List.range' j c).map (cj W R)).map PV.int), s', .no, .no] := by
  intro c
  induction c with
  | zero => intro j X s _ _; exact ⟨s, by rw [rng_zero]; simp⟩
  | succ c ih =>
    intro j X s hj hX
    obtain ⟨s', e⟩ := ih (j + 1) (X ++ [cj W R j]) (.fz (.int (j : Int))) (by omega) (by simp; omega)
    refine ⟨s', ?_⟩
    rw [rng_succ, show (j : Int) + 1 = ((j + 1 : Nat) : Int) by omega]
    refine fl_end rfl ?_ (e.trans (by rw [List.range'_succ]; simp))
    have hz : zipV (.lst t (W.map PV.int)) (rowsV y R) = .ok ((W.zip R).map fun p => .tup [.int p.1, tupI p.2]) := by unfold rowsV; rw [zipV_lst, zip_wr]
    have hc : cm G [.fz (rowsV y R), .fz (.lst t (W.map PV.int)), .no, .own (X.map PV.int), .fz (.int (j : Int)), .no, .no] [2, 6, 5] [6, 5] false (.op .mul (.var 6) (.ixv 5 (.var 4))) ((W.zip R).map fun p => .tup [.int p.1, tupI p.2]) = .ok (.lst true (((W.zip R).map fun p => p.1 * (p.2[j]?.getD 0)).map PV.int)) := by
      rw [List.map_map]
      refine cm_of (fun p : Int × List Int => PV.tup [.int p.1, tupI p.2]) _ invWr (fun p => by show (p.1, invTup (tupI p.2)) = p; rw [invTup_tupI]) (fun p hp => ?_) (by have := h.1; simp; omega)
      have hr := h.2 p.2 (List.of_mem_zip hp).2
      have hjl : j < p.2.length := by rw [hr.1]; omega
      have x : ixV (tupI p.2) (.int (j : Int)) = .ok (.int (p.2[j]?.getD 0)) := by
        unfold tupI
        exact ixV_tup (by rw [List.getElem?_map, List.getElem?_eq_getElem hjl]; rfl)
      have b : -m ≤ p.2[j]?.getD 0 ∧ p.2[j]?.getD 0 ≤ m := by rw [List.getElem?_eq_getElem hjl]; exact hr.2 _ (List.getElem_mem hjl)
      have sm : (p.2[j]?.getD 0).natAbs < 18446744073709551616 := by omega
      simp [wipeS, setT, x, mulV_r sm]
    have ll : X.length < PySem.sizeLine := lt_line (by omega)
    unfold sumIn
    simp [hz, hc, sumV_ints, ll, cj, -List.map_map]
theorem sum_of (hB : B "sum_of" = some fi_sum_of) {l n : Nat} {m : Int} {W : List Int} {R : List (List Int)} {y t : Bool} (h : Sq n m R) (hm : m ≤ 1000000) (hn1 : 1 ≤ n) (hn : n ≤ 3) :
    callF B nm (l + 1) "sum_of" [rowsV y R, .lst t (W.map PV.int)] = .ok (tupI ((List.range n).map (cj W R))) := by
  rw [callF_eq hB]
  refine runF_ret rfl ?_
  have e0 : startR 7 (PV.olds [rowsV y R, .lst t (W.map PV.int)]) = [.fz (rowsV false R), .fz (.lst false (W.map PV.int)), .no, .no, .no, .no, .no] := by simp [olds_cons, olds_nil, old_rows, PV.old, startR, old_ints]
  have hb : b_sum_of = .cons (.asgM [] 3 (.lst .nil)) (.cons (.for [] [4] true (.rng1 (.bi .len (.cons (.ixv 0 (.int 0)) .nil))) sumIn) (.cons (.ret [3] (.bi .tuple (.cons (.var 3) .nil))) .nil)) := rfl
  rw [e0, hb]
  obtain ⟨s', e⟩ := sum_loop (G := callF B nm l) (nm' := nmAt nm l) (W := W) (y := false) (t := false) h hm hn n 0 [] .no (by omega) (by simp; omega)
  have x0 : ixV (rowsV false R) (.int 0) = .ok (tupI (R[0]?.getD [])) := row_at h (k := 0) (by omega)
  have xl : lenV (tupI (R[0]?.getD [])) = .ok (.int (n : Int)) := by
    unfold tupI; rw [lenV_tup, List.length_map, (h.2 _ (row_mem h (k := 0) (by omega))).1]
  refine stage (ρ' := [.fz (rowsV false R), .fz (.lst false (W.map PV.int)), .no, .own [], .no, .no, .no]) (by simp [ownOr, PV.lfs, E.mk]) ?_
  refine stage (ρ' := [.fz (rowsV false R), .fz (.lst false (W.map PV.int)), .no, .own (((List.range n).map (cj W R)).map PV.int), s', .no, .no]) ?_ ?_
  · simp only [List.map_nil, List.nil_append, ← List.range_eq_range'] at e
    simp [x0, xl, rng_n (show n ≤ 1000 by omega)]
    simpa using e
  · refine stop ?_
    simp [tupI]
end
end BO

namespace BO
open SG
section
variable {B : PySem.Str → Option FI} {nm : Nm} (kn : Kn B)
include kn
/-- a tuple of whole numbers -/
theorem law_tuple (hB : B "_law_tuple" = some ⟨2, 4, .cons (.iff [] (.or (.not (.isi (.var 0) "tuple")) (.cmp .ne (.bi .len (.cons (.var 0) .nil)) (.var 1))) (.cons (.ret [] (.bl false)) .nil) .nil) (.cons (.ret [] (.cmp .eq (.compIf [2, 3] [3] true (.val (.var 0)) (.not (.call "_law_whole" (.cons (.var 3) .nil))) (.var 3)) (.lst .nil))) .nil)⟩) {l : Nat} {r : List Int} (hl : r.length ≤ 1000) :
    callF B nm (l + 2) "_law_tuple" [tupI r, .int (r.length : Int)] = .ok (.bl true) := by
  rw [callF_eq hB]
  refine runF_ret rfl ?_
  have e0 : startR 4 (PV.olds [tupI r, .int (r.length : Int)]) = [.fz (tupI r), .fz (.int (r.length : Int)), .no, .no] := by simp [olds_cons, olds_nil, old_tupI, PV.old, startR]
  rw [e0]
  have hc : cmIf (callF B nm (l + 1)) [.fz (tupI r), .fz (.int (r.length : Int)), .no, .no] [2, 3] [3] true (.not (.call "_law_whole" (.cons (.var 3) .nil))) (.var 3) (r.map PV.int) = .ok (.lst true []) := by
    have := cmIf_map (G := callF B nm (l + 1)) (ρ := [.fz (tupI r), .fz (.int (r.length : Int)), .no, .no]) (own := [2, 3]) (tg := [3]) (w := true) (cc := .not (.call "_law_whole" (.cons (.var 3) .nil))) (elt := .var 3) (xs := r.map PV.int) (fun _ => false) (fun x => x) (fun x hx => by
      obtain ⟨i, _, rfl⟩ := List.mem_map.mp hx
      have lw := lwhole kn (nm := nm) (l := l) (i := i)
      simp [wipeS, setT, lw]) (fun x _ h => by cases h) (sz _ (by simpa using hl))
    exact this.trans (by simp)
  have t1 : isiV "tuple" (tupI r) = .ok (.bl true) := by unfold tupI; simp
  have t2 : lenV (tupI r) = .ok (.int (r.length : Int)) := by unfold tupI; simp
  have t3 : itemsV (tupI r) = .ok (r.map PV.int) := rfl
  have t4 : eqV' (.lst true []) (.lst true []) = .ok (.bl true) := eqV_nil (n := 1) (Lv.lst (n := 0) fun x hx => by cases hx) (by decide)
  simp [t1, t2, t3, hc, t4]
/-- a step's square -/
theorem square (hB : B "square" = some fi_square) {l : Nat} {r : List Int} (h : ∀ x ∈ r, Sm x) (hl : r.length ≤ 1000) : callF B nm (l + 2) "square" [tupI r] = .ok (.int (dot r r)) := by
  rw [callF_eq hB]
  refine runF_ret rfl ?_
  have e0 : startR 1 (PV.olds [tupI r]) = [.fz (tupI r)] := by simp [olds_cons, olds_nil, old_tupI, startR]
  rw [e0]
  have i := inner kn (nm := nm) (l := l) (a := r) (b := r) (.inl h) hl
  unfold b_square
  simp [i]
end
end BO

namespace BO
open SG
open PySem in
mutual
theorem eqv_refl : ∀ {d : PyData}, d.canLay0 = true → PyData.eqv d d = true
  | .none, _ => by simp only [PyData.eqv]
  | .bool b, _ => by simp [PyData.eqv]
  | .int i, _ => by simp [PyData.eqv]
  | .str x, _ => by simp [PyData.eqv]
  | .list xs, h => by
    simp only [PyData.eqv]
    exact eqvAll_refl (by simpa [PyData.canLay0] using h)
  | .tuple xs, h => by
    simp only [PyData.eqv]
    exact eqvAll_refl (by simpa [PyData.canLay0] using h)
  | .dict _, h => by simp [PyData.canLay0] at h
theorem eqvAll_refl : ∀ {xs : List PyData}, PyData.canLayAll0 xs = true → PyData.eqvAll xs xs = true
  | [], _ => by simp only [PyData.eqvAll]
  | x :: xs, h => by
    have h' : x.canLay0 = true ∧ PyData.canLayAll0 xs = true := by simpa [PyData.canLayAll0] using h
    simp only [PyData.eqvAll, eqv_refl h'.1, eqvAll_refl h'.2, Bool.and_self]
end
/-- a value and one of the same content -/
theorem eqV_same {n : Nat} {p q : PV} (h : Lv n p) (hn : n ≤ 64) (e : p.toD = q.toD) : eqV' p q = .ok (.bl true) ∧ neV' p q = .ok (.bl false) := by
  have hq : Lv n q := ⟨by rw [← e]; exact h.lay, by rw [← e]; exact h.dep⟩
  unfold eqV' neV' eqP
  rw [Rs.when_pos ⟨h.ok hn, hq.ok hn⟩, Rs.when_pos ⟨h.ok hn, hq.ok hn⟩, ← e, eqv_refl h.lay]
  exact ⟨rfl, rfl⟩
/-- rows with noughts at the head -/
theorem blk_zero {n : Nat} {m : Int} {R : List (List Int)} (h : Sq n m R) (hn1 : 1 ≤ n) (hn : n ≤ 3) : blk (List.replicate n 0 :: R.tail) = 0 := by
  obtain ⟨hl, hr⟩ := h
  have l1 : ∀ r ∈ R, r.length = n := fun r h => (hr r h).1
  obtain rfl | rfl | rfl : n = 1 ∨ n = 2 ∨ n = 3 := by omega
  · match R, hl with
    | [r], _ => rfl
  · match R, hl with
    | [r, s], _ =>
      have h2 := l1 s (by simp)
      match s, h2 with
      | [c, d], _ => show (0 : Int) * d + 0 * -c = 0; simp
  · match R, hl with
    | [r, s, t], _ =>
      have h2 := l1 s (by simp)
      have h3 := l1 t (by simp)
      match s, t, h2, h3 with
      | [d, e, f], [g, h, i], _, _ => show (0 : Int) * (e * i - f * h) + (0 * (f * g - d * i) + 0 * (d * h - e * g)) = 0; simp
end BO

namespace BO
open SG
theorem zip_range {n : Nat} {W : List Int} {R : List (List Int)} (hW : W.length = n) (hR : R.length = n) : W.zip R = (List.range n).map fun k => ((W[k]?).getD 0, (R[k]?).getD []) := by
  apply List.ext_getElem
  · simp [hW, hR]
  · intro i h1 h2
    have hi : i < n := by simpa using h2
    rw [List.getElem_zip, List.getElem_map, List.getElem_range, List.getElem?_eq_getElem (by omega), List.getElem?_eq_getElem (by omega)]
    rfl
theorem cj_range {n : Nat} {W : List Int} {R : List (List Int)} (hW : W.length = n) (hR : R.length = n) (j : Nat) : cj W R j = ((List.range n).map fun k => (W[k]?).getD 0 * ent R k j).sum := by
  unfold cj
  rw [zip_range hW hR, List.map_map]
  rfl
theorem sum_in {l : List Int} {b : Int} (h : ∀ x ∈ l, -b ≤ x ∧ x ≤ b) : -(l.length * b) ≤ l.sum ∧ l.sum ≤ l.length * b := by
  induction l with
  | nil => simp
  | cons x l ih =>
    have h1 := h x List.mem_cons_self
    have h2 := ih fun y hy => h y (List.mem_cons_of_mem _ hy)
    rw [List.sum_cons, List.length_cons]
    have e : ((l.length + 1 : Nat) : Int) * b = l.length * b + b := by rw [Int.natCast_add, Int.add_mul]; simp
    rw [e]
    omega
theorem prod_in {a b p q : Int} (ha : -p ≤ a ∧ a ≤ p) (hb : -q ≤ b ∧ b ≤ q) : -(p * q) ≤ a * b ∧ a * b ≤ p * q := by
  have hp : 0 ≤ p := by omega
  have hq : 0 ≤ q := by omega
  have h : (a * b).natAbs ≤ (p * q).natAbs := by
    rw [Int.natAbs_mul, Int.natAbs_mul]
    exact Nat.mul_le_mul (by omega) (by omega)
  have h2 : 0 ≤ p * q := Int.mul_nonneg hp hq
  omega
theorem cj_in {n : Nat} {m p : Int} {W : List Int} {R : List (List Int)} (h : Sq n m R) (hn : n ≤ 3) {j : Nat} (hj : j < n) (hW : ∀ x ∈ W, -p ≤ x ∧ x ≤ p) (hp : 0 ≤ p) (hm : 0 ≤ m) : -(3 * (p * m)) ≤ cj W R j ∧ cj W R j ≤ 3 * (p * m) := by
  unfold cj
  have hs := sum_in (l := (W.zip R).map fun q => q.1 * (q.2[j]?.getD 0)) (b := p * m) fun x hx => by
    obtain ⟨q, hq, rfl⟩ := List.mem_map.mp hx
    have hz := List.of_mem_zip hq
    have hr := h.2 _ hz.2
    have hjl : j < q.2.length := by rw [hr.1]; exact hj
    refine prod_in (hW _ hz.1) ?_
    rw [List.getElem?_eq_getElem hjl]
    exact hr.2 _ (List.getElem_mem hjl)
  have hl : ((W.zip R).map fun q => q.1 * (q.2[j]?.getD 0)).length ≤ 3 := by have := h.1; simp; omega
  have h2 : 0 ≤ p * m := Int.mul_nonneg hp hm
  have h3 : ((((W.zip R).map fun q => q.1 * (q.2[j]?.getD 0)).length : Nat) : Int) * (p * m) ≤ 3 * (p * m) := Int.mul_le_mul_of_nonneg_right (by omega) h2
  omega
end BO

namespace BO
/-! ### grids of points: plain -/
def at' (p : List Int) (j : Nat) : Int := (p[j]?).getD 0
def less (p : List Int) (t : Int) (q : List Int) : List Int := List.zipWith (fun a b => a - t * b) p q
def zero (m : Nat) : List Int := List.replicate m 0
theorem zero_len {m : Nat} : (zero m).length = m := List.length_replicate
theorem at_zero {m j : Nat} : at' (zero m) j = 0 := by
  unfold at' zero
  rw [List.getElem?_replicate]; split <;> rfl
theorem at_mem {p : List Int} {j : Nat} (h : j < p.length) : at' p j ∈ p := by
  unfold at'; rw [List.getElem?_eq_getElem h]; exact List.getElem_mem h
theorem less_len {p q : List Int} {t : Int} (h : p.length = q.length) : (less p t q).length = p.length := by
  unfold less; rw [List.length_zipWith]; omega
theorem at_less {p q : List Int} {t : Int} {j : Nat} (h : p.length = q.length) : at' (less p t q) j = at' p j - t * at' q j := by
  unfold at' less
  rw [List.getElem?_zipWith]
  by_cases hj : j < p.length
  · rw [List.getElem?_eq_getElem hj, List.getElem?_eq_getElem (by omega)]; rfl
  · rw [List.getElem?_eq_none (by omega), List.getElem?_eq_none (l := q) (by omega)]; simp
theorem at_out {p : List Int} {j : Nat} (h : p.length ≤ j) : at' p j = 0 := by
  unfold at'; rw [List.getElem?_eq_none h]; rfl
theorem ext' {p q : List Int} (h : p.length = q.length) (e : ∀ j, j < p.length → at' p j = at' q j) : p = q := by
  apply List.ext_getElem h
  intro i h1 h2
  have := e i h1
  unfold at' at this
  rw [List.getElem?_eq_getElem h1, List.getElem?_eq_getElem h2] at this
  exact this
theorem ext_z {p : List Int} {m : Nat} (h : p.length = m) (e : ∀ j, j < m → at' p j = 0) : p = zero m :=
  ext' (by rw [h, zero_len]) fun j hj => by rw [e j (by omega), at_zero]
theorem less_zero {p : List Int} {q : List Int} (h : p.length = q.length) : less p 0 q = p :=
  ext' (less_len h) fun j _ => by rw [at_less h]; simp
theorem less_self {p : List Int} : less p 1 p = zero p.length :=
  ext_z (less_len rfl) fun j _ => by rw [at_less rfl]; omega

/-- the grid that rows make, of vectors of m numbers -/
inductive Sp (m : Nat) (R : List (List Int)) : List Int → Prop where
  | zero : Sp m R (zero m)
  | row {r : List Int} (h : r ∈ R) : Sp m R r
  | less {p q : List Int} (t : Int) (hp : Sp m R p) (hq : Sp m R q) : Sp m R (less p t q)
/-- rows of m numbers -/
def Ln (m : Nat) (R : List (List Int)) : Prop := ∀ r ∈ R, r.length = m
section
variable {m : Nat} {R S L : List (List Int)} {p q f : List Int}
theorem Sp.len (h : Ln m R) (hp : Sp m R p) : p.length = m := by
  induction hp with
  | zero => exact zero_len
  | row hr => exact h _ hr
  | less t _ _ a b => rw [less_len (by rw [a, b]), a]
theorem Sp.mono (h : ∀ r ∈ R, Sp m S r) (hp : Sp m R p) : Sp m S p := by
  induction hp with
  | zero => exact .zero
  | row hr => exact h _ hr
  | less t _ _ a b => exact .less t a b
theorem Sp.sub (h : ∀ r ∈ R, r ∈ S) (hp : Sp m R p) : Sp m S p := hp.mono fun r hr => .row (h r hr)
theorem Sp.smul (h : Ln m R) (t : Int) (hp : Sp m R p) : ∃ q, Sp m R q ∧ q.length = m ∧ ∀ j, at' q j = t * at' p j := by
  have hl := hp.len h
  refine ⟨_, .less (-t) .zero hp, by rw [less_len (by rw [zero_len, hl]), zero_len], fun j => ?_⟩
  rw [at_less (by rw [zero_len, hl]), at_zero, Int.zero_sub, Int.neg_mul, Int.neg_neg]
theorem Sp.add (h : Ln m R) (hp : Sp m R p) (hq : Sp m R q) : ∃ v, Sp m R v ∧ v.length = m ∧ ∀ j, at' v j = at' p j + at' q j := by
  have hl := hp.len h
  have hl2 := hq.len h
  refine ⟨_, .less (-1) hp hq, by rw [less_len (by omega), hl], fun j => ?_⟩
  rw [at_less (by omega)]; omega
/-- the first row taken apart -/
theorem Sp.uncons (hf : f.length = m) (hL : Ln m L) (hp : Sp m (f :: L) p) : ∃ c q, Sp m L q ∧ p = BO.less q c f := by
  induction hp with
  | zero => exact ⟨0, _, .zero, (less_zero (by rw [zero_len, hf])).symm⟩
  | @row r hr =>
    rcases List.mem_cons.mp hr with e | e
    · subst e
      exact ⟨-1, _, .zero, ext' (by rw [less_len (by rw [zero_len, hf]), zero_len, hf]) fun j _ => by rw [at_less (by rw [zero_len, hf]), at_zero]; omega⟩
    · exact ⟨0, r, .row e, (less_zero (by rw [hL r e, hf])).symm⟩
  | @less p1 p2 t _ _ a b =>
    obtain ⟨c1, q1, s1, rfl⟩ := a
    obtain ⟨c2, q2, s2, rfl⟩ := b
    have l1 := s1.len hL
    have l2 := s2.len hL
    have k1 : q1.length = f.length := by omega
    have k2 : q2.length = f.length := by omega
    have k3 : q1.length = q2.length := by omega
    refine ⟨c1 - t * c2, _, .less t s1 s2, ?_⟩
    have m1 := less_len (t := c1) k1
    have m2 := less_len (t := c2) k2
    have m3 := less_len (t := t) k3
    refine ext' ?_ fun j _ => ?_
    · rw [less_len (by omega), less_len (t := c1 - t * c2) (by omega)]; omega
    · rw [at_less (by omega), at_less k1, at_less k2, at_less (t := c1 - t * c2) (by omega), at_less k3]
      grind
theorem Sp.cons (hq : Sp m L q) (c : Int) : Sp m (f :: L) (BO.less q c f) := .less c (hq.sub fun r hr => List.mem_cons_of_mem _ hr) (.row List.mem_cons_self)
theorem Sp.col (h : Ln m R) {j : Nat} (hz : ∀ r ∈ R, at' r j = 0) (hp : Sp m R p) : at' p j = 0 := by
  induction hp with
  | zero => exact at_zero
  | row hr => exact hz _ hr
  | less t s1 s2 a b => rw [at_less (by rw [s1.len h, s2.len h]), a, b]; simp
theorem Sp.dvd (h : Ln m R) {j : Nat} {d : Int} (hz : ∀ r ∈ R, d ∣ at' r j) (hp : Sp m R p) : d ∣ at' p j := by
  induction hp with
  | zero => rw [at_zero]; exact Int.dvd_zero _
  | row hr => exact hz _ hr
  | less t s1 s2 a b => rw [at_less (by rw [s1.len h, s2.len h])]; exact Int.dvd_sub a (Int.dvd_mul_of_dvd_right b)
theorem Sp.nil (hp : Sp m [] p) : p = BO.zero m := by
  have hl := hp.len (fun r hr => by cases hr)
  refine ext_z hl fun j _ => ?_
  exact hp.col (fun r hr => by cases hr) (fun r hr => by cases hr)
end
def ent' (T : List (List Int)) (k j : Nat) : Int := at' (T[k]?.getD []) j
/-- noughts ahead of each row's place, a number above 0 there -/
structure Tri (m : Nat) (T : List (List Int)) : Prop where
  len : T.length = m
  ln : Ln m T
  lo : ∀ k j, k < m → j < k → ent' T k j = 0
  dg : ∀ k, k < m → 0 < ent' T k k
structure Stair (m : Nat) (T : List (List Int)) : Prop extends Tri m T where
  up : ∀ j k, k < m → j < k → 0 ≤ ent' T j k ∧ ent' T j k < ent' T k k
section
variable {m : Nat} {T T' : List (List Int)} {p q : List Int}
theorem row_get {k : Nat} (h : k < T.length) : T.drop k = T[k]?.getD [] :: T.drop (k + 1) := by
  rw [List.getElem?_eq_getElem h]; exact List.drop_eq_getElem_cons h
theorem Ln.get (h : Ln m T) {k : Nat} (hk : k < T.length) : (T[k]?.getD []).length = m := by
  rw [List.getElem?_eq_getElem hk]; exact h _ (List.getElem_mem hk)
theorem get_mem {k : Nat} (hk : k < T.length) : T[k]?.getD [] ∈ T := by
  rw [List.getElem?_eq_getElem hk]; exact List.getElem_mem hk
theorem Ln.drop (h : Ln m T) (k : Nat) : Ln m (T.drop k) := fun r hr => h r (List.mem_of_mem_drop hr)
theorem drop_col (h : Tri m T) {k j : Nat} (hj : j < k) (hk : k ≤ m) : ∀ r ∈ T.drop k, at' r j = 0 := by
  intro r hr
  obtain ⟨i, hi, rfl⟩ := List.mem_iff_getElem.mp hr
  rw [List.getElem_drop]
  have hl := h.len
  rw [List.length_drop] at hi
  have := h.lo (k + i) j (by omega) (by omega)
  unfold ent' at this
  rw [List.getElem?_eq_getElem (by omega)] at this
  exact this
/-- one place further -/
theorem Tri.down (h : Tri m T) {k : Nat} (hk : k < m) (hp : Sp m (T.drop k) p) : ent' T k k ∣ at' p k ∧ (at' p k = 0 → Sp m (T.drop (k + 1)) p) := by
  have hl := h.len
  rw [row_get (by omega)] at hp
  have hr := h.ln.get (k := k) (by omega)
  obtain ⟨c, q, hq, rfl⟩ := hp.uncons hr (h.ln.drop _)
  have ql := hq.len (h.ln.drop _)
  have z := hq.col (h.ln.drop _) (drop_col h (Nat.lt_succ_self k) (by omega))
  rw [at_less (by omega), z, Int.zero_sub]
  refine ⟨by rw [Int.dvd_neg]; exact Int.dvd_mul_left _ _, fun e => ?_⟩
  have d := h.dg k hk
  have : c = 0 := by
    rcases Int.mul_eq_zero.mp (Int.neg_eq_zero.mp e) with e | e
    · exact e
    · unfold ent' at d; omega
  rw [this, less_zero (by omega)]
  exact hq
theorem Tri.lead (h : Tri m T) (hp : Sp m T p) : ∀ k, k ≤ m → (∀ j, j < k → at' p j = 0) → Sp m (T.drop k) p := by
  intro k
  induction k with
  | zero => intro _ _; rwa [List.drop_zero]
  | succ k ih => intro hk hz; exact (h.down (by omega) (ih (by omega) fun j hj => hz j (by omega))).2 (hz k (by omega))
theorem Tri.dvd (h : Tri m T) (hp : Sp m T p) {k : Nat} (hk : k < m) (hz : ∀ j, j < k → at' p j = 0) : ent' T k k ∣ at' p k := (h.down hk (h.lead hp k (by omega) hz)).1
/-- a small point is none but 0 -/
theorem Tri.small (h : Tri m T) (hp : Sp m T p) (hs : ∀ k, k < m → (at' p k).natAbs < (ent' T k k).natAbs) : p = zero m := by
  have key : ∀ k, k ≤ m → ∀ j, j < k → at' p j = 0 := by
    intro k
    induction k with
    | zero => intro _ j hj; omega
    | succ k ih =>
      intro hk j hj
      have i := ih (by omega)
      by_cases e : j < k
      · exact i j e
      · have : j = k := by omega
        subst this
        have d := h.dvd hp (k := j) (by omega) i
        exact Int.eq_zero_of_dvd_of_natAbs_lt_natAbs d (hs j (by omega))
  exact ext_z (hp.len h.ln) fun j hj => key m (Nat.le_refl m) j hj
theorem ent_row {k : Nat} (hk : k < T.length) (j : Nat) : at' (T[k]?.getD []) j = ent' T k j := rfl
theorem rows_eq (h : T.length = T'.length) (e : ∀ k, k < T.length → T[k]?.getD [] = T'[k]?.getD []) : T = T' := by
  apply List.ext_getElem h
  intro i h1 h2
  have := e i h1
  rw [List.getElem?_eq_getElem h1, List.getElem?_eq_getElem h2] at this
  exact this
/-- each grid has just one stair -/
theorem Stair.uniq (h : Stair m T) (h' : Stair m T') (e : ∀ p, Sp m T p → Sp m T' p) (e' : ∀ p, Sp m T' p → Sp m T p) : T = T' := by
  have hl := h.len
  have hl' := h'.len
  have dd : ∀ k, k < m → ent' T k k = ent' T' k k := by
    intro k hk
    have a := h'.toTri.dvd (e _ (.row (get_mem (T := T) (k := k) (by omega)))) hk fun j hj => h.lo k j hk hj
    have b := h.toTri.dvd (e' _ (.row (get_mem (T := T') (k := k) (by omega)))) hk fun j hj => h'.lo k j hk hj
    exact Int.dvd_antisymm (Int.le_of_lt (h.dg k hk)) (Int.le_of_lt (h'.dg k hk)) b a
  refine rows_eq (by omega) fun k hk => ?_
  have hk : k < m := by omega
  have l1 := h.ln.get (k := k) (by omega)
  have l2 := h'.ln.get (k := k) (by omega)
  have s : Sp m T (less (T[k]?.getD []) 1 (T'[k]?.getD [])) := .less 1 (.row (get_mem (by omega))) (e' _ (.row (get_mem (by omega))))
  have z := h.toTri.small s fun j hj => by
    rw [at_less (by omega)]
    show (ent' T k j - 1 * ent' T' k j).natAbs < _
    rcases Nat.lt_trichotomy j k with c | c | c
    · rw [h.lo k j hk c, h'.lo k j hk c]; have := h.dg j hj; omega
    · subst c; rw [← dd j hj]; have := h.dg j hj; omega
    · have a := h.up k j hj c
      have b := h'.up k j hj c
      rw [← dd j hj] at b
      omega
  refine ext' (by omega) fun j _ => ?_
  have : at' (less (T[k]?.getD []) 1 (T'[k]?.getD [])) j = at' (zero m) j := by rw [z]
  rw [at_less (by omega), at_zero] at this
  omega
end
end BO

namespace BO
/-! ### Cramer's rule for one to three rows -/
theorem dot_nil {c : List Int} : dot [] c = 0 := by unfold dot; simp
theorem dot_cons {x y : Int} {p c : List Int} : dot (x :: p) (y :: c) = x * y + dot p c := by unfold dot; simp
theorem dot_less : ∀ {p q c : List Int} {t : Int}, p.length = q.length → dot (less p t q) c = dot p c - t * dot q c
  | [], [], c, t, _ => by simp [less, dot]
  | x :: p, y :: q, [], t, _ => by simp [less, dot]
  | x :: p, y :: q, z :: c, t, h => by
    have ih := dot_less (p := p) (q := q) (c := c) (t := t) (by simpa using h)
    unfold less at ih ⊢
    rw [List.zipWith_cons_cons, dot_cons, dot_cons, dot_cons, ih]
    grind
  | [], _ :: _, _, _, h => by simp at h
  | _ :: _, [], _, _, h => by simp at h
theorem dot_zero {n : Nat} {c : List Int} : dot (zero n) c = 0 := by
  have e : zero n = less (zero n) 1 (zero n) := by rw [less_self, zero_len]
  rw [e, dot_less rfl]; omega
theorem dot_dvd {B : Int} : ∀ {v c : List Int} {j : Nat}, v.length = c.length → (∀ i, i < v.length → i ≠ j → at' v i = 0) → B ∣ at' v j → B ∣ dot v c := by
  intro v
  induction v with
  | nil => intro c j _ _ _; rw [dot_nil]; exact Int.dvd_zero _
  | cons x v ih =>
    intro c j hl hz hd
    match c, hl with
    | y :: c, hl =>
      rw [dot_cons]
      cases j with
      | zero =>
        have : B ∣ dot v c := ih (j := v.length) (by simpa using hl) (fun i hi _ => hz (i + 1) (by simpa using hi) (by omega)) (by rw [at_out (Nat.le_refl _)]; exact Int.dvd_zero _)
        exact Int.dvd_add (Int.dvd_mul_of_dvd_left hd) this
      | succ j =>
        have z : x = 0 := hz 0 (by simp) (by omega)
        rw [z, Int.zero_mul, Int.zero_add]
        exact ih (j := j) (by simpa using hl) (fun i hi hne => hz (i + 1) (by simpa using hi) (by omega)) hd
/-- rows and numbers alike many -/
def Rws (n : Nat) (R : List (List Int)) : Prop := R.length = n ∧ Ln n R
theorem Sq.rws {n : Nat} {m : Int} {R : List (List Int)} (h : Sq n m R) : Rws n R := ⟨h.1, fun r hr => (h.2 r hr).1⟩
theorem rws_cases {n : Nat} {R : List (List Int)} (h : Rws n R) (hn1 : 1 ≤ n) (hn : n ≤ 3) :
    (n = 1 ∧ ∃ a, R = [[a]]) ∨ (n = 2 ∧ ∃ a b c d, R = [[a, b], [c, d]]) ∨ (n = 3 ∧ ∃ a b c d e f g h i, R = [[a, b, c], [d, e, f], [g, h, i]]) := by
  obtain ⟨hl, hr⟩ := h
  obtain rfl | rfl | rfl : n = 1 ∨ n = 2 ∨ n = 3 := by omega
  · refine .inl ⟨rfl, ?_⟩
    match R, hl with
    | [r], _ =>
      have := hr r (by simp)
      match r, this with
      | [a], _ => exact ⟨a, rfl⟩
  · refine .inr (.inl ⟨rfl, ?_⟩)
    match R, hl with
    | [r, s], _ =>
      have h1 := hr r (by simp)
      have h2 := hr s (by simp)
      match r, s, h1, h2 with
      | [a, b], [c, d], _, _ => exact ⟨a, b, c, d, rfl⟩
  · refine .inr (.inr ⟨rfl, ?_⟩)
    match R, hl with
    | [r, s, t], _ =>
      have h1 := hr r (by simp)
      have h2 := hr s (by simp)
      have h3 := hr t (by simp)
      match r, s, t, h1, h2, h3 with
      | [a, b, c], [d, e, f], [g, h, i], _, _, _ => exact ⟨a, b, c, d, e, f, g, h, i, rfl⟩
theorem cnt_rws {n : Nat} {R : List (List Int)} (h : Rws n R) (hn1 : 1 ≤ n) (hn : n ≤ 3) : Rws n (cnt R) := by
  rcases rws_cases h hn1 hn with ⟨rfl, a, rfl⟩ | ⟨rfl, a, b, c, d, rfl⟩ | ⟨rfl, a, b, c, d, e, f, g, h, i, rfl⟩ <;>
    exact ⟨rfl, fun r hr => by simp [cnt] at hr; rcases hr with rfl | rfl | rfl <;> rfl⟩
/-- a row's numbers by its own counter come to the bulk, by another's to 0 -/
theorem dot_cnt {n : Nat} {R : List (List Int)} (h : Rws n R) (hn1 : 1 ≤ n) (hn : n ≤ 3) {j k : Nat} (hj : j < n) (hk : k < n) :
    dot (R[j]?.getD []) ((cnt R)[k]?.getD []) = if j = k then blk R else 0 := by
  rcases rws_cases h hn1 hn with ⟨rfl, a, rfl⟩ | ⟨rfl, a, b, c, d, rfl⟩ | ⟨rfl, a, b, c, d, e, f, g, h, i, rfl⟩
  · obtain rfl : j = 0 := by omega
    obtain rfl : k = 0 := by omega
    simp [dot, cnt, blk]
  · obtain rfl | rfl : j = 0 ∨ j = 1 := by omega
    all_goals (obtain rfl | rfl : k = 0 ∨ k = 1 := by omega)
    all_goals (simp [dot, cnt, blk]; try grind)
  · obtain rfl | rfl | rfl : j = 0 ∨ j = 1 ∨ j = 2 := by omega
    all_goals (obtain rfl | rfl | rfl : k = 0 ∨ k = 1 ∨ k = 2 := by omega)
    all_goals (simp [dot, cnt, blk]; try grind)
/-- the sum of rows by weights -/
def lin (m : Nat) : List Int → List (List Int) → List Int
  | w :: W, r :: R => less (lin m W R) (-w) r
  | _, _ => zero m
theorem lin_len {m : Nat} : ∀ {W : List Int} {R : List (List Int)}, Ln m R → (lin m W R).length = m
  | [], _, _ => by unfold lin; exact zero_len
  | _ :: _, [], _ => by unfold lin; exact zero_len
  | w :: W, r :: R, h => by
    have i := lin_len (W := W) (R := R) fun r hr => h r (List.mem_cons_of_mem _ hr)
    have hr := h r List.mem_cons_self
    unfold lin
    rw [less_len (by omega), i]
theorem lin_at {m : Nat} {j : Nat} : ∀ {W : List Int} {R : List (List Int)}, Ln m R → at' (lin m W R) j = cj W R j
  | [], _, _ => by unfold lin cj; rw [at_zero]; rfl
  | _ :: _, [], _ => by unfold lin cj; rw [at_zero]; rfl
  | w :: W, r :: R, h => by
    have h' : Ln m R := fun r hr => h r (List.mem_cons_of_mem _ hr)
    have i := lin_len (W := W) (R := R) h'
    have ia := lin_at (j := j) (W := W) (R := R) h'
    have hr := h r List.mem_cons_self
    unfold lin
    rw [at_less (by omega), ia]
    unfold cj
    rw [List.zip_cons_cons, List.map_cons, List.sum_cons]
    show _ - -w * at' r j = w * at' r j + _
    rw [Int.neg_mul]; omega
theorem lin_sp {m : Nat} {S : List (List Int)} : ∀ {W : List Int} {R : List (List Int)}, (∀ r ∈ R, r ∈ S) → Sp m S (lin m W R)
  | [], _, _ => by unfold lin; exact .zero
  | _ :: _, [], _ => by unfold lin; exact .zero
  | w :: W, r :: R, h => by
    unfold lin
    exact .less _ (lin_sp fun x hx => h x (List.mem_cons_of_mem _ hx)) (.row (h r List.mem_cons_self))
theorem lin_eq {m : Nat} {W : List Int} {R : List (List Int)} (h : Ln m R) : (List.range m).map (cj W R) = lin m W R := by
  refine ext' (by rw [lin_len h]; simp) fun j hj => ?_
  have hj : j < m := by simpa using hj
  rw [lin_at h]
  unfold at'
  rw [List.getElem?_map, List.getElem?_range hj]; rfl
/-- the point of weights is one of the grid -/
theorem comb_sp {m : Nat} {W : List Int} {R : List (List Int)} (h : Ln m R) : Sp m R ((List.range m).map (cj W R)) := by
  rw [lin_eq h]; exact lin_sp fun r hr => hr
/-- what a point's weights are by the counters, times the bulk -/
def tops (R : List (List Int)) (p : List Int) : List Int := (cnt R).map (dot p)
section
variable {n : Nat} {R : List (List Int)} (h : Rws n R) (hn1 : 1 ≤ n) (hn : n ≤ 3)
include h hn1 hn
theorem tops_len {p : List Int} : (tops R p).length = n := by unfold tops; rw [List.length_map, (cnt_rws h hn1 hn).1]
theorem sp_dvd {p : List Int} (hp : Sp n R p) : ∀ t ∈ tops R p, blk R ∣ t := by
  intro t ht
  obtain ⟨c, hc, rfl⟩ := List.mem_map.mp ht
  obtain ⟨k, hk, rfl⟩ := List.mem_iff_getElem.mp hc
  have hkn : k < n := by have := (cnt_rws h hn1 hn).1; omega
  have e : (cnt R)[k] = (cnt R)[k]?.getD [] := by rw [List.getElem?_eq_getElem hk]; rfl
  rw [e]
  clear ht hc
  induction hp with
  | zero =>
    rw [dot_zero]; exact Int.dvd_zero _
  | @row r hr =>
    obtain ⟨j, hj, rfl⟩ := List.mem_iff_getElem.mp hr
    have e2 : R[j] = R[j]?.getD [] := by rw [List.getElem?_eq_getElem hj]; rfl
    rw [e2, dot_cnt h hn1 hn (by have := h.1; omega) hkn]
    split
    · exact Int.dvd_refl _
    · exact Int.dvd_zero _
  | less t s1 s2 a b =>
    rw [dot_less (by rw [s1.len h.2, s2.len h.2])]
    exact Int.dvd_sub a (Int.dvd_mul_of_dvd_right b)
/-- the point is the sum of the rows by its weights -/
theorem tops_lin (hb : blk R ≠ 0) {p W : List Int} (hp : p.length = n) (hW : tops R p = W.map fun w => blk R * w) : (List.range n).map (cj W R) = p := by
  have hl : W.length = n := by rw [← tops_len h hn1 hn (p := p), hW, List.length_map]
  refine ext' (by rw [hp]; simp) fun j hj => ?_
  have hj : j < n := by simpa using hj
  rw [show at' ((List.range n).map (cj W R)) j = cj W R j by unfold at'; rw [List.getElem?_map, List.getElem?_range hj]; rfl]
  refine Int.eq_of_mul_eq_mul_left hb ?_
  rcases rws_cases h hn1 hn with ⟨rfl, a, rfl⟩ | ⟨rfl, a, b, c, d, rfl⟩ | ⟨rfl, a, b, c, d, e, f, g, u, i, rfl⟩
  · match p, W, hp, hl with
    | [x], [w0], _, _ =>
      obtain rfl : j = 0 := by omega
      simp [tops, cnt, dot, blk, cj, at'] at hW ⊢
      grind
  · match p, W, hp, hl with
    | [x, y], [w0, w1], _, _ =>
      simp [tops, cnt, dot, blk] at hW
      obtain ⟨h1, h2⟩ := hW
      obtain rfl | rfl : j = 0 ∨ j = 1 := by omega
      all_goals (simp [blk, cj, at']; grind)
  · match p, W, hp, hl with
    | [x, y, z], [w0, w1, w2], _, _ =>
      simp [tops, cnt, dot, blk] at hW
      obtain ⟨h1, h2, h3⟩ := hW
      obtain rfl | rfl | rfl : j = 0 ∨ j = 1 ∨ j = 2 := by omega
      all_goals
        simp [blk, cj, at']
        generalize hB : a * (e * i - f * u) + (b * (f * g - d * i) + c * (d * u - e * g)) = B at *
      · have e1 : B * (w0 * a + (w1 * d + w2 * g)) = (B * w0) * a + ((B * w1) * d + (B * w2) * g) := by grind
        rw [e1, ← h1, ← h2, ← h3, ← hB]; grind
      · have e1 : B * (w0 * b + (w1 * e + w2 * u)) = (B * w0) * b + ((B * w1) * e + (B * w2) * u) := by grind
        rw [e1, ← h1, ← h2, ← h3, ← hB]; grind
      · have e1 : B * (w0 * c + (w1 * f + w2 * i)) = (B * w0) * c + ((B * w1) * f + (B * w2) * i) := by grind
        rw [e1, ← h1, ← h2, ← h3, ← hB]; grind
theorem sp_iff (hb : blk R ≠ 0) {p : List Int} : Sp n R p ↔ p.length = n ∧ ∀ t ∈ tops R p, blk R ∣ t := by
  refine ⟨fun hp => ⟨hp.len h.2, sp_dvd h hn1 hn hp⟩, fun ⟨hp, hd⟩ => ?_⟩
  have : tops R p = ((tops R p).map fun t => t / blk R).map fun w => blk R * w := by
    rw [List.map_map]
    refine (List.map_id _).symm.trans (List.map_congr_left fun t ht => ?_)
    exact (Int.mul_ediv_cancel' (hd t ht)).symm
  rw [← tops_lin h hn1 hn hb hp this]
  exact comb_sp h.2
/-- the bulk at one place alone is a point -/
theorem sp_full (hb : blk R ≠ 0) {v : List Int} {j : Nat} (hv : v.length = n) (hj : ∀ i, i < n → i ≠ j → at' v i = 0) (hd : blk R ∣ at' v j) : Sp n R v := by
  refine (sp_iff h hn1 hn hb).mpr ⟨hv, fun t ht => ?_⟩
  obtain ⟨c, hc, rfl⟩ := List.mem_map.mp ht
  have hcl := (cnt_rws h hn1 hn).2 c hc
  exact dot_dvd (by omega) (fun i hi => hj i (by omega)) hd
end
end BO

namespace BO
/-! ### clearing a place: plain -/
theorem fd_eq (a b : Int) : a.fmod b = a - a.fdiv b * b := by
  have := Int.fmod_add_fdiv_mul a b
  omega
theorem fdiv_neg2 (a b : Int) : (-a).fdiv (-b) = a.fdiv b := Int.neg_fdiv_neg a b
theorem fmod_neg2 (a b : Int) : (-a).fmod (-b) = -(a.fmod b) := by
  rw [fd_eq, fd_eq, fdiv_neg2, Int.mul_neg]; omega
theorem fmod_posi {a b : Int} (h : 0 < b) : a.fmod b = a % b ∧ a.fdiv b = a / b := ⟨Int.fmod_eq_emod_of_nonneg a (by omega), Int.fdiv_eq_ediv_of_nonneg a (by omega)⟩
theorem fmod_abs {a b : Int} (h : b ≠ 0) : (a.fmod b).natAbs < b.natAbs ∧ 0 ≤ a.fmod b * b := by
  rcases Int.lt_or_gt_of_ne h with n | p
  · have e : a.fmod b = -((-a).fmod (-b)) := by rw [fmod_neg2]; omega
    have q := (fmod_posi (a := -a) (b := -b) (by omega)).1
    have m1 := Int.emod_nonneg (-a) (b := -b) (by omega)
    have m2 := Int.emod_lt_of_pos (-a) (b := -b) (by omega)
    rw [e, q]
    refine ⟨by omega, ?_⟩
    have : 0 ≤ ((-a) % (-b)) * (-b) := Int.mul_nonneg m1 (by omega)
    rw [Int.neg_mul, ← Int.mul_neg]; exact this
  · have q := (fmod_posi (a := a) (b := b) p).1
    have m1 := Int.emod_nonneg a (b := b) (by omega)
    have m2 := Int.emod_lt_of_pos a (b := b) p
    rw [q]
    exact ⟨by omega, Int.mul_nonneg m1 (by omega)⟩
/-- the quotient, the divisor of the same sign -/
theorem fdiv_same {a b : Int} (h : b ≠ 0) (hs : 0 ≤ a * b) : (a.fdiv b).natAbs = a.natAbs / b.natAbs ∧ (a.fmod b).natAbs = a.natAbs % b.natAbs := by
  have pos : ∀ {a b : Int}, 0 < b → 0 ≤ a → (a.fdiv b).natAbs = a.natAbs / b.natAbs ∧ (a.fmod b).natAbs = a.natAbs % b.natAbs := by
    intro a b hb ha
    obtain ⟨n, rfl⟩ := Int.eq_ofNat_of_zero_le ha
    obtain ⟨k, rfl⟩ := Int.eq_ofNat_of_zero_le (Int.le_of_lt hb)
    rw [(fmod_posi hb).1, (fmod_posi hb).2]
    exact ⟨by rw [← Int.natCast_ediv]; rfl, by rw [← Int.natCast_emod]; rfl⟩
  rcases Int.lt_or_gt_of_ne h with n | p
  · have ha : a ≤ 0 := by
      rcases Int.lt_or_le 0 a with c | c
      · have := Int.mul_neg_of_pos_of_neg c n; omega
      · exact c
    have := pos (a := -a) (b := -b) (by omega) (by omega)
    rw [fdiv_neg2, fmod_neg2] at this
    simpa using this
  · have ha : 0 ≤ a := by
      rcases Int.lt_or_le a 0 with c | c
      · have := Int.mul_neg_of_neg_of_pos c p; omega
      · exact c
    exact pos p ha
theorem fdiv_any {a b : Int} (h : b ≠ 0) : (a.fdiv b).natAbs ≤ a.natAbs / b.natAbs + 1 := by
  by_cases hs : 0 ≤ a * b
  · rw [(fdiv_same h hs).1]; omega
  · -- of unlike signs
    have e := fd_eq a b
    have m := (fmod_abs (a := a) h).1
    have e2 : (a.fdiv b * b).natAbs ≤ a.natAbs + b.natAbs := by omega
    rw [Int.natAbs_mul] at e2
    have hb : 0 < b.natAbs := by omega
    have : (a.fdiv b).natAbs ≤ (a.natAbs + b.natAbs) / b.natAbs := (Nat.le_div_iff_mul_le hb).mpr e2
    rwa [Nat.add_div_right _ hb] at this
theorem mul_self0 (a : Int) : 0 ≤ a * a := by
  rcases Int.le_total 0 a with h | h
  · exact Int.mul_nonneg h h
  · have := Int.mul_nonneg (a := -a) (b := -a) (by omega) (by omega)
    rwa [Int.neg_mul_neg] at this
/-- no number beyond a bound -/
def Bd (U : Nat) (R : List (List Int)) : Prop := ∀ r ∈ R, ∀ j, (at' r j).natAbs ≤ U
def Least (L : List (List Int)) (p k : Nat) : Prop := k < L.length ∧ ent' L k p ≠ 0 ∧ ∀ j, j < L.length → ent' L j p ≠ 0 → (ent' L k p).natAbs ≤ (ent' L j p).natAbs
/-- all but one -/
def butL (L : List (List Int)) (k : Nat) : List (List Int) := L.take k ++ L.drop (k + 1)
def red (p : Nat) (r o : List Int) : List Int := less o ((at' o p).fdiv (at' r p)) r
def stepL (L : List (List Int)) (p k : Nat) : List (List Int) := L[k]?.getD [] :: (butL L k).map (red p (L[k]?.getD []))
section
variable {L : List (List Int)} {m p k : Nat} {r o x : List Int}
theorem but_mem (h : o ∈ butL L k) : o ∈ L := by
  rcases List.mem_append.mp h with c | c
  · exact List.mem_of_mem_take c
  · exact List.mem_of_mem_drop c
theorem but_or (hk : k < L.length) (h : o ∈ L) : o = L[k]?.getD [] ∨ o ∈ butL L k := by
  obtain ⟨i, hi, rfl⟩ := List.mem_iff_getElem.mp h
  rcases Nat.lt_trichotomy i k with c | c | c
  · exact .inr (List.mem_append_left _ (List.mem_take_iff_getElem.mpr ⟨i, by omega, rfl⟩))
  · subst c; left; rw [List.getElem?_eq_getElem hi]; rfl
  · refine .inr (List.mem_append_right _ (List.mem_drop_iff_getElem.mpr ⟨i - (k + 1), by omega, ?_⟩))
    congr 1; omega
theorem but_len (hk : k < L.length) : (butL L k).length + 1 = L.length := by unfold butL; simp; omega
theorem red_len (h : o.length = r.length) : (red p r o).length = r.length := by unfold red; rw [less_len h, h]
theorem red_at (h : o.length = r.length) (j : Nat) : at' (red p r o) j = at' o j - (at' o p).fdiv (at' r p) * at' r j := at_less h
theorem red_p (h : o.length = r.length) : at' (red p r o) p = (at' o p).fmod (at' r p) := by rw [red_at h, fd_eq]
theorem step_len (hk : k < L.length) : (stepL L p k).length = L.length := by
  unfold stepL; rw [List.length_cons, List.length_map, but_len hk]
theorem step_ln (h : Ln m L) (hk : k < L.length) : Ln m (stepL L p k) := by
  intro x hx
  have hr := h.get hk
  rcases List.mem_cons.mp hx with e | e
  · rw [e]; exact hr
  · obtain ⟨o, ho, rfl⟩ := List.mem_map.mp e
    rw [red_len (by rw [hr, h o (but_mem ho)]), hr]
theorem step_sp (h : Ln m L) (hk : k < L.length) : Sp m L x ↔ Sp m (stepL L p k) x := by
  have hr := h.get hk
  constructor
  · refine Sp.mono fun o ho => ?_
    rcases but_or hk ho with e | e
    · rw [e]; exact .row List.mem_cons_self
    · have ho' := h o ho
      have s1 : Sp m (stepL L p k) (red p (L[k]?.getD []) o) := .row (List.mem_cons_of_mem _ (List.mem_map.mpr ⟨o, e, rfl⟩))
      have s2 : Sp m (stepL L p k) (L[k]?.getD []) := .row List.mem_cons_self
      have s3 := Sp.less (-((at' o p).fdiv (at' (L[k]?.getD []) p))) s1 s2
      have e2 : less (red p (L[k]?.getD []) o) (-((at' o p).fdiv (at' (L[k]?.getD []) p))) (L[k]?.getD []) = o := by
        have l1 : (red p (L[k]?.getD []) o).length = (L[k]?.getD []).length := red_len (by omega)
        refine ext' (by rw [less_len l1]; omega) fun j _ => ?_
        rw [at_less l1, red_at (by omega)]; grind
      rwa [e2] at s3
  · refine Sp.mono fun o ho => ?_
    rcases List.mem_cons.mp ho with e | e
    · rw [e]; exact .row (get_mem hk)
    · obtain ⟨y, hy, rfl⟩ := List.mem_map.mp e
      exact .less _ (.row (but_mem hy)) (.row (get_mem hk))
/-- a step's bound -/
theorem red_bd {U q : Nat} (h : o.length = r.length) (ho : ∀ j, (at' o j).natAbs ≤ U) (hr : ∀ j, (at' r j).natAbs ≤ U) (hq : ((at' o p).fdiv (at' r p)).natAbs ≤ q) : ∀ j, (at' (red p r o) j).natAbs ≤ U + q * U := by
  intro j
  rw [red_at h]
  have h1 := ho j
  have h2 : ((at' o p).fdiv (at' r p) * at' r j).natAbs ≤ q * U := by rw [Int.natAbs_mul]; exact Nat.mul_le_mul hq (hr j)
  omega
end
theorem two_le {P P' q : Nat} (hdv : P' * q = P) (h : P' < P) (h0 : 0 < P') : 2 ≤ q := by
  match q, hdv with
  | 0, hdv => simp at hdv; omega
  | 1, hdv => simp at hdv; omega
  | q + 2, _ => omega
/-- a list on the way: its first row's number at the place is the greatest, all of one sign -/
structure Way (p : Nat) (L : List (List Int)) (P U : Nat) : Prop where
  ne : L ≠ []
  hd : (ent' L 0 p).natAbs = P
  ps : 0 < P
  sg : ∀ o ∈ L, 0 ≤ at' o p * ent' L 0 p
  lt : ∀ o ∈ L.tail, (at' o p).natAbs < P
  bd : Bd U L
theorem sign_mul {a b c : Int} (h1 : 0 ≤ a * c) (h2 : 0 ≤ b * c) (hc : c ≠ 0) : 0 ≤ a * b := by
  rcases Int.lt_or_gt_of_ne hc with n | p
  · have ha : a ≤ 0 := by
      rcases Int.lt_or_le 0 a with q | q
      · have := Int.mul_neg_of_pos_of_neg q n; omega
      · exact q
    have hb : b ≤ 0 := by
      rcases Int.lt_or_le 0 b with q | q
      · have := Int.mul_neg_of_pos_of_neg q n; omega
      · exact q
    have := Int.mul_nonneg (a := -a) (b := -b) (by omega) (by omega)
    rwa [Int.neg_mul_neg] at this
  · have ha : 0 ≤ a := by
      rcases Int.lt_or_le a 0 with q | q
      · have := Int.mul_neg_of_neg_of_pos q p; omega
      · exact q
    have hb : 0 ≤ b := by
      rcases Int.lt_or_le b 0 with q | q
      · have := Int.mul_neg_of_neg_of_pos q p; omega
      · exact q
    exact Int.mul_nonneg ha hb
section
variable {L : List (List Int)} {m p k : Nat}
theorem step_hd : ent' (stepL L p k) 0 p = ent' L k p := rfl
theorem step_tl : (stepL L p k).tail = (butL L k).map (red p (L[k]?.getD [])) := rfl
/-- the first step -/
theorem step_first (h : Ln m L) (hk : Least L p k) {M : Nat} (hM : Bd M L) : ∃ P U, Way p (stepL L p k) P U ∧ P ≤ M ∧ U * P ≤ 3 * (M * M) := by
  obtain ⟨kl, k0, km⟩ := hk
  have hr := h.get kl
  have hrb := hM _ (get_mem kl)
  have hP : (ent' L k p).natAbs ≤ M := hrb p
  refine ⟨(ent' L k p).natAbs, M + (M / (ent' L k p).natAbs + 1) * M, ⟨by unfold stepL; simp, rfl, by omega, ?_, ?_, ?_⟩, hP, ?_⟩
  · intro o ho
    rw [step_hd]
    rcases List.mem_cons.mp ho with e | e
    · rw [e]; show 0 ≤ ent' L k p * ent' L k p
      exact mul_self0 _
    · obtain ⟨y, hy, rfl⟩ := List.mem_map.mp e
      rw [red_p (by rw [hr, h y (but_mem hy)])]
      exact (fmod_abs k0).2
  · intro o ho
    rw [step_tl] at ho
    obtain ⟨y, hy, rfl⟩ := List.mem_map.mp ho
    rw [red_p (by rw [hr, h y (but_mem hy)])]
    exact (fmod_abs k0).1
  · intro o ho
    rcases List.mem_cons.mp ho with e | e
    · rw [e]; intro j; exact Nat.le_trans (hrb j) (Nat.le_add_right _ _)
    · obtain ⟨y, hy, rfl⟩ := List.mem_map.mp e
      refine red_bd (by rw [hr, h y (but_mem hy)]) (hM y (but_mem hy)) hrb (Nat.le_trans (fdiv_any k0) ?_)
      have := Nat.div_le_div_right (c := (ent' L k p).natAbs) (hM y (but_mem hy) p)
      exact Nat.succ_le_succ this
  · generalize (ent' L k p).natAbs = P at *
    have e1 : M / P * P ≤ M := Nat.div_mul_le_self M P
    have e2 : (M + (M / P + 1) * M) * P = 2 * (M * P) + (M / P * P) * M := by grind
    rw [e2]
    have e3 : M / P * P * M ≤ M * M := Nat.mul_le_mul_right M e1
    have e4 : M * P ≤ M * M := Nat.mul_le_mul_left M hP
    omega
/-- a further step -/
theorem step_next (h : Ln m L) {P U : Nat} (w : Way p L P U) (hk : Least L p k) {o0 : List Int} (ho : o0 ∈ L.tail) (hz : at' o0 p ≠ 0) {C : Nat} (hC : U * (P * (P * (at' o0 p).natAbs)) ≤ C) :
    ∃ P' U', Way p (stepL L p k) P' U' ∧ P' < P ∧ U' ≤ 2 * C ∧ ((∃ o ∈ (stepL L p k).tail, at' o p ≠ 0) → ∃ o ∈ (stepL L p k).tail, at' o p ≠ 0 ∧ U' * (P' * (P' * (at' o p).natAbs)) ≤ C) := by
  obtain ⟨kl, k0, km⟩ := hk
  have hr := h.get kl
  have hrb := w.bd _ (get_mem kl)
  have ht : ∀ {x}, x ∈ L.tail → x ∈ L := fun hx => List.mem_of_mem_tail hx
  -- the new number is no more than that one
  obtain ⟨P', hP'⟩ : ∃ P', P' = (ent' L k p).natAbs := ⟨_, rfl⟩
  have le0 : P' ≤ (at' o0 p).natAbs := by
    obtain ⟨i, hi, e⟩ := List.mem_iff_getElem.mp (ht ho)
    have e' : ent' L i p = at' o0 p := by unfold ent'; rw [List.getElem?_eq_getElem hi, ← e]; rfl
    rw [hP', ← e']
    exact km i hi (by rw [e']; exact hz)
  have lt0 := w.lt o0 ho
  have P0 : 0 < P' := by omega
  have hPP : P' < P := by omega
  have hd0 : ent' L 0 p ≠ 0 := by have := w.hd; have := w.ps; omega
  have all : ∀ x ∈ L, (at' x p).natAbs ≤ P := by
    intro x hx
    match L, w.ne, hx with
    | a :: l, _, hx =>
      rcases List.mem_cons.mp hx with e | e
      · have := w.hd; unfold ent' at this; simp at this; rw [e, this]; exact Nat.le_refl _
      · exact Nat.le_of_lt (w.lt x e)
  have same : ∀ x ∈ L, 0 ≤ at' x p * ent' L k p := fun x hx => sign_mul (w.sg x hx) (w.sg _ (get_mem kl)) hd0
  have U'P' : (U + P / P' * U) * P' ≤ 2 * (U * P) := by
    have e1 : P / P' * P' ≤ P := Nat.div_mul_le_self P P'
    have e2 : (U + P / P' * U) * P' = U * P' + U * (P / P' * P') := by grind
    rw [e2]
    have e3 : U * (P / P' * P') ≤ U * P := Nat.mul_le_mul_left U e1
    have e4 : U * P' ≤ U * P := Nat.mul_le_mul_left U (Nat.le_of_lt hPP)
    omega
  have bigC : U * (P * (P * P')) ≤ C := Nat.le_trans (Nat.mul_le_mul_left U (Nat.mul_le_mul_left P (Nat.mul_le_mul_left P le0))) hC
  refine ⟨P', U + P / P' * U, ⟨by unfold stepL; simp, hP'.symm, P0, ?_, ?_, ?_⟩, hPP, ?_, ?_⟩
  · intro o ho
    rw [step_hd]
    rcases List.mem_cons.mp ho with e | e
    · rw [e]; exact same _ (get_mem kl)
    · obtain ⟨y, hy, rfl⟩ := List.mem_map.mp e
      rw [red_p (by rw [hr, h y (but_mem hy)])]
      exact (fmod_abs k0).2
  · intro o ho
    rw [step_tl] at ho
    obtain ⟨y, hy, rfl⟩ := List.mem_map.mp ho
    rw [red_p (by rw [hr, h y (but_mem hy)]), hP']
    exact (fmod_abs k0).1
  · intro o ho
    rcases List.mem_cons.mp ho with e | e
    · rw [e]; intro j; exact Nat.le_trans (hrb j) (Nat.le_add_right _ _)
    · obtain ⟨y, hy, rfl⟩ := List.mem_map.mp e
      refine red_bd (by rw [hr, h y (but_mem hy)]) (w.bd y (but_mem hy)) hrb ?_
      have := (fdiv_same k0 (same y (but_mem hy))).1
      show ((at' y p).fdiv (ent' L k p)).natAbs ≤ _
      rw [this, ← hP']
      exact Nat.div_le_div_right (all y (but_mem hy))
  · -- U' ≤ 2 C
    have e1 : U + P / P' * U ≤ (U + P / P' * U) * P' := Nat.le_mul_of_pos_right _ P0
    have e2 : U * P ≤ U * (P * (P * P')) := Nat.mul_le_mul_left U (Nat.le_mul_of_pos_right _ (Nat.mul_pos w.ps P0))
    omega
  · intro ⟨o, ho, hoz⟩
    -- either the head's rest or any
    have small : ∀ y : Nat, 2 * y ≤ P → (U + P / P' * U) * (P' * (P' * y)) ≤ C := by
      intro y hy
      have e1 : (U + P / P' * U) * (P' * (P' * y)) = ((U + P / P' * U) * P') * (P' * y) := by grind
      have e2 : ((U + P / P' * U) * P') * (P' * y) ≤ (2 * (U * P)) * (P' * y) := Nat.mul_le_mul_right _ U'P'
      have e3 : (2 * (U * P)) * (P' * y) = (U * P * P') * (2 * y) := by grind
      have e4 : (U * P * P') * (2 * y) ≤ (U * P * P') * P := Nat.mul_le_mul_left _ hy
      have e5 : (U * P * P') * P = U * (P * (P * P')) := by grind
      omega
    by_cases hm : P % P' = 0
    · refine ⟨o, ho, hoz, small _ ?_⟩
      have l : (at' o p).natAbs < P' := by
        rw [step_tl] at ho
        obtain ⟨y, hy, rfl⟩ := List.mem_map.mp ho
        rw [red_p (by rw [hr, h y (but_mem hy)]), hP']
        exact (fmod_abs k0).1
      have hdv : P' * (P / P') = P := Nat.mul_div_cancel' (Nat.dvd_of_mod_eq_zero hm)
      have : 2 ≤ P / P' := two_le hdv hPP P0
      have : P' * 2 ≤ P' * (P / P') := Nat.mul_le_mul_left _ this
      omega
    · -- the head is among the others
      have hne : L[0]?.getD [] ∈ L := get_mem (by have := w.ne; cases L <;> simp_all)
      have hin : L[0]?.getD [] ∈ butL L k := by
        rcases but_or kl hne with e | e
        · exfalso
          have : ent' L 0 p = ent' L k p := by unfold ent'; rw [e]
          have := w.hd; rw [‹ent' L 0 p = ent' L k p›] at this; omega
        · exact e
      refine ⟨red p (L[k]?.getD []) (L[0]?.getD []), by rw [step_tl]; exact List.mem_map.mpr ⟨_, hin, rfl⟩, ?_, ?_⟩
      all_goals
        have ev := (fdiv_same k0 (same _ hne)).2
        rw [red_p (by rw [hr, h _ hne])]
        have e0 : (at' (L[0]?.getD []) p).natAbs = P := w.hd
        rw [e0, ← hP'] at ev
        change ((at' (L[0]?.getD []) p).fmod (ent' L k p)).natAbs = _ at ev
      · show (at' (L[0]?.getD []) p).fmod (ent' L k p) ≠ 0
        omega
      · show (U + P / P' * U) * (P' * (P' * ((at' (L[0]?.getD []) p).fmod (ent' L k p)).natAbs)) ≤ C
        rw [ev]
        refine small _ ?_
        have d := Nat.div_add_mod P P'
        have m := Nat.mod_lt P P0
        have : 1 ≤ P / P' := Nat.div_pos (by omega) P0
        have : P' * 1 ≤ P' * (P / P') := Nat.mul_le_mul_left _ this
        omega
end
end BO

namespace BO
/-! ### the stair: plain -/
theorem strip {m : Nat} {L : List (List Int)} {v : List Int} : ∀ (F : List (List Int)) (off : Nat), Ln m F → Ln m L → (∀ i, i < F.length → ent' F i (off + i) ≠ 0) → (∀ i, i < F.length → ∀ r ∈ F.drop (i + 1) ++ L, at' r (off + i) = 0) →
    Sp m (F ++ L) v → (∀ i, i < F.length → at' v (off + i) = 0) → Sp m L v := by
  intro F
  induction F with
  | nil => intro off _ _ _ _ h _; exact h
  | cons f F ih =>
    intro off lF lL hd hz h hv
    have lf := lF f List.mem_cons_self
    have lF' : Ln m F := fun r hr => lF r (List.mem_cons_of_mem _ hr)
    have lA : Ln m (F ++ L) := fun r hr => by
      rcases List.mem_append.mp hr with c | c
      · exact lF' r c
      · exact lL r c
    obtain ⟨c, q, hq, e⟩ := Sp.uncons lf lA h
    have lq := hq.len lA
    have z := hq.col lA (j := off) (fun r hr => hz 0 (by simp) r (by simpa using hr))
    have v0 := hv 0 (by simp)
    have d0 := hd 0 (by simp)
    rw [e, Nat.add_zero, at_less (by omega), z] at v0
    have : c = 0 := by
      rcases Int.mul_eq_zero.mp (show c * at' f off = 0 by omega) with e | e
      · exact e
      · exact absurd e d0
    rw [this, less_zero (by omega)] at e
    subst e
    refine ih (off + 1) lF' lL (fun i hi => ?_) (fun i hi r hr => ?_) hq (fun i hi => ?_)
    · have := hd (i + 1) (by simpa using hi)
      rw [show off + 1 + i = off + (i + 1) by omega]; exact this
    · rw [show off + 1 + i = off + (i + 1) by omega]
      exact hz (i + 1) (by simpa using hi) r (by simpa using hr)
    · rw [show off + 1 + i = off + (i + 1) by omega]
      exact hv (i + 1) (by simpa using hi)
/-- what clearing a place tells -/
structure Clr (m p : Nat) (L : List (List Int)) (row : List Int) (left : List (List Int)) : Prop where
  rl : row.length = m
  ln : Ln m left
  len : left.length + 1 = L.length
  dg : 0 < at' row p
  zl : ∀ l ∈ left, at' l p = 0
  sp : ∀ x, Sp m L x ↔ Sp m (row :: left) x
/-- so many places cleared -/
structure Half (m k : Nat) (R F L : List (List Int)) : Prop where
  fl : F.length = k
  ll : L.length + k = m
  lnF : Ln m F
  lnL : Ln m L
  sp : ∀ x, Sp m R x ↔ Sp m (F ++ L) x
  lo : ∀ i, i < k → ∀ j, j < i → ent' F i j = 0
  dg : ∀ i, i < k → 0 < ent' F i i
  zl : ∀ r ∈ L, ∀ j, j < k → at' r j = 0
/-- each place's multiples of a number are points -/
def Full (m : Nat) (c : Int) (R : List (List Int)) : Prop := ∀ v : List Int, ∀ j, j < m → v.length = m → (∀ i, i < m → i ≠ j → at' v i = 0) → at' v j = c → Sp m R v
/-- a number at one place alone -/
def unit (m j : Nat) (c : Int) : List Int := (zero m).set j c
theorem unit_len {m j : Nat} {c : Int} : (unit m j c).length = m := by unfold unit; rw [List.length_set, zero_len]
theorem unit_at {m j i : Nat} {c : Int} (hj : j < m) : at' (unit m j c) i = if i = j then c else 0 := by
  unfold unit
  by_cases h : i = j
  · subst h
    unfold at'; rw [List.getElem?_set_self (by rw [zero_len]; exact hj), if_pos rfl]; rfl
  · rw [if_neg h]
    unfold at'; rw [List.getElem?_set_ne (by omega)]
    exact at_zero
theorem Full.unit {m j : Nat} {c : Int} {R : List (List Int)} (h : Full m c R) (hj : j < m) : Sp m R (unit m j c) :=
  h _ j hj unit_len (fun i _ hne => by rw [unit_at hj, if_neg hne]) (by rw [unit_at hj, if_pos rfl])
section
variable {m k : Nat} {R F L : List (List Int)}
theorem Half.start (h : Ln m R) (hl : R.length = m) : Half m 0 R [] R :=
  ⟨rfl, hl, fun r hr => (by cases hr), h, fun x => Iff.rfl, fun i hi => absurd hi (Nat.not_lt_zero i), fun i hi => absurd hi (Nat.not_lt_zero i), fun r _ j hj => absurd hj (Nat.not_lt_zero j)⟩
theorem ent_app {i j : Nat} (h : i < F.length) : ent' (F ++ L) i j = ent' F i j := by unfold ent'; rw [List.getElem?_append_left h]
theorem ent_app2 {i j : Nat} (h : F.length ≤ i) : ent' (F ++ L) i j = ent' L (i - F.length) j := by unfold ent'; rw [List.getElem?_append_right h]
theorem mem_ent {r : List Int} (h : r ∈ F) : ∃ i, i < F.length ∧ ∀ j, at' r j = ent' F i j := by
  obtain ⟨i, hi, e⟩ := List.mem_iff_getElem.mp h
  exact ⟨i, hi, fun j => by unfold ent'; rw [List.getElem?_eq_getElem hi, ← e]; rfl⟩
/-- some row that is left has a number at the next place -/
theorem Half.some (h : Half m k R F L) (hk : k < m) {c : Int} (hc : c ≠ 0) (hf : Full m c R) : ∃ i, i < L.length ∧ ent' L i k ≠ 0 := by
  refine Classical.byContradiction fun no => ?_
  have s := (h.sp _).mp (hf.unit hk)
  have s2 : Sp m L (BO.unit m k c) := strip F 0 h.lnF h.lnL (fun i hi => by have := h.dg i (by have := h.fl; omega); rw [Nat.zero_add]; omega) (fun i hi r hr => by
    rw [Nat.zero_add]
    have hik : i < k := by have := h.fl; omega
    rcases List.mem_append.mp hr with d | d
    · obtain ⟨t, ht, rfl⟩ := List.mem_iff_getElem.mp d
      rw [List.getElem_drop]
      rw [List.length_drop] at ht
      have := h.lo (i + 1 + t) (by have := h.fl; omega) i (by omega)
      unfold ent' at this
      rw [List.getElem?_eq_getElem (by omega)] at this
      exact this
    · exact h.zl r d i hik) s (fun i hi => by rw [Nat.zero_add, unit_at hk, if_neg (by have := h.fl; omega)])
  have z := s2.col h.lnL (j := k) fun r hr => by
    obtain ⟨i, hi, e⟩ := mem_ent hr
    rw [e]
    exact Classical.byContradiction fun q => no ⟨i, hi, q⟩
  rw [unit_at hk, if_pos rfl] at z
  exact hc z
theorem Half.next (h : Half m k R F L) {row : List Int} {left : List (List Int)} (hk : k < m) (c : Clr m k L row left) : Half m (k + 1) R (F ++ [row]) left := by
  have rz : ∀ j, j < k → at' row j = 0 := fun j hj => Sp.col h.lnL (fun r hr => h.zl r hr j hj) ((c.sp row).mpr (.row List.mem_cons_self))
  have hF := h.fl
  refine ⟨by simp [hF], ?_, ?_, c.ln, ?_, ?_, ?_, ?_⟩
  · have := c.len; have := h.ll; omega
  · intro r hr
    rcases List.mem_append.mp hr with d | d
    · exact h.lnF r d
    · rw [List.mem_singleton.mp d]; exact c.rl
  · intro x
    rw [h.sp x, List.append_assoc]
    constructor
    · refine Sp.mono fun r hr => ?_
      rcases List.mem_append.mp hr with d | d
      · exact .row (List.mem_append_left _ d)
      · exact ((c.sp r).mp (.row d)).sub fun y hy => List.mem_append_right _ (by simpa using hy)
    · refine Sp.mono fun r hr => ?_
      rcases List.mem_append.mp hr with d | d
      · exact .row (List.mem_append_left _ d)
      · exact ((c.sp r).mpr (.row (by simpa using d))).sub fun y hy => List.mem_append_right _ hy
  · intro i hi j hj
    by_cases e : i < k
    · rw [ent_app (by omega)]; exact h.lo i e j hj
    · rw [ent_app2 (by omega), show i - F.length = 0 by omega]
      exact rz j (by omega)
  · intro i hi
    by_cases e : i < k
    · rw [ent_app (by omega)]; exact h.dg i e
    · rw [ent_app2 (by omega), show i - F.length = 0 by omega]
      have : i = k := by omega
      rw [this]; exact c.dg
  · intro r hr j hj
    by_cases e : j < k
    · exact Sp.col h.lnL (fun r hr => h.zl r hr j e) ((c.sp r).mpr (.row (List.mem_cons_of_mem _ hr)))
    · rw [show j = k by omega]; exact c.zl r hr
theorem Half.done (h : Half m m R F L) : L = [] ∧ Tri m F ∧ ∀ x, Sp m R x ↔ Sp m F x := by
  have : L = [] := List.eq_nil_of_length_eq_zero (by have := h.ll; omega)
  subst this
  exact ⟨rfl, ⟨h.fl, h.lnF, fun k j hk hj => h.lo k hk j hj, h.dg⟩, fun x => by rw [h.sp x, List.append_nil]⟩
/-! the numbers above made small -/
def redAt (F : List (List Int)) (p k : Nat) : List (List Int) := F.set k (red p (F[p]?.getD []) (F[k]?.getD []))
theorem ent_set {i j : Nat} {r : List Int} (hk : k < F.length) : ent' (F.set k r) i j = if i = k then at' r j else ent' F i j := by
  unfold ent'
  by_cases h : i = k
  · subst h; rw [List.getElem?_set_self hk, if_pos rfl]; rfl
  · rw [List.getElem?_set_ne (by omega), if_neg h]
theorem red_ent {p i j : Nat} (h : Tri m F) (hp : p < m) (hk : k < p) : ent' (redAt F p k) i j = if i = k then ent' F k j - (ent' F k p).fdiv (ent' F p p) * ent' F p j else ent' F i j := by
  have hl := h.len
  have l1 := h.ln.get (k := k) (by omega)
  have l2 := h.ln.get (k := p) (by omega)
  unfold redAt
  rw [ent_set (by omega), red_at (by omega)]
  rfl
theorem red_tri {p : Nat} (h : Tri m F) (hp : p < m) (hk : k < p) : Tri m (redAt F p k) := by
  have hl := h.len
  have l1 := h.ln.get (k := k) (by omega)
  have l2 := h.ln.get (k := p) (by omega)
  refine ⟨by unfold redAt; rw [List.length_set]; exact hl, fun r hr => ?_, fun i j hi hj => ?_, fun i hi => ?_⟩
  · rcases List.mem_or_eq_of_mem_set hr with c | c
    · exact h.ln r c
    · rw [c, red_len (by omega)]; exact l2
  · rw [red_ent h hp hk]
    split
    · rename_i e; subst e
      rw [h.lo i j hi hj, h.lo p j hp (by omega)]; simp
    · exact h.lo i j hi hj
  · rw [red_ent h hp hk]
    split
    · rename_i e; subst e
      rw [h.lo p i hp hk, Int.mul_zero, Int.sub_zero]; exact h.dg i hi
    · exact h.dg i hi
theorem red_sp {p : Nat} (h : Tri m F) (hp : p < m) (hk : k < p) (x : List Int) : Sp m F x ↔ Sp m (redAt F p k) x := by
  have hl := h.len
  have l1 := h.ln.get (k := k) (by omega)
  have l2 := h.ln.get (k := p) (by omega)
  have mp : F[p]?.getD [] ∈ redAt F p k := by
    have : (redAt F p k)[p]?.getD [] = F[p]?.getD [] := by unfold redAt; rw [List.getElem?_set_ne (by omega)]
    rw [← this]; exact get_mem (by unfold redAt; rw [List.length_set]; omega)
  have mk : red p (F[p]?.getD []) (F[k]?.getD []) ∈ redAt F p k := by unfold redAt; exact List.mem_set (by omega) _
  constructor
  · refine Sp.mono fun r hr => ?_
    obtain ⟨i, hi, rfl⟩ := List.mem_iff_getElem.mp hr
    by_cases e : i = k
    · subst e
      have e1 : F[i] = F[i]?.getD [] := by rw [List.getElem?_eq_getElem hi]; rfl
      rw [e1]
      have s3 := Sp.less (m := m) (-((ent' F i p).fdiv (ent' F p p))) (.row mk) (.row mp)
      have e2 : less (red p (F[p]?.getD []) (F[i]?.getD [])) (-((ent' F i p).fdiv (ent' F p p))) (F[p]?.getD []) = F[i]?.getD [] := by
        have q1 : (red p (F[p]?.getD []) (F[i]?.getD [])).length = (F[p]?.getD []).length := red_len (by omega)
        refine ext' (by rw [less_len q1]; omega) fun j _ => ?_
        rw [at_less q1, red_at (by omega)]
        unfold ent'; grind
      rwa [e2] at s3
    · refine .row ?_
      have : (redAt F p k)[i]? = some F[i] := by unfold redAt; rw [List.getElem?_set_ne (by omega), List.getElem?_eq_getElem hi]
      exact List.mem_of_getElem? this
  · refine Sp.mono fun r hr => ?_
    rcases List.mem_or_eq_of_mem_set hr with c | c
    · exact .row c
    · rw [c]; exact .less _ (.row (get_mem (by omega))) (.row (get_mem (by omega)))
/-- the places ahead of p are small above, at p those of the first k rows -/
structure Up (m p k : Nat) (R F : List (List Int)) (B0 B B' : Nat) : Prop where
  tri : Tri m F
  sp : ∀ x, Sp m R x ↔ Sp m F x
  up : ∀ q, q < p → ∀ j, j < q → 0 ≤ ent' F j q ∧ ent' F j q < ent' F q q
  upk : ∀ j, j < k → 0 ≤ ent' F j p ∧ ent' F j p < ent' F p p
  b0 : ∀ i, p ≤ i → ∀ j, (ent' F i j).natAbs ≤ B0
  b : ∀ i, k ≤ i → ∀ j, (ent' F i j).natAbs ≤ B
  b' : ∀ i, i < k → ∀ j, (ent' F i j).natAbs ≤ B'
theorem Up.next {p : Nat} {B0 B B' : Nat} (h : Up m p k R F B0 B B') (hp : p < m) (hk : k < p) (h1 : 1 ≤ B0) (h2 : 1 ≤ B) (hB : 3 * (B * B0) ≤ B') : Up m p (k + 1) R (redAt F p k) B0 B B' := by
  have hl := h.tri.len
  have d := h.tri.dg p hp
  refine ⟨red_tri h.tri hp hk, fun x => (h.sp x).trans (red_sp h.tri hp hk x), fun q hq j hj => ?_, fun j hj => ?_, fun i hi j => ?_, fun i hi j => ?_, fun i hi j => ?_⟩
  · rw [red_ent h.tri hp hk, red_ent h.tri hp hk]
    have u := h.up q hq j hj
    have e : (if q = k then ent' F k q - (ent' F k p).fdiv (ent' F p p) * ent' F p q else ent' F q q) = ent' F q q := by
      split
      · rename_i e; subst e; rw [h.tri.lo p q hp hk, Int.mul_zero, Int.sub_zero]
      · rfl
    rw [e]
    split
    · rename_i e; subst e; rw [h.tri.lo p q hp hq, Int.mul_zero, Int.sub_zero]; exact u
    · exact u
  · rw [red_ent h.tri hp hk, red_ent h.tri hp hk, if_neg (show ¬ p = k by omega)]
    split
    · rename_i e; subst e
      have f := fd_eq (ent' F j p) (ent' F p p)
      have g := (fmod_posi (a := ent' F j p) (b := ent' F p p) d).1
      have m1 := Int.emod_nonneg (ent' F j p) (b := ent' F p p) (by omega)
      have m2 := Int.emod_lt_of_pos (ent' F j p) (b := ent' F p p) d
      omega
    · exact h.upk j (by omega)
  · rw [red_ent h.tri hp hk, if_neg (by omega)]; exact h.b0 i hi j
  · rw [red_ent h.tri hp hk, if_neg (by omega)]; exact h.b i (by omega) j
  · rw [red_ent h.tri hp hk]
    split
    · have a := h.b k (Nat.le_refl _) j
      have a2 := h.b k (Nat.le_refl _) p
      have b := h.b0 p (Nat.le_refl _) j
      have q := fdiv_any (a := ent' F k p) (b := ent' F p p) (by omega)
      have q2 : (ent' F k p).natAbs / (ent' F p p).natAbs ≤ (ent' F k p).natAbs := Nat.div_le_self _ _
      have q3 : ((ent' F k p).fdiv (ent' F p p) * ent' F p j).natAbs ≤ (B + 1) * B0 := by rw [Int.natAbs_mul]; exact Nat.mul_le_mul (by omega) b
      have q4 : (B + 1) * B0 = B * B0 + B0 := by rw [Nat.add_mul, Nat.one_mul]
      have q5 : B ≤ B * B0 := Nat.le_mul_of_pos_right _ h1
      have q6 : B0 ≤ B * B0 := Nat.le_mul_of_pos_left _ h2
      omega
    · exact h.b' i (by omega) j
theorem Up.place {p : Nat} {B0 B B' B'' : Nat} (h : Up m p p R F B0 B B') (hB : B ≤ B') (hp : p < m) : Up m (p + 1) 0 R F B0 B' B'' := by
  refine ⟨h.tri, h.sp, fun q hq j hj => ?_, fun j hj => absurd hj (Nat.not_lt_zero _), fun i hi => h.b0 i (by omega), fun i _ j => ?_, fun i hi => absurd hi (Nat.not_lt_zero _)⟩
  · by_cases e : q < p
    · exact h.up q e j hj
    · have : q = p := by omega
      subst this; exact h.upk j hj
  · by_cases e : i < p
    · exact h.b' i e j
    · exact Nat.le_trans (h.b i (by omega) j) hB
theorem Up.done {B0 B B' : Nat} (h : Up m m 0 R F B0 B B') : Stair m F := ⟨h.tri, fun j k hk hj => h.up k hk j hj⟩
/-- each number on the stair goes into what is full -/
theorem Tri.full {c : Int} (h : Tri m F) (hf : Full m c F) (hk : k < m) : ent' F k k ∣ c := by
  have := h.dvd (hf.unit hk) hk fun j hj => by rw [unit_at hk, if_neg (by omega)]
  rwa [unit_at hk, if_pos rfl] at this
end
end BO

namespace BO
open SG
/-! ### loops by what holds at each turn -/
section
variable {G : Gt} {nm : Nm} {tg : List Nat} {w : Bool} {t : Ss}
theorem fl_inv0 (P : Nat → Rho → Prop) : ∀ (xs : List PV) (i : Nat) (ρ : Rho), (∀ j x, xs[j]? = some x → ∀ ρ, P (i + j) ρ → ∃ ρ1 ρ2, setT w tg x ρ = .ok ρ1 ∧ eSs G nm ρ1 t = .nx ρ2 ∧ P (i + j + 1) ρ2) → P i ρ → ∃ ρ', fl G nm tg w t xs ρ = .nx ρ' ∧ P (i + xs.length) ρ'
  | [], i, ρ, _, h => ⟨ρ, fl_nil, h⟩
  | x :: xs, i, ρ, hs, h => by
    obtain ⟨ρ1, ρ2, e1, e2, h2⟩ := hs 0 x rfl ρ h
    obtain ⟨ρ', e, h'⟩ := fl_inv0 P xs (i + 1) ρ2 (fun j y hy ρ hp => by
      have := hs (j + 1) y (by simpa using hy) ρ (by rwa [show i + (j + 1) = i + 1 + j by omega])
      rwa [show i + (j + 1) + 1 = i + 1 + j + 1 by omega] at this) h2
    exact ⟨ρ', fl_end e1 e2 e, by rw [List.length_cons, show i + (xs.length + 1) = i + 1 + xs.length by omega]; exact h'⟩
theorem fl_inv (P : Nat → Rho → Prop) {xs : List PV} {ρ : Rho} (h : P 0 ρ) (hs : ∀ j x, xs[j]? = some x → ∀ ρ, P j ρ → ∃ ρ1 ρ2, setT w tg x ρ = .ok ρ1 ∧ eSs G nm ρ1 t = .nx ρ2 ∧ P (j + 1) ρ2) : ∃ ρ', fl G nm tg w t xs ρ = .nx ρ' ∧ P xs.length ρ' := by
  have := fl_inv0 (G := G) (nm := nm) (tg := tg) (w := w) (t := t) P xs 0 ρ (fun j x hx ρ hp => by rw [Nat.zero_add] at hp ⊢; exact hs j x hx ρ hp) h
  rwa [Nat.zero_add] at this
/-- over whole numbers from 0 on -/
theorem fl_rng (P : Nat → Rho → Prop) {n : Nat} {ρ : Rho} (h : P 0 ρ) (hs : ∀ j, j < n → ∀ ρ, P j ρ → ∃ ρ1 ρ2, setT w tg (.int (j : Int)) ρ = .ok ρ1 ∧ eSs G nm ρ1 t = .nx ρ2 ∧ P (j + 1) ρ2) : ∃ ρ', fl G nm tg w t (rngL 0 n) ρ = .nx ρ' ∧ P n ρ' := by
  have := fl_inv (G := G) (nm := nm) (tg := tg) (w := w) (t := t) (xs := rngL 0 n) P h (fun j x hx ρ hp => by
    rw [rng_list, List.getElem?_map] at hx
    by_cases hj : j < n
    · rw [List.getElem?_range hj] at hx
      injection hx with hx
      subst hx
      exact hs j hj ρ hp
    · rw [List.getElem?_eq_none (by rw [List.length_range]; omega)] at hx; cases hx)
  have e : (rngL 0 n).length = n := by rw [rng_list]; simp
  rwa [e] at this
theorem fl_out0 (P : Nat → Rho → Prop) (Q : PV → Prop) : ∀ (xs : List PV) (i : Nat) (ρ : Rho), (∀ j x, xs[j]? = some x → ∀ ρ, P (i + j) ρ → ∃ ρ1, setT w tg x ρ = .ok ρ1 ∧ ((∃ ρ2, eSs G nm ρ1 t = .nx ρ2 ∧ P (i + j + 1) ρ2) ∨ ∃ v, eSs G nm ρ1 t = .ret v ∧ Q v)) → P i ρ → (∃ ρ', fl G nm tg w t xs ρ = .nx ρ' ∧ P (i + xs.length) ρ') ∨ ∃ v, fl G nm tg w t xs ρ = .ret v ∧ Q v
  | [], i, ρ, _, h => .inl ⟨ρ, fl_nil, h⟩
  | x :: xs, i, ρ, hs, h => by
    obtain ⟨ρ1, e1, ⟨ρ2, e2, h2⟩ | ⟨v, e2, h2⟩⟩ := hs 0 x rfl ρ h
    · rcases fl_out0 P Q xs (i + 1) ρ2 (fun j y hy ρ hp => by
        have := hs (j + 1) y (by simpa using hy) ρ (by rwa [show i + (j + 1) = i + 1 + j by omega])
        rwa [show i + (j + 1) + 1 = i + 1 + j + 1 by omega] at this) h2 with ⟨ρ', e, h'⟩ | ⟨v, e, h'⟩
      · exact .inl ⟨ρ', fl_end e1 e2 e, by rw [List.length_cons, show i + (xs.length + 1) = i + 1 + xs.length by omega]; exact h'⟩
      · exact .inr ⟨v, fl_end e1 e2 e, h'⟩
    · refine .inr ⟨v, ?_, h2⟩
      rw [fl_cons, e1]
      show (eSs G nm ρ1 t).seq _ = _
      rw [e2]; rfl
/-- the same, where a turn may return -/
theorem fl_out (P : Nat → Rho → Prop) (Q : PV → Prop) {xs : List PV} {ρ : Rho} (h : P 0 ρ) (hs : ∀ j x, xs[j]? = some x → ∀ ρ, P j ρ → ∃ ρ1, setT w tg x ρ = .ok ρ1 ∧ ((∃ ρ2, eSs G nm ρ1 t = .nx ρ2 ∧ P (j + 1) ρ2) ∨ ∃ v, eSs G nm ρ1 t = .ret v ∧ Q v)) :
    (∃ ρ', fl G nm tg w t xs ρ = .nx ρ' ∧ P xs.length ρ') ∨ ∃ v, fl G nm tg w t xs ρ = .ret v ∧ Q v := by
  have := fl_out0 (G := G) (nm := nm) (tg := tg) (w := w) (t := t) P Q xs 0 ρ (fun j x hx ρ hp => by rw [Nat.zero_add] at hp ⊢; exact hs j x hx ρ hp) h
  rwa [Nat.zero_add] at this
end
theorem last {G : Gt} {nm : Nm} {ρ : Rho} {s : S} {o : Out} (h : eS G nm ρ s = o) : eSs G nm ρ (.cons s .nil) = o := by
  rw [eSs_cons, h]
  cases o <;> simp
theorem for_st {G : Gt} {nm : Nm} {ρ : Rho} {f tg : List Nat} {w : Bool} {it : It} {b : Ss} {xs : List PV} {o : Out} (hi : eI G (frzA f ρ) it = .ok xs) (h : fl G nm tg w b xs (frzA f ρ) = o) : eS G nm ρ (.for f tg w it b) = o := by
  rw [eS_for, hi]; exact h
theorem neV_rows {y t : Bool} {a b : List (List Int)} : neV' (rowsV y a) (rowsV t b) = .ok (.bl (!decide (a = b))) := by
  unfold neV' eqP; rw [Rs.when_pos ⟨lv_rows.ok (by decide), lv_rows.ok (by decide)⟩, eqD_rows]
theorem neV_tup {a b : List Int} : neV' (tupI a) (tupI b) = .ok (.bl (!decide (a = b))) := by
  unfold neV' eqP; rw [Rs.when_pos ⟨lv_tupI.ok (by decide), lv_tupI.ok (by decide)⟩, eqD_tup]
def lstI (y : Bool) (r : List Int) : PV := .lst y (r.map PV.int)
/-- comprehensions that tell whole numbers, or tuples of them -/
theorem cm_rngI {G : Gt} {ρ : Rho} {own tg : List Nat} {w : Bool} {elt : E} {n : Nat} (f : Nat → Int) (h : ∀ j, j < n → ((setT w tg (.int (j : Int)) (wipeS ρ own)).bind fun ρ1 => eE G ρ1 elt) = .ok (.int (f j))) (hn : n ≤ 1000) :
    cm G ρ own tg w elt (rngL 0 n) = .ok (lstI true ((List.range n).map f)) := by
  rw [cm_rng (fun j => .int (f j)) h hn]; unfold lstI; rw [List.map_map]; rfl
theorem cm_rngT {G : Gt} {ρ : Rho} {own tg : List Nat} {w : Bool} {elt : E} {n : Nat} (f : Nat → List Int) (h : ∀ j, j < n → ((setT w tg (.int (j : Int)) (wipeS ρ own)).bind fun ρ1 => eE G ρ1 elt) = .ok (tupI (f j))) (hn : n ≤ 1000) :
    cm G ρ own tg w elt (rngL 0 n) = .ok (rowsV true ((List.range n).map f)) := by
  rw [cm_rng (fun j => tupI (f j)) h hn]; unfold rowsV; rw [List.map_map]; rfl
theorem cm_intI {G : Gt} {ρ : Rho} {own tg : List Nat} {w : Bool} {elt : E} {l : List Int} (f : Int → Int) (h : ∀ a ∈ l, ((setT w tg (.int a) (wipeS ρ own)).bind fun ρ1 => eE G ρ1 elt) = .ok (.int (f a))) (hn : l.length ≤ 1000) :
    cm G ρ own tg w elt (l.map PV.int) = .ok (lstI true (l.map f)) := by
  rw [cm_of (l := l) PV.int (fun a => .int (f a)) invInt (fun _ => rfl) h hn]; unfold lstI; rw [List.map_map]; rfl
theorem cm_tupsI {G : Gt} {ρ : Rho} {own tg : List Nat} {w : Bool} {elt : E} {l : List (List Int)} (f : List Int → Int) (h : ∀ a ∈ l, ((setT w tg (tupI a) (wipeS ρ own)).bind fun ρ1 => eE G ρ1 elt) = .ok (.int (f a))) (hn : l.length ≤ 1000) :
    cm G ρ own tg w elt (l.map tupI) = .ok (lstI true (l.map f)) := by
  rw [cm_of (l := l) tupI (fun a => .int (f a)) invTup invTup_tupI h hn]; unfold lstI; rw [List.map_map]; rfl
theorem cm_tupsT {G : Gt} {ρ : Rho} {own tg : List Nat} {w : Bool} {elt : E} {l : List (List Int)} (f : List Int → List Int) (h : ∀ a ∈ l, ((setT w tg (tupI a) (wipeS ρ own)).bind fun ρ1 => eE G ρ1 elt) = .ok (tupI (f a))) (hn : l.length ≤ 1000) :
    cm G ρ own tg w elt (l.map tupI) = .ok (rowsV true (l.map f)) := by
  rw [cm_of (l := l) tupI (fun a => tupI (f a)) invTup invTup_tupI h hn]; unfold rowsV; rw [List.map_map]; rfl
theorem lv_lstI {y : Bool} {r : List Int} : Lv 1 (lstI y r) := Lv.lst fun x hx => by obtain ⟨i, _, rfl⟩ := List.mem_map.mp hx; exact Lv.int
theorem eqD_lstI {y t : Bool} {a b : List Int} : PySem.PyData.eqv (lstI y a).toD (lstI t b).toD = decide (a = b) := by
  unfold lstI
  simp only [PV.toD, PySem.PyData.eqv, toDs_map, List.map_map]
  exact eqv_all (f := PV.toD ∘ PV.int) fun x _ y => by simp only [Function.comp, PV.toD]; exact eqv_int
theorem eqV_lstI {y t : Bool} {a b : List Int} : eqV' (lstI y a) (lstI t b) = .ok (.bl (decide (a = b))) := by
  unfold eqV' eqP; rw [Rs.when_pos ⟨lv_lstI.ok (by decide), lv_lstI.ok (by decide)⟩, eqD_lstI]
theorem neV_lstI {y t : Bool} {a b : List Int} : neV' (lstI y a) (lstI t b) = .ok (.bl (!decide (a = b))) := by
  unfold neV' eqP; rw [Rs.when_pos ⟨lv_lstI.ok (by decide), lv_lstI.ok (by decide)⟩, eqD_lstI]
theorem old_lstI {y : Bool} {r : List Int} : (lstI y r).old = lstI false r := by unfold lstI; simp only [PV.old]; rw [old_ints]
theorem dot_range : ∀ {a b : List Int}, a.length = b.length → ((List.range a.length).map fun k => at' a k * at' b k).sum = dot a b
  | [], [], _ => rfl
  | x :: a, y :: b, h => by
    rw [List.length_cons, List.range_succ_eq_map, List.map_cons, List.map_map, List.sum_cons, dot_cons, ← dot_range (a := a) (b := b) (by simpa using h)]
    rfl
  | [], _ :: _, h => by simp at h
  | _ :: _, [], h => by simp at h
theorem ix_tup {r : List Int} {k : Nat} (h : k < r.length) : ixV (tupI r) (.int (k : Int)) = .ok (.int (at' r k)) := by
  unfold tupI at'
  exact ixV_tup (by rw [List.getElem?_map, List.getElem?_eq_getElem h]; rfl)
theorem ix_lstI {y : Bool} {r : List Int} {k : Nat} (h : k < r.length) : ixV (lstI y r) (.int (k : Int)) = .ok (.int (at' r k)) := by
  unfold lstI at'
  exact ixV_lst (by rw [List.getElem?_map, List.getElem?_eq_getElem h]; rfl)
theorem ix_rows {y : Bool} {R : List (List Int)} {k : Nat} (h : k < R.length) : ixV (rowsV y R) (.int (k : Int)) = .ok (tupI (R[k]?.getD [])) := by
  unfold rowsV
  exact ixV_lst (by rw [List.getElem?_map, List.getElem?_eq_getElem h]; rfl)
theorem len_tup {r : List Int} : lenV (tupI r) = .ok (.int (r.length : Int)) := by unfold tupI; rw [lenV_tup, List.length_map]
theorem len_lstI {y : Bool} {r : List Int} : lenV (lstI y r) = .ok (.int (r.length : Int)) := by unfold lstI; rw [lenV_lst, List.length_map]
theorem len_rows {y : Bool} {R : List (List Int)} : lenV (rowsV y R) = .ok (.int (R.length : Int)) := by unfold rowsV; rw [lenV_lst, List.length_map]
theorem items_tup {r : List Int} : itemsV (tupI r) = .ok (r.map PV.int) := rfl
theorem items_lstI {y : Bool} {r : List Int} : itemsV (lstI y r) = .ok (r.map PV.int) := rfl
theorem items_rows {y : Bool} {R : List (List Int)} : itemsV (rowsV y R) = .ok (R.map tupI) := rfl
theorem list_rows {y : Bool} {R : List (List Int)} : listV (rowsV y R) = .ok (rowsV true R) := rfl
theorem list_lstI {y : Bool} {r : List Int} : listV (lstI y r) = .ok (lstI true r) := rfl
theorem isi_rows {y : Bool} {R : List (List Int)} : isiV "list" (rowsV y R) = .ok (.bl true) := isi_ll
theorem isi_lstI {y : Bool} {r : List Int} : isiV "list" (lstI y r) = .ok (.bl true) := isi_ll
theorem isi_tupI {r : List Int} : isiV "tuple" (tupI r) = .ok (.bl true) := isi_tt
/-- a product may be made -/
def MulAll (a b : List Int) : Prop := ∀ k, MulOk (at' a k) (at' b k)
theorem MulAll.l {a b : List Int} (h : ∀ x ∈ a, Sm x) : MulAll a b := fun k => by
  by_cases e : k < a.length
  · exact .inl (by have := h _ (at_mem e); unfold Sm at this; exact this)
  · rw [at_out (by omega)]; exact .inl (by decide)
theorem MulAll.r {a b : List Int} (h : ∀ x ∈ b, Sm x) : MulAll a b := fun k => by
  by_cases e : k < b.length
  · exact .inr (.inl (by have := h _ (at_mem e); unfold Sm at this; exact this))
  · rw [at_out (p := b) (by omega)]; exact .inr (.inl (by decide))
end BO

namespace BO
open SG
section
variable {B : PySem.Str → Option FI} {nm : Nm}
theorem law_inner (hB : B "_law_inner" = some fi__law_inner) {l : Nat} {a b : List Int} (hl : a.length = b.length) (hn : a.length ≤ 1000) (hm : MulAll a b) : callF B nm (l + 1) "_law_inner" [tupI a, tupI b] = .ok (.int (dot a b)) := by
  rw [callF_eq hB]
  refine runF_ret rfl ?_
  have e0 : startR 4 (PV.olds [tupI a, tupI b]) = [.fz (tupI a), .fz (tupI b), .no, .no] := by simp [olds_cons, olds_nil, old_tupI, startR]
  rw [e0]
  have hc : cm (callF B nm l) [.fz (tupI a), .fz (tupI b), .no, .no] [2, 3] [3] true (.op .mul (.ixv 0 (.var 3)) (.ixv 1 (.var 3))) (rngL 0 a.length) = .ok (.lst true (((List.range a.length).map fun k => at' a k * at' b k).map PV.int)) := by
    rw [List.map_map]
    refine cm_rng _ (fun k hk => ?_) hn
    have x1 := ix_tup (r := a) hk
    have x2 := ix_tup (r := b) (k := k) (by omega)
    simp [wipeS, setT, x1, x2, mulV_int (hm k)]
  unfold b__law_inner
  simp [len_tup, rng_n hn, hc, sumV_ints, dot_range hl, -List.map_map]
/-- the law's own minors -/
def minor (R : List (List Int)) (k j : Nat) : List (List Int) := (butL R k).map (wo j)
def lbk (R : List (List Int)) : Int := if R = [] then 1 else blk R
def cof (R : List (List Int)) (k j : Nat) : Int := if (k + j) % 2 = 0 then lbk (minor R k j) else -lbk (minor R k j)
theorem tab_cof {n : Nat} {R : List (List Int)} (h : Rws n R) (hn1 : 1 ≤ n) (hn : n ≤ 3) : tab n (cof R) = cnt R := by
  rcases rws_cases h hn1 hn with ⟨rfl, a, rfl⟩ | ⟨rfl, a, b, c, d, rfl⟩ | ⟨rfl, a, b, c, d, e, f, g, h, i, rfl⟩
  · rfl
  · simp [tab, cof, minor, butL, wo, lbk, blk, cnt, List.range, List.range.loop]
  · simp [tab, cof, minor, butL, wo, lbk, blk, cnt, List.range, List.range.loop]
    grind
theorem wo_len {r : List Int} {j n : Nat} (h : r.length = n + 1) (hj : j ≤ n) : (wo j r).length = n := by unfold wo; simp; omega
theorem wo_mem {r : List Int} {j : Nat} {x : Int} (h : x ∈ wo j r) : x ∈ r := by
  rcases List.mem_append.mp h with c | c
  · exact List.mem_of_mem_take c
  · exact List.mem_of_mem_drop c
theorem minor_bulk (kn : Kn B) {l n : Nat} {m : Int} {R : List (List Int)} (h : Sq n m R) (hn1 : 1 ≤ n) (hn : n ≤ 3) (hm : m < 18446744073709551616) {k j : Nat} (hk : k < n) (hj : j < n) {y : Bool} :
    callF B nm (l + 4) "_law_bulk" [rowsV y (minor R k j)] = .ok (.int (lbk (minor R k j))) := by
  have ml : (minor R k j).length = n - 1 := by unfold minor; rw [List.length_map]; have := but_len (L := R) (k := k) (by rw [h.1]; exact hk); have := h.1; omega
  by_cases e : n = 1
  · have : minor R k j = [] := List.eq_nil_of_length_eq_zero (by omega)
    rw [this]
    exact lb_zero kn (l := l + 3)
  · have sq : Sq (n - 1) m (minor R k j) := ⟨ml, fun r hr => by
      obtain ⟨o, ho, rfl⟩ := List.mem_map.mp hr
      have q := h.2 o (but_mem ho)
      exact ⟨wo_len (by omega) (by omega), fun x hx => q.2 x (wo_mem hx)⟩⟩
    have ne : minor R k j ≠ [] := fun z => by rw [z] at ml; simp at ml; omega
    rw [law_bulk kn (sh_of_sq sq (by omega) (by omega) hm)]
    unfold lbk; rw [if_neg ne]
def lcIn : Ss := .cons (.asg [] 6 (.call "_law_bulk" (.cons (.comp [1, 7] [7] true (.val (.op .add (.slHiV 0 (.var 5)) (.slLoV 0 (.op .add (.var 5) (.int 1))))) (.call "_law_without" (.cons (.var 7) (.cons (.var 4) .nil)))) .nil))) (.cons (.app [] 2 (.ix (.lst (.cons (.var 6) (.cons (.neg (.var 6)) .nil))) (.op .mod (.op .add (.var 5) (.var 4)) (.int 2)))) .nil)
def lcOut : Ss := .cons (.asgM [] 2 (.lst .nil)) (.cons (.for [] [4] true (.rng1 (.bi .len (.cons (.var 0) .nil))) lcIn) (.cons (.app [2] 3 (.bi .tuple (.cons (.var 2) .nil))) .nil))
theorem but_rows {y : Bool} {R : List (List Int)} {k : Nat} (h : R.length ≤ 400) : ((slHiV (rowsV y R) (.int (k : Int))).bind fun p => (slLoV (rowsV y R) (.int ((k : Int) + 1))).bind fun q => addV p q) = .ok (rowsV true (butL R k)) := by
  rw [hi_rows, lo_rows, Rs.ok_bind, Rs.ok_bind]
  unfold rowsV butL
  rw [addV_lst (by simp; omega), List.map_append]
theorem sgn_ix {y : Bool} {x : Int} {k j : Nat} : ixV (.lst y [.int x, .int (-x)]) (.int (((k : Int) + (j : Int)).fmod 2)) = .ok (.int (if (k + j) % 2 = 0 then x else -x)) := by
  have m3 : ((k : Int) + (j : Int)).fmod 2 = (((k + j) % 2 : Nat) : Int) := by rw [fmod_pos (by decide)]; omega
  rw [m3]
  by_cases q : (k + j) % 2 = 0
  · rw [q, if_pos rfl]; exact ixV_lst (n := 0) rfl
  · rw [if_neg q, show (k + j) % 2 = 1 by omega]; exact ixV_lst (n := 1) rfl
theorem law_counters (kn : Kn B) (hB : B "_law_counters" = some fi__law_counters) {l n : Nat} {m : Int} {R : List (List Int)} {y : Bool} (h : Sq n m R) (hn1 : 1 ≤ n) (hn : n ≤ 3) (hm : m < 18446744073709551616) :
    callF B nm (l + 5) "_law_counters" [rowsV y R] = .ok (rowsV true (cnt R)) := by
  rw [callF_eq hB]
  refine runF_ret rfl ?_
  have e0 : startR 8 (PV.olds [rowsV y R]) = [.fz (rowsV false R), .no, .no, .no, .no, .no, .no, .no] := by simp [olds_cons, olds_nil, old_rows, startR]
  rw [e0, show b__law_counters = .cons (.asgM [] 3 (.lst .nil)) (.cons (.for [] [5] true (.rng1 (.bi .len (.cons (.var 0) .nil))) lcOut) (.cons (.ret [3] (.var 3)) .nil)) from rfl]
  have hR := h.1
  refine stage (ρ' := [.fz (rowsV false R), .no, .no, .own [], .no, .no, .no, .no]) (by simp [ownOr, PV.lfs, E.mk]) ?_
  obtain ⟨ρ', e, s2, s4, s5, s6, rfl⟩ := fl_rng (G := callF B nm (l + 4)) (nm := nmAt nm (l + 4)) (tg := [5]) (w := true) (t := lcOut) (n := n) (ρ := [.fz (rowsV false R), .no, .no, .own [], .no, .no, .no, .no])
    (fun k ρ => ∃ s2 s4 s5 s6, ρ = [.fz (rowsV false R), .no, s2, .own (((List.range k).map fun k => (List.range n).map fun j => cof R k j).map tupI), s4, s5, s6, .no]) ⟨_, _, _, _, rfl⟩ (fun k hk ρ ⟨s2, s4, s5, s6, e⟩ => by
      subst e
      refine ⟨_, [.fz (rowsV false R), .no, .fz (lstI true ((List.range n).map fun j => cof R k j)), .own (((List.range (k + 1)).map fun k => (List.range n).map fun j => cof R k j).map tupI), .fz (.int ((n - 1 : Nat) : Int)), .fz (.int (k : Int)), .fz (.int (lbk (minor R k (n - 1)))), .no], rfl, ?_, _, _, _, _, rfl⟩
      simp only [List.set_cons_succ, List.set_cons_zero]
      refine stage (ρ' := [.fz (rowsV false R), .no, .own [], .own (((List.range k).map fun k => (List.range n).map fun j => cof R k j).map tupI), s4, .fz (.int (k : Int)), s6, .no]) (by simp [ownOr, PV.lfs, E.mk]) ?_
      obtain ⟨ρ', e, s4, s6, rfl, hs⟩ := fl_rng (G := callF B nm (l + 4)) (nm := nmAt nm (l + 4)) (tg := [4]) (w := true) (t := lcIn) (n := n) (ρ := [.fz (rowsV false R), .no, .own [], .own (((List.range k).map fun k => (List.range n).map fun j => cof R k j).map tupI), s4, .fz (.int (k : Int)), s6, .no])
        (fun i ρ => ∃ s4 s6, ρ = [.fz (rowsV false R), .no, .own (((List.range i).map fun j => cof R k j).map PV.int), .own (((List.range k).map fun k => (List.range n).map fun j => cof R k j).map tupI), s4, .fz (.int (k : Int)), s6, .no] ∧ (0 < i → s4 = .fz (.int ((i - 1 : Nat) : Int)) ∧ s6 = .fz (.int (lbk (minor R k (i - 1)))))) ⟨_, _, rfl, fun z => absurd z (Nat.lt_irrefl 0)⟩ (fun j hj ρ ⟨s4, s6, e, _⟩ => by
          subst e
          refine ⟨_, [.fz (rowsV false R), .no, .own (((List.range (j + 1)).map fun j => cof R k j).map PV.int), .own (((List.range k).map fun k => (List.range n).map fun j => cof R k j).map tupI), .fz (.int (j : Int)), .fz (.int (k : Int)), .fz (.int (lbk (minor R k j))), .no], rfl, ?_, _, _, rfl, fun _ => ⟨by simp, by simp⟩⟩
          simp only [List.set_cons_succ, List.set_cons_zero]
          have hc : cm (callF B nm (l + 4)) [.fz (rowsV false R), .no, .own (((List.range j).map fun j => cof R k j).map PV.int), .own (((List.range k).map fun k => (List.range n).map fun j => cof R k j).map tupI), .fz (.int (j : Int)), .fz (.int (k : Int)), s6, .no] [1, 7] [7] true (.call "_law_without" (.cons (.var 7) (.cons (.var 4) .nil))) ((butL R k).map tupI) = .ok (rowsV true (minor R k j)) := by
            have e9 : rowsV true (minor R k j) = .lst true ((butL R k).map fun r => tupI (wo j r)) := by unfold minor rowsV; rw [List.map_map]; rfl
            rw [e9]
            refine cm_of (l := butL R k) tupI _ invTup invTup_tupI (fun r hr => ?_) (by have := but_len (L := R) (k := k) (by omega); omega)
            have w := without kn (nm := nm) (l := l + 3) (r := r) (k := j) (by rw [(h.2 r (but_mem hr)).1]; omega)
            simp [wipeS, setT, w]
          have mb := minor_bulk kn (nm := nm) (l := l) h hn1 hn hm hk hj (y := true)
          have bb := but_rows (y := false) (R := R) (k := k) (by omega)
          have ll : j < PySem.sizeLine := lt_line (by omega)
          refine stage (ρ' := [.fz (rowsV false R), .no, .own (((List.range j).map fun j => cof R k j).map PV.int), .own (((List.range k).map fun k => (List.range n).map fun j => cof R k j).map tupI), .fz (.int (j : Int)), .fz (.int (k : Int)), .fz (.int (lbk (minor R k j))), .no]) ?_ ?_
          · have it : itemsV (rowsV true (butL R k)) = .ok ((butL R k).map tupI) := rfl
            simp [-List.map_map, -List.map_append]
            rw [bb]
            simp [it, hc, mb, -List.map_map]
          · refine last ?_
            rw [List.range_succ, List.map_append, List.map_append]
            simp [sgn_ix, modV_int, ll, sz, -List.map_map]
            rfl)
      refine stage (ρ' := [.fz (rowsV false R), .no, .own (((List.range n).map fun j => cof R k j).map PV.int), .own (((List.range k).map fun k => (List.range n).map fun j => cof R k j).map tupI), s4, .fz (.int (k : Int)), s6, .no]) (by simpa [len_rows, hR, rng_n (show n ≤ 1000 by omega)] using e) ?_
      obtain ⟨h4, h6⟩ := hs (by omega)
      subst h4; subst h6
      have ll : k < PySem.sizeLine := lt_line (by omega)
      refine last ?_
      rw [List.range_succ, List.map_append, List.map_append]
      simp [ll, -List.map_map]
      exact ⟨rfl, rfl⟩)
  refine stage (ρ' := [.fz (rowsV false R), .no, s2, .own (((List.range n).map fun k => (List.range n).map fun j => cof R k j).map tupI), s4, s5, s6, .no]) (by simpa [len_rows, hR, rng_n (show n ≤ 1000 by omega)] using e) ?_
  refine stop ?_
  have t := tab_cof h.rws hn1 hn
  unfold tab at t
  rw [t]
  simp [rowsV]
end
end BO

namespace BO
open SG
section
variable {B : PySem.Str → Option FI} {nm : Nm}
theorem counters (kn : Kn B) (hB : B "need_rows" = some fi_need_rows) (hB2 : B "counters" = some fi_counters) {l n : Nat} {m : Int} {R : List (List Int)} {y : Bool} (h : Sq n m R) (hn1 : 1 ≤ n) (hn : n ≤ 3) (hm : m ≤ 1000000) (hb : blk R ≠ 0) :
    callF B nm (l + 6) "counters" [rowsV y R] = .ok (rowsV true (cnt R)) := by
  rw [callF_eq hB2]
  refine runF_ret rfl ?_
  have e0 : startR 1 (PV.olds [rowsV y R]) = [.fz (rowsV false R)] := by simp [olds_cons, olds_nil, old_rows, startR]
  have nr := need_rows_sq kn (nm := nm) hB (l := l) (y := false) h hn1 hn hm
  rw [if_neg hb] at nr
  have c := counters_of kn (nm := nm) (l := l + 3) (y := false) (sh_of_sq h hn1 hn (by omega))
  rw [e0]
  unfold b_counters
  simp [nr, c]
theorem bulk (kn : Kn B) (hB : B "bulk" = some fi_bulk) {l n : Nat} {m : Int} {R : List (List Int)} {y : Bool} (h : Sq n m R) (hn1 : 1 ≤ n) (hn : n ≤ 3) (hm : m ≤ 1000000) :
    callF B nm (l + 5) "bulk" [rowsV y R] = .ok (.int (blk R)) := by
  rw [callF_eq hB]
  refine runF_ret rfl ?_
  have e0 : startR 1 (PV.olds [rowsV y R]) = [.fz (rowsV false R)] := by simp [olds_cons, olds_nil, old_rows, startR]
  have g := good_rows (y := false) (R := R) fun r hr => by rw [(h.2 r hr).1]; omega
  have nl := need_lists kn (nm := nm) (l := l) (v := rowsV false R) g.1 g.2
  rw [ok_of_sq h hn1 hn hm] at nl
  have bo := bulk_of kn (nm := nm) (l := l + 1) (y := false) (sh_of_sq h hn1 hn (by omega))
  simp at nl
  rw [e0]
  unfold b_bulk
  simp [nl, bo]
/-- a list of tuples as told -/
theorem law_rows_told (kn : Kn B) (hB : B "_law_tuple" = some fi__law_tuple) (hB2 : B "_law_rows_told" = some fi__law_rows_told) {l n : Nat} {R : List (List Int)} {y : Bool} (h : Rws n R) (hn : n ≤ 1000) :
    callF B nm (l + 3) "_law_rows_told" [rowsV y R, .int (n : Int)] = .ok (.bl true) := by
  rw [callF_eq hB2]
  refine runF_ret rfl ?_
  have e0 : startR 4 (PV.olds [rowsV y R, .int (n : Int)]) = [.fz (rowsV false R), .fz (.int (n : Int)), .no, .no] := by simp [olds_cons, olds_nil, old_rows, PV.old, startR]
  rw [e0]
  have hc : cmIf (callF B nm (l + 2)) [.fz (rowsV false R), .fz (.int (n : Int)), .no, .no] [2, 3] [3] true (.not (.call "_law_tuple" (.cons (.var 3) (.cons (.var 1) .nil)))) (.var 3) (R.map tupI) = .ok (.lst true []) := by
    have := cmIf_map (G := callF B nm (l + 2)) (ρ := [.fz (rowsV false R), .fz (.int (n : Int)), .no, .no]) (own := [2, 3]) (tg := [3]) (w := true) (cc := .not (.call "_law_tuple" (.cons (.var 3) (.cons (.var 1) .nil)))) (elt := .var 3) (xs := R.map tupI) (fun _ => false) (fun x => x) (fun x hx => by
      obtain ⟨r, hr, rfl⟩ := List.mem_map.mp hx
      have lt := law_tuple kn (nm := nm) hB (l := l) (r := r) (by rw [h.2 r hr]; exact hn)
      rw [h.2 r hr] at lt
      simp [wipeS, setT, lt]) (fun x _ h => by cases h) (sz _ (by rw [List.length_map, h.1]; exact hn))
    exact this.trans (by simp)
  have t4 : eqV' (.lst true []) (.lst true []) = .ok (.bl true) := eqV_nil (n := 1) (Lv.lst (n := 0) fun x hx => by cases hx) (by decide)
  unfold b__law_rows_told
  simp [isi_rows, len_rows, h.1, items_rows, hc, t4]
end
end BO

namespace BO
open SG
theorem p12 : powV (.int 10) (.int 12) = .ok (.int 1000000000000) := powV_int (by decide)
theorem p20 : powV (.int 10) (.int 20) = .ok (.int 100000000000000000000) := powV_int (by decide)
section
variable {B : PySem.Str → Option FI} {nm : Nm} (kn : Kn B)
include kn
def moreI (ns : List Int) (k : Nat) : Int := (cellI ns k * 48271 + cellI ns (k % 5) * 16807 + 7919 * (k : Int) * (k : Int) + 12345).fmod 2147483647
theorem moreE {l : Nat} {ns : List Int} (k : Nat) (h2 : k < 1000) : callF B nm (l + 2) "_law_more" [.scr ns, .int (k : Int)] = .ok (.int (moreI ns k)) := by
  have hm : (k : Int).fmod 5 = ((k % 5 : Nat) : Int) := by rw [fmod_pos (by decide)]; omega
  have c1 := cell kn (nm := nm) (l := l) (ns := ns) k
  have c2 := cell kn (nm := nm) (l := l) (ns := ns) (k % 5)
  rw [← hm] at c2
  rw [callF_eq kn.more]
  unfold runF fi__law_more b__law_more
  have m1 : (7919 * (k : Int)).natAbs < 18446744073709551616 := by omega
  simp [olds_cons, olds_nil, PV.old, startR, modV_int, mulV_l, mulV_r, c1, c2, mulV_l m1, moreI]
theorem moreE' {l : Nat} {ns : List Int} {k a : Nat} (h2 : a + k < 1000) : callF B nm (l + 2) "_law_more" [.scr ns, .int ((a : Int) + (k : Int))] = .ok (.int (moreI ns (a + k))) := by
  have := moreE kn (nm := nm) (l := l) (ns := ns) (a + k) h2
  rwa [show ((a + k : Nat) : Int) = (a : Int) + (k : Int) by omega] at this
omit kn in
theorem more_in {ns : List Int} {k : Nat} : 0 ≤ moreI ns k ∧ moreI ns k < 2147483647 := mod_lt (by decide)
/-- the law's drawn number of directions -/
def manyN (ns : List Int) (d : Int) : Nat := (1 + ((cellI ns 0).fdiv d).fmod 3).toNat
omit kn in
theorem many_in {ns : List Int} {d : Int} : 1 ≤ manyN ns d ∧ manyN ns d ≤ 3 ∧ 1 + ((cellI ns 0).fdiv d).fmod 3 = (manyN ns d : Int) := by
  have := mod_lt (a := (cellI ns 0).fdiv d) (b := 3) (by decide)
  unfold manyN
  omega
theorem point_ok (hB : B "need_rows" = some fi_need_rows) (hB2 : B "point_of" = some fi_point_of) (hB3 : B "sum_of" = some fi_sum_of) {l n : Nat} {y t : Bool} {R : List (List Int)} {W : List Int} (h : Sq n 1000000 R) (hn1 : 1 ≤ n) (hn : n ≤ 3) (hb : blk R ≠ 0) (hW : W.length = n) (hb2 : ∀ x ∈ W, -1000000000000 ≤ x ∧ x ≤ 1000000000000) :
    callF B nm (l + 6) "point_of" [rowsV y R, lstI t W] = .ok (tupI ((List.range n).map (cj W R))) := by
  rw [callF_eq hB2]
  have nr := need_rows_sq kn (nm := nm) (l := l) (y := false) hB h hn1 hn (by decide)
  rw [if_neg hb] at nr
  have hl : lenV (rowsV false R) = .ok (.int (n : Int)) := by rw [len_rows, h.1]
  have N := numbers kn (nm := nm) (l := l + 2) (T := lstI false W) (n := (n : Int)) (m := 1000000000000) rfl (fun t ht => by obtain ⟨i, _, rfl⟩ := List.mem_map.mp ht; rfl) (by unfold seqB lstI; simp; omega)
  have e : (decide (((seqB (lstI false W)).length : Int) = (n : Int)) && (seqB (lstI false W)).all (amongB (-1000000000000) 1000000000000)) = true := by
    unfold seqB lstI; dsimp only
    rw [List.length_map, hW, decide_eq_true rfl, Bool.true_and, List.all_eq_true]
    intro x hx
    obtain ⟨i, hi, rfl⟩ := List.mem_map.mp hx
    have := hb2 i hi
    simp [amongB]; omega
  rw [e] at N
  have s := sum_of (B := B) (nm := nm) hB3 (l := l + 4) (W := W) (y := false) (t := false) h (by decide) hn1 hn
  unfold runF fi_point_of b_point_of
  have s' : callF B nm (l + 5) "sum_of" [rowsV false R, lstI false W] = .ok (tupI ((List.range n).map (cj W R))) := s
  simp [olds_cons, olds_nil, startR, old_rows, old_lstI, isi_lstI, nr, hl, N, s']
/-- a list of drawn weights -/
def drawW (ns : List Int) (a n : Nat) (P : Int) : List Int := (List.range n).map fun k => (moreI ns (a + k) * 1000003).fmod (2 * P + 1) - P
omit kn in
theorem drawW_len {ns : List Int} {a n : Nat} {P : Int} : (drawW ns a n P).length = n := by unfold drawW; simp
omit kn in
theorem drawW_in {ns : List Int} {a n : Nat} {P : Int} (h : 0 ≤ P) : ∀ x ∈ drawW ns a n P, -P ≤ x ∧ x ≤ P := fun x hx => by
  obtain ⟨k, _, rfl⟩ := List.mem_map.mp hx
  have := mod_lt (a := moreI ns (a + k) * 1000003) (b := 2 * P + 1) (by omega)
  omega
omit kn in
theorem sq_le {n : Nat} {m m' : Int} {R : List (List Int)} (h : Sq n m R) (hm : m ≤ m') : Sq n m' R := ⟨h.1, fun r hr => ⟨(h.2 r hr).1, fun x hx => by have := (h.2 r hr).2 x hx; omega⟩⟩
end
end BO

namespace BO
open SG
theorem most6 {i : Int} : ∃ M : Int, ixV (.lst true [.int 3, .int 9, .int 60, .int 1000, .int 1000000, .int 9]) (.int (i.fmod 6)) = .ok (.int M) ∧ 1 ≤ M ∧ M ≤ 1000000 := by
  obtain ⟨m6, hm6, e6⟩ := ix6 (p0 := .int 3) (p1 := .int 9) (p2 := .int 60) (p3 := .int 1000) (p4 := .int 1000000) (p5 := .int 9) (i := i) (y := true)
  obtain ⟨M, rfl, hM, hM2⟩ : ∃ M, m6 = .int M ∧ 1 ≤ M ∧ M ≤ 1000000 := by rcases hm6 with h | h | h | h | h | h <;> exact ⟨_, h, by decide⟩
  exact ⟨M, e6, hM, hM2⟩
theorem own_rows' {R : List (List Int)} : ownOr true (rowsV true R) = .own (R.map tupI) := own_rows
theorem own_lstI {W : List Int} : ownOr true (lstI true W) = .own (W.map PV.int) := by
  unfold ownOr lstI; dsimp only; rw [lfs_map fun i _ => by simp only [PV.lf]]; rfl
theorem cnt_sm {n : Nat} {m : Int} {R : List (List Int)} (h : Sq n m R) (hn1 : 1 ≤ n) (hn : n ≤ 3) (hm : m ≤ 1000000) : ∀ c ∈ cnt R, ∀ x ∈ c, Sm x := by
  have P := @prod_in
  rcases rws_cases h.rws hn1 hn with ⟨rfl, a, rfl⟩ | ⟨rfl, a, b, c, d, rfl⟩ | ⟨rfl, a, b, c, d, e, f, g, u, i, rfl⟩
  · intro c hc x hx
    simp [cnt] at hc; subst hc; simp at hx; subst hx; unfold Sm; decide
  · have q := h.2
    simp at q
    intro r hr x hx
    simp [cnt] at hr
    rcases hr with rfl | rfl <;> simp at hx <;> rcases hx with rfl | rfl <;> (unfold Sm; omega)
  · have q := h.2
    simp at q
    obtain ⟨⟨qa, qb, qc⟩, ⟨qd, qe, qf⟩, qg, qh, qi⟩ := q
    have b : ∀ {x : Int}, -m ≤ x ∧ x ≤ m → -1000000 ≤ x ∧ x ≤ 1000000 := fun h => by omega
    have two : ∀ {x y z w : Int}, -m ≤ x ∧ x ≤ m → -m ≤ y ∧ y ≤ m → -m ≤ z ∧ z ≤ m → -m ≤ w ∧ w ≤ m → Sm (x * y - z * w) := fun h1 h2 h3 h4 => by
      have p1 := prod_in (b h1) (b h2)
      have p2 := prod_in (b h3) (b h4)
      unfold Sm; omega
    intro r hr x hx
    simp [cnt] at hr
    rcases hr with rfl | rfl | rfl <;> simp at hx <;> rcases hx with rfl | rfl | rfl <;> (apply two <;> assumption)
/-- the bulk is no more than 6 * 10 ** 18 -/
theorem blk_in {n : Nat} {m : Int} {R : List (List Int)} (h : Sq n m R) (hn1 : 1 ≤ n) (hn : n ≤ 3) (hm : m ≤ 1000000) : -6000000000000000000 ≤ blk R ∧ blk R ≤ 6000000000000000000 := by
  rcases rws_cases h.rws hn1 hn with ⟨rfl, a, rfl⟩ | ⟨rfl, a, b, c, d, rfl⟩ | ⟨rfl, a, b, c, d, e, f, g, u, i, rfl⟩
  · have q := h.2
    simp at q
    simp [blk]; omega
  · have q := h.2
    simp at q
    obtain ⟨⟨qa, qb⟩, qc, qd⟩ := q
    have b : ∀ {x : Int}, -m ≤ x ∧ x ≤ m → -1000000 ≤ x ∧ x ≤ 1000000 := fun h => by omega
    have p1 := prod_in (b qa) (b qd)
    have p2 := prod_in (b qb) (b qc)
    simp [blk]; rw [Int.mul_neg]; omega
  · have q := h.2
    simp at q
    obtain ⟨⟨qa, qb, qc⟩, ⟨qd, qe, qf⟩, qg, qh, qi⟩ := q
    have b : ∀ {x : Int}, -m ≤ x ∧ x ≤ m → -1000000 ≤ x ∧ x ≤ 1000000 := fun h => by omega
    have two : ∀ {x y z w : Int}, -m ≤ x ∧ x ≤ m → -m ≤ y ∧ y ≤ m → -m ≤ z ∧ z ≤ m → -m ≤ w ∧ w ≤ m → -2000000000000 ≤ x * y - z * w ∧ x * y - z * w ≤ 2000000000000 := fun h1 h2 h3 h4 => by
      have p1 := prod_in (b h1) (b h2)
      have p2 := prod_in (b h3) (b h4)
      omega
    have p1 := prod_in (b qa) (two qe qi qf qh)
    have p2 := prod_in (b qb) (two qf qg qd qi)
    have p3 := prod_in (b qc) (two qd qh qe qg)
    simp [blk]; omega
theorem blk_sm {n : Nat} {m : Int} {R : List (List Int)} (h : Sq n m R) (hn1 : 1 ≤ n) (hn : n ≤ 3) (hm : m ≤ 1000000) : Sm (blk R) := by
  have := blk_in h hn1 hn hm
  unfold Sm; omega
end BO
namespace BO
/-- the weights times the bulk are what the counters tell of their point -/
theorem tops_comb {n : Nat} {W : List Int} {R : List (List Int)} (h : Rws n R) (hn1 : 1 ≤ n) (hn : n ≤ 3) (hW : W.length = n) : tops R ((List.range n).map (cj W R)) = W.map fun w => w * blk R := by
  rcases rws_cases h hn1 hn with ⟨rfl, a, rfl⟩ | ⟨rfl, a, b, c, d, rfl⟩ | ⟨rfl, a, b, c, d, e, f, g, u, i, rfl⟩
  · match W, hW with
    | [w0], _ => simp [tops, cnt, dot, blk, cj, List.range, List.range.loop]
  · match W, hW with
    | [w0, w1], _ =>
      simp [tops, cnt, dot, blk, cj, List.range, List.range.loop]
      constructor <;> grind
  · match W, hW with
    | [w0, w1, w2], _ =>
      simp [tops, cnt, dot, blk, cj, List.range, List.range.loop]
      refine ⟨?_, ?_, ?_⟩ <;> grind
end BO

namespace BO
open SG
/-! ### weights of points -/
def ww (R : List (List Int)) (p : List Int) : Option (List Int) := if (tops R p).all (fun t => decide (t.fmod (blk R) = 0)) = true then some ((tops R p).map fun t => t.fdiv (blk R)) else none
def wwV : Option (List Int) → PV
  | some w => lstI true w
  | none => .non
theorem fmod0 {a b : Int} (hb : b ≠ 0) : a.fmod b = 0 ↔ b ∣ a := by
  constructor
  · intro h
    have := fd_eq a b
    exact ⟨a.fdiv b, by rw [h] at this; rw [Int.mul_comm]; omega⟩
  · rintro ⟨c, rfl⟩
    exact Int.mul_fmod_right b c
theorem fdiv_mul_of {a b : Int} (h : a.fmod b = 0) : b * a.fdiv b = a := by
  have := fd_eq a b
  rw [Int.mul_comm]; omega
section
variable {n : Nat} {R : List (List Int)} {p : List Int} (h : Rws n R) (hn1 : 1 ≤ n) (hn : n ≤ 3) (hb : blk R ≠ 0)
include h hn1 hn hb
theorem ww_sp (hp : Sp n R p) : ∃ w, ww R p = some w ∧ w.length = n ∧ (List.range n).map (cj w R) = p := by
  obtain ⟨lp, hd⟩ := (sp_iff h hn1 hn hb).mp hp
  have all : (tops R p).all (fun t => decide (t.fmod (blk R) = 0)) = true := by
    rw [List.all_eq_true]
    intro t ht
    exact decide_eq_true ((fmod0 hb).mpr (hd t ht))
  refine ⟨(tops R p).map fun t => t.fdiv (blk R), by unfold ww; rw [if_pos all], by rw [List.length_map, tops_len h hn1 hn], ?_⟩
  refine tops_lin h hn1 hn hb lp ?_
  rw [List.map_map]
  refine (List.map_id _).symm.trans (List.map_congr_left fun t ht => ?_)
  exact (fdiv_mul_of ((fmod0 hb).mpr (hd t ht))).symm
theorem ww_none (lp : p.length = n) (hp : ¬ Sp n R p) : ww R p = none := by
  unfold ww
  rw [if_neg]
  intro all
  rw [List.all_eq_true] at all
  exact hp ((sp_iff h hn1 hn hb).mpr ⟨lp, fun t ht => (fmod0 hb).mp (of_decide_eq_true (all t ht))⟩)
theorem ww_iff (lp : p.length = n) : ww R p ≠ none ↔ Sp n R p := by
  constructor
  · intro z
    exact Classical.byContradiction fun q => z (ww_none h hn1 hn hb lp q)
  · intro z
    obtain ⟨w, e, _⟩ := ww_sp h hn1 hn hb z
    rw [e]; exact fun q => by cases q
end
theorem blk_200 {n : Nat} {m : Int} {R : List (List Int)} (h : Sq n m R) (hn1 : 1 ≤ n) (hn : n ≤ 3) (hm : m < 18446744073709551616) : (blk R).natAbs < 2 ^ 200 := by
  have bb : ∀ {x : Int}, -m ≤ x ∧ x ≤ m → -18446744073709551616 ≤ x ∧ x ≤ 18446744073709551616 := fun h => by omega
  rcases rws_cases h.rws hn1 hn with ⟨rfl, a, rfl⟩ | ⟨rfl, a, b, c, d, rfl⟩ | ⟨rfl, a, b, c, d, e, f, g, u, i, rfl⟩
  · have q := h.2
    simp at q
    simp [blk]; omega
  · have q := h.2
    simp at q
    obtain ⟨⟨qa, qb⟩, qc, qd⟩ := q
    have p1 := prod_in (bb qa) (bb qd)
    have p2 := prod_in (bb qb) (bb qc)
    simp [blk]; rw [Int.mul_neg]; omega
  · have q := h.2
    simp at q
    obtain ⟨⟨qa, qb, qc⟩, ⟨qd, qe, qf⟩, qg, qh, qi⟩ := q
    have two : ∀ {x y z w : Int}, -m ≤ x ∧ x ≤ m → -m ≤ y ∧ y ≤ m → -m ≤ z ∧ z ≤ m → -m ≤ w ∧ w ≤ m → -(2 * 340282366920938463463374607431768211456) ≤ x * y - z * w ∧ x * y - z * w ≤ 2 * 340282366920938463463374607431768211456 := fun h1 h2 h3 h4 => by
      have p1 := prod_in (bb h1) (bb h2)
      have p2 := prod_in (bb h3) (bb h4)
      omega
    have p1 := prod_in (bb qa) (two qe qi qf qh)
    have p2 := prod_in (bb qb) (two qf qg qd qi)
    have p3 := prod_in (bb qc) (two qd qh qe qg)
    simp [blk]; omega
theorem divOk_blk {n : Nat} {m : Int} {R : List (List Int)} (h : Sq n m R) (hn1 : 1 ≤ n) (hn : n ≤ 3) (hm : m < 18446744073709551616) (hb : blk R ≠ 0) : DivOk (blk R) := divOk_b (k := 200) hb (blk_200 h hn1 hn hm) (by decide)
theorem int_filter {l : List Int} {c : Int → Bool} : ((l.map PV.int).filter fun x => match x with | .int i => c i | _ => false) = (l.filter c).map PV.int := by
  rw [List.filter_map]; rfl
def wwTail : Ss := (.cons (.iff [] (.cmp .ne (.compIf [2, 4] [4] true (.val (.var 5)) (.cmp .ne (.op .mod (.var 4) (.var 6)) (.int 0)) (.var 4)) (.lst .nil)) (.cons (.ret [] .non) .nil) .nil) (.cons (.ret [] (.comp [2, 4] [4] true (.val (.var 5)) (.op .fdiv (.var 4) (.var 6)))) .nil))
theorem ww_tail {G : Gt} {nm : Nm} {R : List (List Int)} {p : List Int} {s0 s1 : Sl} (hb : blk R ≠ 0) (hd : DivOk (blk R)) (hl : (tops R p).length ≤ 1000) :
    eSs G nm [s0, s1, .no, .no, .no, .fz (lstI true (tops R p)), .fz (.int (blk R))] wwTail = .ret (wwV (ww R p)) := by
  have hc : cmIf G [s0, s1, .no, .no, .no, .fz (lstI true (tops R p)), .fz (.int (blk R))] [2, 4] [4] true (.cmp .ne (.op .mod (.var 4) (.var 6)) (.int 0)) (.var 4) ((tops R p).map PV.int) = .ok (lstI true ((tops R p).filter fun t => !decide (t.fmod (blk R) = 0))) := by
    have := cmIf_map (G := G) (ρ := [s0, s1, .no, .no, .no, .fz (lstI true (tops R p)), .fz (.int (blk R))]) (own := [2, 4]) (tg := [4]) (w := true) (cc := .cmp .ne (.op .mod (.var 4) (.var 6)) (.int 0)) (elt := .var 4) (xs := (tops R p).map PV.int) (fun x => match x with | .int i => !decide (i.fmod (blk R) = 0) | _ => false) (fun x => x) (fun x hx => by
      obtain ⟨i, _, rfl⟩ := List.mem_map.mp hx
      simp [wipeS, setT, modV_int hb]) (fun x hx _ => by
      obtain ⟨i, _, rfl⟩ := List.mem_map.mp hx
      simp [wipeS, setT]) (sz _ (by simpa using hl))
    rw [this, int_filter]
    simp [lstI]
  have hc2 : cm G [s0, s1, .no, .no, .no, .fz (lstI true (tops R p)), .fz (.int (blk R))] [2, 4] [4] true (.op .fdiv (.var 4) (.var 6)) ((tops R p).map PV.int) = .ok (lstI true ((tops R p).map fun t => t.fdiv (blk R))) := by
    unfold lstI
    rw [List.map_map]
    refine cm_of PV.int _ invInt (fun _ => rfl) (fun x hx => ?_) hl
    simp [wipeS, setT, fdivV_int hd]
  have hn := neV_lstI (y := true) (t := true) (a := (tops R p).filter fun t => !decide (t.fmod (blk R) = 0)) (b := [])
  have hn' : neV' (lstI true ((tops R p).filter fun t => !decide (t.fmod (blk R) = 0))) (.lst true []) = .ok (.bl (!decide ((tops R p).filter (fun t => !decide (t.fmod (blk R) = 0)) = []))) := hn
  have e : decide ((tops R p).filter (fun t => !decide (t.fmod (blk R) = 0)) = []) = (tops R p).all (fun t => decide (t.fmod (blk R) = 0)) := by
    rw [Bool.eq_iff_iff, decide_eq_true_eq, List.filter_eq_nil_iff, List.all_eq_true]
    constructor
    · intro z t ht; have := z t ht; simpa using this
    · intro z t ht; have := z t ht; simpa using this
  rw [e] at hn'
  unfold wwTail ww
  cases q : (tops R p).all (fun t => decide (t.fmod (blk R) = 0)) with
  | true =>
    rw [q] at hn'
    simp [items_lstI, hc, hn', hc2, wwV]
  | false =>
    rw [q] at hn'
    simp [items_lstI, hc, hn', wwV]
section
variable {B : PySem.Str → Option FI} {nm : Nm} (kn : Kn B)
include kn
theorem whole_weights (hB : B "whole_weights" = some fi_whole_weights) {l n : Nat} {m : Int} {R : List (List Int)} {y : Bool} {p : List Int} (h : Sq n m R) (hn1 : 1 ≤ n) (hn : n ≤ 3) (hm : m < 18446744073709551616) (hb : blk R ≠ 0) (lp : p.length = n) (sp : ∀ x ∈ p, Sm x) :
    callF B nm (l + 4) "whole_weights" [rowsV y R, tupI p] = .ok (wwV (ww R p)) := by
  rw [callF_eq hB]
  refine runF_ret rfl ?_
  have e0 : startR 7 (PV.olds [rowsV y R, tupI p]) = [.fz (rowsV false R), .fz (tupI p), .no, .no, .no, .no, .no] := by simp [olds_cons, olds_nil, old_rows, old_tupI, startR]
  rw [e0]
  have bo := bulk_of kn (nm := nm) (l := l) (y := false) (sh_of_sq h hn1 hn hm)
  have co := counters_of kn (nm := nm) (l := l + 1) (y := false) (sh_of_sq h hn1 hn hm)
  have rc := cnt_rws h.rws hn1 hn
  have hc : cm (callF B nm (l + 3)) [.fz (rowsV false R), .fz (tupI p), .no, .no, .no, .no, .fz (.int (blk R))] [2, 3] [3] true (.call "inner" (.cons (.var 1) (.cons (.var 3) .nil))) ((cnt R).map tupI) = .ok (lstI true (tops R p)) := by
    unfold lstI tops
    rw [List.map_map]
    refine cm_of tupI _ invTup invTup_tupI (fun c hc => ?_) (by rw [rc.1]; omega)
    have inn := inner kn (nm := nm) (l := l + 2) (a := p) (b := c) (.inl sp) (by omega)
    simp [wipeS, setT, inn]
  have tl := tops_len h.rws hn1 hn (p := p)
  rw [show b_whole_weights = .cons (.asg [] 6 (.call "bulk_of" (.cons (.var 0) .nil))) (.cons (.asg [] 5 (.comp [2, 3] [3] true (.val (.call "counters_of" (.cons (.var 0) .nil))) (.call "inner" (.cons (.var 1) (.cons (.var 3) .nil))))) wwTail) from rfl]
  refine stage (ρ' := [.fz (rowsV false R), .fz (tupI p), .no, .no, .no, .no, .fz (.int (blk R))]) (by simp [bo]) ?_
  refine stage (ρ' := [.fz (rowsV false R), .fz (tupI p), .no, .no, .no, .fz (lstI true (tops R p)), .fz (.int (blk R))]) (by simp [co, items_rows, hc]) ?_
  exact ww_tail hb (divOk_blk h hn1 hn hm hb) (by omega)
theorem law_weights (hB : B "_law_weights" = some fi__law_weights) (hB2 : B "_law_counters" = some fi__law_counters) (hB3 : B "_law_inner" = some fi__law_inner) {l n : Nat} {m : Int} {R : List (List Int)} {y : Bool} {p : List Int} (h : Sq n m R) (hn1 : 1 ≤ n) (hn : n ≤ 3) (hm : m < 18446744073709551616) (hb : blk R ≠ 0) (lp : p.length = n) (sp : ∀ x ∈ p, Sm x) :
    callF B nm (l + 6) "_law_weights" [rowsV y R, tupI p] = .ok (wwV (ww R p)) := by
  rw [callF_eq hB]
  refine runF_ret rfl ?_
  have e0 : startR 7 (PV.olds [rowsV y R, tupI p]) = [.fz (rowsV false R), .fz (tupI p), .no, .no, .no, .no, .no] := by simp [olds_cons, olds_nil, old_rows, old_tupI, startR]
  rw [e0]
  have bo := law_bulk kn (nm := nm) (l := l + 1) (y := false) (sh_of_sq h hn1 hn hm)
  have co := law_counters (nm := nm) kn hB2 (l := l) (y := false) h hn1 hn hm
  have rc := cnt_rws h.rws hn1 hn
  have hc : cm (callF B nm (l + 5)) [.fz (rowsV false R), .fz (tupI p), .no, .no, .no, .no, .fz (.int (blk R))] [2, 3] [3] true (.call "_law_inner" (.cons (.var 1) (.cons (.var 3) .nil))) ((cnt R).map tupI) = .ok (lstI true (tops R p)) := by
    unfold lstI tops
    rw [List.map_map]
    refine cm_of tupI _ invTup invTup_tupI (fun c hc => ?_) (by rw [rc.1]; omega)
    have inn := law_inner (nm := nm) hB3 (l := l + 4) (a := p) (b := c) (by rw [lp, rc.2 c hc]) (by omega) (MulAll.l sp)
    simp [wipeS, setT, inn]
  have tl := tops_len h.rws hn1 hn (p := p)
  rw [show b__law_weights = .cons (.asg [] 6 (.call "_law_bulk" (.cons (.var 0) .nil))) (.cons (.asg [] 5 (.comp [2, 3] [3] true (.val (.call "_law_counters" (.cons (.var 0) .nil))) (.call "_law_inner" (.cons (.var 1) (.cons (.var 3) .nil))))) wwTail) from rfl]
  refine stage (ρ' := [.fz (rowsV false R), .fz (tupI p), .no, .no, .no, .no, .fz (.int (blk R))]) (by simp [bo]) ?_
  refine stage (ρ' := [.fz (rowsV false R), .fz (tupI p), .no, .no, .no, .fz (lstI true (tops R p)), .fz (.int (blk R))]) (by simp [co, items_rows, hc]) ?_
  exact ww_tail hb (divOk_blk h hn1 hn hm hb) (by omega)
/-- a point that the program takes -/
def okPt (n : Nat) : PV → Bool
  | .tup ts => decide ((ts.length : Int) = n) && ts.all (amongB (-1000000000000) 1000000000000)
  | _ => false
omit kn in
theorem okPt_old {n : Nat} {x : PV} : okPt n x.old = okPt n x := by
  cases x <;> simp [PV.old, okPt]
  rename_i xs
  rw [olds_map, List.length_map, List.all_map]
  congr 2; funext x; exact among_old
omit kn in
theorem okPt_tup {n : Nat} {p : List Int} (h : p.length = n) (hb : ∀ x ∈ p, -1000000000000 ≤ x ∧ x ≤ 1000000000000) : okPt n (tupI p) = true := by
  unfold okPt tupI; dsimp only
  rw [List.length_map, h, decide_eq_true rfl, Bool.true_and, List.all_eq_true]
  intro x hx
  obtain ⟨i, hi, rfl⟩ := List.mem_map.mp hx
  have := hb i hi
  simp [amongB]; omega
theorem need_point (hB : B "need_point" = some fi_need_point) {l n : Nat} {v : PV} (c1 : clean1 v) (c2 : short1 v) : callF B nm (l + 4) "need_point" [v, .int (n : Int)] = if okPt n v then .ok .non else .err "BadPoint" := by
  rw [callF_eq hB]
  have c1' := clean_old c1
  have c2' := short_old c2
  rw [← okPt_old (x := v)]
  unfold runF fi_need_point b_need_point
  cases ho : v.old with
  | tup ts =>
    rw [ho] at c1' c2'
    have N := numbers kn (nm := nm) (l := l) (T := .tup ts) (n := (n : Int)) (m := 1000000000000) rfl c1'.2 c2'
    have e : (decide (((seqB (.tup ts)).length : Int) = (n : Int)) && (seqB (.tup ts)).all (amongB (-1000000000000) 1000000000000)) = okPt n (.tup ts) := rfl
    rw [e] at N
    cases q : okPt n (.tup ts) <;> rw [q] at N <;> simp [olds_cons, olds_nil, startR, ho, PV.old, N]
  | scr ns => rw [ho] at c1'; cases c1'.1
  | _ => simp [olds_cons, olds_nil, startR, ho, PV.old, okPt]
theorem weights_of (hB : B "need_rows" = some fi_need_rows) (hB2 : B "need_point" = some fi_need_point) (hB3 : B "whole_weights" = some fi_whole_weights) (hB4 : B "weights_of" = some fi_weights_of) {l n : Nat} {R : List (List Int)} {y : Bool} {p : List Int} (h : Sq n 1000000 R) (hn1 : 1 ≤ n) (hn : n ≤ 3) (hb : blk R ≠ 0) (lp : p.length = n) (bp : ∀ x ∈ p, -1000000000000 ≤ x ∧ x ≤ 1000000000000) :
    callF B nm (l + 6) "weights_of" [rowsV y R, tupI p] = .ok (wwV (ww R p)) := by
  rw [callF_eq hB4]
  refine runF_ret rfl ?_
  have e0 : startR 2 (PV.olds [rowsV y R, tupI p]) = [.fz (rowsV false R), .fz (tupI p)] := by simp [olds_cons, olds_nil, old_rows, old_tupI, startR]
  rw [e0]
  have nr := need_rows_sq kn (nm := nm) (l := l) (y := false) hB h hn1 hn (by decide)
  rw [if_neg hb] at nr
  have np := need_point kn (nm := nm) hB2 (l := l + 1) (n := n) (v := tupI p) clean_tupI (short_tupI (by omega))
  rw [okPt_tup lp bp, if_pos rfl] at np
  have w := whole_weights kn (nm := nm) hB3 (l := l + 1) (y := false) h hn1 hn (by decide) hb lp (fun x hx => by have := bp x hx; unfold Sm; omega)
  unfold b_weights_of
  simp [nr, len_rows, h.1, np, w]
theorem weights_bad (hB : B "need_rows" = some fi_need_rows) (hB2 : B "need_point" = some fi_need_point) (hB4 : B "weights_of" = some fi_weights_of) {l n : Nat} {R : List (List Int)} {y : Bool} {v : PV} (h : Sq n 1000000 R) (hn1 : 1 ≤ n) (hn : n ≤ 3) (hb : blk R ≠ 0) (c1 : clean1 v) (c2 : short1 v) (hv : okPt n v = false) :
    callF B nm (l + 6) "weights_of" [rowsV y R, v] = .err "BadPoint" := by
  rw [callF_eq hB4]
  have nr := need_rows_sq kn (nm := nm) (l := l) (y := false) hB h hn1 hn (by decide)
  rw [if_neg hb] at nr
  have np := need_point kn (nm := nm) hB2 (l := l + 1) (n := n) (v := v.old) (clean_old c1) (short_old c2)
  rw [okPt_old, hv] at np
  simp at np
  unfold runF fi_weights_of b_weights_of
  simp [olds_cons, olds_nil, old_rows, startR, nr, len_rows, h.1, np]
omit kn in
/-- the law's own sum of rows -/
theorem law_sum (hB : B "_law_sum" = some fi__law_sum) {l n : Nat} {R : List (List Int)} {y : Bool} {W : List Int} {Wv : PV} (h : Rws n R) (hn1 : 1 ≤ n) (hn : n ≤ 100) (sm : ∀ r ∈ R, ∀ x ∈ r, Sm x) (lW : W.length = n) (hx : ∀ k, k < n → ixV Wv.old (.int (k : Int)) = .ok (.int (at' W k))) :
    callF B nm (l + 1) "_law_sum" [rowsV y R, Wv] = .ok (tupI ((List.range n).map (cj W R))) := by
  rw [callF_eq hB]
  refine runF_ret rfl ?_
  have e0 : startR 6 (PV.olds [rowsV y R, Wv]) = [.fz (rowsV false R), .fz Wv.old, .no, .no, .no, .no] := by simp [olds_cons, olds_nil, old_rows, startR]
  rw [e0]
  have x0 := ix_rows (y := false) (R := R) (k := 0) (by rw [h.1]; omega)
  have l0 := h.2.get (k := 0) (by rw [h.1]; omega)
  have hmul : mulV (.lst true [.int 0]) (.int (n : Int)) = .ok (lstI true (zero n)) := by
    unfold mulV; dsimp only
    rw [Rs.when_pos ⟨by unfold i63; omega, by rw [Int.toNat_natCast]; exact sz _ (by simp; omega)⟩, Int.toNat_natCast]
    unfold lstI zero; simp
  simp at x0
  refine stage (ρ' := [.fz (rowsV false R), .fz Wv.old, .no, .fz (lstI true (zero n)), .no, .no]) (by simp [x0, len_tup, l0, hmul, sz]) ?_
  obtain ⟨ρ', e, s5, rfl⟩ := fl_rng (G := callF B nm l) (nm := nmAt nm l) (tg := [5]) (w := true) (t := (.cons (.asg [] 3 (.comp [2, 4] [4] true (.rng1 (.bi .len (.cons (.var 3) .nil))) (.op .add (.ixv 3 (.var 4)) (.op .mul (.ixv 1 (.var 5)) (.ix (.ixv 0 (.var 5)) (.var 4)))))) .nil)) (n := n) (ρ := [.fz (rowsV false R), .fz Wv.old, .no, .fz (lstI true (zero n)), .no, .no])
    (fun k ρ => ∃ s5, ρ = [.fz (rowsV false R), .fz Wv.old, .no, .fz (lstI true ((List.range n).map fun j => ((List.range k).map fun i => at' W i * ent' R i j).sum)), .no, s5]) ⟨.no, by
      have : (List.range n).map (fun j => ((List.range 0).map fun i => at' W i * ent' R i j).sum) = zero n := by
        unfold zero; simp [List.map_const']
      rw [this]⟩ (fun k hk ρ ⟨s5, e⟩ => by
      subst e
      refine ⟨_, _, rfl, ?_, .fz (.int (k : Int)), rfl⟩
      simp only [List.set_cons_succ, List.set_cons_zero]
      refine last ?_
      have lr := h.2.get (k := k) (by rw [h.1]; omega)
      have xr := ix_rows (y := false) (R := R) (k := k) (by rw [h.1]; omega)
      have hc : cm (callF B nm l) [.fz (rowsV false R), .fz Wv.old, .no, .fz (lstI true ((List.range n).map fun j => ((List.range k).map fun i => at' W i * ent' R i j).sum)), .no, .fz (.int (k : Int))] [2, 4] [4] true (.op .add (.ixv 3 (.var 4)) (.op .mul (.ixv 1 (.var 5)) (.ix (.ixv 0 (.var 5)) (.var 4)))) (rngL 0 n)
          = .ok (lstI true ((List.range n).map fun j => ((List.range (k + 1)).map fun i => at' W i * ent' R i j).sum)) := by
        refine cm_rngI _ (fun j hj => ?_) (by omega)
        have x3 := ix_lstI (y := true) (r := (List.range n).map fun j => ((List.range k).map fun i => at' W i * ent' R i j).sum) (k := j) (by simpa using hj)
        have a3 : at' ((List.range n).map fun j => ((List.range k).map fun i => at' W i * ent' R i j).sum) j = ((List.range k).map fun i => at' W i * ent' R i j).sum := by unfold at'; rw [List.getElem?_map, List.getElem?_range hj]; rfl
        rw [a3] at x3
        have x4 := ix_tup (r := R[k]?.getD []) (k := j) (by rw [lr]; exact hj)
        have xw := hx k hk
        have m := sm _ (get_mem (T := R) (k := k) (by rw [h.1]; omega)) _ (at_mem (j := j) (by rw [lr]; exact hj))
        simp [wipeS, setT, x3, xw, xr, x4, mulV_r m, -List.map_map]
        rw [List.range_succ, List.map_append, List.sum_append]
        simp [ent']
      simp [len_lstI, rng_n (show n ≤ 1000 by omega), hc])
  refine stage (for_st (by simp [len_rows, h.1, rng_n (show n ≤ 1000 by omega)]) e) ?_
  refine stop ?_
  have ec : (List.range n).map (fun j => ((List.range n).map fun i => at' W i * ent' R i j).sum) = (List.range n).map (cj W R) := by
    refine List.map_congr_left fun j _ => ?_
    rw [cj_range lW h.1]; rfl
  rw [ec]
  simp [lstI, tupI]
end
end BO

namespace BO
open SG
theorem ix_mod {L : List PV} {i k : Int} {y : Bool} (hk : (L.length : Int) = k) (h : 0 < L.length) : ∃ v, v ∈ L ∧ ixV (.lst y L) (.int (i.fmod k)) = .ok v := by
  have m := mod_lt (a := i) (b := k) (by omega)
  obtain ⟨j, hj⟩ : ∃ j : Nat, i.fmod k = (j : Int) := ⟨(i.fmod k).toNat, by omega⟩
  have hjl : j < L.length := by omega
  exact ⟨L[j], List.getElem_mem hjl, by rw [hj]; exact ixV_lst (List.getElem?_eq_getElem hjl)⟩
theorem ix_at {L : List PV} {i : Int} {y : Bool} (h0 : 0 ≤ i) (h : i < L.length) : ∃ v, v ∈ L ∧ ixV (.lst y L) (.int i) = .ok v := by
  obtain ⟨j, hj⟩ : ∃ j : Nat, i = (j : Int) := ⟨i.toNat, by omega⟩
  have hjl : j < L.length := by omega
  exact ⟨L[j], List.getElem_mem hjl, by rw [hj]; exact ixV_lst (List.getElem?_eq_getElem hjl)⟩
theorem putI_len {r : List Int} {k : Nat} {x : PV} (h : k < r.length) : (putI r k x).length = r.length := by unfold putI; simp; omega
theorem stage_ex {G : Gt} {nm : Nm} {ρ ρ' : Rho} {s : S} {r : Ss} {P : PV → Prop} (h : eS G nm ρ s = .nx ρ') (h2 : ∃ v, eSs G nm ρ' r = .ret v ∧ P v) : ∃ v, eSs G nm ρ (.cons s r) = .ret v ∧ P v := by
  obtain ⟨v, e, p⟩ := h2; exact ⟨v, stage h e, p⟩
theorem putI_int {r : List Int} {k : Nat} {x : Int} : PV.tup (putI r k (.int x)) = tupI (r.take k ++ [x] ++ r.drop (k + 1)) := by unfold putI tupI; simp
theorem set_take {r : List Int} {k : Nat} {x : Int} (h : k < r.length) : r.take k ++ [x] ++ r.drop (k + 1) = r.set k x := by rw [List.set_eq_take_append_cons_drop, if_pos h]; simp
theorem clean_ints {r : List Int} : ∀ t ∈ r.map PV.int, isScr t = false := fun t ht => by obtain ⟨i, _, rfl⟩ := List.mem_map.mp ht; rfl
theorem okPt_len {n : Nat} {r : List Int} (h : r.length ≠ n) : okPt n (tupI r) = false := by
  unfold okPt tupI; dsimp only
  rw [decide_eq_false (by rw [List.length_map]; omega), Bool.false_and]
theorem okPt_put {n : Nat} {r : List Int} {k : Nat} {v : PV} (hb : amongB (-1000000000000) 1000000000000 v = false) : okPt n (.tup (putI r k v)) = false := by
  unfold okPt putI; dsimp only
  rw [List.all_append, List.all_append]
  simp [hb]
theorem eq_word {a : PySem.Str} (h : okD (.tup [.str a]) = true) (h2 : eqP (.tup [.str a]) (.tup [.str a]) = true) : eqV' (.tup [.str a]) (.tup [.str a]) = .ok (.bl true) := by
  unfold eqV'; rw [Rs.when_pos ⟨h, h⟩, h2]
theorem eq_rows : eqV' (.tup [.str "rows"]) (.tup [.str "rows"]) = .ok (.bl true) := eq_word (by decide +kernel) (by decide +kernel)
theorem eq_point : eqV' (.tup [.str "point"]) (.tup [.str "point"]) = .ok (.bl true) := eq_word (by decide +kernel) (by decide +kernel)
theorem eq_many : eqV' (.tup [.str "many"]) (.tup [.str "many"]) = .ok (.bl true) := eq_word (by decide +kernel) (by decide +kernel)
theorem eq_text : eqV' (.tup [.str "text"]) (.tup [.str "text"]) = .ok (.bl true) := eq_word (by decide +kernel) (by decide +kernel)
theorem eq_spot : eqV' (.tup [.str "spot"]) (.tup [.str "spot"]) = .ok (.bl true) := eq_word (by decide +kernel) (by decide +kernel)
end BO

namespace BO
open SG
/-! ### the program's stair -/
def invPair : PV → Int × Int
  | .tup [.int x, .int y] => (x, y)
  | _ => (0, 0)
theorem less_zip {t : Int} : ∀ {p q : List Int}, (p.zip q).map (fun z => z.1 - t * z.2) = less p t q
  | [], _ => by simp [less]
  | _ :: _, [] => by simp [less]
  | x :: p, y :: q => by
    have := less_zip (t := t) (p := p) (q := q)
    unfold less at this ⊢
    rw [List.zip_cons_cons, List.map_cons, this, List.zipWith_cons_cons]
section
variable {B : PySem.Str → Option FI} {nm : Nm}
theorem less_of (hB : B "less" = some fi_less) {l : Nat} {p q : List Int} {t : Int} (hl : p.length ≤ 1000) (hm : ∀ x ∈ q, MulOk t x) : callF B nm (l + 1) "less" [tupI p, .int t, tupI q] = .ok (tupI (less p t q)) := by
  rw [callF_eq hB]
  refine runF_ret rfl ?_
  have e0 : startR 6 (PV.olds [tupI p, .int t, tupI q]) = [.fz (tupI p), .fz (.int t), .fz (tupI q), .no, .no, .no] := by simp [olds_cons, olds_nil, old_tupI, PV.old, startR]
  rw [e0]
  have hz : zipV (tupI p) (tupI q) = .ok ((p.zip q).map fun p => .tup [.int p.1, .int p.2]) := by unfold tupI; rw [zipV_tup, zip_ints]
  have hc : cm (callF B nm l) [.fz (tupI p), .fz (.int t), .fz (tupI q), .no, .no, .no] [3, 4, 5] [4, 5] false (.op .sub (.var 4) (.op .mul (.var 1) (.var 5))) ((p.zip q).map fun p => .tup [.int p.1, .int p.2]) = .ok (lstI true (less p t q)) := by
    rw [cm_of (l := p.zip q) (fun p : Int × Int => PV.tup [.int p.1, .int p.2]) (fun z => .int (z.1 - t * z.2)) invPair (fun _ => rfl) (fun z hz => ?_) (by simp; omega), ← less_zip]
    · unfold lstI; rw [List.map_map]; rfl
    · have := hm z.2 (List.of_mem_zip hz).2
      simp [wipeS, setT, mulV_int this]
  unfold b_less
  simp [hz, hc, -List.map_map]
  rfl
theorem abs_lt' {a b : Int} : ((if a < 0 then -a else a) < (if b < 0 then -b else b)) ↔ a.natAbs < b.natAbs := by split <;> split <;> omega
def leastIn : Ss := (.cons (.iff [] (.and (.cmp .ne (.ix (.ixv 0 (.var 3)) (.var 1)) (.int 0)) (.or (.isN false (.var 2)) (.cmp .lt (.bi .abs (.cons (.ix (.ixv 0 (.var 3)) (.var 1)) .nil)) (.bi .abs (.cons (.ix (.ixv 0 (.var 2)) (.var 1)) .nil))))) (.cons (.asg [] 2 (.var 3)) .nil) .nil) .nil)
theorem least_at (hB : B "least_at" = some fi_least_at) {l m p : Nat} {L : List (List Int)} {y : Bool} (h : Ln m L) (hp : p < m) (hs : L.length ≤ 1000) (hex : ∃ i, i < L.length ∧ ent' L i p ≠ 0) :
    ∃ k, callF B nm (l + 1) "least_at" [rowsV y L, .int (p : Int)] = .ok (.int ((k : Nat) : Int)) ∧ Least L p k := by
  have e0 : startR 4 (PV.olds [rowsV y L, .int (p : Int)]) = [.fz (rowsV false L), .fz (.int (p : Int)), .no, .no] := by simp [olds_cons, olds_nil, old_rows, PV.old, startR]
  obtain ⟨ρ', e, s2, s3, rfl, hh⟩ := fl_rng (G := callF B nm l) (nm := nmAt nm l) (tg := [3]) (w := true) (t := leastIn) (n := L.length) (ρ := [.fz (rowsV false L), .fz (.int (p : Int)), .fz .non, .no])
    (fun i ρ => ∃ s2 s3, ρ = [.fz (rowsV false L), .fz (.int (p : Int)), s2, s3] ∧ ((s2 = .fz .non ∧ ∀ j, j < i → ent' L j p = 0) ∨ ∃ k, s2 = .fz (.int ((k : Nat) : Int)) ∧ k < i ∧ ent' L k p ≠ 0 ∧ ∀ j, j < i → ent' L j p ≠ 0 → (ent' L k p).natAbs ≤ (ent' L j p).natAbs))
    ⟨_, _, rfl, .inl ⟨rfl, fun j hj => absurd hj (Nat.not_lt_zero j)⟩⟩ (fun i hi ρ ⟨s2, s3, e, hh⟩ => by
      subst e
      have xi := ix_rows (y := false) (R := L) (k := i) hi
      have li := h.get (k := i) hi
      have xp := ix_tup (r := L[i]?.getD []) (k := p) (by omega)
      rw [ent_row hi] at xp
      by_cases z : ent' L i p = 0
      · refine ⟨_, _, rfl, ?_, s2, .fz (.int (i : Int)), rfl, ?_⟩
        · simp only [List.set_cons_succ, List.set_cons_zero]
          unfold leastIn
          simp [xi, xp, z]
        · rcases hh with ⟨e, a⟩ | ⟨k, e, k1, k2, k3⟩
          · refine .inl ⟨e, fun j hj => ?_⟩
            by_cases q : j = i
            · rw [q]; exact z
            · exact a j (by omega)
          · refine .inr ⟨k, e, by omega, k2, fun j hj hn => ?_⟩
            by_cases q : j = i
            · subst q; exact absurd z hn
            · exact k3 j (by omega) hn
      · rcases hh with ⟨e, a⟩ | ⟨k, e, k1, k2, k3⟩
        · subst e
          refine ⟨_, _, rfl, ?_, .fz (.int (i : Int)), .fz (.int (i : Int)), rfl, .inr ⟨i, rfl, by omega, z, fun j hj hn => ?_⟩⟩
          · simp only [List.set_cons_succ, List.set_cons_zero]
            unfold leastIn
            simp [xi, xp, z, isNV, isNon]
          · by_cases q : j = i
            · rw [q]; exact Nat.le_refl _
            · exact absurd (a j (by omega)) hn
        · subst e
          have xk := ix_rows (y := false) (R := L) (k := k) (by omega)
          have lk := h.get (k := k) (by omega)
          have xkp := ix_tup (r := L[k]?.getD []) (k := p) (by omega)
          rw [ent_row (by omega)] at xkp
          by_cases lt : (ent' L i p).natAbs < (ent' L k p).natAbs
          · refine ⟨_, _, rfl, ?_, .fz (.int (i : Int)), .fz (.int (i : Int)), rfl, .inr ⟨i, rfl, by omega, z, fun j hj hn => ?_⟩⟩
            · simp only [List.set_cons_succ, List.set_cons_zero]
              unfold leastIn
              have lt' := abs_lt'.mpr lt
              simp [xi, xp, xk, xkp, z, isNV, isNon, lt']
            · by_cases q : j = i
              · rw [q]; exact Nat.le_refl _
              · exact Nat.le_trans (Nat.le_of_lt lt) (k3 j (by omega) hn)
          · refine ⟨_, _, rfl, ?_, .fz (.int (k : Int)), .fz (.int (i : Int)), rfl, .inr ⟨k, rfl, by omega, k2, fun j hj hn => ?_⟩⟩
            · simp only [List.set_cons_succ, List.set_cons_zero]
              unfold leastIn
              have lt' : ¬ _ := fun q => lt (abs_lt'.mp q)
              simp [xi, xp, xk, xkp, z, isNV, isNon, lt']
            · by_cases q : j = i
              · rw [q]; omega
              · exact k3 j (by omega) hn)
  rcases hh with ⟨_, a⟩ | ⟨k, e2, k1, k2, k3⟩
  · obtain ⟨i, hi, hn⟩ := hex
    exact absurd (a i hi) hn
  · refine ⟨k, ?_, k1, k2, k3⟩
    subst e2
    rw [callF_eq hB]
    refine runF_ret rfl ?_
    rw [e0, show b_least_at = .cons (.asg [] 2 .non) (.cons (.for [] [3] true (.rng1 (.bi .len (.cons (.var 0) .nil))) leastIn) (.cons (.ret [] (.var 2)) .nil)) from rfl]
    refine stage (ρ' := [.fz (rowsV false L), .fz (.int (p : Int)), .fz .non, .no]) (by simp) ?_
    refine stage (for_st (by simp [len_rows, rng_n hs]) e) ?_
    exact stop (by simp)
end
end BO

namespace BO
open SG
def clIn : Ss := (.cons (.asg [] 3 (.call "least_at" (.cons (.var 4) (.cons (.var 1) .nil)))) (.cons (.asg [] 7 (.ixv 4 (.var 3))) (.cons (.asg [] 6 (.op .add (.slHiV 4 (.var 3)) (.slLoV 4 (.op .add (.var 3) (.int 1))))) (.cons (.asg [] 4 (.op .add (.lst (.cons (.var 7) .nil)) (.comp [2, 5] [5] true (.val (.var 6)) (.call "less" (.cons (.var 5) (.cons (.op .fdiv (.ixv 5 (.var 1)) (.ixv 7 (.var 1))) (.cons (.var 7) .nil))))))) (.cons (.iff [] (.cmp .eq (.compIf [2, 5] [5] true (.val (.slLoV 4 (.int 1))) (.cmp .ne (.ixv 5 (.var 1)) (.int 0)) (.var 5)) (.lst .nil)) (.cons (.iff [] (.cmp .lt (.ixv 7 (.var 1)) (.int 0)) (.cons (.asg [] 7 (.call "less" (.cons (.var 7) (.cons (.int 2) (.cons (.var 7) .nil))))) .nil) .nil) (.cons (.ret [] (.tup (.cons (.var 7) (.cons (.slLoV 4 (.int 1)) .nil)))) .nil)) .nil) .nil)))))
def fixR (p : Nat) (r : List Int) : List Int := if at' r p < 0 then less r 2 r else r
section
variable {B : PySem.Str → Option FI} {nm : Nm}
/-- one turn -/
theorem cl_step (hB : B "least_at" = some fi_least_at) (hB2 : B "less" = some fi_less) {l m p k : Nat} {L : List (List Int)} {y : Bool} {nm' : Nm} {s0 s3 s6 s7 : Sl} (h : Ln m L) (hm : m ≤ 1000) (hp : p < m) (hs : L.length ≤ 400) (hL : Least L p k) (hk : callF B nm (l + 1) "least_at" [rowsV y L, .int (p : Int)] = .ok (.int ((k : Nat) : Int)))
    (ok : ∀ o ∈ butL L k, DivOk (ent' L k p) ∧ ∀ x ∈ L[k]?.getD [], MulOk ((at' o p).fdiv (ent' L k p)) x) :
    (((∃ o ∈ (stepL L p k).tail, at' o p ≠ 0) → eSs (callF B nm (l + 1)) nm' [s0, .fz (.int (p : Int)), .no, s3, .fz (rowsV y L), .no, s6, s7] clIn = .nx [s0, .fz (.int (p : Int)), .no, .fz (.int (k : Int)), .fz (rowsV true (stepL L p k)), .no, .fz (rowsV true (butL L k)), .fz (tupI (L[k]?.getD []))]) ∧
    ((∀ o ∈ (stepL L p k).tail, at' o p = 0) → eSs (callF B nm (l + 1)) nm' [s0, .fz (.int (p : Int)), .no, s3, .fz (rowsV y L), .no, s6, s7] clIn = .ret (.tup [tupI (fixR p (L[k]?.getD [])), rowsV true (stepL L p k).tail]))) := by
  obtain ⟨kl, k0, km⟩ := hL
  have lk := h.get (k := k) kl
  have xk := ix_rows (y := y) (R := L) (k := k) kl
  have bb := but_rows (y := y) (R := L) (k := k) (by omega)
  have xkp := ix_tup (r := L[k]?.getD []) (k := p) (by omega)
  rw [ent_row kl] at xkp
  have bl := but_len (L := L) (k := k) kl
  obtain ⟨r, hr⟩ : ∃ r, r = L[k]?.getD [] := ⟨_, rfl⟩
  have hc : cm (callF B nm (l + 1)) [s0, .fz (.int (p : Int)), .no, .fz (.int (k : Int)), .fz (rowsV y L), .no, .fz (rowsV true (butL L k)), .fz (tupI r)] [2, 5] [5] true (.call "less" (.cons (.var 5) (.cons (.op .fdiv (.ixv 5 (.var 1)) (.ixv 7 (.var 1))) (.cons (.var 7) .nil)))) ((butL L k).map tupI)
      = .ok (rowsV true ((butL L k).map (red p r))) := by
    refine cm_tupsT _ (fun o ho => ?_) (by omega)
    obtain ⟨d, mm⟩ := ok o ho
    have lo := h o (but_mem ho)
    have xo := ix_tup (r := o) (k := p) (by omega)
    have le := less_of (nm := nm) hB2 (l := l) (p := o) (q := r) (t := (at' o p).fdiv (ent' L k p)) (by omega) (by rw [hr]; exact mm)
    have e9 : red p r o = less o ((at' o p).fdiv (ent' L k p)) r := by unfold red ent'; rw [hr]
    rw [e9]
    rw [← hr] at xkp
    simp [wipeS, setT, xo, xkp, fdivV_int d, le]
  have st : stepL L p k = r :: (butL L k).map (red p r) := by unfold stepL; rw [hr]
  have hadd : addV (.lst true [tupI r]) (rowsV true ((butL L k).map (red p r))) = .ok (rowsV true (stepL L p k)) := by
    unfold rowsV; rw [addV_lst (by simp; omega), st]; rfl
  have tl : (stepL L p k).tail = (butL L k).map (red p r) := by rw [st]; rfl
  have hlo : slLoV (rowsV true (stepL L p k)) (.int 1) = .ok (rowsV true (stepL L p k).tail) := by rw [← List.drop_one]; exact lo_rows (k := 0)
  have lnS := step_ln (p := p) h kl
  have tll : (stepL L p k).tail.length ≤ 1000 := by rw [tl]; simp; omega
  have hcf : cmIf (callF B nm (l + 1)) [s0, .fz (.int (p : Int)), .no, .fz (.int (k : Int)), .fz (rowsV true (stepL L p k)), .no, .fz (rowsV true (butL L k)), .fz (tupI r)] [2, 5] [5] true (.cmp .ne (.ixv 5 (.var 1)) (.int 0)) (.var 5) ((stepL L p k).tail.map tupI)
      = .ok (rowsV true ((stepL L p k).tail.filter fun o => !decide (at' o p = 0))) := by
    have := cmIf_map (G := callF B nm (l + 1)) (ρ := [s0, .fz (.int (p : Int)), .no, .fz (.int (k : Int)), .fz (rowsV true (stepL L p k)), .no, .fz (rowsV true (butL L k)), .fz (tupI r)]) (own := [2, 5]) (tg := [5]) (w := true) (cc := .cmp .ne (.ixv 5 (.var 1)) (.int 0)) (elt := .var 5) (xs := (stepL L p k).tail.map tupI) (fun x => !decide (at' (invTup x) p = 0)) (fun x => x) (fun x hx => by
      obtain ⟨o, ho, rfl⟩ := List.mem_map.mp hx
      have lo := lnS o (List.mem_of_mem_tail ho)
      have xo := ix_tup (r := o) (k := p) (by omega)
      simp [wipeS, setT, xo, invTup_tupI]) (fun x hx _ => by
      obtain ⟨o, _, rfl⟩ := List.mem_map.mp hx
      simp [wipeS, setT]) (sz _ (by simpa using tll))
    rw [this, List.map_id'']
    · unfold rowsV
      rw [List.filter_map]
      congr 2
      refine congrArg _ (List.filter_congr fun o _ => ?_)
      simp [invTup_tupI]
    · intro x; rfl
  have heq := eqV_rows (y := true) (t := true) (a := (stepL L p k).tail.filter fun o => !decide (at' o p = 0)) (b := [])
  have heq' : eqV' (rowsV true ((stepL L p k).tail.filter fun o => !decide (at' o p = 0))) (.lst true []) = .ok (.bl (decide ((stepL L p k).tail.filter (fun o => !decide (at' o p = 0)) = []))) := heq
  have pre : ∀ o, eSs (callF B nm (l + 1)) nm' [s0, .fz (.int (p : Int)), .no, .fz (.int (k : Int)), .fz (rowsV true (stepL L p k)), .no, .fz (rowsV true (butL L k)), .fz (tupI r)] (.cons (.iff [] (.cmp .eq (.compIf [2, 5] [5] true (.val (.slLoV 4 (.int 1))) (.cmp .ne (.ixv 5 (.var 1)) (.int 0)) (.var 5)) (.lst .nil)) (.cons (.iff [] (.cmp .lt (.ixv 7 (.var 1)) (.int 0)) (.cons (.asg [] 7 (.call "less" (.cons (.var 7) (.cons (.int 2) (.cons (.var 7) .nil))))) .nil) .nil) (.cons (.ret [] (.tup (.cons (.var 7) (.cons (.slLoV 4 (.int 1)) .nil)))) .nil)) .nil) .nil) = o →
      eSs (callF B nm (l + 1)) nm' [s0, .fz (.int (p : Int)), .no, s3, .fz (rowsV y L), .no, s6, s7] clIn = o := by
    intro o ho
    unfold clIn
    refine stage (ρ' := [s0, .fz (.int (p : Int)), .no, .fz (.int (k : Int)), .fz (rowsV y L), .no, s6, s7]) (by simp [hk]) ?_
    refine stage (ρ' := [s0, .fz (.int (p : Int)), .no, .fz (.int (k : Int)), .fz (rowsV y L), .no, s6, .fz (tupI r)]) (by simp [xk, ← hr]) ?_
    refine stage (ρ' := [s0, .fz (.int (p : Int)), .no, .fz (.int (k : Int)), .fz (rowsV y L), .no, .fz (rowsV true (butL L k)), .fz (tupI r)]) (by simp; rw [bb]; rfl) ?_
    refine stage (ρ' := [s0, .fz (.int (p : Int)), .no, .fz (.int (k : Int)), .fz (rowsV true (stepL L p k)), .no, .fz (rowsV true (butL L k)), .fz (tupI r)]) (by simp [items_rows, hc, hadd, sz]) ?_
    exact ho
  rw [← hr]
  refine ⟨fun hz => pre _ ?_, fun hz => pre _ ?_⟩
  · have ne : ¬ (stepL L p k).tail.filter (fun o => !decide (at' o p = 0)) = [] := by
      rw [List.filter_eq_nil_iff]
      obtain ⟨o, ho, hn⟩ := hz
      intro q
      have := q o ho
      simp [hn] at this
    rw [decide_eq_false ne] at heq'
    refine last ?_
    simp [-List.map_tail, hlo, items_rows, hcf, heq']
  · have em : (stepL L p k).tail.filter (fun o => !decide (at' o p = 0)) = [] := by
      rw [List.filter_eq_nil_iff]
      intro o ho
      simp [hz o ho]
    rw [decide_eq_true em] at heq'
    have xr : ixV (tupI r) (.int (p : Int)) = .ok (.int (at' r p)) := ix_tup (by rw [hr]; omega)
    have l2 := less_of (nm := nm) hB2 (l := l) (p := r) (q := r) (t := 2) (by rw [hr]; omega) (fun x _ => .inl (by decide))
    by_cases ng : at' r p < 0
    · simp [-List.map_tail, hlo, items_rows, hcf, heq', xr, ng, l2, fixR, sz]
    · simp [-List.map_tail, hlo, items_rows, hcf, heq', xr, ng, fixR, sz]
end
end BO

namespace BO
open SG
theorem fix_len {p : Nat} {r : List Int} : (fixR p r).length = r.length := by
  unfold fixR; split
  · rw [less_len rfl]
  · rfl
theorem fix_at {p j : Nat} {r : List Int} : at' (fixR p r) j = if at' r p < 0 then -at' r j else at' r j := by
  unfold fixR; split
  · rw [at_less rfl]; omega
  · rfl
theorem fix_clr {m p : Nat} {L0 os : List (List Int)} {r : List Int} (lr : r.length = m) (ls : Ln m os) (hl : os.length + 1 = L0.length) (h0 : at' r p ≠ 0) (hz : ∀ o ∈ os, at' o p = 0) (sp : ∀ x, Sp m L0 x ↔ Sp m (r :: os) x) : Clr m p L0 (fixR p r) os := by
  refine ⟨by rw [fix_len, lr], ls, hl, by rw [fix_at]; split <;> omega, hz, fun x => (sp x).trans ?_⟩
  unfold fixR
  split
  · have back : less (less r 2 r) 2 (less r 2 r) = r := by
      have e := less_len (p := r) (q := r) (t := 2) rfl
      refine ext' (by rw [less_len rfl, e]) fun j _ => ?_
      rw [at_less rfl, at_less rfl]; omega
    constructor
    · refine Sp.mono fun y hy => ?_
      rcases List.mem_cons.mp hy with e | e
      · have s : Sp m (less r 2 r :: os) (less r 2 r) := .row List.mem_cons_self
        have := Sp.less 2 s s
        rw [back] at this
        rw [e]; exact this
      · exact .row (List.mem_cons_of_mem _ e)
    · refine Sp.mono fun y hy => ?_
      rcases List.mem_cons.mp hy with e | e
      · rw [e]; exact .less 2 (.row List.mem_cons_self) (.row List.mem_cons_self)
      · exact .row (List.mem_cons_of_mem _ e)
  · exact Iff.rfl
theorem fix_bd {p U : Nat} {r : List Int} {os : List (List Int)} (h : Bd U (r :: os)) : Bd U (fixR p r :: os) := by
  intro y hy
  rcases List.mem_cons.mp hy with e | e
  · intro j
    have := h r List.mem_cons_self j
    rw [e, fix_at]; split <;> omega
  · exact h y (List.mem_cons_of_mem _ e)
theorem mulOk_of {a b : Int} {i j : Nat} (ha : a.natAbs < 2 ^ i) (hb : b.natAbs < 2 ^ j) (h : i + j < 1000000) : MulOk a b := mulOk_b ha hb h
theorem step_cons {L : List (List Int)} {p k : Nat} : stepL L p k = (L[k]?.getD []) :: (stepL L p k).tail := rfl
theorem mem_at {r : List Int} {x : Int} (h : x ∈ r) : ∃ j, at' r j = x := by
  obtain ⟨j, hj, rfl⟩ := List.mem_iff_getElem.mp h
  exact ⟨j, by unfold at'; rw [List.getElem?_eq_getElem hj]; rfl⟩
section
variable {B : PySem.Str → Option FI} {nm : Nm}
theorem cl_loop (hB : B "least_at" = some fi_least_at) (hB2 : B "less" = some fi_less) {l m p : Nat} {L0 : List (List Int)} {nm' : Nm} {s0 : Sl} (hm : m ≤ 1000) (hp : p < m) (hs : L0.length ≤ 400) {C M : Nat} (hC : C < 2 ^ 400000) (hM : M < 2 ^ 8999) :
    ∀ (P : Nat) (L : List (List Int)) (U : Nat) (y : Bool) (s3 s6 s7 : Sl), Ln m L → L.length = L0.length → (∀ x, Sp m L0 x ↔ Sp m L x) → Way p L P U → P ≤ M → (∃ o ∈ L.tail, at' o p ≠ 0 ∧ U * (P * (P * (at' o p).natAbs)) ≤ C) →
    ∃ row left, wl (callF B nm (l + 1)) nm' [] (.bl true) clIn [s0, .fz (.int (p : Int)), .no, s3, .fz (rowsV y L), .no, s6, s7] = .ret (.tup [tupI row, rowsV true left]) ∧ Clr m p L0 row left ∧ Bd (2 * C) (row :: left) := by
  intro P
  induction P using Nat.strongRecOn with
  | _ P ih =>
    intro L U y s3 s6 s7 h hl sp w hPM ⟨o0, ho0, hz0, hC0⟩
    have ex : ∃ i, i < L.length ∧ ent' L i p ≠ 0 := by
      obtain ⟨i, hi, e⟩ := mem_ent (List.mem_of_mem_tail ho0)
      exact ⟨i, hi, by rw [← e]; exact hz0⟩
    obtain ⟨k, hk, hL⟩ := least_at (nm := nm) hB (l := l) (y := y) h hp (by omega) ex
    obtain ⟨P', U', w', hPP, hU', next⟩ := step_next h w hL ho0 hz0 hC0
    have kl := hL.1
    have all : ∀ x ∈ L, (at' x p).natAbs ≤ P := by
      intro x hx
      match L, w.ne, hx with
      | a :: t, _, hx =>
        rcases List.mem_cons.mp hx with e | e
        · have := w.hd; unfold ent' at this; simp at this; rw [e, this]; exact Nat.le_refl _
        · exact Nat.le_of_lt (w.lt x e)
    have UC : U ≤ C := by
      have e1 : 0 < (at' o0 p).natAbs := by omega
      have : U ≤ U * (P * (P * (at' o0 p).natAbs)) := Nat.le_mul_of_pos_right _ (Nat.mul_pos w.ps (Nat.mul_pos w.ps e1))
      omega
    have ok : ∀ o ∈ butL L k, DivOk (ent' L k p) ∧ ∀ x ∈ L[k]?.getD [], MulOk ((at' o p).fdiv (ent' L k p)) x := by
      intro o ho
      have hb := all _ (get_mem kl)
      have hb2 : (ent' L k p).natAbs < 2 ^ 8999 := Nat.lt_of_le_of_lt (Nat.le_trans hb hPM) hM
      refine ⟨divOk_b hL.2.1 hb2 (by decide), fun x hx => ?_⟩
      obtain ⟨j, rfl⟩ := mem_at hx
      have bx := w.bd _ (get_mem kl) j
      have bo := all o (but_mem ho)
      have q1 := fdiv_any (a := at' o p) (b := ent' L k p) hL.2.1
      have q2 : (at' o p).natAbs / (ent' L k p).natAbs ≤ (at' o p).natAbs := Nat.div_le_self _ _
      have q3 : ((at' o p).fdiv (ent' L k p)).natAbs ≤ M + 1 := by omega
      have q4 : (M + 1) < 2 ^ 9000 := by
        have : (2 : Nat) ^ 9000 = 2 * 2 ^ 8999 := by rw [← Nat.pow_succ']
        omega
      exact mulOk_of (i := 9000) (j := 400000) (Nat.lt_of_le_of_lt q3 q4) (Nat.lt_of_le_of_lt (Nat.le_trans bx UC) hC) (by decide)
    obtain ⟨go, stp⟩ := cl_step (nm := nm) (nm' := nm') (s0 := s0) (s3 := s3) (s6 := s6) (s7 := s7) hB hB2 h hm hp (by omega) hL hk ok
    have sp' : ∀ x, Sp m L0 x ↔ Sp m (stepL L p k) x := fun x => (sp x).trans (step_sp h kl)
    by_cases z : ∃ o ∈ (stepL L p k).tail, at' o p ≠ 0
    · obtain ⟨o1, ho1, hz1, hC1⟩ := next z
      obtain ⟨row, left, e, r⟩ := ih P' hPP (stepL L p k) U' true (.fz (.int (k : Int))) (.fz (rowsV true (butL L k))) (.fz (tupI (L[k]?.getD []))) (step_ln h kl) (by rw [step_len kl, hl]) sp' w' (by omega) ⟨o1, ho1, hz1, hC1⟩
      exact ⟨row, left, wl_go (by simp) (go z) e (fun q => by cases q), r⟩
    · have z' : ∀ o ∈ (stepL L p k).tail, at' o p = 0 := fun o ho => Classical.byContradiction fun q => z ⟨o, ho, q⟩
      refine ⟨_, _, wl_out (by simp) (stp z') (fun r q => by cases q) (fun q => by cases q), ?_, ?_⟩
      · have ln := step_ln (p := p) h kl
        refine fix_clr (h.get kl) (fun r hr => ln r (List.mem_of_mem_tail hr)) ?_ hL.2.1 z' sp'
        have := step_len (p := p) kl
        rw [List.length_tail]; omega
      · have : Bd (2 * C) (stepL L p k) := fun r hr j => Nat.le_trans (w'.bd r hr j) hU'
        exact fix_bd this
/-- the program's cleared -/
theorem cleared (hB : B "least_at" = some fi_least_at) (hB2 : B "less" = some fi_less) (hB3 : B "cleared" = some fi_cleared) {l m p : Nat} {L : List (List Int)} {y : Bool} (h : Ln m L) (hm : m ≤ 1000) (hp : p < m) (hs : L.length ≤ 400) (ex : ∃ i, i < L.length ∧ ent' L i p ≠ 0) {M : Nat} (bd : Bd M L) (hM0 : M < 2 ^ 90000) (hM : L.length = 1 ∨ M < 2 ^ 8999) :
    ∃ row left, callF B nm (l + 2) "cleared" [rowsV y L, .int (p : Int)] = .ok (.tup [tupI row, rowsV true left]) ∧ Clr m p L row left ∧ Bd (6 * (M * (M * (M * M)))) (row :: left) := by
  have e0 : startR 8 (PV.olds [rowsV y L, .int (p : Int)]) = [.fz (rowsV false L), .fz (.int (p : Int)), .no, .no, .no, .no, .no, .no] := by simp [olds_cons, olds_nil, old_rows, PV.old, startR]
  suffices main : ∃ row left, wl (callF B nm (l + 1)) (nmAt nm (l + 1)) [] (.bl true) clIn [.fz (rowsV false L), .fz (.int (p : Int)), .no, .no, .fz (rowsV true L), .no, .no, .no] = .ret (.tup [tupI row, rowsV true left]) ∧ Clr m p L row left ∧ Bd (6 * (M * (M * (M * M)))) (row :: left) by
    obtain ⟨row, left, e, r⟩ := main
    refine ⟨row, left, ?_, r⟩
    rw [callF_eq hB3]
    refine runF_ret rfl ?_
    rw [e0, show b_cleared = .cons (.asg [] 4 (.bi .list (.cons (.var 0) .nil))) (.cons (.whl [] (.bl true) clIn) .nil) from rfl]
    refine stage (ρ' := [.fz (rowsV false L), .fz (.int (p : Int)), .no, .no, .fz (rowsV true L), .no, .no, .no]) (by simp [list_rows]) ?_
    exact last (by rw [eS_whl]; exact e)
  obtain ⟨k, hk, hL⟩ := least_at (nm := nm) hB (l := l) (y := true) h hp (by omega) ex
  have kl := hL.1
  obtain ⟨P, U, w, hPM, hUP⟩ := step_first h hL bd
  have M1 : 1 ≤ M := by have := w.ps; omega
  have hb := bd _ (get_mem kl) p
  have lenb := but_len (L := L) (k := k) kl
  have ok : ∀ o ∈ butL L k, DivOk (ent' L k p) ∧ ∀ x ∈ L[k]?.getD [], MulOk ((at' o p).fdiv (ent' L k p)) x := by
    intro o ho
    have hM : M < 2 ^ 8999 := hM.resolve_left fun z => by
      have : 0 < (butL L k).length := List.length_pos_of_mem ho
      omega
    have hb2 : (ent' L k p).natAbs < 2 ^ 8999 := Nat.lt_of_le_of_lt hb hM
    refine ⟨divOk_b hL.2.1 hb2 (by decide), fun x hx => ?_⟩
    obtain ⟨j, rfl⟩ := mem_at hx
    have bx := bd _ (get_mem kl) j
    have bo := bd o (but_mem ho) p
    have q1 := fdiv_any (a := at' o p) (b := ent' L k p) hL.2.1
    have q2 : (at' o p).natAbs / (ent' L k p).natAbs ≤ (at' o p).natAbs := Nat.div_le_self _ _
    have q3 : ((at' o p).fdiv (ent' L k p)).natAbs ≤ M + 1 := by omega
    have q4 : (M + 1) < 2 ^ 9000 := by
      have : (2 : Nat) ^ 9000 = 2 * 2 ^ 8999 := by rw [← Nat.pow_succ']
      omega
    exact mulOk_of (i := 9000) (j := 8999) (Nat.lt_of_le_of_lt q3 q4) (Nat.lt_of_le_of_lt bx hM) (by decide)
  obtain ⟨go, stp⟩ := cl_step (nm := nm) (nm' := nmAt nm (l + 1)) (s0 := .fz (rowsV false L)) (s3 := .no) (s6 := .no) (s7 := .no) hB hB2 h hm hp hs hL hk ok
  have MM : M * M ≤ M * (M * (M * M)) := by
    have : M * M ≤ (M * M) * (M * M) := Nat.le_mul_of_pos_right _ (Nat.mul_pos M1 M1)
    rwa [Nat.mul_assoc] at this
  by_cases z : ∃ o ∈ (stepL L p k).tail, at' o p ≠ 0
  · have hM' : M < 2 ^ 8999 := hM.resolve_left fun q => by
      obtain ⟨o, ho, _⟩ := z
      have : 0 < (stepL L p k).tail.length := List.length_pos_of_mem ho
      have := step_len (p := p) kl
      rw [List.length_tail] at *; omega
    have c1 : 3 * (M * (M * (M * M))) < 2 ^ 400000 := by
      have a : M * M ≤ 2 ^ 8999 * 2 ^ 8999 := Nat.mul_le_mul (by omega) (by omega)
      rw [← Nat.pow_add] at a
      have b : (M * M) * (M * M) ≤ 2 ^ (8999 + 8999) * 2 ^ (8999 + 8999) := Nat.mul_le_mul a a
      rw [← Nat.pow_add] at b
      have c : (M * M) * (M * M) = M * (M * (M * M)) := by rw [Nat.mul_assoc]
      rw [c] at b
      have d : 3 * (M * (M * (M * M))) < 2 ^ 2 * 2 ^ (8999 + 8999 + (8999 + 8999)) := by
        have : 0 < 2 ^ (8999 + 8999 + (8999 + 8999)) := Nat.pow_pos (by decide)
        have e2 : (2 : Nat) ^ 2 = 4 := rfl
        rw [e2]; omega
      rw [← Nat.pow_add] at d
      exact Nat.lt_of_lt_of_le d (Nat.pow_le_pow_right (by decide) (by decide))
    obtain ⟨o1, ho1, hz1⟩ := z
    have hlt := w.lt o1 ho1
    have hCo : U * (P * (P * (at' o1 p).natAbs)) ≤ 3 * (M * (M * (M * M))) := by
      have a1 : U * (P * (P * (at' o1 p).natAbs)) = (U * P) * (P * (at' o1 p).natAbs) := by rw [Nat.mul_assoc]
      have a2 : (U * P) * (P * (at' o1 p).natAbs) ≤ (3 * (M * M)) * (M * M) := Nat.mul_le_mul hUP (Nat.mul_le_mul hPM (by omega))
      have a3 : (3 * (M * M)) * (M * M) = 3 * (M * (M * (M * M))) := by simp only [Nat.mul_assoc]
      omega
    obtain ⟨row, left, e, c, b⟩ := cl_loop (nm := nm) (l := l) (nm' := nmAt nm (l + 1)) (s0 := .fz (rowsV false L)) hB hB2 hm hp hs c1 hM' P (stepL L p k) U true (.fz (.int (k : Int))) (.fz (rowsV true (butL L k))) (.fz (tupI (L[k]?.getD []))) (step_ln h kl) (step_len kl) (fun x => step_sp h kl) w hPM ⟨o1, ho1, hz1, hCo⟩
    refine ⟨row, left, wl_go (by simp) (go ⟨o1, ho1, hz1⟩) e (fun q => by cases q), c, ?_⟩
    have : 2 * (3 * (M * (M * (M * M)))) = 6 * (M * (M * (M * M))) := by omega
    rwa [this] at b
  · have z' : ∀ o ∈ (stepL L p k).tail, at' o p = 0 := fun o ho => Classical.byContradiction fun q => z ⟨o, ho, q⟩
    refine ⟨_, _, wl_out (by simp) (stp z') (fun r q => by cases q) (fun q => by cases q), ?_, ?_⟩
    · have ln := step_ln (p := p) h kl
      refine fix_clr (h.get kl) (fun r hr => ln r (List.mem_of_mem_tail hr)) ?_ hL.2.1 z' (fun x => step_sp h kl)
      have := step_len (p := p) kl
      rw [List.length_tail]; omega
    · have UU : U ≤ 6 * (M * (M * (M * M))) := by
        have : U ≤ U * P := Nat.le_mul_of_pos_right _ w.ps
        omega
      have : Bd (6 * (M * (M * (M * M)))) (stepL L p k) := fun r hr j => Nat.le_trans (w.bd r hr j) UU
      exact fix_bd this
end
end BO

namespace BO
open SG
/-- the bound after so many places -/
def Mk (M : Nat) : Nat → Nat
  | 0 => M
  | k + 1 => 6 * (Mk M k * (Mk M k * (Mk M k * Mk M k)))
def ek : Nat → Nat
  | 0 => 20
  | k + 1 => 4 * ek k + 3
theorem mk_le : ∀ k, Mk (2 ^ 20) k ≤ 2 ^ ek k
  | 0 => Nat.le_refl _
  | k + 1 => by
    have i := mk_le k
    have a := Nat.mul_le_mul i (Nat.mul_le_mul i (Nat.mul_le_mul i i))
    rw [← Nat.pow_add, ← Nat.pow_add, ← Nat.pow_add] at a
    have b : 6 * 2 ^ (ek k + (ek k + (ek k + ek k))) ≤ 2 ^ 3 * 2 ^ (ek k + (ek k + (ek k + ek k))) := Nat.mul_le_mul_right _ (by decide)
    rw [← Nat.pow_add] at b
    have c : 3 + (ek k + (ek k + (ek k + ek k))) = ek (k + 1) := by show _ = 4 * ek k + 3; omega
    rw [c] at b
    unfold Mk
    exact Nat.le_trans (Nat.mul_le_mul_left 6 a) b
theorem ek_mono : ∀ k, ek k ≤ ek (k + 1) := fun k => by
  show ek k ≤ 4 * ek k + 3
  omega
theorem mk_mono (k : Nat) : Mk (2 ^ 20) k ≤ 2 ^ 86015 ∨ 6 < k := by
  by_cases h : 6 < k
  · exact .inr h
  · refine .inl (Nat.le_trans (mk_le k) (Nat.pow_le_pow_right (by decide) ?_))
    have : k = 0 ∨ k = 1 ∨ k = 2 ∨ k = 3 ∨ k = 4 ∨ k = 5 ∨ k = 6 := by omega
    rcases this with h | h | h | h | h | h | h <;> subst h <;> decide
def Bs : Nat → Nat
  | 0 => 2 ^ 86015
  | p + 1 => 3 * (Bs p * 2 ^ 86015)
theorem bs_le : ∀ p, Bs p ≤ 2 ^ (86017 * (p + 1))
  | 0 => Nat.pow_le_pow_right (by decide) (by omega)
  | p + 1 => by
    have i := bs_le p
    have a : Bs p * 2 ^ 86015 ≤ 2 ^ (86017 * (p + 1)) * 2 ^ 86015 := Nat.mul_le_mul_right _ i
    rw [← Nat.pow_add] at a
    have b : 3 * 2 ^ (86017 * (p + 1) + 86015) ≤ 2 ^ 2 * 2 ^ (86017 * (p + 1) + 86015) := Nat.mul_le_mul_right _ (by decide)
    rw [← Nat.pow_add] at b
    have c : 2 + (86017 * (p + 1) + 86015) = 86017 * (p + 1 + 1) := by omega
    rw [c] at b
    unfold Bs
    exact Nat.le_trans (Nat.mul_le_mul_left 3 a) b
theorem bs_one : ∀ p, 1 ≤ Bs p
  | 0 => Nat.one_le_two_pow
  | p + 1 => by
    have i := bs_one p
    have : 0 < Bs p * 2 ^ 86015 := Nat.mul_pos i (Nat.two_pow_pos _)
    unfold Bs; omega
theorem bs_mono (p : Nat) : Bs p ≤ Bs (p + 1) := by
  have : Bs p ≤ Bs p * 2 ^ 86015 := Nat.le_mul_of_pos_right _ (Nat.two_pow_pos _)
  show _ ≤ 3 * (Bs p * 2 ^ 86015)
  omega
theorem ent_bd {U m : Nat} {F : List (List Int)} (h : Bd U F) (i j : Nat) : (ent' F i j).natAbs ≤ U := by
  by_cases hi : i < F.length
  · exact h _ (get_mem hi) j
  · unfold ent'; rw [List.getElem?_eq_none (by omega)]
    show (at' [] j).natAbs ≤ U
    unfold at'; simp
theorem Full.of {m : Nat} {c : Int} {R T : List (List Int)} (h : Full m c R) (e : ∀ x, Sp m R x → Sp m T x) : Full m c T := fun v j hj hv h0 hc => e v (h v j hj hv h0 hc)
def st1 : Ss := (.cons (.asgT [] [6, 4] (.call "cleared" (.cons (.var 4) (.cons (.var 5) .nil)))) (.cons (.app [] 2 (.var 6)) .nil))
def st2 : Ss := (.cons (.setI [] 2 (.var 3) (.call "less" (.cons (.ixv 2 (.var 3)) (.cons (.op .fdiv (.ix (.ixv 2 (.var 3)) (.var 5)) (.ix (.ixv 2 (.var 5)) (.var 5))) (.cons (.ixv 2 (.var 5)) .nil))))) .nil)
section
variable {B : PySem.Str → Option FI} {nm : Nm}
theorem stair_of (hB : B "least_at" = some fi_least_at) (hB2 : B "less" = some fi_less) (hB3 : B "cleared" = some fi_cleared) (hB4 : B "stair_of" = some fi_stair_of) {l m : Nat} {R : List (List Int)} {y : Bool} (hm : m ≤ 6) (h : Ln m R) (hR : R.length = m) (bd : Bd (2 ^ 20) R) {c : Int} (hc : c ≠ 0) (hc2 : c.natAbs < 2 ^ 200) (hf : Full m c R) :
    ∃ T, callF B nm (l + 3) "stair_of" [rowsV y R, .int (m : Int)] = .ok (rowsV true T) ∧ Stair m T ∧ ∀ x, Sp m R x ↔ Sp m T x := by
  have e0 : startR 7 (PV.olds [rowsV y R, .int (m : Int)]) = [.fz (rowsV false R), .fz (.int (m : Int)), .no, .no, .no, .no, .no] := by simp [olds_cons, olds_nil, old_rows, PV.old, startR]
  obtain ⟨ρ', e, F, L, s5, s6, rfl, hh, _, bF⟩ := fl_rng (G := callF B nm (l + 2)) (nm := nmAt nm (l + 2)) (tg := [5]) (w := true) (t := st1) (n := m) (ρ := [.fz (rowsV false R), .fz (.int (m : Int)), .own [], .no, .fz (rowsV true R), .no, .no])
    (fun k ρ => ∃ F L s5 s6, ρ = [.fz (rowsV false R), .fz (.int (m : Int)), .own (F.map tupI), .no, .fz (rowsV true L), s5, s6] ∧ Half m k R F L ∧ Bd (Mk (2 ^ 20) k) L ∧ Bd (2 ^ 86015) F)
    ⟨[], R, _, _, rfl, Half.start h hR, bd, fun r hr => by cases hr⟩ (fun k hk ρ ⟨F, L, s5, s6, e, hh, bL, bF⟩ => by
      subst e
      have ll := hh.ll
      have M90 : Mk (2 ^ 20) k < 2 ^ 90000 := by
        have := (mk_mono k).resolve_right (by omega)
        exact Nat.lt_of_le_of_lt this (Nat.pow_lt_pow_right (by decide) (by decide))
      have M1 : L.length = 1 ∨ Mk (2 ^ 20) k < 2 ^ 8999 := by
        by_cases z : L.length = 1
        · exact .inl z
        · refine .inr (Nat.lt_of_le_of_lt (mk_le k) (Nat.pow_lt_pow_right (by decide) ?_))
          have : k = 0 ∨ k = 1 ∨ k = 2 ∨ k = 3 ∨ k = 4 := by omega
          rcases this with h | h | h | h | h <;> subst h <;> decide
      obtain ⟨row, left, ec, cl, b⟩ := cleared (nm := nm) hB hB2 hB3 (l := l) (y := true) hh.lnL (by omega) hk (by omega) (hh.some hk hc hf) bL M90 M1
      have hn := hh.next hk cl
      refine ⟨_, [.fz (rowsV false R), .fz (.int (m : Int)), .own ((F ++ [row]).map tupI), .no, .fz (rowsV true left), .fz (.int (k : Int)), .fz (tupI row)], rfl, ?_, F ++ [row], left, _, _, rfl, hn, fun r hr => b r (List.mem_cons_of_mem _ hr), fun r hr => ?_⟩
      · simp only [List.set_cons_succ, List.set_cons_zero]
        have lf := hh.fl
        have ll : F.length < PySem.sizeLine := lt_line (by omega)
        unfold st1
        simp [ec, setT, ll]
      · rcases List.mem_append.mp hr with d | d
        · exact bF r d
        · rw [List.mem_singleton.mp d]
          have := (mk_mono (k + 1)).resolve_right (by omega)
          exact fun j => Nat.le_trans (b row List.mem_cons_self j) this)
  obtain ⟨_, tri, sp⟩ := hh.done
  have ffF : Full m c F := hf.of fun x hx => (sp x).mp hx
  obtain ⟨ρ'', e2, T, s3, s5', rfl, up⟩ := fl_rng (G := callF B nm (l + 2)) (nm := nmAt nm (l + 2)) (tg := [5]) (w := true) (t := (.cons (.for [] [3] true (.rng1 (.var 5)) st2) .nil)) (n := m) (ρ := [.fz (rowsV false R), .fz (.int (m : Int)), .own (F.map tupI), .no, .fz (rowsV true L), s5, s6])
    (fun p ρ => ∃ F s3 s5, ρ = [.fz (rowsV false R), .fz (.int (m : Int)), .own (F.map tupI), s3, .fz (rowsV true L), s5, s6] ∧ Up m p 0 R F (2 ^ 86015) (Bs p) (Bs (p + 1)))
    ⟨F, _, _, rfl, ⟨tri, sp, fun q hq => absurd hq (Nat.not_lt_zero q), fun j hj => absurd hj (Nat.not_lt_zero j), fun i _ j => ent_bd (m := m) bF i j, fun i _ j => ent_bd (m := m) bF i j, fun i hi => absurd hi (Nat.not_lt_zero i)⟩⟩ (fun p hp ρ ⟨F, s3, s5, e, up⟩ => by
      subst e
      obtain ⟨ρ', e, F', s3', rfl, up'⟩ := fl_rng (G := callF B nm (l + 2)) (nm := nmAt nm (l + 2)) (tg := [3]) (w := true) (t := st2) (n := p) (ρ := [.fz (rowsV false R), .fz (.int (m : Int)), .own (F.map tupI), s3, .fz (rowsV true L), .fz (.int (p : Int)), s6])
        (fun k ρ => ∃ F s3, ρ = [.fz (rowsV false R), .fz (.int (m : Int)), .own (F.map tupI), s3, .fz (rowsV true L), .fz (.int (p : Int)), s6] ∧ Up m p k R F (2 ^ 86015) (Bs p) (Bs (p + 1)))
        ⟨F, _, rfl, up⟩ (fun k hk ρ ⟨F, s3, e, up⟩ => by
          subst e
          have hl := up.tri.len
          have un := up.next hp hk Nat.one_le_two_pow (bs_one p) (Nat.le_refl _)
          refine ⟨_, [.fz (rowsV false R), .fz (.int (m : Int)), .own ((redAt F p k).map tupI), .fz (.int (k : Int)), .fz (rowsV true L), .fz (.int (p : Int)), s6], rfl, ?_, redAt F p k, _, rfl, un⟩
          simp only [List.set_cons_succ, List.set_cons_zero]
          have fo : PV.lst true (F.map tupI) = rowsV true F := rfl
          have xk := ix_rows (y := true) (R := F) (k := k) (by omega)
          have xp := ix_rows (y := true) (R := F) (k := p) (by omega)
          have lk := up.tri.ln.get (k := k) (by omega)
          have lp := up.tri.ln.get (k := p) (by omega)
          have ak := ix_tup (r := F[k]?.getD []) (k := p) (by omega)
          have ap := ix_tup (r := F[p]?.getD []) (k := p) (by omega)
          rw [ent_row (by omega)] at ak ap
          have ffF : Full m c F := hf.of fun x hx => (up.sp x).mp hx
          have dv := up.tri.full ffF hp
          have dg := up.tri.dg p hp
          have dle : (ent' F p p).natAbs ≤ c.natAbs := Nat.le_of_dvd (by omega) (Int.natAbs_dvd_natAbs.mpr dv)
          have dok : DivOk (ent' F p p) := divOk_b (k := 200) (by omega) (by omega) (by decide)
          have mok : ∀ x ∈ F[p]?.getD [], MulOk ((ent' F k p).fdiv (ent' F p p)) x := by
            intro x hx
            obtain ⟨j, rfl⟩ := mem_at hx
            have bx : (at' (F[p]?.getD []) j).natAbs ≤ 2 ^ 86015 := up.b0 p (Nat.le_refl _) j
            have bo := up.b k (Nat.le_refl _) p
            have q1 := fdiv_any (a := ent' F k p) (b := ent' F p p) (by omega)
            have q2 : (ent' F k p).natAbs / (ent' F p p).natAbs ≤ (ent' F k p).natAbs := Nat.div_le_self _ _
            have q3 : ((ent' F k p).fdiv (ent' F p p)).natAbs ≤ Bs p + 1 := by omega
            have q4 : Bs p + 1 < 2 ^ 600000 := by
              have a := bs_le p
              have b : 2 ^ (86017 * (p + 1)) ≤ 2 ^ 516102 := Nat.pow_le_pow_right (by decide) (by omega)
              have d : (2 : Nat) ^ 516102 * 2 ^ 1 ≤ 2 ^ 600000 := by rw [← Nat.pow_add]; exact Nat.pow_le_pow_right (by decide) (by decide)
              have e : 1 < (2 : Nat) ^ 516102 := Nat.one_lt_two_pow (by decide)
              omega
            exact mulOk_of (i := 600000) (j := 86016) (Nat.lt_of_le_of_lt q3 q4) (Nat.lt_of_le_of_lt bx (Nat.pow_lt_pow_right (by decide) (by decide))) (by decide)
          have le := less_of (nm := nm) hB2 (l := l + 1) (p := F[k]?.getD []) (q := F[p]?.getD []) (by omega) mok
          have re : red p (F[p]?.getD []) (F[k]?.getD []) = less (F[k]?.getD []) ((ent' F k p).fdiv (ent' F p p)) (F[p]?.getD []) := rfl
          have hset : setIV (F.map tupI) (tupI (less (F[k]?.getD []) ((ent' F k p).fdiv (ent' F p p)) (F[p]?.getD []))) (.int (k : Int)) = .ok ((redAt F p k).map tupI) := by
            unfold setIV; dsimp only
            have e : L2.ixN (F.map tupI).length (k : Int) = some k := by
              have : k < (F.map tupI).length := by rw [List.length_map]; omega
              unfold L2.ixN; simp at this ⊢; omega
            rw [e]
            unfold redAt
            rw [List.map_set, re]
          unfold st2
          simp [fo, xk, xp, ak, ap, fdivV_int dok, le, hset])
      refine ⟨_, _, rfl, ?_, F', s3', .fz (.int (p : Int)), rfl, up'.place (bs_mono p) hp⟩
      simp only [List.set_cons_succ, List.set_cons_zero]
      exact last (for_st (by simp [rng_n (show p ≤ 1000 by omega)]) e))
  refine ⟨T, ?_, up.done, up.sp⟩
  rw [callF_eq hB4]
  refine runF_ret rfl ?_
  rw [e0, show b_stair_of = .cons (.asgM [] 2 (.lst .nil)) (.cons (.asg [] 4 (.bi .list (.cons (.var 0) .nil))) (.cons (.for [] [5] true (.rng1 (.var 1)) st1) (.cons (.for [] [5] true (.rng1 (.var 1)) (.cons (.for [] [3] true (.rng1 (.var 5)) st2) .nil)) (.cons (.ret [2] (.var 2)) .nil)))) from rfl]
  refine stage (ρ' := [.fz (rowsV false R), .fz (.int (m : Int)), .own [], .no, .no, .no, .no]) (by simp [ownOr, PV.lfs, E.mk]) ?_
  refine stage (ρ' := [.fz (rowsV false R), .fz (.int (m : Int)), .own [], .no, .fz (rowsV true R), .no, .no]) (by simp [list_rows]) ?_
  refine stage (for_st (by simp [rng_n (show m ≤ 1000 by omega)]) e) ?_
  refine stage (for_st (by simp [rng_n (show m ≤ 1000 by omega)]) e2) ?_
  exact stop (by simp [rowsV])
end
end BO

namespace BO
open SG
theorem zero_mul {n : Nat} (hn : n ≤ 1000) : mulV (.tup [.int 0]) (.int (n : Int)) = .ok (tupI (zero n)) := by
  unfold mulV; dsimp only
  rw [Rs.when_pos ⟨by simp, by omega, by omega, by simp⟩, Int.toNat_natCast]
  unfold tupI zero; simp
theorem take_zero {r : List Int} {k : Nat} (hk : k ≤ r.length) (h : ∀ j, j < k → at' r j = 0) : r.take k = zero k := by
  refine ext_z (by rw [List.length_take]; omega) fun j hj => ?_
  have := h j hj
  unfold at' at this ⊢
  rw [List.getElem?_take, if_pos hj]; exact this
/-- the numbers on the stair, multiplied -/
def dprod (n : Nat) (T : List (List Int)) : Int := ((List.range n).map fun k => ent' T k k).foldr (· * ·) 1
theorem blk_tri {n : Nat} {T : List (List Int)} (h : Tri n T) (hn1 : 1 ≤ n) (hn : n ≤ 3) : blk T = dprod n T ∧ 0 < blk T := by
  have hr : Rws n T := ⟨h.len, h.ln⟩
  rcases rws_cases hr hn1 hn with ⟨rfl, a, rfl⟩ | ⟨rfl, a, b, c, d, rfl⟩ | ⟨rfl, a, b, c, d, e, f, g, u, i, rfl⟩
  · have d0 := h.dg 0 (by omega)
    simp [ent', at'] at d0
    simp [blk, dprod, ent', at', List.range, List.range.loop]
    exact d0
  · have d0 := h.dg 0 (by omega)
    have d1 := h.dg 1 (by omega)
    have l10 := h.lo 1 0 (by omega) (by omega)
    simp [ent', at'] at d0 d1 l10
    subst l10
    simp [blk, dprod, ent', at', List.range, List.range.loop]
    exact Int.mul_pos d0 d1
  · have d0 := h.dg 0 (by omega)
    have d1 := h.dg 1 (by omega)
    have d2 := h.dg 2 (by omega)
    have l10 := h.lo 1 0 (by omega) (by omega)
    have l20 := h.lo 2 0 (by omega) (by omega)
    have l21 := h.lo 2 1 (by omega) (by omega)
    simp [ent', at'] at d0 d1 d2 l10 l20 l21
    subst l10 l20 l21
    simp [blk, dprod, ent', at', List.range, List.range.loop]
    exact Int.mul_pos d0 (Int.mul_pos d1 d2)
/-- a stair's numbers are no greater than what is full -/
theorem stair_sq {n : Nat} {T : List (List Int)} {c : Int} {M : Int} (h : Stair n T) (hc : c ≠ 0) (hf : Full n c T) (hM : -M ≤ c ∧ c ≤ M) : Sq n M T := by
  have hl := h.len
  refine ⟨h.len, fun r hr => ⟨h.ln r hr, fun x hx => ?_⟩⟩
  obtain ⟨k, hk, e⟩ := mem_ent hr
  obtain ⟨j, hj, rfl⟩ := List.mem_iff_getElem.mp hx
  have lr := h.ln r hr
  have ej : r[j] = ent' T k j := by rw [← e j]; unfold at'; rw [List.getElem?_eq_getElem hj]; rfl
  rw [ej]
  have hjn : j < n := by omega
  have hkn : k < n := by omega
  have dle : ∀ i, i < n → 0 < ent' T i i ∧ ent' T i i ≤ M := fun i hi => by
    have d := h.toTri.full hf hi
    have p := h.dg i hi
    have := Nat.le_of_dvd (by omega) (Int.natAbs_dvd_natAbs.mpr d)
    omega
  rcases Nat.lt_trichotomy j k with q | q | q
  · rw [h.lo k j hkn q]; omega
  · subst q; have := dle j hjn; omega
  · have := h.up k j hjn q; have := dle j hjn; omega
theorem sq_bd {n : Nat} {m : Int} {R : List (List Int)} {U : Nat} (h : Sq n m R) (hm : m ≤ U) : Bd U R := by
  intro r hr j
  by_cases hj : j < r.length
  · have := (h.2 r hr).2 _ (at_mem hj); omega
  · rw [at_out (by omega)]; simp
theorem sq_full {n : Nat} {m : Int} {R : List (List Int)} (h : Sq n m R) (hn1 : 1 ≤ n) (hn : n ≤ 3) (hb : blk R ≠ 0) : Full n (blk R) R := fun v j hj hv h0 hd => sp_full h.rws hn1 hn hb hv h0 (by rw [hd]; exact Int.dvd_refl _)
section
variable {B : PySem.Str → Option FI} {nm : Nm}
/-- the stair of rows with a bulk -/
theorem stair_sq_of (hB : B "least_at" = some fi_least_at) (hB2 : B "less" = some fi_less) (hB3 : B "cleared" = some fi_cleared) (hB4 : B "stair_of" = some fi_stair_of) {n : Nat} {R : List (List Int)} (h : Sq n 1000000 R) (hn1 : 1 ≤ n) (hn : n ≤ 3) (hb : blk R ≠ 0) :
    ∃ T, (∀ (l : Nat) (y : Bool), callF B nm (l + 3) "stair_of" [rowsV y R, .int (n : Int)] = .ok (rowsV true T)) ∧ Stair n T ∧ (∀ x, Sp n R x ↔ Sp n T x) ∧ Sq n 6000000000000000000 T ∧ 0 < blk T := by
  have bb := blk_in h hn1 hn (by decide)
  have ff := sq_full h hn1 hn hb
  have main := fun (l : Nat) (y : Bool) => stair_of (nm := nm) hB hB2 hB3 hB4 (l := l) (y := y) (by omega) h.rws.2 h.1 (sq_bd h (by decide)) hb (by omega) ff
  obtain ⟨T, e, st, sp⟩ := main 0 false
  refine ⟨T, fun l y => ?_, st, sp, stair_sq st hb (ff.of fun x hx => (sp x).mp hx) bb, (blk_tri st.toTri hn1 hn).2⟩
  obtain ⟨T', e', st', sp'⟩ := main l y
  have : T' = T := st'.uniq st (fun p hp => (sp p).mp ((sp' p).mpr hp)) (fun p hp => (sp' p).mp ((sp p).mpr hp))
  rw [e', this]
theorem stair (kn : Kn B) (hB : B "least_at" = some fi_least_at) (hB2 : B "less" = some fi_less) (hB3 : B "cleared" = some fi_cleared) (hB4 : B "stair_of" = some fi_stair_of) (hB5 : B "need_rows" = some fi_need_rows) (hB6 : B "stair" = some fi_stair) {n : Nat} {R : List (List Int)} (h : Sq n 1000000 R) (hn1 : 1 ≤ n) (hn : n ≤ 3) (hb : blk R ≠ 0) :
    ∃ T, (∀ (l : Nat) (y : Bool), callF B nm (l + 6) "stair" [rowsV y R] = .ok (rowsV true T)) ∧ (∀ (l : Nat) (y : Bool), callF B nm (l + 3) "stair_of" [rowsV y R, .int (n : Int)] = .ok (rowsV true T)) ∧ Stair n T ∧ (∀ x, Sp n R x ↔ Sp n T x) ∧ Sq n 6000000000000000000 T ∧ 0 < blk T := by
  obtain ⟨T, e, r⟩ := stair_sq_of (nm := nm) hB hB2 hB3 hB4 h hn1 hn hb
  refine ⟨T, fun l y => ?_, e, r⟩
  rw [callF_eq hB6]
  refine runF_ret rfl ?_
  have e0 : startR 1 (PV.olds [rowsV y R]) = [.fz (rowsV false R)] := by simp [olds_cons, olds_nil, old_rows, startR]
  have nr := need_rows_sq kn (nm := nm) hB5 (l := l) (y := false) h hn1 hn (by decide)
  rw [if_neg hb] at nr
  have s := e (l + 2) false
  rw [e0]
  unfold b_stair
  simp [nr, len_rows, h.1, s]
def isIn : Ss := (.cons (.iff [] (.not (.chain .le .lt (.int 0) (.ix (.ixv 0 (.var 1)) (.var 2)) (.ix (.ixv 0 (.var 2)) (.var 2)))) (.cons (.ret [] (.bl false)) .nil) .nil) .nil)
def isOut : Ss := (.cons (.iff [] (.or (.cmp .lt (.ix (.ixv 0 (.var 2)) (.var 2)) (.int 1)) (.cmp .ne (.slHi (.ixv 0 (.var 2)) (.var 2)) (.op .mul (.tup (.cons (.int 0) .nil)) (.var 2)))) (.cons (.ret [] (.bl false)) .nil) .nil) (.cons (.for [] [1] true (.rng1 (.var 2)) isIn) .nil))
theorem law_is_stair (hB : B "_law_is_stair" = some fi__law_is_stair) {l n : Nat} {T : List (List Int)} {y : Bool} (h : Stair n T) (hn : n ≤ 1000) : callF B nm (l + 1) "_law_is_stair" [rowsV y T] = .ok (.bl true) := by
  have e0 : startR 3 (PV.olds [rowsV y T]) = [.fz (rowsV false T), .no, .no] := by simp [olds_cons, olds_nil, old_rows, startR]
  have hl := h.len
  rw [callF_eq hB]
  refine runF_ret rfl ?_
  rw [e0, show b__law_is_stair = .cons (.for [] [2] true (.rng1 (.bi .len (.cons (.var 0) .nil))) isOut) (.cons (.ret [] (.bl true)) .nil) from rfl]
  obtain ⟨ρ', e, s1, s2, rfl⟩ := fl_rng (G := callF B nm l) (nm := nmAt nm l) (tg := [2]) (w := true) (t := isOut) (n := n) (ρ := [.fz (rowsV false T), .no, .no])
    (fun k ρ => ∃ s1 s2, ρ = [.fz (rowsV false T), s1, s2]) ⟨_, _, rfl⟩ (fun k hk ρ ⟨s1, s2, e⟩ => by
      subst e
      have xk := ix_rows (y := false) (R := T) (k := k) (by omega)
      have lk := h.ln.get (k := k) (by omega)
      have ak := ix_tup (r := T[k]?.getD []) (k := k) (by omega)
      rw [ent_row (by omega)] at ak
      have d := h.dg k hk
      have tz : (T[k]?.getD []).take k = zero k := take_zero (by omega) fun j hj => h.lo k j hk hj
      obtain ⟨ρ', e, s1', rfl⟩ := fl_rng (G := callF B nm l) (nm := nmAt nm l) (tg := [1]) (w := true) (t := isIn) (n := k) (ρ := [.fz (rowsV false T), s1, .fz (.int (k : Int))])
        (fun j ρ => ∃ s1, ρ = [.fz (rowsV false T), s1, .fz (.int (k : Int))]) ⟨_, rfl⟩ (fun j hj ρ ⟨s1, e⟩ => by
          subst e
          refine ⟨_, _, rfl, ?_, .fz (.int (j : Int)), rfl⟩
          simp only [List.set_cons_succ, List.set_cons_zero]
          have xj := ix_rows (y := false) (R := T) (k := j) (by omega)
          have lj := h.ln.get (k := j) (by omega)
          have aj := ix_tup (r := T[j]?.getD []) (k := k) (by omega)
          rw [ent_row (by omega)] at aj
          have u := h.up j k hk hj
          unfold isIn
          simp [xj, aj, xk, ak, u])
      refine ⟨_, _, rfl, ?_, s1', .fz (.int (k : Int)), rfl⟩
      simp only [List.set_cons_succ, List.set_cons_zero]
      have n1 : ¬ ent' T k k < 1 := by omega
      have ht := hi_tupI (r := T[k]?.getD []) (k := k)
      have zm := zero_mul (n := k) (by omega)
      have ne := neV_tup (a := zero k) (b := zero k)
      simp only [decide_true, Bool.not_true] at ne
      unfold isOut
      refine stage (ρ' := [.fz (rowsV false T), s1, .fz (.int (k : Int))]) (by simp [xk, ak, n1, ht, tz, zm, ne, sz, -List.map_take]) ?_
      exact last (for_st (by simp [rng_n (show k ≤ 1000 by omega)]) e))
  refine stage (for_st (by simp [len_rows, hl, rng_n hn]) e) ?_
  exact stop (by simp)
end
end BO

namespace BO
open SG
theorem lv_le {n k : Nat} {p : PV} (h : Lv n p) (hk : n ≤ k) : Lv k p := ⟨h.lay, Nat.le_trans h.dep hk⟩
theorem lv_non {n : Nat} : Lv n .non := ⟨by simp [PV.toD, PySem.PyData.canLay0], by simp [PV.toD, PySem.PyData.depth]⟩
theorem lv_bl {n : Nat} {b : Bool} : Lv n (.bl b) := ⟨by simp [PV.toD, PySem.PyData.canLay0], by simp [PV.toD, PySem.PyData.depth]⟩
theorem lv_ww {o : Option (List Int)} : Lv 1 (wwV o) := by
  cases o with
  | none => exact lv_non
  | some w => exact lv_lstI
theorem lv_wws {y : Bool} {l : List (Option (List Int))} : Lv 2 (.lst y (l.map wwV)) := Lv.lst fun x hx => by obtain ⟨o, _, rfl⟩ := List.mem_map.mp hx; exact lv_ww
theorem in_none {y : Bool} {l : List (Option (List Int))} : inV' .non (.lst y (l.map wwV)) = .ok (.bl (l.any (·.isNone))) := by
  unfold inV'; dsimp only
  rw [Rs.when_pos ⟨lv_non.ok (n := 0) (by decide), lv_wws.ok (by decide)⟩, List.any_map]
  congr 3
  funext o
  cases o with
  | none => simp [Function.comp, wwV, eqP, PV.toD, PySem.PyData.eqv]
  | some w => simp [Function.comp, wwV, lstI, eqP, PV.toD, PySem.PyData.eqv]
/-- a list of weights or None, row by row -/
theorem cm_ww {G : Gt} {ρ : Rho} {own tg : List Nat} {w : Bool} {elt : E} {l : List (List Int)} (f : List Int → Option (List Int)) (h : ∀ a ∈ l, ((setT w tg (tupI a) (wipeS ρ own)).bind fun ρ1 => eE G ρ1 elt) = .ok (wwV (f a))) (hn : l.length ≤ 1000) :
    cm G ρ own tg w elt (l.map tupI) = .ok (.lst true ((l.map f).map wwV)) := by
  rw [cm_of (l := l) tupI (fun a => wwV (f a)) invTup invTup_tupI h hn, List.map_map]; rfl
theorem blk_last0 {n : Nat} {R : List (List Int)} (h : Rws n R) (hn1 : 1 ≤ n) (hn : n ≤ 3) : blk (R.dropLast ++ [zero n]) = 0 := by
  rcases rws_cases h hn1 hn with ⟨rfl, a, rfl⟩ | ⟨rfl, a, b, c, d, rfl⟩ | ⟨rfl, a, b, c, d, e, f, g, u, i, rfl⟩
  · simp [blk, zero, List.replicate]
  · simp [blk, zero, List.replicate]
  · simp [blk, zero, List.replicate]
theorem blk_last1 {n : Nat} {R : List (List Int)} (h : Rws n R) (hn1 : 2 ≤ n) (hn : n ≤ 3) : blk (R.dropLast ++ [R[0]?.getD []]) = 0 := by
  rcases rws_cases h (by omega) hn with ⟨rfl, a, rfl⟩ | ⟨rfl, a, b, c, d, rfl⟩ | ⟨rfl, a, b, c, d, e, f, g, u, i, rfl⟩
  · omega
  · simp [blk]; grind
  · simp [blk]; grind
theorem sq_last {n : Nat} {m : Int} {R : List (List Int)} {r : List Int} (h : Sq n m R) (hn1 : 1 ≤ n) (hr : r.length = n) (hb : ∀ x ∈ r, -m ≤ x ∧ x ≤ m) : Sq n m (R.dropLast ++ [r]) := by
  refine ⟨by have := h.1; simp; omega, fun z hz => ?_⟩
  rcases List.mem_append.mp hz with d | d
  · exact h.2 z (List.mem_of_mem_take (List.dropLast_eq_take ▸ d))
  · rw [List.mem_singleton.mp d]; exact ⟨hr, hb⟩
end BO

namespace BO
open SG
/-! ### rests of points -/
def restK (T : List (List Int)) (p : List Int) : Nat → List Int
  | 0 => p
  | k + 1 => red k (T[k]?.getD []) (restK T p k)
/-- each number of it is within the stair's -/
def InBox (m : Nat) (T : List (List Int)) (p : List Int) : Prop := p.length = m ∧ ∀ j, j < m → 0 ≤ at' p j ∧ at' p j < ent' T j j
section
variable {m : Nat} {T : List (List Int)} {p q : List Int}
theorem rest_ok (h : Tri m T) (lp : p.length = m) : ∀ k, k ≤ m → (restK T p k).length = m ∧ Sp m T (less p 1 (restK T p k)) ∧ ∀ j, j < k → 0 ≤ at' (restK T p k) j ∧ at' (restK T p k) j < ent' T j j := by
  intro k
  induction k with
  | zero =>
    intro _
    refine ⟨lp, ?_, fun j hj => absurd hj (Nat.not_lt_zero j)⟩
    show Sp m T (less p 1 p)
    rw [less_self, lp]; exact .zero
  | succ k ih =>
    intro hk
    obtain ⟨i1, i2, i3⟩ := ih (by omega)
    have hl := h.len
    have lr := h.ln.get (k := k) (by omega)
    have e : restK T p (k + 1) = red k (T[k]?.getD []) (restK T p k) := rfl
    have rl : (restK T p (k + 1)).length = m := by rw [e, red_len (by omega), lr]
    have ra : ∀ j, at' (restK T p (k + 1)) j = at' (restK T p k) j - (at' (restK T p k) k).fdiv (ent' T k k) * ent' T k j := fun j => by
      rw [e, red_at (by omega)]; rfl
    refine ⟨rl, ?_, fun j hj => ?_⟩
    · have s : Sp m T (less (less p 1 (restK T p k)) (-((at' (restK T p k) k).fdiv (ent' T k k))) (T[k]?.getD [])) := .less _ i2 (.row (get_mem (by omega)))
      have e2 : less (less p 1 (restK T p k)) (-((at' (restK T p k) k).fdiv (ent' T k k))) (T[k]?.getD []) = less p 1 (restK T p (k + 1)) := by
        have l1 : (less p 1 (restK T p k)).length = p.length := less_len (by omega)
        refine ext' (by rw [less_len (by omega), l1, less_len (by omega)]) fun j _ => ?_
        rw [at_less (by omega), at_less (by omega), at_less (by omega), ra]
        show _ - _ * ent' T k j = _
        grind
      rwa [e2] at s
    · rw [ra]
      by_cases q : j = k
      · subst q
        have d := h.dg j (by omega)
        have f := fd_eq (at' (restK T p j) j) (ent' T j j)
        have g := (fmod_posi (a := at' (restK T p j) j) (b := ent' T j j) d).1
        have m1 := Int.emod_nonneg (at' (restK T p j) j) (b := ent' T j j) (by omega)
        have m2 := Int.emod_lt_of_pos (at' (restK T p j) j) (b := ent' T j j) d
        omega
      · rw [h.lo k j (by omega) (by omega), Int.mul_zero, Int.sub_zero]
        exact i3 j (by omega)
theorem rest_box (h : Tri m T) (lp : p.length = m) : InBox m T (restK T p m) := ⟨(rest_ok h lp m (Nat.le_refl _)).1, (rest_ok h lp m (Nat.le_refl _)).2.2⟩
theorem rest_sp (h : Tri m T) (lp : p.length = m) : Sp m T (less p 1 (restK T p m)) := (rest_ok h lp m (Nat.le_refl _)).2.1
/-- two within the box that are alike are one -/
theorem box_uniq (h : Tri m T) (hp : InBox m T p) (hq : InBox m T q) (s : Sp m T (less p 1 q)) : p = q := by
  obtain ⟨lp, bp⟩ := hp
  obtain ⟨lq, bq⟩ := hq
  have z := h.small s fun k hk => by
    rw [at_less (by omega)]
    have a := bp k hk
    have b := bq k hk
    omega
  refine ext' (by omega) fun j hj => ?_
  have e : at' (less p 1 q) j = at' (zero m) j := by rw [z]
  rw [at_less (by omega), at_zero] at e
  omega
theorem rest_iff (h : Tri m T) (lp : p.length = m) (lq : q.length = m) : restK T p m = restK T q m ↔ Sp m T (less p 1 q) := by
  have sp := rest_sp h lp
  have sq := rest_sp h lq
  have bp := rest_box h lp
  have bq := rest_box h lq
  generalize restK T p m = r at *
  generalize restK T q m = s at *
  have lr := bp.1
  have ls := bq.1
  have l1 : (less p 1 r).length = m := by rw [less_len (by omega), lp]
  have l2 : (less q 1 s).length = m := by rw [less_len (by omega), lq]
  have l3 : (less p 1 q).length = m := by rw [less_len (by omega), lp]
  constructor
  · intro e
    subst e
    have := Sp.less 1 sp sq
    have e2 : less (less p 1 r) 1 (less q 1 r) = less p 1 q := by
      refine ext' (by rw [less_len (by omega)]; omega) fun j _ => ?_
      rw [at_less (by omega), at_less (by omega), at_less (by omega), at_less (by omega)]; omega
    rwa [e2] at this
  · intro d
    refine box_uniq h bp bq ?_
    have := Sp.less (-1) (Sp.less 1 d sp) sq
    have l4 : (less (less p 1 q) 1 (less p 1 r)).length = m := by rw [less_len (by omega), l3]
    have e2 : less (less (less p 1 q) 1 (less p 1 r)) (-1) (less q 1 s) = less r 1 s := by
      refine ext' (by rw [less_len (by omega), less_len (p := r) (by omega)]; omega) fun j _ => ?_
      rw [at_less (by omega), at_less (by omega), at_less (by omega), at_less (by omega), at_less (by omega), at_less (by omega)]; omega
    rwa [e2] at this
end
theorem enumL_get : ∀ (xs : List PV) (k j : Nat) (x : PV), (enumL k xs)[j]? = some x → ∃ y, xs[j]? = some y ∧ x = .tup [.int ((k + j : Nat) : Int), y]
  | [], k, j, x, h => by simp [enumL] at h
  | a :: xs, k, 0, x, h => by
    simp [enumL] at h
    exact ⟨a, rfl, h.symm⟩
  | a :: xs, k, j + 1, x, h => by
    have h : (enumL (k + 1) xs)[j]? = some x := by simpa [enumL] using h
    obtain ⟨y, h1, h2⟩ := enumL_get xs (k + 1) j x h
    exact ⟨y, by simpa using h1, by rw [h2, show k + 1 + j = k + (j + 1) by omega]⟩
theorem enumL_len : ∀ (xs : List PV) (k : Nat), (enumL k xs).length = xs.length
  | [], k => rfl
  | a :: xs, k => by
    show (enumL (k + 1) xs).length + 1 = _
    rw [enumL_len]; rfl
def restIn : Ss := (.cons (.asg [] 2 (.call "less" (.cons (.var 2) (.cons (.op .fdiv (.ixv 2 (.var 3)) (.ixv 4 (.var 3))) (.cons (.var 4) .nil))))) .nil)
section
variable {B : PySem.Str → Option FI} {nm : Nm}
theorem rest (kn : Kn B) (hB2 : B "less" = some fi_less) (hB5 : B "need_rows" = some fi_need_rows) (hB6 : B "need_point" = some fi_need_point) (hB7 : B "rest" = some fi_rest) {l n : Nat} {R T : List (List Int)} {y : Bool} {p : List Int} (h : Sq n 1000000 R) (hn1 : 1 ≤ n) (hn : n ≤ 3) (hb : blk R ≠ 0)
    (eT : callF B nm (l + 5) "stair_of" [rowsV false R, .int (n : Int)] = .ok (rowsV true T)) (st : Stair n T) (sqT : Sq n 6000000000000000000 T) (lp : p.length = n) (bp : ∀ x ∈ p, -1000000000000 ≤ x ∧ x ≤ 1000000000000) :
    callF B nm (l + 6) "rest" [rowsV y R, tupI p] = .ok (tupI (restK T p n)) := by
  rw [callF_eq hB7]
  refine runF_ret rfl ?_
  have e0 : startR 5 (PV.olds [rowsV y R, tupI p]) = [.fz (rowsV false R), .fz (tupI p), .no, .no, .no] := by simp [olds_cons, olds_nil, old_rows, old_tupI, startR]
  have nr := need_rows_sq kn (nm := nm) hB5 (l := l) (y := false) h hn1 hn (by decide)
  rw [if_neg hb] at nr
  have np := need_point kn (nm := nm) hB6 (l := l + 1) (n := n) (v := tupI p) clean_tupI (short_tupI (by omega))
  rw [okPt_tup lp bp, if_pos rfl] at np
  have lT := st.len
  rw [e0, show b_rest = .cons (.ex [] (.call "need_rows" (.cons (.var 0) .nil))) (.cons (.ex [] (.call "need_point" (.cons (.var 1) (.cons (.bi .len (.cons (.var 0) .nil)) .nil)))) (.cons (.asg [] 2 (.var 1)) (.cons (.for [] [3, 4] false (.enum (.call "stair_of" (.cons (.var 0) (.cons (.bi .len (.cons (.var 0) .nil)) .nil)))) restIn) (.cons (.ret [] (.var 2)) .nil)))) from rfl]
  refine stage (ρ' := [.fz (rowsV false R), .fz (tupI p), .no, .no, .no]) (by simp [nr]) ?_
  refine stage (ρ' := [.fz (rowsV false R), .fz (tupI p), .no, .no, .no]) (by simp [len_rows, h.1, np]) ?_
  refine stage (ρ' := [.fz (rowsV false R), .fz (tupI p), .fz (tupI p), .no, .no]) (by simp) ?_
  obtain ⟨ρ', e, s3, s4, rfl⟩ := fl_inv (G := callF B nm (l + 5)) (nm := nmAt nm (l + 5)) (tg := [3, 4]) (w := false) (t := restIn) (xs := enumL 0 (T.map tupI)) (ρ := [.fz (rowsV false R), .fz (tupI p), .fz (tupI p), .no, .no])
    (fun k ρ => ∃ s3 s4, ρ = [.fz (rowsV false R), .fz (tupI p), .fz (tupI (restK T p k)), s3, s4]) ⟨_, _, rfl⟩ (fun k x hx ρ ⟨s3, s4, e⟩ => by
      subst e
      obtain ⟨z, hz, rfl⟩ := enumL_get _ _ _ _ hx
      have hk : k < n := by
        have := (List.getElem?_eq_some_iff.mp hz).1
        rw [List.length_map] at this; omega
      have ez : z = tupI (T[k]?.getD []) := by
        rw [List.getElem?_map, List.getElem?_eq_getElem (by omega)] at hz
        injection hz with hz
        rw [← hz, List.getElem?_eq_getElem (by omega)]; rfl
      subst ez
      rw [Nat.zero_add]
      refine ⟨_, _, rfl, ?_, .fz (.int (k : Int)), .fz (tupI (T[k]?.getD [])), rfl⟩
      simp only [List.set_cons_succ, List.set_cons_zero]
      have rk := rest_ok st.toTri lp k (by omega)
      have lk := st.ln.get (k := k) (by omega)
      have x2 := ix_tup (r := restK T p k) (k := k) (by omega)
      have x4 := ix_tup (r := T[k]?.getD []) (k := k) (by omega)
      rw [ent_row (by omega)] at x4
      have bk := sqT.2 _ (get_mem (T := T) (k := k) (by omega))
      have sm : ∀ x ∈ T[k]?.getD [], Sm x := fun x hx => by have := bk.2 x hx; unfold Sm; omega
      have d := st.dg k hk
      have sd := sm _ (at_mem (p := T[k]?.getD []) (j := k) (by omega))
      have dok : DivOk (ent' T k k) := divOk_b (k := 64) (by omega) sd (by decide)
      have le := less_of (nm := nm) hB2 (l := l + 4) (p := restK T p k) (q := T[k]?.getD []) (t := (at' (restK T p k) k).fdiv (ent' T k k)) (by omega) (fun x hx => .inr (.inl (sm x hx)))
      have re : restK T p (k + 1) = less (restK T p k) ((at' (restK T p k) k).fdiv (ent' T k k)) (T[k]?.getD []) := rfl
      unfold restIn
      refine last ?_
      rw [re]
      simp [x2, x4, fdivV_int dok, le])
  rw [enumL_len, List.length_map, lT] at e
  refine stage (for_st (by simp [len_rows, h.1, eT]; rfl) e) ?_
  exact stop (by simp)
theorem rest_bad (kn : Kn B) (hB5 : B "need_rows" = some fi_need_rows) (hB6 : B "need_point" = some fi_need_point) (hB7 : B "rest" = some fi_rest) {l n : Nat} {R : List (List Int)} {y : Bool} {v : PV} (h : Sq n 1000000 R) (hn1 : 1 ≤ n) (hn : n ≤ 3) (hb : blk R ≠ 0) (c1 : clean1 v) (c2 : short1 v) (hv : okPt n v = false) :
    callF B nm (l + 6) "rest" [rowsV y R, v] = .err "BadPoint" := by
  rw [callF_eq hB7]
  have nr := need_rows_sq kn (nm := nm) hB5 (l := l) (y := false) h hn1 hn (by decide)
  rw [if_neg hb] at nr
  have np := need_point kn (nm := nm) hB6 (l := l + 1) (n := n) (v := v.old) (clean_old c1) (short_old c2)
  rw [okPt_old, hv] at np
  simp at np
  unfold runF fi_rest b_rest
  simp [olds_cons, olds_nil, old_rows, startR, nr, len_rows, h.1, np]
end
theorem eqD_bl {a b : Bool} : PySem.PyData.eqv (.bool a) (.bool b) = decide (a = b) := by cases a <;> cases b <;> simp [PySem.PyData.eqv]
theorem eqV_bl {a b : Bool} : eqV' (.bl a) (.bl b) = .ok (.bl (decide (a = b))) := by
  unfold eqV' eqP; rw [Rs.when_pos ⟨lv_bl.ok (n := 0) (by decide), lv_bl.ok (n := 0) (by decide)⟩]
  simp only [PV.toD, eqD_bl]
theorem neV_bl {a b : Bool} : neV' (.bl a) (.bl b) = .ok (.bl (!decide (a = b))) := by
  unfold neV' eqP; rw [Rs.when_pos ⟨lv_bl.ok (n := 0) (by decide), lv_bl.ok (n := 0) (by decide)⟩]
  simp only [PV.toD, eqD_bl]
end BO

namespace BO
open SG
/-! ### bulks of grids within one another -/
theorem blk3_mul (w0 w1 w2 w3 w4 w5 w6 w7 w8 a b c d e f g u i : Int) :
    (w0 * a + (w1 * d + w2 * g)) * ((w3 * b + (w4 * e + w5 * u)) * (w6 * c + (w7 * f + w8 * i)) - (w3 * c + (w4 * f + w5 * i)) * (w6 * b + (w7 * e + w8 * u))) +
    ((w0 * b + (w1 * e + w2 * u)) * ((w3 * c + (w4 * f + w5 * i)) * (w6 * a + (w7 * d + w8 * g)) - (w3 * a + (w4 * d + w5 * g)) * (w6 * c + (w7 * f + w8 * i))) +
     (w0 * c + (w1 * f + w2 * i)) * ((w3 * a + (w4 * d + w5 * g)) * (w6 * b + (w7 * e + w8 * u)) - (w3 * b + (w4 * e + w5 * u)) * (w6 * a + (w7 * d + w8 * g)))) =
    (w0 * (w4 * w8 - w5 * w7) + (w1 * (w5 * w6 - w3 * w8) + w2 * (w3 * w7 - w4 * w6))) * (a * (e * i - f * u) + (b * (f * g - d * i) + c * (d * u - e * g))) := by grind
theorem blk_mul {n : Nat} {W R : List (List Int)} (hW : Rws n W) (hR : Rws n R) (hn1 : 1 ≤ n) (hn : n ≤ 3) : blk (W.map fun w => (List.range n).map (cj w R)) = blk W * blk R := by
  rcases rws_cases hW hn1 hn with ⟨rfl, w0, rfl⟩ | ⟨rfl, w0, w1, w2, w3, rfl⟩ | ⟨rfl, w0, w1, w2, w3, w4, w5, w6, w7, w8, rfl⟩
  · rcases rws_cases hR hn1 hn with ⟨_, a, rfl⟩ | ⟨h, _⟩ | ⟨h, _⟩
    · simp [blk, cj, List.range, List.range.loop]
    · omega
    · omega
  · rcases rws_cases hR hn1 hn with ⟨h, _⟩ | ⟨_, a, b, c, d, rfl⟩ | ⟨h, _⟩
    · omega
    · simp [blk, cj, List.range, List.range.loop]; grind
    · omega
  · rcases rws_cases hR hn1 hn with ⟨h, _⟩ | ⟨h, _⟩ | ⟨_, a, b, c, d, e, f, g, u, i, rfl⟩
    · omega
    · omega
    · have := blk3_mul w0 w1 w2 w3 w4 w5 w6 w7 w8 a b c d e f g u i
      simpa [blk, cj, List.range, List.range.loop] using this
theorem comb_rws {n : Nat} {W R : List (List Int)} (hW : Rws n W) : Rws n (W.map fun w => (List.range n).map (cj w R)) := by
  refine ⟨by rw [List.length_map, hW.1], fun r hr => ?_⟩
  obtain ⟨w, _, rfl⟩ := List.mem_map.mp hr
  simp
/-- rows of points: their bulk is a multiple -/
theorem blk_dvd {n : Nat} {S R : List (List Int)} (hS : Rws n S) (hR : Rws n R) (hn1 : 1 ≤ n) (hn : n ≤ 3) (hb : blk R ≠ 0) (h : ∀ r ∈ S, Sp n R r) : blk R ∣ blk S := by
  obtain ⟨W, hW⟩ : ∃ W, W = S.map fun r => (ww R r).getD [] := ⟨_, rfl⟩
  have rW : Rws n W := by
    refine ⟨by rw [hW, List.length_map, hS.1], fun w hw => ?_⟩
    rw [hW] at hw
    obtain ⟨r, hr, rfl⟩ := List.mem_map.mp hw
    obtain ⟨w, e, l, _⟩ := ww_sp hR hn1 hn hb (h r hr)
    rw [e]; exact l
  have eS : (W.map fun w => (List.range n).map (cj w R)) = S := by
    rw [hW, List.map_map]
    refine (List.map_congr_left fun r hr => ?_).trans (List.map_id S)
    obtain ⟨w, e, _, c⟩ := ww_sp hR hn1 hn hb (h r hr)
    show (List.range n).map (cj ((ww R r).getD []) R) = r
    rw [e]; exact c
  rw [← eS, blk_mul rW hR hn1 hn]
  exact Int.dvd_mul_left _ _
/-- one grid, one bulk -/
theorem blk_same {n : Nat} {S R : List (List Int)} (hS : Rws n S) (hR : Rws n R) (hn1 : 1 ≤ n) (hn : n ≤ 3) (hb : blk R ≠ 0) (hb2 : blk S ≠ 0) (h : ∀ x, Sp n R x ↔ Sp n S x) : (blk R).natAbs = (blk S).natAbs := by
  have a := Int.natAbs_dvd_natAbs.mpr (blk_dvd hS hR hn1 hn hb fun r hr => (h r).mpr (.row hr))
  have b := Int.natAbs_dvd_natAbs.mpr (blk_dvd hR hS hn1 hn hb2 fun r hr => (h r).mp (.row hr))
  exact Nat.dvd_antisymm a b
/-! ### all lists within stretches -/
def wStep (acc : List (List Int)) (s : Int × Int) : List (List Int) := acc.flatMap fun r => (List.range (s.2 + 1 - s.1).toNat).map fun (i : Nat) => r ++ [s.1 + (i : Int)]
def within (S : List (Int × Int)) : List (List Int) := S.foldl wStep [[]]
theorem wStep_len (acc : List (List Int)) (s : Int × Int) : (wStep acc s).length = acc.length * (s.2 + 1 - s.1).toNat := by
  unfold wStep
  induction acc with
  | nil => simp
  | cons r acc ih =>
    rw [List.flatMap_cons, List.length_append, ih, List.length_map, List.length_range, List.length_cons, Nat.add_mul, Nat.one_mul]
    omega
theorem within_snoc {S : List (Int × Int)} {s : Int × Int} : within (S ++ [s]) = wStep (within S) s := by unfold within; rw [List.foldl_append]; rfl
theorem within_mem : ∀ {S : List (Int × Int)} {k : Nat}, S.length = k → ∀ {r : List Int}, r ∈ within S ↔ r.length = k ∧ ∀ j, j < k → (S[j]?.getD (0, 0)).1 ≤ at' r j ∧ at' r j ≤ (S[j]?.getD (0, 0)).2 := by
  intro S k
  induction k generalizing S with
  | zero =>
    intro hS r
    have : S = [] := List.eq_nil_of_length_eq_zero hS
    subst this
    show r ∈ [[]] ↔ _
    rw [List.mem_singleton]
    constructor
    · rintro rfl; exact ⟨rfl, fun j hj => absurd hj (Nat.not_lt_zero j)⟩
    · intro h; exact List.eq_nil_of_length_eq_zero h.1
  | succ k ih =>
    intro hS r
    have hne : S ≠ [] := fun e => by rw [e] at hS; cases hS
    obtain ⟨S', s, rfl⟩ : ∃ S' s, S = S' ++ [s] := ⟨S.dropLast, S.getLast hne, (List.dropLast_concat_getLast hne).symm⟩
    have hS' : S'.length = k := by simpa using hS
    rw [within_snoc]
    unfold wStep
    rw [List.mem_flatMap]
    have get1 : ∀ j, j < k → ((S' ++ [s])[j]?.getD (0, 0)) = S'[j]?.getD (0, 0) := fun j hj => by rw [List.getElem?_append_left (by omega)]
    have get2 : ((S' ++ [s])[k]?.getD (0, 0)) = s := by rw [List.getElem?_append_right (by omega)]; simp [hS']
    constructor
    · rintro ⟨q, hq, hr⟩
      obtain ⟨i, hi, rfl⟩ := List.mem_map.mp hr
      have hi := List.mem_range.mp hi
      obtain ⟨lq, bq⟩ := (ih hS').mp hq
      refine ⟨by simp [lq], fun j hj => ?_⟩
      by_cases e : j < k
      · rw [get1 j e]
        have : at' (q ++ [s.1 + (i : Int)]) j = at' q j := by unfold at'; rw [List.getElem?_append_left (by omega)]
        rw [this]; exact bq j e
      · have : j = k := by omega
        subst this
        rw [get2]
        have : at' (q ++ [s.1 + (i : Int)]) j = s.1 + (i : Int) := by unfold at'; rw [List.getElem?_append_right (by omega)]; simp [lq]
        rw [this]; omega
    · rintro ⟨lr, br⟩
      have hrne : r ≠ [] := fun e => by rw [e] at lr; cases lr
      obtain ⟨q, x, rfl⟩ : ∃ q x, r = q ++ [x] := ⟨r.dropLast, r.getLast hrne, (List.dropLast_concat_getLast hrne).symm⟩
      have lq : q.length = k := by simpa using lr
      have bk := br k (by omega)
      rw [get2] at bk
      have ex : at' (q ++ [x]) k = x := by unfold at'; rw [List.getElem?_append_right (by omega)]; simp [lq]
      rw [ex] at bk
      refine ⟨q, (ih hS').mpr ⟨lq, fun j hj => ?_⟩, List.mem_map.mpr ⟨(x - s.1).toNat, List.mem_range.mpr (by omega), ?_⟩⟩
      · have b := br j (by omega)
        rw [get1 j hj] at b
        have : at' (q ++ [x]) j = at' q j := by unfold at'; rw [List.getElem?_append_left (by omega)]
        rwa [this] at b
      · have : s.1 + ((x - s.1).toNat : Int) = x := by omega
        rw [this]
end BO

namespace BO
open SG
/-! ### how many rests of one grid are points of another -/
theorem count_eq (i0 : Nat) : ∀ e : Nat, ((List.range e).filter fun i => decide (i = i0)).length = if i0 < e then 1 else 0
  | 0 => by simp
  | e + 1 => by
    rw [List.range_succ, List.filter_append, List.length_append, count_eq i0 e]
    by_cases h : e = i0
    · subst h; simp
    · have : ¬ (i0 = e) := fun z => h z.symm
      by_cases q : i0 < e
      · rw [if_pos q, if_pos (by omega)]; simp [h]
      · rw [if_neg q, if_neg (by omega)]; simp [h]
theorem count_block {e : Nat} (he : 0 < e) (c : Int) : ((List.range e).filter fun (i : Nat) => decide ((e : Int) ∣ (i : Int) + c)).length = 1 := by
  have h1 := Int.emod_nonneg (-c) (b := (e : Int)) (by omega)
  have h2 := Int.emod_lt_of_pos (-c) (b := (e : Int)) (by omega)
  have key : ∀ i ∈ List.range e, decide ((e : Int) ∣ (i : Int) + c) = decide (i = ((-c) % (e : Int)).toNat) := by
    intro i hi
    have hi := List.mem_range.mp hi
    rw [Bool.eq_iff_iff, decide_eq_true_eq, decide_eq_true_eq]
    have d0 : (e : Int) ∣ (-c) - (-c) % (e : Int) := Int.dvd_self_sub_emod
    constructor
    · intro h
      have : (e : Int) ∣ (i : Int) - (-c) % (e : Int) := by
        have := Int.dvd_add h d0
        have e2 : (i : Int) + c + ((-c) - (-c) % (e : Int)) = (i : Int) - (-c) % (e : Int) := by omega
        rwa [e2] at this
      have z := Int.eq_zero_of_dvd_of_natAbs_lt_natAbs this (by omega)
      omega
    · intro h
      have e2 : (i : Int) + c = -((-c) - (-c) % (e : Int)) := by omega
      rw [e2, Int.dvd_neg]; exact d0
  rw [List.filter_congr key, count_eq, if_pos (by omega)]
theorem count_mul {e : Nat} (he : 0 < e) (c : Int) : ∀ m : Nat, ((List.range (e * m)).filter fun (i : Nat) => decide ((e : Int) ∣ (i : Int) + c)).length = m
  | 0 => by simp
  | m + 1 => by
    rw [Nat.mul_succ, List.range_add, List.filter_append, List.length_append, count_mul he c m, List.filter_map, List.length_map]
    have : (List.range e).filter ((fun (i : Nat) => decide ((e : Int) ∣ (i : Int) + c)) ∘ fun x => e * m + x) = (List.range e).filter fun (i : Nat) => decide ((e : Int) ∣ (i : Int) + c) := by
      refine List.filter_congr fun i _ => ?_
      rw [Bool.eq_iff_iff]
      simp only [Function.comp, decide_eq_true_eq]
      have e2 : ((e * m + i : Nat) : Int) + c = (e : Int) * (m : Int) + ((i : Int) + c) := by rw [Int.natCast_add, Int.natCast_mul]; omega
      rw [e2]
      exact Int.dvd_add_right (Int.dvd_mul_right _ _)
    rw [this, count_block he c]
theorem count_range {e d : Nat} (he : 0 < e) (hd : e ∣ d) (c : Int) : ((List.range d).filter fun (i : Nat) => decide ((e : Int) ∣ (i : Int) + c)).length = d / e := by
  obtain ⟨m, rfl⟩ := hd
  rw [count_mul he c m, Nat.mul_div_cancel_left _ he]
theorem filter_flat {α β : Type} {F : α → List β} {g : α → Bool} {g' : β → Bool} {m : Nat} : ∀ {acc : List α}, (∀ r ∈ acc, ((F r).filter g').length = if g r = true then m else 0) → ((acc.flatMap F).filter g').length = (acc.filter g).length * m
  | [], _ => by simp
  | r :: acc, h => by
    rw [List.flatMap_cons, List.filter_append, List.length_append, h r List.mem_cons_self, filter_flat fun x hx => h x (List.mem_cons_of_mem _ hx)]
    cases hg : g r with
    | true => simp [hg, Nat.add_mul]; omega
    | false => simp [hg]
section
variable {n : Nat} {T : List (List Int)} {p p' : List Int}
theorem rest_step (h : Tri n T) (lp : p.length = n) {k : Nat} (hk : k < n) (j : Nat) : at' (restK T p (k + 1)) j = at' (restK T p k) j - (at' (restK T p k) k).fdiv (ent' T k k) * ent' T k j := by
  have rk := (rest_ok h lp k (by omega)).1
  have lr := h.ln.get (k := k) (by have := h.len; omega)
  show at' (red k (T[k]?.getD []) (restK T p k)) j = _
  rw [red_at (by omega)]; rfl
theorem rest_agree (h : Tri n T) (lp : p.length = n) (lp' : p'.length = n) {k : Nat} (hk : k ≤ n) (e : ∀ j, j < k → at' p j = at' p' j) : ∀ i, i ≤ k → ∀ j, at' (restK T p i) j - at' p j = at' (restK T p' i) j - at' p' j := by
  intro i
  induction i with
  | zero => intro _ j; show at' p j - at' p j = at' p' j - at' p' j; omega
  | succ i ih =>
    intro hi j
    have a := ih (by omega) j
    have b := ih (by omega) i
    have c := e i (by omega)
    have b' : at' (restK T p i) i = at' (restK T p' i) i := by omega
    rw [rest_step h lp (by omega), rest_step h lp' (by omega), b']
    omega
/-- a point is one just where each number on the way can be divided -/
theorem sp_rest (h : Tri n T) (lp : p.length = n) : Sp n T p ↔ ∀ i, i < n → ent' T i i ∣ at' (restK T p i) i := by
  have fm : ∀ i, i < n → at' (restK T p (i + 1)) i = (at' (restK T p i) i).fmod (ent' T i i) := fun i hi => by
    rw [rest_step h lp hi, fd_eq]
  have kp : ∀ i, i < n → ∀ j, j < i → at' (restK T p (i + 1)) j = at' (restK T p i) j := fun i hi j hj => by
    rw [rest_step h lp hi, h.lo i j hi hj, Int.mul_zero, Int.sub_zero]
  constructor
  · intro s
    have key : ∀ i, i ≤ n → Sp n T (restK T p i) ∧ ∀ j, j < i → at' (restK T p i) j = 0 := by
      intro i
      induction i with
      | zero => intro _; exact ⟨s, fun j hj => absurd hj (Nat.not_lt_zero j)⟩
      | succ i ih =>
        intro hi
        obtain ⟨a, b⟩ := ih (by omega)
        have dv := h.dvd a (k := i) (by omega) b
        refine ⟨.less _ a (.row (get_mem (by have := h.len; omega))), fun j hj => ?_⟩
        by_cases q : j = i
        · subst q; rw [fm j (by omega)]; exact (fmod0 (by have := h.dg j (by omega); omega)).mpr dv
        · rw [kp i (by omega) j (by omega)]; exact b j (by omega)
    intro i hi
    obtain ⟨a, b⟩ := key i (by omega)
    exact h.dvd a hi b
  · intro d
    have key : ∀ i, i ≤ n → ∀ j, j < i → at' (restK T p i) j = 0 := by
      intro i
      induction i with
      | zero => intro _ j hj; exact absurd hj (Nat.not_lt_zero j)
      | succ i ih =>
        intro hi j hj
        by_cases q : j = i
        · subst q; rw [fm j (by omega)]; exact (fmod0 (by have := h.dg j (by omega); omega)).mpr (d j (by omega))
        · rw [kp i (by omega) j (by omega)]; exact ih (by omega) j (by omega)
    have s := rest_sp h lp
    have z : restK T p n = zero n := ext_z (rest_ok h lp n (Nat.le_refl _)).1 (key n (Nat.le_refl _))
    rw [z] at s
    have e : less p 1 (zero n) = p := ext' (less_len (by rw [zero_len, lp])) fun j _ => by rw [at_less (by rw [zero_len, lp]), at_zero]; omega
    rwa [e] at s
end
/-- the numbers on the stair, multiplied, as whole numbers from 0 on -/
def dp (T : List (List Int)) : Nat → Nat
  | 0 => 1
  | k + 1 => dp T k * (ent' T k k).natAbs
theorem blk_dp {n : Nat} {T : List (List Int)} (h : Tri n T) (hn1 : 1 ≤ n) (hn : n ≤ 3) : (blk T).natAbs = dp T n := by
  rw [(blk_tri h hn1 hn).1]
  obtain rfl | rfl | rfl : n = 1 ∨ n = 2 ∨ n = 3 := by omega
  · simp [dprod, dp, List.range, List.range.loop]
  · simp [dprod, dp, List.range, List.range.loop, Int.natAbs_mul]
  · simp [dprod, dp, List.range, List.range.loop, Int.natAbs_mul, Nat.mul_assoc]
def cntN (T S : List (List Int)) : Nat → Nat
  | 0 => 1
  | k + 1 => cntN T S k * ((ent' T k k).natAbs / (ent' S k k).natAbs)
theorem cntN_mul {T S : List (List Int)} : ∀ k, (∀ i, i < k → (ent' S i i).natAbs ∣ (ent' T i i).natAbs) → cntN T S k * dp S k = dp T k
  | 0, _ => rfl
  | k + 1, h => by
    have i := cntN_mul k fun j hj => h j (by omega)
    have d := h k (by omega)
    unfold cntN dp
    have e : (ent' T k k).natAbs / (ent' S k k).natAbs * (ent' S k k).natAbs = (ent' T k k).natAbs := Nat.div_mul_cancel d
    rw [← i]
    have : cntN T S k * ((ent' T k k).natAbs / (ent' S k k).natAbs) * (dp S k * (ent' S k k).natAbs) = cntN T S k * dp S k * ((ent' T k k).natAbs / (ent' S k k).natAbs * (ent' S k k).natAbs) := by
      simp only [Nat.mul_assoc, Nat.mul_comm, Nat.mul_left_comm]
    rw [this, e]
/-- the stretches of rests -/
def stch (T : List (List Int)) (k : Nat) : List (Int × Int) := (List.range k).map fun i => (0, ent' T i i - 1)
theorem stch_succ {T : List (List Int)} {k : Nat} : stch T (k + 1) = stch T k ++ [(0, ent' T k k - 1)] := by unfold stch; rw [List.range_succ, List.map_append]; rfl
theorem stch_get {T : List (List Int)} {k j : Nat} (h : j < k) : (stch T k)[j]?.getD (0, 0) = (0, ent' T j j - 1) := by unfold stch; rw [List.getElem?_map, List.getElem?_range h]; rfl
theorem box_len {n : Nat} {T : List (List Int)} (h : Tri n T) : ∀ k, k ≤ n → (within (stch T k)).length = dp T k
  | 0, _ => rfl
  | k + 1, hk => by
    have d := h.dg k (by omega)
    rw [stch_succ, within_snoc, wStep_len, box_len h k (by omega)]
    show dp T k * (ent' T k k - 1 + 1 - 0).toNat = dp T k * (ent' T k k).natAbs
    congr 1; omega
theorem box_mem {n : Nat} {T : List (List Int)} {r : List Int} : r ∈ within (stch T n) ↔ InBox n T r := by
  rw [within_mem (k := n) (by unfold stch; simp)]
  unfold InBox
  constructor
  · rintro ⟨l, b⟩
    refine ⟨l, fun j hj => ?_⟩
    have := b j hj
    rw [stch_get hj] at this
    omega
  · rintro ⟨l, b⟩
    refine ⟨l, fun j hj => ?_⟩
    have := b j hj
    rw [stch_get hj]
    show (0 : Int) ≤ _ ∧ _ ≤ ent' T j j - 1
    omega
theorem box_count {n : Nat} {T S : List (List Int)} (hT : Tri n T) (hS : Tri n S) (hd : ∀ i, i < n → (ent' S i i).natAbs ∣ (ent' T i i).natAbs) : ∀ k, k ≤ n → ((within (stch T k)).filter fun r => decide (∀ i, i < k → ent' S i i ∣ at' (restK S (r ++ zero (n - k)) i) i)).length = cntN T S k := by
  intro k
  induction k with
  | zero => intro _; simp [within, stch, cntN]
  | succ k ih =>
    intro hk
    rw [stch_succ, within_snoc]
    unfold wStep cntN
    rw [← ih (by omega)]
    refine filter_flat fun r hr => ?_
    have lr : r.length = k := ((within_mem (k := k) (by unfold stch; simp)).mp hr).1
    have dT := hT.dg k (by omega)
    have dS := hS.dg k (by omega)
    rw [List.filter_map, List.length_map]
    have eN : (ent' T k k - 1 + 1 - 0).toNat = (ent' T k k).natAbs := by omega
    have l0 : (r ++ zero (n - k)).length = n := by simp [zero]; omega
    have lx : ∀ x : Int, (r ++ [x] ++ zero (n - (k + 1))).length = n := fun x => by simp [zero]; omega
    have ag : ∀ x : Int, ∀ j, j < k → at' (r ++ [x] ++ zero (n - (k + 1))) j = at' (r ++ zero (n - k)) j := fun x j hj => by
      unfold at'
      rw [List.getElem?_append_left (by simp; omega), List.getElem?_append_left (by omega), List.getElem?_append_left (by omega)]
    have a0 : at' (r ++ zero (n - k)) k = 0 := by
      have : at' (r ++ zero (n - k)) k = at' (zero (n - k)) 0 := by
        unfold at'
        rw [List.getElem?_append_right (by omega)]
        congr 2; omega
      rw [this, at_zero]
    have ax : ∀ x : Int, at' (r ++ [x] ++ zero (n - (k + 1))) k = x := fun x => by
      unfold at'
      rw [List.getElem?_append_left (by simp; omega), List.getElem?_append_right (by omega)]
      simp [lr]
    obtain ⟨c, hc⟩ : ∃ c, c = at' (restK S (r ++ zero (n - k)) k) k := ⟨_, rfl⟩
    have ra : ∀ x : Int, ∀ i, i < k → at' (restK S (r ++ [x] ++ zero (n - (k + 1))) i) i = at' (restK S (r ++ zero (n - k)) i) i := fun x i hi => by
      have := rest_agree hS (lx x) l0 (k := k) (by omega) (ag x) i (by omega) i
      have e := ag x i hi
      omega
    have rk : ∀ x : Int, at' (restK S (r ++ [x] ++ zero (n - (k + 1))) k) k = x + c := fun x => by
      have := rest_agree hS (lx x) l0 (k := k) (by omega) (ag x) k (by omega) k
      rw [ax, a0] at this
      omega
    have split : ∀ i : Nat, ((fun r => decide (∀ i, i < k + 1 → ent' S i i ∣ at' (restK S (r ++ zero (n - (k + 1))) i) i)) ∘ fun (i : Nat) => r ++ [(0 : Int) + (i : Int)]) i = (decide (∀ i, i < k → ent' S i i ∣ at' (restK S (r ++ zero (n - k)) i) i) && decide ((((ent' S k k).natAbs : Nat) : Int) ∣ (i : Int) + c)) := by
      intro i
      rw [Bool.eq_iff_iff]
      simp only [Function.comp, Bool.and_eq_true, decide_eq_true_eq, Int.zero_add]
      have eS : (((ent' S k k).natAbs : Nat) : Int) = ent' S k k := by omega
      rw [eS]
      constructor
      · intro h
        refine ⟨fun j hj => ?_, ?_⟩
        · rw [← ra (i : Int) j hj]; exact h j (by omega)
        · rw [← rk (i : Int)]; exact h k (by omega)
      · rintro ⟨h1, h2⟩ j hj
        by_cases q : j = k
        · subst q; rw [rk]; exact h2
        · rw [ra (i : Int) j (by omega)]; exact h1 j (by omega)
    rw [List.filter_congr fun i _ => split i]
    show ((List.range (ent' T k k - 1 + 1 - 0).toNat).filter _).length = _
    rw [eN]
    by_cases g : (∀ i, i < k → ent' S i i ∣ at' (restK S (r ++ zero (n - k)) i) i)
    · rw [decide_eq_true g, if_pos rfl]
      simp only [Bool.true_and]
      exact count_range (by omega) (hd k (by omega)) c
    · rw [decide_eq_false g]
      simp
/-- so many rests of the one are points of the other -/
theorem count_pts {n : Nat} {T S : List (List Int)} (hT : Tri n T) (hS : Tri n S) (hsub : ∀ x, Sp n T x → Sp n S x) {f : List Int → Bool} (hf : ∀ r, InBox n T r → (f r = true ↔ Sp n S r)) : ((within (stch T n)).filter f).length * dp S n = dp T n := by
  have hd : ∀ i, i < n → (ent' S i i).natAbs ∣ (ent' T i i).natAbs := fun i hi => by
    have := hS.dvd (hsub _ (.row (get_mem (T := T) (k := i) (by have := hT.len; omega)))) hi fun j hj => hT.lo i j hi hj
    exact Int.natAbs_dvd_natAbs.mpr this
  rw [← cntN_mul n hd, ← box_count hT hS hd n (Nat.le_refl _)]
  congr 1
  congr 1
  refine List.filter_congr fun r hr => ?_
  have b := box_mem.mp hr
  rw [Bool.eq_iff_iff, hf r b, decide_eq_true_eq, sp_rest hS b.1]
  have : r ++ zero (n - n) = r := by simp [zero]
  rw [this]
end BO

namespace BO
open SG
theorem le_line {n : Nat} (h : n ≤ 100000) : n ≤ PySem.sizeLine := Nat.le_trans h (by decide)
/-- over a list of things of one kind, longer ones too -/
theorem cm_big {α : Type} {G : Gt} {ρ : Rho} {own tg : List Nat} {w : Bool} {elt : E} {l : List α} (mk : α → PV) (f : α → PV) (inv : PV → α) (hi : ∀ a ∈ l, inv (mk a) = a) (h : ∀ a ∈ l, ((setT w tg (mk a) (wipeS ρ own)).bind fun ρ1 => eE G ρ1 elt) = .ok (f a)) (hn : l.length ≤ 100000) :
    cm G ρ own tg w elt (l.map mk) = .ok (.lst true (l.map f)) := by
  rw [cm_map (fun p => f (inv p)) (fun x hx => ?_) (by rw [List.length_map]; exact le_line hn), List.map_map]
  · congr 2
    exact List.map_congr_left fun a ha => by simp [hi a ha]
  · obtain ⟨a, ha, rfl⟩ := List.mem_map.mp hx
    rw [h a ha, hi a ha]
theorem cm_rngL {G : Gt} {ρ : Rho} {own tg : List Nat} {w : Bool} {elt : E} {lo : Int} {n : Nat} (f : Nat → PV) (h : ∀ i : Nat, i < n → ((setT w tg (.int (lo + (i : Int))) (wipeS ρ own)).bind fun ρ1 => eE G ρ1 elt) = .ok (f i)) (hn : n ≤ 100000) :
    cm G ρ own tg w elt (rngL lo n) = .ok (.lst true ((List.range n).map f)) := by
  unfold rngL
  refine cm_big _ f (fun p => (invInt p - lo).toNat) (fun i _ => ?_) (fun i hi => h i (List.mem_range.mp hi)) (by simpa using hn)
  show ((lo + (i : Int)) - lo).toNat = i
  omega
/-- a list of lists of whole numbers -/
def lls (L : List (List Int)) : PV := .lst true (L.map (lstI true))
/-- stretches -/
def strV (y : Bool) (S : List (Int × Int)) : PV := .lst y (S.map fun s => .tup [.int s.1, .int s.2])
theorem old_strV {y : Bool} {S : List (Int × Int)} : (strV y S).old = strV false S := by
  unfold strV; simp only [PV.old]; rw [olds_map, List.map_map]
  have : (PV.old ∘ fun s : Int × Int => PV.tup [.int s.1, .int s.2]) = fun s : Int × Int => PV.tup [.int s.1, .int s.2] := funext fun s => by simp [Function.comp, PV.old, olds_cons, olds_nil]
  rw [this]
def wF (s : Int × Int) (r : List Int) : List (List Int) := (List.range (s.2 + 1 - s.1).toNat).map fun (i : Nat) => r ++ [s.1 + (i : Int)]
theorem wStep_eq {acc : List (List Int)} {s : Int × Int} : wStep acc s = acc.flatMap (wF s) := rfl
theorem flat_take {α β : Type} {F : α → List β} {acc : List α} {i : Nat} (h : i < acc.length) : (acc.take (i + 1)).flatMap F = (acc.take i).flatMap F ++ F acc[i] := by
  rw [List.take_succ_eq_append_getElem h, List.flatMap_append]; simp
theorem flat_take_le {α β : Type} {F : α → List β} {acc : List α} {i : Nat} : ((acc.take i).flatMap F).length ≤ (acc.flatMap F).length := by
  have : acc.flatMap F = (acc.take i).flatMap F ++ (acc.drop i).flatMap F := by rw [← List.flatMap_append, List.take_append_drop]
  rw [this, List.length_append]; omega
def awIn : Ss := (.cons (.ext [] 4 (.comp [1, 6] [6] true (.rng2 (.var 5) (.op .add (.var 3) (.int 1))) (.op .add (.var 7) (.lst (.cons (.var 6) .nil))))) .nil)
def awOut : Ss := (.cons (.asgM [] 4 (.lst .nil)) (.cons (.for [] [7] true (.val (.var 2)) awIn) (.cons (.asg [4] 2 (.var 4)) .nil)))
section
variable {B : PySem.Str → Option FI} {nm : Nm}
theorem all_within (hB : B "all_within" = some fi_all_within) {l : Nat} {y : Bool} {S : List (Int × Int)} (hS : S.length ≤ 100) (hi : ∀ s ∈ S, i62 s.1 ∧ i62 (s.2 + 1) ∧ (s.2 + 1 - s.1).toNat ≤ 100000) (hw : ∀ k, k ≤ S.length → (within (S.take k)).length ≤ 100000) :
    callF B nm (l + 1) "all_within" [strV y S] = .ok (lls (within S)) := by
  rw [callF_eq hB]
  refine runF_ret rfl ?_
  have e0 : startR 8 (PV.olds [strV y S]) = [.fz (strV false S), .no, .no, .no, .no, .no, .no, .no] := by simp [olds_cons, olds_nil, old_strV, startR]
  rw [e0, show b_all_within = .cons (.asg [] 2 (.lst (.cons (.lst .nil) .nil))) (.cons (.for [] [5, 3] false (.val (.var 0)) awOut) (.cons (.ret [] (.var 2)) .nil)) from rfl]
  refine stage (ρ' := [.fz (strV false S), .no, .fz (lls [[]]), .no, .no, .no, .no, .no]) (by simp [sz]; rfl) ?_
  obtain ⟨ρ', e, s3, s4, s5, s7, rfl⟩ := fl_inv (G := callF B nm l) (nm := nmAt nm l) (tg := [5, 3]) (w := false) (t := awOut) (xs := S.map fun s => .tup [.int s.1, .int s.2]) (ρ := [.fz (strV false S), .no, .fz (lls [[]]), .no, .no, .no, .no, .no])
    (fun k ρ => ∃ s3 s4 s5 s7, ρ = [.fz (strV false S), .no, .fz (lls (within (S.take k))), s3, s4, s5, .no, s7]) ⟨_, _, _, _, rfl⟩ (fun k x hx ρ ⟨s3, s4, s5, s7, e⟩ => by
      subst e
      have hk : k < S.length := by
        have := (List.getElem?_eq_some_iff.mp hx).1
        rwa [List.length_map] at this
      have ex : x = .tup [.int S[k].1, .int S[k].2] := by
        rw [List.getElem?_map, List.getElem?_eq_getElem hk] at hx
        injection hx with hx; exact hx.symm
      subst ex
      obtain ⟨i1, i2, i3⟩ := hi S[k] (List.getElem_mem hk)
      obtain ⟨acc, hacc⟩ : ∃ acc, acc = within (S.take k) := ⟨_, rfl⟩
      have nxt : within (S.take (k + 1)) = acc.flatMap (wF S[k]) := by rw [List.take_succ_eq_append_getElem hk, within_snoc, ← hacc]; rfl
      have la := hw k (by omega)
      have lb := hw (k + 1) (by omega)
      rw [← hacc] at la
      rw [nxt] at lb
      have al : ∀ r ∈ acc, r.length = k := fun r hr => ((within_mem (S := S.take k) (k := k) (by rw [List.length_take]; omega)).mp (by rwa [← hacc])).1
      generalize hs : S[k] = s at *
      rw [← hacc]
      obtain ⟨ρ', e, s7', rfl⟩ := fl_inv (G := callF B nm l) (nm := nmAt nm l) (tg := [7]) (w := true) (t := awIn) (xs := acc.map (lstI true)) (ρ := [.fz (strV false S), .no, .fz (lls acc), .fz (.int s.2), .own [], .fz (.int s.1), .no, s7])
        (fun i ρ => ∃ s7, ρ = [.fz (strV false S), .no, .fz (lls acc), .fz (.int s.2), .own (((acc.take i).flatMap (wF s)).map (lstI true)), .fz (.int s.1), .no, s7]) ⟨_, rfl⟩ (fun i x hx ρ ⟨s7, e⟩ => by
          subst e
          have hia : i < acc.length := by
            have := (List.getElem?_eq_some_iff.mp hx).1
            rwa [List.length_map] at this
          have ex : x = lstI true acc[i] := by
            rw [List.getElem?_map, List.getElem?_eq_getElem hia] at hx
            injection hx with hx; exact hx.symm
          subst ex
          refine ⟨_, [.fz (strV false S), .no, .fz (lls acc), .fz (.int s.2), .own (((acc.take (i + 1)).flatMap (wF s)).map (lstI true)), .fz (.int s.1), .no, .fz (lstI true acc[i])], rfl, ?_, _, rfl⟩
          simp only [List.set_cons_succ, List.set_cons_zero]
          have lr := al _ (List.getElem_mem hia)
          have hr : rng2V (.int s.1) (.int (s.2 + 1)) = .ok (rngL s.1 (s.2 + 1 - s.1).toNat) := rng2V_int i1 i2
          have hc : cm (callF B nm l) [.fz (strV false S), .no, .fz (lls acc), .fz (.int s.2), .own (((acc.take i).flatMap (wF s)).map (lstI true)), .fz (.int s.1), .no, .fz (lstI true acc[i])] [1, 6] [6] true (.op .add (.var 7) (.lst (.cons (.var 6) .nil))) (rngL s.1 (s.2 + 1 - s.1).toNat)
              = .ok (.lst true ((wF s acc[i]).map (lstI true))) := by
            unfold wF
            rw [List.map_map]
            refine cm_rngL _ (fun j hj => ?_) i3
            have ad : addV (lstI true acc[i]) (.lst true [.int (s.1 + (j : Int))]) = .ok (lstI true (acc[i] ++ [s.1 + (j : Int)])) := by
              unfold lstI; rw [addV_lst (by simp; omega)]; simp
            simp [wipeS, setT, ad, sz]
          have ll : ((acc.take i).flatMap (wF s)).length + (wF s acc[i]).length ≤ PySem.sizeLine := by
            have a := flat_take (F := wF s) hia
            have b := flat_take_le (F := wF s) (acc := acc) (i := i + 1)
            rw [a, List.length_append] at b
            exact le_line (by omega)
          unfold awIn
          refine last ?_
          rw [flat_take hia, List.map_append]
          simp [hr, hc, ll, -List.length_flatMap])
      refine ⟨_, [.fz (strV false S), .no, .fz (lls (within (S.take (k + 1)))), .fz (.int s.2), .fz (lls (within (S.take (k + 1)))), .fz (.int s.1), .no, s7'], rfl, ?_, _, _, _, _, rfl⟩
      simp only [List.set_cons_succ, List.set_cons_zero]
      rw [nxt]
      unfold awOut
      refine stage (ρ' := [.fz (strV false S), .no, .fz (lls acc), .fz (.int s.2), .own [], .fz (.int s.1), .no, s7]) (by simp [ownOr, PV.lfs, E.mk]) ?_
      refine stage (for_st (xs := acc.map (lstI true)) (by simp; rfl) e) ?_
      rw [List.length_map, List.take_length]
      refine last ?_
      simp
      rfl)
  rw [List.length_map, List.take_length] at e
  refine stage (for_st (by simp; rfl) e) ?_
  exact stop (by simp)
theorem enum_rows {T : List (List Int)} : enumL 0 (T.map tupI) = (List.range T.length).map fun k => .tup [.int ((k : Nat) : Int), tupI (T[k]?.getD [])] := by
  apply List.ext_getElem
  · rw [enumL_len]; simp
  · intro i h1 h2
    have hi : i < T.length := by simpa using h2
    have g := List.getElem?_eq_getElem h1
    obtain ⟨y, hy, e⟩ := enumL_get _ _ _ _ g
    rw [e, List.getElem_map, List.getElem_range]
    rw [List.getElem?_map, List.getElem?_eq_getElem hi] at hy
    injection hy with hy
    rw [← hy, List.getElem?_eq_getElem hi, Nat.zero_add]; rfl
theorem rests_ok (kn : Kn B) (hB : B "all_within" = some fi_all_within) (hB5 : B "need_rows" = some fi_need_rows) (hB7 : B "rests" = some fi_rests) {l n : Nat} {R T : List (List Int)} {y : Bool} (h : Sq n 1000000 R) (hn1 : 1 ≤ n) (hn : n ≤ 3) (hb : blk R ≠ 0) (h4 : (blk R).natAbs ≤ 400)
    (eT : callF B nm (l + 5) "stair_of" [rowsV false R, .int (n : Int)] = .ok (rowsV true T)) (st : Stair n T) (hd : dp T n = (blk R).natAbs) :
    callF B nm (l + 6) "rests" [rowsV y R] = .ok (rowsV true (within (stch T n))) := by
  rw [callF_eq hB7]
  refine runF_ret rfl ?_
  have e0 : startR 6 (PV.olds [rowsV y R]) = [.fz (rowsV false R), .no, .no, .no, .no, .no] := by simp [olds_cons, olds_nil, old_rows, startR]
  have nr := need_rows_sq kn (nm := nm) hB5 (l := l) (y := false) h hn1 hn (by decide)
  rw [if_neg hb] at nr
  have bo := bulk_of kn (nm := nm) (l := l + 2) (y := false) (sh_of_sq h hn1 hn (by omega))
  have n4 : ¬ (400 : Int) < (if blk R < 0 then -blk R else blk R) := by split <;> omega
  have lT := st.len
  -- each number is no more than 400
  have dk : ∀ k, k ≤ n → dp T k ≤ 400 := by
    have mono : ∀ k, k < n → dp T k ≤ dp T (k + 1) := fun k hk => by
      have := st.dg k hk
      exact Nat.le_mul_of_pos_right _ (by omega)
    have key : ∀ j k, k + j = n → dp T k ≤ 400 := by
      intro j
      induction j with
      | zero => intro k hk; rw [show k = n by omega, hd]; exact h4
      | succ j ih => intro k hk; exact Nat.le_trans (mono k (by omega)) (ih (k + 1) (by omega))
    intro k hk
    exact key (n - k) k (by omega)
  have pos : ∀ k, k ≤ n → 0 < dp T k := by
    intro k
    induction k with
    | zero => intro _; exact Nat.one_pos
    | succ k ih => intro hk; exact Nat.mul_pos (ih (by omega)) (by have := st.dg k (by omega); omega)
  have ek : ∀ k, k < n → (ent' T k k).natAbs ≤ 400 := fun k hk => by
    have a := dk (k + 1) (by omega)
    have b : (ent' T k k).natAbs ≤ dp T k * (ent' T k k).natAbs := Nat.le_mul_of_pos_left _ (pos k (by omega))
    exact Nat.le_trans b a
  have sl : (stch T n).length = n := by unfold stch; simp
  have aw := all_within (nm := nm) hB (l := l + 4) (y := true) (S := stch T n) (by omega) (fun s hs => by
    unfold stch at hs
    obtain ⟨k, hk, rfl⟩ := List.mem_map.mp hs
    have hk := List.mem_range.mp hk
    have a := ek k hk
    have b := st.dg k hk
    unfold i62
    refine ⟨?_, ?_, ?_⟩ <;> simp only <;> omega) (fun k hk => by
    have : (stch T n).take k = stch T k := by
      unfold stch; rw [← List.map_take, List.take_range, Nat.min_eq_left (by omega)]
    rw [this, box_len st.toTri k (by omega)]
    have := dk k (by omega)
    omega)
  have hc : cm (callF B nm (l + 5)) [.fz (rowsV false R), .no, .no, .no, .no, .no] [1, 3, 4] [3, 4] false (.tup (.cons (.int 0) (.cons (.op .sub (.ixv 4 (.var 3)) (.int 1)) .nil))) (enumL 0 (T.map tupI)) = .ok (strV true (stch T n)) := by
    rw [enum_rows, lT]
    unfold strV stch
    rw [List.map_map]
    refine cm_big _ _ (fun p => match p with | .tup (.int k :: _) => k.toNat | _ => 0) (fun k _ => by simp) (fun k hk => ?_) (by simp; omega)
    have hk := List.mem_range.mp hk
    have lk := st.ln.get (k := k) (by omega)
    have x4 := ix_tup (r := T[k]?.getD []) (k := k) (by omega)
    rw [ent_row (by omega)] at x4
    simp [wipeS, setT, x4, sz]
  have hc2 : cm (callF B nm (l + 5)) [.fz (rowsV false R), .no, .no, .no, .no, .fz (strV true (stch T n))] [1, 2] [2] true (.bi .tuple (.cons (.var 2) .nil)) ((within (stch T n)).map (lstI true)) = .ok (rowsV true (within (stch T n))) := by
    unfold rowsV
    refine cm_big _ _ (fun p => match p with | .lst _ xs => xs.map invInt | _ => []) (fun r _ => ?_) (fun r hr => ?_) (by rw [box_len st.toTri n (Nat.le_refl _), hd]; omega)
    · show (r.map PV.int).map invInt = r
      rw [List.map_map]; exact (List.map_congr_left fun _ _ => rfl).trans (List.map_id r)
    · simp [wipeS, setT, lstI, tupI]
  have it : itemsV (lls (within (stch T n))) = .ok ((within (stch T n)).map (lstI true)) := rfl
  have en : enumV (rowsV true T) = .ok (enumL 0 (T.map tupI)) := rfl
  rw [e0]
  unfold b_rests
  refine stage (ρ' := [.fz (rowsV false R), .no, .no, .no, .no, .no]) (by simp [nr]) ?_
  refine stage (ρ' := [.fz (rowsV false R), .no, .no, .no, .no, .no]) (by simp [bo, n4]) ?_
  refine stage (ρ' := [.fz (rowsV false R), .no, .no, .no, .no, .fz (strV true (stch T n))]) (by simp [len_rows, h.1, eT, en, hc]) ?_
  exact stop (by simp [aw, it, hc2])
theorem rests_many (kn : Kn B) (hB5 : B "need_rows" = some fi_need_rows) (hB7 : B "rests" = some fi_rests) {l n : Nat} {R : List (List Int)} {y : Bool} (h : Sq n 1000000 R) (hn1 : 1 ≤ n) (hn : n ≤ 3) (hb : blk R ≠ 0) (h4 : 400 < (blk R).natAbs) :
    callF B nm (l + 6) "rests" [rowsV y R] = .err "TooMany" := by
  rw [callF_eq hB7]
  have nr := need_rows_sq kn (nm := nm) hB5 (l := l) (y := false) h hn1 hn (by decide)
  rw [if_neg hb] at nr
  have bo := bulk_of kn (nm := nm) (l := l + 2) (y := false) (sh_of_sq h hn1 hn (by omega))
  have n4 : (400 : Int) < (if blk R < 0 then -blk R else blk R) := by split <;> omega
  unfold runF fi_rests b_rests
  simp [olds_cons, olds_nil, old_rows, startR, nr, bo, n4]
end
end BO

namespace BO
open SG
/-- a table of weights, None where one is none -/
def tblV (S R : List (List Int)) : PV := if (S.map (ww R)).any (·.isNone) = true then .non else .lst true ((S.map (ww R)).map wwV)
theorem sm_sq {n : Nat} {m : Int} {R : List (List Int)} (h : Sq n m R) (hm : m < 18446744073709551616) : ∀ r ∈ R, ∀ x ∈ r, Sm x := fun r hr x hx => by
  have := (h.2 r hr).2 x hx
  unfold Sm; omega
theorem none_iff {n : Nat} {S R : List (List Int)} (hR : Rws n R) (hn1 : 1 ≤ n) (hn : n ≤ 3) (hb : blk R ≠ 0) (hS : Ln n S) : (S.map (ww R)).any (·.isNone) = false ↔ ∀ r ∈ S, Sp n R r := by
  rw [List.any_map, List.any_eq_false]
  constructor
  · intro h r hr
    refine (ww_iff hR hn1 hn hb (hS r hr)).mp fun e => ?_
    have := h r hr
    simp [e] at this
  · intro h r hr
    obtain ⟨w, e, _⟩ := ww_sp hR hn1 hn hb (h r hr)
    simp [e]
section
variable {B : PySem.Str → Option FI} {nm : Nm} (kn : Kn B)
include kn
theorem table_of (hB : B "whole_weights" = some fi_whole_weights) (hB2 : B "table_of" = some fi_table_of) {l n : Nat} {m : Int} {S R : List (List Int)} {y t : Bool} (h : Sq n m R) (hn1 : 1 ≤ n) (hn : n ≤ 3) (hm : m < 18446744073709551616) (hb : blk R ≠ 0) (hS : Ln n S) (lS : S.length ≤ 1000) (sS : ∀ r ∈ S, ∀ x ∈ r, Sm x) :
    callF B nm (l + 5) "table_of" [rowsV y S, rowsV t R] = .ok (tblV S R) := by
  rw [callF_eq hB2]
  refine runF_ret rfl ?_
  have e0 : startR 5 (PV.olds [rowsV y S, rowsV t R]) = [.fz (rowsV false S), .fz (rowsV false R), .no, .no, .no] := by simp [olds_cons, olds_nil, old_rows, startR]
  have hc : cm (callF B nm (l + 4)) [.fz (rowsV false S), .fz (rowsV false R), .no, .no, .no] [2, 3] [3] true (.call "whole_weights" (.cons (.var 1) (.cons (.var 3) .nil))) (S.map tupI) = .ok (.lst true ((S.map (ww R)).map wwV)) :=
    cm_ww _ (fun r hr => by
      have w := whole_weights kn (nm := nm) hB (l := l) (y := false) h hn1 hn hm hb (hS r hr) (sS r hr)
      simp [wipeS, setT, w]) lS
  have i := in_none (y := true) (l := S.map (ww R))
  rw [e0]
  unfold b_table_of tblV
  cases q : (S.map (ww R)).any (·.isNone) with
  | true =>
    rw [q] at i
    simp [items_rows, hc, i, -List.map_map]
  | false =>
    rw [q] at i
    simp [items_rows, hc, i, -List.map_map]
theorem need_both (hB5 : B "need_rows" = some fi_need_rows) (hB : B "need_both" = some fi_need_both) {l n : Nat} {S R : List (List Int)} {y t : Bool} (h : Sq n 1000000 R) (h2 : Sq n 1000000 S) (hn1 : 1 ≤ n) (hn : n ≤ 3) (hb : blk R ≠ 0) (hb2 : blk S ≠ 0) :
    callF B nm (l + 6) "need_both" [rowsV y S, rowsV t R] = .ok .non := by
  rw [callF_eq hB]
  have n1 := need_rows_sq kn (nm := nm) hB5 (l := l) (y := false) h hn1 hn (by decide)
  have n2 := need_rows_sq kn (nm := nm) hB5 (l := l) (y := false) h2 hn1 hn (by decide)
  rw [if_neg hb] at n1
  rw [if_neg hb2] at n2
  unfold runF fi_need_both b_need_both
  simp [olds_cons, olds_nil, startR, old_rows, n1, n2, len_rows, h.1, h2.1]
end
theorem abs_nat (a : Int) : (if a < 0 then -a else a) = (a.natAbs : Int) := by split <;> omega
end BO

namespace BO
open SG
/-! ### bulks under changes of rows -/
def addRow (R : List (List Int)) (n a b : Nat) (t : Int) : List Int := (List.range n).map fun j => ent' R a j + t * ent' R b j
theorem blk_addRow {n : Nat} {R : List (List Int)} (h : Rws n R) (hn1 : 1 ≤ n) (hn : n ≤ 3) {a b : Nat} (ha : a < n) (hb : b < n) (hne : a ≠ b) (t : Int) : blk (R.set a (addRow R n a b t)) = blk R := by
  rcases rws_cases h hn1 hn with ⟨rfl, x, rfl⟩ | ⟨rfl, x, y, z, w, rfl⟩ | ⟨rfl, c1, c2, c3, d1, d2, d3, e1, e2, e3, rfl⟩
  · omega
  · obtain rfl | rfl : a = 0 ∨ a = 1 := by omega
    all_goals (obtain rfl | rfl : b = 0 ∨ b = 1 := by omega)
    all_goals first
      | omega
      | (simp [addRow, ent', at', List.range, List.range.loop, blk]; grind)
  · obtain rfl | rfl | rfl : a = 0 ∨ a = 1 ∨ a = 2 := by omega
    all_goals (obtain rfl | rfl | rfl : b = 0 ∨ b = 1 ∨ b = 2 := by omega)
    all_goals first
      | omega
      | (simp [addRow, ent', at', List.range, List.range.loop, blk]; grind)
theorem blk_mulRow {n : Nat} {R : List (List Int)} (h : Rws n R) (hn1 : 1 ≤ n) (hn : n ≤ 3) {a : Nat} (ha : a < n) (t : Int) : blk (R.set a ((R[a]?.getD []).map fun x => x * t)) = blk R * t := by
  rcases rws_cases h hn1 hn with ⟨rfl, x, rfl⟩ | ⟨rfl, x, y, z, w, rfl⟩ | ⟨rfl, c1, c2, c3, d1, d2, d3, e1, e2, e3, rfl⟩
  · obtain rfl : a = 0 := by omega
    simp [blk]
  · obtain rfl | rfl : a = 0 ∨ a = 1 := by omega
    all_goals (simp [blk]; grind)
  · obtain rfl | rfl | rfl : a = 0 ∨ a = 1 ∨ a = 2 := by omega
    all_goals (simp [blk]; grind)
theorem blk_negRow {n : Nat} {R : List (List Int)} (h : Rws n R) (hn1 : 1 ≤ n) (hn : n ≤ 3) {a : Nat} (ha : a < n) : blk (R.set a ((R[a]?.getD []).map fun x => -x)) = -blk R := by
  have := blk_mulRow h hn1 hn ha (-1)
  have e : (fun x : Int => x * -1) = fun x => -x := funext fun x => by omega
  rw [e] at this
  rw [this]; omega
theorem blk_rot {n : Nat} {R : List (List Int)} (h : Rws n R) (hn1 : 1 ≤ n) (hn : n ≤ 3) {a : Nat} (ha : a < n) (hb : blk R ≠ 0) : blk (R.drop a ++ R.take a) ≠ 0 := by
  rcases rws_cases h hn1 hn with ⟨rfl, x, rfl⟩ | ⟨rfl, x, y, z, w, rfl⟩ | ⟨rfl, c1, c2, c3, d1, d2, d3, e1, e2, e3, rfl⟩
  · obtain rfl : a = 0 := by omega
    simpa [blk] using hb
  · obtain rfl | rfl : a = 0 ∨ a = 1 := by omega
    · simpa [blk] using hb
    · simp [blk] at hb ⊢
      intro e; apply hb; grind
  · obtain rfl | rfl | rfl : a = 0 ∨ a = 1 ∨ a = 2 := by omega
    · simpa [blk] using hb
    · simp [blk] at hb ⊢
      intro e; apply hb; grind
    · simp [blk] at hb ⊢
      intro e; apply hb; grind
theorem max_le : ∀ {l : List Int} {m : Int}, m ≤ l.foldl max m ∧ ∀ x ∈ l, x ≤ l.foldl max m
  | [], m => ⟨Int.le_refl _, fun x h => by cases h⟩
  | y :: l, m => by
    obtain ⟨h1, h2⟩ := max_le (l := l) (m := max m y)
    refine ⟨Int.le_trans (Int.le_max_left m y) h1, fun x hx => ?_⟩
    rcases List.mem_cons.mp hx with e | e
    · subst e; exact Int.le_trans (Int.le_max_right m x) h1
    · exact h2 x e
theorem maxI_le {l : List Int} {x : Int} (h : x ∈ l) : x ≤ maxI l := by
  match l, h with
  | y :: l, h =>
    show x ≤ l.foldl max y
    rcases List.mem_cons.mp h with e | e
    · subst e; exact max_le.1
    · exact max_le.2 x e
theorem maxV_lstI {y : Bool} {l : List Int} (h : 0 < l.length) : maxV (lstI y l) = .ok (.int (maxI l)) := by
  unfold maxV lstI; dsimp only; rw [ints_map]; exact Rs.when_pos h
def absR (l : List Int) : List Int := l.map fun x => if x < 0 then -x else x
theorem absR_le {l : List Int} {m : Int} (h : maxI (absR l) ≤ m) : ∀ x ∈ l, -m ≤ x ∧ x ≤ m := fun x hx => by
  have a : (if x < 0 then -x else x) ≤ maxI (absR l) := maxI_le (List.mem_map.mpr ⟨x, hx, rfl⟩)
  split at a <;> omega
theorem set_rows {F : List (List Int)} {r : List Int} {k : Nat} (hk : k < F.length) : setIV (F.map tupI) (tupI r) (.int (k : Int)) = .ok ((F.set k r).map tupI) := by
  unfold setIV; dsimp only
  have e : L2.ixN (F.map tupI).length (k : Int) = some k := by
    have : k < (F.map tupI).length := by rw [List.length_map]; exact hk
    unfold L2.ixN; simp at this ⊢; omega
  rw [e, List.map_set]
theorem lo_rows0 {y : Bool} {R : List (List Int)} {k : Nat} : slLoV (rowsV y R) (.int (k : Int)) = .ok (rowsV true (R.drop k)) := by
  unfold slLoV slV rowsV; dsimp only
  rw [cut_lo, List.map_drop]
theorem sq_set {n : Nat} {m : Int} {R : List (List Int)} {r : List Int} (h : Sq n m R) (a : Nat) (lr : r.length = n) (br : ∀ x ∈ r, -m ≤ x ∧ x ≤ m) : Sq n m (R.set a r) :=
  ⟨by rw [List.length_set]; exact h.1, fun z hz => by
    rcases List.mem_or_eq_of_mem_set hz with c | c
    · exact h.2 z c
    · subst c; exact ⟨lr, br⟩⟩
theorem nat_of {a : Int} {n : Nat} (h : 0 < n) : ∃ k : Nat, a.fmod (n : Int) = (k : Int) ∧ k < n := by
  have := mod_lt (a := a) (b := (n : Int)) (by omega)
  exact ⟨(a.fmod n).toNat, by omega, by omega⟩
end BO

namespace BO
open SG
/-! ### wider numbers -/
def Wd (x : Int) : Prop := x.natAbs < 85070591730234615865843651857942052864
theorem mulW2 {a b : Int} (ha : Wd a) (hb : b.natAbs < 2 ^ 253) : MulOk a b := mulOk_b (k := 126) (l := 253) ha hb (by decide)
theorem mulW {a b : Int} (ha : Wd a) (hb : Wd b) : MulOk a b := mulOk_b (k := 126) (l := 126) ha hb (by decide)
theorem wd_in {x : Int} (h : Wd x) : -85070591730234615865843651857942052864 ≤ x ∧ x ≤ 85070591730234615865843651857942052864 := by unfold Wd at h; omega
theorem cofW {a b c d : Int} (ha : Wd a) (hb : Wd b) (hc : Wd c) (hd : Wd d) : (a * b - c * d).natAbs < 2 ^ 253 := by
  have p1 := prod_in (wd_in ha) (wd_in hb)
  have p2 := prod_in (wd_in hc) (wd_in hd)
  have e : (2 : Nat) ^ 253 = 14474011154664524427946373126085988481658748083205070504932198000989141204992 := by decide
  have h1 : (a * b).natAbs < 85070591730234615865843651857942052864 * 85070591730234615865843651857942052864 := by
    rw [Int.natAbs_mul]
    exact Nat.mul_lt_mul_of_lt_of_lt ha hb
  have h2 : (c * d).natAbs < 85070591730234615865843651857942052864 * 85070591730234615865843651857942052864 := by
    rw [Int.natAbs_mul]
    exact Nat.mul_lt_mul_of_lt_of_lt hc hd
  rw [e]; omega
inductive ShW : List (List Int) → Prop where
  | one {a : Int} (h : Wd a) : ShW [[a]]
  | two {a b c d : Int} (ha : Wd a) (hb : Wd b) (hc : Wd c) (hd : Wd d) : ShW [[a, b], [c, d]]
  | three {a b c d e f g h i : Int} (ha : Wd a) (hb : Wd b) (hc : Wd c) (hd : Wd d) (he : Wd e) (hf : Wd f) (hg : Wd g) (hh : Wd h) (hi : Wd i) : ShW [[a, b, c], [d, e, f], [g, h, i]]
theorem shW_of {n : Nat} {R : List (List Int)} (h : Rws n R) (hw : ∀ r ∈ R, ∀ x ∈ r, Wd x) (hn1 : 1 ≤ n) (hn : n ≤ 3) : ShW R := by
  rcases rws_cases h hn1 hn with ⟨rfl, a, rfl⟩ | ⟨rfl, a, b, c, d, rfl⟩ | ⟨rfl, a, b, c, d, e, f, g, u, i, rfl⟩
  · simp at hw; exact .one hw
  · simp at hw; exact .two hw.1.1 hw.1.2 hw.2.1 hw.2.2
  · simp at hw
    obtain ⟨⟨q1, q2, q3⟩, ⟨q4, q5, q6⟩, q7, q8, q9⟩ := hw
    exact .three q1 q2 q3 q4 q5 q6 q7 q8 q9
section
variable {B : PySem.Str → Option FI} {nm : Nm} (kn : Kn B)
include kn
theorem lb_inW {l : Nat} {nm' : Nm} {r0 : List Int} {R : List (List Int)} {k : Nat} {x v found : Int} {s4 : Sl} (hk : r0[k]? = some x) (hx : MulOk x v) (hR : R.length ≤ 1000) (hr : ∀ r ∈ R, r.length ≤ 1000)
    (sub : callF B nm (l + 1) "_law_bulk" [rowsV true (R.map (wo k))] = .ok (.int v)) :
    eSs (callF B nm (l + 1)) nm' [.fz (rowsV false (r0 :: R)), .no, .fz (.int found), .fz (.int (k : Int)), s4, .no] lbIn = .nx [.fz (rowsV false (r0 :: R)), .no, .fz (.int (found + if k % 2 = 0 then x * v else -(x * v))), .fz (.int (k : Int)), .fz (.int (x * v)), .no] := by
  have x1 : ixV (rowsV false (r0 :: R)) (.int 0) = .ok (tupI r0) := ixV_lst (n := 0) rfl
  have x2 : ixV (tupI r0) (.int (k : Int)) = .ok (.int x) := by unfold tupI; exact ixV_tup (by rw [List.getElem?_map, hk]; rfl)
  have x3 : slLoV (rowsV false (r0 :: R)) (.int 1) = .ok (rowsV true R) := by
    unfold slLoV slV rowsV; dsimp only
    rw [show (1 : Int) = ((1 : Nat) : Int) from rfl, cut_lo]; rfl
  have hc : cm (callF B nm (l + 1)) [.fz (rowsV false (r0 :: R)), .no, .fz (.int found), .fz (.int (k : Int)), s4, .no] [1, 5] [5] true (.call "_law_without" (.cons (.var 5) (.cons (.var 3) .nil))) (R.map tupI) = .ok (rowsV true (R.map (wo k))) :=
    cm_tupsT _ (fun r hr' => by
      have w := without kn (nm := nm) (l := l) (r := r) (k := k) (hr r hr')
      simp [wipeS, setT, w]) hR
  have m3 : ((k : Int)).fmod 2 = ((k % 2 : Nat) : Int) := by rw [fmod_pos (by decide)]; omega
  have x4 : ixV (.lst true [.int (x * v), .int (-(x * v))]) (.int ((k : Int).fmod 2)) = .ok (.int (if k % 2 = 0 then x * v else -(x * v))) := by
    rw [m3]
    by_cases q : k % 2 = 0
    · rw [q, if_pos rfl]; exact ixV_lst (n := 0) rfl
    · rw [if_neg q, show k % 2 = 1 by omega]; exact ixV_lst (n := 1) rfl
  have it : itemsV (rowsV true R) = .ok (R.map tupI) := rfl
  unfold lbIn
  simp [x1, x2, x3, it, hc, sub, mulV_int hx, modV_int, x4, sz]
theorem lb_oneW {l : Nat} {y : Bool} {a : Int} : callF B nm (l + 2) "_law_bulk" [rowsV y [[a]]] = .ok (.int (0 + a * 1)) := by
  refine lb_some kn (by simp) ?_
  have z := lb_zero kn (nm := nm) (l := l) (y := true)
  have s := fun (f : Int) (s4 : Sl) => lb_inW kn (nm := nm) (l := l) (nm' := nmAt nm (l + 1)) (r0 := [a]) (R := []) (k := 0) (x := a) (v := 1) (found := f) (s4 := s4) rfl (.inr (.inl (by decide))) (by simp) (by simp) z
  exact ⟨_, _, fl_end rfl (s 0 .no) rfl⟩
theorem lb_twoW {l : Nat} {y : Bool} {a b c d : Int} (ha : Wd a) (hb : Wd b) (hc : Wd c) (hd : Wd d) : callF B nm (l + 3) "_law_bulk" [rowsV y [[a, b], [c, d]]] = .ok (.int (0 + a * (0 + d * 1) + -(b * (0 + c * 1)))) := by
  refine lb_some kn (by simp) ?_
  have z0 := lb_oneW kn (nm := nm) (l := l) (y := true) (a := d)
  have z1 := lb_oneW kn (nm := nm) (l := l) (y := true) (a := c)
  have m0 : MulOk a (0 + d * 1) := by rw [Int.zero_add, Int.mul_one]; exact mulW ha hd
  have m1 : MulOk b (0 + c * 1) := by rw [Int.zero_add, Int.mul_one]; exact mulW hb hc
  have s0 := fun (f : Int) (s4 : Sl) => lb_inW kn (nm := nm) (l := l + 1) (nm' := nmAt nm (l + 2)) (r0 := [a, b]) (R := [[c, d]]) (k := 0) (x := a) (found := f) (s4 := s4) rfl m0 (by simp) (by simp) z0
  have s1 := fun (f : Int) (s4 : Sl) => lb_inW kn (nm := nm) (l := l + 1) (nm' := nmAt nm (l + 2)) (r0 := [a, b]) (R := [[c, d]]) (k := 1) (x := b) (found := f) (s4 := s4) rfl m1 (by simp) (by simp) z1
  exact ⟨_, _, fl_end rfl (s0 0 .no) (fl_end rfl (s1 _ _) rfl)⟩
omit kn in
theorem two_eq (e f h i : Int) : 0 + e * (0 + i * 1) + -(f * (0 + h * 1)) = e * i - f * h := by grind
theorem lb_threeW {l : Nat} {y : Bool} {a b c d e f g h i : Int} (ha : Wd a) (hb : Wd b) (hc : Wd c) (hd : Wd d) (he : Wd e) (hf : Wd f) (hg : Wd g) (hh : Wd h) (hi : Wd i) : callF B nm (l + 4) "_law_bulk" [rowsV y [[a, b, c], [d, e, f], [g, h, i]]]
    = .ok (.int (0 + a * (e * i - f * h) + -(b * (d * i - f * g)) + c * (d * h - e * g))) := by
  refine lb_some kn (by simp) ?_
  have z0 := lb_twoW kn (nm := nm) (l := l) (y := true) he hf hh hi
  have z1 := lb_twoW kn (nm := nm) (l := l) (y := true) hd hf hg hi
  have z2 := lb_twoW kn (nm := nm) (l := l) (y := true) hd he hg hh
  rw [two_eq] at z0 z1 z2
  have s0 := fun (q : Int) (s4 : Sl) => lb_inW kn (nm := nm) (l := l + 2) (nm' := nmAt nm (l + 3)) (r0 := [a, b, c]) (R := [[d, e, f], [g, h, i]]) (k := 0) (x := a) (found := q) (s4 := s4) rfl (mulW2 ha (cofW he hi hf hh)) (by simp) (by simp) z0
  have s1 := fun (q : Int) (s4 : Sl) => lb_inW kn (nm := nm) (l := l + 2) (nm' := nmAt nm (l + 3)) (r0 := [a, b, c]) (R := [[d, e, f], [g, h, i]]) (k := 1) (x := b) (found := q) (s4 := s4) rfl (mulW2 hb (cofW hd hi hf hg)) (by simp) (by simp) z1
  have s2 := fun (q : Int) (s4 : Sl) => lb_inW kn (nm := nm) (l := l + 2) (nm' := nmAt nm (l + 3)) (r0 := [a, b, c]) (R := [[d, e, f], [g, h, i]]) (k := 2) (x := c) (found := q) (s4 := s4) rfl (mulW2 hc (cofW hd hh he hg)) (by simp) (by simp) z2
  exact ⟨_, _, fl_end rfl (s0 0 .no) (fl_end rfl (s1 _ _) (fl_end rfl (s2 _ _) rfl))⟩
theorem law_bulkW {l : Nat} {y : Bool} {R : List (List Int)} (h : ShW R) : callF B nm (l + 4) "_law_bulk" [rowsV y R] = .ok (.int (blk R)) := by
  cases h with
  | one h => rw [lb_oneW kn (l := l + 2)]; simp only [blk]; congr 2; omega
  | two ha hb hc hd => rw [lb_twoW kn (l := l + 1) ha hb hc hd]; simp only [blk]; congr 2; grind
  | three ha hb hc hd he hf hg hh hi => rw [lb_threeW kn (l := l) ha hb hc hd he hf hg hh hi]; simp only [blk]; congr 2; grind
theorem minor_bulkW {l n : Nat} {R : List (List Int)} (h : Rws n R) (hw : ∀ r ∈ R, ∀ x ∈ r, Wd x) (hn1 : 1 ≤ n) (hn : n ≤ 3) {k j : Nat} (hk : k < n) (hj : j < n) {y : Bool} :
    callF B nm (l + 4) "_law_bulk" [rowsV y (minor R k j)] = .ok (.int (lbk (minor R k j))) := by
  have ml : (minor R k j).length = n - 1 := by unfold minor; rw [List.length_map]; have := but_len (L := R) (k := k) (by rw [h.1]; exact hk); have := h.1; omega
  by_cases e : n = 1
  · have : minor R k j = [] := List.eq_nil_of_length_eq_zero (by omega)
    rw [this]
    exact lb_zero kn (l := l + 3)
  · have sq : Rws (n - 1) (minor R k j) := ⟨ml, fun r hr => by
      obtain ⟨o, ho, rfl⟩ := List.mem_map.mp hr
      exact wo_len (by have := h.2 o (but_mem ho); omega) (by omega)⟩
    have sw : ∀ r ∈ minor R k j, ∀ x ∈ r, Wd x := fun r hr x hx => by
      obtain ⟨o, ho, rfl⟩ := List.mem_map.mp hr
      exact hw o (but_mem ho) x (wo_mem hx)
    have ne : minor R k j ≠ [] := fun z => by rw [z] at ml; simp at ml; omega
    rw [law_bulkW kn (shW_of sq sw (by omega) (by omega))]
    unfold lbk; rw [if_neg ne]
end
end BO

namespace BO
open SG
/-! ### grids under a linear map -/
structure Lin (m k : Nat) (f : List Int → List Int) : Prop where
  z : f (zero m) = zero k
  l : ∀ p q t, p.length = m → q.length = m → f (less p t q) = less (f p) t (f q)
theorem Sp.map {m k : Nat} {f : List Int → List Int} (hf : Lin m k f) {R : List (List Int)} (h : Ln m R) {p : List Int} (hp : Sp m R p) : Sp k (R.map f) (f p) := by
  induction hp with
  | zero => rw [hf.z]; exact .zero
  | @row r hr => exact Sp.row (R := R.map f) (List.mem_map.mpr ⟨r, hr, rfl⟩)
  | less t a b c d => rw [hf.l _ _ _ (a.len h) (b.len h)]; exact .less t c d
theorem Sp.unmap {m k : Nat} {f : List Int → List Int} (hf : Lin m k f) {R : List (List Int)} (h : Ln m R) {q : List Int} (hq : Sp k (R.map f) q) : ∃ p, Sp m R p ∧ f p = q := by
  induction hq with
  | zero => exact ⟨BO.zero m, .zero, hf.z⟩
  | row hr =>
    obtain ⟨r, h1, rfl⟩ := List.mem_map.mp hr
    exact ⟨r, .row h1, rfl⟩
  | less t _ _ c d =>
    obtain ⟨p, hp, rfl⟩ := c
    obtain ⟨q, hq, rfl⟩ := d
    exact ⟨_, .less t hp hq, hf.l _ _ _ (hp.len h) (hq.len h)⟩
theorem at_take {p : List Int} {n j : Nat} : at' (p.take n) j = if j < n then at' p j else 0 := by
  unfold at'; rw [List.getElem?_take]
  by_cases h : j < n
  · rw [if_pos h, if_pos h]
  · rw [if_neg h, if_neg h]; rfl
theorem at_drop {p : List Int} {n j : Nat} : at' (p.drop n) j = at' p (n + j) := by unfold at'; rw [List.getElem?_drop]
theorem at_app {p q : List Int} {j : Nat} : at' (p ++ q) j = if j < p.length then at' p j else at' q (j - p.length) := by
  unfold at'
  by_cases h : j < p.length
  · rw [if_pos h, List.getElem?_append_left h]
  · rw [if_neg h, List.getElem?_append_right (by omega)]
theorem lin_take {n : Nat} : Lin (n + n) n (List.take n) := by
  refine ⟨ext_z (by simp [zero]) fun j hj => by rw [at_take, if_pos hj, at_zero], fun p q t lp lq => ?_⟩
  have l := less_len (p := p) (q := q) (t := t) (by omega)
  refine ext' (by rw [less_len (by simp; omega)]; simp; omega) fun j hj => ?_
  have hj : j < n := by rw [List.length_take] at hj; omega
  rw [at_less (by simp; omega), at_take, at_take, at_take, if_pos hj, if_pos hj, if_pos hj, at_less (by omega)]
theorem lin_drop {n : Nat} : Lin (n + n) n (List.drop n) := by
  refine ⟨ext_z (by simp [zero]) fun j hj => by rw [at_drop, at_zero], fun p q t lp lq => ?_⟩
  have l := less_len (p := p) (q := q) (t := t) (by omega)
  refine ext' (by rw [less_len (by simp; omega)]; simp; omega) fun j hj => ?_
  rw [at_less (by simp; omega), at_drop, at_drop, at_drop, at_less (by omega)]
def dup (p : List Int) : List Int := p ++ p
def pad (n : Nat) (p : List Int) : List Int := p ++ zero n
def dif (n : Nat) (p : List Int) : List Int := less (p.take n) 1 (p.drop n)
theorem lin_dif {n : Nat} : Lin (n + n) n (dif n) := by
  refine ⟨?_, fun p q t lp lq => ?_⟩
  · unfold dif
    rw [lin_take.z, lin_drop.z, less_self, zero_len]
  · unfold dif
    rw [lin_take.l _ _ _ lp lq, lin_drop.l _ _ _ lp lq]
    have e1 : (p.take n).length = n := by simp; omega
    have e2 : (p.drop n).length = n := by simp; omega
    have e3 : (q.take n).length = n := by simp; omega
    have e4 : (q.drop n).length = n := by simp; omega
    refine ext' ?_ fun j _ => ?_
    · simp only [less, List.length_zipWith]; omega
    · rw [at_less (by simp only [less, List.length_zipWith]; omega), at_less (by omega), at_less (by omega), at_less (by simp only [less, List.length_zipWith]; omega), at_less (by omega), at_less (by omega)]; grind
--, Int.one_mul, Int.mul_sub]; omega
theorem lin_dup {n : Nat} : Lin n (n + n) dup := by
  refine ⟨by unfold dup zero; simp, fun p q t lp lq => ?_⟩
  unfold dup less
  rw [List.zipWith_append (by omega)]
theorem lin_pad {n : Nat} : Lin n (n + n) (pad n) := by
  refine ⟨by unfold pad zero; simp, fun p q t lp lq => ?_⟩
  unfold pad
  have e : zero n = less (zero n) t (zero n) := (ext_z (by rw [less_len rfl, zero_len]) fun j _ => by rw [at_less rfl, at_zero]; simp).symm
  conv => lhs; rw [e]
  unfold less
  rw [List.zipWith_append (by omega)]
/-- the rows that the program makes of two grids' rows -/
def rows2 (n : Nat) (A B : List (List Int)) : List (List Int) := A.map dup ++ B.map (pad n)
section
variable {n : Nat} {A B T : List (List Int)} (hA : Rws n A) (hB : Rws n B)
include hA hB
theorem r2_ln : Ln (n + n) (rows2 n A B) := by
  intro r hr
  rcases List.mem_append.mp hr with h | h
  · obtain ⟨a, ha, rfl⟩ := List.mem_map.mp h
    have := hA.2 a ha
    unfold dup; simp; omega
  · obtain ⟨a, ha, rfl⟩ := List.mem_map.mp h
    have := hB.2 a ha
    unfold pad zero; simp; omega
theorem r2_len : (rows2 n A B).length = n + n := by unfold rows2; rw [List.length_append, List.length_map, List.length_map, hA.1, hB.1]
theorem r2_take : (rows2 n A B).map (List.take n) = A ++ B := by
  unfold rows2
  rw [List.map_append, List.map_map, List.map_map]
  congr 1
  · refine (List.map_congr_left fun r hr => ?_).trans (List.map_id _)
    show (dup r).take n = r
    unfold dup; rw [List.take_append_of_le_length (by have := hA.2 r hr; omega), List.take_of_length_le (by have := hA.2 r hr; omega)]
  · refine (List.map_congr_left fun r hr => ?_).trans (List.map_id _)
    show (pad n r).take n = r
    unfold pad; rw [List.take_append_of_le_length (by have := hB.2 r hr; omega), List.take_of_length_le (by have := hB.2 r hr; omega)]
theorem r2_of {P : List Int} (h : Sp (n + n) (rows2 n A B) P) : Sp n A (P.drop n) ∧ Sp n B (dif n P) := by
  have l := r2_ln hA hB
  have h1 := h.map lin_drop l
  have h2 := h.map lin_dif l
  refine ⟨h1.mono fun r hr => ?_, h2.mono fun r hr => ?_⟩
  · obtain ⟨q, hq, rfl⟩ := List.mem_map.mp hr
    rcases List.mem_append.mp hq with h | h
    · obtain ⟨a, ha, rfl⟩ := List.mem_map.mp h
      have : (dup a).drop n = a := by
        unfold dup; have := hA.2 a ha
        rw [List.drop_append_of_le_length (by omega), List.drop_of_length_le (by omega), List.nil_append]
      rw [this]; exact .row ha
    · obtain ⟨a, ha, rfl⟩ := List.mem_map.mp h
      have : (pad n a).drop n = zero n := by
        unfold pad; have := hB.2 a ha
        rw [List.drop_append_of_le_length (by omega), List.drop_of_length_le (by omega), List.nil_append]
      rw [this]; exact .zero
  · obtain ⟨q, hq, rfl⟩ := List.mem_map.mp hr
    rcases List.mem_append.mp hq with h | h
    · obtain ⟨a, ha, rfl⟩ := List.mem_map.mp h
      have la := hA.2 a ha
      have : dif n (dup a) = zero n := by
        unfold dif dup
        rw [List.drop_append_of_le_length (by omega), List.drop_of_length_le (by omega), List.nil_append, List.take_append_of_le_length (by omega), List.take_of_length_le (by omega), less_self, la]
      rw [this]; exact .zero
    · obtain ⟨a, ha, rfl⟩ := List.mem_map.mp h
      have la := hB.2 a ha
      have : dif n (pad n a) = a := by
        unfold dif pad
        rw [List.drop_append_of_le_length (by omega), List.drop_of_length_le (by omega), List.nil_append, List.take_append_of_le_length (by omega), List.take_of_length_le (by omega)]
        exact ext' (less_len (by rw [la, zero_len])) fun j _ => by rw [at_less (by rw [la, zero_len]), at_zero]; simp
      rw [this]; exact .row ha
theorem r2_both {p : List Int} (h1 : Sp n A p) (h2 : Sp n B p) : Sp (n + n) (rows2 n A B) (zero n ++ p) := by
  have a := h1.map lin_dup hA.2
  have b := h2.map lin_pad hB.2
  have a' : Sp (n + n) (rows2 n A B) (dup p) := a.sub fun r hr => List.mem_append_left _ hr
  have b' : Sp (n + n) (rows2 n A B) (pad n p) := b.sub fun r hr => List.mem_append_right _ hr
  have c := Sp.less 1 a' b'
  have lp := h1.len hA.2
  have e : less (dup p) 1 (pad n p) = zero n ++ p := by
    unfold dup pad less
    rw [List.zipWith_append rfl]
    congr 1
    · have := less_self (p := p)
      unfold less at this
      rw [this, lp]
    · exact ext' (less_len (p := p) (q := zero n) (t := 1) (by rw [lp, zero_len])) fun j _ => by
        have := at_less (p := p) (q := zero n) (t := 1) (j := j) (by rw [lp, zero_len])
        unfold less at this
        rw [this, at_zero]; simp
  rwa [e] at c
def cutJ (n : Nat) (T : List (List Int)) : List (List Int) := (T.take n).map (List.take n)
def cutC (n : Nat) (T : List (List Int)) : List (List Int) := (T.drop n).map (List.drop n)
omit hA hB in
theorem cutJ_ent {k j : Nat} (h : Tri (n + n) T) (hk : k < n) (hj : j < n) : ent' (cutJ n T) k j = ent' T k j := by
  unfold cutJ ent'
  rw [List.getElem?_map, List.getElem?_take, if_pos hk, List.getElem?_eq_getElem (by have := h.len; omega)]
  show at' (List.take n _) j = at' _ j
  rw [at_take, if_pos hj]; rfl
omit hA hB in
theorem cutC_ent {k j : Nat} (h : Tri (n + n) T) (hk : k < n) : ent' (cutC n T) k j = ent' T (n + k) (n + j) := by
  unfold cutC ent'
  rw [List.getElem?_map, List.getElem?_drop, List.getElem?_eq_getElem (by have := h.len; omega)]
  show at' (List.drop n _) j = at' _ _
  rw [at_drop]; rfl
omit hA hB in
theorem cutJ_stair (h : Stair (n + n) T) : Stair n (cutJ n T) := by
  have hl := h.len
  have e := fun k j (hk : k < n) (hj : j < n) => cutJ_ent (n := n) h.toTri hk hj
  refine { len := by unfold cutJ; simp; omega, ln := fun r hr => ?_, lo := fun k j hk hj => ?_, dg := fun k hk => ?_, up := fun k j hk hj => ?_ }
  · obtain ⟨q, hq, rfl⟩ := List.mem_map.mp hr
    have := h.ln q (List.mem_of_mem_take hq)
    simp; omega
  · rw [e k j hk (by omega)]; exact h.lo k j (by omega) hj
  · rw [e k k hk hk]; exact h.dg k (by omega)
  · rw [e _ _ (by omega) (by omega), e _ _ (by omega) (by omega)]; exact h.up k j (by omega) hj
omit hA hB in
theorem cutC_stair (h : Stair (n + n) T) : Stair n (cutC n T) := by
  have hl := h.len
  have e := fun k j (hk : k < n) => cutC_ent (n := n) (j := j) h.toTri hk
  refine { len := by unfold cutC; simp; omega, ln := fun r hr => ?_, lo := fun k j hk hj => ?_, dg := fun k hk => ?_, up := fun k j hk hj => ?_ }
  · obtain ⟨q, hq, rfl⟩ := List.mem_map.mp hr
    have := h.ln q (List.mem_of_mem_drop hq)
    simp; omega
  · rw [e k j hk]; exact h.lo _ _ (by omega) (by omega)
  · rw [e k k hk]; exact h.dg _ (by omega)
  · rw [e _ _ (by omega), e _ _ (by omega)]; exact h.up _ _ (by omega) (by omega)
theorem cutJ_sp (h : Stair (n + n) T) (sp : ∀ x, Sp (n + n) (rows2 n A B) x ↔ Sp (n + n) T x) (p : List Int) : Sp n (cutJ n T) p ↔ Sp n (A ++ B) p := by
  have l2 := r2_ln hA hB
  constructor
  · intro hp
    obtain ⟨P, hP, rfl⟩ := Sp.unmap lin_take (fun r hr => h.ln r (List.mem_of_mem_take hr)) hp
    have := ((sp P).mpr (hP.sub fun r hr => List.mem_of_mem_take hr)).map lin_take l2
    rwa [r2_take hA hB] at this
  · intro hp
    rw [← r2_take hA hB] at hp
    obtain ⟨P, hP, rfl⟩ := Sp.unmap lin_take l2 hp
    refine (((sp P).mp hP).map lin_take h.ln).mono fun r hr => ?_
    obtain ⟨q, hq, rfl⟩ := List.mem_map.mp hr
    rw [← List.take_append_drop n T] at hq
    rcases List.mem_append.mp hq with c | c
    · exact .row (List.mem_map_of_mem c)
    · have lq := h.ln q (List.mem_of_mem_drop c)
      have : q.take n = zero n := take_zero (by omega) fun j hj => drop_col h.toTri hj (by omega) q c
      rw [this]; exact .zero
theorem cutC_sp (h : Stair (n + n) T) (sp : ∀ x, Sp (n + n) (rows2 n A B) x ↔ Sp (n + n) T x) (p : List Int) : Sp n (cutC n T) p ↔ Sp n A p ∧ Sp n B p := by
  constructor
  · intro hp
    obtain ⟨P, hP, rfl⟩ := Sp.unmap lin_drop (fun r hr => h.ln r (List.mem_of_mem_drop hr)) hp
    have lP := hP.len (fun r hr => h.ln r (List.mem_of_mem_drop hr))
    have z : P.take n = zero n := take_zero (by omega) fun j hj => hP.col (fun r hr => h.ln r (List.mem_of_mem_drop hr)) (drop_col h.toTri hj (by omega))
    obtain ⟨a, b⟩ := r2_of hA hB ((sp P).mpr (hP.sub fun r hr => List.mem_of_mem_drop hr))
    refine ⟨a, ?_⟩
    have ld : (P.drop n).length = n := by simp; omega
    have c := Sp.less 1 (Sp.zero (m := n) (R := B)) b
    have e : less (zero n) 1 (dif n P) = P.drop n := by
      unfold dif
      rw [z]
      refine ext' (by rw [less_len (by rw [less_len (by rw [zero_len, ld])]), zero_len, ld]) fun j _ => ?_
      rw [at_less (by rw [less_len (by rw [zero_len, ld])]), at_less (by rw [zero_len, ld]), at_zero]; omega
    rwa [e] at c
  · rintro ⟨h1, h2⟩
    have hP := (sp _).mp (r2_both hA hB h1 h2)
    have hd := h.toTri.lead hP n (by omega) fun j hj => by rw [at_app, if_pos (by rw [zero_len]; exact hj), at_zero]
    have := hd.map lin_drop (fun r hr => h.ln r (List.mem_of_mem_drop hr))
    have e : (zero n ++ p).drop n = p := by
      have := zero_len (m := n)
      rw [List.drop_append_of_le_length (by omega), List.drop_of_length_le (by omega), List.nil_append]
    rwa [e] at this
/-- what is full for both grids is so for their rows put together -/
theorem r2_full {c : Int} (fA : Full n c A) (fB : Full n c B) : Full (n + n) c (rows2 n A B) := by
  intro v j hj lv h0 hc
  by_cases q : j < n
  · -- in the first half
    have s := fB (v.take n) j q (by simp; omega) (fun i hi hne => by rw [at_take, if_pos hi]; exact h0 i (by omega) hne) (by rw [at_take, if_pos q]; exact hc)
    have m := (s.map lin_pad hB.2)
    have e : pad n (v.take n) = v := by
      unfold pad
      refine ext' (by simp [zero]; omega) fun i hi => ?_
      have hl : (v.take n).length = n := by simp; omega
      rw [at_app, hl]
      by_cases hi2 : i < n
      · rw [if_pos hi2, at_take, if_pos hi2]
      · rw [if_neg hi2, at_zero]
        by_cases hi3 : i < n + n
        · exact (h0 i hi3 (by omega)).symm
        · exact (at_out (by omega)).symm
    rw [e] at m
    exact m.sub fun r hr => List.mem_append_right _ hr
  · have l' : (v.drop n).length = n := by simp; omega
    have f1 : ∀ i, i < n → i ≠ j - n → at' (v.drop n) i = 0 := fun i hi hne => by rw [at_drop]; exact h0 _ (by omega) (by omega)
    have f2 : at' (v.drop n) (j - n) = c := by rw [at_drop, show n + (j - n) = j by omega]; exact hc
    have := r2_both hA hB (fA _ _ (by omega) l' f1 f2) (fB _ _ (by omega) l' f1 f2)
    have e : zero n ++ v.drop n = v := by
      refine ext' (by simp [zero]; omega) fun i hi => ?_
      rw [at_app, zero_len]
      by_cases hi2 : i < n
      · rw [if_pos hi2, at_zero]; exact (h0 i (by omega) (by omega)).symm
      · rw [if_neg hi2, at_drop, show n + (i - n) = i by omega]
    rwa [e] at this
end
end BO

namespace BO
open SG
/-! ### the bulks of picked rows -/
theorem sp_lin {n : Nat} {d : Int} {R : List (List Int)} (h : Ln n R) (f : List Int → Int) (hz : f (zero n) = 0) (hl : ∀ p q t, p.length = n → q.length = n → f (less p t q) = f p - t * f q) (hr : ∀ r ∈ R, d ∣ f r) {p : List Int} (hp : Sp n R p) : d ∣ f p := by
  induction hp with
  | zero => rw [hz]; exact Int.dvd_zero _
  | row h => exact hr _ h
  | less t a b c e =>
    rw [hl _ _ _ (a.len h) (b.len h)]
    exact Int.dvd_sub c (Int.dvd_mul_of_dvd_right e)
theorem l1_of {p : List Int} (h : p.length = 1) : ∃ a, p = [a] := by
  match p, h with
  | [a], _ => exact ⟨a, rfl⟩
theorem l2_of {p : List Int} (h : p.length = 2) : ∃ a b, p = [a, b] := by
  match p, h with
  | [a, b], _ => exact ⟨a, b, rfl⟩
theorem l3_of {p : List Int} (h : p.length = 3) : ∃ a b c, p = [a, b, c] := by
  match p, h with
  | [a, b, c], _ => exact ⟨a, b, c, rfl⟩
theorem blk_sp {n : Nat} {d : Int} {R : List (List Int)} (h : Ln n R) (hn1 : 1 ≤ n) (hn : n ≤ 3) (hd : ∀ P, P.length = n → (∀ r ∈ P, r ∈ R) → d ∣ blk P) : ∀ P, P.length = n → (∀ r ∈ P, Sp n R r) → d ∣ blk P := by
  intro P lP hP
  obtain rfl | rfl | rfl : n = 1 ∨ n = 2 ∨ n = 3 := by omega
  · match P, lP, hP with
    | [p], _, hP =>
      simp at hP
      refine sp_lin h (fun x => blk [x]) (by rfl) (fun p q t lp lq => ?_) (fun r hr => hd _ rfl (by simpa using hr)) hP
      obtain ⟨a, rfl⟩ := l1_of lp
      obtain ⟨b, rfl⟩ := l1_of lq
      simp [blk, less]
  · match P, lP, hP with
    | [p, q], _, hP =>
      simp at hP
      have lin1 : ∀ c : List Int, c.length = 2 → ∀ p q t, p.length = 2 → q.length = 2 → blk [less p t q, c] = blk [p, c] - t * blk [q, c] := by
        intro c lc p q t lp lq
        obtain ⟨a, b, rfl⟩ := l2_of lp
        obtain ⟨e, f, rfl⟩ := l2_of lq
        obtain ⟨g, i, rfl⟩ := l2_of lc
        simp [blk, less]; grind
      have lin2 : ∀ c : List Int, c.length = 2 → ∀ p q t, p.length = 2 → q.length = 2 → blk [c, less p t q] = blk [c, p] - t * blk [c, q] := by
        intro c lc p q t lp lq
        obtain ⟨a, b, rfl⟩ := l2_of lp
        obtain ⟨e, f, rfl⟩ := l2_of lq
        obtain ⟨g, i, rfl⟩ := l2_of lc
        simp [blk, less]; grind
      have s1 : ∀ r ∈ R, d ∣ blk [p, r] := fun r hr => sp_lin h (fun x => blk [x, r]) (by obtain ⟨g, i, rfl⟩ := l2_of (h r hr); simp [zero, List.replicate, blk]) (lin1 r (h r hr)) (fun x hx => hd _ rfl (by simp [hx, hr])) hP.1
      have lp := hP.1.len h
      exact sp_lin h (fun x => blk [p, x]) (by obtain ⟨g, i, rfl⟩ := l2_of lp; simp [zero, List.replicate, blk]) (lin2 p lp) s1 hP.2
  · match P, lP, hP with
    | [p, q, s], _, hP =>
      simp at hP
      have lin1 : ∀ b c : List Int, b.length = 3 → c.length = 3 → ∀ p q t, p.length = 3 → q.length = 3 → blk [less p t q, b, c] = blk [p, b, c] - t * blk [q, b, c] := by
        intro b c lb lc p q t lp lq
        obtain ⟨p1, p2, p3, rfl⟩ := l3_of lp
        obtain ⟨q1, q2, q3, rfl⟩ := l3_of lq
        obtain ⟨b1, b2, b3, rfl⟩ := l3_of lb
        obtain ⟨c1, c2, c3, rfl⟩ := l3_of lc
        simp [blk, less]; grind
      have lin2 : ∀ b c : List Int, b.length = 3 → c.length = 3 → ∀ p q t, p.length = 3 → q.length = 3 → blk [b, less p t q, c] = blk [b, p, c] - t * blk [b, q, c] := by
        intro b c lb lc p q t lp lq
        obtain ⟨p1, p2, p3, rfl⟩ := l3_of lp
        obtain ⟨q1, q2, q3, rfl⟩ := l3_of lq
        obtain ⟨b1, b2, b3, rfl⟩ := l3_of lb
        obtain ⟨c1, c2, c3, rfl⟩ := l3_of lc
        simp [blk, less]; grind
      have lin3 : ∀ b c : List Int, b.length = 3 → c.length = 3 → ∀ p q t, p.length = 3 → q.length = 3 → blk [b, c, less p t q] = blk [b, c, p] - t * blk [b, c, q] := by
        intro b c lb lc p q t lp lq
        obtain ⟨p1, p2, p3, rfl⟩ := l3_of lp
        obtain ⟨q1, q2, q3, rfl⟩ := l3_of lq
        obtain ⟨b1, b2, b3, rfl⟩ := l3_of lb
        obtain ⟨c1, c2, c3, rfl⟩ := l3_of lc
        simp [blk, less]; grind
      have z1 : ∀ b c : List Int, b.length = 3 → c.length = 3 → blk [zero 3, b, c] = 0 ∧ blk [b, zero 3, c] = 0 ∧ blk [b, c, zero 3] = 0 := by
        intro b c lb lc
        obtain ⟨b1, b2, b3, rfl⟩ := l3_of lb
        obtain ⟨c1, c2, c3, rfl⟩ := l3_of lc
        simp [zero, List.replicate, blk]
      have s1 : ∀ r ∈ R, ∀ u ∈ R, d ∣ blk [p, r, u] := fun r hr u hu => sp_lin h (fun x => blk [x, r, u]) (z1 _ _ (h r hr) (h u hu)).1 (lin1 r u (h r hr) (h u hu)) (fun x hx => hd _ rfl (by simp [hx, hr, hu])) hP.1
      have lp := hP.1.len h
      have s2 : ∀ u ∈ R, d ∣ blk [p, q, u] := fun u hu => sp_lin h (fun x => blk [p, x, u]) (z1 _ _ lp (h u hu)).2.1 (lin2 p u lp (h u hu)) (fun x hx => s1 x hx u hu) hP.2.1
      have lq := hP.2.1.len h
      exact sp_lin h (fun x => blk [p, q, x]) (z1 _ _ lp lq).2.2 (lin3 p q lp lq) s2 hP.2.2
/-- the ways to pick so many rows, in their order -/
def picks : List (List Int) → Nat → List (List (List Int))
  | _, 0 => [[]]
  | R, n + 1 => (List.range R.length).flatMap fun k => (picks (R.drop (k + 1)) n).map fun Q => R[k]?.getD [] :: Q
theorem picks_of {n : Nat} : ∀ {R P : List (List Int)}, P ∈ picks R n → P.length = n ∧ ∀ r ∈ P, r ∈ R := by
  induction n with
  | zero =>
    intro R P h
    have h : P ∈ [[]] := h
    rw [List.mem_singleton.mp h]
    exact ⟨rfl, fun r hr => by cases hr⟩
  | succ n ih =>
    intro R P h
    unfold picks at h
    obtain ⟨k, hk, h⟩ := List.mem_flatMap.mp h
    obtain ⟨Q, hQ, rfl⟩ := List.mem_map.mp h
    obtain ⟨l, m⟩ := ih hQ
    refine ⟨by simp [l], fun r hr => ?_⟩
    rcases List.mem_cons.mp hr with e | e
    · rw [e]; exact get_mem (List.mem_range.mp hk)
    · exact List.mem_of_mem_drop (m r e)
theorem pick1 {n k : Nat} {R Q : List (List Int)} (hk : k < R.length) (hQ : Q ∈ picks (R.drop (k + 1)) n) : (R[k]?.getD [] :: Q) ∈ picks R (n + 1) := by
  unfold picks
  exact List.mem_flatMap.mpr ⟨k, List.mem_range.mpr hk, List.mem_map.mpr ⟨Q, hQ, rfl⟩⟩
theorem drop_get {R : List (List Int)} {i j : Nat} (h : i < j) : (R.drop (i + 1))[j - i - 1]?.getD [] = R[j]?.getD [] := by rw [List.getElem?_drop, show i + 1 + (j - i - 1) = j by omega]
theorem pick_1 {R : List (List Int)} {i : Nat} (hi : i < R.length) : [R[i]?.getD []] ∈ picks R 1 := pick1 hi (List.mem_singleton.mpr rfl)
theorem pick_2 {R : List (List Int)} {i j : Nat} (hij : i < j) (hj : j < R.length) : [R[i]?.getD [], R[j]?.getD []] ∈ picks R 2 := by
  refine pick1 (by omega) ?_
  have := pick_1 (R := R.drop (i + 1)) (i := j - i - 1) (by rw [List.length_drop]; omega)
  rwa [drop_get hij] at this
theorem pick_3 {R : List (List Int)} {i j k : Nat} (hij : i < j) (hjk : j < k) (hk : k < R.length) : [R[i]?.getD [], R[j]?.getD [], R[k]?.getD []] ∈ picks R 3 := by
  refine pick1 (by omega) ?_
  have := pick_2 (R := R.drop (i + 1)) (i := j - i - 1) (j := k - i - 1) (by omega) (by rw [List.length_drop]; omega)
  rwa [drop_get hij, drop_get (by omega)] at this
theorem picks_all {n : Nat} {d : Int} {R : List (List Int)} (h : Ln n R) (hn1 : 1 ≤ n) (hn : n ≤ 3) (hd : ∀ P ∈ picks R n, d ∣ blk P) : ∀ P, P.length = n → (∀ r ∈ P, r ∈ R) → d ∣ blk P := by
  intro P lP hP
  have ix : ∀ r ∈ R, ∃ i, i < R.length ∧ r = R[i]?.getD [] := fun r hr => by
    obtain ⟨i, hi, rfl⟩ := List.mem_iff_getElem.mp hr
    exact ⟨i, hi, by rw [List.getElem?_eq_getElem hi]; rfl⟩
  obtain rfl | rfl | rfl : n = 1 ∨ n = 2 ∨ n = 3 := by omega
  · match P, lP, hP with
    | [p], _, hP =>
      simp at hP
      obtain ⟨i, hi, rfl⟩ := ix p hP
      exact hd _ (pick_1 hi)
  · match P, lP, hP with
    | [p, q], _, hP =>
      simp at hP
      obtain ⟨i, hi, rfl⟩ := ix p hP.1
      obtain ⟨j, hj, rfl⟩ := ix q hP.2
      have li := h.get hi
      have lj := h.get hj
      rcases Nat.lt_trichotomy i j with c | c | c
      · exact hd _ (pick_2 c hj)
      · subst c
        obtain ⟨a, b, e⟩ := l2_of li
        rw [e]; exact ⟨0, by simp [blk]; grind⟩
      · have := hd _ (pick_2 c hi)
        obtain ⟨a, b, e⟩ := l2_of li
        obtain ⟨a', b', e'⟩ := l2_of lj
        rw [e, e'] at this ⊢
        have e2 : blk [[a, b], [a', b']] = -blk [[a', b'], [a, b]] := by simp [blk]; grind
        rw [e2, Int.dvd_neg]; exact this
  · match P, lP, hP with
    | [p, q, s], _, hP =>
      simp at hP
      obtain ⟨i, hi, rfl⟩ := ix p hP.1
      obtain ⟨j, hj, rfl⟩ := ix q hP.2.1
      obtain ⟨k, hk, rfl⟩ := ix s hP.2.2
      have sw1 : ∀ a b c : List Int, a.length = 3 → b.length = 3 → c.length = 3 → blk [b, a, c] = -blk [a, b, c] ∧ blk [a, c, b] = -blk [a, b, c] := by
        intro a b c la lb lc
        obtain ⟨p1, p2, p3, rfl⟩ := l3_of la
        obtain ⟨q1, q2, q3, rfl⟩ := l3_of lb
        obtain ⟨b1, b2, b3, rfl⟩ := l3_of lc
        constructor
        · simp [blk]; grind
        · simp [blk]; grind
      have same : ∀ a b : List Int, a.length = 3 → b.length = 3 → blk [a, a, b] = 0 ∧ blk [b, a, a] = 0 := by
        intro a b la lb
        obtain ⟨p1, p2, p3, rfl⟩ := l3_of la
        obtain ⟨q1, q2, q3, rfl⟩ := l3_of lb
        constructor
        · simp [blk]; grind
        · simp [blk]; grind
      have L : ∀ {i}, i < R.length → (R[i]?.getD []).length = 3 := fun hi => h.get hi
      have sym : ∀ i j k, i < R.length → j < R.length → k < R.length → (d ∣ blk [R[i]?.getD [], R[j]?.getD [], R[k]?.getD []] → d ∣ blk [R[j]?.getD [], R[i]?.getD [], R[k]?.getD []] ∧ d ∣ blk [R[i]?.getD [], R[k]?.getD [], R[j]?.getD []]) := by
        intro i j k hi hj hk e
        obtain ⟨e1, e2⟩ := sw1 _ _ _ (L hi) (L hj) (L hk)
        rw [e1, e2, Int.dvd_neg]; exact ⟨e, e⟩
      have z12 : ∀ i k, i < R.length → k < R.length → d ∣ blk [R[i]?.getD [], R[i]?.getD [], R[k]?.getD []] := fun i k hi hk => by
        rw [(same _ _ (L hi) (L hk)).1]; exact Int.dvd_zero _
      have lt3 : ∀ i j k, i < R.length → j < R.length → k < R.length → i < j → j < k → d ∣ blk [R[i]?.getD [], R[j]?.getD [], R[k]?.getD []] := fun i j k _ _ hk h1 h2 => hd _ (pick_3 h1 h2 hk)
      rcases Nat.lt_trichotomy i j with c | c | c
      · rcases Nat.lt_trichotomy j k with c2 | c2 | c2
        · exact lt3 i j k hi hj hk c c2
        · subst c2; rw [(same _ _ (L hj) (L hi)).2]; exact Int.dvd_zero _
        · rcases Nat.lt_trichotomy i k with c3 | c3 | c3
          · exact (sym _ _ _ hi hk hj (lt3 i k j hi hk hj c3 c2)).2
          · subst c3; exact (sym _ _ _ hi hi hj (z12 i j hi hj)).2
          · exact (sym _ _ _ hi hk hj (sym _ _ _ hk hi hj (lt3 k i j hk hi hj c3 c)).1).2
      · subst c; exact z12 i k hi hk
      · rcases Nat.lt_trichotomy i k with c2 | c2 | c2
        · exact (sym _ _ _ hj hi hk (lt3 j i k hj hi hk c c2)).1
        · subst c2; exact (sym _ _ _ hj hi hi (by rw [(same _ _ (L hi) (L hj)).2]; exact Int.dvd_zero _)).1
        · rcases Nat.lt_trichotomy j k with c3 | c3 | c3
          · exact (sym _ _ _ hj hi hk (sym _ _ _ hj hk hi (lt3 j k i hj hk hi c3 c2)).2).1
          · subst c3; exact (sym _ _ _ hj hi hj (sym _ _ _ hj hj hi (z12 j i hj hi)).2).1
          · exact (sym _ _ _ hj hi hk (sym _ _ _ hj hk hi (sym _ _ _ hk hj hi (lt3 k j i hk hj hi c3 c)).1).2).1
/-- the greatest number that goes into each -/
def gcdL (Ps : List (List (List Int))) (g : Nat) : Nat := Ps.foldl (fun g P => Nat.gcd g (blk P).natAbs) g
theorem gcdL_dvd : ∀ {Ps : List (List (List Int))} {g : Nat}, gcdL Ps g ∣ g ∧ ∀ P ∈ Ps, gcdL Ps g ∣ (blk P).natAbs
  | [], g => ⟨Nat.dvd_refl _, fun P h => by cases h⟩
  | Q :: Ps, g => by
    obtain ⟨a, b⟩ := gcdL_dvd (Ps := Ps) (g := Nat.gcd g (blk Q).natAbs)
    have e : gcdL (Q :: Ps) g = gcdL Ps (Nat.gcd g (blk Q).natAbs) := rfl
    rw [e]
    refine ⟨Nat.dvd_trans a (Nat.gcd_dvd_left _ _), fun P h => ?_⟩
    rcases List.mem_cons.mp h with h | h
    · rw [h]; exact Nat.dvd_trans a (Nat.gcd_dvd_right _ _)
    · exact b P h
theorem dvd_gcdL {d : Nat} : ∀ {Ps : List (List (List Int))} {g : Nat}, d ∣ g → (∀ P ∈ Ps, d ∣ (blk P).natAbs) → d ∣ gcdL Ps g
  | [], g, h, _ => h
  | Q :: Ps, g, h, h2 => by
    have e : gcdL (Q :: Ps) g = gcdL Ps (Nat.gcd g (blk Q).natAbs) := rfl
    rw [e]
    exact dvd_gcdL (Nat.dvd_gcd h (h2 Q List.mem_cons_self)) fun P hP => h2 P (List.mem_cons_of_mem _ hP)
theorem gcd_blk {n : Nat} {R J : List (List Int)} (h : Ln n R) (hJ : Rws n J) (hn1 : 1 ≤ n) (hn : n ≤ 3) (hb : blk J ≠ 0) (sp : ∀ x, Sp n J x ↔ Sp n R x) : gcdL (picks R n) 0 = (blk J).natAbs := by
  refine Nat.dvd_antisymm ?_ ?_
  · have a := (gcdL_dvd (Ps := picks R n) (g := 0)).2
    have := blk_sp (d := (gcdL (picks R n) 0 : Int)) h hn1 hn (picks_all h hn1 hn fun P hP => Int.ofNat_dvd_left.mpr (a P hP)) J hJ.1 fun r hr => (sp r).mp (.row hr)
    exact Int.ofNat_dvd_left.mp this
  · refine dvd_gcdL (Nat.dvd_zero _) fun P hP => ?_
    obtain ⟨l, m⟩ := picks_of hP
    exact Int.natAbs_dvd_natAbs.mpr (blk_dvd ⟨l, fun r hr => h r (m r hr)⟩ hJ hn1 hn hb fun r hr => (sp r).mpr (.row (m r hr)))
end BO

namespace BO
open SG
/-! ### the bulks of what is joined and what is common -/
theorem nodup_le : ∀ {l1 l2 : List (List Int)}, l1.Nodup → (∀ x ∈ l1, x ∈ l2) → l1.length ≤ l2.length
  | [], l2, _, _ => Nat.zero_le _
  | a :: t, l2, h, s => by
    have h := List.nodup_cons.mp h
    have ma := s a List.mem_cons_self
    have := nodup_le (l1 := t) (l2 := l2.erase a) h.2 fun x hx => (List.mem_erase_of_ne (by rintro rfl; exact h.1 hx)).mpr (s x (List.mem_cons_of_mem _ hx))
    rw [List.length_erase_of_mem ma] at this
    have p := List.length_pos_of_mem ma
    simp; omega
theorem wStep_nodup {acc : List (List Int)} {s : Int × Int} (h : acc.Nodup) : (wStep acc s).Nodup := by
  unfold wStep List.Nodup
  rw [List.pairwise_flatMap]
  refine ⟨fun r hr => ?_, ?_⟩
  · rw [List.pairwise_map]
    refine List.Pairwise.imp ?_ (List.nodup_range (n := (s.2 + 1 - s.1).toNat))
    intro a b hab e
    have := (List.append_inj' e rfl).2
    simp at this
    exact hab (by omega)
  · refine List.Pairwise.imp ?_ h
    intro a b hab x hx y hy e
    obtain ⟨i, _, rfl⟩ := List.mem_map.mp hx
    obtain ⟨j, _, rfl⟩ := List.mem_map.mp hy
    exact hab (List.append_inj' e rfl).1
theorem within_nodup {T : List (List Int)} : ∀ k, (within (stch T k)).Nodup
  | 0 => by simp [within, stch]
  | k + 1 => by rw [stch_succ, within_snoc]; exact wStep_nodup (within_nodup k)
theorem map_nodup {l : List (List Int)} {f : List Int → List Int} (h : l.Nodup) (inj : ∀ x ∈ l, ∀ y ∈ l, f x = f y → x = y) : (l.map f).Nodup := by
  unfold List.Nodup
  rw [List.pairwise_map]
  exact List.Pairwise.imp_of_mem (fun hx hy hne e => hne (inj _ hx _ hy e)) h
theorem sp_app {n : Nat} {A B : List (List Int)} (hA : Ln n A) (hB : Ln n B) {p : List Int} (h : Sp n (A ++ B) p) : ∃ a b, Sp n A a ∧ Sp n B b ∧ p = less a 1 b := by
  have z0 := zero_len (m := n)
  induction h with
  | zero => exact ⟨_, _, .zero, .zero, by rw [less_self, zero_len]⟩
  | @row r h =>
    rcases List.mem_append.mp h with c | c
    · have l := hA r c
      exact ⟨r, _, .row c, .zero, (ext' (less_len (by omega)) fun j _ => by rw [at_less (by omega), at_zero]; omega).symm⟩
    · have l := hB r c
      have l2 : (less (zero n) 1 r).length = n := by rw [less_len (by omega), zero_len]
      exact ⟨zero n, less (zero n) 1 r, .zero, .less 1 .zero (.row c), ext' (by rw [less_len (by omega)]; omega) fun j _ => by rw [at_less (by omega), at_less (by omega), at_zero]; omega⟩
  | less t _ _ c d =>
    obtain ⟨a, b, ha, hb, rfl⟩ := c
    obtain ⟨a', b', ha', hb', rfl⟩ := d
    have la := ha.len hA
    have lb := hb.len hB
    have la' := ha'.len hA
    have lb' := hb'.len hB
    have e1 : (less a 1 b).length = n := by rw [less_len (by omega), la]
    have e2 : (less a' 1 b').length = n := by rw [less_len (by omega), la']
    have e3 : (less a t a').length = n := by rw [less_len (by omega), la]
    have e4 : (less b t b').length = n := by rw [less_len (by omega), lb]
    refine ⟨_, _, .less t ha ha', .less t hb hb', ext' (by rw [less_len (by omega), less_len (p := less a t a') (by omega)]; omega) fun j _ => ?_⟩
    rw [at_less (by omega), at_less (by omega), at_less (by omega), at_less (by omega), at_less (by omega), at_less (by omega)]
    grind
theorem app_l {n : Nat} {A B : List (List Int)} {p : List Int} (h : Sp n A p) : Sp n (A ++ B) p := h.sub fun r hr => List.mem_append_left _ hr
theorem app_r {n : Nat} {A B : List (List Int)} {p : List Int} (h : Sp n B p) : Sp n (A ++ B) p := h.sub fun r hr => List.mem_append_right _ hr
theorem sub_sub {n : Nat} {p q r : List Int} (lp : p.length = n) (lq : q.length = n) (lr : r.length = n) : less (less p 1 q) 1 (less p 1 r) = less r 1 q := by
  have e1 : (less p 1 q).length = n := by rw [less_len (by omega), lp]
  have e2 : (less p 1 r).length = n := by rw [less_len (by omega), lp]
  refine ext' (by rw [less_len (by omega), less_len (p := r) (by omega)]; omega) fun j _ => ?_
  rw [at_less (by omega), at_less (by omega), at_less (by omega), at_less (by omega)]; omega
open Classical in
theorem dp_both {n : Nat} {SA SB J C : List (List Int)} (hA : Stair n SA) (hB : Stair n SB) (hJ : Stair n J) (hC : Stair n C) (spJ : ∀ x, Sp n J x ↔ Sp n (SA ++ SB) x) (spC : ∀ x, Sp n C x ↔ Sp n SA x ∧ Sp n SB x) : dp C n * dp J n = dp SA n * dp SB n := by
  have c1 := count_pts hC.toTri hA.toTri (fun x h => ((spC x).mp h).1) (f := fun r => decide (Sp n SA r)) fun r _ => by simp
  have c2 := count_pts hB.toTri hJ.toTri (fun x h => (spJ x).mpr (app_r h)) (f := fun r => decide (Sp n J r)) fun r _ => by simp
  obtain ⟨L1, e1⟩ : ∃ L, L = (within (stch C n)).filter fun r => decide (Sp n SA r) := ⟨_, rfl⟩
  obtain ⟨L2, e2⟩ : ∃ L, L = (within (stch SB n)).filter fun r => decide (Sp n J r) := ⟨_, rfl⟩
  rw [← e1] at c1
  rw [← e2] at c2
  have m1 : ∀ r, r ∈ L1 ↔ InBox n C r ∧ Sp n SA r := fun r => by rw [e1, List.mem_filter, box_mem]; simp
  have m2 : ∀ r, r ∈ L2 ↔ InBox n SB r ∧ Sp n J r := fun r => by rw [e2, List.mem_filter, box_mem]; simp
  have n1 : L1.Nodup := by rw [e1]; exact (within_nodup n).filter _
  have n2 : L2.Nodup := by rw [e2]; exact (within_nodup n).filter _
  have inj : ∀ x ∈ L1, ∀ y ∈ L1, restK SB x n = restK SB y n → x = y := by
    intro x hx y hy e
    obtain ⟨bx, sx⟩ := (m1 x).mp hx
    obtain ⟨by', sy⟩ := (m1 y).mp hy
    have s := (rest_iff hB.toTri bx.1 by'.1).mp e
    exact box_uniq hC.toTri bx by' ((spC _).mpr ⟨.less 1 sx sy, s⟩)
  have le1 : L1.length ≤ L2.length := by
    have := nodup_le (map_nodup n1 inj) (l2 := L2) fun z hz => by
      obtain ⟨r, hr, rfl⟩ := List.mem_map.mp hz
      obtain ⟨br, sr⟩ := (m1 r).mp hr
      have s := rest_sp hB.toTri br.1
      have bx := rest_box hB.toTri br.1
      refine (m2 _).mpr ⟨bx, ?_⟩
      have a : Sp n J r := (spJ r).mpr (app_l sr)
      have b : Sp n J (less r 1 (restK SB r n)) := (spJ _).mpr (app_r s)
      have c := Sp.less 1 a b
      have lr := br.1
      have lx := bx.1
      have e : less r 1 (less r 1 (restK SB r n)) = restK SB r n := by
        have e1 : (less r 1 (restK SB r n)).length = n := by rw [less_len (by omega), lr]
        refine ext' (by rw [less_len (by omega)]; omega) fun j _ => ?_
        rw [at_less (by omega), at_less (by omega)]; omega
      rwa [e] at c
    rwa [List.length_map] at this
  have le2 : L2.length ≤ L1.length := by
    have := nodup_le n2 (l2 := L1.map fun r => restK SB r n) fun j hj => by
      obtain ⟨bj, sj⟩ := (m2 j).mp hj
      obtain ⟨a, b, ha, hb, ej⟩ := sp_app hA.ln hB.ln ((spJ j).mp sj)
      have la := ha.len hA.ln
      have lb := hb.len hB.ln
      have lj := bj.1
      have s := rest_sp hC.toTri la
      have bx := rest_box hC.toTri la
      have lx := bx.1
      obtain ⟨sA, sB⟩ := (spC _).mp s
      have l0 : (less a 1 (restK C a n)).length = n := by rw [less_len (by omega), la]
      have rA : Sp n SA (restK C a n) := by
        have c := Sp.less 1 ha sA
        have e : less a 1 (less a 1 (restK C a n)) = restK C a n := by
          refine ext' (by rw [less_len (by omega)]; omega) fun j _ => ?_
          rw [at_less (by omega), at_less (by omega)]; omega
        rwa [e] at c
      refine List.mem_map.mpr ⟨restK C a n, (m1 _).mpr ⟨bx, rA⟩, ?_⟩
      -- the rest of it is j
      have d : Sp n SB (less (restK C a n) 1 j) := by
        have c := Sp.less 1 hb sB
        have e : less b 1 (less a 1 (restK C a n)) = less (restK C a n) 1 j := by
          refine ext' (by rw [less_len (by omega), less_len (p := restK C a n) (by omega)]; omega) fun i _ => ?_
          rw [at_less (by omega), at_less (by omega), at_less (by omega), ej, at_less (by omega)]; omega
        rwa [e] at c
      have e1 := (rest_iff hB.toTri lx lj).mpr d
      have e2 : j = restK SB j n := box_uniq hB.toTri bj (rest_box hB.toTri lj) (rest_sp hB.toTri lj)
      rw [e1]; exact e2.symm
    rwa [List.length_map] at this
  have e : L1.length = L2.length := Nat.le_antisymm le1 le2
  rw [← c1, ← c2, e]
  simp only [Nat.mul_assoc, Nat.mul_comm, Nat.mul_left_comm]
end BO

namespace BO
open SG
/-! ### weights of wide numbers -/
theorem cnt_wd {n : Nat} {R : List (List Int)} (h : Rws n R) (hw : ∀ r ∈ R, ∀ x ∈ r, Wd x) (hn1 : 1 ≤ n) (hn : n ≤ 3) : ∀ c ∈ cnt R, ∀ x ∈ c, x.natAbs < 2 ^ 253 := by
  have w2 : ∀ {x : Int}, Wd x → x.natAbs < 2 ^ 253 := fun h => Nat.lt_trans h (by decide)
  cases shW_of h hw hn1 hn with
  | one ha =>
    intro c hc x hx
    simp [cnt] at hc
    subst hc
    simp at hx
    subst hx
    decide
  | two ha hb hc hd =>
    intro c' hc' x hx
    simp [cnt] at hc'
    rcases hc' with rfl | rfl
    all_goals
      simp at hx
      rcases hx with rfl | rfl
      all_goals first
        | exact w2 (by assumption)
        | (rw [Int.natAbs_neg]; exact w2 (by assumption))
  | three ha hb hc hd he hf hg hh hi =>
    intro c' hc' x hx
    simp [cnt] at hc'
    rcases hc' with rfl | rfl | rfl
    all_goals
      simp at hx
      rcases hx with rfl | rfl | rfl
      all_goals exact cofW (by assumption) (by assumption) (by assumption) (by assumption)
theorem mulAllW {n : Nat} {R : List (List Int)} {p c : List Int} (h : Rws n R) (hw : ∀ r ∈ R, ∀ x ∈ r, Wd x) (hn1 : 1 ≤ n) (hn : n ≤ 3) (sp : ∀ x ∈ p, Wd x) (hc : c ∈ cnt R) : MulAll p c := by
  intro k
  have z : (0 : Int).natAbs < 2 ^ 253 := by decide
  have a : Wd (at' p k) := by
    by_cases q : k < p.length
    · exact sp _ (at_mem q)
    · rw [at_out (by omega)]; unfold Wd; decide
  have b : (at' c k).natAbs < 2 ^ 253 := by
    by_cases q : k < c.length
    · exact cnt_wd h hw hn1 hn c hc _ (at_mem q)
    · rw [at_out (by omega)]; exact z
  exact mulW2 a b
section
variable {B : PySem.Str → Option FI} {nm : Nm}
theorem law_countersW (kn : Kn B) (hB : B "_law_counters" = some fi__law_counters) {l n : Nat} {R : List (List Int)} {y : Bool} (h : Rws n R) (hw : ∀ r ∈ R, ∀ x ∈ r, Wd x) (hn1 : 1 ≤ n) (hn : n ≤ 3) :
    callF B nm (l + 5) "_law_counters" [rowsV y R] = .ok (rowsV true (cnt R)) := by
  rw [callF_eq hB]
  refine runF_ret rfl ?_
  have e0 : startR 8 (PV.olds [rowsV y R]) = [.fz (rowsV false R), .no, .no, .no, .no, .no, .no, .no] := by simp [olds_cons, olds_nil, old_rows, startR]
  rw [e0, show b__law_counters = .cons (.asgM [] 3 (.lst .nil)) (.cons (.for [] [5] true (.rng1 (.bi .len (.cons (.var 0) .nil))) lcOut) (.cons (.ret [3] (.var 3)) .nil)) from rfl]
  have hR := h.1
  refine stage (ρ' := [.fz (rowsV false R), .no, .no, .own [], .no, .no, .no, .no]) (by simp [ownOr, PV.lfs, E.mk]) ?_
  obtain ⟨ρ', e, s2, s4, s5, s6, rfl⟩ := fl_rng (G := callF B nm (l + 4)) (nm := nmAt nm (l + 4)) (tg := [5]) (w := true) (t := lcOut) (n := n) (ρ := [.fz (rowsV false R), .no, .no, .own [], .no, .no, .no, .no])
    (fun k ρ => ∃ s2 s4 s5 s6, ρ = [.fz (rowsV false R), .no, s2, .own (((List.range k).map fun k => (List.range n).map fun j => cof R k j).map tupI), s4, s5, s6, .no]) ⟨_, _, _, _, rfl⟩ (fun k hk ρ ⟨s2, s4, s5, s6, e⟩ => by
      subst e
      refine ⟨_, [.fz (rowsV false R), .no, .fz (lstI true ((List.range n).map fun j => cof R k j)), .own (((List.range (k + 1)).map fun k => (List.range n).map fun j => cof R k j).map tupI), .fz (.int ((n - 1 : Nat) : Int)), .fz (.int (k : Int)), .fz (.int (lbk (minor R k (n - 1)))), .no], rfl, ?_, _, _, _, _, rfl⟩
      simp only [List.set_cons_succ, List.set_cons_zero]
      refine stage (ρ' := [.fz (rowsV false R), .no, .own [], .own (((List.range k).map fun k => (List.range n).map fun j => cof R k j).map tupI), s4, .fz (.int (k : Int)), s6, .no]) (by simp [ownOr, PV.lfs, E.mk]) ?_
      obtain ⟨ρ', e, s4, s6, rfl, hs⟩ := fl_rng (G := callF B nm (l + 4)) (nm := nmAt nm (l + 4)) (tg := [4]) (w := true) (t := lcIn) (n := n) (ρ := [.fz (rowsV false R), .no, .own [], .own (((List.range k).map fun k => (List.range n).map fun j => cof R k j).map tupI), s4, .fz (.int (k : Int)), s6, .no])
        (fun i ρ => ∃ s4 s6, ρ = [.fz (rowsV false R), .no, .own (((List.range i).map fun j => cof R k j).map PV.int), .own (((List.range k).map fun k => (List.range n).map fun j => cof R k j).map tupI), s4, .fz (.int (k : Int)), s6, .no] ∧ (0 < i → s4 = .fz (.int ((i - 1 : Nat) : Int)) ∧ s6 = .fz (.int (lbk (minor R k (i - 1)))))) ⟨_, _, rfl, fun z => absurd z (Nat.lt_irrefl 0)⟩ (fun j hj ρ ⟨s4, s6, e, _⟩ => by
          subst e
          refine ⟨_, [.fz (rowsV false R), .no, .own (((List.range (j + 1)).map fun j => cof R k j).map PV.int), .own (((List.range k).map fun k => (List.range n).map fun j => cof R k j).map tupI), .fz (.int (j : Int)), .fz (.int (k : Int)), .fz (.int (lbk (minor R k j))), .no], rfl, ?_, _, _, rfl, fun _ => ⟨by simp, by simp⟩⟩
          simp only [List.set_cons_succ, List.set_cons_zero]
          have hc : cm (callF B nm (l + 4)) [.fz (rowsV false R), .no, .own (((List.range j).map fun j => cof R k j).map PV.int), .own (((List.range k).map fun k => (List.range n).map fun j => cof R k j).map tupI), .fz (.int (j : Int)), .fz (.int (k : Int)), s6, .no] [1, 7] [7] true (.call "_law_without" (.cons (.var 7) (.cons (.var 4) .nil))) ((butL R k).map tupI) = .ok (rowsV true (minor R k j)) := by
            have e9 : rowsV true (minor R k j) = .lst true ((butL R k).map fun r => tupI (wo j r)) := by unfold minor rowsV; rw [List.map_map]; rfl
            rw [e9]
            refine cm_of (l := butL R k) tupI _ invTup invTup_tupI (fun r hr => ?_) (by have := but_len (L := R) (k := k) (by omega); omega)
            have w := without kn (nm := nm) (l := l + 3) (r := r) (k := j) (by rw [h.2 r (but_mem hr)]; omega)
            simp [wipeS, setT, w]
          have mb := minor_bulkW kn (nm := nm) (l := l) h hw hn1 hn hk hj (y := true)
          have bb := but_rows (y := false) (R := R) (k := k) (by omega)
          have ll : j < PySem.sizeLine := lt_line (by omega)
          refine stage (ρ' := [.fz (rowsV false R), .no, .own (((List.range j).map fun j => cof R k j).map PV.int), .own (((List.range k).map fun k => (List.range n).map fun j => cof R k j).map tupI), .fz (.int (j : Int)), .fz (.int (k : Int)), .fz (.int (lbk (minor R k j))), .no]) ?_ ?_
          · have it : itemsV (rowsV true (butL R k)) = .ok ((butL R k).map tupI) := rfl
            simp [-List.map_map, -List.map_append]
            rw [bb]
            simp [it, hc, mb, -List.map_map]
          · refine last ?_
            rw [List.range_succ, List.map_append, List.map_append]
            simp [sgn_ix, modV_int, ll, sz, -List.map_map]
            rfl)
      refine stage (ρ' := [.fz (rowsV false R), .no, .own (((List.range n).map fun j => cof R k j).map PV.int), .own (((List.range k).map fun k => (List.range n).map fun j => cof R k j).map tupI), s4, .fz (.int (k : Int)), s6, .no]) (by simpa [len_rows, hR, rng_n (show n ≤ 1000 by omega)] using e) ?_
      obtain ⟨h4, h6⟩ := hs (by omega)
      subst h4; subst h6
      have ll : k < PySem.sizeLine := lt_line (by omega)
      refine last ?_
      rw [List.range_succ, List.map_append, List.map_append]
      simp [ll, -List.map_map]
      exact ⟨rfl, rfl⟩)
  refine stage (ρ' := [.fz (rowsV false R), .no, s2, .own (((List.range n).map fun k => (List.range n).map fun j => cof R k j).map tupI), s4, s5, s6, .no]) (by simpa [len_rows, hR, rng_n (show n ≤ 1000 by omega)] using e) ?_
  refine stop ?_
  have t := tab_cof h hn1 hn
  unfold tab at t
  rw [t]
  simp [rowsV]
theorem law_weightsW (kn : Kn B) (hB : B "_law_weights" = some fi__law_weights) (hB2 : B "_law_counters" = some fi__law_counters) (hB3 : B "_law_inner" = some fi__law_inner) {l n : Nat} {R : List (List Int)} {y : Bool} {p : List Int} (h : Rws n R) (hw : ∀ r ∈ R, ∀ x ∈ r, Wd x) (hn1 : 1 ≤ n) (hn : n ≤ 3) (hb : blk R ≠ 0) (hd : DivOk (blk R)) (lp : p.length = n) (sp : ∀ x ∈ p, Wd x) :
    callF B nm (l + 6) "_law_weights" [rowsV y R, tupI p] = .ok (wwV (ww R p)) := by
  rw [callF_eq hB]
  refine runF_ret rfl ?_
  have e0 : startR 7 (PV.olds [rowsV y R, tupI p]) = [.fz (rowsV false R), .fz (tupI p), .no, .no, .no, .no, .no] := by simp [olds_cons, olds_nil, old_rows, old_tupI, startR]
  rw [e0]
  have bo := law_bulkW kn (nm := nm) (l := l + 1) (y := false) (shW_of h hw hn1 hn)
  have co := law_countersW (nm := nm) kn hB2 (l := l) (y := false) h hw hn1 hn
  have rc := cnt_rws h hn1 hn
  have hc : cm (callF B nm (l + 5)) [.fz (rowsV false R), .fz (tupI p), .no, .no, .no, .no, .fz (.int (blk R))] [2, 3] [3] true (.call "_law_inner" (.cons (.var 1) (.cons (.var 3) .nil))) ((cnt R).map tupI) = .ok (lstI true (tops R p)) := by
    unfold lstI tops
    rw [List.map_map]
    refine cm_of tupI _ invTup invTup_tupI (fun c hc => ?_) (by rw [rc.1]; omega)
    have inn := law_inner (nm := nm) hB3 (l := l + 4) (a := p) (b := c) (by rw [lp, rc.2 c hc]) (by omega) (mulAllW h hw hn1 hn sp hc)
    simp [wipeS, setT, inn]
  have tl := tops_len h hn1 hn (p := p)
  rw [show b__law_weights = .cons (.asg [] 6 (.call "_law_bulk" (.cons (.var 0) .nil))) (.cons (.asg [] 5 (.comp [2, 3] [3] true (.val (.call "_law_counters" (.cons (.var 0) .nil))) (.call "_law_inner" (.cons (.var 1) (.cons (.var 3) .nil))))) wwTail) from rfl]
  refine stage (ρ' := [.fz (rowsV false R), .fz (tupI p), .no, .no, .no, .no, .fz (.int (blk R))]) (by simp [bo]) ?_
  refine stage (ρ' := [.fz (rowsV false R), .fz (tupI p), .no, .no, .no, .fz (lstI true (tops R p)), .fz (.int (blk R))]) (by simp [co, items_rows, hc]) ?_
  exact ww_tail hb hd (by omega)
end
end BO

namespace BO
open SG
theorem lo_tup0 {r : List Int} {k : Nat} : slLoV (tupI r) (.int (k : Int)) = .ok (tupI (r.drop k)) := by
  unfold slLoV slV tupI; dsimp only
  rw [cut_lo, List.map_drop]
theorem add_tupI {a b : List Int} (h : a.length + b.length ≤ 1000) : addV (tupI a) (tupI b) = .ok (tupI (a ++ b)) := by
  unfold tupI; rw [addV_tup (by simpa using h), List.map_append]
theorem add_rows {y t : Bool} {A B : List (List Int)} (h : A.length + B.length ≤ 1000) : addV (rowsV y A) (rowsV t B) = .ok (rowsV true (A ++ B)) := by
  unfold rowsV; rw [addV_lst (by simpa using h), List.map_append]
theorem full_mul {n : Nat} {m : Int} {R : List (List Int)} (h : Sq n m R) (hn1 : 1 ≤ n) (hn : n ≤ 3) (hb : blk R ≠ 0) {c : Int} (hd : blk R ∣ c) : Full n c R := fun v j hj hv h0 hc => sp_full h.rws hn1 hn hb hv h0 (by rw [hc]; exact hd)
section
variable {B : PySem.Str → Option FI} {nm : Nm}
theorem r2_bd {n : Nat} {A D : List (List Int)} (h : Sq n 1000000 A) (h2 : Sq n 1000000 D) : Bd (2 ^ 20) (rows2 n A D) := by
  have z : ∀ {R : List (List Int)}, Sq n 1000000 R → ∀ r ∈ R, ∀ j, (at' r j).natAbs ≤ 2 ^ 20 := fun h => sq_bd (U := 2 ^ 20) h (by decide)
  intro r hr j
  rcases List.mem_append.mp hr with c | c
  · obtain ⟨a, ha, rfl⟩ := List.mem_map.mp c
    unfold dup
    rw [at_app]
    split
    · exact z h a ha _
    · exact z h a ha _
  · obtain ⟨a, ha, rfl⟩ := List.mem_map.mp c
    unfold pad
    rw [at_app]
    split
    · exact z h2 a ha _
    · rw [at_zero]; decide
theorem both_stairs (hB : B "least_at" = some fi_least_at) (hB2 : B "less" = some fi_less) (hB3 : B "cleared" = some fi_cleared) (hB4 : B "stair_of" = some fi_stair_of) (hB5 : B "both_stairs" = some fi_both_stairs) {n : Nat} {A D : List (List Int)} (h : Sq n 1000000 A) (h2 : Sq n 1000000 D) (hn1 : 1 ≤ n) (hn : n ≤ 3) (hb : blk A ≠ 0) (hb2 : blk D ≠ 0) :
    ∃ T, (∀ (l : Nat) (y t : Bool), callF B nm (l + 4) "both_stairs" [rowsV y A, rowsV t D] = .ok (rowsV true T)) ∧ Stair (n + n) T ∧ ∀ x, Sp (n + n) (rows2 n A D) x ↔ Sp (n + n) T x := by
  have b1 := blk_in h hn1 hn (by decide)
  have b2 := blk_in h2 hn1 hn (by decide)
  have ff : Full (n + n) (blk A * blk D) (rows2 n A D) := r2_full h.rws h2.rws (full_mul h hn1 hn hb (Int.dvd_mul_right _ _)) (full_mul h2 hn1 hn hb2 (Int.dvd_mul_left _ _))
  have c0 : blk A * blk D ≠ 0 := Int.mul_ne_zero hb hb2
  have c2 : (blk A * blk D).natAbs < 2 ^ 200 := by
    have := prod_in (a := blk A) (b := blk D) (p := 6000000000000000000) (q := 6000000000000000000) b1 b2
    omega
  have main := fun (l : Nat) (y : Bool) => stair_of (nm := nm) hB hB2 hB3 hB4 (l := l) (y := y) (m := n + n) (by omega) (r2_ln h.rws h2.rws) (r2_len h.rws h2.rws) (r2_bd h h2) c0 c2 ff
  obtain ⟨T, _, st, sp⟩ := main 0 false
  refine ⟨T, fun l y t => ?_, st, sp⟩
  obtain ⟨T', e', st', sp'⟩ := main l true
  have : T' = T := st'.uniq st (fun p hp => (sp p).mp ((sp' p).mpr hp)) (fun p hp => (sp' p).mp ((sp p).mpr hp))
  subst this
  rw [callF_eq hB5]
  refine runF_ret rfl ?_
  have e0 : startR 6 (PV.olds [rowsV y A, rowsV t D]) = [.fz (rowsV false A), .fz (rowsV false D), .no, .no, .no, .no] := by simp [olds_cons, olds_nil, old_rows, startR]
  rw [e0]
  have hc1 : cm (callF B nm (l + 3)) [.fz (rowsV false A), .fz (rowsV false D), .no, .fz (.int (n : Int)), .no, .no] [2, 4] [4] true (.op .add (.var 4) (.var 4)) (A.map tupI) = .ok (rowsV true (A.map dup)) := by
    refine cm_tupsT dup (fun r hr => ?_) (by have := h.1; omega)
    have := add_tupI (a := r) (b := r) (by have := (h.2 r hr).1; omega)
    simp [wipeS, setT, this]
    rfl
  have hc2 : cm (callF B nm (l + 3)) [.fz (rowsV false A), .fz (rowsV false D), .no, .fz (.int (n : Int)), .no, .no] [2, 4] [4] true (.op .add (.var 4) (.op .mul (.tup (.cons (.int 0) .nil)) (.var 3))) (D.map tupI) = .ok (rowsV true (D.map (pad n))) := by
    refine cm_tupsT (pad n) (fun r hr => ?_) (by have := h2.1; omega)
    have := add_tupI (a := r) (b := zero n) (by have := (h2.2 r hr).1; rw [zero_len]; omega)
    have z := zero_mul (n := n) (by omega)
    simp [wipeS, setT, this, z]
    rfl
  have ha := add_rows (y := true) (t := true) (A := A.map dup) (B := D.map (pad n)) (by rw [List.length_map, List.length_map, h.1, h2.1]; omega)
  unfold b_both_stairs
  refine stage (ρ' := [.fz (rowsV false A), .fz (rowsV false D), .no, .fz (.int (n : Int)), .no, .no]) (by simp [len_rows, h.1]) ?_
  refine stage (ρ' := [.fz (rowsV false A), .fz (rowsV false D), .no, .fz (.int (n : Int)), .no, .fz (rowsV true (rows2 n A D))]) (by simp [items_rows, hc1, hc2, ha, rows2]) ?_
  refine stop ?_
  have e2 : (2 : Int) * (n : Int) = ((n + n : Nat) : Int) := by omega
  have m : MulOk 2 (n : Int) := .inl (by decide)
  simp [mulV_int m]
  rw [e2, e']
  rfl
/-- what the program makes of two grids' rows -/
theorem joined_common (kn : Kn B) (hB : B "least_at" = some fi_least_at) (hB2 : B "less" = some fi_less) (hB3 : B "cleared" = some fi_cleared) (hB4 : B "stair_of" = some fi_stair_of) (hB5 : B "both_stairs" = some fi_both_stairs) (hB6 : B "need_rows" = some fi_need_rows) (hB7 : B "need_both" = some fi_need_both) (hB8 : B "joined" = some fi_joined) (hB9 : B "common" = some fi_common) {n : Nat} {A D : List (List Int)} (h : Sq n 1000000 A) (h2 : Sq n 1000000 D) (hn1 : 1 ≤ n) (hn : n ≤ 3) (hb : blk A ≠ 0) (hb2 : blk D ≠ 0) :
    ∃ J C, (∀ (l : Nat) (y t : Bool), callF B nm (l + 7) "joined" [rowsV y A, rowsV t D] = .ok (rowsV true J)) ∧ (∀ (l : Nat) (y t : Bool), callF B nm (l + 7) "common" [rowsV y A, rowsV t D] = .ok (rowsV true C)) ∧ Stair n J ∧ Stair n C ∧ (∀ x, Sp n J x ↔ Sp n (A ++ D) x) ∧ ∀ x, Sp n C x ↔ Sp n A x ∧ Sp n D x := by
  obtain ⟨T, eT, st, sp⟩ := both_stairs (nm := nm) hB hB2 hB3 hB4 hB5 h h2 hn1 hn hb hb2
  refine ⟨cutJ n T, cutC n T, fun l y t => ?_, fun l y t => ?_, cutJ_stair st, cutC_stair st, cutJ_sp h.rws h2.rws st sp, cutC_sp h.rws h2.rws st sp⟩
  · rw [callF_eq hB8]
    refine runF_ret rfl ?_
    have e0 : startR 5 (PV.olds [rowsV y A, rowsV t D]) = [.fz (rowsV false A), .fz (rowsV false D), .no, .no, .no] := by simp [olds_cons, olds_nil, old_rows, startR]
    rw [e0]
    have nb := need_both kn (nm := nm) hB6 hB7 (l := l) (y := false) (t := false) h2 h hn1 hn hb2 hb
    have e := eT (l + 2) false false
    have hc : cm (callF B nm (l + 6)) [.fz (rowsV false A), .fz (rowsV false D), .no, .fz (.int (n : Int)), .no] [2, 4] [4] true (.slHiV 4 (.var 3)) ((T.take n).map tupI) = .ok (rowsV true (cutJ n T)) := by
      refine cm_tupsT (List.take n) (fun r hr => ?_) (by have := st.len; rw [List.length_take]; omega)
      have := hi_tupI (r := r) (k := n)
      simp [wipeS, setT, this, -List.map_take]
    unfold b_joined
    refine stage (ρ' := [.fz (rowsV false A), .fz (rowsV false D), .no, .no, .no]) (by simp [nb]) ?_
    refine stage (ρ' := [.fz (rowsV false A), .fz (rowsV false D), .no, .fz (.int (n : Int)), .no]) (by simp [len_rows, h.1]) ?_
    refine stop ?_
    simp [e, hi_rows, items_rows, hc, -List.map_take]
  · rw [callF_eq hB9]
    refine runF_ret rfl ?_
    have e0 : startR 5 (PV.olds [rowsV y A, rowsV t D]) = [.fz (rowsV false A), .fz (rowsV false D), .no, .no, .no] := by simp [olds_cons, olds_nil, old_rows, startR]
    rw [e0]
    have nb := need_both kn (nm := nm) hB6 hB7 (l := l) (y := false) (t := false) h2 h hn1 hn hb2 hb
    have e := eT (l + 2) false false
    have hc : cm (callF B nm (l + 6)) [.fz (rowsV false A), .fz (rowsV false D), .no, .fz (.int (n : Int)), .no] [2, 4] [4] true (.slLoV 4 (.var 3)) ((T.drop n).map tupI) = .ok (rowsV true (cutC n T)) := by
      refine cm_tupsT (List.drop n) (fun r hr => ?_) (by have := st.len; rw [List.length_drop]; omega)
      have := lo_tup0 (r := r) (k := n)
      simp [wipeS, setT, this, -List.map_drop]
    unfold b_common
    refine stage (ρ' := [.fz (rowsV false A), .fz (rowsV false D), .no, .no, .no]) (by simp [nb]) ?_
    refine stage (ρ' := [.fz (rowsV false A), .fz (rowsV false D), .no, .fz (.int (n : Int)), .no]) (by simp [len_rows, h.1]) ?_
    refine stop ?_
    simp [e, lo_rows0, items_rows, hc, -List.map_drop]
end
end BO

namespace BO
open SG
/-! ### texts -/
theorem spl_bd (S : List Nat) : ∀ (L : List Nat) (k : Nat) (acc : List Nat), (TL.spl S k acc L).length ≤ L.length + 1 ∧ ∀ p ∈ TL.spl S k acc L, p.length ≤ acc.length + L.length
  | [], k, acc => by rw [TL.spl_nil]; simp
  | c :: r, 0, acc => by
    obtain ⟨a1, b1⟩ := spl_bd S r (S.length - 1) []
    obtain ⟨a2, b2⟩ := spl_bd S r 0 (acc ++ [c])
    by_cases h : TL.pre S (c :: r) = true
    · rw [TL.spl_hit h]
      refine ⟨by simp; omega, fun p hp => ?_⟩
      rcases List.mem_cons.mp hp with e | e
      · rw [e]; omega
      · have := b1 p e; simp at this ⊢; omega
    · have e : TL.spl S 0 acc (c :: r) = TL.spl S 0 (acc ++ [c]) r := by
        rw [TL.spl]; rw [if_neg h]
      rw [e]
      refine ⟨by simp; omega, fun p hp => ?_⟩
      have := b2 p hp; simp at this ⊢; omega
  | c :: r, k + 1, acc => by
    obtain ⟨a1, b1⟩ := spl_bd S r k acc
    have e : TL.spl S (k + 1) acc (c :: r) = TL.spl S k acc r := by rw [TL.spl]
    rw [e]
    refine ⟨by simp; omega, fun p hp => ?_⟩
    have := b1 p hp; simp; omega
theorem split_bd {x y : PySem.Str} (hy : TL.tl y ≠ []) : (PySem.Txt.split x y).length ≤ x.length + 1 ∧ ∀ p ∈ PySem.Txt.split x y, p.length ≤ x.length := by
  by_cases h : PySem.Builtin.Str.strKind x < PySem.Builtin.Str.strKind y
  · have e : PySem.Txt.split x y = [x] := by
      unfold PySem.Txt.split
      rw [if_pos (by simp [h])]
    rw [e]
    simp
  · have e := TL.split_spl x y hy h
    obtain ⟨a, b⟩ := spl_bd (TL.tl y) (TL.tl x) 0 []
    rw [← e] at a b
    rw [List.length_map, ← TL.len_tl] at a
    refine ⟨a, fun p hp => ?_⟩
    have := b (TL.tl p) (List.mem_map_of_mem hp)
    rw [← TL.len_tl, ← TL.len_tl] at this
    simpa using this
end BO

namespace BO
open SG
/-! ### a comprehension whose element may be refused -/
theorem compL_try {F : PV → Rs (Option PV)} {g : PV → Option PV} {C : PySem.Str} : ∀ {xs acc : List PV}, (∀ x ∈ xs, F x = match g x with | some y => .ok (some y) | none => .err C) → acc.length + xs.length ≤ PySem.sizeLine →
    compL F xs acc = if xs.all (fun x => (g x).isSome) = true then .ok (acc ++ xs.map fun x => (g x).getD .non) else .err C
  | [], acc, _, _ => by unfold compL; simp
  | x :: xs, acc, h, hl => by
    have hx := h x List.mem_cons_self
    unfold compL
    cases hg : g x with
    | none =>
      rw [hg] at hx
      rw [hx]
      simp [hg]
    | some y =>
      rw [hg] at hx
      rw [hx]
      simp only [List.length_cons] at hl
      dsimp only
      rw [if_pos (by omega), compL_try (fun z hz => h z (List.mem_cons_of_mem _ hz)) (by rw [List.length_append]; simp; omega)]
      simp [hg]
theorem cm_try {α : Type} {G : Gt} {ρ : Rho} {own tg : List Nat} {w : Bool} {elt : E} {l : List α} {C : PySem.Str} (mk : α → PV) (f : α → Option PV) (inv : PV → α) (hi : ∀ a, inv (mk a) = a) (h : ∀ a ∈ l, ((setT w tg (mk a) (wipeS ρ own)).bind fun ρ1 => eE G ρ1 elt) = match f a with | some v => .ok v | none => .err C) (hn : l.length ≤ 1000) :
    cm G ρ own tg w elt (l.map mk) = if l.all (fun a => (f a).isSome) = true then .ok (.lst true (l.map fun a => (f a).getD .non)) else .err C := by
  unfold cm
  rw [compL_try (g := fun p => f (inv p)) (C := C) (fun x hx => ?_) (sz _ (by simpa using hn))]
  · have e1 : (l.map mk).all (fun x => (f (inv x)).isSome) = l.all (fun a => (f a).isSome) := by
      rw [List.all_map]; congr 1; funext a; simp [hi]
    have e2 : (l.map mk).map (fun x => (f (inv x)).getD .non) = l.map fun a => (f a).getD .non := by
      rw [List.map_map]; refine List.map_congr_left fun a _ => ?_; simp [hi]
    rw [e1, e2]
    split <;> simp
  · obtain ⟨a, ha, rfl⟩ := List.mem_map.mp hx
    have := h a ha
    rw [hi]
    cases hT : setT w tg (mk a) (wipeS ρ own) with
    | ok ρ1 =>
      rw [hT] at this
      simp only [Rs.ok_bind] at this ⊢
      rw [this]
      cases f a <;> rfl
    | err c => exact absurd hT (setT_ne c)
    | no =>
      rw [hT] at this
      cases hf : f a <;> rw [hf] at this <;> cases this
/-! ### a word's number -/
def digB (c : Nat) : Bool := decide (c ∈ ("0123456789" : PySem.Str).cps.toList)
theorem digB_iff {c : Nat} : digB c = true ↔ 48 ≤ c ∧ c ≤ 57 := by
  have e : ("0123456789" : PySem.Str).cps.toList = [48, 49, 50, 51, 52, 53, 54, 55, 56, 57] := by decide +kernel
  unfold digB
  rw [e, decide_eq_true_eq]
  simp
  omega
end BO

namespace BO
open SG
/-- the figures of a word, behind its sign -/
def figs (w : PySem.Str) : PySem.Str := if L2.cutS w none (some 1) = "-" then L2.cutS w (some 1) none else w
/-- a word that writes a number -/
def isNum (w : PySem.Str) : Prop := 1 ≤ (figs w).length ∧ (figs w).length ≤ 7 ∧ (∀ c ∈ (figs w).cps.toList, digB c = true) ∧ ((figs w).cps.toList.head? = some 48 → w = "0")
theorem len_w {w : PySem.Str} : w.length = w.cps.toList.length := (Array.length_toList).symm
theorem sIx1 {n d : Nat} : HT.sIx n d (some (1 : Int)) = min 1 n := HT.sIx_nat n d 1
theorem cut_tl {w : PySem.Str} : (L2.cutS w (some 1) none).cps.toList = w.cps.toList.drop 1 := by
  unfold L2.cutS
  rw [sIx1, HT.sIx_none]
  dsimp only
  rw [len_w]
  match w.cps.toList with
  | [] => simp
  | a :: r => simp
theorem cut_hd {w : PySem.Str} : (L2.cutS w none (some 1)).cps.toList = w.cps.toList.take 1 := by
  unfold L2.cutS
  rw [sIx1, HT.sIx_none]
  dsimp only
  rw [len_w]
  match w.cps.toList with
  | [] => simp
  | a :: r => simp
theorem num_some {w : PySem.Str} (h : isNum w) : ∃ i, PySem.intText? w = some i ∧ w.length ≤ 8 := by
  obtain ⟨h1, h2, h3, _⟩ := h
  unfold figs at h1 h2 h3
  by_cases q : L2.cutS w none (some 1) = "-"
  · rw [if_pos q] at h1 h2 h3
    have e := congrArg (fun z : PySem.Str => z.cps.toList) q
    have e : (L2.cutS w none (some 1)).cps.toList = ("-" : PySem.Str).cps.toList := e
    rw [cut_hd] at e
    rw [show ("-" : PySem.Str).cps.toList = [45] by decide +kernel] at e
    have l1 : (L2.cutS w (some 1) none).length = (w.cps.toList.drop 1).length := by rw [← cut_tl, Array.length_toList]; rfl
    rw [cut_tl] at h3
    rw [l1] at h1 h2
    have ew : w.cps.toList = 45 :: w.cps.toList.drop 1 := by
      have := List.take_append_drop 1 w.cps.toList
      rw [e] at this
      exact this.symm
    have lw : w.length = (w.cps.toList.drop 1).length + 1 := by
      have : w.length = w.cps.toList.length := (Array.length_toList).symm
      rw [this, ew]; simp
    refine ⟨_, PySem.intText_neg ew (fun c hc => digB_iff.mp (h3 c hc)) (fun z => by rw [z] at h1; simp at h1) (by omega), by omega⟩
  · rw [if_neg q] at h1 h2 h3
    refine ⟨_, PySem.intText_digits (fun c hc => digB_iff.mp (h3 c hc)) (fun z => ?_) (by omega), by omega⟩
    have : w.length = w.cps.toList.length := (Array.length_toList).symm
    rw [this, z] at h1; simp at h1
end BO

namespace BO
open SG
/-- a text of signs that there are -/
abbrev Okw (a : PySem.Str) : Prop := PySem.PyData.strOk a = true
theorem lv_s {a : PySem.Str} (h : Okw a) : Lv 0 (.str a) := ⟨by simp [PV.toD, PySem.PyData.canLay0, h], by simp [PV.toD, PySem.PyData.depth]⟩
theorem okw_iff {a : PySem.Str} : Okw a ↔ ∀ c ∈ a.cps.toList, c < 1114112 := by
  unfold Okw PySem.PyData.strOk
  rw [Array.all_eq_true']
  simp
theorem eqV_s {a b : PySem.Str} (ha : Okw a) (hb : Okw b) : eqV' (.str a) (.str b) = .ok (.bl (decide (a = b))) := by
  unfold eqV' eqP; rw [Rs.when_pos ⟨(lv_s ha).ok (n := 0) (by decide), (lv_s hb).ok (n := 0) (by decide)⟩]
  simp only [PV.toD]
  by_cases h : a = b
  · simp [h, PySem.PyData.eqv]
  · simp [h, PySem.PyData.eqv]
theorem neV_s {a b : PySem.Str} (ha : Okw a) (hb : Okw b) : neV' (.str a) (.str b) = .ok (.bl (!decide (a = b))) := by
  unfold neV' eqP; rw [Rs.when_pos ⟨(lv_s ha).ok (n := 0) (by decide), (lv_s hb).ok (n := 0) (by decide)⟩]
  simp only [PV.toD]
  by_cases h : a = b
  · simp [h, PySem.PyData.eqv]
  · simp [h, PySem.PyData.eqv]
theorem len_s {z : PySem.Str} (h : z.length ≤ 1000) : lenV (.str z) = .ok (.int z.length) := Rs.when_pos (sz _ h)
theorem hi1_s {z : PySem.Str} (h : z.length ≤ 1000) : slHiV (.str z) (.int 1) = .ok (.str (L2.cutS z none (some 1))) := Rs.when_pos (sz _ h)
theorem lo1_s {z : PySem.Str} (h : z.length ≤ 1000) : slLoV (.str z) (.int 1) = .ok (.str (L2.cutS z (some 1) none)) := Rs.when_pos (sz _ h)
theorem it_s {z : PySem.Str} : itemsV (.str z) = .ok (z.cps.toList.map sgnV) := rfl
theorem notin_s {c : Nat} : notinV' (sgnV c) (.str "0123456789") = .ok (.bl (!digB c)) := rfl
theorem int_s {z : PySem.Str} {i : Int} (h : PySem.intText? z = some i) (hl : z.length ≤ 640) : intV (.str z) = .ok (.int i) := by
  show (match PySem.intText? z with | some n => Rs.when (z.length ≤ 640) (PV.int n) | none => .no) = _
  rw [h]; exact Rs.when_pos hl
end BO

namespace K14
open SG BO
open Classical in
/-- what a word writes -/
noncomputable def numOf (w : PySem.Str) : Option Int := if isNum w then PySem.intText? w else none
theorem numOf_some {w : PySem.Str} (h : isNum w) : ∃ i, numOf w = some i ∧ PySem.intText? w = some i ∧ w.length ≤ 8 := by
  obtain ⟨i, e, l⟩ := num_some h
  exact ⟨i, by unfold numOf; rw [if_pos h, e], e, l⟩
theorem numOf_none {w : PySem.Str} (h : ¬ isNum w) : numOf w = none := by unfold numOf; rw [if_neg h]
theorem figs_len {w : PySem.Str} (h : w.length ≤ 1000) : (figs w).length ≤ 1000 := by
  unfold figs; split
  · rw [len_w, cut_tl, List.length_drop, ← len_w]; omega
  · exact h
theorem figs_ok {w : PySem.Str} (h : Okw w) : Okw (figs w) := by
  unfold figs; split
  · rw [okw_iff, cut_tl]
    exact fun c hc => okw_iff.mp h c (List.mem_of_mem_drop hc)
  · exact h
theorem hd_ok {w : PySem.Str} (h : Okw w) : Okw (L2.cutS w none (some 1)) := by
  rw [okw_iff, cut_hd]
  exact fun c hc => okw_iff.mp h c (List.mem_of_mem_take hc)
/-- the signs that are no figures -/
def odds (z : PySem.Str) : List Nat := z.cps.toList.filter fun c => !digB c
theorem odds_nil {z : PySem.Str} : odds z = [] ↔ ∀ c ∈ z.cps.toList, digB c = true := by
  unfold odds
  rw [List.filter_eq_nil_iff]
  constructor
  · intro h c hc; have := h c hc; simpa using this
  · intro h c hc; simp [h c hc]
theorem odd_cm {G : Gt} {s0 s1 s2 s3 : Sl} {z : PySem.Str} (h : z.length ≤ 1000) : cmIf G [s0, s1, s2, s3] [1, 3] [3] true (.cmp .notin (.var 3) (.str "0123456789")) (.var 3) (z.cps.toList.map sgnV) = .ok (.lst true ((odds z).map sgnV)) := by
  have := cmIf_map (G := G) (ρ := [s0, s1, s2, s3]) (own := [1, 3]) (tg := [3]) (w := true) (cc := .cmp .notin (.var 3) (.str "0123456789")) (elt := .var 3) (xs := z.cps.toList.map sgnV) (fun x => match sgn1 x with | some c => !digB c | none => false) (fun x => x) (fun x hx => by
    obtain ⟨c, _, rfl⟩ := List.mem_map.mp hx
    have e : sgn1 (sgnV c) = some c := rfl
    simp [wipeS, setT, notin_s, e]) (fun x hx _ => by
    obtain ⟨c, _, rfl⟩ := List.mem_map.mp hx
    simp [wipeS, setT]) (sz _ (by rw [List.length_map, ← len_w]; exact h))
  rw [this]
  congr 2
  rw [List.map_id', List.filter_map]
  rfl
end K14
namespace K14
open SG BO
theorem ne_odds {z : PySem.Str} (h : Okw z) : neV' (.lst true ((odds z).map sgnV)) (.lst true []) = .ok (.bl (!decide (odds z = []))) := by
  have l1 : Lv 1 (.lst true ((odds z).map sgnV)) := Lv.lst fun x hx => by
    obtain ⟨c, hc, rfl⟩ := List.mem_map.mp hx
    refine lv_s (okw_iff.mpr fun d hd => ?_)
    have : d ∈ [c] := hd
    rw [List.mem_singleton.mp this]
    exact okw_iff.mp h c (List.mem_filter.mp hc).1
  have l2 : Lv 1 (.lst true []) := Lv.lst fun x hx => by cases hx
  unfold neV' eqP
  rw [Rs.when_pos ⟨l1.ok (by decide), l2.ok (by decide)⟩]
  cases ho : odds z with
  | nil => simp [PV.toD, PV.toDs, PySem.PyData.eqv, PySem.PyData.eqvAll]
  | cons c r => simp [PV.toD, PV.toDs, PySem.PyData.eqv, PySem.PyData.eqvAll]
theorem first_s {z : PySem.Str} {c : Nat} {r : List Nat} (h : z.cps.toList = c :: r) (hl : z.length ≤ 1000) : ixV (.str z) (.int 0) = .ok (sgnV c) := by
  show (match L2.atI z.cps.toList 0 with | some c => Rs.when (z.length ≤ PySem.sizeLine) (sgnV c) | none => .no) = _
  have e : L2.atI z.cps.toList 0 = some c := by
    rw [h]; unfold L2.atI; rw [ix_zero (by simp)]; rfl
  rw [e]
  exact Rs.when_pos (sz _ hl)
end K14
namespace K14
open SG BO
theorem ok_lit0 : Okw "0" := by decide +kernel
theorem ok_lite : Okw "" := by decide +kernel
theorem ok_litm : Okw "-" := by decide +kernel
theorem sgn_ok {c : Nat} (h : c < 1114112) : Okw ⟨#[c]⟩ := okw_iff.mpr fun d hd => by
  have : d ∈ [c] := hd
  rw [List.mem_singleton.mp this]; exact h
theorem sgn_zero {c : Nat} : ((⟨#[c]⟩ : PySem.Str) = "0") ↔ c = 48 := by
  constructor
  · intro h
    have : (⟨#[c]⟩ : PySem.Str).cps.toList = ("0" : PySem.Str).cps.toList := by rw [h]
    rw [show ("0" : PySem.Str).cps.toList = [48] by decide +kernel] at this
    simpa using this
  · rintro rfl; rfl
theorem nil_s {z : PySem.Str} : z = "" ↔ z.cps.toList = [] := by
  constructor
  · rintro rfl; decide +kernel
  · intro h
    obtain ⟨⟨l⟩⟩ := z
    have h : l = [] := h
    subst h; rfl
section
variable {nm : Nm} {l : Nat} {w : PySem.Str}
theorem law_number (hw : Okw w) (hl : w.length ≤ 1000) : callF B nm (l + 1) "_law_number" [.str w] = .ok (match numOf w with | some i => .int i | none => .non) := by
  rw [callF_eq (show B "_law_number" = some ⟨1, 4, b__law_number⟩ from rfl)]
  refine runF_ret rfl ?_
  have e0 : startR 4 (PV.olds [.str w]) = [.fz (.str w), .no, .no, .no] := by simp [olds_cons, olds_nil, PV.old, startR]
  rw [e0]
  have h1 := hi1_s hl
  have h2 := lo1_s hl
  have q1 := eqV_s (hd_ok hw) ok_litm
  have fl := figs_len hl
  have fo := figs_ok hw
  unfold b__law_number
  refine stage (ρ' := [.fz (.str w), .no, .fz (.str w), .no]) (by simp) ?_
  refine stage (ρ' := [.fz (.str w), .no, .fz (.str (figs w)), .no]) ?_ ?_
  · unfold figs
    by_cases q : L2.cutS w none (some 1) = "-"
    · rw [if_pos q]; rw [decide_eq_true q] at q1; simp [h1, h2, q1]
    · rw [if_neg q]; rw [decide_eq_false q] at q1; simp [h1, q1]
  have q2 := eqV_s fo ok_lite
  have cmo := fun (s3 : Sl) => odd_cm (G := callF B nm l) (s0 := .fz (.str w)) (s1 := .no) (s2 := .fz (.str (figs w))) (s3 := s3) fl
  have no := ne_odds fo
  have ln := len_s fl
  by_cases p1 : figs w = ""
  · have nn : ¬ isNum w := fun z => by
      have := z.1
      rw [len_w, nil_s.mp p1] at this; simp at this
    rw [numOf_none nn]
    rw [decide_eq_true p1] at q2
    simp [q2]
  rw [decide_eq_false p1] at q2
  by_cases p2 : 7 < (figs w).length
  · have nn : ¬ isNum w := fun z => by have := z.2.1; omega
    rw [numOf_none nn]
    have p2' : (7 : Int) < ((figs w).length : Int) := by omega
    simp [q2, ln, p2']
  have p2' : ¬ (7 : Int) < ((figs w).length : Int) := by omega
  by_cases p3 : odds (figs w) = []
  · have n0 : neV' (.lst true []) (.lst true []) = .ok (.bl false) := by have := no; rw [p3] at this; simpa using this
    obtain ⟨c, r, ec⟩ : ∃ c r, (figs w).cps.toList = c :: r := by
      cases h : (figs w).cps.toList with
      | nil => exact absurd (nil_s.mpr h) p1
      | cons c r => exact ⟨c, r, rfl⟩
    have cl : c < 1114112 := okw_iff.mp fo c (by rw [ec]; exact List.mem_cons_self)
    have fx := first_s ec fl
    have q3 := eqV_s (sgn_ok cl) ok_lit0
    have q4 := neV_s hw ok_lit0
    have sv : sgnV c = .str ⟨#[c]⟩ := rfl
    refine stage (ρ' := [.fz (.str w), .no, .fz (.str (figs w)), .no]) (by simp [q2, ln, p2', it_s, cmo, p3, n0, -List.map_map]) ?_
    by_cases p4 : c = 48 ∧ w ≠ "0"
    · have nn : ¬ isNum w := fun z => p4.2 (z.2.2.2 (by rw [ec]; rw [p4.1]; rfl))
      rw [numOf_none nn]
      rw [decide_eq_true (sgn_zero.mpr p4.1)] at q3
      rw [decide_eq_false p4.2] at q4
      simp [fx, sv, q3, q4]
    · have yn : isNum w := by
        refine ⟨?_, by omega, odds_nil.mp p3, fun z => ?_⟩
        · rw [len_w, ec]; simp
        · rw [ec] at z
          have : c = 48 := by simpa using z
          exact Classical.byContradiction fun y => p4 ⟨this, y⟩
      obtain ⟨i, ei, et, el⟩ := numOf_some yn
      rw [ei]
      have iv := int_s et (by omega)
      refine stage (ρ' := [.fz (.str w), .no, .fz (.str (figs w)), .no]) ?_ (stop (by simp [iv]))
      by_cases p5 : c = 48
      · rw [decide_eq_true (sgn_zero.mpr p5)] at q3
        have : w = "0" := Classical.byContradiction fun y => p4 ⟨p5, y⟩
        rw [decide_eq_true this] at q4
        simp [fx, sv, q3, q4]
      · rw [decide_eq_false fun z => p5 (sgn_zero.mp z)] at q3
        simp [fx, sv, q3]
  · have nn : ¬ isNum w := fun z => p3 (odds_nil.mpr z.2.2.1)
    rw [numOf_none nn]
    rw [decide_eq_false p3] at no
    simp at no
    simp [q2, ln, p2', it_s, cmo, no, -List.map_map]
end
end K14

namespace K14
open SG BO
theorem odd_cmG {G : Gt} {s0 s1 s2 s3 : Sl} {z : PySem.Str} (h : z.length ≤ 1000) : cmIf G [s0, s1, s2, s3] [1, 3] [3] true (.cmp .notin (.var 3) (.gstr "FIGURES" "0123456789")) (.var 3) (z.cps.toList.map sgnV) = .ok (.lst true ((odds z).map sgnV)) := by
  have := cmIf_map (G := G) (ρ := [s0, s1, s2, s3]) (own := [1, 3]) (tg := [3]) (w := true) (cc := .cmp .notin (.var 3) (.gstr "FIGURES" "0123456789")) (elt := .var 3) (xs := z.cps.toList.map sgnV) (fun x => match sgn1 x with | some c => !digB c | none => false) (fun x => x) (fun x hx => by
    obtain ⟨c, _, rfl⟩ := List.mem_map.mp hx
    have e : sgn1 (sgnV c) = some c := rfl
    simp [wipeS, setT, notin_s, e]) (fun x hx _ => by
    obtain ⟨c, _, rfl⟩ := List.mem_map.mp hx
    simp [wipeS, setT]) (sz _ (by rw [List.length_map, ← len_w]; exact h))
  rw [this]
  congr 2
  rw [List.map_id', List.filter_map]
  rfl
/-- a def's body that refuses -/
theorem runF_err' {G : Gt} {nm : Nm} {f : FI} {ps : List PV} {C : PySem.Str} (h : ps.length = f.np) (h2 : eSs G nm (startR f.nv (PV.olds ps)) f.body = .err C) : runF G nm f ps = .err C := by
  unfold runF
  rw [if_pos h, h2]
section
variable {nm : Nm} {l : Nat} {w : PySem.Str}
theorem key_in (hw : Okw w) (hl : w.length ≤ 1000) : eSs (callF B nm l) (nmAt nm l) (startR 4 (PV.olds [.str w])) BO.b_number_in = (match numOf w with | some i => .ret (.int i) | none => .err "BadText") := by
  have e0 : startR 4 (PV.olds [.str w]) = [.fz (.str w), .no, .no, .no] := by simp [olds_cons, olds_nil, PV.old, startR]
  rw [e0]
  have h1 := hi1_s hl
  have h2 := lo1_s hl
  have q1 := eqV_s (hd_ok hw) ok_litm
  have fl := figs_len hl
  have fo := figs_ok hw
  unfold BO.b_number_in
  refine stage (ρ' := [.fz (.str w), .no, .fz (.str w), .no]) (by simp) ?_
  refine stage (ρ' := [.fz (.str w), .no, .fz (.str (figs w)), .no]) ?_ ?_
  · unfold figs
    by_cases q : L2.cutS w none (some 1) = "-"
    · rw [if_pos q]; rw [decide_eq_true q] at q1; simp [h1, h2, q1]
    · rw [if_neg q]; rw [decide_eq_false q] at q1; simp [h1, q1]
  have q2 := eqV_s fo ok_lite
  have cmo := fun (s3 : Sl) => odd_cmG (G := callF B nm l) (s0 := .fz (.str w)) (s1 := .no) (s2 := .fz (.str (figs w))) (s3 := s3) fl
  have no := ne_odds fo
  have ln := len_s fl
  by_cases p1 : figs w = ""
  · have nn : ¬ isNum w := fun z => by
      have := z.1
      rw [len_w, nil_s.mp p1] at this; simp at this
    rw [numOf_none nn]
    have lz : (figs w).length = 0 := by rw [len_w, nil_s.mp p1]; rfl
    rw [lz] at ln
    simp [ln]
  have g1 : (1 : Int) ≤ ((figs w).length : Int) := by
    have : (figs w).length ≠ 0 := fun z => p1 (nil_s.mpr (List.eq_nil_of_length_eq_zero (by rw [← len_w]; exact z)))
    omega
  by_cases p2 : 7 < (figs w).length
  · have nn : ¬ isNum w := fun z => by have := z.2.1; omega
    rw [numOf_none nn]
    have p2' : (7 : Int) < ((figs w).length : Int) := by omega
    have p2'' : ¬ ((figs w).length : Int) ≤ 7 := by omega
    simp [ln, g1, p2'']
  have p2' : ((figs w).length : Int) ≤ 7 := by omega
  by_cases p3 : odds (figs w) = []
  · have n0 : neV' (.lst true []) (.lst true []) = .ok (.bl false) := by have := no; rw [p3] at this; simpa using this
    obtain ⟨c, r, ec⟩ : ∃ c r, (figs w).cps.toList = c :: r := by
      cases h : (figs w).cps.toList with
      | nil => exact absurd (nil_s.mpr h) p1
      | cons c r => exact ⟨c, r, rfl⟩
    have cl : c < 1114112 := okw_iff.mp fo c (by rw [ec]; exact List.mem_cons_self)
    have fx := first_s ec fl
    have q3 := eqV_s (sgn_ok cl) ok_lit0
    have q4 := neV_s hw ok_lit0
    have sv : sgnV c = .str ⟨#[c]⟩ := rfl
    refine stage (ρ' := [.fz (.str w), .no, .fz (.str (figs w)), .no]) (by simp [ln, g1, p2', it_s, cmo, p3, n0, -List.map_map]) ?_
    by_cases p4 : c = 48 ∧ w ≠ "0"
    · have nn : ¬ isNum w := fun z => p4.2 (z.2.2.2 (by rw [ec]; rw [p4.1]; rfl))
      rw [numOf_none nn]
      rw [decide_eq_true (sgn_zero.mpr p4.1)] at q3
      rw [decide_eq_false p4.2] at q4
      simp [fx, sv, q3, q4]
    · have yn : isNum w := by
        refine ⟨?_, by omega, odds_nil.mp p3, fun z => ?_⟩
        · rw [len_w, ec]; simp
        · rw [ec] at z
          have : c = 48 := by simpa using z
          exact Classical.byContradiction fun y => p4 ⟨this, y⟩
      obtain ⟨i, ei, et, el⟩ := numOf_some yn
      rw [ei]
      have iv := int_s et (by omega)
      refine stage (ρ' := [.fz (.str w), .no, .fz (.str (figs w)), .no]) ?_ (stop (by simp [iv]))
      by_cases p5 : c = 48
      · rw [decide_eq_true (sgn_zero.mpr p5)] at q3
        have : w = "0" := Classical.byContradiction fun y => p4 ⟨p5, y⟩
        rw [decide_eq_true this] at q4
        simp [fx, sv, q3, q4]
      · rw [decide_eq_false fun z => p5 (sgn_zero.mp z)] at q3
        simp [fx, sv, q3]
  · have nn : ¬ isNum w := fun z => p3 (odds_nil.mpr z.2.2.1)
    rw [numOf_none nn]
    rw [decide_eq_false p3] at no
    simp at no
    simp [ln, g1, p2', it_s, cmo, no, -List.map_map]
theorem number_in (hw : Okw w) (hl : w.length ≤ 1000) : callF B nm (l + 1) "number_in" [.str w] = match numOf w with | some i => .ok (.int i) | none => .err "BadText" := by
  rw [callF_eq (show B "number_in" = some BO.fi_number_in from rfl)]
  have key : eSs (callF B nm l) (nmAt nm l) (startR 4 (PV.olds [.str w])) BO.b_number_in = (match numOf w with | some i => .ret (.int i) | none => .err "BadText") := by
    refine key_in hw hl
  cases hn : numOf w with
  | some i => rw [hn] at key; exact runF_ret rfl key
  | none => rw [hn] at key; exact runF_err' rfl key
end
end K14

namespace BO
open SG
/-! ### the signs of parts -/
theorem spl_mem (S : List Nat) : ∀ (L : List Nat) (k : Nat) (acc : List Nat), ∀ p ∈ TL.spl S k acc L, ∀ c ∈ p, c ∈ acc ∨ c ∈ L
  | [], k, acc => by
    rw [TL.spl_nil]
    intro p hp c hc
    rw [List.mem_singleton.mp hp] at hc
    exact .inl hc
  | c0 :: r, 0, acc => by
    intro p hp c hc
    by_cases h : TL.pre S (c0 :: r) = true
    · rw [TL.spl_hit h] at hp
      rcases List.mem_cons.mp hp with e | e
      · rw [e] at hc; exact .inl hc
      · rcases spl_mem S r _ _ p e c hc with z | z
        · cases z
        · exact .inr (List.mem_cons_of_mem _ z)
    · have e : TL.spl S 0 acc (c0 :: r) = TL.spl S 0 (acc ++ [c0]) r := by
        rw [TL.spl]; rw [if_neg h]
      rw [e] at hp
      rcases spl_mem S r _ _ p hp c hc with z | z
      · rcases List.mem_append.mp z with z | z
        · exact .inl z
        · rw [List.mem_singleton.mp z]; exact .inr List.mem_cons_self
      · exact .inr (List.mem_cons_of_mem _ z)
  | c0 :: r, k + 1, acc => by
    intro p hp c hc
    have e : TL.spl S (k + 1) acc (c0 :: r) = TL.spl S k acc r := by rw [TL.spl]
    rw [e] at hp
    rcases spl_mem S r _ _ p hp c hc with z | z
    · exact .inl z
    · exact .inr (List.mem_cons_of_mem _ z)
theorem split_ok {x y : PySem.Str} (hy : TL.tl y ≠ []) (hx : Okw x) : ∀ p ∈ PySem.Txt.split x y, Okw p := by
  intro p hp
  by_cases h : PySem.Builtin.Str.strKind x < PySem.Builtin.Str.strKind y
  · have e : PySem.Txt.split x y = [x] := by
      unfold PySem.Txt.split
      rw [if_pos (by simp [h])]
    rw [e] at hp
    rw [List.mem_singleton.mp hp]; exact hx
  · have e := TL.split_spl x y hy h
    have hm : TL.tl p ∈ TL.spl (TL.tl y) 0 [] (TL.tl x) := by rw [← e]; exact List.mem_map_of_mem hp
    refine okw_iff.mpr fun c hc => ?_
    rcases spl_mem _ _ _ _ _ hm c hc with z | z
    · cases z
    · exact okw_iff.mp hx c z
/-- there is always a part -/
theorem spl_ne (S : List Nat) : ∀ (L : List Nat) (k : Nat) (acc : List Nat), TL.spl S k acc L ≠ []
  | [], k, acc => by rw [TL.spl_nil]; exact fun h => by cases h
  | c0 :: r, 0, acc => by
    by_cases h : TL.pre S (c0 :: r) = true
    · rw [TL.spl_hit h]; exact fun h => by cases h
    · have e : TL.spl S 0 acc (c0 :: r) = TL.spl S 0 (acc ++ [c0]) r := by
        rw [TL.spl]; rw [if_neg h]
      rw [e]; exact spl_ne S r _ _
  | c0 :: r, k + 1, acc => by
    have e : TL.spl S (k + 1) acc (c0 :: r) = TL.spl S k acc r := by rw [TL.spl]
    rw [e]; exact spl_ne S r _ _
theorem split_ne {x y : PySem.Str} (hy : TL.tl y ≠ []) : PySem.Txt.split x y ≠ [] := by
  by_cases h : PySem.Builtin.Str.strKind x < PySem.Builtin.Str.strKind y
  · have e : PySem.Txt.split x y = [x] := by
      unfold PySem.Txt.split
      rw [if_pos (by simp [h])]
    rw [e]; exact fun h => by cases h
  · have e := TL.split_spl x y hy h
    intro z
    rw [z] at e
    exact spl_ne _ _ _ _ e.symm
end BO

namespace K14
open SG BO
theorem kn : Kn B := ⟨rfl, rfl, rfl, rfl, rfl, rfl, rfl, rfl, rfl, rfl, rfl, rfl, rfl, rfl⟩
theorem sep1 : TL.tl (" " : PySem.Str) ≠ [] := by decide +kernel
theorem sep2 : TL.tl ("; " : PySem.Str) ≠ [] := by decide +kernel
def wordsOf (p : PySem.Str) : List PySem.Str := PySem.Txt.split p " "
def partsOf (z : PySem.Str) : List PySem.Str := PySem.Txt.split z "; "
/-- a text that the walks take -/
structure Good (z : PySem.Str) : Prop where
  ok : Okw z
  len : z.length ≤ 900
theorem Good.part {z p : PySem.Str} (h : Good z) (hp : p ∈ partsOf z) : Good p := ⟨split_ok sep2 h.ok p hp, by have := (split_bd (x := z) sep2).2 p hp; have := h.len; omega⟩
theorem Good.word {z p : PySem.Str} (h : Good z) (hp : p ∈ wordsOf z) : Good p := ⟨split_ok sep1 h.ok p hp, by have := (split_bd (x := z) sep1).2 p hp; have := h.len; omega⟩
theorem split1 {z : PySem.Str} (h : Good z) : splitV (.str z) (.str " ") = .ok (.lst true ((wordsOf z).map PV.str)) := Rs.when_pos ⟨by decide +kernel, sz _ (by have := h.len; omega)⟩
theorem split2 {z : PySem.Str} (h : Good z) : splitV (.str z) (.str "; ") = .ok (.lst true ((partsOf z).map PV.str)) := Rs.when_pos ⟨by decide +kernel, sz _ (by have := h.len; omega)⟩
def invStr : PV → PySem.Str
  | .str z => z
  | _ => ""
section
variable {nm : Nm} {l : Nat} {z p : PySem.Str}
/-- a part's words as whole numbers, if they are -/
noncomputable def rowOf (p : PySem.Str) : Option (List Int) := if (wordsOf p).all (fun w => (numOf w).isSome) = true then some ((wordsOf p).map fun w => (numOf w).getD 0) else none
theorem cm_words (h : Good p) (s0 s2 s3 s4 : Sl) : cm (callF B nm (l + 1)) [s0, .no, .fz (.str p), s3, s4] [1, 4] [4] true (.call "number_in" (.cons (.var 4) .nil)) ((wordsOf p).map PV.str) = match rowOf p with | some r => .ok (lstI true r) | none => .err "BadText" := by
  rw [cm_try (l := wordsOf p) (C := "BadText") PV.str (fun w => (numOf w).map PV.int) invStr (fun _ => rfl) (fun w hw => ?_) (by have := (split_bd (x := p) sep1).1; have := h.len; unfold wordsOf; omega)]
  · have e : (wordsOf p).all (fun a => ((numOf a).map PV.int).isSome) = (wordsOf p).all (fun w => (numOf w).isSome) := by congr 1; funext a; simp
    rw [e]
    unfold rowOf
    by_cases q : (wordsOf p).all (fun w => (numOf w).isSome) = true
    · rw [if_pos q, if_pos q]
      show _ = Rs.ok (PV.lst true (((wordsOf p).map fun w => (numOf w).getD 0).map PV.int))
      rw [List.map_map]
      congr 2
      refine List.map_congr_left fun w hw => ?_
      have := List.all_eq_true.mp q w hw
      cases hn : numOf w with
      | none => rw [hn] at this; cases this
      | some i => simp [hn]
    · rw [if_neg q, if_neg q]
  · have g := h.word hw
    have n := number_in (nm := nm) (l := l) g.ok (by have := g.len; omega)
    cases hn : numOf w with
    | none => rw [hn] at n; simp [wipeS, setT, n]
    | some i => rw [hn] at n; simp [wipeS, setT, n]
end
end K14

namespace K14
open SG BO
theorem sq_of_ok {y : Bool} {R : List (List Int)} (h : okRows (rowsV y R) = true) : 1 ≤ R.length ∧ R.length ≤ 3 ∧ Sq R.length 1000000 R := by
  unfold okRows rowsV at h
  simp only [Bool.and_eq_true, decide_eq_true_eq, List.length_map, List.all_eq_true] at h
  obtain ⟨⟨h1, h2⟩, h3⟩ := h
  refine ⟨h1, h2, rfl, fun r hr => ?_⟩
  have := h3 _ (List.mem_map_of_mem hr)
  unfold okRow tupI at this
  simp only [Bool.and_eq_true, decide_eq_true_eq, List.length_map, List.all_eq_true] at this
  obtain ⟨l, a⟩ := this
  refine ⟨by omega, fun x hx => ?_⟩
  have := a _ (List.mem_map_of_mem hx)
  unfold amongB at this
  simp at this
  omega
section
variable {nm : Nm} {l : Nat} {z p : PySem.Str}
/-- a text's rows, if its words are numbers -/
noncomputable def gridOf (z : PySem.Str) : Option (List (List Int)) := if (partsOf z).all (fun p => (rowOf p).isSome) = true then some ((partsOf z).map fun p => (rowOf p).getD []) else none
theorem cm_parts (h : Good z) : cm (callF B nm (l + 1)) [.fz (.str z), .no, .no, .no, .no] [1, 2] [2] true (.bi .tuple (.cons (.comp [1, 4] [4] true (.val (.splitE (.var 2) (.str " "))) (.call "number_in" (.cons (.var 4) .nil))) .nil)) ((partsOf z).map PV.str) = match gridOf z with | some R => .ok (rowsV true R) | none => .err "BadText" := by
  rw [cm_try (l := partsOf z) (C := "BadText") PV.str (fun p => (rowOf p).map tupI) invStr (fun _ => rfl) (fun p hp => ?_) (by have := (split_bd (x := z) sep2).1; have := h.len; unfold partsOf; omega)]
  · have e : (partsOf z).all (fun a => ((rowOf a).map tupI).isSome) = (partsOf z).all (fun p => (rowOf p).isSome) := by congr 1; funext a; simp
    rw [e]
    unfold gridOf
    by_cases q : (partsOf z).all (fun p => (rowOf p).isSome) = true
    · rw [if_pos q, if_pos q]
      show _ = Rs.ok (PV.lst true (((partsOf z).map fun p => (rowOf p).getD []).map tupI))
      rw [List.map_map]
      congr 2
      refine List.map_congr_left fun w hw => ?_
      have := List.all_eq_true.mp q w hw
      cases hn : rowOf w with
      | none => rw [hn] at this; cases this
      | some i => simp [hn]
    · rw [if_neg q, if_neg q]
  · have g := h.part hp
    have sp := split1 g
    have c := cm_words (nm := nm) (l := l) g (.fz (.str z)) (.fz (.str p)) .no .no
    have it : itemsV (.lst true ((wordsOf p).map PV.str)) = .ok ((wordsOf p).map PV.str) := rfl
    cases hn : rowOf p with
    | none => rw [hn] at c; simp [wipeS, setT, sp, it, c]
    | some r => rw [hn] at c; simp [wipeS, setT, sp, it, c]; rfl
end
end K14

namespace K14
open SG BO
section
variable {nm : Nm} {l : Nat} {z p : PySem.Str}
theorem grid_len (h : Good z) {R : List (List Int)} (hR : gridOf z = some R) : ∀ r ∈ R, r.length ≤ 1000 := by
  unfold gridOf at hR
  split at hR
  · rename_i q
    injection hR with hR
    subst hR
    intro r hr
    obtain ⟨p, hp, rfl⟩ := List.mem_map.mp hr
    have g := h.part hp
    have := List.all_eq_true.mp q p hp
    cases hn : rowOf p with
    | none => rw [hn] at this; cases this
    | some r =>
      unfold rowOf at hn
      split at hn
      · injection hn with hn
        show r.length ≤ 1000
        rw [← hn, List.length_map]
        have := (split_bd (x := p) sep1).1; have := g.len; unfold wordsOf; omega
      · cases hn
  · cases hR
theorem read_s (h : Good z) : callF B nm (l + 6) "read" [.str z] = match gridOf z with | some R => if okRows (rowsV true R) = true ∧ blk R ≠ 0 then .ok (rowsV true R) else .err "BadText" | none => .err "BadText" := by
  rw [callF_eq (show B "read" = some BO.fi_read from rfl)]
  have e0 : startR 5 (PV.olds [.str z]) = [.fz (.str z), .no, .no, .no, .no] := by simp [olds_cons, olds_nil, PV.old, startR]
  have c := cm_parts (nm := nm) (l := l + 4) h
  have sp := split2 h
  have it : itemsV (.lst true ((partsOf z).map PV.str)) = .ok ((partsOf z).map PV.str) := rfl
  have ii : isiV "str" (.str z) = .ok (.bl true) := isi_ss
  cases hg : gridOf z with
  | none =>
    rw [hg] at c
    refine runF_err' rfl ?_
    show eSs _ _ (startR 5 (PV.olds [.str z])) BO.b_read = _
    rw [e0]
    unfold BO.b_read
    simp [ii, sp, it, c]
  | some R =>
    rw [hg] at c
    have gr := good_rows (y := true) (grid_len h hg)
    have pre : ∀ o, eSs (callF B nm (l + 5)) (nmAt nm (l + 5)) [.fz (.str z), .no, .no, .fz (rowsV true R), .no] (.cons (.tryX [] "need_rows" (.cons (.var 3) .nil) "BadRows" "BadText") (.cons (.ret [] (.var 3)) .nil)) = o → eSs (callF B nm (l + 5)) (nmAt nm (l + 5)) (startR 5 (PV.olds [.str z])) BO.b_read = o := fun o ho => by
      rw [e0]
      unfold BO.b_read
      refine stage (ρ' := [.fz (.str z), .no, .no, .no, .no]) (by simp [ii]) ?_
      refine stage (ρ' := [.fz (.str z), .no, .no, .fz (rowsV true R), .no]) (by simp [sp, it, c]) ho
    by_cases q : okRows (rowsV true R) = true
    · obtain ⟨n1, n3, sq⟩ := sq_of_ok q
      have n := need_rows_sq kn (nm := nm) (B := B) rfl (l := l) (y := true) sq n1 n3 (by decide)
      by_cases b : blk R = 0
      · rw [if_pos b] at n
        dsimp only
        rw [if_neg (fun x => x.2 b)]
        exact runF_err' rfl (pre _ (by simp [n, trX_err]))
      · rw [if_neg b] at n
        dsimp only
        rw [if_pos ⟨q, b⟩]
        exact runF_ret rfl (pre _ (by simp [n]))
    · have n := need_rows kn (nm := nm) (B := B) rfl (l := l) gr (by simpa using q)
      dsimp only
      rw [if_neg (fun x => q x.1)]
      exact runF_err' rfl (pre _ (by simp [n, trX_err]))
end
end K14

namespace K14
open SG BO
section
variable {l : Nat} {z : PySem.Str}
theorem law_read (h : Good z) : callF B NM (l + 7) "_law_read" [.str z] = .ok (match gridOf z with | some R => if okRows (rowsV true R) = true ∧ blk R ≠ 0 then rowsV true R else .tup [.str "text"] | none => .tup [.str "text"]) := by
  rw [callF_eq (show B "_law_read" = some ⟨1, 2, b__law_read⟩ from rfl)]
  have nt : nmAt NM (l + 6) "BadText" = .ok (.tup [.str "text"]) := rfl
  have r := read_s (nm := NM) (l := l) h
  cases hg : gridOf z with
  | none =>
    rw [hg] at r
    unfold runF b__law_read
    simp [olds_cons, olds_nil, startR, PV.old, r, catchN, nt]
  | some R =>
    rw [hg] at r
    dsimp only at r ⊢
    by_cases q : okRows (rowsV true R) = true ∧ blk R ≠ 0
    · rw [if_pos q] at r ⊢
      unfold runF b__law_read
      simp [olds_cons, olds_nil, startR, PV.old, r, catchN, nt]
    · rw [if_neg q] at r ⊢
      unfold runF b__law_read
      simp [olds_cons, olds_nil, startR, PV.old, r, catchN, nt]
end
end K14

namespace BO
open SG
/-! ### the law's bulk of rows that are lists -/
def rowsL (y b : Bool) (R : List (List Int)) : PV := .lst y (R.map (lstI b))
theorem old_rowsL {y b : Bool} {R : List (List Int)} : (rowsL y b R).old = rowsL false false R := by
  unfold rowsL
  simp only [PV.old]
  rw [olds_map, List.map_map]
  congr 1
  exact List.map_congr_left fun r _ => old_lstI
theorem lv_rowsL {y b : Bool} {R : List (List Int)} : Lv 2 (rowsL y b R) := Lv.lst fun x hx => by
  obtain ⟨r, _, rfl⟩ := List.mem_map.mp hx; exact lv_lstI
def invLst : PV → List Int
  | .lst _ xs => xs.map invInt
  | _ => []
theorem invLst_lstI {b : Bool} {r : List Int} : invLst (lstI b r) = r := by
  unfold lstI invLst; dsimp only
  rw [List.map_map]
  exact (List.map_congr_left fun _ _ => rfl).trans (List.map_id _)
section
variable {B : PySem.Str → Option FI} {nm : Nm} (kn : Kn B)
include kn
theorem withoutL {l : Nat} {b : Bool} {r : List Int} {k : Nat} (h : r.length ≤ 400) : callF B nm (l + 1) "_law_without" [lstI b r, .int (k : Int)] = .ok (lstI true (wo k r)) := by
  rw [callF_eq kn.without]
  refine runF_ret rfl ?_
  have e0 : startR 2 (PV.olds [lstI b r, .int (k : Int)]) = [.fz (lstI false r), .fz (.int (k : Int))] := by simp [olds_cons, olds_nil, old_lstI, startR, PV.old]
  rw [e0]
  have h1 : slHiV (lstI false r) (.int (k : Int)) = .ok (lstI true (r.take k)) := by unfold slHiV slV lstI; dsimp only; rw [cut_hi, List.map_take]
  have h2 : slLoV (lstI false r) (.int ((k : Int) + 1)) = .ok (lstI true (r.drop (k + 1))) := by
    unfold slLoV slV lstI; dsimp only
    have : (k : Int) + 1 = ((k + 1 : Nat) : Int) := by omega
    rw [this, cut_lo, List.map_drop]
  have h3 : addV (lstI true (r.take k)) (lstI true (r.drop (k + 1))) = .ok (lstI true (wo k r)) := by
    unfold lstI wo
    rw [addV_lst (by simp; omega), List.map_append]
  unfold b__law_without
  simp [h1, h2, h3]
theorem lbL_zero {l : Nat} {y b' : Bool} : callF B nm (l + 1) "_law_bulk" [rowsL y b' []] = .ok (.int 1) := by
  rw [callF_eq kn.lbulk]
  refine runF_ret rfl ?_
  have e0 : startR 6 (PV.olds [rowsL y b' []]) = [.fz (rowsL false false []), .no, .no, .no, .no, .no] := by simp [olds_cons, olds_nil, old_rowsL, startR]
  rw [e0]
  have h : eqV' (rowsL false false []) (.lst true []) = .ok (.bl true) := eqV_nil (n := 2) (lv_rowsL (R := [])) (by decide)
  unfold b__law_bulk
  simp [h]
theorem lbL_some {l : Nat} {y b' : Bool} {r0 : List Int} {R : List (List Int)} {v : Int} (hn : (r0 :: R).length ≤ 10)
    (h : ∃ s3 s4 : Sl, fl (callF B nm l) (nmAt nm l) [3] true lbIn (rngL 0 (r0 :: R).length) [.fz (rowsL false false (r0 :: R)), .no, .fz (.int 0), .no, .no, .no] = .nx [.fz (rowsL false false (r0 :: R)), .no, .fz (.int v), s3, s4, .no]) : callF B nm (l + 1) "_law_bulk" [rowsL y b' (r0 :: R)] = .ok (.int v) := by
  obtain ⟨s3, s4, h⟩ := h
  rw [callF_eq kn.lbulk]
  refine runF_ret rfl ?_
  have e0 : startR 6 (PV.olds [rowsL y b' (r0 :: R)]) = [.fz (rowsL false false (r0 :: R)), .no, .no, .no, .no, .no] := by simp [olds_cons, olds_nil, old_rowsL, startR]
  rw [e0]
  have q : eqV' (rowsL false false (r0 :: R)) (.lst true []) = .ok (.bl false) := eqV_nil (n := 2) (lv_rowsL (R := r0 :: R)) (by decide)
  have hl : lenV (rowsL false false (r0 :: R)) = .ok (.int ((r0 :: R).length : Int)) := by unfold rowsL; rw [lenV_lst, List.length_map]
  have i6 : i62 ((r0 :: R).length : Int) := by unfold i62; omega
  have hb : b__law_bulk = .cons (.iff [] (.cmp .eq (.var 0) (.lst .nil)) (.cons (.ret [] (.int 1)) .nil) .nil) (.cons (.asg [] 2 (.int 0)) (.cons (.for [] [3] true (.rng1 (.bi .len (.cons (.var 0) .nil))) lbIn) (.cons (.ret [] (.var 2)) .nil))) := rfl
  rw [hb]
  have r1 : rng1V (.int ((r0 :: R).length : Int)) = .ok (rngL 0 (r0 :: R).length) := by rw [rng1V_int i6, Int.toNat_natCast]
  generalize (r0 :: R).length = n at *
  simp [q, hl, r1, h]
theorem lbL_inW {l : Nat} {nm' : Nm} {r0 : List Int} {R : List (List Int)} {k : Nat} {x v found : Int} {s4 : Sl} (hk : r0[k]? = some x) (hx : MulOk x v) (hR : R.length ≤ 1000) (hr : ∀ r ∈ R, r.length ≤ 400)
    (sub : callF B nm (l + 1) "_law_bulk" [rowsL true true (R.map (wo k))] = .ok (.int v)) :
    eSs (callF B nm (l + 1)) nm' [.fz (rowsL false false (r0 :: R)), .no, .fz (.int found), .fz (.int (k : Int)), s4, .no] lbIn = .nx [.fz (rowsL false false (r0 :: R)), .no, .fz (.int (found + if k % 2 = 0 then x * v else -(x * v))), .fz (.int (k : Int)), .fz (.int (x * v)), .no] := by
  have x1 : ixV (rowsL false false (r0 :: R)) (.int 0) = .ok (lstI false r0) := ixV_lst (n := 0) rfl
  have x2 : ixV (lstI false r0) (.int (k : Int)) = .ok (.int x) := by unfold lstI; exact ixV_lst (by rw [List.getElem?_map, hk]; rfl)
  have x3 : slLoV (rowsL false false (r0 :: R)) (.int 1) = .ok (rowsL true false R) := by
    unfold slLoV slV rowsL; dsimp only
    rw [show (1 : Int) = ((1 : Nat) : Int) from rfl, cut_lo]; rfl
  have hc : cm (callF B nm (l + 1)) [.fz (rowsL false false (r0 :: R)), .no, .fz (.int found), .fz (.int (k : Int)), s4, .no] [1, 5] [5] true (.call "_law_without" (.cons (.var 5) (.cons (.var 3) .nil))) (R.map (lstI false)) = .ok (rowsL true true (R.map (wo k))) := by
    rw [cm_of (l := R) (lstI false) (fun r => lstI true (wo k r)) invLst (fun _ => invLst_lstI) (fun r hr' => ?_) hR]
    · unfold rowsL; rw [List.map_map]; rfl
    · have w := withoutL kn (nm := nm) (l := l) (b := false) (r := r) (k := k) (hr r hr')
      simp [wipeS, setT, w]
  have m3 : ((k : Int)).fmod 2 = ((k % 2 : Nat) : Int) := by rw [fmod_pos (by decide)]; omega
  have x4 : ixV (.lst true [.int (x * v), .int (-(x * v))]) (.int ((k : Int).fmod 2)) = .ok (.int (if k % 2 = 0 then x * v else -(x * v))) := by
    rw [m3]
    by_cases q : k % 2 = 0
    · rw [q, if_pos rfl]; exact ixV_lst (n := 0) rfl
    · rw [if_neg q, show k % 2 = 1 by omega]; exact ixV_lst (n := 1) rfl
  have it : itemsV (rowsL true false R) = .ok (R.map (lstI false)) := rfl
  unfold lbIn
  simp [x1, x2, x3, it, hc, sub, mulV_int hx, modV_int, x4, sz]
theorem lbL_oneW {l : Nat} {y b' : Bool} {a : Int} : callF B nm (l + 2) "_law_bulk" [rowsL y b' [[a]]] = .ok (.int (0 + a * 1)) := by
  refine lbL_some kn (by simp) ?_
  have z := lbL_zero kn (nm := nm) (l := l) (y := true) (b' := true)
  have s := fun (f : Int) (s4 : Sl) => lbL_inW kn (nm := nm) (l := l) (nm' := nmAt nm (l + 1)) (r0 := [a]) (R := []) (k := 0) (x := a) (v := 1) (found := f) (s4 := s4) rfl (.inr (.inl (by decide))) (by simp) (by simp) z
  exact ⟨_, _, fl_end rfl (s 0 .no) rfl⟩
theorem lbL_twoW {l : Nat} {y b' : Bool} {a b c d : Int} (ha : Wd a) (hb : Wd b) (hc : Wd c) (hd : Wd d) : callF B nm (l + 3) "_law_bulk" [rowsL y b' [[a, b], [c, d]]] = .ok (.int (0 + a * (0 + d * 1) + -(b * (0 + c * 1)))) := by
  refine lbL_some kn (by simp) ?_
  have z0 := lbL_oneW kn (nm := nm) (l := l) (y := true) (b' := true) (a := d)
  have z1 := lbL_oneW kn (nm := nm) (l := l) (y := true) (b' := true) (a := c)
  have m0 : MulOk a (0 + d * 1) := by rw [Int.zero_add, Int.mul_one]; exact mulW ha hd
  have m1 : MulOk b (0 + c * 1) := by rw [Int.zero_add, Int.mul_one]; exact mulW hb hc
  have s0 := fun (f : Int) (s4 : Sl) => lbL_inW kn (nm := nm) (l := l + 1) (nm' := nmAt nm (l + 2)) (r0 := [a, b]) (R := [[c, d]]) (k := 0) (x := a) (found := f) (s4 := s4) rfl m0 (by simp) (by simp) z0
  have s1 := fun (f : Int) (s4 : Sl) => lbL_inW kn (nm := nm) (l := l + 1) (nm' := nmAt nm (l + 2)) (r0 := [a, b]) (R := [[c, d]]) (k := 1) (x := b) (found := f) (s4 := s4) rfl m1 (by simp) (by simp) z1
  exact ⟨_, _, fl_end rfl (s0 0 .no) (fl_end rfl (s1 _ _) rfl)⟩
omit kn in
theorem two_eqL (e f h i : Int) : 0 + e * (0 + i * 1) + -(f * (0 + h * 1)) = e * i - f * h := by grind
theorem lbL_threeW {l : Nat} {y b' : Bool} {a b c d e f g h i : Int} (ha : Wd a) (hb : Wd b) (hc : Wd c) (hd : Wd d) (he : Wd e) (hf : Wd f) (hg : Wd g) (hh : Wd h) (hi : Wd i) : callF B nm (l + 4) "_law_bulk" [rowsL y b' [[a, b, c], [d, e, f], [g, h, i]]]
    = .ok (.int (0 + a * (e * i - f * h) + -(b * (d * i - f * g)) + c * (d * h - e * g))) := by
  refine lbL_some kn (by simp) ?_
  have z0 := lbL_twoW kn (nm := nm) (l := l) (y := true) (b' := true) he hf hh hi
  have z1 := lbL_twoW kn (nm := nm) (l := l) (y := true) (b' := true) hd hf hg hi
  have z2 := lbL_twoW kn (nm := nm) (l := l) (y := true) (b' := true) hd he hg hh
  rw [two_eqL] at z0 z1 z2
  have s0 := fun (q : Int) (s4 : Sl) => lbL_inW kn (nm := nm) (l := l + 2) (nm' := nmAt nm (l + 3)) (r0 := [a, b, c]) (R := [[d, e, f], [g, h, i]]) (k := 0) (x := a) (found := q) (s4 := s4) rfl (mulW2 ha (cofW he hi hf hh)) (by simp) (by simp) z0
  have s1 := fun (q : Int) (s4 : Sl) => lbL_inW kn (nm := nm) (l := l + 2) (nm' := nmAt nm (l + 3)) (r0 := [a, b, c]) (R := [[d, e, f], [g, h, i]]) (k := 1) (x := b) (found := q) (s4 := s4) rfl (mulW2 hb (cofW hd hi hf hg)) (by simp) (by simp) z1
  have s2 := fun (q : Int) (s4 : Sl) => lbL_inW kn (nm := nm) (l := l + 2) (nm' := nmAt nm (l + 3)) (r0 := [a, b, c]) (R := [[d, e, f], [g, h, i]]) (k := 2) (x := c) (found := q) (s4 := s4) rfl (mulW2 hc (cofW hd hh he hg)) (by simp) (by simp) z2
  exact ⟨_, _, fl_end rfl (s0 0 .no) (fl_end rfl (s1 _ _) (fl_end rfl (s2 _ _) rfl))⟩
theorem law_bulkL {l : Nat} {y b' : Bool} {R : List (List Int)} (h : ShW R) : callF B nm (l + 4) "_law_bulk" [rowsL y b' R] = .ok (.int (blk R)) := by
  cases h with
  | one h => rw [lbL_oneW kn (l := l + 2)]; simp only [blk]; congr 2; omega
  | two ha hb hc hd => rw [lbL_twoW kn (l := l + 1) ha hb hc hd]; simp only [blk]; congr 2; grind
  | three ha hb hc hd he hf hg hh hi => rw [lbL_threeW kn (l := l) ha hb hc hd he hf hg hh hi]; simp only [blk]; congr 2; grind
end
end BO

namespace K14
open SG BO
noncomputable def numV (w : PySem.Str) : PV := match numOf w with | some i => .int i | none => .non
noncomputable def rowV (p : PySem.Str) : PV := .lst true ((wordsOf p).map numV)
theorem rowV_some {p : PySem.Str} {r : List Int} (h : rowOf p = some r) : rowV p = lstI true r := by
  unfold rowOf at h
  split at h
  · rename_i q
    injection h with h
    subst h
    unfold rowV lstI
    rw [List.map_map]
    congr 1
    refine List.map_congr_left fun w hw => ?_
    have := List.all_eq_true.mp q w hw
    unfold numV
    cases hn : numOf w with
    | none => rw [hn] at this; cases this
    | some i => simp [hn]
  · cases h
theorem lv_num {w : PySem.Str} {n : Nat} : Lv n (numV w) := by
  unfold numV; split
  · exact Lv.int
  · exact lv_non
theorem in_non {p : PySem.Str} : inV' .non (rowV p) = .ok (.bl (rowOf p).isNone) := by
  have l : Lv 1 (rowV p) := Lv.lst fun x hx => by obtain ⟨w, _, rfl⟩ := List.mem_map.mp hx; exact lv_num
  have e : ((wordsOf p).map numV).any (fun z => eqP z .non) = (rowOf p).isNone := by
    rw [List.any_map]
    unfold rowOf
    by_cases q : (wordsOf p).all (fun w => (numOf w).isSome) = true
    · rw [if_pos q]
      rw [Option.isNone_some, List.any_eq_false]
      intro w hw
      have := List.all_eq_true.mp q w hw
      cases hn : numOf w with
      | none => rw [hn] at this; cases this
      | some i => simp [Function.comp, numV, hn, eqP, PV.toD, PySem.PyData.eqv]
    · rw [if_neg q]
      rw [Option.isNone_none, List.any_eq_true]
      have q' : ¬ ∀ w ∈ wordsOf p, (numOf w).isSome = true := fun z => q (List.all_eq_true.mpr z)
      obtain ⟨w, hw⟩ := Classical.not_forall.mp q'
      obtain ⟨hw, hn⟩ := Classical.not_imp.mp hw
      refine ⟨w, hw, ?_⟩
      cases hn' : numOf w with
      | none => simp [Function.comp, numV, hn', eqP, PV.toD, PySem.PyData.eqv]
      | some i => rw [hn'] at hn; exact absurd rfl hn
  unfold rowV at l ⊢
  unfold inV'; dsimp only
  rw [Rs.when_pos ⟨lv_non.ok (n := 0) (by decide), l.ok (by decide)⟩, e]
end K14

namespace K14
open SG BO
/-- a part that makes a row of so many -/
def Fine (n : Nat) (p : PySem.Str) : Prop := ∃ r, rowOf p = some r ∧ r.length = n ∧ n ≤ 3 ∧ ∀ x ∈ r, -1000000 ≤ x ∧ x ≤ 1000000
def duIn : Ss := (.cons (.iff [] (.or (.cmp .ne (.bi .len (.cons (.var 4) .nil)) (.bi .len (.cons (.var 5) .nil))) (.or (.cmp .gt (.bi .len (.cons (.var 5) .nil)) (.int 3)) (.or (.cmp .isin .non (.var 4)) (.cmp .gt (.bi .max (.cons (.comp [1, 2] [2] true (.val (.var 4)) (.bi .abs (.cons (.var 2) .nil))) .nil)) (.int 1000000))))) (.cons (.ret [] .non) .nil) .nil) .nil)
theorem maxI_ge {l : List Int} (h : ∀ x ∈ l, -1000000 ≤ x ∧ x ≤ 1000000) (h0 : 0 < l.length) : maxI (absR l) ≤ 1000000 := by
  have hm := (maxI_all (ns := absR l) (by unfold absR; rw [List.length_map]; exact h0)).1
  unfold absR at hm
  obtain ⟨x, hx, e⟩ := List.mem_map.mp hm
  have := h x hx
  unfold absR
  rw [← e]; split <;> omega
section
variable {nm : Nm} {l : Nat} {z p : PySem.Str}
theorem du_in (h : Good p) {ps : List PV} {s0 s1 s2 s3 s6 : Sl} :
    (Fine ps.length p ∧ eSs (callF B nm l) (nmAt nm l) [s0, .no, .no, s3, .fz (rowV p), .fz (.lst true ps), s6] duIn = .nx [s0, .no, .no, s3, .fz (rowV p), .fz (.lst true ps), s6])
    ∨ (¬ Fine ps.length p ∧ eSs (callF B nm l) (nmAt nm l) [s0, .no, .no, s3, .fz (rowV p), .fz (.lst true ps), s6] duIn = .ret .non) := by
  have lw := (split_bd (x := p) sep1).1
  have gl := h.len
  have l1 : lenV (rowV p) = .ok (.int (wordsOf p).length) := by unfold rowV; rw [lenV_lst, List.length_map]
  have l2 : lenV (.lst true ps) = .ok (.int ps.length) := lenV_lst
  have inn := in_non (p := p)
  unfold duIn
  by_cases q1 : (wordsOf p).length = ps.length
  · by_cases q2 : ps.length ≤ 3
    · cases hr : rowOf p with
      | none =>
        rw [hr] at inn
        refine .inr ⟨fun ⟨r, e, _⟩ => (by rw [hr] at e; cases e), last ?_⟩
        have q2' : ¬ (3 : Int) < (ps.length : Int) := by omega
        simp [l1, l2, q1, q2', inn]
      | some r =>
        rw [hr] at inn
        have ev := rowV_some hr
        have lr : r.length = (wordsOf p).length := by
          have := congrArg lenV ev
          rw [l1, len_lstI] at this
          injection this with this; injection this with this; omega
        have r0 : 0 < r.length := by
          rw [lr]; exact List.length_pos_iff.mpr (split_ne sep1)
        have q2' : ¬ (3 : Int) < (ps.length : Int) := by omega
        have hc : cm (callF B nm l) [s0, .no, .no, s3, .fz (lstI true r), .fz (.lst true ps), s6] [1, 2] [2] true (.bi .abs (.cons (.var 2) .nil)) (r.map PV.int) = .ok (lstI true (absR r)) := by
          unfold absR
          exact cm_intI _ (fun x _ => by simp [wipeS, setT]) (by unfold wordsOf at lr; omega)
        have mx := maxV_lstI (y := true) (l := absR r) (by unfold absR; rw [List.length_map]; exact r0)
        rw [ev] at l1 inn ⊢
        by_cases q3 : maxI (absR r) ≤ 1000000
        · refine .inl ⟨⟨r, hr, by omega, q2, absR_le q3⟩, last ?_⟩
          have q3' : ¬ 1000000 < maxI (absR r) := by omega
          simp [l1, l2, q1, q2', inn, items_lstI, hc, mx, q3']
        · refine .inr ⟨fun ⟨r', e, _, _, b⟩ => q3 ?_, last ?_⟩
          · rw [hr] at e
            injection e with e
            subst e
            exact maxI_ge b r0
          · have q3' : 1000000 < maxI (absR r) := by omega
            simp [l1, l2, q1, q2', inn, items_lstI, hc, mx, q3']
    · refine .inr ⟨fun ⟨_, _, _, z, _⟩ => q2 z, last ?_⟩
      have q2' : (3 : Int) < (ps.length : Int) := by omega
      simp [l1, l2, q1, q2']
  · refine .inr ⟨fun ⟨r, e, z, _⟩ => q1 ?_, last ?_⟩
    · have ev := congrArg lenV (rowV_some e)
      rw [l1, len_lstI] at ev
      injection ev with ev; injection ev with ev; omega
    · have q1' : ¬ ((wordsOf p).length : Int) = (ps.length : Int) := by omega
      simp [l1, l2, q1']
end
end K14

namespace K14
open SG BO
/-- all parts make rows of so many as there are parts -/
def AllFine (z : PySem.Str) : Prop := ∀ p ∈ partsOf z, Fine (partsOf z).length p
section
variable {nm : Nm} {l : Nat} {z p : PySem.Str}
theorem du_loop (h : Good z) : (AllFine z ∧ ∃ s4, fl (callF B nm l) (nmAt nm l) [4] true duIn ((partsOf z).map rowV) [.fz (.str z), .no, .no, .no, .no, .fz (.lst true ((partsOf z).map rowV)), .no] = .nx [.fz (.str z), .no, .no, .no, s4, .fz (.lst true ((partsOf z).map rowV)), .no])
    ∨ (¬ AllFine z ∧ fl (callF B nm l) (nmAt nm l) [4] true duIn ((partsOf z).map rowV) [.fz (.str z), .no, .no, .no, .no, .fz (.lst true ((partsOf z).map rowV)), .no] = .ret .non) := by
  have q := fl_out (G := callF B nm l) (nm := nmAt nm l) (tg := [4]) (w := true) (t := duIn)
    (fun j ρ => (∃ s4, ρ = [.fz (.str z), .no, .no, .no, s4, .fz (.lst true ((partsOf z).map rowV)), .no]) ∧ ∀ i p, i < j → (partsOf z)[i]? = some p → Fine (partsOf z).length p)
    (fun v => v = .non ∧ ¬ AllFine z) (xs := (partsOf z).map rowV) (ρ := [.fz (.str z), .no, .no, .no, .no, .fz (.lst true ((partsOf z).map rowV)), .no]) ⟨⟨_, rfl⟩, fun i p hi => absurd hi (by omega)⟩ (fun j x hx ρ hρ => by
      obtain ⟨⟨s4, rfl⟩, hf⟩ := hρ
      rw [List.getElem?_map] at hx
      cases hp : (partsOf z)[j]? with
      | none => rw [hp] at hx; cases hx
      | some p =>
        rw [hp] at hx
        injection hx with hx
        subst hx
        have hm : p ∈ partsOf z := List.mem_of_getElem? hp
        refine ⟨_, rfl, ?_⟩
        have d := du_in (nm := nm) (l := l) (h.part hm) (ps := (partsOf z).map rowV) (s0 := .fz (.str z)) (s1 := .no) (s2 := .no) (s3 := .no) (s6 := .no)
        rw [List.length_map] at d
        rcases d with ⟨f, e⟩ | ⟨f, e⟩
        · refine .inl ⟨_, e, ⟨_, rfl⟩, fun i p' hi hp' => ?_⟩
          by_cases q : i = j
          · subst q; rw [hp] at hp'; injection hp' with hp'; subst hp'; exact f
          · exact hf i p' (by omega) hp'
        · exact .inr ⟨_, e, rfl, fun a => f (a p hm)⟩)
  rcases q with ⟨ρ', e, ⟨s4, rfl⟩, hf⟩ | ⟨v, e, rfl, hf⟩
  · refine .inl ⟨fun p hp => ?_, s4, e⟩
    obtain ⟨i, hi⟩ := List.mem_iff_getElem?.mp hp
    obtain ⟨hl, _⟩ := List.getElem?_eq_some_iff.mp hi
    exact hf i p (by rw [List.length_map]; exact hl) hi
  · exact .inr ⟨hf, e⟩
theorem fine_grid (h : AllFine z) : ∃ R, gridOf z = some R ∧ (partsOf z).map rowV = R.map (lstI true) ∧ 1 ≤ R.length ∧ R.length ≤ 3 ∧ Sq R.length 1000000 R := by
  have ne : partsOf z ≠ [] := split_ne sep2
  have hl : 0 < (partsOf z).length := List.length_pos_iff.mpr ne
  have al : (partsOf z).all (fun p => (rowOf p).isSome) = true := List.all_eq_true.mpr fun p hp => by
    obtain ⟨r, e, _⟩ := h p hp
    rw [e]; rfl
  refine ⟨(partsOf z).map fun p => (rowOf p).getD [], by unfold gridOf; rw [if_pos al], ?_, by rw [List.length_map]; exact hl, ?_, rfl, ?_⟩
  · rw [List.map_map]
    refine List.map_congr_left fun p hp => ?_
    obtain ⟨r, e, _⟩ := h p hp
    rw [rowV_some e]; simp [e]
  · obtain ⟨p, hp⟩ := List.exists_mem_of_ne_nil _ ne
    obtain ⟨r, e, _, h3, _⟩ := h p hp
    rw [List.length_map]; exact h3
  · intro r hr
    obtain ⟨p, hp, rfl⟩ := List.mem_map.mp hr
    obtain ⟨r, e, l, h3, b⟩ := h p hp
    rw [List.length_map]
    simp only [e, Option.getD_some]
    exact ⟨l, b⟩
theorem grid_fine {R : List (List Int)} (hR : gridOf z = some R) (ok : okRows (rowsV true R) = true) : AllFine z := by
  obtain ⟨h1, h3, sq⟩ := sq_of_ok ok
  unfold gridOf at hR
  split at hR
  · rename_i q
    injection hR with hR
    intro p hp
    have := List.all_eq_true.mp q p hp
    cases hn : rowOf p with
    | none => rw [hn] at this; cases this
    | some r =>
      have lR : R.length = (partsOf z).length := by rw [← hR, List.length_map]
      have mr : r ∈ R := by rw [← hR]; exact List.mem_map.mpr ⟨p, hp, by simp [hn]⟩
      have := sq.2 r mr
      exact ⟨r, hn, by rw [← lR]; exact this.1, by omega, this.2⟩
  · cases hR
theorem law_due (h : Good z) : callF B nm (l + 5) "_law_due" [.str z] = .ok (match gridOf z with | some R => if okRows (rowsV true R) = true ∧ blk R ≠ 0 then rowsV true R else .non | none => .non) := by
  rw [callF_eq (show B "_law_due" = some ⟨1, 7, b__law_due⟩ from rfl)]
  refine runF_ret rfl ?_
  have e0 : startR 7 (PV.olds [.str z]) = [.fz (.str z), .no, .no, .no, .no, .no, .no] := by simp [olds_cons, olds_nil, PV.old, startR]
  rw [e0]
  have ii : isiV "str" (.str z) = .ok (.bl true) := isi_ss
  have sp := split2 h
  have it : itemsV (.lst true ((partsOf z).map PV.str)) = .ok ((partsOf z).map PV.str) := rfl
  have c2 : cm (callF B nm (l + 4)) [.fz (.str z), .no, .no, .no, .no, .no, .no] [1, 3] [3] true (.comp [1, 6] [6] true (.val (.splitE (.var 3) (.str " "))) (.call "_law_number" (.cons (.var 6) .nil))) ((partsOf z).map PV.str) = .ok (.lst true ((partsOf z).map rowV)) := by
    refine cm_of (l := partsOf z) PV.str rowV invStr (fun _ => rfl) (fun p hp => ?_) (by have := (split_bd (x := z) sep2).1; have := h.len; unfold partsOf; omega)
    have g := h.part hp
    have c1 : cm (callF B nm (l + 4)) [.fz (.str z), .no, .no, .fz (.str p), .no, .no, .no] [1, 6] [6] true (.call "_law_number" (.cons (.var 6) .nil)) ((wordsOf p).map PV.str) = .ok (rowV p) := by
      refine cm_of (l := wordsOf p) PV.str numV invStr (fun _ => rfl) (fun w hw => ?_) (by have := (split_bd (x := p) sep1).1; have := g.len; unfold wordsOf; omega)
      have gw := g.word hw
      have n := law_number (nm := nm) (l := l + 3) gw.ok (by have := gw.len; omega)
      unfold numV
      cases hn : numOf w with
      | none => rw [hn] at n; simp [wipeS, setT, n]
      | some i => rw [hn] at n; simp [wipeS, setT, n]
    have sp1 := split1 g
    have it1 : itemsV (.lst true ((wordsOf p).map PV.str)) = .ok ((wordsOf p).map PV.str) := rfl
    simp [wipeS, setT, sp1, it1, c1]
  unfold b__law_due
  refine stage (ρ' := [.fz (.str z), .no, .no, .no, .no, .no, .no]) (by simp [ii]) ?_
  refine stage (ρ' := [.fz (.str z), .no, .no, .no, .no, .fz (.lst true ((partsOf z).map rowV)), .no]) (by simp [sp, it, c2]) ?_
  have it5 : itemsV (.lst true ((partsOf z).map rowV)) = .ok ((partsOf z).map rowV) := rfl
  rcases du_loop (nm := nm) (l := l + 4) h with ⟨af, s4, e⟩ | ⟨af, e⟩
  · obtain ⟨R, hR, hv, n1, n3, sq⟩ := fine_grid af
    have ok := ok_of_sq (y := true) sq n1 n3 (Int.le_refl _)
    refine stage (ρ' := [.fz (.str z), .no, .no, .no, s4, .fz (.lst true ((partsOf z).map rowV)), .no]) (for_st (by simp [it5]) e) ?_
    rw [hv, hR]
    dsimp only
    have rl : PV.lst true (R.map (lstI true)) = rowsL true true R := rfl
    rw [rl]
    have bl := law_bulkL kn (nm := nm) (l := l) (y := true) (b' := true) (shW_of sq.rws (fun r hr x hx => by have := (sq.2 r hr).2 x hx; unfold Wd; omega) n1 n3)
    by_cases b0 : blk R = 0
    · rw [if_neg (fun x => x.2 b0)]
      rw [b0] at bl
      simp [bl]
    · rw [if_pos ⟨ok, b0⟩]
      refine stage (ρ' := [.fz (.str z), .no, .no, .no, s4, .fz (rowsL true true R), .no]) (by simp [bl, b0]) (stop ?_)
      have itR : itemsV (rowsL true true R) = .ok (R.map (lstI true)) := rfl
      have ct : cm (callF B nm (l + 4)) [.fz (.str z), .no, .no, .no, s4, .fz (rowsL true true R), .no] [1, 4] [4] true (.bi .tuple (.cons (.var 4) .nil)) (R.map (lstI true)) = .ok (rowsV true R) :=
        cm_of (l := R) (lstI true) tupI invLst (fun _ => invLst_lstI) (fun r hr => by simp [wipeS, setT]; rfl) (by omega)
      simp [itR, ct]
  · have : (match gridOf z with | some R => if okRows (rowsV true R) = true ∧ blk R ≠ 0 then rowsV true R else PV.non | none => PV.non) = .non := by
      cases hR : gridOf z with
      | none => rfl
      | some R =>
        dsimp only
        rw [if_neg (fun x => af (grid_fine hR x.1))]
    rw [this]
    have fo : eS (callF B nm (l + 4)) (nmAt nm (l + 4)) [.fz (.str z), .no, .no, .no, .no, .fz (.lst true ((partsOf z).map rowV)), .no] (.for [] [4] true (.val (.var 5)) duIn) = .ret .non := for_st (by simp [it5]) e
    exact stop fo
end
end K14

namespace BO
open SG
/-! ### texts of rows -/
/-- a number's text -/
def numT (i : Int) : PySem.Str := PySem.Str.ofString (toString i)
theorem okw_num {i : Int} : Okw (numT i) := by
  rw [okw_iff]
  intro c hc
  unfold numT at hc
  have e : (PySem.Str.ofString (toString i)).cps.toList = (toString i).toList.map Char.toNat := by
    rw [PySem.Str.ofString_eq_toList]
  rw [e] at hc
  obtain ⟨ch, hm, rfl⟩ := List.mem_map.mp hc
  have := ch.valid
  have h : ch.toNat = ch.val.toNat := rfl
  rw [h]
  rcases this with z | ⟨_, z⟩
  · have : ch.val.toNat < 55296 := z
    omega
  · exact z
theorem len_num {i : Int} (h : -1000000 ≤ i ∧ i ≤ 1000000) : (numT i).length ≤ 8 := by
  have := PySem.int_text_length_le10 (a := i) (k := 7) (by decide) (by omega)
  unfold numT
  rw [PySem.ofString_length]
  exact this
theorem str_num {i : Int} (h : -1000000 ≤ i ∧ i ≤ 1000000) : SG.strV (.int i) = .ok (.str (numT i)) := by
  have l := log2_le (n := i.natAbs) (k := 20) (by omega)
  exact Rs.when_pos (by omega)
theorem okw_app {a b : PySem.Str} (ha : Okw a) (hb : Okw b) : Okw (a ++ b) := by
  rw [okw_iff] at ha hb ⊢
  intro c hc
  rw [PySem.W.KT.app_list] at hc
  rcases List.mem_append.mp hc with h | h
  · exact ha c h
  · exact hb c h
theorem len_app {a b : PySem.Str} : (a ++ b).length = a.length + b.length := by
  rw [len_w, PySem.W.KT.app_list, List.length_append, ← len_w, ← len_w]
theorem okw_join {s : PySem.Str} (hs : Okw s) : ∀ {l : List PySem.Str}, (∀ a ∈ l, Okw a) → Okw (PySem.Str.join s l)
  | [], _ => by unfold PySem.Str.join; decide +kernel
  | [x], h => h x List.mem_cons_self
  | x :: y :: r, h => okw_app (okw_app (h x List.mem_cons_self) hs) (okw_join hs fun a ha => h a (List.mem_cons_of_mem _ ha))
theorem len_join {s : PySem.Str} {B : Nat} : ∀ {l : List PySem.Str}, (∀ a ∈ l, a.length ≤ B) → (PySem.Str.join s l).length ≤ l.length * (B + s.length)
  | [], _ => by show PySem.Str.empty.length ≤ _; rw [show PySem.Str.empty.length = 0 from rfl]; omega
  | [x], h => by have := h x List.mem_cons_self; show x.length ≤ _; simp; omega
  | x :: y :: r, h => by
    have i := len_join (s := s) (l := y :: r) fun a ha => h a (List.mem_cons_of_mem _ ha)
    have := h x List.mem_cons_self
    show (x ++ s ++ PySem.Str.join s (y :: r)).length ≤ _
    rw [len_app, len_app, List.length_cons (a := x), Nat.succ_mul]
    omega
theorem strs_map : ∀ {l : List PySem.Str}, strs? (l.map PV.str) = some l
  | [] => rfl
  | x :: r => by rw [List.map_cons, strs?, strs_map]; rfl
theorem sum_le {B : Nat} : ∀ {l : List Nat}, (∀ a ∈ l, a ≤ B) → l.sum ≤ l.length * B
  | [], _ => by simp
  | x :: r, h => by
    have := sum_le (l := r) fun a ha => h a (List.mem_cons_of_mem _ ha)
    have := h x List.mem_cons_self
    simp only [List.sum_cons, List.length_cons, Nat.succ_mul]; omega
theorem join_s {y : Bool} {s : PySem.Str} {l : List PySem.Str} {B : Nat} (hB : ∀ a ∈ l, a.length ≤ B) (h : l.length * B + l.length * s.length ≤ 10000) : joinV (.str s) (.lst y (l.map PV.str)) = .ok (.str (PySem.Str.join s l)) := by
  unfold joinV
  dsimp only
  rw [strs_map]
  dsimp only
  have := sum_le (l := l.map fun x => x.length) (B := B) fun a ha => by obtain ⟨x, hx, rfl⟩ := List.mem_map.mp ha; exact hB x hx
  rw [List.length_map] at this
  rw [Rs.when_pos (by omega)]
  congr 2
  exact PySem.StrLaws.glued_eq_join _ _
/-- a row's text, and that of rows -/
def rowT (r : List Int) : PySem.Str := PySem.Str.join " " (r.map numT)
def gridT (R : List (List Int)) : PySem.Str := PySem.Str.join "; " (R.map rowT)
theorem okw_row {r : List Int} : Okw (rowT r) := okw_join (by decide +kernel) fun a ha => by obtain ⟨x, _, rfl⟩ := List.mem_map.mp ha; exact okw_num
theorem okw_grid {R : List (List Int)} : Okw (gridT R) := okw_join (by decide +kernel) fun a ha => by obtain ⟨x, _, rfl⟩ := List.mem_map.mp ha; exact okw_row
section
variable {n : Nat} {R : List (List Int)} (h : Sq n 1000000 R) (hn : n ≤ 3)
include h hn
theorem len_rowT {r : List Int} (hr : r ∈ R) : (rowT r).length ≤ 27 := by
  have q := h.2 r hr
  have := len_join (s := " ") (B := 8) (l := r.map numT) fun a ha => by obtain ⟨x, hx, rfl⟩ := List.mem_map.mp ha; exact len_num (q.2 x hx)
  rw [List.length_map, show (" " : PySem.Str).length = 1 by decide +kernel, q.1] at this
  unfold rowT; omega
theorem len_gridT : (gridT R).length ≤ 87 := by
  have := len_join (s := "; ") (B := 27) (l := R.map rowT) fun a ha => by obtain ⟨x, hx, rfl⟩ := List.mem_map.mp ha; exact len_rowT h hn hx
  rw [List.length_map, show ("; " : PySem.Str).length = 2 by decide +kernel, h.1] at this
  unfold gridT; omega
theorem join_row {y : Bool} {r : List Int} (hr : r ∈ R) : joinV (.str " ") (.lst y (r.map fun i => .str (numT i))) = .ok (.str (rowT r)) := by
  have q := h.2 r hr
  have := join_s (y := y) (s := " ") (l := r.map numT) (B := 8) (fun a ha => by obtain ⟨x, hx, rfl⟩ := List.mem_map.mp ha; exact len_num (q.2 x hx)) (by rw [List.length_map, show (" " : PySem.Str).length = 1 by decide +kernel, q.1]; omega)
  rw [List.map_map] at this
  exact this
theorem join_grid {y : Bool} : joinV (.str "; ") (.lst y (R.map fun r => .str (rowT r))) = .ok (.str (gridT R)) := by
  have := join_s (y := y) (s := "; ") (l := R.map rowT) (B := 27) (fun a ha => by obtain ⟨x, hx, rfl⟩ := List.mem_map.mp ha; exact len_rowT h hn hx) (by rw [List.length_map, show ("; " : PySem.Str).length = 2 by decide +kernel, h.1]; omega)
  rw [List.map_map] at this
  exact this
end
/-! ### cuts -/
theorem okw_cut {z : PySem.Str} {a b : Option Int} (h : Okw z) : Okw (L2.cutS z a b) ∧ (L2.cutS z a b).length ≤ z.length := by
  have e : ∃ i j, (L2.cutS z a b).cps.toList = (z.cps.toList.drop i).take j := by
    unfold L2.cutS
    exact ⟨_, _, rfl⟩
  obtain ⟨i, j, e⟩ := e
  refine ⟨?_, ?_⟩
  · rw [okw_iff, e]
    exact fun c hc => okw_iff.mp h c (List.mem_of_mem_drop (List.mem_of_mem_take hc))
  · rw [len_w, e, len_w, List.length_take, List.length_drop]; omega
theorem hi_s {z : PySem.Str} {k : Int} (h : z.length ≤ 1000) : slHiV (.str z) (.int k) = .ok (.str (L2.cutS z none (some k))) := Rs.when_pos (sz _ h)
theorem lo_s {z : PySem.Str} {k : Int} (h : z.length ≤ 1000) : slLoV (.str z) (.int k) = .ok (.str (L2.cutS z (some k) none)) := Rs.when_pos (sz _ h)
theorem add_s {a b : PySem.Str} (h : a.length + b.length ≤ 1000) : addV (.str a) (.str b) = .ok (.str (a ++ b)) := Rs.when_pos (sz _ h)
end BO

namespace K14
open SG BO
section
variable {l n : Nat} {nm : Nm} {R : List (List Int)}
theorem shown {y : Bool} (h : Sq n 1000000 R) (hn1 : 1 ≤ n) (hn : n ≤ 3) : callF B nm (l + 6) "shown" [rowsV y R] = if blk R = 0 then .err "BadRows" else .ok (.str (gridT R)) := by
  rw [callF_eq (show B "shown" = some BO.fi_shown from rfl)]
  have e0 : startR 4 (PV.olds [rowsV y R]) = [.fz (rowsV false R), .no, .no, .no] := by simp [olds_cons, olds_nil, old_rows, startR]
  have nr := need_rows_sq kn (nm := nm) (B := B) rfl (l := l) (y := false) h hn1 hn (by decide)
  have key : eSs (callF B nm (l + 5)) (nmAt nm (l + 5)) (startR 4 (PV.olds [rowsV y R])) BO.b_shown = if blk R = 0 then .err "BadRows" else .ret (.str (gridT R)) := by
    rw [e0]
    unfold BO.b_shown
    by_cases b : blk R = 0
    · rw [if_pos b] at nr ⊢
      simp [nr]
    · rw [if_neg b] at nr ⊢
      refine stage (ρ' := [.fz (rowsV false R), .no, .no, .no]) (by simp [nr]) (stop ?_)
      have c2 : cm (callF B nm (l + 5)) [.fz (rowsV false R), .no, .no, .no] [1, 3] [3] true (.joinE (.str " ") (.comp [1, 2] [2] true (.val (.var 3)) (.bi .str (.cons (.var 2) .nil)))) (R.map tupI) = .ok (.lst true (R.map fun r => .str (rowT r))) := by
        refine cm_of (l := R) tupI (fun r => .str (rowT r)) invTup invTup_tupI (fun r hr => ?_) (by rw [h.1]; omega)
        have c1 : cm (callF B nm (l + 5)) [.fz (rowsV false R), .no, .no, .fz (tupI r)] [1, 2] [2] true (.bi .str (.cons (.var 2) .nil)) (r.map PV.int) = .ok (.lst true (r.map fun i => .str (numT i))) := by
          refine cm_of (l := r) PV.int (fun i => .str (numT i)) invInt (fun _ => rfl) (fun i hi => ?_) (by rw [(h.2 r hr).1]; omega)
          have := str_num ((h.2 r hr).2 i hi)
          have b : biV .str [.int i] = SG.strV (.int i) := rfl
          simp [wipeS, setT, this, b]
        simp [wipeS, setT, items_tup, c1, join_row h hn hr]
      simp [items_rows, c2, join_grid h hn]
  by_cases b : blk R = 0
  · rw [if_pos b] at key ⊢; exact runF_err' rfl key
  · rw [if_neg b] at key ⊢; exact runF_ret rfl key
theorem law_shown {y : Bool} (h : Sq n 1000000 R) (hn1 : 1 ≤ n) (hn : n ≤ 3) : callF B NM (l + 7) "_law_shown" [rowsV y R] = .ok (if blk R = 0 then .tup [.str "rows"] else .lst true [.str (gridT R)]) := by
  rw [callF_eq (show B "_law_shown" = some ⟨1, 2, b__law_shown⟩ from rfl)]
  have nt : nmAt NM (l + 6) "BadRows" = .ok (.tup [.str "rows"]) := rfl
  have r := shown (nm := NM) (l := l) (y := false) h hn1 hn
  by_cases b : blk R = 0
  · rw [if_pos b] at r ⊢
    unfold runF b__law_shown
    simp [olds_cons, olds_nil, startR, old_rows, r, catchN, nt]
  · rw [if_neg b] at r ⊢
    unfold runF b__law_shown
    have : ([PV.str (gridT R)] : List PV).length ≤ PySem.sizeLine := sz _ (by simp)
    simp [olds_cons, olds_nil, startR, old_rows, r, catchN, Rs.when_pos, this]
/-- the law's own text -/
theorem law_text {s0 s1 s2 s3 s4 s5 s6 s7 s8 s9 s11 s12 s13 : Sl} {y : Bool} (h : Sq n 1000000 R) (hn : n ≤ 3) :
    eE (callF B nm l) [s0, s1, s2, s3, s4, s5, s6, s7, s8, s9, .fz (rowsV y R), s11, s12, s13] (.joinE (.str "; ") (.comp [1, 9] [9] true (.val (.var 10)) (.joinE (.str " ") (.comp [1, 7] [7] true (.val (.var 9)) (.bi .str (.cons (.var 7) .nil)))))) = .ok (.str (gridT R)) := by
  have c2 : cm (callF B nm l) [s0, s1, s2, s3, s4, s5, s6, s7, s8, s9, .fz (rowsV y R), s11, s12, s13] [1, 9] [9] true (.joinE (.str " ") (.comp [1, 7] [7] true (.val (.var 9)) (.bi .str (.cons (.var 7) .nil)))) (R.map tupI) = .ok (.lst true (R.map fun r => .str (rowT r))) := by
    refine cm_of (l := R) tupI (fun r => .str (rowT r)) invTup invTup_tupI (fun r hr => ?_) (by rw [h.1]; omega)
    have c1 : cm (callF B nm l) [s0, .no, s2, s3, s4, s5, s6, s7, s8, .fz (tupI r), .fz (rowsV y R), s11, s12, s13] [1, 7] [7] true (.bi .str (.cons (.var 7) .nil)) (r.map PV.int) = .ok (.lst true (r.map fun i => .str (numT i))) := by
      refine cm_of (l := r) PV.int (fun i => .str (numT i)) invInt (fun _ => rfl) (fun i hi => ?_) (by rw [(h.2 r hr).1]; omega)
      have := str_num ((h.2 r hr).2 i hi)
      have b : biV .str [.int i] = SG.strV (.int i) := rfl
      simp [wipeS, setT, this, b]
    simp [wipeS, setT, items_tup, c1, join_row h hn hr]
  simp [items_rows, c2, join_grid h hn]
end
/-- what the law hands to read -/
def Txty (v : PV) : Prop := (∃ z, v = .str z ∧ Good z) ∨ v = .non ∨ v = .int 5 ∨ ∃ y, v = .lst y [.str "1"]
section
variable {l : Nat} {nm : Nm}
theorem law_sign {i : Int} : ∃ z, callF B nm (l + 1) "_law_sign" [.int i] = .ok (.str z) ∧ Okw z ∧ z.length = 1 := by
  rw [callF_eq (show B "_law_sign" = some ⟨1, 2, b__law_sign⟩ from rfl)]
  obtain ⟨h0, h1⟩ := mod_lt (a := i) (b := 96) (by decide)
  have a1 : addV (.str " !\"#$&'()*+,-./0123456789:;<=>?@ABCDEFGHIJKLMNOPQRSTUVWXYZ[\\]^_`") (.str "abcdefghijklmnopqrstuvwxyz{|}~\n\t") = .ok (.str (" !\"#$&'()*+,-./0123456789:;<=>?@ABCDEFGHIJKLMNOPQRSTUVWXYZ[\\]^_`" ++ "abcdefghijklmnopqrstuvwxyz{|}~\n\t")) := add_s (by decide +kernel)
  generalize hz : ((" !\"#$&'()*+,-./0123456789:;<=>?@ABCDEFGHIJKLMNOPQRSTUVWXYZ[\\]^_`" : PySem.Str) ++ "abcdefghijklmnopqrstuvwxyz{|}~\n\t") = z at a1
  have zl : z.length = 96 := by rw [← hz]; decide +kernel
  have zo : Okw z := by rw [← hz]; exact okw_app (by decide +kernel) (by decide +kernel)
  have zl' : z.cps.toList.length = 96 := by rw [← len_w]; exact zl
  obtain ⟨k, hk⟩ : ∃ k : Nat, i.fmod 96 = (k : Int) := ⟨(i.fmod 96).toNat, by omega⟩
  have kl : k < z.cps.toList.length := by omega
  have ix : ixV (.str z) (.int (i.fmod 96)) = .ok (sgnV z.cps.toList[k]) := by
    show (match L2.atI z.cps.toList (i.fmod 96) with | some c => Rs.when (z.length ≤ PySem.sizeLine) (sgnV c) | none => .no) = _
    rw [hk, L2.atI_nat (List.getElem?_eq_getElem kl)]
    exact Rs.when_pos (sz _ (by omega))
  refine ⟨⟨#[z.cps.toList[k]]⟩, ?_, sgn_ok (okw_iff.mp zo _ (List.getElem_mem kl)), rfl⟩
  refine runF_ret rfl ?_
  have e0 : startR 2 (PV.olds [.int i]) = [.fz (.int i), .no] := by simp [olds_cons, olds_nil, PV.old, startR]
  rw [e0]
  unfold b__law_sign
  simp [a1, modV_int, ix]
  rfl
end
end K14

namespace K14
open SG BO
theorem good_of {z : PySem.Str} (h : Okw z) (l : z.length ≤ 900) : Good z := ⟨h, l⟩
theorem law_odd {nm : Nm} {l : Nat} {i : Int} : ∃ v, callF B nm (l + 1) "_law_odd" [.int i] = .ok v ∧ Txty v := by
  rw [callF_eq (show B "_law_odd" = some ⟨1, 2, b__law_odd⟩ from rfl)]
  obtain ⟨v, hv, e⟩ := ix_mod (L := [.str "", .str "0", .str "1 2", .str "1 2; 2 4", .str "-0", .str "01", .str "1;", .str "1; ", .str "1  0; 0 1", .str "1 0;0 1", .str "1000001", .str "+1", .non, .int 5, .lst true [.str "1"], .str "1 0; 0 1 "]) (i := i) (k := 16) (y := true) (by decide) (by decide)
  refine ⟨v, ?_, ?_⟩
  · refine runF_ret rfl ?_
    have e0 : startR 2 (PV.olds [.int i]) = [.fz (.int i), .no] := by simp [olds_cons, olds_nil, PV.old, startR]
    rw [e0]
    unfold b__law_odd
    have a := addV_lst (t := true) (t' := true) (xs := [.str "", .str "0", .str "1 2", .str "1 2; 2 4", .str "-0", .str "01", .str "1;", .str "1; ", .str "1  0; 0 1", .str "1 0;0 1", .str "1000001", .str "+1"]) (ys := [.non, .int 5, .lst true [.str "1"], .str "1 0; 0 1 "]) (by decide)
    refine stage (ρ' := [.fz (.int i), .fz (.lst true [.str "", .str "0", .str "1 2", .str "1 2; 2 4", .str "-0", .str "01", .str "1;", .str "1; ", .str "1  0; 0 1", .str "1 0;0 1", .str "1000001", .str "+1"])]) (by simp [sz]) (stop ?_)
    simp only [List.cons_append, List.nil_append] at a
    simp [sz, a, modV_int, e]
  · simp only [List.mem_cons, List.not_mem_nil, or_false] at hv
    rcases hv with rfl | rfl | rfl | rfl | rfl | rfl | rfl | rfl | rfl | rfl | rfl | rfl | rfl | rfl | rfl | rfl
    all_goals first
      | exact .inl ⟨_, rfl, good_of (by decide +kernel) (by decide +kernel)⟩
      | exact .inr (.inl rfl)
      | exact .inr (.inr (.inl rfl))
      | exact .inr (.inr (.inr ⟨_, rfl⟩))
theorem no_text {v : PV} (h : v = .non ∨ v = .int 5 ∨ ∃ y, v = .lst y [.str "1"]) : isiV "str" v = .ok (.bl false) ∧ isiV "str" v.old = .ok (.bl false) := by
  rcases h with rfl | rfl | ⟨y, rfl⟩
  · exact ⟨isi_ns, by simp [PV.old]⟩
  · exact ⟨isi_is, by simp [PV.old]⟩
  · exact ⟨isi_ls, by simp [PV.old]⟩
theorem due_no {nm : Nm} {l : Nat} {v : PV} (h : isiV "str" v.old = .ok (.bl false)) : callF B nm (l + 1) "_law_due" [v] = .ok .non := by
  rw [callF_eq (show B "_law_due" = some ⟨1, 7, b__law_due⟩ from rfl)]
  refine runF_ret rfl ?_
  have e0 : startR 7 (PV.olds [v]) = [.fz v.old, .no, .no, .no, .no, .no, .no] := by simp [olds_cons, olds_nil, startR]
  rw [e0]
  unfold b__law_due
  simp [h]
theorem read_no {l : Nat} {v : PV} (h : isiV "str" v.old.old = .ok (.bl false)) : callF B NM (l + 2) "_law_read" [v] = .ok (.tup [.str "text"]) := by
  rw [callF_eq (show B "_law_read" = some ⟨1, 2, b__law_read⟩ from rfl)]
  have nt : nmAt NM (l + 1) "BadText" = .ok (.tup [.str "text"]) := rfl
  have r : callF B NM (l + 1) "read" [v.old] = .err "BadText" := by
    rw [callF_eq (show B "read" = some BO.fi_read from rfl)]
    refine runF_err' rfl ?_
    show eSs _ _ (startR 5 (PV.olds [v.old])) BO.b_read = _
    have e0 : startR 5 (PV.olds [v.old]) = [.fz v.old.old, .no, .no, .no, .no] := by simp [olds_cons, olds_nil, startR]
    rw [e0]
    unfold BO.b_read
    simp [h]
  unfold runF b__law_read
  simp [olds_cons, olds_nil, startR, r, catchN, nt]
/-- the law's end: what is due, what is read -/
def endS : Ss := (.cons (.asg [] 3 (.call "_law_due" (.cons (.var 11) .nil))) (.cons (.asg [] 4 (.call "_law_read" (.cons (.var 11) .nil))) (.cons (.iff [] (.isN false (.var 3)) (.cons (.ret [] (.cmp .eq (.var 4) (.tup (.cons (.str "text") .nil)))) .nil) .nil) (.cons (.ret [] (.and (.call "_law_rows_told" (.cons (.var 4) (.cons (.bi .len (.cons (.var 3) .nil)) .nil))) (.cmp .eq (.var 4) (.var 3)))) .nil))))
theorem end_ok {s0 s1 s2 s5 s6 s7 s8 s9 s10 s12 s13 : Sl} {v : PV} (h : Txty v) : eSs (callF B NM 23) (nmAt NM 23) [s0, s1, s2, .no, .no, s5, s6, s7, s8, s9, s10, .fz v, s12, s13] endS = .ret (.bl true) := by
  unfold endS
  have nonC : callF B NM 23 "_law_due" [v] = .ok .non → callF B NM 23 "_law_read" [v] = .ok (.tup [.str "text"]) → eSs (callF B NM 23) (nmAt NM 23) [s0, s1, s2, .no, .no, s5, s6, s7, s8, s9, s10, .fz v, s12, s13] endS = .ret (.bl true) := fun d r => by
    unfold endS
    refine stage (ρ' := [s0, s1, s2, .fz .non, .no, s5, s6, s7, s8, s9, s10, .fz v, s12, s13]) (by simp [d]) ?_
    refine stage (ρ' := [s0, s1, s2, .fz .non, .fz (.tup [.str "text"]), s5, s6, s7, s8, s9, s10, .fz v, s12, s13]) (by simp [r]) ?_
    have n : isNV false .non = .ok (.bl true) := rfl
    simp [n, eq_text, sz]
  rcases h with ⟨z, rfl, g⟩ | h
  · have d := law_due (nm := NM) (l := 18) g
    have r := law_read (l := 16) g
    cases hg : gridOf z with
    | none => rw [hg] at d r; exact nonC d r
    | some R =>
      rw [hg] at d r
      dsimp only at d r
      by_cases q : okRows (rowsV true R) = true ∧ blk R ≠ 0
      · rw [if_pos q] at d r
        obtain ⟨n1, n3, sq⟩ := sq_of_ok q.1
        refine stage (ρ' := [s0, s1, s2, .fz (rowsV true R), .no, s5, s6, s7, s8, s9, s10, .fz (.str z), s12, s13]) (by simp [d]) ?_
        refine stage (ρ' := [s0, s1, s2, .fz (rowsV true R), .fz (rowsV true R), s5, s6, s7, s8, s9, s10, .fz (.str z), s12, s13]) (by simp [r]) ?_
        have n : isNV false (rowsV true R) = .ok (.bl false) := rfl
        have t := law_rows_told kn (nm := NM) (B := B) rfl rfl (l := 20) (y := true) sq.rws (by omega)
        refine stage (ρ' := [s0, s1, s2, .fz (rowsV true R), .fz (rowsV true R), s5, s6, s7, s8, s9, s10, .fz (.str z), s12, s13]) (by simp [n]) (stop ?_)
        simp [len_rows, t, eqV_rows]
      · rw [if_neg q] at d r; exact nonC d r
  · obtain ⟨h1, h2⟩ := no_text h
    have h3 : isiV "str" v.old.old = .ok (.bl false) := by
      rcases h with rfl | rfl | ⟨y, rfl⟩ <;> simp [PV.old]
    exact nonC (due_no (l := 22) h2) (read_no (l := 21) h3)
theorem law_true : ∀ ns : List Int, ns.length ≤ 63 → callF B NM 24 "law" [.scr ns] = .ok (.bl true) := by
  intro ns hl
  obtain ⟨hn1, hn, hnk⟩ := many_in (ns := ns) (d := 6)
  generalize manyN ns 6 = n at hn1 hn hnk
  rw [callF_eq (show B "law" = some ⟨1, 14, b_law⟩ from rfl)]
  obtain ⟨M, e6, hM, hM2⟩ := most6 (i := cellI ns 0)
  obtain ⟨R, hR, sq0, hb⟩ := law_rows kn (nm := NM) (show B "_law_rows" = some fi__law_rows from rfl) (l := 18) (ns := ns) (f := 3) (most := M) (n := n) (by decide) (by decide) hM hM2 hn1 hn
  have sq : Sq n 1000000 R := sq_le sq0 hM2
  have c0 := cell kn (nm := NM) (l := 22) (ns := ns) 0
  simp at c0
  have c1 := cell kn (nm := NM) (l := 22) (ns := ns) 1
  simp at c1
  have mo := moreE kn (nm := NM) (l := 21) (ns := ns) 2 (by decide)
  simp at mo
  refine runF_ret rfl ?_
  have e0 : startR 14 (PV.olds [.scr ns]) = [.fz (.scr ns), .no, .no, .no, .no, .no, .no, .no, .no, .no, .no, .no, .no, .no] := by simp [olds_cons, olds_nil, PV.old, startR]
  rw [e0]
  unfold b_law
  refine stage (ρ' := [.fz (.scr ns), .no, .no, .no, .no, .no, .fz (.int (n : Int)), .no, .no, .no, .no, .no, .no, .no]) (by simp [c0, fdivV_l, modV_int, hnk]) ?_
  refine stage (ρ' := [.fz (.scr ns), .no, .no, .no, .no, .no, .fz (.int (n : Int)), .no, .no, .no, .fz (rowsV true R), .no, .no, .no]) (by simp [c0, modV_int, e6, sz, hR]) ?_
  refine stage (ρ' := [.fz (.scr ns), .no, .no, .no, .no, .fz (rowsV true R), .fz (.int (n : Int)), .no, .no, .no, .fz (rowsV true R), .no, .no, .no]) (by simp [list_rows]) ?_
  have sh := law_shown (l := 16) (y := true) sq hn1 hn
  rw [if_neg hb] at sh
  refine stage (ρ' := [.fz (.scr ns), .no, .no, .no, .no, .fz (rowsV true R), .fz (.int (n : Int)), .no, .no, .no, .fz (rowsV true R), .no, .fz (.lst true [.str (gridT R)]), .no]) (by simp [sh]) ?_
  have tx := fun (s0 s1 s2 s3 s4 s5 s6 s7 s8 s9 s11 s12 s13 : Sl) => law_text (nm := NM) (l := 23) (y := true) (s0 := s0) (s1 := s1) (s2 := s2) (s3 := s3) (s4 := s4) (s5 := s5) (s6 := s6) (s7 := s7) (s8 := s8) (s9 := s9) (s11 := s11) (s12 := s12) (s13 := s13) sq hn
  refine stage (ρ' := [.fz (.scr ns), .no, .no, .no, .no, .fz (rowsV true R), .fz (.int (n : Int)), .no, .no, .no, .fz (rowsV true R), .fz (.str (gridT R)), .fz (.lst true [.str (gridT R)]), .no]) (by rw [eS_asg, frzA_nil, tx]; rfl) ?_
  have zz := zero_mul (n := n) (by omega)
  have zr : mulV (.lst true [tupI (zero n)]) (.int (n : Int)) = .ok (rowsV true (List.replicate n (zero n))) := by
    unfold mulV; dsimp only
    rw [Rs.when_pos ⟨by unfold i63; omega, sz _ (by simp; omega)⟩, Int.toNat_natCast]
    have fl : (List.replicate n [tupI (zero n)]).flatten = (List.replicate n (zero n)).map tupI := by simp
    rw [fl]; rfl
  have sqz : Sq n 1000000 (List.replicate n (zero n)) := ⟨List.length_replicate, fun r hr => by
    rw [(List.mem_replicate.mp hr).2]
    exact ⟨zero_len, fun x hx => by rw [(List.mem_replicate.mp hx).2]; omega⟩⟩
  have bz : blk (List.replicate n (zero n)) = 0 := by
    obtain rfl | rfl | rfl : n = 1 ∨ n = 2 ∨ n = 3 := by omega
    all_goals decide +kernel
  have shz := law_shown (l := 16) (y := true) sqz hn1 hn
  rw [if_pos bz] at shz
  have lvT : Lv 1 (.lst true [.str (gridT R)]) := Lv.lst fun x hx => by rw [List.mem_singleton.mp hx]; exact lv_s okw_grid
  have neT := (eqV_same lvT (by decide) rfl).2
  have neR : neV' (.tup [.str "rows"]) (.tup [.str "rows"]) = .ok (.bl false) := (eqV_same (n := 1) (Lv.tup fun x hx => by rw [List.mem_singleton.mp hx]; exact lv_s (by decide +kernel)) (by decide) rfl).2
  refine stage (ρ' := [.fz (.scr ns), .no, .no, .no, .no, .fz (rowsV true R), .fz (.int (n : Int)), .no, .no, .no, .fz (rowsV true R), .fz (.str (gridT R)), .fz (.lst true [.str (gridT R)]), .no]) (by simp [sz, neT, neV_rows, zz, zr, shz, neR]) ?_
  refine stage (ρ' := [.fz (.scr ns), .no, .fz (.int (moreI ns 2)), .no, .no, .fz (rowsV true R), .fz (.int (n : Int)), .no, .no, .no, .fz (rowsV true R), .fz (.str (gridT R)), .fz (.lst true [.str (gridT R)]), .no]) (by simp [mo]) ?_
  have tl := len_gridT sq hn
  have to : Okw (gridT R) := okw_grid
  generalize gridT R = z at *
  have ln := len_s (z := z) (by omega)
  generalize hc : moreI ns 2 = c at *
  obtain ⟨P, hP⟩ : ∃ P : Int, ixV (.lst true [.int 0, .int (z.length : Int), .int ((c.fdiv 28).fmod ((z.length : Int) + 1)), .int ((c.fdiv 28).fmod ((z.length : Int) + 1))]) (.int ((c.fdiv 7).fmod 4)) = .ok (.int P) := by
    obtain ⟨v, hv, e⟩ := ix_mod (L := [.int 0, .int (z.length : Int), .int ((c.fdiv 28).fmod ((z.length : Int) + 1)), .int ((c.fdiv 28).fmod ((z.length : Int) + 1))]) (i := c.fdiv 7) (k := 4) (y := true) rfl (by simp)
    simp only [List.mem_cons, List.not_mem_nil, or_false] at hv
    rcases hv with rfl | rfl | rfl | rfl <;> exact ⟨_, e⟩
  have zp : ((z.length : Int) + 1) ≠ 0 := by omega
  refine stage (ρ' := [.fz (.scr ns), .no, .fz (.int c), .no, .no, .fz (rowsV true R), .fz (.int (n : Int)), .no, .fz (.int P), .no, .fz (rowsV true R), .fz (.str z), .fz (.lst true [.str z]), .no]) (by simp [ln, fdivV_l, modV_int, zp, hP, sz]) ?_
  generalize hW : (cellI ns 1).fmod 8 = W
  refine stage (ρ' := [.fz (.scr ns), .no, .fz (.int c), .no, .no, .fz (rowsV true R), .fz (.int (n : Int)), .no, .fz (.int P), .no, .fz (rowsV true R), .fz (.str z), .fz (.lst true [.str z]), .fz (.int W)]) (by simp [c1, modV_int, hW]) ?_
  generalize PV.lst true [.str z] = T12
  obtain ⟨z1, e1, o1, l1⟩ : ∃ z1, eS (callF B NM 23) (nmAt NM 23) [.fz (.scr ns), .no, .fz (.int c), .no, .no, .fz (rowsV true R), .fz (.int (n : Int)), .no, .fz (.int P), .no, .fz (rowsV true R), .fz (.str z), .fz T12, .fz (.int W)] (.iff [] (.cmp .eq (.var 13) (.int 6)) (.cons (.asg [] 11 (.op .add (.op .add (.slHiV 11 (.var 8)) (.ix (.lst (.cons (.str " ") (.cons (.str "\n") (.cons (.str "\t") (.cons (.str "; ") .nil))))) (.op .mod (.op .fdiv (.var 2) (.int 2800)) (.int 4)))) (.slLoV 11 (.var 8)))) .nil) .nil) = .nx [.fz (.scr ns), .no, .fz (.int c), .no, .no, .fz (rowsV true R), .fz (.int (n : Int)), .no, .fz (.int P), .no, .fz (rowsV true R), .fz (.str z1), .fz T12, .fz (.int W)] ∧ Okw z1 ∧ z1.length ≤ 200 := by
    by_cases q : W = 6
    · obtain ⟨v, hv, e⟩ := ix_mod (L := [.str " ", .str "\n", .str "\t", .str "; "]) (i := c.fdiv 2800) (k := 4) (y := true) rfl (by decide)
      obtain ⟨w, rfl, wo, wl⟩ : ∃ w, v = .str w ∧ Okw w ∧ w.length ≤ 2 := by
        simp only [List.mem_cons, List.not_mem_nil, or_false] at hv
        rcases hv with rfl | rfl | rfl | rfl <;> exact ⟨_, rfl, by decide +kernel, by decide +kernel⟩
      have h1 := hi_s (z := z) (k := P) (by omega)
      have h2 := lo_s (z := z) (k := P) (by omega)
      obtain ⟨a1, a2⟩ := okw_cut (z := z) (a := none) (b := some P) to
      obtain ⟨b1, b2⟩ := okw_cut (z := z) (a := some P) (b := none) to
      have a3 := add_s (a := L2.cutS z none (some P)) (b := w) (by omega)
      have a4 := add_s (a := L2.cutS z none (some P) ++ w) (b := L2.cutS z (some P) none) (by rw [len_app]; omega)
      exact ⟨_, by simp [q, h1, h2, e, a3, a4, fdivV_l, modV_int, sz], okw_app (okw_app a1 wo) b1, by rw [len_app, len_app]; omega⟩
    · exact ⟨z, by simp [q], to, by omega⟩
  refine stage e1 ?_
  obtain ⟨w, hw, wo, wl⟩ := law_sign (nm := NM) (l := 22) (i := c.fdiv 700)
  obtain ⟨z2, e2, o2, l2⟩ : ∃ z2, eS (callF B NM 23) (nmAt NM 23) [.fz (.scr ns), .no, .fz (.int c), .no, .no, .fz (rowsV true R), .fz (.int (n : Int)), .no, .fz (.int P), .no, .fz (rowsV true R), .fz (.str z1), .fz T12, .fz (.int W)] (.iff [] (.or (.cmp .eq (.var 13) (.int 1)) (.cmp .eq (.var 13) (.int 2))) (.cons (.asg [] 11 (.op .add (.op .add (.slHiV 11 (.var 8)) (.call "_law_sign" (.cons (.op .fdiv (.var 2) (.int 700)) .nil))) (.slLoV 11 (.var 8)))) .nil) .nil) = .nx [.fz (.scr ns), .no, .fz (.int c), .no, .no, .fz (rowsV true R), .fz (.int (n : Int)), .no, .fz (.int P), .no, .fz (rowsV true R), .fz (.str z2), .fz T12, .fz (.int W)] ∧ Okw z2 ∧ z2.length ≤ 300 := by
    have h1 := hi_s (z := z1) (k := P) (by omega)
    have h2 := lo_s (z := z1) (k := P) (by omega)
    obtain ⟨a1, a2⟩ := okw_cut (z := z1) (a := none) (b := some P) o1
    obtain ⟨b1, b2⟩ := okw_cut (z := z1) (a := some P) (b := none) o1
    have a3 := add_s (a := L2.cutS z1 none (some P)) (b := w) (by omega)
    have a4 := add_s (a := L2.cutS z1 none (some P) ++ w) (b := L2.cutS z1 (some P) none) (by rw [len_app]; omega)
    by_cases q : W = 1 ∨ W = 2
    · have l1' : z1.length ≤ 100 := by
        have e1' := e1
        have q6 : W ≠ 6 := by omega
        simp [q6] at e1'
        rw [← e1']; omega
      refine ⟨_, ?_, okw_app (okw_app a1 wo) b1, by rw [len_app, len_app]; omega⟩
      by_cases q1 : W = 1
      · simp [q1, h1, h2, a3, a4, fdivV_l, hw]
      · have q2 : W = 2 := by omega
        simp [q2, h1, h2, a3, a4, fdivV_l, hw]
    · have q1 : W ≠ 1 := by omega
      have q2 : W ≠ 2 := by omega
      exact ⟨z1, by simp [q1, q2], o1, by omega⟩
  refine stage e2 ?_
  obtain ⟨z3, e3, o3, l3⟩ : ∃ z3, eS (callF B NM 23) (nmAt NM 23) [.fz (.scr ns), .no, .fz (.int c), .no, .no, .fz (rowsV true R), .fz (.int (n : Int)), .no, .fz (.int P), .no, .fz (rowsV true R), .fz (.str z2), .fz T12, .fz (.int W)] (.iff [] (.cmp .eq (.var 13) (.int 3)) (.cons (.asg [] 11 (.op .add (.slHiV 11 (.var 8)) (.slLoV 11 (.op .add (.var 8) (.int 1))))) .nil) .nil) = .nx [.fz (.scr ns), .no, .fz (.int c), .no, .no, .fz (rowsV true R), .fz (.int (n : Int)), .no, .fz (.int P), .no, .fz (rowsV true R), .fz (.str z3), .fz T12, .fz (.int W)] ∧ Okw z3 ∧ z3.length ≤ 600 := by
    have h1 := hi_s (z := z2) (k := P) (by omega)
    have h2 := lo_s (z := z2) (k := P + 1) (by omega)
    obtain ⟨a1, a2⟩ := okw_cut (z := z2) (a := none) (b := some P) o2
    obtain ⟨b1, b2⟩ := okw_cut (z := z2) (a := some (P + 1)) (b := none) o2
    have a3 := add_s (a := L2.cutS z2 none (some P)) (b := L2.cutS z2 (some (P + 1)) none) (by omega)
    by_cases q : W = 3
    · exact ⟨_, by simp [q, h1, h2, a3], okw_app a1 b1, by rw [len_app]; omega⟩
    · exact ⟨z2, by simp [q], o2, by omega⟩
  refine stage e3 ?_
  obtain ⟨z4, e4, o4, l4⟩ : ∃ z4, eS (callF B NM 23) (nmAt NM 23) [.fz (.scr ns), .no, .fz (.int c), .no, .no, .fz (rowsV true R), .fz (.int (n : Int)), .no, .fz (.int P), .no, .fz (rowsV true R), .fz (.str z3), .fz T12, .fz (.int W)] (.iff [] (.cmp .eq (.var 13) (.int 4)) (.cons (.asg [] 11 (.op .add (.op .add (.slHiV 11 (.var 8)) (.call "_law_sign" (.cons (.op .fdiv (.var 2) (.int 700)) .nil))) (.slLoV 11 (.op .add (.var 8) (.int 1))))) .nil) .nil) = .nx [.fz (.scr ns), .no, .fz (.int c), .no, .no, .fz (rowsV true R), .fz (.int (n : Int)), .no, .fz (.int P), .no, .fz (rowsV true R), .fz (.str z4), .fz T12, .fz (.int W)] ∧ Okw z4 ∧ z4.length ≤ 900 := by
    by_cases q : W = 4
    · have l3' : z3.length ≤ 400 := by
        have e3' := e3
        simp [q] at e3'
        rw [← e3']; omega
      have h1 := hi_s (z := z3) (k := P) (by omega)
      have h2 := lo_s (z := z3) (k := P + 1) (by omega)
      obtain ⟨a1, a2⟩ := okw_cut (z := z3) (a := none) (b := some P) o3
      obtain ⟨b1, b2⟩ := okw_cut (z := z3) (a := some (P + 1)) (b := none) o3
      have a3 := add_s (a := L2.cutS z3 none (some P)) (b := w) (by omega)
      have a4 := add_s (a := L2.cutS z3 none (some P) ++ w) (b := L2.cutS z3 (some (P + 1)) none) (by rw [len_app]; omega)
      exact ⟨_, by simp [q, h1, h2, a3, a4, fdivV_l, hw], okw_app (okw_app a1 wo) b1, by rw [len_app, len_app]; omega⟩
    · exact ⟨z3, by simp [q], o3, by omega⟩
  refine stage e4 ?_
  obtain ⟨v, e5, tv⟩ : ∃ v, eS (callF B NM 23) (nmAt NM 23) [.fz (.scr ns), .no, .fz (.int c), .no, .no, .fz (rowsV true R), .fz (.int (n : Int)), .no, .fz (.int P), .no, .fz (rowsV true R), .fz (.str z4), .fz T12, .fz (.int W)] (.iff [] (.cmp .eq (.var 13) (.int 5)) (.cons (.asg [] 11 (.call "_law_odd" (.cons (.var 2) .nil))) .nil) .nil) = .nx [.fz (.scr ns), .no, .fz (.int c), .no, .no, .fz (rowsV true R), .fz (.int (n : Int)), .no, .fz (.int P), .no, .fz (rowsV true R), .fz v, .fz T12, .fz (.int W)] ∧ Txty v := by
    by_cases q : W = 5
    · obtain ⟨v, hv, tv⟩ := law_odd (nm := NM) (l := 22) (i := c)
      exact ⟨v, by simp [q, hv], tv⟩
    · exact ⟨.str z4, by simp [q], .inl ⟨z4, rfl, good_of o4 l4⟩⟩
  refine stage e5 ?_
  exact end_ok tv
end K14

namespace K14
open PySem PySem.Spec PyProof.Rows L2 SG
theorem scN : FnScope ["_law_e", "_law_some"] ["_law_e"] (defScope (topS 37)) := ⟨rfl, rfl, rfl, by decide +kernel, rfl, by decide +kernel, by decide +kernel⟩
theorem walk_names {K : PySem.W.Frag} {mg : Str → Option Value} {C1 C2 C3 C4 C5 C6 : Addr} (m1 : mg "BadRows" = some (.ref C1)) (m2 : mg "BadPoint" = some (.ref C2)) (m3 : mg "BadWeights" = some (.ref C3)) (m4 : mg "BadSpot" = some (.ref C4)) (m5 : mg "BadText" = some (.ref C5)) (m6 : mg "TooMany" = some (.ref C6)) (mi : mg "isinstance" = none) (mv : mg "ValueError" = none) (X : Cx) (p : Addr × Obj) (D : Addr) (eK : X.K = K) (eM : X.mg = mg) (eN : X.N = (["_law_e", "_law_some"] : List Str)) (eS : X.env.scope = defScope (topS 37)) (hp : p ∈ X.pn) (hf : ∀ y, X.fn y = true) (E : ExcC K D) (hz : Zc (.ref D) none p.2) (hd : ∃ vs, p.2.data = .fields vs) :
    PSs X (defBody (topS 37)) (tNames K D p.1 [C1, C2, C3, C4, C5, C6] ["rows", "point", "weights", "spot", "text", "many"]) := by
  subst eK; subst eM
  have gl : ∀ x, globB (defScope (topS 37)) x = true → Gl X x := fun x h => by show X.env.scope.names.lookup x = _; rw [eS]; exact of_decide_eq_true h
  have v0 : ∀ {pos : Pos}, PE X (.Name "_law_e" pos) (tVar 0) := pe_var (by rw [eN]; rfl) (by rw [eS]; exact .inl (by decide +kernel)) (by decide) (by decide)
  have v1 : ∀ {pos : Pos}, PE X (.Name "_law_some" pos) (tVar 1) := pe_var (by rw [eN]; rfl) (by rw [eS]; exact .inl (by decide +kernel)) (by decide) (by decide)
  have nd : X.N.Nodup := by rw [eN]; decide +kernel
  have n1 : X.N[1]? = some ("_law_some" : Str) := by rw [eN]; rfl
  have l1 : Loc X.env.scope "_law_some" := by rw [eS]; exact .inl (by decide +kernel)
  have is : ∀ {x : Str} {v : V} {q1 q2 q3 pos : Pos}, PE X (.Name x q3) (tC v) → PE X (.Call (.Name "isinstance" q1) [.Name "_law_e" q2, .Name x q3] [] pos) (isT X.K D p.1 v) := fun h => pe_callB (call_isP hp E hz hd) (gl _ (by decide +kernel)) mi PyProof.Rows.boot_isinstance (pa_cons v0 (pa_cons h pa_nil))
  have c1 : ∀ {pos : Pos}, PE X (.Name "BadRows" pos) (tC (.ref C1)) := pe_glob (gl _ (by decide +kernel)) m1 rfl (by decide)
  have c2 : ∀ {pos : Pos}, PE X (.Name "BadPoint" pos) (tC (.ref C2)) := pe_glob (gl _ (by decide +kernel)) m2 rfl (by decide)
  have c3 : ∀ {pos : Pos}, PE X (.Name "BadWeights" pos) (tC (.ref C3)) := pe_glob (gl _ (by decide +kernel)) m3 rfl (by decide)
  have c4 : ∀ {pos : Pos}, PE X (.Name "BadSpot" pos) (tC (.ref C4)) := pe_glob (gl _ (by decide +kernel)) m4 rfl (by decide)
  have c5 : ∀ {pos : Pos}, PE X (.Name "BadText" pos) (tC (.ref C5)) := pe_glob (gl _ (by decide +kernel)) m5 rfl (by decide)
  have c6 : ∀ {pos : Pos}, PE X (.Name "TooMany" pos) (tC (.ref C6)) := pe_glob (gl _ (by decide +kernel)) m6 rfl (by decide)
  have cv : ∀ {pos : Pos}, PE X (.Name "ValueError" pos) (tC (.ty "ValueError")) := pe_bltn (gl _ (by decide +kernel)) mv (u := .type "ValueError") (by decide +kernel) rfl (by decide) (by decide)
  exact pss_cons (ps_set nd n1 l1 (pe_lst (pa_cons (is c1) (pa_cons (is c2) (pa_cons (is c3) (pa_cons (is c4) pa_nil))))) rfl (.inl (hf _)))
    (pss_cons (ps_set nd n1 l1 (pe_op op_cat v1 (pe_lst (pa_cons (is c5) (pa_cons (is c6) pa_nil)))) rfl (.inl (hf _)))
    (pss_cons (ps_if (PW.pt (pw_or (pt_not (pt_val (is cv))) (pw_or1 (pt_cmpR op_ne (pe_bm PySem.F.plainAttrs_list PySem.F.slot_list_count PySem.F.type_list_count mt_countF v1 (pa_cons pe_bl pa_nil)) pe_int (nomark _))))) pss_never pss_nil)
    (pss_one (ps_ret (pe_tup (pa_cons (pe_ix ix_list (pe_lst (pa_cons pe_str (pa_cons pe_str (pa_cons pe_str (pa_cons pe_str (pa_cons pe_str (pa_cons pe_str pa_nil))))))) (pe_bm PySem.F.plainAttrs_list PySem.F.slot_list_index PySem.F.type_list_index mt_index v1 (pa_cons pe_bl pa_nil)) (fun _ _ => rfl)) pa_nil))))))
set_option maxHeartbeats 0 in
theorem all_mk {P : Program} {w : World} {K : PySem.W.Frag} {h : Heap} {mg : Str → Option Value} {fa : Addr} (X : K.In h) (G : h.Ns mainGlobals mg) (hfa : mg "law" = some (.ref fa))
    {f0 f1 f2 f3 f4 f5 f6 f7 f8 f9 f10 f11 f12 f13 f14 f15 f16 f17 f18 f19 f20 f21 f22 f23 f24 f25 f26 f27 : Addr} {od0 an0 od1 an1 od2 an2 od3 an3 od4 an4 od5 an5 od6 an6 od7 an7 od8 an8 od9 an9 od10 an10 od11 an11 od12 an12 od13 an13 od14 an14 od15 an15 od16 an16 od17 an17 od18 an18 od19 an19 od20 an20 od21 an21 od22 an22 od23 an23 od24 an24 od25 an25 od26 an26 od27 an27 : Option Addr} {sl0 sl1 sl2 sl3 sl4 sl5 sl6 sl7 sl8 sl9 sl10 sl11 sl12 sl13 sl14 sl15 sl16 sl17 sl18 sl19 sl20 sl21 sl22 sl23 sl24 sl25 sl26 sl27 : Array (Option Value)}
    {oc0 kV0 dc0 pm0 cd0 ct0 oc1 kV1 dc1 pm1 cd1 ct1 oc2 kV2 dc2 pm2 cd2 ct2 oc3 kV3 dc3 pm3 cd3 ct3 oc4 kV4 dc4 pm4 cd4 ct4 oc5 kV5 dc5 pm5 cd5 ct5 oc6 kV6 dc6 pm6 cd6 ct6 oc7 kV7 dc7 pm7 cd7 ct7 oc8 kV8 dc8 pm8 cd8 ct8 oc9 kV9 dc9 pm9 cd9 ct9 oc10 kV10 dc10 pm10 cd10 ct10 oc11 kV11 dc11 pm11 cd11 ct11 oc12 kV12 dc12 pm12 cd12 ct12 oc13 kV13 dc13 pm13 cd13 ct13 oc14 kV14 dc14 pm14 cd14 ct14 oc15 kV15 dc15 pm15 cd15 ct15 oc16 kV16 dc16 pm16 cd16 ct16 oc17 kV17 dc17 pm17 cd17 ct17 oc18 kV18 dc18 pm18 cd18 ct18 oc19 kV19 dc19 pm19 cd19 ct19 oc20 kV20 dc20 pm20 cd20 ct20 oc21 kV21 dc21 pm21 cd21 ct21 oc22 kV22 dc22 pm22 cd22 ct22 oc23 kV23 dc23 pm23 cd23 ct23 oc24 kV24 dc24 pm24 cd24 ct24 oc25 kV25 dc25 pm25 cd25 ct25 oc26 kV26 dc26 pm26 cd26 ct26 oc27 kV27 dc27 pm27 cd27 ct27 : Value}
    (a0 : PySem.W.nsIn K mainGlobals "is_whole" = some (some (.ref f0))) (l0 : K.lookup f0 = some ⟨oc0, od0, .func (PySem.W.fnOf "is_whole" "is_whole" (defArgs (topS 9)) (defBody (topS 9)) (defScope (topS 9)) .none kV0 dc0 pm0 an0 cd0 ct0), sl0⟩) (c0 : PySem.W.codeIn K cd0 "is_whole" = true) (k0 : PySem.W.keepIn K (.ref f0) = true)
    (a1 : PySem.W.nsIn K mainGlobals "is_among" = some (some (.ref f1))) (l1 : K.lookup f1 = some ⟨oc1, od1, .func (PySem.W.fnOf "is_among" "is_among" (defArgs (topS 10)) (defBody (topS 10)) (defScope (topS 10)) .none kV1 dc1 pm1 an1 cd1 ct1), sl1⟩) (c1 : PySem.W.codeIn K cd1 "is_among" = true) (k1 : PySem.W.keepIn K (.ref f1) = true)
    (a2 : PySem.W.nsIn K mainGlobals "are_numbers" = some (some (.ref f2))) (l2 : K.lookup f2 = some ⟨oc2, od2, .func (PySem.W.fnOf "are_numbers" "are_numbers" (defArgs (topS 14)) (defBody (topS 14)) (defScope (topS 14)) .none kV2 dc2 pm2 an2 cd2 ct2), sl2⟩) (c2 : PySem.W.codeIn K cd2 "are_numbers" = true) (k2 : PySem.W.keepIn K (.ref f2) = true)
    (a3 : PySem.W.nsIn K mainGlobals "need_lists" = some (some (.ref f3))) (l3 : K.lookup f3 = some ⟨oc3, od3, .func (PySem.W.fnOf "need_lists" "need_lists" (defArgs (topS 15)) (defBody (topS 15)) (defScope (topS 15)) .none kV3 dc3 pm3 an3 cd3 ct3), sl3⟩) (c3 : PySem.W.codeIn K cd3 "need_lists" = true) (k3 : PySem.W.keepIn K (.ref f3) = true)
    (a4 : PySem.W.nsIn K mainGlobals "crossed" = some (some (.ref f4))) (l4 : K.lookup f4 = some ⟨oc4, od4, .func (PySem.W.fnOf "crossed" "crossed" (defArgs (topS 16)) (defBody (topS 16)) (defScope (topS 16)) .none kV4 dc4 pm4 an4 cd4 ct4), sl4⟩) (c4 : PySem.W.codeIn K cd4 "crossed" = true) (k4 : PySem.W.keepIn K (.ref f4) = true)
    (a5 : PySem.W.nsIn K mainGlobals "inner" = some (some (.ref f5))) (l5 : K.lookup f5 = some ⟨oc5, od5, .func (PySem.W.fnOf "inner" "inner" (defArgs (topS 17)) (defBody (topS 17)) (defScope (topS 17)) .none kV5 dc5 pm5 an5 cd5 ct5), sl5⟩) (c5 : PySem.W.codeIn K cd5 "inner" = true) (k5 : PySem.W.keepIn K (.ref f5) = true)
    (a6 : PySem.W.nsIn K mainGlobals "counters_of" = some (some (.ref f6))) (l6 : K.lookup f6 = some ⟨oc6, od6, .func (PySem.W.fnOf "counters_of" "counters_of" (defArgs (topS 18)) (defBody (topS 18)) (defScope (topS 18)) .none kV6 dc6 pm6 an6 cd6 ct6), sl6⟩) (c6 : PySem.W.codeIn K cd6 "counters_of" = true) (k6 : PySem.W.keepIn K (.ref f6) = true)
    (a7 : PySem.W.nsIn K mainGlobals "bulk_of" = some (some (.ref f7))) (l7 : K.lookup f7 = some ⟨oc7, od7, .func (PySem.W.fnOf "bulk_of" "bulk_of" (defArgs (topS 19)) (defBody (topS 19)) (defScope (topS 19)) .none kV7 dc7 pm7 an7 cd7 ct7), sl7⟩) (c7 : PySem.W.codeIn K cd7 "bulk_of" = true) (k7 : PySem.W.keepIn K (.ref f7) = true)
    (a8 : PySem.W.nsIn K mainGlobals "need_rows" = some (some (.ref f8))) (l8 : K.lookup f8 = some ⟨oc8, od8, .func (PySem.W.fnOf "need_rows" "need_rows" (defArgs (topS 20)) (defBody (topS 20)) (defScope (topS 20)) .none kV8 dc8 pm8 an8 cd8 ct8), sl8⟩) (c8 : PySem.W.codeIn K cd8 "need_rows" = true) (k8 : PySem.W.keepIn K (.ref f8) = true)
    (a9 : PySem.W.nsIn K mainGlobals "shown" = some (some (.ref f9))) (l9 : K.lookup f9 = some ⟨oc9, od9, .func (PySem.W.fnOf "shown" "shown" (defArgs (topS 24)) (defBody (topS 24)) (defScope (topS 24)) .none kV9 dc9 pm9 an9 cd9 ct9), sl9⟩) (c9 : PySem.W.codeIn K cd9 "shown" = true) (k9 : PySem.W.keepIn K (.ref f9) = true)
    (a10 : PySem.W.nsIn K mainGlobals "number_in" = some (some (.ref f10))) (l10 : K.lookup f10 = some ⟨oc10, od10, .func (PySem.W.fnOf "number_in" "number_in" (defArgs (topS 25)) (defBody (topS 25)) (defScope (topS 25)) .none kV10 dc10 pm10 an10 cd10 ct10), sl10⟩) (c10 : PySem.W.codeIn K cd10 "number_in" = true) (k10 : PySem.W.keepIn K (.ref f10) = true)
    (a11 : PySem.W.nsIn K mainGlobals "read" = some (some (.ref f11))) (l11 : K.lookup f11 = some ⟨oc11, od11, .func (PySem.W.fnOf "read" "read" (defArgs (topS 26)) (defBody (topS 26)) (defScope (topS 26)) .none kV11 dc11 pm11 an11 cd11 ct11), sl11⟩) (c11 : PySem.W.codeIn K cd11 "read" = true) (k11 : PySem.W.keepIn K (.ref f11) = true)
    (a12 : PySem.W.nsIn K mainGlobals "_law_cell" = some (some (.ref f12))) (l12 : K.lookup f12 = some ⟨oc12, od12, .func (PySem.W.fnOf "_law_cell" "_law_cell" (defArgs (topS 28)) (defBody (topS 28)) (defScope (topS 28)) .none kV12 dc12 pm12 an12 cd12 ct12), sl12⟩) (c12 : PySem.W.codeIn K cd12 "_law_cell" = true) (k12 : PySem.W.keepIn K (.ref f12) = true)
    (a13 : PySem.W.nsIn K mainGlobals "_law_more" = some (some (.ref f13))) (l13 : K.lookup f13 = some ⟨oc13, od13, .func (PySem.W.fnOf "_law_more" "_law_more" (defArgs (topS 29)) (defBody (topS 29)) (defScope (topS 29)) .none kV13 dc13 pm13 an13 cd13 ct13), sl13⟩) (c13 : PySem.W.codeIn K cd13 "_law_more" = true) (k13 : PySem.W.keepIn K (.ref f13) = true)
    (a14 : PySem.W.nsIn K mainGlobals "_law_whole" = some (some (.ref f14))) (l14 : K.lookup f14 = some ⟨oc14, od14, .func (PySem.W.fnOf "_law_whole" "_law_whole" (defArgs (topS 30)) (defBody (topS 30)) (defScope (topS 30)) .none kV14 dc14 pm14 an14 cd14 ct14), sl14⟩) (c14 : PySem.W.codeIn K cd14 "_law_whole" = true) (k14 : PySem.W.keepIn K (.ref f14) = true)
    (a15 : PySem.W.nsIn K mainGlobals "_law_without" = some (some (.ref f15))) (l15 : K.lookup f15 = some ⟨oc15, od15, .func (PySem.W.fnOf "_law_without" "_law_without" (defArgs (topS 31)) (defBody (topS 31)) (defScope (topS 31)) .none kV15 dc15 pm15 an15 cd15 ct15), sl15⟩) (c15 : PySem.W.codeIn K cd15 "_law_without" = true) (k15 : PySem.W.keepIn K (.ref f15) = true)
    (a16 : PySem.W.nsIn K mainGlobals "_law_bulk" = some (some (.ref f16))) (l16 : K.lookup f16 = some ⟨oc16, od16, .func (PySem.W.fnOf "_law_bulk" "_law_bulk" (defArgs (topS 32)) (defBody (topS 32)) (defScope (topS 32)) .none kV16 dc16 pm16 an16 cd16 ct16), sl16⟩) (c16 : PySem.W.codeIn K cd16 "_law_bulk" = true) (k16 : PySem.W.keepIn K (.ref f16) = true)
    (a17 : PySem.W.nsIn K mainGlobals "_law_drawn" = some (some (.ref f17))) (l17 : K.lookup f17 = some ⟨oc17, od17, .func (PySem.W.fnOf "_law_drawn" "_law_drawn" (defArgs (topS 33)) (defBody (topS 33)) (defScope (topS 33)) .none kV17 dc17 pm17 an17 cd17 ct17), sl17⟩) (c17 : PySem.W.codeIn K cd17 "_law_drawn" = true) (k17 : PySem.W.keepIn K (.ref f17) = true)
    (a18 : PySem.W.nsIn K mainGlobals "_law_rows" = some (some (.ref f18))) (l18 : K.lookup f18 = some ⟨oc18, od18, .func (PySem.W.fnOf "_law_rows" "_law_rows" (defArgs (topS 34)) (defBody (topS 34)) (defScope (topS 34)) .none kV18 dc18 pm18 an18 cd18 ct18), sl18⟩) (c18 : PySem.W.codeIn K cd18 "_law_rows" = true) (k18 : PySem.W.keepIn K (.ref f18) = true)
    (a19 : PySem.W.nsIn K mainGlobals "_law_tuple" = some (some (.ref f19))) (l19 : K.lookup f19 = some ⟨oc19, od19, .func (PySem.W.fnOf "_law_tuple" "_law_tuple" (defArgs (topS 35)) (defBody (topS 35)) (defScope (topS 35)) .none kV19 dc19 pm19 an19 cd19 ct19), sl19⟩) (c19 : PySem.W.codeIn K cd19 "_law_tuple" = true) (k19 : PySem.W.keepIn K (.ref f19) = true)
    (a20 : PySem.W.nsIn K mainGlobals "_law_rows_told" = some (some (.ref f20))) (l20 : K.lookup f20 = some ⟨oc20, od20, .func (PySem.W.fnOf "_law_rows_told" "_law_rows_told" (defArgs (topS 36)) (defBody (topS 36)) (defScope (topS 36)) .none kV20 dc20 pm20 an20 cd20 ct20), sl20⟩) (c20 : PySem.W.codeIn K cd20 "_law_rows_told" = true) (k20 : PySem.W.keepIn K (.ref f20) = true)
    (a21 : PySem.W.nsIn K mainGlobals "_law_sign" = some (some (.ref f21))) (l21 : K.lookup f21 = some ⟨oc21, od21, .func (PySem.W.fnOf "_law_sign" "_law_sign" (defArgs (topS 38)) (defBody (topS 38)) (defScope (topS 38)) .none kV21 dc21 pm21 an21 cd21 ct21), sl21⟩) (c21 : PySem.W.codeIn K cd21 "_law_sign" = true) (k21 : PySem.W.keepIn K (.ref f21) = true)
    (a22 : PySem.W.nsIn K mainGlobals "_law_odd" = some (some (.ref f22))) (l22 : K.lookup f22 = some ⟨oc22, od22, .func (PySem.W.fnOf "_law_odd" "_law_odd" (defArgs (topS 39)) (defBody (topS 39)) (defScope (topS 39)) .none kV22 dc22 pm22 an22 cd22 ct22), sl22⟩) (c22 : PySem.W.codeIn K cd22 "_law_odd" = true) (k22 : PySem.W.keepIn K (.ref f22) = true)
    (a23 : PySem.W.nsIn K mainGlobals "_law_number" = some (some (.ref f23))) (l23 : K.lookup f23 = some ⟨oc23, od23, .func (PySem.W.fnOf "_law_number" "_law_number" (defArgs (topS 40)) (defBody (topS 40)) (defScope (topS 40)) .none kV23 dc23 pm23 an23 cd23 ct23), sl23⟩) (c23 : PySem.W.codeIn K cd23 "_law_number" = true) (k23 : PySem.W.keepIn K (.ref f23) = true)
    (a24 : PySem.W.nsIn K mainGlobals "_law_due" = some (some (.ref f24))) (l24 : K.lookup f24 = some ⟨oc24, od24, .func (PySem.W.fnOf "_law_due" "_law_due" (defArgs (topS 41)) (defBody (topS 41)) (defScope (topS 41)) .none kV24 dc24 pm24 an24 cd24 ct24), sl24⟩) (c24 : PySem.W.codeIn K cd24 "_law_due" = true) (k24 : PySem.W.keepIn K (.ref f24) = true)
    (a25 : PySem.W.nsIn K mainGlobals "_law_read" = some (some (.ref f25))) (l25 : K.lookup f25 = some ⟨oc25, od25, .func (PySem.W.fnOf "_law_read" "_law_read" (defArgs (topS 42)) (defBody (topS 42)) (defScope (topS 42)) .none kV25 dc25 pm25 an25 cd25 ct25), sl25⟩) (c25 : PySem.W.codeIn K cd25 "_law_read" = true) (k25 : PySem.W.keepIn K (.ref f25) = true)
    (a26 : PySem.W.nsIn K mainGlobals "_law_shown" = some (some (.ref f26))) (l26 : K.lookup f26 = some ⟨oc26, od26, .func (PySem.W.fnOf "_law_shown" "_law_shown" (defArgs (topS 43)) (defBody (topS 43)) (defScope (topS 43)) .none kV26 dc26 pm26 an26 cd26 ct26), sl26⟩) (c26 : PySem.W.codeIn K cd26 "_law_shown" = true) (k26 : PySem.W.keepIn K (.ref f26) = true)
    (a27 : PySem.W.nsIn K mainGlobals "law" = some (some (.ref f27))) (l27 : K.lookup f27 = some ⟨oc27, od27, .func (PySem.W.fnOf "law" "law" (defArgs (topS 44)) (defBody (topS 44)) (defScope (topS 44)) .none kV27 dc27 pm27 an27 cd27 ct27), sl27⟩) (c27 : PySem.W.codeIn K cd27 "law" = true) (k27 : PySem.W.keepIn K (.ref f27) = true)
    (z0 : PySem.W.nsIn K mainGlobals "len" = some none)
    (z1 : PySem.W.nsIn K mainGlobals "abs" = some none)
    (z2 : PySem.W.nsIn K mainGlobals "int" = some none)
    (z3 : PySem.W.nsIn K mainGlobals "list" = some none)
    (z4 : PySem.W.nsIn K mainGlobals "tuple" = some none)
    (z5 : PySem.W.nsIn K mainGlobals "sum" = some none)
    (z6 : PySem.W.nsIn K mainGlobals "all" = some none)
    (z7 : PySem.W.nsIn K mainGlobals "max" = some none)
    (z8 : PySem.W.nsIn K mainGlobals "min" = some none)
    (z9 : PySem.W.nsIn K mainGlobals "bool" = some none)
    (z10 : PySem.W.nsIn K mainGlobals "str" = some none)
    (z11 : PySem.W.nsIn K mainGlobals "range" = some none)
    (z12 : PySem.W.nsIn K mainGlobals "zip" = some none)
    (z13 : PySem.W.nsIn K mainGlobals "enumerate" = some none)
    (z14 : PySem.W.nsIn K mainGlobals "isinstance" = some none)
    {ti0 : Tok} (gi0 : PySem.W.nsIn K mainGlobals "MOST_ROWS" = some (some (.int 3 ti0)))
    {ti1 : Tok} (gi1 : PySem.W.nsIn K mainGlobals "MOST_NUMBER" = some (some (.int 1000000 ti1)))
    {ti2 : Tok} (gi2 : PySem.W.nsIn K mainGlobals "MOST_FIGURES" = some (some (.int 7 ti2)))
    {ts0 : Tok} (gs0 : PySem.W.nsIn K mainGlobals "FIGURES" = some (some (.str "0123456789" ts0)))
    {C0 : Addr} (ca0 : PySem.W.nsIn K mainGlobals "GridError" = some (some (.ref C0))) (cx0 : PySem.W.excIn K C0 [.type "ValueError", .type "Exception", .type "BaseException", .type "object"] "ValueError.__new__" = true) (ck0 : PySem.W.keepIn K (.ref C0) = true) (cb0 : PySem.W.subIn K (.ref C0) (.type "BaseException") = some true) (ct0' : PySem.W.typeIn K (.ref C0) = some (.type "type"))
    (cm0 : PySem.W.exmOne K (.ref C0) (.ref C0) = some true)
    {C1 : Addr} (ca1 : PySem.W.nsIn K mainGlobals "BadRows" = some (some (.ref C1))) (cx1 : PySem.W.excIn K C1 [.type "ValueError", .type "Exception", .type "BaseException", .type "object"] "ValueError.__new__" = true) (ck1 : PySem.W.keepIn K (.ref C1) = true) (cb1 : PySem.W.subIn K (.ref C1) (.type "BaseException") = some true) (ct1' : PySem.W.typeIn K (.ref C1) = some (.type "type"))
    (cm1 : PySem.W.exmOne K (.ref C1) (.ref C1) = some true)
    {C2 : Addr} (ca2 : PySem.W.nsIn K mainGlobals "BadPoint" = some (some (.ref C2))) (cx2 : PySem.W.excIn K C2 [.type "ValueError", .type "Exception", .type "BaseException", .type "object"] "ValueError.__new__" = true) (ck2 : PySem.W.keepIn K (.ref C2) = true) (cb2 : PySem.W.subIn K (.ref C2) (.type "BaseException") = some true) (ct2' : PySem.W.typeIn K (.ref C2) = some (.type "type"))
    (cm2 : PySem.W.exmOne K (.ref C2) (.ref C2) = some true)
    {C3 : Addr} (ca3 : PySem.W.nsIn K mainGlobals "BadWeights" = some (some (.ref C3))) (cx3 : PySem.W.excIn K C3 [.type "ValueError", .type "Exception", .type "BaseException", .type "object"] "ValueError.__new__" = true) (ck3 : PySem.W.keepIn K (.ref C3) = true) (cb3 : PySem.W.subIn K (.ref C3) (.type "BaseException") = some true) (ct3' : PySem.W.typeIn K (.ref C3) = some (.type "type"))
    (cm3 : PySem.W.exmOne K (.ref C3) (.ref C3) = some true)
    {C4 : Addr} (ca4 : PySem.W.nsIn K mainGlobals "BadSpot" = some (some (.ref C4))) (cx4 : PySem.W.excIn K C4 [.type "ValueError", .type "Exception", .type "BaseException", .type "object"] "ValueError.__new__" = true) (ck4 : PySem.W.keepIn K (.ref C4) = true) (cb4 : PySem.W.subIn K (.ref C4) (.type "BaseException") = some true) (ct4' : PySem.W.typeIn K (.ref C4) = some (.type "type"))
    (cm4 : PySem.W.exmOne K (.ref C4) (.ref C4) = some true)
    {C5 : Addr} (ca5 : PySem.W.nsIn K mainGlobals "BadText" = some (some (.ref C5))) (cx5 : PySem.W.excIn K C5 [.type "ValueError", .type "Exception", .type "BaseException", .type "object"] "ValueError.__new__" = true) (ck5 : PySem.W.keepIn K (.ref C5) = true) (cb5 : PySem.W.subIn K (.ref C5) (.type "BaseException") = some true) (ct5' : PySem.W.typeIn K (.ref C5) = some (.type "type"))
    (cm5 : PySem.W.exmOne K (.ref C5) (.ref C5) = some true)
    {C6 : Addr} (ca6 : PySem.W.nsIn K mainGlobals "TooMany" = some (some (.ref C6))) (cx6 : PySem.W.excIn K C6 [.type "ValueError", .type "Exception", .type "BaseException", .type "object"] "ValueError.__new__" = true) (ck6 : PySem.W.keepIn K (.ref C6) = true) (cb6 : PySem.W.subIn K (.ref C6) (.type "BaseException") = some true) (ct6' : PySem.W.typeIn K (.ref C6) = some (.type "type"))
    (cm6 : PySem.W.exmOne K (.ref C6) (.ref C6) = some true)
    {fN : Addr} {odN anN : Option Addr} {slN : Array (Option Value)} {ocN kVN dcN pmN cdN ctN : Value} (aN : PySem.W.nsIn K mainGlobals "_law_names" = some (some (.ref fN))) (lN : K.lookup fN = some ⟨ocN, odN, .func (PySem.W.fnOf "_law_names" "_law_names" (defArgs (topS 37)) (defBody (topS 37)) (defScope (topS 37)) .none kVN dcN pmN anN cdN ctN), slN⟩) (cN : PySem.W.codeIn K cdN "_law_names" = true) (kN : PySem.W.keepIn K (.ref fN) = true)
    (zv : PySem.W.nsIn K mainGlobals "ValueError" = some none) (na : PySem.W.specialIn K (.builtin "object.__class__") "__get__" = some (some (.builtin "getset_descriptor.__get__"))) (nt : PySem.W.takesIn K (.builtin "object.__class__") = some true)
    (r1g : PySem.W.findIn K (.ref C1) "__getattribute__" = some (some (.builtin "BaseException.__getattribute__"))) (r1k : PySem.W.findIn K (.ref C1) "__getattr__" = some none) (r1d : PySem.W.hasDictIn K C1 = true) (r1a : PySem.W.findIn K (.ref C1) "__class__" = some (some (.builtin "object.__class__"))) (r1m : PySem.W.mroIn K C1 (.type "object") = some true)
    (r1v : PySem.W.kitOne K (.ref C1) (.type "ValueError") = some true) (r1e : PySem.W.exmOne K (.ref C1) (.ref C0) = some true)
    (r1t1 : PySem.W.kitOne K (.ref C1) (.ref C1) = some true) (r1t2 : PySem.W.kitOne K (.ref C1) (.ref C2) = some false) (r1t3 : PySem.W.kitOne K (.ref C1) (.ref C3) = some false) (r1t4 : PySem.W.kitOne K (.ref C1) (.ref C4) = some false) (r1t5 : PySem.W.kitOne K (.ref C1) (.ref C5) = some false) (r1t6 : PySem.W.kitOne K (.ref C1) (.ref C6) = some false)
    (r5g : PySem.W.findIn K (.ref C5) "__getattribute__" = some (some (.builtin "BaseException.__getattribute__"))) (r5k : PySem.W.findIn K (.ref C5) "__getattr__" = some none) (r5d : PySem.W.hasDictIn K C5 = true) (r5a : PySem.W.findIn K (.ref C5) "__class__" = some (some (.builtin "object.__class__"))) (r5m : PySem.W.mroIn K C5 (.type "object") = some true)
    (r5v : PySem.W.kitOne K (.ref C5) (.type "ValueError") = some true) (r5e : PySem.W.exmOne K (.ref C5) (.ref C0) = some true)
    (r5t1 : PySem.W.kitOne K (.ref C5) (.ref C1) = some false) (r5t2 : PySem.W.kitOne K (.ref C5) (.ref C2) = some false) (r5t3 : PySem.W.kitOne K (.ref C5) (.ref C3) = some false) (r5t4 : PySem.W.kitOne K (.ref C5) (.ref C4) = some false) (r5t5 : PySem.W.kitOne K (.ref C5) (.ref C5) = some true) (r5t6 : PySem.W.kitOne K (.ref C5) (.ref C6) = some false)
    (hp : ∀ ns : List Int, ns.length ≤ 63 → callF B NM 24 "law" [.scr ns] = .ok (.bl true)) :
    ∃ fd : FuncData, (∀ (s : Shared) (v : Value), BindsTo s fd ⟨[v], []⟩ [("_law_script", v)]) ∧ ∀ base : Heap, K.In base → base.Ns mainGlobals mg → FnOk P w K mg base (L2.CX P w) 24 fa fd ["_law_script"] (spScr K) := by
  have e := hfa.symm.trans (PySem.W.mg_of X G a27)
  cases e
  have F0 := fun_mk (st := topS 9) l0 c0 k0
  have b0 := F0.binds (ps := ["thing"]) fun _ _ _ _ _ _ us hl => match us, hl with | [_], _ => rfl
  have D0 : DefP K mg cp B "is_whole" _ _ _ := ⟨false, _, _, _, _, _, F0, PySem.W.mg_of X G a0, b0, sc0, cs0, rfl⟩
  have DN0 : DefP K mg cpN B "is_whole" _ _ _ := ⟨false, _, _, _, _, _, F0, PySem.W.mg_of X G a0, b0, sc0, csN0, rfl⟩
  have F1 := fun_mk (st := topS 10) l1 c1 k1
  have b1 := F1.binds (ps := ["thing", "least", "most"]) fun _ _ _ _ _ _ us hl => match us, hl with | [_, _, _], _ => rfl
  have D1 : DefP K mg cp B "is_among" _ _ _ := ⟨false, _, _, _, _, _, F1, PySem.W.mg_of X G a1, b1, sc1, cs1, rfl⟩
  have DN1 : DefP K mg cpN B "is_among" _ _ _ := ⟨false, _, _, _, _, _, F1, PySem.W.mg_of X G a1, b1, sc1, csN1, rfl⟩
  have F2 := fun_mk (st := topS 14) l2 c2 k2
  have b2 := F2.binds (ps := ["things", "many", "most"]) fun _ _ _ _ _ _ us hl => match us, hl with | [_, _, _], _ => rfl
  have D2 : DefP K mg cp B "are_numbers" _ _ _ := ⟨false, _, _, _, _, _, F2, PySem.W.mg_of X G a2, b2, sc2, cs2, rfl⟩
  have DN2 : DefP K mg cpN B "are_numbers" _ _ _ := ⟨false, _, _, _, _, _, F2, PySem.W.mg_of X G a2, b2, sc2, csN2, rfl⟩
  have F3 := fun_mk (st := topS 15) l3 c3 k3
  have b3 := F3.binds (ps := ["rows"]) fun _ _ _ _ _ _ us hl => match us, hl with | [_], _ => rfl
  have D3 : DefP K mg cp B "need_lists" _ _ _ := ⟨false, _, _, _, _, _, F3, PySem.W.mg_of X G a3, b3, sc3, cs3, rfl⟩
  have DN3 : DefP K mg cpN B "need_lists" _ _ _ := ⟨false, _, _, _, _, _, F3, PySem.W.mg_of X G a3, b3, sc3, csN3, rfl⟩
  have F4 := fun_mk (st := topS 16) l4 c4 k4
  have b4 := F4.binds (ps := ["one", "other"]) fun _ _ _ _ _ _ us hl => match us, hl with | [_, _], _ => rfl
  have D4 : DefP K mg cp B "crossed" _ _ _ := ⟨false, _, _, _, _, _, F4, PySem.W.mg_of X G a4, b4, sc4, cs4, rfl⟩
  have DN4 : DefP K mg cpN B "crossed" _ _ _ := ⟨false, _, _, _, _, _, F4, PySem.W.mg_of X G a4, b4, sc4, csN4, rfl⟩
  have F5 := fun_mk (st := topS 17) l5 c5 k5
  have b5 := F5.binds (ps := ["one", "other"]) fun _ _ _ _ _ _ us hl => match us, hl with | [_, _], _ => rfl
  have D5 : DefP K mg cp B "inner" _ _ _ := ⟨false, _, _, _, _, _, F5, PySem.W.mg_of X G a5, b5, sc5, cs5, rfl⟩
  have DN5 : DefP K mg cpN B "inner" _ _ _ := ⟨false, _, _, _, _, _, F5, PySem.W.mg_of X G a5, b5, sc5, csN5, rfl⟩
  have F6 := fun_mk (st := topS 18) l6 c6 k6
  have b6 := F6.binds (ps := ["rows"]) fun _ _ _ _ _ _ us hl => match us, hl with | [_], _ => rfl
  have D6 : DefP K mg cp B "counters_of" _ _ _ := ⟨false, _, _, _, _, _, F6, PySem.W.mg_of X G a6, b6, sc6, cs6, rfl⟩
  have DN6 : DefP K mg cpN B "counters_of" _ _ _ := ⟨false, _, _, _, _, _, F6, PySem.W.mg_of X G a6, b6, sc6, csN6, rfl⟩
  have F7 := fun_mk (st := topS 19) l7 c7 k7
  have b7 := F7.binds (ps := ["rows"]) fun _ _ _ _ _ _ us hl => match us, hl with | [_], _ => rfl
  have D7 : DefP K mg cp B "bulk_of" _ _ _ := ⟨false, _, _, _, _, _, F7, PySem.W.mg_of X G a7, b7, sc7, cs7, rfl⟩
  have DN7 : DefP K mg cpN B "bulk_of" _ _ _ := ⟨false, _, _, _, _, _, F7, PySem.W.mg_of X G a7, b7, sc7, csN7, rfl⟩
  have F8 := fun_mk (st := topS 20) l8 c8 k8
  have b8 := F8.binds (ps := ["rows"]) fun _ _ _ _ _ _ us hl => match us, hl with | [_], _ => rfl
  have D8 : DefP K mg cp B "need_rows" _ _ _ := ⟨false, _, _, _, _, _, F8, PySem.W.mg_of X G a8, b8, sc8, cs8, rfl⟩
  have DN8 : DefP K mg cpN B "need_rows" _ _ _ := ⟨false, _, _, _, _, _, F8, PySem.W.mg_of X G a8, b8, sc8, csN8, rfl⟩
  have F9 := fun_mk (st := topS 24) l9 c9 k9
  have b9 := F9.binds (ps := ["rows"]) fun _ _ _ _ _ _ us hl => match us, hl with | [_], _ => rfl
  have D9 : DefP K mg cp B "shown" _ _ _ := ⟨false, _, _, _, _, _, F9, PySem.W.mg_of X G a9, b9, sc9, cs9, rfl⟩
  have F10 := fun_mk (st := topS 25) l10 c10 k10
  have b10 := F10.binds (ps := ["word"]) fun _ _ _ _ _ _ us hl => match us, hl with | [_], _ => rfl
  have D10 : DefP K mg cp B "number_in" _ _ _ := ⟨false, _, _, _, _, _, F10, PySem.W.mg_of X G a10, b10, sc10, cs10, rfl⟩
  have F11 := fun_mk (st := topS 26) l11 c11 k11
  have b11 := F11.binds (ps := ["text"]) fun _ _ _ _ _ _ us hl => match us, hl with | [_], _ => rfl
  have D11 : DefP K mg cp B "read" _ _ _ := ⟨true, _, _, _, _, _, F11, PySem.W.mg_of X G a11, b11, sc11, cs11, rfl⟩
  have F12 := fun_mk (st := topS 28) l12 c12 k12
  have b12 := F12.binds (ps := ["_law_script", "_law_k"]) fun _ _ _ _ _ _ us hl => match us, hl with | [_, _], _ => rfl
  have D12 : DefP K mg cp B "_law_cell" _ _ _ := ⟨false, _, _, _, _, _, F12, PySem.W.mg_of X G a12, b12, sc12, cs12, rfl⟩
  have F13 := fun_mk (st := topS 29) l13 c13 k13
  have b13 := F13.binds (ps := ["_law_script", "_law_k"]) fun _ _ _ _ _ _ us hl => match us, hl with | [_, _], _ => rfl
  have D13 : DefP K mg cp B "_law_more" _ _ _ := ⟨false, _, _, _, _, _, F13, PySem.W.mg_of X G a13, b13, sc13, cs13, rfl⟩
  have F14 := fun_mk (st := topS 30) l14 c14 k14
  have b14 := F14.binds (ps := ["_law_found"]) fun _ _ _ _ _ _ us hl => match us, hl with | [_], _ => rfl
  have D14 : DefP K mg cp B "_law_whole" _ _ _ := ⟨false, _, _, _, _, _, F14, PySem.W.mg_of X G a14, b14, sc14, cs14, rfl⟩
  have F15 := fun_mk (st := topS 31) l15 c15 k15
  have b15 := F15.binds (ps := ["_law_row", "_law_k"]) fun _ _ _ _ _ _ us hl => match us, hl with | [_, _], _ => rfl
  have D15 : DefP K mg cp B "_law_without" _ _ _ := ⟨false, _, _, _, _, _, F15, PySem.W.mg_of X G a15, b15, sc15, cs15, rfl⟩
  have F16 := fun_mk (st := topS 32) l16 c16 k16
  have b16 := F16.binds (ps := ["_law_rows_here"]) fun _ _ _ _ _ _ us hl => match us, hl with | [_], _ => rfl
  have D16 : DefP K mg cp B "_law_bulk" _ _ _ := ⟨false, _, _, _, _, _, F16, PySem.W.mg_of X G a16, b16, sc16, cs16, rfl⟩
  have F17 := fun_mk (st := topS 33) l17 c17 k17
  have b17 := F17.binds (ps := ["_law_script", "_law_first", "_law_many", "_law_most"]) fun _ _ _ _ _ _ us hl => match us, hl with | [_, _, _, _], _ => rfl
  have D17 : DefP K mg cp B "_law_drawn" _ _ _ := ⟨false, _, _, _, _, _, F17, PySem.W.mg_of X G a17, b17, sc17, cs17, rfl⟩
  have F18 := fun_mk (st := topS 34) l18 c18 k18
  have b18 := F18.binds (ps := ["_law_script", "_law_first", "_law_many", "_law_most"]) fun _ _ _ _ _ _ us hl => match us, hl with | [_, _, _, _], _ => rfl
  have D18 : DefP K mg cp B "_law_rows" _ _ _ := ⟨false, _, _, _, _, _, F18, PySem.W.mg_of X G a18, b18, sc18, cs18, rfl⟩
  have F19 := fun_mk (st := topS 35) l19 c19 k19
  have b19 := F19.binds (ps := ["_law_found", "_law_many"]) fun _ _ _ _ _ _ us hl => match us, hl with | [_, _], _ => rfl
  have D19 : DefP K mg cp B "_law_tuple" _ _ _ := ⟨false, _, _, _, _, _, F19, PySem.W.mg_of X G a19, b19, sc19, cs19, rfl⟩
  have F20 := fun_mk (st := topS 36) l20 c20 k20
  have b20 := F20.binds (ps := ["_law_found", "_law_many"]) fun _ _ _ _ _ _ us hl => match us, hl with | [_, _], _ => rfl
  have D20 : DefP K mg cp B "_law_rows_told" _ _ _ := ⟨false, _, _, _, _, _, F20, PySem.W.mg_of X G a20, b20, sc20, cs20, rfl⟩
  have F21 := fun_mk (st := topS 38) l21 c21 k21
  have b21 := F21.binds (ps := ["_law_cell_here"]) fun _ _ _ _ _ _ us hl => match us, hl with | [_], _ => rfl
  have D21 : DefP K mg cp B "_law_sign" _ _ _ := ⟨false, _, _, _, _, _, F21, PySem.W.mg_of X G a21, b21, sc21, cs21, rfl⟩
  have F22 := fun_mk (st := topS 39) l22 c22 k22
  have b22 := F22.binds (ps := ["_law_cell_here"]) fun _ _ _ _ _ _ us hl => match us, hl with | [_], _ => rfl
  have D22 : DefP K mg cp B "_law_odd" _ _ _ := ⟨false, _, _, _, _, _, F22, PySem.W.mg_of X G a22, b22, sc22, cs22, rfl⟩
  have F23 := fun_mk (st := topS 40) l23 c23 k23
  have b23 := F23.binds (ps := ["_law_word"]) fun _ _ _ _ _ _ us hl => match us, hl with | [_], _ => rfl
  have D23 : DefP K mg cp B "_law_number" _ _ _ := ⟨false, _, _, _, _, _, F23, PySem.W.mg_of X G a23, b23, sc23, cs23, rfl⟩
  have F24 := fun_mk (st := topS 41) l24 c24 k24
  have b24 := F24.binds (ps := ["_law_text"]) fun _ _ _ _ _ _ us hl => match us, hl with | [_], _ => rfl
  have D24 : DefP K mg cp B "_law_due" _ _ _ := ⟨false, _, _, _, _, _, F24, PySem.W.mg_of X G a24, b24, sc24, cs24, rfl⟩
  have F25 := fun_mk (st := topS 42) l25 c25 k25
  have b25 := F25.binds (ps := ["_law_text"]) fun _ _ _ _ _ _ us hl => match us, hl with | [_], _ => rfl
  have D25 : DefP K mg cp B "_law_read" _ _ _ := ⟨false, _, _, _, _, _, F25, PySem.W.mg_of X G a25, b25, sc25, cs25, rfl⟩
  have F26 := fun_mk (st := topS 43) l26 c26 k26
  have b26 := F26.binds (ps := ["_law_rows_here"]) fun _ _ _ _ _ _ us hl => match us, hl with | [_], _ => rfl
  have D26 : DefP K mg cp B "_law_shown" _ _ _ := ⟨false, _, _, _, _, _, F26, PySem.W.mg_of X G a26, b26, sc26, cs26, rfl⟩
  have F27 := fun_mk (st := topS 44) l27 c27 k27
  have b27 := F27.binds (ps := ["_law_script"]) fun _ _ _ _ _ _ us hl => match us, hl with | [_], _ => rfl
  have D27 : DefP K mg cp B "law" _ _ _ := ⟨false, _, _, _, _, _, F27, PySem.W.mg_of X G a27, b27, sc27, cs27, rfl⟩
  have D : ∀ x, cp.ns.contains x = true → DefF K mg cp B x := ns_cons ⟨_, _, _, D0⟩ <| ns_cons ⟨_, _, _, D1⟩ <| ns_cons ⟨_, _, _, D2⟩ <| ns_cons ⟨_, _, _, D3⟩ <| ns_cons ⟨_, _, _, D4⟩ <| ns_cons ⟨_, _, _, D5⟩ <| ns_cons ⟨_, _, _, D6⟩ <| ns_cons ⟨_, _, _, D7⟩ <| ns_cons ⟨_, _, _, D8⟩ <| ns_cons ⟨_, _, _, D9⟩ <| ns_cons ⟨_, _, _, D10⟩ <| ns_cons ⟨_, _, _, D11⟩ <| ns_cons ⟨_, _, _, D12⟩ <| ns_cons ⟨_, _, _, D13⟩ <| ns_cons ⟨_, _, _, D14⟩ <| ns_cons ⟨_, _, _, D15⟩ <| ns_cons ⟨_, _, _, D16⟩ <| ns_cons ⟨_, _, _, D17⟩ <| ns_cons ⟨_, _, _, D18⟩ <| ns_cons ⟨_, _, _, D19⟩ <| ns_cons ⟨_, _, _, D20⟩ <| ns_cons ⟨_, _, _, D21⟩ <| ns_cons ⟨_, _, _, D22⟩ <| ns_cons ⟨_, _, _, D23⟩ <| ns_cons ⟨_, _, _, D24⟩ <| ns_cons ⟨_, _, _, D25⟩ <| ns_cons ⟨_, _, _, D26⟩ <| ns_cons ⟨_, _, _, D27⟩ <| ns_nil
  have zb : ∀ x, bltNames.contains x = true → mg x = none := ns_cons (PySem.W.mg_none_of X G z0) <| ns_cons (PySem.W.mg_none_of X G z1) <| ns_cons (PySem.W.mg_none_of X G z2) <| ns_cons (PySem.W.mg_none_of X G z3) <| ns_cons (PySem.W.mg_none_of X G z4) <| ns_cons (PySem.W.mg_none_of X G z5) <| ns_cons (PySem.W.mg_none_of X G z6) <| ns_cons (PySem.W.mg_none_of X G z7) <| ns_cons (PySem.W.mg_none_of X G z8) <| ns_cons (PySem.W.mg_none_of X G z9) <| ns_cons (PySem.W.mg_none_of X G z10) <| ns_cons (PySem.W.mg_none_of X G z11) <| ns_cons (PySem.W.mg_none_of X G z12) <| ns_cons (PySem.W.mg_none_of X G z13) <| ns_cons (PySem.W.mg_none_of X G z14) <| ns_nil
  have zi : ∀ x i, cp.gi.lookup x = some i → ∃ t, mg x = some (.int i t) := lk_cons (p := fun x i => ∃ t, mg x = some (.int i t)) ⟨_, PySem.W.mg_of X G gi0⟩ <| lk_cons (p := fun x i => ∃ t, mg x = some (.int i t)) ⟨_, PySem.W.mg_of X G gi1⟩ <| lk_cons (p := fun x i => ∃ t, mg x = some (.int i t)) ⟨_, PySem.W.mg_of X G gi2⟩ <| lk_nil
  have zs : ∀ x i, cp.gs.lookup x = some i → ∃ t, mg x = some (.str i t) := lk_cons (p := fun x i => ∃ t, mg x = some (.str i t)) ⟨_, PySem.W.mg_of X G gs0⟩ <| lk_nil
  have zc : ∀ C, cp.cl.contains C = true → ClsF K mg C := ns_cons ⟨_, _, PySem.W.mg_of X G ca0, PySem.F.excBase_ValueError, cx0, ck0, cb0, ct0'⟩ <| ns_cons ⟨_, _, PySem.W.mg_of X G ca1, PySem.F.excBase_ValueError, cx1, ck1, cb1, ct1'⟩ <| ns_cons ⟨_, _, PySem.W.mg_of X G ca2, PySem.F.excBase_ValueError, cx2, ck2, cb2, ct2'⟩ <| ns_cons ⟨_, _, PySem.W.mg_of X G ca3, PySem.F.excBase_ValueError, cx3, ck3, cb3, ct3'⟩ <| ns_cons ⟨_, _, PySem.W.mg_of X G ca4, PySem.F.excBase_ValueError, cx4, ck4, cb4, ct4'⟩ <| ns_cons ⟨_, _, PySem.W.mg_of X G ca5, PySem.F.excBase_ValueError, cx5, ck5, cb5, ct5'⟩ <| ns_cons ⟨_, _, PySem.W.mg_of X G ca6, PySem.F.excBase_ValueError, cx6, ck6, cb6, ct6'⟩ <| ns_nil
  refine ⟨PySem.W.fnOf "law" "law" (defArgs (topS 44)) (defBody (topS 44)) (defScope (topS 44)) .none kV27 dc27 pm27 an27 cd27 ct27, fun s v => .of_eq rfl, fun base _ _ => ?_⟩
  have FN := fun_mk (st := topS 37) lN cN kN
  have bN := FN.binds (ps := ["_law_e"]) fun _ _ _ _ _ _ us hl => match us, hl with | [_], _ => rfl
  have one : ∀ c y, ([("BadRows", "rows"), ("BadText", "text")] : List (Str × Str)).lookup c = some y → OneC K mg [C1, C2, C3, C4, C5, C6] ["rows", "point", "weights", "spot", "text", "many"] C0 c y := lk_cons ⟨0, _, by decide, rfl, PySem.W.mg_of X G ca1, ⟨r1g, r1k, cb1, r1d, r1a, na, nt, r1m⟩, lt_six r1t1 r1t2 r1t3 r1t4 r1t5 r1t6, r1v, r1e⟩ <| lk_cons ⟨4, _, by decide, rfl, PySem.W.mg_of X G ca5, ⟨r5g, r5k, cb5, r5d, r5a, na, nt, r5m⟩, lt_six r5t1 r5t2 r5t3 r5t4 r5t5 r5t6, r5v, r5e⟩ <| lk_nil
  have zt : cp.tr = true → cp.md = false ∧ ∀ k, TryF (nmAt NM k) k P w K mg base := fun _ => ⟨rfl, tr_of (PySem.W.mg_of X G ca0) one (PySem.W.mg_of X G aN) bN FN scN (walk_names (PySem.W.mg_of X G ca1) (PySem.W.mg_of X G ca2) (PySem.W.mg_of X G ca3) (PySem.W.mg_of X G ca4) (PySem.W.mg_of X G ca5) (PySem.W.mg_of X G ca6) (PySem.W.mg_none_of X G z14) (PySem.W.mg_none_of X G zv))⟩
  have DN : ∀ x, cpN.ns.contains x = true → DefF K mg cpN B x := ns_cons ⟨_, _, _, DN0⟩ <| ns_cons ⟨_, _, _, DN1⟩ <| ns_cons ⟨_, _, _, DN2⟩ <| ns_cons ⟨_, _, _, DN3⟩ <| ns_cons ⟨_, _, _, DN4⟩ <| ns_cons ⟨_, _, _, DN5⟩ <| ns_cons ⟨_, _, _, DN6⟩ <| ns_cons ⟨_, _, _, DN7⟩ <| ns_cons ⟨_, _, _, DN8⟩ <| ns_nil
  have mN : Mod cpN B NM P w K mg base := ⟨zb, zi, zs, fun C h => zc C h, fun z => (by cases z), fun _ _ z => (by cases z), fun z => absurd rfl z⟩
  have zh : ∀ k x, cp.hx.contains x = true → cp.md = false ∧ ∃ f fd ps, mg x = some (.ref f) ∧ PySem.W.keepIn K (.ref f) = true ∧ Binds K fd ps [] ∧ FnOk P w K mg base (L2N.CX P w) k f fd ps (spF K mg (callF B NM k x)) := fun k => ns_cons ⟨rfl, fn_all mN DN k "need_rows" (by decide +kernel)⟩ <| ns_nil
  have zx : cp.hx ≠ [] → ∀ C, cp.cl.contains C = true → ∀ ca, mg C = some (.ref ca) → PySem.W.exmOne K (.ref ca) (.ref ca) = some true := fun _ => ns_cons (fun ca e => by rw [PySem.W.mg_of X G ca0] at e; injection e with e; injection e with e; subst e; exact cm0) <| ns_cons (fun ca e => by rw [PySem.W.mg_of X G ca1] at e; injection e with e; injection e with e; subst e; exact cm1) <| ns_cons (fun ca e => by rw [PySem.W.mg_of X G ca2] at e; injection e with e; injection e with e; subst e; exact cm2) <| ns_cons (fun ca e => by rw [PySem.W.mg_of X G ca3] at e; injection e with e; injection e with e; subst e; exact cm3) <| ns_cons (fun ca e => by rw [PySem.W.mg_of X G ca4] at e; injection e with e; injection e with e; subst e; exact cm4) <| ns_cons (fun ca e => by rw [PySem.W.mg_of X G ca5] at e; injection e with e; injection e with e; subst e; exact cm5) <| ns_cons (fun ca e => by rw [PySem.W.mg_of X G ca6] at e; injection e with e; injection e with e; subst e; exact cm6) <| ns_nil
  exact law_of (fn_one (P := P) (w := w) (base := base) (nm := NM) ⟨zb, zi, zs, zc, zt, zh, zx⟩ D D27 23) hp
end K14
open PySem PySem.W PyProof.Rows
set_option maxHeartbeats 0 in
theorem PySem.Challenge.cw_shortgrid_k14_texts_holds : PySem.Challenge.rw_shortgrid_k14_texts.Holds := by
  w_on; o_law; k_head; (case hw => w_witness2)
  k_fill
  refine L2.walk_of (l := PySem.Challenge.rw_shortgrid_k14_texts) (n := 63) (k := 24) (x := "_law_script") (CX := fun w => L2.CX PySem.Challenge.pw_shortgrid_k14_texts w) (sp := fun w => SG.spScr _) rfl (by decide) rfl ⟨rfl, by decide, by decide⟩ (fun w h Y => PySem.W.kIn_of Y) ?F (fun _ _ a ns hl _ hS => ⟨a, ns, rfl, hS, hl, fun _ => rfl⟩) (fun _ _ _ _ _ h => SG.cx_no h)
  case F =>
    intro w mg fa h KX G hmg
    refine' K14.all_mk KX G hmg ?a0 ?l0 ?c0 ?k0 ?a1 ?l1 ?c1 ?k1 ?a2 ?l2 ?c2 ?k2 ?a3 ?l3 ?c3 ?k3 ?a4 ?l4 ?c4 ?k4 ?a5 ?l5 ?c5 ?k5 ?a6 ?l6 ?c6 ?k6 ?a7 ?l7 ?c7 ?k7 ?a8 ?l8 ?c8 ?k8 ?a9 ?l9 ?c9 ?k9 ?a10 ?l10 ?c10 ?k10 ?a11 ?l11 ?c11 ?k11 ?a12 ?l12 ?c12 ?k12 ?a13 ?l13 ?c13 ?k13 ?a14 ?l14 ?c14 ?k14 ?a15 ?l15 ?c15 ?k15 ?a16 ?l16 ?c16 ?k16 ?a17 ?l17 ?c17 ?k17 ?a18 ?l18 ?c18 ?k18 ?a19 ?l19 ?c19 ?k19 ?a20 ?l20 ?c20 ?k20 ?a21 ?l21 ?c21 ?k21 ?a22 ?l22 ?c22 ?k22 ?a23 ?l23 ?c23 ?k23 ?a24 ?l24 ?c24 ?k24 ?a25 ?l25 ?c25 ?k25 ?a26 ?l26 ?c26 ?k26 ?a27 ?l27 ?c27 ?k27 ?z0 ?z1 ?z2 ?z3 ?z4 ?z5 ?z6 ?z7 ?z8 ?z9 ?z10 ?z11 ?z12 ?z13 ?z14 ?gi0 ?gi1 ?gi2 ?gs0 ?ca0 ?cx0 ?ck0 ?cb0 ?ct0' ?cm0 ?ca1 ?cx1 ?ck1 ?cb1 ?ct1' ?cm1 ?ca2 ?cx2 ?ck2 ?cb2 ?ct2' ?cm2 ?ca3 ?cx3 ?ck3 ?cb3 ?ct3' ?cm3 ?ca4 ?cx4 ?ck4 ?cb4 ?ct4' ?cm4 ?ca5 ?cx5 ?ck5 ?cb5 ?ct5' ?cm5 ?ca6 ?cx6 ?ck6 ?cb6 ?ct6' ?cm6 ?aN ?lN ?cN ?kN ?zv ?na ?nt ?r1g ?r1k ?r1d ?r1a ?r1m ?r1v ?r1e ?r1t1 ?r1t2 ?r1t3 ?r1t4 ?r1t5 ?r1t6 ?r5g ?r5k ?r5d ?r5a ?r5m ?r5v ?r5e ?r5t1 ?r5t2 ?r5t3 ?r5t4 ?r5t5 ?r5t6 K14.law_true
    (case a0 => k_is); (case l0 => k_is); (case c0 => k_is); (case k0 => k_is); (case a1 => k_is); (case l1 => k_is); (case c1 => k_is); (case k1 => k_is); (case a2 => k_is); (case l2 => k_is); (case c2 => k_is); (case k2 => k_is); (case a3 => k_is); (case l3 => k_is); (case c3 => k_is); (case k3 => k_is); (case a4 => k_is); (case l4 => k_is); (case c4 => k_is); (case k4 => k_is); (case a5 => k_is); (case l5 => k_is); (case c5 => k_is); (case k5 => k_is); (case a6 => k_is); (case l6 => k_is); (case c6 => k_is); (case k6 => k_is); (case a7 => k_is); (case l7 => k_is); (case c7 => k_is); (case k7 => k_is); (case a8 => k_is); (case l8 => k_is); (case c8 => k_is); (case k8 => k_is); (case a9 => k_is); (case l9 => k_is); (case c9 => k_is); (case k9 => k_is); (case a10 => k_is); (case l10 => k_is); (case c10 => k_is); (case k10 => k_is); (case a11 => k_is); (case l11 => k_is); (case c11 => k_is); (case k11 => k_is); (case a12 => k_is); (case l12 => k_is); (case c12 => k_is); (case k12 => k_is); (case a13 => k_is); (case l13 => k_is); (case c13 => k_is); (case k13 => k_is); (case a14 => k_is); (case l14 => k_is); (case c14 => k_is); (case k14 => k_is); (case a15 => k_is); (case l15 => k_is); (case c15 => k_is); (case k15 => k_is); (case a16 => k_is); (case l16 => k_is); (case c16 => k_is); (case k16 => k_is); (case a17 => k_is); (case l17 => k_is); (case c17 => k_is); (case k17 => k_is); (case a18 => k_is); (case l18 => k_is); (case c18 => k_is); (case k18 => k_is); (case a19 => k_is); (case l19 => k_is); (case c19 => k_is); (case k19 => k_is); (case a20 => k_is); (case l20 => k_is); (case c20 => k_is); (case k20 => k_is); (case a21 => k_is); (case l21 => k_is); (case c21 => k_is); (case k21 => k_is); (case a22 => k_is); (case l22 => k_is); (case c22 => k_is); (case k22 => k_is); (case a23 => k_is); (case l23 => k_is); (case c23 => k_is); (case k23 => k_is); (case a24 => k_is); (case l24 => k_is); (case c24 => k_is); (case k24 => k_is); (case a25 => k_is); (case l25 => k_is); (case c25 => k_is); (case k25 => k_is); (case a26 => k_is); (case l26 => k_is); (case c26 => k_is); (case k26 => k_is); (case a27 => k_is); (case l27 => k_is); (case c27 => k_is); (case k27 => k_is); (case z0 => k_is); (case z1 => k_is); (case z2 => k_is); (case z3 => k_is); (case z4 => k_is); (case z5 => k_is); (case z6 => k_is); (case z7 => k_is); (case z8 => k_is); (case z9 => k_is); (case z10 => k_is); (case z11 => k_is); (case z12 => k_is); (case z13 => k_is); (case z14 => k_is); (case gi0 => k_is); (case gi1 => k_is); (case gi2 => k_is); (case gs0 => k_is); (case ca0 => k_is); (case cx0 => k_exc); (case ck0 => k_is); (case cb0 => k_is); (case ct0' => k_is); (case cm0 => kts_exm); (case ca1 => k_is); (case cx1 => k_exc); (case ck1 => k_is); (case cb1 => k_is); (case ct1' => k_is); (case cm1 => kts_exm); (case ca2 => k_is); (case cx2 => k_exc); (case ck2 => k_is); (case cb2 => k_is); (case ct2' => k_is); (case cm2 => kts_exm); (case ca3 => k_is); (case cx3 => k_exc); (case ck3 => k_is); (case cb3 => k_is); (case ct3' => k_is); (case cm3 => kts_exm); (case ca4 => k_is); (case cx4 => k_exc); (case ck4 => k_is); (case cb4 => k_is); (case ct4' => k_is); (case cm4 => kts_exm); (case ca5 => k_is); (case cx5 => k_exc); (case ck5 => k_is); (case cb5 => k_is); (case ct5' => k_is); (case cm5 => kts_exm); (case ca6 => k_is); (case cx6 => k_exc); (case ck6 => k_is); (case cb6 => k_is); (case ct6' => k_is); (case cm6 => kts_exm); (case aN => k_is); (case lN => k_is); (case cN => k_is); (case kN => k_is); (case zv => k_is); (case na => k_is); (case nt => k_is); (case r1g => k_is); (case r1k => k_is); (case r1d => k_is); (case r1a => k_is); (case r1m => k_is); (case r1v => kit_is); (case r1e => kts_exm); (case r1t1 => kit_is); (case r1t2 => kit_is); (case r1t3 => kit_is); (case r1t4 => kit_is); (case r1t5 => kit_is); (case r1t6 => kit_is); (case r5g => k_is); (case r5k => k_is); (case r5d => k_is); (case r5a => k_is); (case r5m => k_is); (case r5v => kit_is); (case r5e => kts_exm); (case r5t1 => kit_is); (case r5t2 => kit_is); (case r5t3 => kit_is); (case r5t4 => kit_is); (case r5t5 => kit_is); (case r5t6 => kit_is)

