import PyProof.Rows.All
import HandS.ForMost
import HandS.Exc
import HandS.TryMany
import HandS.TupAny
import HandS.TupMul
import HandS.Deep
import KE.KTupSum
import HandS.IsInst
import HandS.NoneIn
import HandS.Zip
import HandS.Rev
import HandS.StrMore
import HandS.HotCalls
import HandS.ExcSuper
import HandS.ExcInit
import KE.GoesMore
import HandS.EndBits
import Wide.All
import OpenK.AllK
import Wide.FinOn
import PySem.Challenge.RW_lettersides_k01_whole_runs_of_words
section
set_option Elab.async false
set_option linter.all false
set_option maxRecDepth 100000
/-! EV, part A: values, stores, the syntax, the evaluator. Plain functions; no machine in sight. -/
namespace EV
open PySem

/-- a value: data that never changes stands in line; lists and dicts are places of the store -/
inductive Va where
  | non | bl (b : Bool) | int (i : Int) | str (x : Str) | tup (xs : List Va) | lis (xs : List Va) | ref (i : Nat) | exc
deriving Inhabited

mutual
def Va.beq : Va → Va → Bool
  | .non, .non => true
  | .bl a, .bl b => a == b
  | .int a, .int b => a == b
  | .str a, .str b => a == b
  | .tup a, .tup b => Va.beqs a b
  | .lis a, .lis b => Va.beqs a b
  | .ref a, .ref b => a == b
  | .exc, .exc => true
  | _, _ => false
def Va.beqs : List Va → List Va → Bool
  | [], [] => true
  | a :: r, b :: t => Va.beq a b && Va.beqs r t
  | _, _ => false
end
mutual
theorem Va.beq_refl : ∀ a : Va, Va.beq a a = true
  | .non => by simp only [Va.beq]
  | .bl _ => by simp only [Va.beq, BEq.rfl]
  | .int _ => by simp only [Va.beq, BEq.rfl]
  | .str _ => by simp only [Va.beq, BEq.rfl]
  | .tup a => by simp only [Va.beq]; exact Va.beqs_refl a
  | .lis a => by simp only [Va.beq]; exact Va.beqs_refl a
  | .ref _ => by simp only [Va.beq, BEq.rfl]
  | .exc => by simp only [Va.beq]
theorem Va.beqs_refl : ∀ a : List Va, Va.beqs a a = true
  | [] => by simp only [Va.beqs]
  | a :: r => by simp only [Va.beqs, Va.beq_refl a, Va.beqs_refl r, Bool.and_self]
end
mutual
theorem Va.of_beq : ∀ {a b : Va}, Va.beq a b = true → a = b
  | a, b, h => by
    cases a <;> cases b <;> simp only [Va.beq, Bool.false_eq_true] at h <;> first | rfl | (simp only [beq_iff_eq] at h; rw [h]) | (rw [Va.of_beqs h])
theorem Va.of_beqs : ∀ {a b : List Va}, Va.beqs a b = true → a = b
  | [], [], _ => rfl
  | [], _ :: _, h => by simp [Va.beqs] at h
  | _ :: _, [], h => by simp [Va.beqs] at h
  | a :: r, b :: t, h => by
    simp only [Va.beqs, Bool.and_eq_true] at h
    rw [Va.of_beq h.1, Va.of_beqs h.2]
end

/-- what stands at a place of the store -/
inductive Ob where
  | lst (xs : List Va)
  | dic (kvs : List (Va × Va))
deriving Inhabited
abbrev Sto := List Ob
abbrev Env := List (Option Va)

/-- an expression's end: a value; an exception (its class's number, its field); no answer -/
inductive Res (α : Type) where
  | ok (a : α) (S : Sto)
  | exn (c : Nat) (x : Va) (S : Sto)
  | bad
def Res.bind {α β : Type} (r : Res α) (k : α → Sto → Res β) : Res β := match r with
  | .ok a S => k a S
  | .exn c x S => .exn c x S
  | .bad => .bad
/-- a statement's end -/
inductive Flw where
  | nx (ρ : Env) (S : Sto)
  | ret (v : Va) (S : Sto)
  | brk (ρ : Env) (S : Sto)
  | cnt (ρ : Env) (S : Sto)
  | exn (c : Nat) (x : Va) (ρ : Env) (S : Sto)
  | bad
def Res.flw {α : Type} (r : Res α) (ρ : Env) (k : α → Sto → Flw) : Flw := match r with
  | .ok a S => k a S
  | .exn c x S => .exn c x ρ S
  | .bad => .bad

/-! ### operations on values -/
def optMap {α β : Type} (f : α → Option β) : List α → Option (List β)
  | [] => some []
  | a :: r => match f a with
    | none => none
    | some b => match optMap f r with
      | none => none
      | some bs => some (b :: bs)
/-- a value as the library's data, n levels deep -/
def toD (S : Sto) : Nat → Va → Option PyData
  | 0, _ => none
  | n + 1, v => match v with
    | .non => some .none
    | .bl b => some (.bool b)
    | .int i => some (.int i)
    | .str x => some (.str x)
    | .tup xs => (optMap (toD S n) xs).map .tuple
    | .lis _ => none
    | .ref i => match S[i]? with
      | some (.lst xs) => (optMap (toD S n) xs).map .list
      | some (.dic kvs) => (optMap (fun (p : Va × Va) => match toD S n p.1 with
          | none => none
          | some a => match toD S n p.2 with
            | none => none
            | some b => some (a, b)) kvs).map .dict
      | none => none
    | .exc => none
def sc : Va → Option L2.V
  | .non => some .non
  | .bl b => some (.bl b)
  | .int i => some (.int i)
  | .str x => some (.str x)
  | _ => none
def eqDeep (S : Sto) (v w : Va) : Option Bool := match toD S 60 v with
  | none => none
  | some d => match toD S 60 w with
    | none => none
    | some e => if SeqAt.shaped d && SeqAt.shaped e then some (PyData.eqv d e) else none
def eqOp (S : Sto) (v w : Va) : Option Bool := match sc v, sc w with
  | some a, some b => if L2.scal a b then some (decide (a = b)) else eqDeep S v w
  | _, _ => eqDeep S v w
def new (o : Ob) (S : Sto) : Res Va := .ok (.ref S.length) (S ++ [o])
def newL (xs : List Va) (S : Sto) : Res Va := if xs.length ≤ sizeLine then new (.lst xs) S else .bad
def mkT (xs : List Va) (S : Sto) : Res Va := if xs.length ≤ sizeLine then .ok (.tup xs) S else .bad
def intB (p : Bool) (i : Int) (S : Sto) : Res Va := if p then .ok (.int i) S else .bad
def repL (k : Int) (xs : List Va) : List Va := (List.replicate k.toNat xs).flatten

def binOp (op : Operator) (v w : Va) (S : Sto) : Res Va := match op with
  | .Add => match v, w with
    | .int i, .int j => .ok (.int (i + j)) S
    | .str x, .str y => if x.length + y.length ≤ sizeLine then .ok (.str (x ++ y)) S else .bad
    | .tup xs, .tup ys => mkT (xs ++ ys) S
    | .ref a, .ref b => match S[a]?, S[b]? with
      | some (.lst xs), some (.lst ys) => newL (xs ++ ys) S
      | _, _ => .bad
    | _, _ => .bad
  | .Sub => match v, w with
    | .int i, .int j => .ok (.int (i - j)) S
    | _, _ => .bad
  | .Mult => match v, w with
    | .int i, .int j => intB (decide (i.natAbs < 2 ^ 64) || decide (j.natAbs < 2 ^ 64)) (i * j) S
    | .tup xs, .int k => if -(2 ^ 62) < k ∧ k < 2 ^ 62 then mkT (repL k xs) S else .bad
    | .ref a, .int k => match S[a]? with
      | some (.lst xs) => if -(2 ^ 62) < k ∧ k < 2 ^ 62 then newL (repL k xs) S else .bad
      | _ => .bad
    | _, _ => .bad
  | .FloorDiv => match v, w with
    | .int i, .int j => intB (decide (j ≠ 0) && decide (j.natAbs < 1073741824)) (i.fdiv j) S
    | _, _ => .bad
  | .Mod => match v, w with
    | .int i, .int j => intB (decide (j ≠ 0)) (i.fmod j) S
    | _, _ => .bad
  | .Pow => match v, w with
    | .int i, .int j => intB (decide (0 ≤ j) && decide ((Builtin.Int.intBits i : Int) * j ≤ 2 ^ 27)) (i ^ j.toNat) S
    | _, _ => .bad
  | _ => .bad

/-- is y in it (flat items) -/
def flat (v : Va) : Option L2.V := sc v
def inOp (y x : Va) (S : Sto) : Option Bool :=
  let go := fun (xs : List Va) => match sc y with
    | none => none
    | some a => match optMap sc xs with
      | none => none
      | some bs => some (L2.inV a bs)
  match x with
  | .tup xs => go xs
  | .ref i => match S[i]? with
    | some (.lst xs) => match go xs with
      | some b => some b
      | none => match toD S 60 y, optMap (toD S 60) xs with
        | some d, some ds => if SeqAt.shaped d && SeqAt.shaped (.list ds) then some (ds.any fun z => PyData.eqv z d) else none
        | _, _ => none
    | _ => none
  | .str z => match y with
    | .str s => match s.cps.toList with
      | [c] => some (decide (c ∈ z.cps.toList))
      | _ => none
    | _ => none
  | _ => none
def cmpOp (op : CmpOp) (v w : Va) (S : Sto) : Option Bool := match op with
  | .Eq => eqOp S v w
  | .NotEq => (eqOp S v w).map (!·)
  | .Lt => match v, w with
    | .int i, .int j => some (decide (i < j))
    | _, _ => none
  | .LtE => match v, w with
    | .int i, .int j => some (decide (i ≤ j))
    | _, _ => none
  | .Gt => match v, w with
    | .int i, .int j => some (decide (j < i))
    | _, _ => none
  | .GtE => match v, w with
    | .int i, .int j => some (decide (j ≤ i))
    | _, _ => none
  | .Is => match v, w with
    | .exc, _ => none
    | .non, .non => some true
    | _, .non => some false
    | _, _ => none
  | .IsNot => match v, w with
    | .exc, _ => none
    | .non, .non => some false
    | _, .non => some true
    | _, _ => none
  | .In => inOp v w S
  | .NotIn => (inOp v w S).map (!·)
def ofB (o : Option Bool) (S : Sto) : Res Va := match o with
  | some b => .ok (.bl b) S
  | none => .bad

def oneStr (c : Nat) : Va := .str ⟨#[c]⟩
/-- v[i] -/
def idxOp (v i : Va) (S : Sto) : Res Va := match i with
  | .int k => match v with
    | .tup xs => match L2.atI xs k with
      | some x => .ok x S
      | none => .bad
    | .ref a => match S[a]? with
      | some (.lst xs) => match L2.atI xs k with
        | some x => .ok x S
        | none => .bad
      | _ => .bad
    | .str z => if z.length ≤ sizeLine then match L2.atI z.cps.toList k with
        | some c => .ok (oneStr c) S
        | none => .bad
      else .bad
    | _ => .bad
  | _ => .bad
def cut {α : Type} (xs : List α) (lo hi : Option Int) : List α := (xs.drop (HT.sIx xs.length 0 lo)).take (HT.sIx xs.length xs.length hi - HT.sIx xs.length 0 lo)
/-- a bound of a slice: missing, or an int -/
def bnd : Option Va → Option (Option Int)
  | none => some none
  | some (.int i) => some (some i)
  | some _ => none
def slcOp (v : Va) (lo hi : Option Va) (S : Sto) : Res Va := match bnd lo, bnd hi with
  | some l, some h => match v with
    | .tup xs => .ok (.tup (cut xs l h)) S
    | .lis xs => newL (cut xs l h) S
    | .ref a => match S[a]? with
      | some (.lst xs) => newL (cut xs l h) S
      | _ => .bad
    | .str z => if z.length ≤ sizeLine then .ok (.str ⟨(cut z.cps.toList l h).toArray⟩) S else .bad
    | _ => .bad
  | _, _ => .bad
/-- a bound that is no int has no answer -/
def bndR (r : Res (Option Va)) : Res (Option Va) := r.bind fun u S => if (bnd u).isSome then .ok u S else .bad
/-- v[::-1] of a tuple -/
def revOp (v : Va) (S : Sto) : Res Va := match v with
  | .tup xs => .ok (.tup xs.reverse) S
  | _ => .bad

/-- what a dict's display takes as a key: an int, a text, a tuple of such -/
def keyV : Va → Option L2.Key
  | .int i => some (.inl i)
  | .str x => some (.inr x)
  | _ => none
def keyVs : List Va → Option (List L2.Key)
  | [] => some []
  | a :: r => match keyV a with
    | none => none
    | some k => match keyVs r with
      | none => none
      | some ks => some (k :: ks)
def keyOk (v : Va) : Bool := (keyV v).isSome || (match v with
  | .tup xs => (keyVs xs).isSome
  | _ => false)
def dicOp (xs ys : List Va) (S : Sto) : Res Va := match xs, ys with
  | [], [] => new (.dic []) S
  | [k], [v] => if keyOk k then new (.dic [(k, v)]) S else .bad
  | _, _ => .bad
/-- built-in classes that isinstance asks for -/
inductive Ty where
  | int | str | tup | lst | dic | bool
  deriving DecidableEq
def Ty.nm : Ty → Str
  | .int => "int" | .str => "str" | .tup => "tuple" | .lst => "list" | .dic => "dict" | .bool => "bool"
def Ty.id : Ty → String
  | .int => "int" | .str => "str" | .tup => "tuple" | .lst => "list" | .dic => "dict" | .bool => "bool"
def isTy (S : Sto) (v : Va) (t : Ty) : Option Bool := match v with
  | .non => some false
  | .bl _ => some (decide (t = .bool) || decide (t = .int))
  | .int _ => some (decide (t = .int))
  | .str _ => some (decide (t = .str))
  | .tup _ => some (decide (t = .tup))
  | .lis _ => none
  | .ref i => match S[i]? with
    | some (.lst _) => some (decide (t = .lst))
    | some (.dic _) => some (decide (t = .dic))
    | none => none
  | .exc => none

/-- built-in calls -/
inductive Bi where
  | len | abs | int | max2 | min2 | sum | all | any | list | tuple | repr | tupRev | listRev
  deriving DecidableEq
def intsOf : List Va → Option (List Int) := optMap fun v => match v with
  | .int i => some i
  | _ => none
def blsOf : List Va → Option (List Bool) := optMap fun v => match v with
  | .bl i => some i
  | _ => none
def strsOf : List Va → Option (List Str) := optMap fun v => match v with
  | .str i => some i
  | _ => none
def lstOf (v : Va) (S : Sto) : Option (List Va) := match v with
  | .ref a => match S[a]? with
    | some (.lst xs) => some xs
    | _ => none
  | _ => none
mutual
def hasLst : PyData → Bool
  | .list _ => true
  | .tuple xs => hasLsts xs
  | .dict kvs => hasLstKv kvs
  | _ => false
def hasLsts : List PyData → Bool
  | [] => false
  | x :: r => hasLst x || hasLsts r
def hasLstKv : List (PyData × PyData) → Bool
  | [] => false
  | (a, b) :: r => hasLst a || hasLst b || hasLstKv r
end
def showOk (d : PyData) : Bool := d.showable && decide (d.shown.length ≤ sizeLine) && decide (d.depth ≤ 60) && (!d.hasDict || !hasLst d)
def biOp (b : Bi) (vs : List Va) (S : Sto) : Res Va := match b, vs with
  | .len, [.tup xs] => .ok (.int xs.length) S
  | .len, [.str z] => if z.length ≤ sizeLine then .ok (.int z.length) S else .bad
  | .len, [.ref a] => match S[a]? with
    | some (.lst xs) => .ok (.int xs.length) S
    | _ => .bad
  | .abs, [.int i] => .ok (.int (if i < 0 then -i else i)) S
  | .int, [.int i] => .ok (.int i) S
  | .max2, [.int i, .int j] => .ok (.int (if j > i then j else i)) S
  | .min2, [.int i, .int j] => .ok (.int (if j < i then j else i)) S
  | .sum, [.tup xs] => match intsOf xs with
    | some ns => .ok (.int ns.sum) S
    | none => .bad
  | .sum, [v] => match (lstOf v S).bind intsOf with
    | some ns => .ok (.int ns.sum) S
    | none => .bad
  | .all, [v] => match (lstOf v S).bind blsOf with
    | some bs => .ok (.bl (bs.all id)) S
    | none => .bad
  | .any, [v] => match (lstOf v S).bind blsOf with
    | some bs => .ok (.bl (bs.any id)) S
    | none => .bad
  | .list, [.tup xs] => newL xs S
  | .list, [.ref a] => match S[a]? with
    | some (.lst xs) => newL xs S
    | _ => .bad
  | .tuple, [.tup xs] => .ok (.tup xs) S
  | .tuple, [.ref a] => match S[a]? with
    | some (.lst xs) => mkT xs S
    | _ => .bad
  | .repr, [v] => match toD S 60 v with
    | some d => if showOk d then .ok (.str d.shown) S else .bad
    | none => .bad
  | .tupRev, [v] => match lstOf v S with
    | some xs => mkT xs.reverse S
    | none => .bad
  | .listRev, [v] => match lstOf v S with
    | some xs => newL xs.reverse S
    | none => .bad
  | _, _ => .bad

/-- methods -/
inductive Me where
  | append | extend | pop | count
  deriving DecidableEq
def cntOp (xs : List Va) (y : Va) : Option Nat := match sc y, optMap sc xs with
  | some a, some bs => some (bs.countP fun b => L2.eqV b a)
  | _, _ => none
def meTy (m : Me) (o : Va) (S : Sto) : Bool := match m, o with
  | .count, .tup _ => true
  | .count, _ => false
  | _, .ref a => match S[a]? with
    | some (.lst _) => true
    | _ => false
  | _, _ => false
def meOp (m : Me) (o : Va) (vs : List Va) (S : Sto) : Res Va := match m, o, vs with
  | .append, .ref a, [y] => match S[a]? with
    | some (.lst xs) => if xs.length < sizeLine then .ok .non (S.set a (.lst (xs ++ [y]))) else .bad
    | _ => .bad
  | .extend, .ref a, [.ref b] => match S[a]?, S[b]? with
    | some (.lst xs), some (.lst ys) => if xs.length + ys.length ≤ sizeLine then .ok .non (S.set a (.lst (xs ++ ys))) else .bad
    | _, _ => .bad
  | .pop, .ref a, [] => match S[a]? with
    | some (.lst xs) => match xs[xs.length - 1]? with
      | some y => .ok y (S.set a (.lst xs.dropLast))
      | none => .bad
    | _ => .bad
  | .count, .tup xs, [y] => match cntOp xs y with
    | some n => .ok (.int n) S
    | none => .bad
  | _, _, _ => .bad

/-! ### the syntax -/
inductive Cst where
  | non | bl (b : Bool) | int (i : Int) | str (x : Str)
  deriving DecidableEq
def Cst.va : Cst → Va
  | .non => .non | .bl b => .bl b | .int i => .int i | .str x => .str x
inductive Tg where
  | one (i : Nat)
  | many (is : List Nat)
mutual
inductive Ex where
  | var (i : Nat)
  | cst (c : Cst)
  | glo (x : Str) (c : Cst)
  | bin (op : Operator) (a b : Ex)
  | neg (a : Ex)
  | not (a : Ex)
  | cmp (op : CmpOp) (a b : Ex)
  | chn (op op2 : CmpOp) (a b c : Ex)
  | bool (isAnd : Bool) (a : Ex) (es : Exs)
  | ite (c a b : Ex)
  | tup (es : Exs)
  | lst (es : Exs)
  | dic (ks vs : Exs)
  | idx (a b : Ex)
  | slc (a : Ex) (l h : Opx)
  | rev (a : Ex)
  | call (f : Nat) (es : Exs)
  | callK (f : Nat) (es : Exs) (ks : List Nat) (ws : Exs)
  | bi (b : Bi) (es : Exs)
  | me (m : Me) (o : Ex) (es : Exs)
  | ist (a : Ex) (ts : List Ty)
  | hist (i : Nat) (cs : List Nat)
  | hfld (i : Nat)
  | comp (e : Ex) (tg : Tg) (it : Itx) (c : Opx) (own : List Nat)
inductive Exs where
  | nil
  | cons (e : Ex) (es : Exs)
inductive Opx where
  | none
  | some (e : Ex)
inductive Itx where
  | seq (e : Ex)
  | rng1 (a : Ex)
  | rng2 (a b : Ex)
  | enum (a : Ex)
  | zip (a b : Ex)
end
mutual
inductive Sx where
  | asg (tg : Tg) (e : Ex)
  | par (i j : Nat) (a b : Ex)
  | asgIx (o i v : Ex)
  | expr (e : Ex)
  | ret (e : Ex)
  | ite (c : Ex) (a b : Sxs)
  | fors (tg : Tg) (it : Itx) (body : Sxs)
  | whil (c : Ex) (body : Sxs)
  | rais (c : Nat) (e : Opx)
  | tryx (body : Sxs) (hs : Hxs)
  | pass | brk | cont
inductive Sxs where
  | nil
  | cons (s : Sx) (r : Sxs)
inductive Hxs where
  | nil
  | cons (c : Nat) (slot : Option Nat) (suite : Sxs) (r : Hxs)
end

/-- what stands around: calls of defs by number, a class's classes (itself among them), the exception that is handled -/
structure Kx where
  call : Nat → List Va → Sto → Res Va
  anc : Nat → List Nat
  fuel : Nat

def look (ρ : Env) (i : Nat) (S : Sto) : Res Va := match ρ[i]? with
  | some (some v) => .ok v S
  | _ => .bad
def setAll : List Nat → List Va → Env → Option Env
  | [], [], ρ => some ρ
  | i :: is, x :: xs, ρ => setAll is xs (ρ.set i (some x))
  | _, _, _ => none
def setT (tg : Tg) (x : Va) (ρ : Env) (S : Sto) : Option Env := match tg with
  | .one i => some (ρ.set i (some x))
  | .many is => match x with
    | .tup xs => setAll is xs ρ
    | .ref a => match S[a]? with
      | some (.lst xs) => setAll is xs ρ
      | _ => none
    | _ => none
def wipeE (ρ : Env) : List Nat → Env
  | [] => ρ
  | v :: vs => (wipeE ρ vs).set v none
/-- lists that stand as they were -/
def stay (G : List (Nat × List Va)) (S : Sto) : Bool := G.all fun p => match S[p.1]? with
  | some (.lst xs) => Va.beqs xs p.2
  | _ => false
/-- what is walked: the items, the lists that have to stay -/
structure Wk where
  items : List Va
  G : List (Nat × List Va)
def seqW (v : Va) (S : Sto) : Option Wk := match v with
  | .tup xs => some ⟨xs, []⟩
  | .ref a => match S[a]? with
    | some (.lst xs) => some ⟨xs, [(a, xs)]⟩
    | _ => none
  | .str z => some ⟨z.cps.toList.map oneStr, []⟩
  | _ => none
def rangeW (lo hi : Int) : Wk := ⟨(List.range (hi - lo).toNat).map fun i => .int (lo + (i : Nat)), []⟩
def small62 (i : Int) : Bool := decide (-(2 ^ 62) ≤ i) && decide (i < 2 ^ 62)
def enumFrom : Nat → List Va → List Va
  | _, [] => []
  | n, x :: r => .tup [.int (n : Nat), x] :: enumFrom (n + 1) r
def enumW (w : Wk) : Wk := ⟨enumFrom 0 w.items, w.G⟩
def zipV : List Va → List Va → List Va
  | a :: r, b :: t => .tup [a, b] :: zipV r t
  | _, _ => []
def zipW (u w : Wk) : Wk := ⟨zipV u.items w.items, u.G ++ w.G⟩
def ofW (o : Option Wk) (S : Sto) : Res Wk := match o with
  | some w => .ok w S
  | none => .bad
/-- enumerate of a tuple or of a list -/
def enumS (v : Va) (S : Sto) : Option Wk := match v with
  | .tup xs => some (enumW ⟨xs, []⟩)
  | .ref a => match S[a]? with
    | some (.lst xs) => some (enumW ⟨xs, [(a, xs)]⟩)
    | _ => none
  | _ => none
/-- zip of two tuples or of two lists -/
def zipS (v w : Va) (S : Sto) : Option Wk := match v, w with
  | .tup xs, .tup ys => some (zipW ⟨xs, []⟩ ⟨ys, []⟩)
  | .ref a, .ref b => match S[a]?, S[b]? with
    | some (.lst xs), some (.lst ys) => some (zipW ⟨xs, [(a, xs)]⟩ ⟨ys, [(b, ys)]⟩)
    | _, _ => none
  | _, _ => none

/-- a comprehension's turns: elt and test by turn -/
def compL (turn : Va → Sto → Res (Option Va)) (G : List (Nat × List Va)) : List Va → Sto → Res (List Va)
  | [], S => if stay G S then .ok [] S else .bad
  | x :: r, S => if stay G S then (match turn x S with
      | .ok y S1 => (match compL turn G r S1 with
        | .ok ys S2 => .ok (match y with | some v => v :: ys | none => ys) S2
        | .exn _ _ _ => .bad
        | .bad => .bad)
      | .exn _ _ _ => .bad
      | .bad => .bad) else .bad

mutual
def evE (C : Kx) (hx : Option (Nat × Va)) : Ex → Env → Sto → Res Va
  | .var i, ρ, S => look ρ i S
  | .cst c, _, S => .ok c.va S
  | .glo _ c, _, S => .ok c.va S
  | .bin op a b, ρ, S => (evE C hx a ρ S).bind fun x S => (evE C hx b ρ S).bind fun y S => binOp op x y S
  | .neg a, ρ, S => (evE C hx a ρ S).bind fun x S => match x with
    | .int i => .ok (.int (-i)) S
    | _ => .bad
  | .not a, ρ, S => (evE C hx a ρ S).bind fun x S => match x with
    | .bl b => .ok (.bl (!b)) S
    | _ => .bad
  | .cmp op a b, ρ, S => (evE C hx a ρ S).bind fun x S => (evE C hx b ρ S).bind fun y S => ofB (cmpOp op x y S) S
  | .chn op op2 a b c, ρ, S => (evE C hx a ρ S).bind fun x S => (evE C hx b ρ S).bind fun y S => match cmpOp op x y S with
    | some true => (evE C hx c ρ S).bind fun z S => ofB (cmpOp op2 y z S) S
    | some false => .ok (.bl false) S
    | none => .bad
  | .bool isAnd a es, ρ, S => (evE C hx a ρ S).bind fun x S => match x with
    | .bl b => evB C hx isAnd es b ρ S
    | _ => .bad
  | .ite c a b, ρ, S => (evE C hx c ρ S).bind fun x S => match x with
    | .bl true => evE C hx a ρ S
    | .bl false => evE C hx b ρ S
    | _ => .bad
  | .tup es, ρ, S => (evL C hx es ρ S).bind fun xs S => mkT xs S
  | .lst es, ρ, S => (evL C hx es ρ S).bind fun xs S => newL xs S
  | .dic ks vs, ρ, S => (evL C hx ks ρ S).bind fun xs S => (evL C hx vs ρ S).bind fun ys S => dicOp xs ys S
  | .idx a b, ρ, S => (evE C hx a ρ S).bind fun x S => (evE C hx b ρ S).bind fun y S => idxOp x y S
  | .slc a l h, ρ, S => (evE C hx a ρ S).bind fun x S => (bndR (evO C hx l ρ S)).bind fun u S => (bndR (evO C hx h ρ S)).bind fun v S => slcOp x u v S
  | .rev a, ρ, S => (evE C hx a ρ S).bind fun x S => revOp x S
  | .call f es, ρ, S => (evL C hx es ρ S).bind fun xs S => C.call f xs S
  | .callK f es ks ws, ρ, S => (evL C hx es ρ S).bind fun xs S => (evL C hx ws ρ S).bind fun ys S =>
      match optMap (fun i => (xs ++ ys)[i]?) ks with
      | some zs => C.call f zs S
      | none => .bad
  | .bi b es, ρ, S => (evL C hx es ρ S).bind fun xs S => biOp b xs S
  | .me m o es, ρ, S => (evE C hx o ρ S).bind fun x S => if meTy m x S then (evL C hx es ρ S).bind fun xs S => meOp m x xs S else .bad
  | .ist a ts, ρ, S => (evE C hx a ρ S).bind fun x S => match ts with
    | [t] => ofB (isTy S x t) S
    | _ => .bad
  | .hist i cs, ρ, S => match hx, ρ[i]? with
    | some (c, _), some (some .exc) => .ok (.bl (cs.any fun d => (C.anc c).contains d)) S
    | _, _ => .bad
  | .hfld i, ρ, S => match hx, ρ[i]? with
    | some (_, x), some (some .exc) => .ok x S
    | _, _ => .bad
  | .comp e tg it c own, ρ, S => (evI C hx it ρ S).bind fun W S =>
      (compL (fun x S => match setT tg x (wipeE ρ own) S with
        | none => .bad
        | some ρ' => match evO C none c ρ' S with
          | .ok none S1 => (evE C none e ρ' S1).bind fun y S => .ok (some y) S
          | .ok (some (.bl true)) S1 => (evE C none e ρ' S1).bind fun y S => .ok (some y) S
          | .ok (some (.bl false)) S1 => .ok none S1
          | _ => .bad) W.G W.items S).bind fun ys S => newL ys S
def evL (C : Kx) (hx : Option (Nat × Va)) : Exs → Env → Sto → Res (List Va)
  | .nil, _, S => .ok [] S
  | .cons e es, ρ, S => (evE C hx e ρ S).bind fun x S => (evL C hx es ρ S).bind fun xs S => .ok (x :: xs) S
/-- the rest of and, or: b is the value so far -/
def evB (C : Kx) (hx : Option (Nat × Va)) (isAnd : Bool) : Exs → Bool → Env → Sto → Res Va
  | .nil, b, _, S => .ok (.bl b) S
  | .cons e es, b, ρ, S => if b == isAnd then (evE C hx e ρ S).bind fun x S => match x with
      | .bl c => evB C hx isAnd es c ρ S
      | _ => .bad
    else .ok (.bl b) S
def evO (C : Kx) (hx : Option (Nat × Va)) : Opx → Env → Sto → Res (Option Va)
  | .none, _, S => .ok none S
  | .some e, ρ, S => (evE C hx e ρ S).bind fun x S => .ok (some x) S
def evI (C : Kx) (hx : Option (Nat × Va)) : Itx → Env → Sto → Res Wk
  | .seq e, ρ, S => (evE C hx e ρ S).bind fun x S => ofW (seqW x S) S
  | .rng1 a, ρ, S => (evE C hx a ρ S).bind fun x S => match x with
    | .int i => if small62 i then .ok (rangeW 0 i) S else .bad
    | _ => .bad
  | .rng2 a b, ρ, S => (evE C hx a ρ S).bind fun x S => (evE C hx b ρ S).bind fun y S => match x, y with
    | .int i, .int j => if small62 i && small62 j then .ok (rangeW i j) S else .bad
    | _, _ => .bad
  | .enum a, ρ, S => (evE C hx a ρ S).bind fun x S => ofW (enumS x S) S
  | .zip a b, ρ, S => (evE C hx a ρ S).bind fun x S => (evE C hx b ρ S).bind fun y S => ofW (zipS x y S) S
end

/-! ### statements -/
def forL (body : Env → Sto → Flw) (tg : Tg) (G : List (Nat × List Va)) : List Va → Env → Sto → Flw
  | [], ρ, S => if stay G S then .nx ρ S else .bad
  | x :: r, ρ, S => if stay G S then (match setT tg x ρ S with
      | none => .bad
      | some ρ1 => match body ρ1 S with
        | .nx ρ2 S2 => forL body tg G r ρ2 S2
        | .cnt ρ2 S2 => forL body tg G r ρ2 S2
        | .brk ρ2 S2 => .nx ρ2 S2
        | .ret v S2 => .ret v S2
        | .exn c x ρ2 S2 => .exn c x ρ2 S2
        | .bad => .bad) else .bad
def whlL (test : Env → Sto → Res Va) (body : Env → Sto → Flw) : Nat → Env → Sto → Flw
  | 0, _, _ => .bad
  | n + 1, ρ, S => (test ρ S).flw ρ fun x S => match x with
    | .bl true => (match body ρ S with
      | .nx ρ2 S2 => whlL test body n ρ2 S2
      | .cnt ρ2 S2 => whlL test body n ρ2 S2
      | .brk ρ2 S2 => .nx ρ2 S2
      | .ret v S2 => .ret v S2
      | .exn c x ρ2 S2 => .exn c x ρ2 S2
      | .bad => .bad)
    | .bl false => .nx ρ S
    | _ => .bad
def setI (o i v : Va) (S : Sto) : Option Sto := match o, i with
  | .ref a, .int k => match S[a]? with
    | some (.lst xs) => match L2.ixN xs.length k with
      | some j => some (S.set a (.lst (xs.set j v)))
      | none => none
    | _ => none
  | _, _ => none
/-- behind a handler's suite its name is gone -/
def goneF (slot : Option Nat) (f : Flw) : Flw := match slot with
  | none => f
  | some i => match f with
    | .nx ρ S => .nx (ρ.set i none) S
    | .brk ρ S => .brk (ρ.set i none) S
    | .cnt ρ S => .cnt (ρ.set i none) S
    | .ret v S => .ret v S
    | .exn _ _ _ _ => .bad
    | .bad => .bad
def noexn (f : Flw) : Flw := match f with
  | .exn _ _ _ _ => .bad
  | f => f
mutual
def evS (C : Kx) (hx : Option (Nat × Va)) : Sx → Env → Sto → Flw
  | .asg tg e, ρ, S => (evE C hx e ρ S).flw ρ fun x S => match setT tg x ρ S with
    | some ρ' => .nx ρ' S
    | none => .bad
  | .par i j a b, ρ, S => (evE C hx a ρ S).flw ρ fun x S => (evE C hx b ρ S).flw ρ fun y S => .nx ((ρ.set i (some x)).set j (some y)) S
  | .asgIx o i v, ρ, S => (evE C hx v ρ S).flw ρ fun x S => (evE C hx o ρ S).flw ρ fun y S => (evE C hx i ρ S).flw ρ fun z S => match setI y z x S with
    | some S' => .nx ρ S'
    | none => .bad
  | .expr e, ρ, S => (evE C hx e ρ S).flw ρ fun _ S => .nx ρ S
  | .ret e, ρ, S => (evE C hx e ρ S).flw ρ fun x S => .ret x S
  | .ite c a b, ρ, S => (evE C hx c ρ S).flw ρ fun x S => match x with
    | .bl true => evSs C hx a ρ S
    | .bl false => evSs C hx b ρ S
    | _ => .bad
  | .fors tg it body, ρ, S => (evI C hx it ρ S).flw ρ fun W S => forL (fun ρ S => evSs C hx body ρ S) tg W.G W.items ρ S
  | .whil c body, ρ, S => whlL (fun ρ S => evE C hx c ρ S) (fun ρ S => evSs C hx body ρ S) C.fuel ρ S
  | .rais c e, ρ, S => (evO C hx e ρ S).flw ρ fun x S => .exn c (x.getD .non) ρ S
  | .tryx body hs, ρ, S => match evSs C hx body ρ S with
    | .exn c x ρ' S' => evH C c x hs ρ' S'
    | f => f
  | .pass, ρ, S => .nx ρ S
  | .brk, ρ, S => .brk ρ S
  | .cont, ρ, S => .cnt ρ S
def evSs (C : Kx) (hx : Option (Nat × Va)) : Sxs → Env → Sto → Flw
  | .nil, ρ, S => .nx ρ S
  | .cons s r, ρ, S => match evS C hx s ρ S with
    | .nx ρ' S' => evSs C hx r ρ' S'
    | f => f
def evH (C : Kx) (c : Nat) (x : Va) : Hxs → Env → Sto → Flw
  | .nil, ρ, S => .exn c x ρ S
  | .cons d slot suite r, ρ, S => if (C.anc c).contains d then
      goneF slot (noexn (evSs C (some (c, x)) suite (match slot with
        | some i => ρ.set i (some .exc)
        | none => ρ) S))
    else evH C c x r ρ S
end

/-! ### defs -/
structure Def where
  nm : Str
  ps : List Str
  N : List Str
  body : Sxs
def startE (N : List Str) (vs : List Va) : Env := vs.map some ++ List.replicate (N.length - vs.length) none
/-- the program's defs, by number; n levels of calls -/
def run (D : Nat → Option Def) (anc : Nat → List Nat) (fuel : Nat) : Nat → Nat → List Va → Sto → Res Va
  | 0, _, _, _ => .bad
  | n + 1, f, vs, S => match D f with
    | none => .bad
    | some d => if vs.length = d.ps.length then (match evSs ⟨run D anc fuel n, anc, fuel⟩ none d.body (startE d.N vs) S with
      | .ret v S' => .ok v S'
      | .nx _ S' => .ok .non S'
      | .exn c x _ S' => .exn c x S'
      | _ => .bad) else .bad
end EV

end
section
set_option Elab.async false
set_option linter.all false
set_option maxRecDepth 100000
set_option maxHeartbeats 4000000
/-! EV, part B: how EV's values and stores lie in the hand layer's; operations are sound. -/
namespace EV
open PySem PySem.Spec PyProof.Rows L2

/-! ### data on the heap -/
/-- an exact tuple that never changes -/
def TupX (K : PySem.W.Frag) (H : Hp) (a : Addr) (vs : List V) : Prop :=
  (∃ o, H a = some (.frz o (.tup vs)) ∧ o.dict = none) ∨
    ∃ (o : Obj) (its : Array Value) (n : Nat), K.lookup a = some o ∧ o.cls = .type "tuple" ∧ o.dict = none ∧ o.data = .seq its n ∧ its.size ≤ sizeLine ∧ Vals vs its.toList
/-- a list that is only read -/
def LisX (K : PySem.W.Frag) (H : Hp) (a : Addr) (vs : List V) : Prop :=
  (∃ o, H a = some (.frz o (.lst vs))) ∨
    ∃ (o : Obj) (its : Array Value) (n : Nat), K.lookup a = some o ∧ o.cls = .type "list" ∧ o.dict = none ∧ o.data = .seq its n ∧ its.size ≤ sizeLine ∧ Vals vs its.toList
theorem TupX.sq {K : PySem.W.Frag} {H : Hp} {a : Addr} {vs : List V} (h : TupX K H a vs) : SqT K H a vs := by
  rcases h with ⟨o, h, _⟩ | ⟨o, its, n, h1, h2, _, h4⟩
  · exact .inl (.inr ⟨o, h⟩)
  · exact .inr ⟨o, its, n, h1, h2, h4⟩
theorem LisX.sq {K : PySem.W.Frag} {H : Hp} {a : Addr} {vs : List V} (h : LisX K H a vs) : SqL K H a vs := by
  rcases h with ⟨o, h⟩ | h
  · exact .inl (.inr ⟨o, h⟩)
  · exact .inr h
mutual
def Rep (K : PySem.W.Frag) (H : Hp) (μ : List Addr) : Va → V → Prop
  | .non, v => v = .non
  | .bl b, v => v = .bl b
  | .int i, v => v = .int i
  | .str x, v => v = .str x
  | .tup xs, v => ∃ a vs, v = .ref a ∧ TupX K H a vs ∧ Reps K H μ xs vs
  | .lis xs, v => ∃ a vs, v = .ref a ∧ LisX K H a vs ∧ Reps K H μ xs vs
  | .ref i, v => ∃ a, v = .ref a ∧ μ[i]? = some a
  | .exc, _ => True
def Reps (K : PySem.W.Frag) (H : Hp) (μ : List Addr) : List Va → List V → Prop
  | [], vs => vs = []
  | x :: xs, vs => ∃ v r, vs = v :: r ∧ Rep K H μ x v ∧ Reps K H μ xs r
end
/-- a dict's entries with int and text keys; with keys that are tuples of such -/
def kVa : Key → Va
  | .inl i => .int i
  | .inr x => .str x
def EnK (K : PySem.W.Frag) (H : Hp) (μ : List Addr) : List (Va × Va) → List (Key × V) → Prop
  | [], ks => ks = []
  | p :: r, ks => ∃ k v t, ks = (k, v) :: t ∧ p.1 = kVa k ∧ Rep K H μ p.2 v ∧ EnK K H μ r t
/-- any other dict, by its entries -/
def DicAt (a : Addr) (es : List DictEntry) (h : Heap) : Prop := (a == sysModules) = false ∧ ∃ o ep, h.get? a = some o ∧ o.ExactDict ∧ o.data = .dict es.toArray ep
def EnT (K : PySem.W.Frag) (H : Hp) (μ : List Addr) : List (Va × Va) → List DictEntry → Prop
  | [], es => es = []
  | p :: r, es => ∃ e t k v, es = e :: t ∧ RelV k e.key ∧ Rep K H μ p.1 k ∧ RelV v e.val ∧ Rep K H μ p.2 v ∧ EnT K H μ r t
def ObR (K : PySem.W.Frag) (H : Hp) (μ : List Addr) (a : Addr) : Ob → Prop
  | .lst xs => ∃ vs, H a = some (.lst vs) ∧ Reps K H μ xs vs
  | .dic kvs => (∃ ks, H a = some (.dK ks) ∧ EnK K H μ kvs ks) ∨ (∃ es, H a = some (.ext (DicAt a es)) ∧ EnT K H μ kvs es)
structure SR (K : PySem.W.Frag) (H : Hp) (μ : List Addr) (S : Sto) : Prop where
  len : μ.length = S.length
  nd : μ.Nodup
  ob : ∀ (i : Nat) (o : Ob) (a : Addr), S[i]? = some o → μ[i]? = some a → ObR K H μ a o
/-- what may have happened meanwhile: new places, stores at places -/
structure Ext (μ : List Addr) (H : Hp) (μ' : List Addr) (H' : Hp) : Prop where
  pre : ∃ e, μ' = μ ++ e ∧ ∀ a ∈ e, H a = none
  keep : ∀ b o, H b = some o → b ∉ μ → H' b = some o
  live : ∀ a ∈ μ', H' a ≠ none

section
variable {K : PySem.W.Frag} {H H' H1 H2 : Hp} {μ μ' μ1 μ2 : List Addr} {S S' : Sto}
theorem Reps.length : ∀ {xs : List Va} {vs : List V}, Reps K H μ xs vs → vs.length = xs.length
  | [], vs, h => by
    simp only [Reps] at h
    rw [h]; rfl
  | x :: xs, vs, h => by
    simp only [Reps] at h
    obtain ⟨v, r, rfl, _, h⟩ := h
    rw [List.length_cons, List.length_cons, Reps.length h]
theorem ObR.some {a : Addr} : ∀ {o : Ob}, ObR K H μ a o → H a ≠ none
  | .lst xs, h => by
    obtain ⟨vs, e, _⟩ := h
    rw [e]; nofun
  | .dic kvs, h => by
    rcases h with ⟨ks, e, _⟩ | ⟨ks, e, _⟩ <;> (rw [e]; nofun)
theorem ObR.mut {a : Addr} : ∀ {o : Ob}, ObR K H μ a o → Mut (H a)
  | .lst xs, h => by
    obtain ⟨vs, e, _⟩ := h
    rw [e]; trivial
  | .dic kvs, h => by
    rcases h with ⟨ks, e, _⟩ | ⟨ks, e, _⟩ <;> (rw [e]; trivial)
theorem SR.at_ (sr : SR K H μ S) {a : Addr} (h : a ∈ μ) : ∃ (i : Nat) (o : Ob), S[i]? = some o ∧ μ[i]? = some a ∧ ObR K H μ a o := by
  obtain ⟨i, hi, e⟩ := List.getElem_of_mem h
  have hi2 : i < S.length := by rw [← sr.len]; exact hi
  have q : μ[i]? = some a := by rw [List.getElem?_eq_getElem hi, e]
  exact ⟨i, S[i], List.getElem?_eq_getElem hi2, q, sr.ob i _ a (List.getElem?_eq_getElem hi2) q⟩
theorem SR.live (sr : SR K H μ S) : ∀ a ∈ μ, H a ≠ none := fun a h => by
  obtain ⟨_, _, _, _, q⟩ := sr.at_ h
  exact q.some
theorem SR.mut (sr : SR K H μ S) : ∀ a ∈ μ, Mut (H a) := fun a h => by
  obtain ⟨_, _, _, _, q⟩ := sr.at_ h
  exact q.mut
theorem SR.nofrz (sr : SR K H μ S) {a : Addr} {o : Obj} {u : HO} (h : H a = some (.frz o u)) : a ∉ μ := fun m => by
  have q := sr.mut a m
  rw [h] at q
  exact q
theorem SR.adr (sr : SR K H μ S) {i : Nat} {o : Ob} (h : S[i]? = some o) : ∃ a, μ[i]? = some a ∧ ObR K H μ a o := by
  have hi : i < μ.length := by
    rw [sr.len]
    exact (List.getElem?_eq_some_iff.mp h).1
  exact ⟨μ[i], List.getElem?_eq_getElem hi, sr.ob i o _ h (List.getElem?_eq_getElem hi)⟩
theorem Ext.refl (sr : SR K H μ S) : Ext μ H μ H := ⟨⟨[], by simp, nofun⟩, fun _ _ e _ => e, sr.live⟩
theorem Ext.trans (a : Ext μ H μ1 H1) (b : Ext μ1 H1 μ2 H2) : Ext μ H μ2 H2 := by
  obtain ⟨⟨e1, rfl, n1⟩, k1, l1⟩ := a
  obtain ⟨⟨e2, rfl, n2⟩, k2, l2⟩ := b
  have nn : ∀ b o, H b = some o → b ∉ μ → b ∉ e1 := fun b o e _ m => by
    rw [n1 b m] at e; cases e
  refine ⟨⟨e1 ++ e2, by rw [List.append_assoc], fun c hc => ?_⟩, fun c o e n => k2 c o (k1 c o e n) ?_, l2⟩
  · rcases List.mem_append.mp hc with m | m
    · exact n1 c m
    · have z := n2 c m
      cases q : H c with
      | none => rfl
      | some o =>
        by_cases hm : c ∈ μ
        · exact absurd z (l1 c (List.mem_append_left _ hm))
        · rw [k1 c o q hm] at z; cases z
  · intro m
    rcases List.mem_append.mp m with m | m
    · exact n m
    · exact nn c o e n m
theorem Ext.at_ (e : Ext μ H μ' H') {i : Nat} {a : Addr} (h : μ[i]? = some a) : μ'[i]? = some a := by
  obtain ⟨⟨t, rfl, _⟩, _, _⟩ := e
  rw [List.getElem?_append_left (List.getElem?_eq_some_iff.mp h).1]
  exact h
theorem Ext.le (e : Ext μ H μ' H') : μ.length ≤ μ'.length := by
  obtain ⟨⟨t, rfl, _⟩, _, _⟩ := e
  rw [List.length_append]
  exact Nat.le_add_right _ _
theorem TupX.mono {a : Addr} {vs : List V} (sr : SR K H μ S) (e : Ext μ H μ' H') (h : TupX K H a vs) : TupX K H' a vs := by
  rcases h with ⟨o, h, d⟩ | h
  · exact .inl ⟨o, e.keep _ _ h (sr.nofrz h), d⟩
  · exact .inr h
theorem LisX.mono {a : Addr} {vs : List V} (sr : SR K H μ S) (e : Ext μ H μ' H') (h : LisX K H a vs) : LisX K H' a vs := by
  rcases h with ⟨o, h⟩ | h
  · exact .inl ⟨o, e.keep _ _ h (sr.nofrz h)⟩
  · exact .inr h
mutual
theorem Rep.mono (sr : SR K H μ S) (e : Ext μ H μ' H') : ∀ {x : Va} {v : V}, Rep K H μ x v → Rep K H' μ' x v
  | .non, _, h => by simpa only [Rep] using h
  | .bl _, _, h => by simpa only [Rep] using h
  | .int _, _, h => by simpa only [Rep] using h
  | .str _, _, h => by simpa only [Rep] using h
  | .tup xs, v, h => by
    simp only [Rep] at h ⊢
    obtain ⟨a, vs, h1, h2, h3⟩ := h
    exact ⟨a, vs, h1, h2.mono sr e, Reps.mono sr e h3⟩
  | .lis xs, v, h => by
    simp only [Rep] at h ⊢
    obtain ⟨a, vs, h1, h2, h3⟩ := h
    exact ⟨a, vs, h1, h2.mono sr e, Reps.mono sr e h3⟩
  | .ref i, v, h => by
    simp only [Rep] at h ⊢
    obtain ⟨a, h1, h2⟩ := h
    exact ⟨a, h1, e.at_ h2⟩
  | .exc, _, _ => by simp only [Rep]
theorem Reps.mono (sr : SR K H μ S) (e : Ext μ H μ' H') : ∀ {xs : List Va} {vs : List V}, Reps K H μ xs vs → Reps K H' μ' xs vs
  | [], _, h => by simpa only [Reps] using h
  | x :: xs, vs, h => by
    simp only [Reps] at h ⊢
    obtain ⟨v, r, h1, h2, h3⟩ := h
    exact ⟨v, r, h1, Rep.mono sr e h2, Reps.mono sr e h3⟩
end
theorem EnK.mono (sr : SR K H μ S) (e : Ext μ H μ' H') : ∀ {kvs : List (Va × Va)} {ks : List (Key × V)}, EnK K H μ kvs ks → EnK K H' μ' kvs ks
  | [], _, h => h
  | _ :: _, _, ⟨k, v, t, h1, h2, h3, h4⟩ => ⟨k, v, t, h1, h2, Rep.mono sr e h3, EnK.mono sr e h4⟩
theorem EnT.mono (sr : SR K H μ S) (e : Ext μ H μ' H') : ∀ {kvs : List (Va × Va)} {ks : List DictEntry}, EnT K H μ kvs ks → EnT K H' μ' kvs ks
  | [], _, h => h
  | _ :: _, _, ⟨d, t, k, v, h1, h2, h3, h4, h5, h6⟩ => ⟨d, t, k, v, h1, h2, Rep.mono sr e h3, h4, Rep.mono sr e h5, EnT.mono sr e h6⟩
/-- an object that stands as it stood -/
theorem ObR.mono {a : Addr} (sr : SR K H μ S) (e : Ext μ H μ' H') : ∀ {o : Ob}, ObR K H μ a o → H' a = H a → ObR K H' μ' a o
  | .lst xs, ⟨vs, h1, h2⟩, q => ⟨vs, q.trans h1, Reps.mono sr e h2⟩
  | .dic kvs, h, q => by
    rcases h with ⟨ks, h1, h2⟩ | ⟨ks, h1, h2⟩
    · exact .inl ⟨ks, q.trans h1, h2.mono sr e⟩
    · exact .inr ⟨ks, q.trans h1, h2.mono sr e⟩

/-! ### lists of values -/
theorem Reps.cons {x : Va} {v : V} {xs : List Va} {vs : List V} (h : Rep K H μ x v) (t : Reps K H μ xs vs) : Reps K H μ (x :: xs) (v :: vs) := by
  simp only [Reps]
  exact ⟨v, vs, rfl, h, t⟩
theorem Reps.nil : Reps K H μ [] [] := by simp only [Reps]
theorem Reps.one {x : Va} {vs : List V} (h : Reps K H μ [x] vs) : ∃ v, vs = [v] ∧ Rep K H μ x v := by
  simp only [Reps] at h
  obtain ⟨v, r, rfl, h, rfl⟩ := h
  exact ⟨v, rfl, h⟩
theorem Reps.two {x y : Va} {vs : List V} (h : Reps K H μ [x, y] vs) : ∃ v w, vs = [v, w] ∧ Rep K H μ x v ∧ Rep K H μ y w := by
  simp only [Reps] at h
  obtain ⟨v, r, rfl, h, w, r', rfl, h', rfl⟩ := h
  exact ⟨v, w, rfl, h, h'⟩
theorem Reps.zero {vs : List V} (h : Reps K H μ [] vs) : vs = [] := by simpa only [Reps] using h
theorem Reps.append : ∀ {xs ys : List Va} {vs ws : List V}, Reps K H μ xs vs → Reps K H μ ys ws → Reps K H μ (xs ++ ys) (vs ++ ws)
  | [], _, _, _, h, h' => by
    rw [h.zero]
    exact h'
  | x :: xs, _, _, _, h, h' => by
    simp only [Reps] at h
    obtain ⟨v, r, rfl, h1, h2⟩ := h
    exact .cons h1 (Reps.append h2 h')
theorem Reps.get : ∀ {xs : List Va} {vs : List V} {i : Nat} {x : Va}, Reps K H μ xs vs → xs[i]? = some x → ∃ v, vs[i]? = some v ∧ Rep K H μ x v
  | [], _, _, _, _, e => by simp at e
  | y :: xs, _, 0, x, h, e => by
    simp only [Reps] at h
    obtain ⟨v, r, rfl, h1, h2⟩ := h
    simp at e
    subst e
    exact ⟨v, rfl, h1⟩
  | y :: xs, _, i + 1, x, h, e => by
    simp only [Reps] at h
    obtain ⟨v, r, rfl, h1, h2⟩ := h
    obtain ⟨w, q1, q2⟩ := Reps.get (i := i) (x := x) h2 (by simpa using e)
    exact ⟨w, by simpa using q1, q2⟩
theorem Reps.take : ∀ (n : Nat) {xs : List Va} {vs : List V}, Reps K H μ xs vs → Reps K H μ (xs.take n) (vs.take n)
  | 0, _, _, _ => by simpa only [List.take_zero] using Reps.nil
  | _ + 1, [], _, h => by rw [h.zero]; exact Reps.nil
  | n + 1, x :: xs, _, h => by
    simp only [Reps] at h
    obtain ⟨v, r, rfl, h1, h2⟩ := h
    exact .cons h1 (Reps.take n h2)
theorem Reps.drop : ∀ (n : Nat) {xs : List Va} {vs : List V}, Reps K H μ xs vs → Reps K H μ (xs.drop n) (vs.drop n)
  | 0, _, _, h => by simpa only [List.drop_zero] using h
  | _ + 1, [], _, h => by rw [h.zero]; exact Reps.nil
  | n + 1, x :: xs, _, h => by
    simp only [Reps] at h
    obtain ⟨v, r, rfl, h1, h2⟩ := h
    exact Reps.drop n h2
theorem Reps.set : ∀ (n : Nat) {xs : List Va} {vs : List V} {x : Va} {v : V}, Reps K H μ xs vs → Rep K H μ x v → Reps K H μ (xs.set n x) (vs.set n v)
  | _, [], _, _, _, h, _ => by rw [h.zero]; exact Reps.nil
  | 0, y :: xs, _, _, _, h, h' => by
    simp only [Reps] at h
    obtain ⟨v, r, rfl, h1, h2⟩ := h
    exact .cons h' h2
  | n + 1, y :: xs, _, _, _, h, h' => by
    simp only [Reps] at h
    obtain ⟨v, r, rfl, h1, h2⟩ := h
    exact .cons h1 (Reps.set n h2 h')
theorem Reps.reverse {xs : List Va} {vs : List V} (h : Reps K H μ xs vs) : Reps K H μ xs.reverse vs.reverse := by
  induction xs generalizing vs with
  | nil => rw [h.zero]; exact Reps.nil
  | cons x xs ih =>
    simp only [Reps] at h
    obtain ⟨v, r, rfl, h1, h2⟩ := h
    rw [List.reverse_cons, List.reverse_cons]
    exact (ih h2).append (.cons h1 .nil)
theorem Reps.dropLast {xs : List Va} {vs : List V} (h : Reps K H μ xs vs) : Reps K H μ xs.dropLast vs.dropLast := by
  rw [List.dropLast_eq_take, List.dropLast_eq_take, h.length]
  exact h.take _
theorem Reps.cut {xs : List Va} {vs : List V} (h : Reps K H μ xs vs) (lo hi : Option Int) : Reps K H μ (EV.cut xs lo hi) (cutV vs lo hi) := by
  unfold EV.cut cutV
  rw [h.length]
  exact (h.drop _).take _
theorem Reps.rep {xs : List Va} {vs : List V} (h : Reps K H μ xs vs) : ∀ k : Nat, Reps K H μ (List.replicate k xs).flatten (List.replicate k vs).flatten
  | 0 => Reps.nil
  | k + 1 => by
    rw [List.replicate_succ, List.replicate_succ, List.flatten_cons, List.flatten_cons]
    exact h.append (Reps.rep h k)
theorem Reps.atI {xs : List Va} {vs : List V} {i : Int} {x : Va} (h : Reps K H μ xs vs) (e : L2.atI xs i = some x) : ∃ v, L2.atI vs i = some v ∧ Rep K H μ x v := by
  unfold L2.atI at e ⊢
  rw [h.length]
  cases q : ixN xs.length i with
  | none => rw [q] at e; cases e
  | some j =>
    rw [q] at e
    exact h.get e

/-! ### stores change -/
/-- the list at a place is rewritten -/
theorem SR.put {i : Nat} {a : Addr} {xs ys : List Va} {vs ws : List V} (sr : SR K H μ S) (hi : S[i]? = some (.lst xs)) (ha : μ[i]? = some a) (hH : H a = some (.lst vs)) (r : Reps K H μ ys ws) :
    SR K (upd H a (.lst ws)) μ (S.set i (.lst ys)) ∧ Ext μ H μ (upd H a (.lst ws)) := by
  have mem : a ∈ μ := List.mem_of_getElem? ha
  have e : Ext μ H μ (upd H a (.lst ws)) := by
    refine ⟨⟨[], by simp, nofun⟩, fun b o q n => ?_, fun b m => ?_⟩
    · rw [upd_ne (fun z => n (by rw [z]; exact mem))]
      exact q
    · by_cases hb : b = a
      · rw [hb, upd_same]; nofun
      · rw [upd_ne hb]; exact sr.live b m
  refine ⟨⟨by rw [List.length_set]; exact sr.len, sr.nd, fun j o b h1 h2 => ?_⟩, e⟩
  have hlt : i < S.length := (List.getElem?_eq_some_iff.mp hi).1
  by_cases hj : i = j
  · subst hj
    rw [List.getElem?_set_self hlt] at h1
    cases h1
    rw [ha] at h2
    cases h2
    exact ⟨ws, upd_same, r.mono sr e⟩
  · rw [List.getElem?_set_ne hj] at h1
    have hb : b ≠ a := fun z => by
      subst z
      have hil : i < μ.length := (List.getElem?_eq_some_iff.mp ha).1
      have hjl : j < μ.length := (List.getElem?_eq_some_iff.mp h2).1
      have e1 := (List.getElem?_eq_some_iff.mp ha).2
      have e2 := (List.getElem?_eq_some_iff.mp h2).2
      exact hj ((List.getElem_inj sr.nd).mp (e1.trans e2.symm))
    exact (sr.ob j o b h1 h2).mono sr e (upd_ne hb)
/-- a new object: any description that means o -/
theorem SR.push {p : Addr} {u : HO} {o : Ob} (sr : SR K H μ S) (hp : H p = none) (h : ∀ e : Ext μ H (μ ++ [p]) (upd H p u), ObR K (upd H p u) (μ ++ [p]) p o) :
    SR K (upd H p u) (μ ++ [p]) (S ++ [o]) ∧ Ext μ H (μ ++ [p]) (upd H p u) := by
  have e : Ext μ H (μ ++ [p]) (upd H p u) := by
    refine ⟨⟨[p], rfl, fun b m => ?_⟩, fun b o q n => ?_, fun b m => ?_⟩
    · rw [List.mem_singleton.mp m]; exact hp
    · rw [upd_ne (ne_of_none q hp)]; exact q
    · by_cases hb : b = p
      · rw [hb, upd_same]; nofun
      · rw [upd_ne hb]
        rcases List.mem_append.mp m with m | m
        · exact sr.live b m
        · exact absurd (List.mem_singleton.mp m) hb
  have np : p ∉ μ := fun m => sr.live p m hp
  refine ⟨⟨by rw [List.length_append, List.length_append, sr.len]; rfl, ?_, fun j ob b h1 h2 => ?_⟩, e⟩
  · refine List.nodup_append.mpr ⟨sr.nd, by simp, fun a ma b mb => ?_⟩
    rw [List.mem_singleton.mp mb]
    exact fun z => np (by rw [← z]; exact ma)
  · by_cases hj : j < S.length
    · rw [List.getElem?_append_left hj] at h1
      rw [List.getElem?_append_left (by rw [sr.len]; exact hj)] at h2
      have hb : b ≠ p := fun z => np (by rw [← z]; exact List.mem_of_getElem? h2)
      exact (sr.ob j ob b h1 h2).mono sr e (upd_ne hb)
    · have hl := (List.getElem?_eq_some_iff.mp h1).1
      rw [List.length_append, List.length_singleton] at hl
      have ej : j = S.length := by omega
      subst ej
      rw [List.getElem?_append_right (Nat.le_refl _), Nat.sub_self] at h1
      rw [List.getElem?_append_right (by rw [sr.len]; exact Nat.le_refl _), sr.len, Nat.sub_self] at h2
      cases h1
      cases h2
      exact h e
/-- a new object that is no place of the store (a tuple) -/
theorem Ext.other {p : Addr} {u : HO} (sr : SR K H μ S) (hp : H p = none) : SR K (upd H p u) μ S ∧ Ext μ H μ (upd H p u) := by
  have np : p ∉ μ := fun m => sr.live p m hp
  have e : Ext μ H μ (upd H p u) := by
    refine ⟨⟨[], by simp, nofun⟩, fun b o q n => ?_, fun b m => ?_⟩
    · rw [upd_ne (ne_of_none q hp)]; exact q
    · rw [upd_ne (fun z => np (by rw [← z]; exact m))]
      exact sr.live b m
  exact ⟨⟨sr.len, sr.nd, fun j ob b h1 h2 => (sr.ob j ob b h1 h2).mono sr e (upd_ne fun z => np (by rw [← z]; exact List.mem_of_getElem? h2))⟩, e⟩
end

/-! ### ends -/
/-- classes of exceptions by number: the class's value, the name of its field -/
structure Ct where
  cls : Nat → Option Value
  fld : Nat → Option Str
/-- an exception: its class, its own dict -/
def ExR (T : Ct) (K : PySem.W.Frag) (H : Hp) (μ : List Addr) (c : Nat) (x : Va) (cls : Value) (d : Option Addr) : Prop :=
  T.cls c = some cls ∧ match T.fld c with
    | none => x = .non ∧ d = none
    | some f => ∃ dx v, d = some dx ∧ H dx = some (.xd [(f, v)]) ∧ Rep K H μ x v
abbrev WH := Value → Option Addr → Hp → Prop
def Gd {α β : Type} (T : Ct) (K : PySem.W.Frag) (R : Hp → List Addr → α → β → Prop) (W : WH) (r : Res α) (H : Hp) (μ : List Addr) (Q : β → Hp → Prop) : Prop := match r with
  | .ok a S' => ∀ b H' μ', Ext μ H μ' H' → SR K H' μ' S' → R H' μ' a b → Q b H'
  | .exn c x S' => ∀ cls d H' μ', Ext μ H μ' H' → SR K H' μ' S' → ExR T K H' μ' c x cls d → W cls d H'
  | .bad => False
section
variable {T : Ct} {K : PySem.W.Frag} {H H' H1 : Hp} {μ μ' μ1 : List Addr} {S S' S1 : Sto} {α β γ δ : Type} {R : Hp → List Addr → α → β → Prop} {R2 : Hp → List Addr → γ → δ → Prop} {W : WH}
theorem Gd.ext {r : Res α} {Q : β → Hp → Prop} (h : Gd T K R W r H μ Q) (e : Ext μ H μ1 H1) : Gd T K R W r H1 μ1 Q := by
  cases r with
  | ok a S' => exact fun b H' μ' e' => h b H' μ' (e.trans e')
  | exn c x S' => exact fun cls d H' μ' e' => h cls d H' μ' (e.trans e')
  | bad => exact h
theorem Gd.bind {r : Res α} {k : α → Sto → Res γ} {Q : δ → Hp → Prop} (h : Gd T K R2 W (r.bind k) H μ Q) :
    Gd T K R W r H μ (fun b H1 => ∃ μ1 S1 a, Ext μ H μ1 H1 ∧ SR K H1 μ1 S1 ∧ R H1 μ1 a b ∧ Gd T K R2 W (k a S1) H1 μ1 Q) := by
  cases r with
  | ok a S' => exact fun b H' μ' e sr rr => ⟨μ', S', a, e, sr, rr, Gd.ext h e⟩
  | exn c x S' => exact h
  | bad => exact h
theorem Gd.imp {r : Res α} {Q Q' : β → Hp → Prop} (h : Gd T K R W r H μ Q) (q : ∀ b H', Q b H' → Q' b H') : Gd T K R W r H μ Q' := by
  cases r with
  | ok a S' => exact fun b H' μ' e sr rr => q b H' (h b H' μ' e sr rr)
  | exn c x S' => exact h
  | bad => exact h
/-- a value's end -/
abbrev GdV (T : Ct) (K : PySem.W.Frag) (W : WH) (r : Res Va) (H : Hp) (μ : List Addr) (Q : VK) : Prop := Gd T K (Rep K) W r H μ Q
abbrev GdL (T : Ct) (K : PySem.W.Frag) (W : WH) (r : Res (List Va)) (H : Hp) (μ : List Addr) (Q : List V → Hp → Prop) : Prop := Gd T K (Reps K) W r H μ Q
/-- an answer that leaves all as it is -/
theorem Gd.stay {a : α} {b : β} {Q : β → Hp → Prop} (h : Gd T K R W (.ok a S) H μ Q) (sr : SR K H μ S) (r : R H μ a b) : Q b H := h b H μ (Ext.refl sr) sr r
end
end EV

end
section
set_option Elab.async false
set_option linter.all false
set_option maxRecDepth 100000
set_option maxHeartbeats 4000000
/-! EV, part C: operations by values. -/
namespace EV
open PySem PySem.Spec PyProof.Rows L2
abbrev Sl := L2.St

/-! ### a new tuple, exact -/
def tupO (its : List Value) : Obj := { cls := .type "tuple", data := .seq its.toArray }
section
variable {X : L2.Cx} {pins : List (Addr × Obj)} {σ : Sl} {H : Hp} {s : Shared} {T : Ct} {K : PySem.W.Frag} {W : WH} {μ : List Addr} {S : Sto}
theorem lay_tup {xs : List V} {its : List Value} {t' : Nat} {h' : Heap} (I : Inv X pins σ H { s with heap := h', toks := t' }) (r : Vals xs its) (hz : xs.length ≤ sizeLine) :
    Inv X pins σ (upd H h'.objs.size (.frz (tupO its) (.tup xs))) { s with heap := h'.push (tupO its), toks := t' } ∧ H h'.objs.size = none := by
  refine ⟨I.laid (t' := t') (fun b o e => Heap.get?_push_of_some _ e) (Nat.le_refl _) ?_, I.hok.fresh (Nat.le_refl _)⟩
  exact ⟨Heap.get?_push_size _ rfl, hz, its, r, IsTup.new _ _⟩
/-- the wish for a new tuple, a new list -/
abbrev NewT (xs : List V) (H : Hp) (Q : VK) : Prop := ∀ p o, H p = none → o.dict = none → Q (.ref p) (upd H p (.frz o (.tup xs)))
abbrev NewL (xs : List V) (H : Hp) (Q : VK) : Prop := ∀ p, H p = none → Q (.ref p) (upd H p (.lst xs))
theorem ep_tup {xs : List V} {its : List Value} {t' : Nat} {h' : Heap} {Q : VK} (I : Inv X pins σ H { s with heap := h', toks := t' }) (r : Vals xs its) (hz : xs.length ≤ sizeLine) (q : NewT xs H Q) :
    EP X pins σ Q (.ref h'.objs.size) { s with heap := h'.push (tupO its), toks := t' } := by
  obtain ⟨J, n⟩ := lay_tup I r hz
  exact ⟨.ref h'.objs.size, _, J, rfl, q _ (tupO its) n rfl⟩

theorem GdV.tup {xs : List Va} {vs : List V} {Q : VK} (g : GdV T K W (.ok (.tup xs) S) H μ Q) (sr : SR K H μ S) (r : Reps K H μ xs vs) : NewT vs H Q := fun p o hp ho => by
  obtain ⟨sr', e⟩ := Ext.other (u := .frz o (.tup vs)) sr hp
  refine g (.ref p) _ μ e sr' ?_
  simp only [Rep]
  exact ⟨p, vs, rfl, .inl ⟨o, upd_same, ho⟩, r.mono sr e⟩
theorem GdV.mkT {xs : List Va} {vs : List V} {Q : VK} (g : GdV T K W (EV.mkT xs S) H μ Q) (sr : SR K H μ S) (r : Reps K H μ xs vs) : vs.length ≤ sizeLine ∧ NewT vs H Q := by
  unfold EV.mkT at g
  rw [r.length]
  split at g
  · rename_i h
    exact ⟨h, g.tup sr r⟩
  · exact g.elim
theorem GdV.new {o : Ob} {Q : VK} (g : GdV T K W (EV.new o S) H μ Q) (sr : SR K H μ S) {u : HO} (h : ∀ p, H p = none → Ext μ H (μ ++ [p]) (upd H p u) → ObR K (upd H p u) (μ ++ [p]) p o) : ∀ p, H p = none → Q (.ref p) (upd H p u) := fun p hp => by
  obtain ⟨sr', e⟩ := SR.push (u := u) (o := o) sr hp fun e => h p hp e
  refine g (.ref p) _ _ e sr' ?_
  simp only [Rep]
  refine ⟨p, rfl, ?_⟩
  rw [← sr.len, List.getElem?_append_right (Nat.le_refl _), Nat.sub_self]
  rfl
theorem GdV.newL {xs : List Va} {vs : List V} {Q : VK} (g : GdV T K W (EV.newL xs S) H μ Q) (sr : SR K H μ S) (r : Reps K H μ xs vs) : vs.length ≤ sizeLine ∧ NewL vs H Q := by
  unfold EV.newL at g
  rw [r.length]
  split at g
  · rename_i h
    exact ⟨h, GdV.new g sr fun p hp e => ⟨vs, upd_same, r.mono sr e⟩⟩
  · exact g.elim
/-- the same value again -/
theorem GdV.same {a : Va} {v : V} {Q : VK} (g : GdV T K W (.ok a S) H μ Q) (sr : SR K H μ S) (r : Rep K H μ a v) : Q v H := Gd.stay g sr r
theorem GdV.int {i : Int} {Q : VK} (g : GdV T K W (.ok (.int i) S) H μ Q) (sr : SR K H μ S) : Q (.int i) H := Gd.stay g sr (by simp only [Rep])
theorem GdV.bl {i : Bool} {Q : VK} (g : GdV T K W (.ok (.bl i) S) H μ Q) (sr : SR K H μ S) : Q (.bl i) H := Gd.stay g sr (by simp only [Rep])
theorem GdV.str {i : Str} {Q : VK} (g : GdV T K W (.ok (.str i) S) H μ Q) (sr : SR K H μ S) : Q (.str i) H := Gd.stay g sr (by simp only [Rep])
theorem GdV.non {Q : VK} (g : GdV T K W (.ok .non S) H μ Q) (sr : SR K H μ S) : Q .non H := Gd.stay g sr (by simp only [Rep])
theorem GdV.intB {i : Int} {p : Bool} {Q : VK} (g : GdV T K W (EV.intB p i S) H μ Q) (sr : SR K H μ S) : p = true ∧ Q (.int i) H := by
  unfold EV.intB at g
  cases p with
  | true => exact ⟨rfl, GdV.int g sr⟩
  | false => exact g.elim
theorem Rep.tupE {xs : List Va} {v : V} (h : Rep K H μ (.tup xs) v) : ∃ a vs, v = .ref a ∧ TupX K H a vs ∧ Reps K H μ xs vs := by simpa only [Rep] using h
theorem Rep.lisE {xs : List Va} {v : V} (h : Rep K H μ (.lis xs) v) : ∃ a vs, v = .ref a ∧ LisX K H a vs ∧ Reps K H μ xs vs := by simpa only [Rep] using h
theorem Rep.intE {i : Int} {v : V} (h : Rep K H μ (.int i) v) : v = .int i := by simpa only [Rep] using h
theorem Rep.blE {i : Bool} {v : V} (h : Rep K H μ (.bl i) v) : v = .bl i := by simpa only [Rep] using h
theorem Rep.strE {i : Str} {v : V} (h : Rep K H μ (.str i) v) : v = .str i := by simpa only [Rep] using h
theorem Rep.nonE {v : V} (h : Rep K H μ .non v) : v = .non := by simpa only [Rep] using h
theorem Rep.refE {i : Nat} {v : V} (h : Rep K H μ (.ref i) v) : ∃ a, v = .ref a ∧ μ[i]? = some a := by simpa only [Rep] using h
theorem Rep.lst {i : Nat} {v : V} {xs : List Va} (sr : SR K H μ S) (h : Rep K H μ (.ref i) v) (e : S[i]? = some (.lst xs)) : ∃ a vs, v = .ref a ∧ μ[i]? = some a ∧ H a = some (.lst vs) ∧ Reps K H μ xs vs := by
  obtain ⟨a, rfl, ha⟩ := h.refE
  obtain ⟨vs, h1, h2⟩ := sr.ob i _ a e ha
  exact ⟨a, vs, rfl, ha, h1, h2⟩
end

/-! ### t + u, t * k of tuples -/
section
variable {X : L2.Cx} {T : Ct}
def rCatX (K : PySem.W.Frag) : R2 := fun x y H Q => ∃ a b xs ys, x = .ref a ∧ y = .ref b ∧ SqT K H a xs ∧ SqT K H b ys ∧ xs.length + ys.length ≤ sizeLine ∧
  (xs = [] → Q (.ref b) H) ∧ (ys = [] → Q (.ref a) H) ∧ NewT (xs ++ ys) H Q
theorem op_catX : OpR X (binaryOp .Add) (rCatX X.K) := by
  intro pins s σ H x y v u Q I rx ry h
  obtain ⟨a, b, xs, ys, rfl, rfl, ha, hb, hz, q0, q1, q2⟩ := h
  cases rx
  cases ry
  obtain ⟨is, r1, p1, _⟩ := I.tuple ha
  obtain ⟨js, r2, p2, _⟩ := I.tuple hb
  cases hx : is with
  | nil =>
    subst hx
    cases r1
    exact cat_tup0 p1 p2 ⟨.ref b, H, I, rfl, q0 rfl⟩
  | cons i0 ir =>
    refine HT.cat_tup p1 p2 (by rw [hx]; nofun) (fun z => ⟨.ref a, H, I, rfl, q1 (r2.nil_iff.mp z)⟩) (fun z => ?_) (by rw [← r1.length, ← r2.length]; exact hz)
    exact ep_tup (t' := s.toks) (h' := s.heap) I (r1.append r2) (by rw [List.length_append]; exact hz) q2
theorem tuple_mul1 (l : Addr) (items : Array Value) (n : Nat) (dd : Option Addr) (sl : Array (Option Value)) (x : Int) (u : Tok) (c0 : (decide (x < -(2 ^ 63)) || decide (x ≥ 2 ^ 63)) = false) (c1 : (items.isEmpty || x == 1) = true) :
    Meets (Builtin.«tuple.__mul__» ⟨[.ref l, .int x u], []⟩) (fun _ R s => s.heap.get? l = some { cls := .type "tuple", dict := dd, data := .seq items n, slots := sl } ∧ R (.ok (.ret (Value.ref l))) s) :=
  .of_wp fun prog w A R s h => by
    obtain ⟨hp, g, d, tk, os⟩ := s
    obtain ⟨hl, h⟩ := h
    have f1 := AutoSeq1.idx_int
    wp_walk using wpAny_loadPart' hl
    refine wpAny_ite_false (decide_eq_false (by rw [c0]; exact Bool.false_ne_true)) ?_
    wp_walk using wpAny_loadPart' hl
    exact ⟨_, rfl, h⟩
theorem tuple_mul0 (l : Addr) (items : Array Value) (n : Nat) (dd : Option Addr) (sl : Array (Option Value)) (x : Int) (u : Tok) (c0 : (decide (x < -(2 ^ 63)) || decide (x ≥ 2 ^ 63)) = false) (c1 : (items.isEmpty || x == 1) = false) (c2 : (decide (x ≤ 0) || items.isEmpty) = true) :
    Meets (Builtin.«tuple.__mul__» ⟨[.ref l, .int x u], []⟩) (fun _ R s => s.heap.get? l = some { cls := .type "tuple", dict := dd, data := .seq items n, slots := sl } ∧
      R (.ok (.ret (Value.ref s.heap.objs.size))) { s with heap := s.heap.push { cls := Value.type "tuple", data := Data.seq #[] }, toks := s.toks }) :=
  .of_wp fun prog w A R s h => by
    obtain ⟨hp, g, d, tk, os⟩ := s
    obtain ⟨hl, h⟩ := h
    have f1 := AutoSeq1.idx_int
    wp_walk using wpAny_loadPart' hl
    refine wpAny_ite_false (decide_eq_false (by rw [c0]; exact Bool.false_ne_true)) ?_
    wp_walk using wpAny_loadPart' hl
    exact ⟨_, rfl, h⟩
def rRepX (K : PySem.W.Frag) : R2 := fun x y H Q => ∃ l k xs, x = .ref l ∧ y = .int k ∧ SqT K H l xs ∧ -(2 ^ 62) < k ∧ k < 2 ^ 62 ∧ xs.length * k.toNat ≤ sizeLine ∧
  (xs = [] ∨ k = 1 → Q (.ref l) H) ∧ NewT (List.replicate k.toNat xs).flatten H Q
theorem op_repX : OpR X (binaryOp .Mult) (rRepX X.K) := by
  intro pins s σ H x y v u Q I rx ry h
  obtain ⟨l, k, xs, rfl, rfl, hT, k1, k2, hz, q1, q2⟩ := h
  cases rx
  obtain ⟨t, rfl⟩ := ry
  obtain ⟨is, r, ⟨⟨cls, dd, data, sl⟩, ho, hc, n, hd⟩, hs⟩ := I.tuple hT
  simp only at hc hd
  subst hc hd
  have hle : is.length = xs.length := r.length.symm
  have c0 : (decide (k < -(2 ^ 63)) || decide (k ≥ 2 ^ 63)) = false := by
    rw [Bool.or_eq_false_iff]
    exact ⟨decide_eq_false (by omega), decide_eq_false (by omega)⟩
  have go : ∀ {R : Result → Shared → Prop}, True := fun {R} => trivial
  refine wpAny_binaryOp_repeat_ref (T := "tuple") (U := "int") (by decide) ⟨_, ho, rfl⟩ (fun s' => typeIs_int s' k t) noFill_tuple_mul F.fills_int_mul F.slot_int_rmul repeat_tuple F.slot_int_index.lookup
    (call_meets F.slot_int_rmul (typeIs_int s k t) F.entry_int_rmul (F.args_int_rmul_2 _ _) (int_rmul_tuple k t l is.toArray n dd sl) ⟨ho, rfl, ⟨_, ho, rfl⟩, ?_⟩)
  by_cases e1 : (is.toArray.isEmpty || k == 1) = true
  · refine call_meets F.slot_tuple_mul ⟨_, ho, rfl⟩ F.entry_tuple_mul (F.args_tuple_mul_2 _ _) (tuple_mul1 l is.toArray n dd sl k t c0 e1) ⟨ho, ?_⟩
    refine ⟨.ref l, H, I, rfl, q1 ?_⟩
    rw [Bool.or_eq_true] at e1
    rcases e1 with z | z
    · refine .inl (r.nil_iff.mp ?_)
      simpa using z
    · exact .inr (by simpa using z)
  · have e1 : (is.toArray.isEmpty || k == 1) = false := by simpa using e1
    have e1' := Bool.or_eq_false_iff.mp e1
    by_cases e2 : (decide (k ≤ 0) || is.toArray.isEmpty) = true
    · refine call_meets F.slot_tuple_mul ⟨_, ho, rfl⟩ F.entry_tuple_mul (F.args_tuple_mul_2 _ _) (tuple_mul0 l is.toArray n dd sl k t c0 e1 e2) ⟨ho, ?_⟩
      rw [e1'.1, Bool.or_false] at e2
      have k0 : k.toNat = 0 := by
        have := of_decide_eq_true e2
        omega
      rw [k0] at q2
      exact ep_tup (t' := s.toks) (h' := s.heap) (its := []) (xs := []) I .nil (Nat.zero_le _) q2
    · have e2 : (decide (k ≤ 0) || is.toArray.isEmpty) = false := by simpa using e2
      have kp : 0 < k := by
        have := of_decide_eq_false (Bool.or_eq_false_iff.mp e2).1
        omega
      have hm : ((is.toArray.size : Nat) : Int) * k = ((xs.length * k.toNat : Nat) : Int) := by
        rw [List.size_toArray, hle, Int.natCast_mul, Int.toNat_of_nonneg (by omega)]
      have hsl : sizeLine = 16777216 := sizeLine_eq
      refine call_meets F.slot_tuple_mul ⟨_, ho, rfl⟩ F.entry_tuple_mul (F.args_tuple_mul_2 _ _) (tuple_mulW l is.toArray n dd sl k t c0 e1 e2 (by rw [hm]; omega) ?_ ?_) ⟨ho, ?_⟩
      · unfold Builtin.Tuple.tupleTooMany
        rw [hm]
        exact decide_eq_false (by omega)
      · rw [size_rep, List.size_toArray, PyProof.Rows.lm_len_rep_flat, hle, Nat.mul_comm]
        exact hz
      · rw [size_rep]
        exact ep_tup (t' := s.toks) (h' := s.heap) I (r.rep k.toNat) (by rw [PyProof.Rows.lm_len_rep_flat, Nat.mul_comm]; exact hz) q2
end

/-! ### the binary operators -/
section
variable {X : L2.Cx} {T : Ct}
def noW : WH := fun _ _ _ => False
def rB (T : Ct) (K : PySem.W.Frag) (op : Operator) : R2 := fun x y H Q => ∃ W : WH, ∃ μ S a b, SR K H μ S ∧ Rep K H μ a x ∧ Rep K H μ b y ∧ GdV T K W (binOp op a b S) H μ Q
theorem repL_length (k : Int) (xs : List Va) : (repL k xs).length = k.toNat * xs.length := lm_len_rep_flat xs k.toNat
theorem repL_one (xs : List Va) : repL 1 xs = xs := by
  show (List.replicate 1 xs).flatten = xs
  simp
theorem repL_nil (k : Int) : repL k [] = [] := List.length_eq_zero_iff.mp (by rw [repL_length]; rfl)
theorem op_bin_add : OpR X (binaryOp .Add) (rB T X.K .Add) := by
  intro pins s σ H x y v u Q I rx ry h
  obtain ⟨W, μ, S, a, b, sr, ra, rb, g⟩ := h
  simp only [binOp] at g
  split at g
  · cases ra.intE
    cases rb.intE
    exact op_add pins s σ H _ _ v u Q I rx ry ⟨_, _, rfl, rfl, g.int sr⟩
  · cases ra.strE
    cases rb.strE
    split at g
    · rename_i hz
      exact op_add_str pins s σ H _ _ v u Q I rx ry ⟨_, _, rfl, rfl, hz, g.str sr⟩
    · exact g.elim
  · rename_i xs ys
    obtain ⟨p, vs, rfl, hp, hr⟩ := ra.tupE
    obtain ⟨q, ws, rfl, hq, hs⟩ := rb.tupE
    have hl : (xs ++ ys).length = vs.length + ws.length := by rw [List.length_append, hr.length, hs.length]
    have g' := g
    unfold EV.mkT at g'
    split at g'
    · rename_i hz
      refine op_catX pins s σ H _ _ v u Q I rx ry ⟨p, q, vs, ws, rfl, rfl, hp.sq, hq.sq, by rw [← hl]; exact hz, fun e => ?_, fun e => ?_, (g.mkT sr (hr.append hs)).2⟩
      · have ex : xs = [] := List.length_eq_zero_iff.mp (by rw [← hr.length, e]; rfl)
        subst ex
        refine GdV.same g' sr ?_
        simp only [Rep]
        exact ⟨q, ws, rfl, hq, hs⟩
      · have ex : ys = [] := List.length_eq_zero_iff.mp (by rw [← hs.length, e]; rfl)
        subst ex
        refine GdV.same g' sr ?_
        simp only [Rep]
        exact ⟨p, vs, rfl, hp, by rw [List.append_nil]; exact hr⟩
    · exact g'.elim
  · split at g
    · rename_i i j xs ys e1 e2
      obtain ⟨p, vs, rfl, hp, h1, hr⟩ := ra.lst sr e1
      obtain ⟨q, ws, rfl, hq, h2, hs⟩ := rb.lst sr e2
      obtain ⟨hz, n⟩ := g.newL sr (hr.append hs)
      exact op_cat pins s σ H _ _ v u Q I rx ry ⟨p, q, vs, ws, rfl, rfl, h1, h2, by rw [← List.length_append]; exact hz, n⟩
    · exact g.elim
  · exact g.elim
theorem op_bin_sub : OpR X (binaryOp .Sub) (rB T X.K .Sub) := by
  intro pins s σ H x y v u Q I rx ry h
  obtain ⟨W, μ, S, a, b, sr, ra, rb, g⟩ := h
  simp only [binOp] at g
  split at g
  · cases ra.intE
    cases rb.intE
    exact op_sub pins s σ H _ _ v u Q I rx ry ⟨_, _, rfl, rfl, g.int sr⟩
  · exact g.elim
theorem in64 {i : Int} (h : i.natAbs < 2 ^ 64) : -(2 ^ 64) < i ∧ i < 2 ^ 64 := by omega
theorem op_bin_mul : OpR X (binaryOp .Mult) (rB T X.K .Mult) := by
  intro pins s σ H x y v u Q I rx ry h
  obtain ⟨W, μ, S, a, b, sr, ra, rb, g⟩ := h
  simp only [binOp] at g
  split at g
  · rename_i i j
    cases ra.intE
    cases rb.intE
    obtain ⟨c, q⟩ := g.intB sr
    refine op_mul pins s σ H _ _ v u Q I rx ry ⟨i, j, rfl, rfl, ?_, q⟩
    rw [Bool.or_eq_true] at c
    rcases c with c | c
    · exact .inl (in64 (of_decide_eq_true c))
    · exact .inr (in64 (of_decide_eq_true c))
  · rename_i xs k
    split at g
    · rename_i hk
      obtain ⟨p, vs, rfl, hp, hr⟩ := ra.tupE
      cases rb.intE
      obtain ⟨hz, n⟩ := g.mkT sr (hr.rep k.toNat)
      refine op_repX pins s σ H _ _ v u Q I rx ry ⟨p, k, vs, rfl, rfl, hp.sq, hk.1, hk.2, by rw [lm_len_rep_flat, Nat.mul_comm] at hz; exact hz, fun e => ?_, n⟩
      have e' : repL k xs = xs := by
        rcases e with e | e
        · have ex : xs = [] := List.length_eq_zero_iff.mp (by rw [← hr.length, e]; rfl)
          rw [ex, repL_nil]
        · rw [e, repL_one]
      unfold EV.mkT at g
      split at g
      · rw [e'] at g
        refine GdV.same g sr ?_
        simp only [Rep]
        exact ⟨p, vs, rfl, hp, hr⟩
      · exact g.elim
    · exact g.elim
  · rename_i i k
    split at g
    · rename_i xs e1
      split at g
      · rename_i hk
        obtain ⟨p, vs, rfl, hp, h1, hr⟩ := ra.lst sr e1
        cases rb.intE
        obtain ⟨hz, n⟩ := g.newL sr (hr.rep k.toNat)
        exact op_rep pins s σ H _ _ v u Q I rx ry ⟨p, k, vs, rfl, rfl, h1, by omega, by omega, by rw [lm_len_rep_flat, Nat.mul_comm] at hz; exact hz, n⟩
      · exact g.elim
    · exact g.elim
  · exact g.elim
theorem op_bin_fdiv : OpR X (binaryOp .FloorDiv) (rB T X.K .FloorDiv) := by
  intro pins s σ H x y v u Q I rx ry h
  obtain ⟨W, μ, S, a, b, sr, ra, rb, g⟩ := h
  simp only [binOp] at g
  split at g
  · rename_i i j
    cases ra.intE
    cases rb.intE
    obtain ⟨c, q⟩ := g.intB sr
    rw [Bool.and_eq_true] at c
    exact op_fdivN pins s σ H _ _ v u Q I rx ry ⟨i, j, rfl, rfl, ⟨of_decide_eq_true c.1, of_decide_eq_true c.2⟩, q⟩
  · exact g.elim
theorem op_bin_mod : OpR X (binaryOp .Mod) (rB T X.K .Mod) := by
  intro pins s σ H x y v u Q I rx ry h
  obtain ⟨W, μ, S, a, b, sr, ra, rb, g⟩ := h
  simp only [binOp] at g
  split at g
  · rename_i i j
    cases ra.intE
    cases rb.intE
    obtain ⟨c, q⟩ := g.intB sr
    exact op_modN pins s σ H _ _ v u Q I rx ry ⟨i, j, rfl, rfl, of_decide_eq_true c, q⟩
  · exact g.elim
theorem op_bin_pow : OpR X (binaryOp .Pow) (rB T X.K .Pow) := by
  intro pins s σ H x y v u Q I rx ry h
  obtain ⟨W, μ, S, a, b, sr, ra, rb, g⟩ := h
  simp only [binOp] at g
  split at g
  · rename_i i j
    cases ra.intE
    cases rb.intE
    obtain ⟨c, q⟩ := g.intB sr
    rw [Bool.and_eq_true] at c
    obtain ⟨t, rfl⟩ := rx
    obtain ⟨t', rfl⟩ := ry
    exact pow_int (of_decide_eq_true c.1) (of_decide_eq_true c.2) ⟨.int (i ^ j.toNat), H, I.tok _, ⟨_, rfl⟩, q⟩
  · exact g.elim
theorem op_bin : ∀ op : Operator, OpR X (binaryOp op) (rB T X.K op)
  | .Add => op_bin_add
  | .Sub => op_bin_sub
  | .Mult => op_bin_mul
  | .FloorDiv => op_bin_fdiv
  | .Mod => op_bin_mod
  | .Pow => op_bin_pow
  | .Div | .MatMult | .LShift | .RShift | .BitOr | .BitXor | .BitAnd => fun _ _ _ _ _ _ _ _ _ _ _ _ ⟨_, _, _, _, _, _, _, _, g⟩ => g.elim
end
end EV

end
section
set_option Elab.async false
set_option linter.all false
set_option maxRecDepth 100000
set_option maxHeartbeats 4000000
/-! EV, part D: comparisons, subscripts, slices by values. -/
namespace EV
open PySem PySem.Spec PyProof.Rows L2

section
variable {K : PySem.W.Frag} {H : Hp} {μ : List Addr} {S : Sto}
theorem optMap_cons {α β : Type} {f : α → Option β} {a : α} {r : List α} {bs : List β} (h : optMap f (a :: r) = some bs) : ∃ b t, bs = b :: t ∧ f a = some b ∧ optMap f r = some t := by
  simp only [optMap] at h
  split at h
  · cases h
  · rename_i b e
    split at h
    · cases h
    · rename_i t e2
      exact ⟨b, t, (Option.some.inj h).symm, e, e2⟩
theorem optMap_nil {α β : Type} {f : α → Option β} {bs : List β} (h : optMap f [] = some bs) : bs = [] := by
  simp only [optMap] at h
  exact (Option.some.inj h).symm
theorem sc_of {a : Va} {x v : V} (r : Rep K H μ a x) (h : sc a = some v) : x = v := by
  cases a <;> simp only [sc] at h <;> first | (cases h; simpa only [Rep] using r) | (cases h)
theorem scs_of : ∀ {xs : List Va} {vs ws : List V}, Reps K H μ xs vs → optMap sc xs = some ws → vs = ws
  | [], _, _, r, h => by rw [r.zero, optMap_nil h]
  | a :: xs, _, _, r, h => by
    obtain ⟨b, t, rfl, h1, h2⟩ := optMap_cons h
    simp only [Reps] at r
    obtain ⟨v, vs, rfl, r1, r2⟩ := r
    rw [sc_of r1 h1, scs_of r2 h2]
theorem sc_flat {a : Va} {v : V} (h : sc a = some v) : flatV v = true := by
  cases a <;> simp only [sc] at h <;> cases h <;> rfl
theorem scs_flat : ∀ {xs : List Va} {ws : List V}, optMap sc xs = some ws → ws.all flatV = true
  | [], _, h => by rw [optMap_nil h]; rfl
  | a :: xs, _, h => by
    obtain ⟨b, t, rfl, h1, h2⟩ := optMap_cons h
    rw [List.all_cons, sc_flat h1, scs_flat h2]
    rfl
mutual
/-- no dict within -/
theorem dp_of (sr : SR K H μ S) : ∀ (n : Nat) {a : Va} {x : V} {d : PyData}, Rep K H μ a x → toD S n a = some d → d.hasDict = false → Dp K H x d
  | 0, _, _, _, _, h, _ => by simp [toD] at h
  | n + 1, a, x, d, r, h, hd => by
    simp only [toD] at h
    cases a with
    | non => cases h; cases r.nonE; exact .non
    | bl b => cases h; cases r.blE; exact .bl b
    | int i => cases h; cases r.intE; exact .int i
    | str z => cases h; cases r.strE; exact .str z
    | tup xs =>
      obtain ⟨p, vs, rfl, hp, hr⟩ := r.tupE
      obtain ⟨ds, e, rfl⟩ := Option.map_eq_some_iff.mp h
      exact .tup hp.sq (dps_of sr n hr e (by simpa only [PyData.hasDict] using hd))
    | lis xs => cases h
    | ref i =>
      simp only at h
      split at h
      · rename_i xs e1
        obtain ⟨ds, e, rfl⟩ := Option.map_eq_some_iff.mp h
        obtain ⟨p, vs, rfl, _, h1, hr⟩ := r.lst sr e1
        exact .lst (SqL.of h1) (dps_of sr n hr e (by simpa only [PyData.hasDict] using hd))
      · obtain ⟨ds, e, rfl⟩ := Option.map_eq_some_iff.mp h
        simp only [PyData.hasDict] at hd
        cases hd
      · cases h
    | exc => cases h
theorem dps_of (sr : SR K H μ S) : ∀ (n : Nat) {xs : List Va} {vs : List V} {ds : List PyData}, Reps K H μ xs vs → optMap (toD S n) xs = some ds → PyData.hasDictAll ds = false → DpAll K H vs ds
  | n, [], _, _, r, h, _ => by
    rw [r.zero, optMap_nil h]
    exact .nil
  | n, a :: xs, _, _, r, h, hd => by
    obtain ⟨b, t, rfl, h1, h2⟩ := optMap_cons h
    simp only [Reps] at r
    obtain ⟨v, vs, rfl, r1, r2⟩ := r
    simp only [PyData.hasDictAll, Bool.or_eq_false_iff] at hd
    exact .cons (dp_of sr n r1 h1 hd.1) (dps_of sr n r2 h2 hd.2)
end
theorem nodict {d : PyData} (h : SeqAt.shaped d = true) : d.hasDict = false := PyData.hasDict_of_canLay d (SeqAt.canLay_of_shaped h)
theorem deep_of {a b : Va} {x y : V} {c : Bool} (sr : SR K H μ S) (ra : Rep K H μ a x) (rb : Rep K H μ b y) (h : eqDeep S a b = some c) :
    ∃ d e, Dp K H x d ∧ Dp K H y e ∧ SeqAt.shaped d = true ∧ SeqAt.shaped e = true ∧ c = PyData.eqv d e := by
  unfold eqDeep at h
  split at h
  · cases h
  · rename_i d h1
    split at h
    · cases h
    · rename_i e h2
      split at h
      · rename_i hs
        rw [Bool.and_eq_true] at hs
        exact ⟨d, e, dp_of sr _ ra h1 (nodict hs.1), dp_of sr _ rb h2 (nodict hs.2), hs.1, hs.2, (Option.some.inj h).symm⟩
      · cases h
theorem eq_of {a b : Va} {x y : V} {c : Bool} (sr : SR K H μ S) (ra : Rep K H μ a x) (rb : Rep K H μ b y) (h : eqOp S a b = some c) :
    (scal x y = true ∧ c = decide (x = y)) ∨ ∃ d e, Dp K H x d ∧ Dp K H y e ∧ SeqAt.shaped d = true ∧ SeqAt.shaped e = true ∧ c = PyData.eqv d e := by
  unfold eqOp at h
  split at h
  · rename_i v w h1 h2
    rw [sc_of ra h1, sc_of rb h2]
    split at h
    · rename_i hs
      exact .inl ⟨hs, (Option.some.inj h).symm⟩
    · have := deep_of sr ra rb h
      rw [sc_of ra h1, sc_of rb h2] at this
      exact .inr this
  · exact .inr (deep_of sr ra rb h)
end

section
variable {X : L2.Cx}
def rC (K : PySem.W.Frag) (op : CmpOp) : R2 := fun x y H Q => ∃ μ S a b c, SR K H μ S ∧ Rep K H μ a x ∧ Rep K H μ b y ∧ cmpOp op a b S = some c ∧ Q (.bl c) H
theorem op_cmp_eq (hu : X.A.units + 64 < cLine) : OpR X (compareOp .Eq) (rC X.K .Eq) := by
  intro pins s σ H x y v u Q I rx ry h
  obtain ⟨μ, S, a, b, c, sr, ra, rb, e, q⟩ := h
  rcases eq_of sr ra rb e with ⟨h1, rfl⟩ | ⟨d, f, h1, h2, h3, h4, rfl⟩
  · exact op_eq pins s σ H _ _ v u Q I rx ry ⟨h1, q⟩
  · exact op_eqD hu pins s σ H _ _ v u Q I rx ry ⟨d, f, h1, h2, h3, h4, q⟩
theorem op_cmp_ne (hu : X.A.units + 64 < cLine) : OpR X (compareOp .NotEq) (rC X.K .NotEq) := by
  intro pins s σ H x y v u Q I rx ry h
  obtain ⟨μ, S, a, b, c, sr, ra, rb, e, q⟩ := h
  obtain ⟨c', e', rfl⟩ := Option.map_eq_some_iff.mp (show (eqOp S a b).map (!·) = some c from e)
  rcases eq_of sr ra rb e' with ⟨h1, rfl⟩ | ⟨d, f, h1, h2, h3, h4, rfl⟩
  · exact op_ne pins s σ H _ _ v u Q I rx ry ⟨h1, q⟩
  · exact op_neD hu pins s σ H _ _ v u Q I rx ry ⟨d, f, h1, h2, h3, h4, q⟩
theorem op_cmp_lt : OpR X (compareOp .Lt) (rC X.K .Lt) := by
  intro pins s σ H x y v u Q I rx ry h
  obtain ⟨μ, S, a, b, c, sr, ra, rb, e, q⟩ := h
  simp only [cmpOp] at e
  split at e
  · cases ra.intE; cases rb.intE; cases e
    exact op_lt pins s σ H _ _ v u Q I rx ry ⟨_, _, rfl, rfl, q⟩
  · cases e
theorem op_cmp_le : OpR X (compareOp .LtE) (rC X.K .LtE) := by
  intro pins s σ H x y v u Q I rx ry h
  obtain ⟨μ, S, a, b, c, sr, ra, rb, e, q⟩ := h
  simp only [cmpOp] at e
  split at e
  · cases ra.intE; cases rb.intE; cases e
    exact op_le pins s σ H _ _ v u Q I rx ry ⟨_, _, rfl, rfl, q⟩
  · cases e
theorem op_cmp_gt : OpR X (compareOp .Gt) (rC X.K .Gt) := by
  intro pins s σ H x y v u Q I rx ry h
  obtain ⟨μ, S, a, b, c, sr, ra, rb, e, q⟩ := h
  simp only [cmpOp] at e
  split at e
  · cases ra.intE; cases rb.intE; cases e
    exact op_gt pins s σ H _ _ v u Q I rx ry ⟨_, _, rfl, rfl, q⟩
  · cases e
theorem op_cmp_ge : OpR X (compareOp .GtE) (rC X.K .GtE) := by
  intro pins s σ H x y v u Q I rx ry h
  obtain ⟨μ, S, a, b, c, sr, ra, rb, e, q⟩ := h
  simp only [cmpOp] at e
  split at e
  · cases ra.intE; cases rb.intE; cases e
    exact op_ge pins s σ H _ _ v u Q I rx ry ⟨_, _, rfl, rfl, q⟩
  · cases e
theorem isN_of {K : PySem.W.Frag} {H : Hp} {μ : List Addr} {S : Sto} {a b : Va} {x y : V} {c : Bool} (ra : Rep K H μ a x) (rb : Rep K H μ b y) (e : cmpOp .Is a b S = some c) : y = .non ∧ c = decide (x = .non) := by
  simp only [cmpOp] at e
  split at e
  · cases e
  · cases ra.nonE; cases rb.nonE; cases e
    exact ⟨rfl, rfl⟩
  · rename_i h1 h2
    cases rb.nonE; cases e
    refine ⟨rfl, (decide_eq_false fun z => ?_).symm⟩
    subst z
    cases a with
    | non => exact h2 rfl
    | bl _ => cases ra.blE
    | int _ => cases ra.intE
    | str _ => cases ra.strE
    | tup _ => obtain ⟨_, _, z, _⟩ := ra.tupE; cases z
    | lis _ => obtain ⟨_, _, z, _⟩ := ra.lisE; cases z
    | ref _ => obtain ⟨_, z, _⟩ := ra.refE; cases z
    | exc => exact h1 rfl
  · cases e
theorem op_cmp_is : OpR X (compareOp .Is) (rC X.K .Is) := by
  intro pins s σ H x y v u Q I rx ry h
  obtain ⟨μ, S, a, b, c, sr, ra, rb, e, q⟩ := h
  obtain ⟨h1, rfl⟩ := isN_of ra rb e
  exact op_isN pins s σ H _ _ v u Q I rx ry ⟨h1, q⟩
theorem op_cmp_isnot : OpR X (compareOp .IsNot) (rC X.K .IsNot) := by
  intro pins s σ H x y v u Q I rx ry h
  obtain ⟨μ, S, a, b, c, sr, ra, rb, e, q⟩ := h
  have e' : cmpOp .Is a b S = some (!c) := by
    simp only [cmpOp] at e ⊢
    split at e <;> cases e <;> first | rfl | simp_all
  obtain ⟨h1, h2⟩ := isN_of ra rb e'
  have h3 : c = !decide (x = .non) := by rw [← h2, Bool.not_not]
  subst h3
  exact op_notN pins s σ H _ _ v u Q I rx ry ⟨h1, q⟩
/-- how In is settled -/
theorem in_of {K : PySem.W.Frag} {H : Hp} {μ : List Addr} {S : Sto} {a b : Va} {x y : V} {c : Bool} (sr : SR K H μ S) (ra : Rep K H μ a x) (rb : Rep K H μ b y) (e : inOp a b S = some c) :
    (∃ p xs, y = .ref p ∧ (SqL K H p xs ∨ SqT K H p xs) ∧ flatV x = true ∧ xs.all flatV = true ∧ c = inV x xs) ∨
    (∃ d ds, Dp K H x d ∧ Dp K H y (.list ds) ∧ SeqAt.shaped d = true ∧ SeqAt.shaped (.list ds) = true ∧ c = ds.any fun z => PyData.eqv z d) ∨
    (∃ (k : Nat) (z : Str), x = .str ⟨#[k]⟩ ∧ y = .str z ∧ c = decide (k ∈ z.cps.toList)) := by
  have go : ∀ {xs : List Va} {vs : List V} {c : Bool}, Reps K H μ xs vs → (match sc a with | none => none | some v => match optMap sc xs with | none => none | some bs => some (L2.inV v bs)) = some c →
      flatV x = true ∧ vs.all flatV = true ∧ c = inV x vs := fun {xs vs c} hr h => by
    split at h
    · cases h
    · rename_i w e1
      split at h
      · cases h
      · rename_i bs e2
        rw [sc_of ra e1, scs_of hr e2]
        exact ⟨sc_flat e1, scs_flat e2, (Option.some.inj h).symm⟩
  unfold inOp at e
  simp only at e
  cases b with
  | tup xs =>
    obtain ⟨p, vs, rfl, hp, hr⟩ := rb.tupE
    obtain ⟨h1, h2, h3⟩ := go hr e
    exact .inl ⟨p, vs, rfl, .inr hp.sq, h1, h2, h3⟩
  | ref i =>
    simp only at e
    split at e
    · rename_i xs e1
      obtain ⟨p, vs, rfl, _, h1, hr⟩ := rb.lst sr e1
      split at e
      · rename_i b' hb
        cases e
        obtain ⟨k1, k2, k3⟩ := go hr hb
        exact .inl ⟨p, vs, rfl, .inl (SqL.of h1), k1, k2, k3⟩
      · split at e
        · rename_i d ds hd hds
          split at e
          · rename_i hs
            rw [Bool.and_eq_true] at hs
            have hdl : PyData.hasDictAll ds = false := by simpa only [PyData.hasDict] using nodict hs.2
            exact .inr (.inl ⟨d, ds, dp_of sr _ ra hd (nodict hs.1), .lst (SqL.of h1) (dps_of sr _ hr hds hdl), hs.1, hs.2, (Option.some.inj e).symm⟩)
          · cases e
        · cases e
    · cases e
  | str z =>
    simp only at e
    split at e
    · rename_i s
      cases ra.strE
      cases rb.strE
      split at e
      · rename_i k hk
        have hs : s = ⟨#[k]⟩ := by
          obtain ⟨arr⟩ := s
          have : arr.toList = [k] := hk
          rw [show arr = #[k] from by rw [← Array.toArray_toList (xs := arr), this]]
        exact .inr (.inr ⟨k, z, by rw [hs], rfl, (Option.some.inj e).symm⟩)
      · cases e
    · cases e
  | _ => simp at e
theorem op_cmp_in (hu : X.A.units + 65 < cLine) : OpR X (compareOp .In) (rC X.K .In) := by
  intro pins s σ H x y v u Q I rx ry h
  obtain ⟨μ, S, a, b, c, sr, ra, rb, e, q⟩ := h
  rcases in_of sr ra rb e with ⟨p, xs, rfl, h1, h2, h3, rfl⟩ | ⟨d, ds, h1, h2, h3, h4, rfl⟩ | ⟨k, z, rfl, rfl, rfl⟩
  · exact op_in_seq pins s σ H _ _ v u Q I rx ry ⟨p, xs, rfl, h1, h2, h3, q⟩
  · exact op_inD hu pins s σ H _ _ v u Q I rx ry ⟨d, ds, h1, h2, h3, h4, q⟩
  · exact op_in_sign pins s σ H _ _ v u Q I rx ry ⟨k, z, rfl, rfl, q⟩
theorem op_cmp_notin (hu : X.A.units + 65 < cLine) : OpR X (compareOp .NotIn) (rC X.K .NotIn) := by
  intro pins s σ H x y v u Q I rx ry h
  obtain ⟨μ, S, a, b, c, sr, ra, rb, e, q⟩ := h
  obtain ⟨c', e', rfl⟩ := Option.map_eq_some_iff.mp (show (inOp a b S).map (!·) = some c from e)
  rcases in_of sr ra rb e' with ⟨p, xs, rfl, h1, h2, h3, rfl⟩ | ⟨d, ds, h1, h2, h3, h4, rfl⟩ | ⟨k, z, rfl, rfl, rfl⟩
  · exact op_notIn_seq pins s σ H _ _ v u Q I rx ry ⟨p, xs, rfl, h1, h2, h3, q⟩
  · exact op_notInD hu pins s σ H _ _ v u Q I rx ry ⟨d, ds, h1, h2, h3, h4, q⟩
  · exact op_notIn_sign pins s σ H _ _ v u Q I rx ry ⟨k, z, rfl, rfl, q⟩
theorem op_cmp (hu : X.A.units + 65 < cLine) : ∀ op : CmpOp, OpR X (compareOp op) (rC X.K op)
  | .Eq => op_cmp_eq (by omega)
  | .NotEq => op_cmp_ne (by omega)
  | .Lt => op_cmp_lt
  | .LtE => op_cmp_le
  | .Gt => op_cmp_gt
  | .GtE => op_cmp_ge
  | .Is => op_cmp_is
  | .IsNot => op_cmp_isnot
  | .In => op_cmp_in hu
  | .NotIn => op_cmp_notin hu

/-! ### subscripts, slices -/
variable {T : Ct}
def rIxE (T : Ct) (K : PySem.W.Frag) : R2 := fun x y H Q => ∃ W : WH, ∃ μ S a b, SR K H μ S ∧ Rep K H μ a x ∧ Rep K H μ b y ∧ GdV T K W (idxOp a b S) H μ Q
theorem ix_E : IxR X (rIxE T X.K) := by
  intro value slice pins s σ H x y v u Q I rx ry h hs
  obtain ⟨W, μ, S, a, b, sr, ra, rb, g⟩ := h
  unfold idxOp at g
  split at g
  · rename_i k
    cases rb.intE
    split at g
    · rename_i xs
      split at g
      · rename_i z e
        obtain ⟨p, vs, rfl, hp, hr⟩ := ra.tupE
        obtain ⟨w, e2, rw_⟩ := hr.atI e
        exact ix_tup value slice pins s σ H _ _ v u Q I rx ry ⟨p, vs, k, w, rfl, rfl, hp.sq, e2, g.same sr rw_⟩ hs
      · exact g.elim
    · split at g
      · rename_i xs e1
        split at g
        · rename_i z e
          obtain ⟨p, vs, rfl, _, hp, hr⟩ := ra.lst sr e1
          obtain ⟨w, e2, rw_⟩ := hr.atI e
          exact ix_list value slice pins s σ H _ _ v u Q I rx ry ⟨p, vs, k, w, rfl, rfl, SqL.of hp, e2, g.same sr rw_⟩ hs
        · exact g.elim
      · exact g.elim
    · rename_i z
      cases ra.strE
      split at g
      · rename_i hz
        split at g
        · rename_i c e
          exact ix_str value slice pins s σ H _ _ v u Q I rx ry ⟨z, k, c, rfl, rfl, hz, e, GdV.str g sr⟩ hs
        · exact g.elim
      · exact g.elim
    · exact g.elim
  · exact g.elim
end
end EV

end
section
set_option Elab.async false
set_option linter.all false
set_option maxRecDepth 100000
set_option maxHeartbeats 4000000
/-! EV, part E: slices, a tuple from its end, built-in calls. -/
namespace EV
open PySem PySem.Spec PyProof.Rows L2

section
variable {prog : Program} {w : World} {A : Around} {E : Value → Shared → Prop} {s : Shared}
theorem revApplied {sl : Addr} {vl vu vs : Value} {n : Nat} {Q : Int × Int × Nat → Shared → Prop} (hs : s.heap.IsSliceOf sl vl vu vs) (pl : IsPart vl none) (pu : IsPart vu none) (ps : IsPart vs (some (-1)))
    (h : Q ((n : Int) - 1, -1, n) s) : wpAny (model prog w) A (Builtin.Slice.sliceApplied (.ref sl) (pure (n : Int))) Q E s := by
  obtain ⟨o, ho, hc, hd⟩ := id hs
  unfold Builtin.Slice.sliceApplied Builtin.Slice.sliceFields
  refine wpAny_bind (wpAny_bind (wpAny_field ho hd (x := vl) rfl (wpAny_bind (wpAny_field ho hd (x := vu) rfl (wpAny_bind (wpAny_field ho hd (x := vs) rfl (wpAny_pure ?_)))))))
  refine wpAny_bind (HT.slicePart_ ps ?_)
  show wpAny _ _ (if ((-1 : Int) == 0) = true then _ else _) _ _ s
  rw [if_neg (by decide)]
  refine wpAny_bind (HT.slicePart_ pl (wpAny_bind (HT.slicePart_ pu (wpAny_bind (wpAny_pure (wpAny_pure ?_))))))
  have e : Builtin.Slice.slicePlaces ((n : Int) - 1) (-1) (-1) = n := by
    unfold Builtin.Slice.slicePlaces
    rw [if_neg (by decide)]
    have e1 : ∀ a : Int, a / - -1 = a := fun a => by simp
    rw [e1]
    split <;> omega
  show Q ((n : Int) - 1, -1, Builtin.Slice.slicePlaces ((n : Int) - 1) (-1) (-1)) s
  rw [e]
  exact h
theorem fm_map {α β : Type} {f : α → Option β} {g : α → β} : ∀ {l : List α}, (∀ m ∈ l, f m = some (g m)) → l.filterMap f = l.map g
  | [], _ => rfl
  | a :: l, h => by
    rw [List.filterMap_cons, h a List.mem_cons_self, List.map_cons]
    exact congrArg _ (fm_map fun m hm => h m (List.mem_cons_of_mem _ hm))
theorem rev_pick (xs : Array Value) : ((List.range xs.size).filterMap fun (m : Nat) => xs[(((xs.size : Nat) : Int) - 1 + (m : Int) * (-1)).toNat]?).toArray = xs.toList.reverse.toArray := by
  congr 1
  apply List.ext_getElem?
  intro i
  have e : ∀ m ∈ List.range xs.size, xs[(((xs.size : Nat) : Int) - 1 + (m : Int) * (-1)).toNat]? = some (xs.toList.reverse.getD m default) := by
    intro m hm
    have hm := List.mem_range.mp hm
    have e1 : (((xs.size : Nat) : Int) - 1 + (m : Int) * (-1)).toNat = xs.size - 1 - m := by omega
    rw [e1, ← Array.getElem?_toList, List.getD_eq_getElem?_getD, List.getElem?_reverse (by simpa using hm), Array.length_toList]
    rw [List.getElem?_eq_getElem (by rw [Array.length_toList]; omega)]
    rfl
  have e2 : ((List.range xs.size).filterMap fun (m : Nat) => xs[(((xs.size : Nat) : Int) - 1 + (m : Int) * (-1)).toNat]?) = (List.range xs.size).map fun m => xs.toList.reverse.getD m default := fm_map e
  rw [e2, List.getElem?_map]
  by_cases hi : i < xs.size
  · rw [List.getElem?_range hi]
    have hl : i < xs.toList.reverse.length := by rw [List.length_reverse, Array.length_toList]; exact hi
    rw [List.getElem?_eq_getElem hl, Option.map_some, List.getD_eq_getElem?_getD, List.getElem?_eq_getElem hl]
    rfl
  · rw [List.getElem?_eq_none (by rw [List.length_range]; omega), List.getElem?_eq_none (by rw [List.length_reverse, Array.length_toList]; omega)]
    rfl
theorem getItem_tuple_rev {t sl : Addr} {items : Array Value} {vl vu vs : Value} {Q : Value → Shared → Prop} (ht : IsTup s.heap t items) (hs : s.heap.IsSliceOf sl vl vu vs) (pl : IsPart vl none) (pu : IsPart vu none) (ps : IsPart vs (some (-1)))
    (h : Q (.ref s.heap.objs.size) { s with heap := s.heap.push { cls := .type "tuple", data := .seq items.toList.reverse.toArray } }) (hsz : items.size ≤ sizeLine) : wpAny (model prog w) A (getItem (.ref t) (.ref sl)) Q E s := by
  have hz : sizeOk (.seq items.toList.reverse.toArray) := by
    show items.toList.reverse.toArray.size ≤ sizeLine
    rw [List.size_toArray, List.length_reverse, Array.length_toList]
    exact hsz
  obtain ⟨o, ho, hc, hd⟩ := id hs
  have hT : s.TypeIs (.ref sl) "slice" := ⟨o, ho, hc⟩
  unfold getItem
  try with_reducible refine wpAny_holding ?_
  try refine wpAny_bind (wpAny_pure ?_)
  refine wpAny_bind (wpAny_sequenceKey ht.typeIs (by decide) ?_)
  refine wpAny_bind (wpAny_callSpecial?_slot (name := Str.ofString "__getitem__") ht.typeIs PyProof.Rows.slot_tuple_getitem (wpAny_call_entry PyProof.Rows.slot_tuple_getitem ht.typeIs entry_tuple_getitem ?_ (args_tuple_getitem _ _)))
  show wpAny _ _ (Builtin.Tuple.tupleItemsOf (.ref t) >>= _) _ _ s
  refine wpAny_bind (PyProof.Rows.tupleItemsOf_ ht (wpAny_bind (wpAny_typeOf hT ?_)))
  rw [if_pos (by decide)]
  refine wpAny_bind (revApplied hs pl pu ps ?_)
  have hno : ¬ ((((items.size : Nat) : Int) - 1 == 0 && (-1 : Int) == 1 && items.size == items.size) = true) := by
    intro q
    rw [Bool.and_eq_true, Bool.and_eq_true] at q
    exact absurd q.1.2 (by decide)
  show wpAny _ _ (if (((items.size : Nat) : Int) - 1 == 0 && (-1 : Int) == 1 && items.size == items.size) = true then _ else _) _ _ s
  rw [if_neg hno, rev_pick]
  first
    | exact wpAny_bind (m := Builtin.Tuple.tupleExact _) (wpAny_newObj_type (wpAny_pure ⟨_, rfl, wpAny_pure h⟩) hz)
    | exact wpAny_bind (m := Builtin.Tuple.tupleExact _) (wpAny_newObj_type (wpAny_bind (wpAny_pure (wpAny_pure ⟨_, rfl, wpAny_pure h⟩))) hz)
    | exact wpAny_bind (wpAny_bind (m := Builtin.Tuple.tupleExact _) (wpAny_newObj_type (wpAny_pure (wpAny_pure ⟨_, rfl, wpAny_pure h⟩)) hz))
    | exact wpAny_bind (wpAny_bind (m := Builtin.Tuple.tupleExact _) (wpAny_newObj_type (wpAny_pure ⟨_, rfl, wpAny_pure h⟩) hz))
end

section
variable {X : L2.Cx} {T : Ct}
def tRevT (K : PySem.W.Frag) (te : TE) : TE := fun σ H Q => te σ H fun x H1 => ∃ a xs, x = .ref a ∧ SqT K H1 a xs ∧ NewT xs.reverse H1 Q
theorem pe_revT {e : Expr} {te : TE} {k : Nat} {p1 p2 p3 pos : Pos} (he : PE X e te) : PE X (.Subscript e (.Slice none none (some (.UnaryOp .USub (.Constant (.int 1) k p1) p2)) p3) pos) (tRevT X.K te) := by
  refine ⟨fun pins s σ H Q I h => Subscript_ (thn (he.run pins s σ H _ I h) fun v s1 ⟨x, H1, I1, r1, q1⟩ => ?_)⟩
  obtain ⟨a, xs, rfl, hx, q⟩ := q1
  cases r1
  have hst : PO X (some (.UnaryOp .USub (.Constant (.int 1) k p1) p2)) (tPart (tUn (rU fun i => .int (-i)) (tC (.int 1)))) := po_some (pe_un un_neg pe_int)
  refine wpAny_Slice (thn (po_none.run pins s1 σ H1 (fun o H2 => o = none ∧ H2 = H1) I1 ⟨rfl, rfl⟩) fun vl s2 ⟨l, H2, I2, pl, el, e2⟩ => ?_)
  subst el e2
  refine thn (po_none.run pins s2 σ H2 (fun o H3 => o = none ∧ H3 = H2) I2 ⟨rfl, rfl⟩) fun vu s3 ⟨u, H3, I3, pu, eu, e3⟩ => ?_
  subst eu e3
  refine thn (hst.run pins s3 σ H3 (fun o H4 => o = some (-1) ∧ H4 = H3) I3 ⟨1, rfl, -1, rfl, rfl, rfl⟩) fun vs s4 ⟨o, H4, I4, ps, eo, e4⟩ => ?_
  subst eo e4
  have I5 : Inv X pins σ H4 { s4 with heap := s4.heap.push { cls := .type "slice", data := .fields #[vl, vu, vs] } } := I4.kept (t' := s4.toks) fun b ob q => Heap.get?_push_of_some _ q
  obtain ⟨is, r, ht, hz⟩ := I5.tuple hx
  have hlen := r.length
  show wpAny (model X.prog X.w) X.A (subscriptTail e (.Slice none none (some (.UnaryOp .USub (.Constant (.int 1) k p1) p2)) p3) (.ref a) (.ref s4.heap.objs.size)) (EP X pins σ Q) X.xe _
  refine tail_any (ops := [.ref a, .ref s4.heap.objs.size]) ht.typeIs PyProof.Rows.slot_tuple_getitem.lookup ?_ (by with_unfolding_all rfl)
  refine getItem_tuple_rev ht (Heap.IsSliceOf.new _ vl vu vs) pl pu ps ?_ (by rw [List.size_toArray]; omega)
  exact ep_tup (t' := s4.toks) I5 r.reverse (by rw [List.length_reverse]; exact hz) q

/-- t[lo:hi] of a tuple, exact -/
def rSlX (K : PySem.W.Frag) : V → Option Int → Option Int → Hp → VK → Prop := fun x lo hi H Q => ∃ a xs, x = .ref a ∧ SqT K H a xs ∧
  (HT.sIx xs.length 0 lo = 0 ∧ HT.sIx xs.length xs.length hi = xs.length → Q (.ref a) H) ∧ NewT (cutV xs lo hi) H Q
theorem sl_tupX : SlR X (rSlX X.K) := by
  intro pins s σ H x v vl vu lo hi sl Q I rx hs pl pu h
  obtain ⟨a, xs, rfl, hx, q1, q2⟩ := h
  cases rx
  obtain ⟨is, r, ht, hz⟩ := I.tuple hx
  have hlen : is.toArray.size = xs.length := by rw [List.size_toArray]; exact r.length.symm
  refine ⟨"tuple", _, PyProof.Rows.slot_tuple_getitem.lookup, ht.typeIs, ?_⟩
  by_cases hw : HT.sIx xs.length 0 lo = 0 ∧ HT.sIx xs.length xs.length hi = xs.length
  · exact getItem_tuple_whole ht hs pl pu (by rw [hlen]; exact hw) ⟨.ref a, H, I, rfl, q1 hw⟩
  · refine HT.getItem_tuple_cut ht hs pl pu (by rw [hlen]; exact hw) ?_ (by rw [hlen]; exact hz)
    rw [hlen]
    exact ep_tup (t' := s.toks) (h' := s.heap) I ((r.drop (HT.sIx xs.length 0 lo)).take (HT.sIx xs.length xs.length hi - HT.sIx xs.length 0 lo)) (Nat.le_trans (cutV_length xs lo hi) hz) q2
/-- a slice's reading -/
def slcI (a : Va) (l h : Option Int) (S : Sto) : Res Va := slcOp a (l.map .int) (h.map .int) S
def rSlE (T : Ct) (K : PySem.W.Frag) : V → Option Int → Option Int → Hp → VK → Prop := fun x lo hi H Q => ∃ W : WH, ∃ μ S a, SR K H μ S ∧ Rep K H μ a x ∧ GdV T K W (slcI a lo hi S) H μ Q
theorem bnd_int (o : Option Int) : bnd (o.map .int) = some o := by cases o <;> rfl
theorem cut_whole {α : Type} (xs : List α) (lo hi : Option Int) (h : HT.sIx xs.length 0 lo = 0 ∧ HT.sIx xs.length xs.length hi = xs.length) : cut xs lo hi = xs := by
  unfold cut
  rw [h.1, h.2]
  simp
theorem cut_length {α : Type} (xs : List α) (lo hi : Option Int) : (cut xs lo hi).length ≤ xs.length := by
  unfold cut
  rw [List.length_take, List.length_drop]
  omega
theorem sl_E : SlR X (rSlE T X.K) := by
  intro pins s σ H x v vl vu lo hi sl Q I rx hs pl pu h
  obtain ⟨W, μ, S, a, sr, ra, g⟩ := h
  unfold slcI slcOp at g
  rw [bnd_int, bnd_int] at g
  simp only at g
  split at g
  · rename_i xs
    obtain ⟨p, vs, rfl, hp, hr⟩ := ra.tupE
    refine sl_tupX pins s σ H _ v vl vu lo hi sl Q I rx hs pl pu ⟨p, vs, rfl, hp.sq, fun e => ?_, g.tup sr (hr.cut lo hi)⟩
    rw [hr.length] at e
    rw [cut_whole xs lo hi e] at g
    refine GdV.same g sr ?_
    simp only [Rep]
    exact ⟨p, vs, rfl, hp, hr⟩
  · rename_i xs
    obtain ⟨p, vs, rfl, hp, hr⟩ := ra.lisE
    exact sl_list pins s σ H _ v vl vu lo hi sl Q I rx hs pl pu ⟨p, vs, rfl, hp.sq, (g.newL sr (hr.cut lo hi)).2⟩
  · split at g
    · rename_i xs e
      obtain ⟨p, vs, rfl, _, hp, hr⟩ := ra.lst sr e
      exact sl_list pins s σ H _ v vl vu lo hi sl Q I rx hs pl pu ⟨p, vs, rfl, SqL.of hp, (g.newL sr (hr.cut lo hi)).2⟩
    · exact g.elim
  · rename_i z
    split at g
    · rename_i hz
      cases ra.strE
      exact sl_str pins s σ H _ v vl vu lo hi sl Q I rx hs pl pu ⟨z, rfl, hz, GdV.str g sr⟩
    · exact g.elim
  · exact g.elim
end
end EV

end
section
set_option Elab.async false
set_option linter.all false
set_option maxRecDepth 100000
set_option maxHeartbeats 4000000
/-! EV, part F: built-in calls by values. -/
namespace EV
open PySem PySem.Spec PyProof.Rows L2

section
variable {X : L2.Cx} {pins : List (Addr × Obj)} {σ : Sl} {H : Hp} {s : Shared} {K : PySem.W.Frag} {μ : List Addr} {S : Sto}
theorem ints_of : ∀ {xs : List Va} {vs : List V} {ns : List Int}, Reps K H μ xs vs → intsOf xs = some ns → vs = ns.map V.int
  | [], _, _, r, h => by rw [r.zero, optMap_nil h]; rfl
  | a :: xs, _, _, r, h => by
    obtain ⟨b, t, rfl, h1, h2⟩ := optMap_cons h
    simp only [Reps] at r
    obtain ⟨v, vs, rfl, r1, r2⟩ := r
    cases a <;> simp only at h1 <;> cases h1
    rw [r1.intE, ints_of r2 h2]
    rfl
theorem bls_of : ∀ {xs : List Va} {vs : List V} {ns : List Bool}, Reps K H μ xs vs → blsOf xs = some ns → vs = ns.map V.bl
  | [], _, _, r, h => by rw [r.zero, optMap_nil h]; rfl
  | a :: xs, _, _, r, h => by
    obtain ⟨b, t, rfl, h1, h2⟩ := optMap_cons h
    simp only [Reps] at r
    obtain ⟨v, vs, rfl, r1, r2⟩ := r
    cases a <;> simp only at h1 <;> cases h1
    rw [r1.blE, bls_of r2 h2]
    rfl
theorem strs_of : ∀ {xs : List Va} {vs : List V} {ns : List Str}, Reps K H μ xs vs → strsOf xs = some ns → vs = ns.map V.str
  | [], _, _, r, h => by rw [r.zero, optMap_nil h]; rfl
  | a :: xs, _, _, r, h => by
    obtain ⟨b, t, rfl, h1, h2⟩ := optMap_cons h
    simp only [Reps] at r
    obtain ⟨v, vs, rfl, r1, r2⟩ := r
    cases a <;> simp only at h1 <;> cases h1
    rw [r1.strE, strs_of r2 h2]
    rfl
theorem lst_of {a : Va} {x : V} {xs : List Va} (sr : SR K H μ S) (r : Rep K H μ a x) (h : lstOf a S = some xs) : ∃ p vs, x = .ref p ∧ H p = some (.lst vs) ∧ Reps K H μ xs vs := by
  unfold lstOf at h
  split at h
  · split at h
    · rename_i ys e
      cases h
      obtain ⟨p, vs, rfl, _, h1, h2⟩ := r.lst sr e
      exact ⟨p, vs, rfl, h1, h2⟩
    · cases h
  · cases h
theorem lstI_of {α : Type} {f : List Va → Option (List α)} {a : Va} {x : V} {ns : List α} (sr : SR K H μ S) (r : Rep K H μ a x) (h : (lstOf a S).bind f = some ns) : ∃ p vs xs, x = .ref p ∧ H p = some (.lst vs) ∧ Reps K H μ xs vs ∧ f xs = some ns := by
  cases e : lstOf a S with
  | none => rw [e] at h; cases h
  | some xs =>
    rw [e] at h
    obtain ⟨p, vs, h1, h2, h3⟩ := lst_of sr r e
    exact ⟨p, vs, xs, h1, h2, h3, h⟩

/-! ### repr -/
mutual
theorem reads_of (I : Inv X pins σ H s) (sr : SR X.K H μ S) : ∀ (n : Nat) {a : Va} {x : V} {u : Value} {d : PyData}, Rep X.K H μ a x → toD S n a = some d → RelV x u → ∃ as, Reads s.heap u d as ∧ (hasLst d = false → sysModules ∉ as)
  | 0, _, _, _, _, _, h, _ => by simp [toD] at h
  | n + 1, a, x, u, d, r, h, rv => by
    simp only [toD] at h
    cases a with
    | non => cases h; cases r.nonE; cases rv; exact ⟨_, .none, fun _ => nofun⟩
    | bl b => cases h; cases r.blE; cases rv; exact ⟨_, .bool b, fun _ => nofun⟩
    | int i => cases h; cases r.intE; obtain ⟨t, rfl⟩ := rv; exact ⟨_, .int i t, fun _ => nofun⟩
    | str z => cases h; cases r.strE; obtain ⟨t, rfl⟩ := rv; exact ⟨_, .str z t, fun _ => nofun⟩
    | tup xs =>
      obtain ⟨p, vs, rfl, hp, hr⟩ := r.tupE
      cases rv
      obtain ⟨ds, e, rfl⟩ := Option.map_eq_some_iff.mp h
      obtain ⟨is, rvs, ⟨o, h1, h2, k, h3⟩, _⟩ := I.tuple hp.sq
      obtain ⟨as, q1, q2⟩ := readsAll_of I sr n hr e rvs
      exact ⟨as, .tuple h1 h2 h3 (by simpa using q1), fun z => q2 (by simpa only [hasLst] using z)⟩
    | lis xs => cases h
    | ref i =>
      simp only at h
      split at h
      · rename_i xs e1
        obtain ⟨ds, e, rfl⟩ := Option.map_eq_some_iff.mp h
        obtain ⟨p, vs, rfl, _, h1, hr⟩ := r.lst sr e1
        cases rv
        obtain ⟨is, rvs, ⟨o, k, g1, g2, _, g3⟩, _⟩ := I.list (SqL.of h1)
        obtain ⟨as, q1, _⟩ := readsAll_of I sr n hr e rvs
        exact ⟨_, .list g1 g2 g3 (by simpa using q1), fun z => by simp only [hasLst] at z; cases z⟩
      · rename_i kvs e1
        obtain ⟨ds, e, rfl⟩ := Option.map_eq_some_iff.mp h
        obtain ⟨p, rfl, hp⟩ := r.refE
        cases rv
        have ob := sr.ob i _ p e1 hp
        rcases ob with ⟨ks, h1, h2⟩ | ⟨ks, h1, h2⟩
        · obtain ⟨_, ns, us, kv, o, es, ep, g1, g2, g3, _, g5, _⟩ := I.hok p _ h1
          obtain ⟨as, bs, q1, q2, q3⟩ := readsK_of I sr n h2 e kv g5
          refine ⟨_, .dict g1 g2.1 g3 q1 q2, fun z => ?_⟩
          have hne : p ≠ sysModules := fun w => by rw [w] at ns; simp at ns
          intro m
          rcases List.mem_append.mp m with m | m
          · rcases List.mem_cons.mp m with m | m
            · exact hne m.symm
            · exact (q3 (by simpa only [hasLst] using z)).1 m
          · exact (q3 (by simpa only [hasLst] using z)).2 m
        · obtain ⟨⟨ns, o, ep, g1, g2, g3⟩, _⟩ := I.hok p _ h1
          obtain ⟨as, bs, q1, q2, q3⟩ := readsT_of I sr n h2 e
          refine ⟨_, .dict g1 g2.1 g3 q1 q2, fun z => ?_⟩
          have hne : p ≠ sysModules := fun w => by rw [w] at ns; simp at ns
          intro m
          rcases List.mem_append.mp m with m | m
          · rcases List.mem_cons.mp m with m | m
            · exact hne m.symm
            · exact (q3 (by simpa only [hasLst] using z)).1 m
          · exact (q3 (by simpa only [hasLst] using z)).2 m
      · cases h
    | exc => cases h
theorem readsAll_of (I : Inv X pins σ H s) (sr : SR X.K H μ S) : ∀ (n : Nat) {xs : List Va} {vs : List V} {us : List Value} {ds : List PyData}, Reps X.K H μ xs vs → optMap (toD S n) xs = some ds → Vals vs us → ∃ as, ReadsAll s.heap us ds as ∧ (hasLsts ds = false → sysModules ∉ as)
  | n, [], _, _, _, r, h, rv => by
    rw [r.zero] at rv
    cases rv
    rw [optMap_nil h]
    exact ⟨_, .nil, fun _ => nofun⟩
  | n, a :: xs, _, _, _, r, h, rv => by
    obtain ⟨b, t, rfl, h1, h2⟩ := optMap_cons h
    simp only [Reps] at r
    obtain ⟨v, vs, rfl, r1, r2⟩ := r
    cases rv with
    | cons w ws =>
      obtain ⟨as, q1, q2⟩ := reads_of I sr n r1 h1 w
      obtain ⟨bs, q3, q4⟩ := readsAll_of I sr n r2 h2 ws
      refine ⟨_, .cons q1 q3, fun z => ?_⟩
      simp only [hasLsts, Bool.or_eq_false_iff] at z
      intro m
      rcases List.mem_append.mp m with m | m
      · exact q2 z.1 m
      · exact q4 z.2 m
theorem readsK_of (I : Inv X pins σ H s) (sr : SR X.K H μ S) : ∀ (n : Nat) {kvs : List (Va × Va)} {ks : List (Key × V)} {vs : List (Key × Value)} {es : List DictEntry} {ds : List (PyData × PyData)}, EnK X.K H μ kvs ks →
    optMap (fun (p : Va × Va) => match toD S n p.1 with | none => none | some a => match toD S n p.2 with | none => none | some b => some (a, b)) kvs = some ds → KV ks vs → Pairs (mixKind X.prog X.w) es vs →
    ∃ as bs, ReadsAll s.heap (es.map (·.key)) (ds.map (·.1)) as ∧ ReadsAll s.heap (es.map (·.val)) (ds.map (·.2)) bs ∧ (hasLstKv ds = false → sysModules ∉ as ∧ sysModules ∉ bs)
  | n, [], _, _, _, _, r, h, kv, pr => by
    have r : _ = _ := r
    subst r
    cases kv
    cases pr
    rw [optMap_nil h]
    exact ⟨_, _, .nil, .nil, fun _ => ⟨nofun, nofun⟩⟩
  | n, p :: kvs, _, _, _, _, r, h, kv, pr => by
    obtain ⟨k, v, t, rfl, k1, r1, r2⟩ := r
    obtain ⟨b, ds, rfl, h1, h2⟩ := optMap_cons h
    cases kv with
    | @cons _ u _ us kv1 kv2 =>
      cases pr with
      | @cons e _ es _ p1 p2 p3 =>
        obtain ⟨kv0, kv1⟩ := kv1
        have kv0 : k = u.1 := kv0
        split at h1
        · cases h1
        · rename_i d1 e1
          split at h1
          · cases h1
          · rename_i d2 e2
            cases h1
            obtain ⟨as, bs, q1, q2, q3⟩ := readsK_of I sr n r2 h2 kv2 p3
            rw [k1] at e1
            have kr : Rep X.K H μ (kVa k) (kV k) := by cases k <;> simp only [kVa, kV, Rep]
            have ke : RelV (kV k) e.key := by
              have z : keyIs u.1 e.key = true := p1
              rw [← kv0] at z
              rcases keyIs_shape z with ⟨i, t, z1, z2⟩ | ⟨i, t, z1, z2⟩
              · rw [z1, z2]; exact ⟨t, rfl⟩
              · rw [z1, z2]; exact ⟨t, rfl⟩
            obtain ⟨as', a1, a2⟩ := reads_of I sr n kr e1 ke
            obtain ⟨bs', b1, b2⟩ := reads_of I sr n r1 e2 (show RelV v e.val by rw [p2]; exact kv1)
            refine ⟨_, _, .cons a1 q1, .cons b1 q2, fun z => ?_⟩
            simp only [hasLstKv, Bool.or_eq_false_iff] at z
            obtain ⟨q3, q4⟩ := q3 z.2
            exact ⟨fun m => (List.mem_append.mp m).elim (a2 z.1.1) q3, fun m => (List.mem_append.mp m).elim (b2 z.1.2) q4⟩
theorem readsT_of (I : Inv X pins σ H s) (sr : SR X.K H μ S) : ∀ (n : Nat) {kvs : List (Va × Va)} {es : List DictEntry} {ds : List (PyData × PyData)}, EnT X.K H μ kvs es →
    optMap (fun (p : Va × Va) => match toD S n p.1 with | none => none | some a => match toD S n p.2 with | none => none | some b => some (a, b)) kvs = some ds →
    ∃ as bs, ReadsAll s.heap (es.map (·.key)) (ds.map (·.1)) as ∧ ReadsAll s.heap (es.map (·.val)) (ds.map (·.2)) bs ∧ (hasLstKv ds = false → sysModules ∉ as ∧ sysModules ∉ bs)
  | n, [], _, _, r, h => by
    have r : _ = _ := r
    subst r
    rw [optMap_nil h]
    exact ⟨_, _, .nil, .nil, fun _ => ⟨nofun, nofun⟩⟩
  | n, p :: kvs, _, _, r, h => by
    obtain ⟨e, t, k, v, rfl, k1, r1, k2, r2, r3⟩ := r
    obtain ⟨b, ds, rfl, h1, h2⟩ := optMap_cons h
    split at h1
    · cases h1
    · rename_i d1 e1
      split at h1
      · cases h1
      · rename_i d2 e2
        cases h1
        obtain ⟨as, bs, q1, q2, q3⟩ := readsT_of I sr n r3 h2
        obtain ⟨as', a1, a2⟩ := reads_of I sr n r1 e1 k1
        obtain ⟨bs', b1, b2⟩ := reads_of I sr n r2 e2 k2
        refine ⟨_, _, .cons a1 q1, .cons b1 q2, fun z => ?_⟩
        simp only [hasLstKv, Bool.or_eq_false_iff] at z
        obtain ⟨q3, q4⟩ := q3 z.2
        exact ⟨fun m => (List.mem_append.mp m).elim (a2 z.1.1) q3, fun m => (List.mem_append.mp m).elim (b2 z.1.2) q4⟩
end
end

section
variable {X : L2.Cx} {T : Ct}
abbrev RV := List V → Hp → VK → Prop
def rBi (T : Ct) (K : PySem.W.Frag) (b : Bi) : RV := fun vs H Q => ∃ W : WH, ∃ μ S xs, SR K H μ S ∧ Reps K H μ xs vs ∧ GdV T K W (biOp b xs S) H μ Q
theorem cl_len : CallR X (.builtin "len") (rBi T X.K .len) := by
  intro pins s σ H vs us Q I rv h
  obtain ⟨W, μ, S, xs, sr, rs, g⟩ := h
  unfold biOp at g
  split at g <;> first | contradiction | skip
  · obtain ⟨v, rfl, r⟩ := rs.one
    obtain ⟨p, ws, rfl, hp, hr⟩ := r.tupE
    have q := g.int sr
    rw [← hr.length] at q
    exact call_len_seq pins s σ H _ us Q I rv ⟨p, ws, rfl, .inr hp.sq, q⟩
  · obtain ⟨v, rfl, r⟩ := rs.one
    cases r.strE
    split at g
    · rename_i hz
      exact call_len_str pins s σ H _ us Q I rv ⟨_, rfl, hz, g.int sr⟩
    · exact g.elim
  · obtain ⟨v, rfl, r⟩ := rs.one
    split at g
    · rename_i e
      obtain ⟨p, ws, rfl, _, hp, hr⟩ := r.lst sr e
      have q := g.int sr
      rw [← hr.length] at q
      exact call_len_seq pins s σ H _ us Q I rv ⟨p, ws, rfl, .inl (SqL.of hp), q⟩
    · exact g.elim
theorem cl_abs : CallR X (.builtin "abs") (rBi T X.K .abs) := by
  intro pins s σ H vs us Q I rv h
  obtain ⟨W, μ, S, xs, sr, rs, g⟩ := h
  unfold biOp at g
  split at g <;> first | contradiction | skip
  · obtain ⟨v, rfl, r⟩ := rs.one
    cases r.intE
    exact call_abs pins s σ H _ us Q I rv ⟨_, rfl, g.int sr⟩
theorem cl_int : CallR X (.type "int") (rBi T X.K .int) := by
  intro pins s σ H vs us Q I rv h
  obtain ⟨W, μ, S, xs, sr, rs, g⟩ := h
  unfold biOp at g
  split at g <;> first | contradiction | skip
  · obtain ⟨v, rfl, r⟩ := rs.one
    cases r.intE
    exact call_int1 pins s σ H _ us Q I rv (.inl ⟨_, rfl, g.int sr⟩)
theorem cl_max2 (hc : X.calm = true) : CallR X (.builtin "max") (rBi T X.K .max2) := by
  intro pins s σ H vs us Q I rv h
  obtain ⟨W, μ, S, xs, sr, rs, g⟩ := h
  unfold biOp at g
  split at g <;> first | contradiction | skip
  · obtain ⟨v, w, rfl, r, r'⟩ := rs.two
    cases r.intE
    cases r'.intE
    exact call_max2 hc pins s σ H _ us Q I rv ⟨_, _, rfl, g.int sr⟩
theorem cl_min2 (hc : X.calm = true) : CallR X (.builtin "min") (rBi T X.K .min2) := by
  intro pins s σ H vs us Q I rv h
  obtain ⟨W, μ, S, xs, sr, rs, g⟩ := h
  unfold biOp at g
  split at g <;> first | contradiction | skip
  · obtain ⟨v, w, rfl, r, r'⟩ := rs.two
    cases r.intE
    cases r'.intE
    exact call_min2 hc pins s σ H _ us Q I rv ⟨_, _, rfl, g.int sr⟩
theorem sum_tup {pins : List (Addr × Obj)} {s : Shared} {σ : Sl} {H : Hp} {Q : VK} {a : Addr} {ns : List Int} (hc : X.calm = true) (I : L2.Inv X pins σ H s) (h : SqT X.K H a (ns.map V.int)) (q : Q (.int ns.sum) H) :
    wpAny (model X.prog X.w) X.A (call (.builtin "sum") [.ref a]) (EP X pins σ Q) X.xe s := by
  obtain ⟨is, rv, ht, _⟩ := I.tuple h
  have hi := rv.ints
  obtain ⟨xs, hx⟩ := hi.allInts.items
  have hn : numsOf is.toArray.toList = ns := by rw [show is.toArray.toList = is from rfl, hi.numsOf]
  have hl : s.heap.IsTuple a is.toArray := ht
  rw [hx] at hl hn
  rw [nums_intItems] at hn
  refine PySem.W.ktm_sumG (I.ok.hd hc) hl fun h' tk t' hk => ⟨.int ns.sum, H, I.kept hk, ?_, q⟩
  rw [preSum_eq, List.take_of_length_le (by simp), hn]
  exact ⟨_, rfl⟩
theorem cl_sum (hc : X.calm = true) : CallR X (.builtin "sum") (rBi T X.K .sum) := by
  intro pins s σ H vs us Q I rv h
  obtain ⟨W, μ, S, xs, sr, rs, g⟩ := h
  unfold biOp at g
  split at g <;> first | contradiction | skip
  · obtain ⟨v, rfl, r⟩ := rs.one
    split at g
    · rename_i ns e
      obtain ⟨p, ws, rfl, hp, hr⟩ := r.tupE
      have hs := hp.sq
      rw [ints_of hr e] at hs
      rw [Vals.ref1 rv]
      exact sum_tup hc I hs (g.int sr)
    · exact g.elim
  · obtain ⟨v, rfl, r⟩ := rs.one
    split at g
    · rename_i ns e
      obtain ⟨p, ws, xs, rfl, h1, h2, h3⟩ := lstI_of sr r e
      rw [ints_of h2 h3] at h1
      exact cr_sum hc pins s σ H _ us Q I rv ⟨p, ns, rfl, SqL.of h1, g.int sr⟩
    · exact g.elim
theorem cl_all (hc : X.calm = true) : CallR X (.builtin "all") (rBi T X.K .all) := by
  intro pins s σ H vs us Q I rv h
  obtain ⟨W, μ, S, xs, sr, rs, g⟩ := h
  unfold biOp at g
  split at g <;> first | contradiction | skip
  · obtain ⟨v, rfl, r⟩ := rs.one
    split at g
    · rename_i ns e
      obtain ⟨p, ws, xs, rfl, h1, h2, h3⟩ := lstI_of sr r e
      rw [bls_of h2 h3] at h1
      exact cr_all hc pins s σ H _ us Q I rv ⟨p, ns, rfl, SqL.of h1, g.bl sr⟩
    · exact g.elim
theorem cl_any (hc : X.calm = true) : CallR X (.builtin "any") (rBi T X.K .any) := by
  intro pins s σ H vs us Q I rv h
  obtain ⟨W, μ, S, xs, sr, rs, g⟩ := h
  unfold biOp at g
  split at g <;> first | contradiction | skip
  · obtain ⟨v, rfl, r⟩ := rs.one
    split at g
    · rename_i ns e
      obtain ⟨p, ws, xs, rfl, h1, h2, h3⟩ := lstI_of sr r e
      rw [bls_of h2 h3] at h1
      exact cr_any hc pins s σ H _ us Q I rv ⟨p, ns, rfl, SqL.of h1, g.bl sr⟩
    · exact g.elim
theorem cl_list : CallR X (.type "list") (rBi T X.K .list) := by
  intro pins s σ H vs us Q I rv h
  obtain ⟨W, μ, S, xs, sr, rs, g⟩ := h
  unfold biOp at g
  split at g <;> first | contradiction | skip
  · obtain ⟨v, rfl, r⟩ := rs.one
    obtain ⟨p, ws, rfl, hp, hr⟩ := r.tupE
    exact call_list_of pins s σ H _ us Q I rv ⟨p, ws, rfl, .inr hp.sq, (g.newL sr hr).2⟩
  · obtain ⟨v, rfl, r⟩ := rs.one
    split at g
    · rename_i e
      obtain ⟨p, ws, rfl, _, hp, hr⟩ := r.lst sr e
      exact call_list_of pins s σ H _ us Q I rv ⟨p, ws, rfl, .inl (SqL.of hp), (g.newL sr hr).2⟩
    · exact g.elim
/-- tuple(a list), exact -/
theorem tup_list {pins : List (Addr × Obj)} {s : Shared} {σ : Sl} {H : Hp} {Q : VK} {a : Addr} {xs : List V} (I : L2.Inv X pins σ H s) (h : SqL X.K H a xs) (q : NewT xs H Q) :
    wpAny (model X.prog X.w) X.A (call (.type "tuple") [.ref a]) (EP X pins σ Q) X.xe s := by
  obtain ⟨is, r, pl, hz⟩ := I.list h
  have hl := r.length
  refine call_tuple_list pl.isList (fun h' kp => ?_) (by simp only [List.size_toArray]; omega)
  exact ep_tup (t' := s.toks) (I.kept (t' := s.toks) kp) r hz q
theorem cl_tuple : CallR X (.type "tuple") (rBi T X.K .tuple) := by
  intro pins s σ H vs us Q I rv h
  obtain ⟨W, μ, S, xs, sr, rs, g⟩ := h
  unfold biOp at g
  split at g <;> first | contradiction | skip
  · obtain ⟨v, rfl, r⟩ := rs.one
    have r' := r
    obtain ⟨p, ws, rfl, hp, hr⟩ := r.tupE
    exact call_tupleT pins s σ H _ us Q I rv ⟨p, ws, rfl, hp.sq, GdV.same g sr r'⟩
  · obtain ⟨v, rfl, r⟩ := rs.one
    split at g
    · rename_i e
      obtain ⟨p, ws, rfl, _, hp, hr⟩ := r.lst sr e
      rw [Vals.ref1 rv]
      exact tup_list I (SqL.of hp) (g.mkT sr hr).2
    · exact g.elim
theorem cl_repr (hg : X.A.guards = some []) (hu : X.A.units + 65 < cLine) : CallR X (.builtin "repr") (rBi T X.K .repr) := by
  intro pins s σ H vs us Q I rv h
  obtain ⟨W, μ, S, xs, sr, rs, g⟩ := h
  unfold biOp at g
  split at g <;> first | contradiction | skip
  · rename_i a _
    obtain ⟨v, rfl, r⟩ := rs.one
    obtain ⟨u, rfl, ru⟩ := vals1 rv
    split at g
    · rename_i d e
      split at g
      · rename_i ok
        unfold showOk at ok
        simp only [Bool.and_eq_true, decide_eq_true_eq, Bool.or_eq_true, Bool.not_eq_true'] at ok
        obtain ⟨⟨⟨k1, k2⟩, k3⟩, k4⟩ := ok
        have q : Q (.str d.shown) H := g.str sr
        cases a with
        | non =>
          cases r.nonE; cases ru; simp only [toD] at e; cases e
          rw [PyData.shown_none] at q
          exact PySem.P.repr_of_none ⟨.str _, H, I.tok _, ⟨_, rfl⟩, q⟩
        | bl b =>
          cases r.blE; cases ru; simp only [toD] at e; cases e
          rw [PyData.shown_bool] at q
          exact PySem.P.repr_of_bool ⟨.str _, H, I.tok _, ⟨_, rfl⟩, q⟩
        | int i =>
          cases r.intE; obtain ⟨t, rfl⟩ := ru; simp only [toD] at e; cases e
          rw [PyData.shown_int] at q
          simp only [PyData.showable, decide_eq_true_eq] at k1
          exact PySem.P.repr_of_int k1 ⟨.str _, H, I.tok _, ⟨_, rfl⟩, q⟩
        | str z =>
          cases r.strE; obtain ⟨t, rfl⟩ := ru; simp only [toD] at e; cases e
          rw [PyData.shown_str] at q k2
          exact PySem.P.repr_of_str ⟨.str _, H, I.tok _, ⟨_, rfl⟩, q⟩ k2
        | exc => simp only [toD] at e; cases e
        | lis xs => simp only [toD] at e; cases e
        | tup xs =>
          have r' := r
          obtain ⟨p, ws, rfl, _, _⟩ := r.tupE
          cases ru
          obtain ⟨as, rd, ns⟩ := reads_of I sr 60 r' e (u := .ref p) rfl
          refine repr_of_reads' rd k1 (fun hd => ns ?_) hg (by omega) (fun _ _ z => z) (fun h' u tk hk => ⟨.str _, H, I.kept hk, ⟨_, rfl⟩, q⟩) k2
          rcases k4 with z | z
          · rw [hd] at z; cases z
          · exact z
        | ref i =>
          have r' := r
          obtain ⟨p, rfl, _⟩ := r.refE
          cases ru
          obtain ⟨as, rd, ns⟩ := reads_of I sr 60 r' e (u := .ref p) rfl
          refine repr_of_reads' rd k1 (fun hd => ns ?_) hg (by omega) (fun _ _ z => z) (fun h' u tk hk => ⟨.str _, H, I.kept hk, ⟨_, rfl⟩, q⟩) k2
          rcases k4 with z | z
          · rw [hd] at z; cases z
          · exact z
      · exact g.elim
    · exact g.elim
end
end EV

end
section
set_option Elab.async false
set_option linter.all false
set_option maxRecDepth 100000
set_option maxHeartbeats 4000000
/-! EV, part G: defs and their calls where no repr is under way. -/
namespace EV
open PySem PySem.Spec PyProof.Rows L2

structure FnG (P : Program) (w : World) (K : PySem.W.Frag) (mg : Str → Option Value) (base : Heap) (C : CXT) (k : Nat) (f : Addr) (fd : FuncData) (ps : List Str) (sp : Sp) : Prop where
  len : ∀ vs H Q E, sp vs H Q E → vs.length = ps.length
  run : ∀ (A : Around) (outer : List PySem.Env) (s : Shared) (H : Hp) (args : Args) (us : List Value) (vs : List V) (Q : VK) (E : XK), Room k A → A.guards = some [] → Env0 P w K mg base A outer s H →
    BindsTo s fd args (ps.zip us) → Vals vs us → sp vs H Q E → codeAny (model P w) A (.call (.ref f) args) (CR C outer P w H s Q E) s
section
variable {P : Program} {w : World} {K : PySem.W.Frag} {mg : Str → Option Value} {base : Heap} {C : CXT} {k : Nat} {f : Addr} {fd : FuncData} {ps : List Str} {sp : Sp}
/-- THE RULE for a def -/
theorem fnG_of {st : Stmt} {x : Str} {N : List Str} (F : Fun K x x st f fd) (S : FnScope N ps (defScope st)) (len : ∀ vs H Q E, sp vs H Q E → vs.length = ps.length)
    (hb : ∀ (cdv : Value) (A : Around) (outer : List PySem.Env) (s : Shared) (H : Hp) (vs : List V) (Q : VK) (E : XK), Room k (A.deeper (envOfC x (defScope st) s.heap.objs.size f cdv)) → A.guards = some [] → sp vs H Q E →
      ∃ t, PSs (cxOf C P w K mg base N x (defScope st) f cdv A outer s H E) (defBody st) t ∧ t { nx := fun _ H' => Q .non H', rt := Q } (start N vs) H) :
    FnG P w K mg base C (k + 1) f fd ps sp := by
  obtain ⟨oc, od, kV, doc, pm, an, cdv, ct, osl, rfl, lk, hcd⟩ := F.ex
  refine ⟨len, fun A outer s H args us vs Q E hr hg e0 hbd r hsp => ?_⟩
  have hl := len _ _ _ _ hsp
  have KX : K.In s.heap := e0.mod.kin.keeps fun b o e => (e0.bs b o e).1
  have lim : s.heap.NoLimit := e0.mod.nolimit.keeps fun b o e => (e0.bs b o e).1
  have hkind : ∀ y ∈ ps.zip us, (defScope st).names.lookup y.1 = some .local ∨ ((defScope st).names.lookup y.1 = some .cell ∧ ((cellsFrom (s.heap.objs.size + 1) (defScope st).names []).lookup y.1).isSome = true) := fun ⟨n, v⟩ hy =>
    (S.par n (List.of_mem_zip hy).1).elim .inl fun q => .inr ⟨q, PySem.W.cellsFrom_some _ _ _ (.inl q)⟩
  refine codeAny_call_function hr.depth (KX _ _ lk) rfl S.co S.gen rfl (PySem.W.codeRec_of KX hcd) (hbd _ _ _ _ (wpAny_newFunctionEnv_cells S.kind hkind fun env he s1 y => ?_))
  subst he
  refine ⟨lim.keeps y.toInCall.keep, codeAny_func ?_⟩
  obtain ⟨t, ht, hq⟩ := hb cdv A outer s H vs Q E (hr.deeper _) hg hsp
  refine wpAny_mono (ht.run [] s1 (start N vs) H _ (inv_start S hr.hd e0 hl r y) hq) (fun fl s' hs => ?_) fun e s' hs => hs
  cases fl with
  | ret u =>
    obtain ⟨v, σ', H', J, rv, q⟩ := hs
    exact ⟨v, H', J.os, J.bare, J.base, J.hok, rv, q⟩
  | next =>
    obtain ⟨σ', H', J, q⟩ := hs
    exact ⟨.non, H', J.os, J.bare, J.base, J.hok, rfl, q⟩
  | brk => exact hs.elim fun _ z => z.elim fun _ z => z.2.elim
  | cont => exact hs.elim fun _ z => z.elim fun _ z => z.2.elim
theorem FnG.mono {j : Nat} (F : FnG P w K mg base C j f fd ps sp) (h : j ≤ k) : FnG P w K mg base C k f fd ps sp := ⟨F.len, fun A outer s H args us vs Q E hr => F.run A outer s H args us vs Q E (hr.mono h)⟩
end

section
variable {X : L2.Cx} {C : CXT} {k : Nat} {f : Addr} {fd : FuncData} {ps : List Str} {sp : Sp} {E : XK} {pins : List (Addr × Obj)} {σ : Sl} {H : Hp} {s : Shared}
theorem run_G {Q : VK} {us ws : List Value} {ks : List Str} {zs : List Value} {vs : List V} (F : FnG X.prog X.w X.K X.mg X.base C k f fd ps sp) (hr : Room k X.A) (hg : X.A.guards = some []) (hx : ∀ e s', C X.stack H s E e s' → X.xe e s') (I : L2.Inv X pins σ H s)
    (hb : bindArgs fd ⟨us, ks.zip ws⟩ = pure (ps.zip zs)) (r : Vals vs zs) (h : sp vs H Q E) : wpAny (model X.prog X.w) X.A (call (.ref f) us (ks.zip ws)) (EP X pins σ Q) X.xe s := by
  refine wpAny_call (codeAny_mono (F.run X.A X.stack s H ⟨us, ks.zip ws⟩ zs vs Q E hr hg I.env0 (.of_eq hb) r h) fun r s' hq => ?_)
  cases r with
  | error e => exact hx e s' hq
  | ok fl =>
    cases fl with
    | ret u => exact I.after hq
    | next => exact hq.elim
    | brk => exact hq.elim
    | cont => exact hq.elim
/-- how one way of calling binds: n positional values, keywords ks; the parameters' values by place -/
def Bnd (fd : FuncData) (ps : List Str) (n : Nat) (ks : List Str) (ix : List Nat) : Prop :=
  ∀ us ws : List Value, us.length = n → ws.length = ks.length → ∃ zs, bindArgs fd ⟨us, ks.zip ws⟩ = pure (ps.zip zs) ∧ optMap (fun i => (us ++ ws)[i]?) ix = some zs
theorem optMap_get {xs : List V} {us : List Value} (r : Vals xs us) : ∀ {ix : List Nat} {zs : List Value}, optMap (fun i => us[i]?) ix = some zs → ∃ vs, optMap (fun i => xs[i]?) ix = some vs ∧ Vals vs zs
  | [], _, h => by
    rw [optMap_nil h]
    exact ⟨[], rfl, .nil⟩
  | i :: ix, _, h => by
    obtain ⟨u, t, rfl, h1, h2⟩ := optMap_cons h
    obtain ⟨vs, e, rv⟩ := optMap_get r h2
    have hi : i < xs.length := by rw [r.length]; exact (List.getElem?_eq_some_iff.mp h1).1
    obtain ⟨u', e1, r1⟩ := r.get (List.getElem?_eq_getElem hi)
    rw [h1] at e1
    cases e1
    refine ⟨xs[i] :: vs, ?_, .cons r1 rv⟩
    simp only [optMap, List.getElem?_eq_getElem hi, e]
/-- f(.., k = ..): what is promised at the arranged values -/
def tCallG (sp : Sp) (n m : Nat) (ix : List Nat) (E : Sl → XK) (t tk : TA) : TE := fun σ H Q => t σ H fun vs H1 => tk σ H1 fun ws H2 => vs.length = n ∧ ws.length = m ∧ ∀ zs, optMap (fun i => (vs ++ ws)[i]?) ix = some zs → sp zs H2 Q (E σ)
variable {x : Str} {p pos : Pos} {e : Expr} {es : List Expr} {kws : List Keyword} {t tk : TA} {n : Nat} {ks : List Str} {ix : List Nat}
theorem call_fin {Q : VK} {us ws : List Value} {vs zs : List V} (F : FnG X.prog X.w X.K X.mg X.base C k f fd ps sp) (hr : Room k X.A) (hgd : X.A.guards = some []) (hb : Bnd fd ps n ks ix) (hx : ∀ e s', C X.stack H s E e s' → X.xe e s') (I : L2.Inv X pins σ H s) (rv : Vals vs us) (rz : Vals zs ws)
    (hv : vs.length = n) (hz : zs.length = ks.length) (q : ∀ as, optMap (fun i => (vs ++ zs)[i]?) ix = some as → sp as H Q E) : wpAny (model X.prog X.w) X.A (call (.ref f) us (ks.zip ws)) (EP X pins σ Q) X.xe s := by
  obtain ⟨as, b1, b2⟩ := hb us ws (by rw [← rv.length]; exact hv) (by rw [← rz.length]; exact hz)
  obtain ⟨vs', c1, c2⟩ := optMap_get (rv.append rz) b2
  exact run_G F hr hgd hx I b1 c2 (q vs' c1)
theorem pe_callG (F : FnG X.prog X.w X.K X.mg X.base C k f fd ps sp) (hr : Room k X.A) (hgd : X.A.guards = some []) (hg : Gl X x) (hm : X.mg x = some (.ref f)) (hk : PySem.W.keepIn X.K (.ref f) = true) (hb : Bnd fd ps n ks ix) {E : Sl → XK} (hx : ∀ pins σ H s e s', L2.Inv X pins σ H s → C X.stack H s (E σ) e s' → X.xe e s')
    (ha : PA X (e :: es) t) (hkw : PK X kws tk) (hall : (backToKw pos (keywordEach kws X.env)).all (·.1.isSome) = true) (hks : (backToKw pos (keywordEach kws X.env)).filterMap (·.1) = ks)
    (hdb : (x == ("__debug__" : Str)) = false) (he : starEach (e :: es) X.env = (false, eval e X.env) :: starEach es X.env)
    (hpl : ((backTo pos (starEach (e :: es) X.env)).any (·.1) || (backToKw pos (keywordEach kws X.env)).any (·.1.isNone)) = false) :
    PE X (.Call (.Name x p) (e :: es) kws pos) (tCallG sp n ks.length ix E t tk) := by
  refine ⟨fun pins s σ H Q I h => wpAny_Call_Name_kw (ld_glob I hg hm ?_ hdb)⟩
  refine PySem.W.callWith_KW (h₀ := X.base) I.ok.mod.kin hk hall (thn (ha.run pos pins s σ H _ I h) fun us s1 ⟨vs, H1, I1, rv, q1⟩ => ?_) hpl he
  refine thn (hkw.run pos pins s1 σ H1 _ I1 q1) fun ws s2 ⟨zs, H2, I2, rz, hv, hz, q2⟩ => ⟨I2.kIn, ?_⟩
  rw [hks]
  exact call_fin F hr hgd hb (fun e s' => hx _ _ _ _ e s' I2) I2 rv rz hv hz q2
theorem pe_callG0 (F : FnG X.prog X.w X.K X.mg X.base C k f fd ps sp) (hr : Room k X.A) (hgd : X.A.guards = some []) (hg : Gl X x) (hm : X.mg x = some (.ref f)) (hk : PySem.W.keepIn X.K (.ref f) = true) (hb : Bnd fd ps n ks ix) {E : Sl → XK} (hx : ∀ pins σ H s e s', L2.Inv X pins σ H s → C X.stack H s (E σ) e s' → X.xe e s')
    (hkw : PK X kws tk) (hall : (backToKw pos (keywordEach kws X.env)).all (·.1.isSome) = true) (hks : (backToKw pos (keywordEach kws X.env)).filterMap (·.1) = ks)
    (hdb : (x == ("__debug__" : Str)) = false) (hpl : ((backTo pos (starEach [] X.env)).any (·.1) || (backToKw pos (keywordEach kws X.env)).any (·.1.isNone)) = false) :
    PE X (.Call (.Name x p) [] kws pos) (tCallG sp n ks.length ix E tNil tk) := by
  refine ⟨fun pins s σ H Q I h => wpAny_Call_Name_kw (ld_glob I hg hm ?_ hdb)⟩
  refine PySem.W.callWith_KW0 (h₀ := X.base) I.ok.mod.kin hk hall ?_ hpl
  refine thn (hkw.run pos pins s σ H _ I h) fun ws s2 ⟨zs, H2, I2, rz, hv, hz, q2⟩ => ⟨I2.kIn, ?_⟩
  rw [hks]
  exact call_fin F hr hgd hb (fun e s' => hx _ _ _ _ e s' I2) I2 .nil rz hv hz q2
end
end EV

end
section
set_option Elab.async false
set_option linter.all false
set_option maxRecDepth 100000
set_option maxHeartbeats 4000000
/-! EV, part H: expressions, node by node. -/
namespace EV
open PySem PySem.Spec PyProof.Rows L2

def ER (K : PySem.W.Frag) (H : Hp) (μ : List Addr) (ρ : Env) (σ : Sl) : Prop := σ.length = ρ.length ∧ ∀ (i : Nat) (v : Va), ρ[i]? = some (some v) → ∃ w, σ[i]? = some (some w) ∧ Rep K H μ v w
section
variable {K : PySem.W.Frag} {H H' : Hp} {μ μ' : List Addr} {S : Sto} {ρ : Env} {σ : Sl}
theorem ER.mono (er : ER K H μ ρ σ) (sr : SR K H μ S) (e : Ext μ H μ' H') : ER K H' μ' ρ σ :=
  ⟨er.1, fun i v h => let ⟨w, h1, h2⟩ := er.2 i v h; ⟨w, h1, h2.mono sr e⟩⟩
theorem ER.set {i : Nat} {x : Va} {v : V} (er : ER K H μ ρ σ) (r : Rep K H μ x v) : ER K H μ (ρ.set i (some x)) (σ.set i (some v)) := by
  refine ⟨by rw [List.length_set, List.length_set]; exact er.1, fun j y h => ?_⟩
  by_cases hj : i = j
  · subst hj
    by_cases hi : i < ρ.length
    · rw [List.getElem?_set_self hi] at h
      cases h
      exact ⟨v, List.getElem?_set_self (by rw [er.1]; exact hi), r⟩
    · rw [List.getElem?_eq_none (by rw [List.length_set]; omega)] at h
      cases h
  · rw [List.getElem?_set_ne hj] at h ⊢
    exact er.2 j y h
theorem ER.unset {i : Nat} (er : ER K H μ ρ σ) : ER K H μ (ρ.set i none) (σ.set i none) := by
  refine ⟨by rw [List.length_set, List.length_set]; exact er.1, fun j y h => ?_⟩
  by_cases hj : i = j
  · subst hj
    by_cases hi : i < ρ.length
    · rw [List.getElem?_set_self hi] at h
      cases h
    · rw [List.getElem?_eq_none (by rw [List.length_set]; omega)] at h
      cases h
  · rw [List.getElem?_set_ne hj] at h ⊢
    exact er.2 j y h
theorem ER.wipe (er : ER K H μ ρ σ) : ∀ vs : List Nat, ER K H μ (wipeE ρ vs) (L2.wipe σ vs)
  | [] => er
  | v :: vs => (ER.wipe er vs).unset
end

/-- what is promised of a piece of code whose reckoning is m -/
def lf {α β : Type} (T : Ct) (K : PySem.W.Frag) (W : WX) (R : Hp → List Addr → α → β → Prop) (m : Env → Sto → Res α) (σ : Sl) (H : Hp) (Q : β → Hp → Prop) : Prop :=
  ∃ μ ρ S, ER K H μ ρ σ ∧ SR K H μ S ∧ Gd T K R (fun c d H' => W c d σ H') (m ρ S) H μ Q
abbrev lfE (T : Ct) (K : PySem.W.Frag) (W : WX) (m : Env → Sto → Res Va) : TE := lf T K W (Rep K) m
abbrev lfA (T : Ct) (K : PySem.W.Frag) (W : WX) (m : Env → Sto → Res (List Va)) : TA := lf T K W (Reps K) m
theorem _root_.L2.PE.imp {X : Cx} {e : Expr} {t t' : TE} (h : PE X e t) (q : ∀ σ H Q, t' σ H Q → t σ H Q) : PE X e t' := ⟨fun pins s σ H Q I x => h.run pins s σ H Q I (q σ H Q x)⟩
theorem _root_.L2.PT.imp {X : Cx} {e : Expr} {t t' : TT} (h : PT X e t) (q : ∀ σ H Q, t' σ H Q → t σ H Q) : PT X e t' := ⟨fun pins s σ H Q I x => h.run pins s σ H Q I (q σ H Q x)⟩
theorem _root_.L2.PW.imp {X : Cx} {e : Expr} {t t' : TT} (h : PW X e t) (q : ∀ σ H Q, t' σ H Q → t σ H Q) : PW X e t' := ⟨fun w pins s σ H Q I x => h.run w pins s σ H Q I (q σ H Q x)⟩
theorem _root_.L2.PA.imp {X : Cx} {e : List Expr} {t t' : TA} (h : PA X e t) (q : ∀ σ H Q, t' σ H Q → t σ H Q) : PA X e t' := ⟨fun pos pins s σ H Q I x => h.run pos pins s σ H Q I (q σ H Q x)⟩
theorem _root_.L2.PK.imp {X : Cx} {e : List Keyword} {t t' : TA} (h : PK X e t) (q : ∀ σ H Q, t' σ H Q → t σ H Q) : PK X e t' := ⟨fun pos pins s σ H Q I x => h.run pos pins s σ H Q I (q σ H Q x)⟩
theorem _root_.L2.PO.imp {X : Cx} {e : Option Expr} {t t' : TO} (h : PO X e t) (q : ∀ σ H Q, t' σ H Q → t σ H Q) : PO X e t' := ⟨fun pins s σ H Q I x => h.run pins s σ H Q I (q σ H Q x)⟩
section
variable {T : Ct} {K : PySem.W.Frag} {W : WX} {H : Hp} {μ : List Addr} {S : Sto} {ρ : Env} {σ : Sl} {α β γ δ : Type} {R : Hp → List Addr → α → β → Prop} {R2 : Hp → List Addr → γ → δ → Prop}
theorem lf.imp {m : Env → Sto → Res α} {Q Q' : β → Hp → Prop} (h : lf T K W R m σ H Q) (q : ∀ b H', Q b H' → Q' b H') : lf T K W R m σ H Q' :=
  let ⟨μ, ρ, S, er, sr, g⟩ := h; ⟨μ, ρ, S, er, sr, g.imp q⟩
theorem lf_step {m : Env → Sto → Res α} {k : α → Sto → Res γ} {Q : δ → Hp → Prop} (er : ER K H μ ρ σ) (sr : SR K H μ S) (g : Gd T K R2 (fun c d H' => W c d σ H') ((m ρ S).bind k) H μ Q) :
    lf T K W R m σ H (fun b H1 => ∃ μ1 S1 a, Ext μ H μ1 H1 ∧ ER K H1 μ1 ρ σ ∧ SR K H1 μ1 S1 ∧ R H1 μ1 a b ∧ Gd T K R2 (fun c d H' => W c d σ H') (k a S1) H1 μ1 Q) :=
  ⟨μ, ρ, S, er, sr, (Gd.bind g).imp fun b H1 ⟨μ1, S1, a, e, sr1, r, g1⟩ => ⟨μ1, S1, a, e, er.mono sr e, sr1, r, g1⟩⟩
end

/-! ### what holds around a piece of code -/
structure Cfg where
  N : List Str
  ns : List (Str × NameKind)
  wr : Option (List (Str × NameKind))
  glo : List (Str × Cst)
  fns : List (Str × List (Nat × List Str × List Nat))
def Cfg.vis (g : Cfg) (x : Str) : Bool := match g.ns.lookup x with
  | some .local => true
  | some .cell => true
  | some .free => true
  | _ => false
def Cfg.gl (g : Cfg) (x : Str) : Bool := decide (g.ns.lookup x = some .globalImplicit)
/-- a name that may be stored -/
def Cfg.sto (g : Cfg) (x : Str) : Bool := match g.ns.lookup x with
  | some .local => true
  | some .cell => (match g.wr with
    | none => true
    | some ns => ns.lookup x == some .cell)
  | _ => false
def Cst.v : Cst → V
  | .non => .non | .bl b => .bl b | .int i => .int i | .str x => .str x
def bltNames : List Str := ["len", "abs", "int", "max", "min", "sum", "all", "any", "list", "tuple", "repr", "reversed", "isinstance", "range", "enumerate", "zip", "str", "bool", "dict"]
def callSp (T : Ct) (K : PySem.W.Frag) (call : List Va → Sto → Res Va) : Sp := fun vs H Q E => ∃ μ S xs, SR K H μ S ∧ Reps K H μ xs vs ∧ GdV T K E (call xs S) H μ Q
structure CO (T : Ct) (g : Cfg) (X : L2.Cx) (C : Kx) (kk : Nat) (W : WX) : Prop where
  N : X.N = g.N
  nd : X.N.Nodup
  calm : X.calm = true
  un : X.A.units + 65 < cLine
  room : Room kk X.A
  gd : X.A.guards = some []
  kind : X.env.scope.kind = .function
  ns : X.env.scope.names = g.ns
  fn : ∀ x, (match g.wr with | none => true | some ns => ns.lookup x == some .cell) = true → X.fn x = true
  pass : PassesOwn (model X.prog X.w) X.A X.env X.xe
  takes : L2.Takes X W
  blt : ∀ x ∈ bltNames, X.mg x = none
  glo : ∀ x c, (x, c) ∈ g.glo → ∃ u, X.mg x = some u ∧ RelV c.v u
  fns : ∀ (i : Nat) (nm : Str) (bs : List (Nat × List Str × List Nat)), g.fns[i]? = some (nm, bs) → ∃ f fd ps, X.mg nm = some (.ref f) ∧ PySem.W.keepIn X.K (.ref f) = true ∧
    FnG X.prog X.w X.K X.mg X.base (L2.CX X.prog X.w) kk f fd ps (fun vs H Q E => vs.length = ps.length ∧ callSp T X.K (C.call i) vs H Q E) ∧ ∀ b ∈ bs, Bnd fd ps b.1 b.2.1 b.2.2 ∧ b.2.2.length = ps.length

section
variable {T : Ct} {g : Cfg} {X : L2.Cx} {C : Kx} {kk : Nat} {W : WX} (co : CO T g X C kk W) {pos : Pos} {a b c e : Expr} {es : List Expr} {m m1 m2 m3 : Env → Sto → Res Va} {ml : Env → Sto → Res (List Va)}
theorem e_var {i : Nat} {x : Str} (hN : X.N[i]? = some x) (hv : Vis X.env.scope x) (hd : (x == ("__debug__" : Str)) = false) (hcd : (x == ("__classdict__" : Str)) = false) : PE X (.Name x pos) (lfE T X.K W (look · i)) :=
  (pe_var hN hv hd hcd).imp fun σ H Q ⟨μ, ρ, S, er, sr, g⟩ => by
    replace g : GdV T X.K (fun c d H' => W c d σ H') (look ρ i S) H μ Q := g
    unfold look at g
    split at g
    · rename_i v h
      obtain ⟨w, h1, h2⟩ := er.2 i v h
      exact ⟨w, h1, GdV.same g sr h2⟩
    · exact g.elim
theorem cst_rep {K : PySem.W.Frag} {H : Hp} {μ : List Addr} : ∀ c : Cst, Rep K H μ c.va c.v
  | .non => by simp only [Cst.va, Cst.v, Rep]
  | .bl b => by simp only [Cst.va, Cst.v, Rep]
  | .int b => by simp only [Cst.va, Cst.v, Rep]
  | .str b => by simp only [Cst.va, Cst.v, Rep]
theorem e_cst {k : Cst} (h : PE X e (tC k.v)) : PE X e (lfE T X.K W fun _ S => .ok k.va S) := h.imp fun σ H Q ⟨μ, ρ, S, er, sr, g⟩ => GdV.same g sr (cst_rep k)
theorem e_bin {op : Operator} (ha : PE X a (lfE T X.K W m1)) (hb : PE X b (lfE T X.K W m2)) : PE X (.BinOp a op b pos) (lfE T X.K W fun ρ S => (m1 ρ S).bind fun x S => (m2 ρ S).bind fun y S => binOp op x y S) :=
  (pe_op (op_bin (T := T) op) ha hb).imp fun σ H Q ⟨μ, ρ, S, er, sr, g⟩ => (lf_step er sr g).imp fun x H1 ⟨μ1, S1, a, e1, er1, sr1, r1, g1⟩ => (lf_step er1 sr1 g1).imp fun y H2 ⟨μ2, S2, b, e2, er2, sr2, r2, g2⟩ =>
    ⟨_, μ2, S2, a, b, sr2, r1.mono sr1 e2, r2, g2⟩
theorem e_neg (ha : PE X a (lfE T X.K W m)) : PE X (.UnaryOp .USub a pos) (lfE T X.K W fun ρ S => (m ρ S).bind fun x S => match x with
    | .int i => .ok (.int (-i)) S
    | _ => .bad) :=
  (pe_un un_neg ha).imp fun σ H Q ⟨μ, ρ, S, er, sr, g⟩ => (lf_step er sr g).imp fun x H1 ⟨μ1, S1, a, e1, er1, sr1, r1, g1⟩ => by
    split at g1
    · exact ⟨_, r1.intE, GdV.int g1 sr1⟩
    · exact g1.elim
theorem e_not (ha : PE X a (lfE T X.K W m)) : PE X (.UnaryOp .Not a pos) (lfE T X.K W fun ρ S => (m ρ S).bind fun x S => match x with
    | .bl b => .ok (.bl (!b)) S
    | _ => .bad) :=
  (pe_not ha).imp fun σ H Q ⟨μ, ρ, S, er, sr, g⟩ => (lf_step er sr g).imp fun x H1 ⟨μ1, S1, a, e1, er1, sr1, r1, g1⟩ => by
    split at g1
    · exact ⟨_, r1.blE, GdV.bl g1 sr1⟩
    · exact g1.elim
theorem ofB_some {o : Option Bool} {K : PySem.W.Frag} {W : WH} {S : Sto} {H : Hp} {μ : List Addr} {Q : VK} (g : GdV T K W (ofB o S) H μ Q) (sr : SR K H μ S) : ∃ b, o = some b ∧ Q (.bl b) H := by
  cases o with
  | none => exact g.elim
  | some b => exact ⟨b, rfl, GdV.bl g sr⟩
abbrev mCmp (op : CmpOp) (m1 m2 : Env → Sto → Res Va) : Env → Sto → Res Va := fun ρ S => (m1 ρ S).bind fun x S => (m2 ρ S).bind fun y S => ofB (cmpOp op x y S) S
theorem cmp_lf {op : CmpOp} {σ : Sl} {H : Hp} {Q : VK} {K : PySem.W.Frag} (h : lfE T K W (mCmp op m1 m2) σ H Q) : tOp (rC K op) (lfE T K W m1) (lfE T K W m2) σ H Q :=
  let ⟨μ, ρ, S, er, sr, g⟩ := h
  (lf_step er sr g).imp fun x H1 ⟨μ1, S1, a, e1, er1, sr1, r1, g1⟩ => (lf_step er1 sr1 g1).imp fun y H2 ⟨μ2, S2, b, e2, er2, sr2, r2, g2⟩ =>
    let ⟨k, ek, q⟩ := ofB_some g2 sr2
    ⟨μ2, S2, a, b, k, sr2, r1.mono sr1 e2, r2, ek, q⟩
include co in
theorem e_cmp {op : CmpOp} (ha : PE X a (lfE T X.K W m1)) (hb : PE X b (lfE T X.K W m2)) (hm : behindInMarks op b = false) : PE X (.Compare a [op] [b] pos) (lfE T X.K W (mCmp op m1 m2)) :=
  (pe_cmpR (op_cmp co.un op) ha hb hm).imp fun σ H Q h => cmp_lf h
include co in
theorem t_cmp {op : CmpOp} (ha : PE X a (lfE T X.K W m1)) (hb : PE X b (lfE T X.K W m2)) (hm : behindInMarks op b = false) : PT X (.Compare a [op] [b] pos) (tB (lfE T X.K W (mCmp op m1 m2))) :=
  (pt_cmpR (op_cmp co.un op) ha hb hm).imp fun σ H Q h => cmp_lf h
abbrev mChn (op op2 : CmpOp) (m1 m2 m3 : Env → Sto → Res Va) : Env → Sto → Res Va := fun ρ S => (m1 ρ S).bind fun x S => (m2 ρ S).bind fun y S => match cmpOp op x y S with
    | some true => (m3 ρ S).bind fun z S => ofB (cmpOp op2 y z S) S
    | some false => .ok (.bl false) S
    | none => .bad
theorem chn_lf {op op2 : CmpOp} {σ : Sl} {H : Hp} {Q : VK} {K : PySem.W.Frag} (h : lfE T K W (mChn op op2 m1 m2 m3) σ H Q) : tChain (rC K op) (rC K op2) (lfE T K W m1) (lfE T K W m2) (lfE T K W m3) σ H Q :=
  let ⟨μ, ρ, S, er, sr, g⟩ := h
  (lf_step er sr g).imp fun x H1 ⟨μ1, S1, a, e1, er1, sr1, r1, g1⟩ => (lf_step er1 sr1 g1).imp fun y H2 ⟨μ2, S2, b, e2, er2, sr2, r2, g2⟩ => by
    split at g2
    · rename_i ek
      exact ⟨μ2, S2, a, b, true, sr2, r1.mono sr1 e2, r2, ek, true, rfl, by
        rw [if_pos rfl]
        exact (lf_step er2 sr2 g2).imp fun z H3 ⟨μ3, S3, c, e3, er3, sr3, r3, g3⟩ =>
          let ⟨k, ek, q⟩ := ofB_some g3 sr3
          ⟨μ3, S3, b, c, k, sr3, r2.mono sr2 e3, r3, ek, q⟩⟩
    · rename_i ek
      exact ⟨μ2, S2, a, b, false, sr2, r1.mono sr1 e2, r2, ek, false, rfl, by
        rw [if_neg (by decide)]
        exact GdV.bl g2 sr2⟩
    · exact g2.elim
include co in
theorem e_chn {op op2 : CmpOp} (ha : PE X a (lfE T X.K W m1)) (hb : PE X b (lfE T X.K W m2)) (hc : PE X c (lfE T X.K W m3)) (hm : lastMarks [op, op2] [b, c] = false) : PE X (.Compare a [op, op2] [b, c] pos) (lfE T X.K W (mChn op op2 m1 m2 m3)) :=
  (pe_chain (op_cmp co.un op) (op_cmp co.un op2) ha hb hc hm).imp fun σ H Q h => chn_lf h
include co in
theorem t_chn {op op2 : CmpOp} (ha : PE X a (lfE T X.K W m1)) (hb : PE X b (lfE T X.K W m2)) (hc : PE X c (lfE T X.K W m3)) (hm : lastMarks [op, op2] [b, c] = false) : PT X (.Compare a [op, op2] [b, c] pos) (tB (lfE T X.K W (mChn op op2 m1 m2 m3))) :=
  (pt_chain (op_cmp co.un op) (op_cmp co.un op2) ha hb hc hm).imp fun σ H Q h => chn_lf h
/-- and, or: the first one, then the rest -/
abbrev mBool (isAnd : Bool) (m : Env → Sto → Res Va) (k : Bool → Env → Sto → Res Va) : Env → Sto → Res Va := fun ρ S => (m ρ S).bind fun x S => match x with
    | .bl b => k b ρ S
    | _ => .bad
abbrev kBool (isAnd : Bool) (m : Env → Sto → Res Va) (k : Bool → Env → Sto → Res Va) : Bool → Env → Sto → Res Va := fun b ρ S => if b == isAnd then mBool isAnd m k ρ S else .ok (.bl b) S
abbrev boolO (isAnd : Bool) : BoolOp := if isAnd then .And else .Or
theorem e_bool1 {isAnd : Bool} (ha : PE X a (lfE T X.K W m)) : PE X (.BoolOp (boolO isAnd) [a] pos) (lfE T X.K W (mBool isAnd m fun b _ S => .ok (.bl b) S)) :=
  (pe_one ha).imp fun σ H Q ⟨μ, ρ, S, er, sr, g⟩ => (lf_step er sr g).imp fun x H1 ⟨μ1, S1, a, e1, er1, sr1, r1, g1⟩ => by
    split at g1
    · rw [r1.blE]; exact GdV.bl g1 sr1
    · exact g1.elim
theorem t_bool1 {isAnd : Bool} (ha : PT X a (tB (lfE T X.K W m))) : PW X (.BoolOp (boolO isAnd) [a] pos) (tB (lfE T X.K W (mBool isAnd m fun b _ S => .ok (.bl b) S))) := by
  have z : PW X (.BoolOp (boolO isAnd) [a] pos) (tB (lfE T X.K W m)) := by
    cases isAnd
    · exact pw_or1 ha
    · exact pw_and1 ha
  exact z.imp fun σ H Q ⟨μ, ρ, S, er, sr, g⟩ => (lf_step er sr g).imp fun x H1 ⟨μ1, S1, a, e1, er1, sr1, r1, g1⟩ => by
    split at g1
    · obtain ⟨c, h1, h2⟩ := GdV.bl g1 sr1
      cases h1
      exact ⟨_, r1.blE, h2⟩
    · exact g1.elim
theorem e_boolS {isAnd : Bool} {k : Bool → Env → Sto → Res Va} {m2 : Env → Sto → Res Va} (ha : PE X a (lfE T X.K W m)) (hb : PE X (.BoolOp (boolO isAnd) (b :: es) pos) (lfE T X.K W (mBool isAnd m2 k))) :
    PE X (.BoolOp (boolO isAnd) (a :: b :: es) pos) (lfE T X.K W (mBool isAnd m (kBool isAnd m2 k))) := by
  cases isAnd
  · refine (pe_or ha hb).imp fun σ H Q ⟨μ, ρ, S, er, sr, g⟩ => (lf_step er sr g).imp fun x H1 ⟨μ1, S1, a, e1, er1, sr1, r1, g1⟩ => ?_
    split at g1
    · rename_i w
      cases w with
      | true => exact ⟨_, r1.blE, GdV.bl g1 sr1⟩
      | false => exact ⟨_, r1.blE, μ1, ρ, S1, er1, sr1, g1⟩
    · exact g1.elim
  · refine (pe_and ha hb).imp fun σ H Q ⟨μ, ρ, S, er, sr, g⟩ => (lf_step er sr g).imp fun x H1 ⟨μ1, S1, a, e1, er1, sr1, r1, g1⟩ => ?_
    split at g1
    · rename_i w
      cases w with
      | true => exact ⟨_, r1.blE, μ1, ρ, S1, er1, sr1, g1⟩
      | false => exact ⟨_, r1.blE, GdV.bl g1 sr1⟩
    · exact g1.elim
theorem t_boolS {isAnd : Bool} {k : Bool → Env → Sto → Res Va} {m2 : Env → Sto → Res Va} (ha : PT X a (tB (lfE T X.K W m))) (hb : PW X (.BoolOp (boolO isAnd) (b :: es) pos) (tB (lfE T X.K W (mBool isAnd m2 k)))) :
    PW X (.BoolOp (boolO isAnd) (a :: b :: es) pos) (tB (lfE T X.K W (mBool isAnd m (kBool isAnd m2 k)))) := by
  cases isAnd
  · refine (pw_or ha hb).imp fun σ H Q ⟨μ, ρ, S, er, sr, g⟩ => (lf_step er sr g).imp fun x H1 ⟨μ1, S1, a, e1, er1, sr1, r1, g1⟩ => ?_
    split at g1
    · rename_i w
      cases w with
      | true =>
        obtain ⟨c, h1, h2⟩ := GdV.bl g1 sr1
        cases h1
        exact ⟨_, r1.blE, h2⟩
      | false => exact ⟨_, r1.blE, μ1, ρ, S1, er1, sr1, g1⟩
    · exact g1.elim
  · refine (pw_and ha hb).imp fun σ H Q ⟨μ, ρ, S, er, sr, g⟩ => (lf_step er sr g).imp fun x H1 ⟨μ1, S1, a, e1, er1, sr1, r1, g1⟩ => ?_
    split at g1
    · rename_i w
      cases w with
      | true => exact ⟨_, r1.blE, μ1, ρ, S1, er1, sr1, g1⟩
      | false =>
        obtain ⟨c, h1, h2⟩ := GdV.bl g1 sr1
        cases h1
        exact ⟨_, r1.blE, h2⟩
    · exact g1.elim
theorem t_not (ha : PT X a (tB (lfE T X.K W m))) : PT X (.UnaryOp .Not a pos) (tB (lfE T X.K W fun ρ S => (m ρ S).bind fun x S => match x with
    | .bl b => .ok (.bl (!b)) S
    | _ => .bad)) :=
  (pt_not ha).imp fun σ H Q ⟨μ, ρ, S, er, sr, g⟩ => (lf_step er sr g).imp fun x H1 ⟨μ1, S1, a, e1, er1, sr1, r1, g1⟩ => by
    split at g1
    · obtain ⟨c, h1, h2⟩ := GdV.bl g1 sr1
      cases h1
      exact ⟨_, r1.blE, h2⟩
    · exact g1.elim
abbrev mIte (m m1 m2 : Env → Sto → Res Va) : Env → Sto → Res Va := fun ρ S => (m ρ S).bind fun x S => match x with
    | .bl true => m1 ρ S
    | .bl false => m2 ρ S
    | _ => .bad
theorem e_ite (hc : PT X c (tB (lfE T X.K W m))) (ha : PE X a (lfE T X.K W m1)) (hb : PE X b (lfE T X.K W m2)) : PE X (.IfExp c a b pos) (lfE T X.K W (mIte m m1 m2)) :=
  (pe_ifExp hc ha hb).imp fun σ H Q ⟨μ, ρ, S, er, sr, g⟩ => (lf_step er sr g).imp fun x H1 ⟨μ1, S1, a, e1, er1, sr1, r1, g1⟩ => by
    split at g1
    · exact ⟨_, r1.blE, μ1, ρ, S1, er1, sr1, g1⟩
    · exact ⟨_, r1.blE, μ1, ρ, S1, er1, sr1, g1⟩
    · exact g1.elim
/-! displays -/
def tTupX (t : TA) : TE := fun σ H Q => t σ H fun xs H1 => xs.length ≤ sizeLine ∧ NewT xs H1 Q
theorem pe_tupX {x1} {t : TA} (h : PA X es t) : PE X (.Tuple es x1 pos) (tTupX t) := by
  refine ⟨fun pins s σ H Q I hq => ?_⟩
  refine wpAny_Tuple_spliced (thn (h.run pos pins s σ H _ I hq) fun us s1 ⟨xs, H1, I1, r, z, q⟩ => ⟨by rw [← r.length]; exact z, ?_⟩)
  exact ep_tup (t' := s1.toks) I1 r z q
theorem e_tup {x1} (h : PA X es (lfA T X.K W ml)) : PE X (.Tuple es x1 pos) (lfE T X.K W fun ρ S => (ml ρ S).bind fun xs S => mkT xs S) :=
  (pe_tupX h).imp fun σ H Q ⟨μ, ρ, S, er, sr, g⟩ => (lf_step er sr g).imp fun x H1 ⟨μ1, S1, a, e1, er1, sr1, r1, g1⟩ => GdV.mkT g1 sr1 r1
theorem e_lst (h : PA X es (lfA T X.K W ml)) : PE X (.List es pos) (lfE T X.K W fun ρ S => (ml ρ S).bind fun xs S => newL xs S) :=
  (pe_lst h).imp fun σ H Q ⟨μ, ρ, S, er, sr, g⟩ => (lf_step er sr g).imp fun x H1 ⟨μ1, S1, a, e1, er1, sr1, r1, g1⟩ => GdV.newL g1 sr1 r1
theorem e_idx (ha : PE X a (lfE T X.K W m1)) (hb : PE X b (lfE T X.K W m2)) (hs : PlainIx b) : PE X (.Subscript a b pos) (lfE T X.K W fun ρ S => (m1 ρ S).bind fun x S => (m2 ρ S).bind fun y S => idxOp x y S) :=
  (pe_ix (ix_E (T := T)) ha hb hs).imp fun σ H Q ⟨μ, ρ, S, er, sr, g⟩ => (lf_step er sr g).imp fun x H1 ⟨μ1, S1, a, e1, er1, sr1, r1, g1⟩ => (lf_step er1 sr1 g1).imp fun y H2 ⟨μ2, S2, b, e2, er2, sr2, r2, g2⟩ =>
    ⟨_, μ2, S2, a, b, sr2, r1.mono sr1 e2, r2, g2⟩
theorem e_rev {k : Nat} {p1 p2 p3 : Pos} (ha : PE X a (lfE T X.K W m)) : PE X (.Subscript a (.Slice none none (some (.UnaryOp .USub (.Constant (.int 1) k p1) p2)) p3) pos) (lfE T X.K W fun ρ S => (m ρ S).bind fun x S => revOp x S) :=
  (pe_revT ha).imp fun σ H Q ⟨μ, ρ, S, er, sr, g⟩ => (lf_step er sr g).imp fun x H1 ⟨μ1, S1, a, e1, er1, sr1, r1, g1⟩ => by
    unfold revOp at g1
    split at g1
    · obtain ⟨p, vs, rfl, hp, hr⟩ := r1.tupE
      exact ⟨p, vs, rfl, hp.sq, GdV.tup g1 sr1 hr.reverse⟩
    · exact g1.elim
/-- a slice's bound -/
def RO (_ : Hp) (_ : List Addr) (o : Option Va) (b : Option Int) : Prop := bnd o = some b
/-- a bound's reckoning, told off where it is no int -/
abbrev mBnd (mo : Env → Sto → Res (Option Va)) : Env → Sto → Res (Option Va) := fun ρ S => bndR (mo ρ S)
theorem o_none : PO X none (lf T X.K W RO (mBnd fun _ S => .ok none S)) :=
  po_none.imp fun σ H Q ⟨μ, ρ, S, er, sr, g⟩ => Gd.stay (S := S) (a := none) (b := none) g sr rfl
theorem o_some (h : PE X e (lfE T X.K W m)) : PO X (some e) (lf T X.K W RO (mBnd fun ρ S => (m ρ S).bind fun x S => .ok (some x) S)) :=
  (po_some h).imp fun σ H Q ⟨μ, ρ, S, er, sr, g⟩ => by
    have g' : Gd T X.K RO (fun c d H' => W c d σ H') ((m ρ S).bind fun x S => if (bnd (some x)).isSome then .ok (some x) S else .bad) H μ Q := by
      have g0 : Gd T X.K RO (fun c d H' => W c d σ H') (bndR ((m ρ S).bind fun x S => .ok (some x) S)) H μ Q := g
      revert g0
      cases m ρ S <;> exact id
    refine (lf_step er sr g').imp fun x H1 ⟨μ1, S1, a, e1, er1, sr1, r1, g1⟩ => ?_
    split at g1
    · rename_i hb
      cases a with
      | int i => exact ⟨i, r1.intE, Gd.stay (S := S1) (a := some (Va.int i)) (b := some i) g1 sr1 rfl⟩
      | _ => simp [bnd] at hb
    · exact g1.elim
theorem slc_bnd (x : Va) (u v : Option Va) (S : Sto) : slcOp x u v S = match bnd u, bnd v with
    | some l, some h => slcI x l h S
    | _, _ => .bad := by
  unfold slcI slcOp
  cases hu : bnd u with
  | none => rfl
  | some l =>
    cases hv : bnd v with
    | none => rfl
    | some h =>
      dsimp only
      rw [bnd_int, bnd_int]
theorem e_slc {lo hi : Option Expr} {p2 : Pos} {m1 m2 : Env → Sto → Res (Option Va)} (ha : PE X a (lfE T X.K W m)) (hl : PO X lo (lf T X.K W RO (mBnd m1))) (hh : PO X hi (lf T X.K W RO (mBnd m2))) :
    PE X (.Subscript a (.Slice lo hi none p2) pos) (lfE T X.K W fun ρ S => (m ρ S).bind fun x S => (bndR (m1 ρ S)).bind fun u S => (bndR (m2 ρ S)).bind fun v S => slcOp x u v S) :=
  (pe_slice (sl_E (T := T)) ha hl hh).imp fun σ H Q ⟨μ, ρ, S, er, sr, g⟩ => (lf_step er sr g).imp fun x H1 ⟨μ1, S1, a, e1, er1, sr1, r1, g1⟩ =>
    (lf_step (m := mBnd m1) er1 sr1 g1).imp fun l H2 ⟨μ2, S2, u, e2, er2, sr2, r2, g2⟩ =>
    (lf_step (m := mBnd m2) er2 sr2 g2).imp fun h H3 ⟨μ3, S3, v, e3, er3, sr3, r3, g3⟩ => by
      rw [slc_bnd, show bnd u = some l from r2, show bnd v = some h from r3] at g3
      exact ⟨_, μ3, S3, a, sr3, (r1.mono sr1 e2).mono sr2 e3, g3⟩
end
end EV

end
section
set_option Elab.async false
set_option linter.all false
set_option maxRecDepth 100000
set_option maxHeartbeats 4000000
/-! EV, part I: calls, built-in calls, methods, isinstance. -/
namespace EV
open PySem PySem.Spec PyProof.Rows L2
section
variable {T : Ct} {g : Cfg} {X : L2.Cx} {C : Kx} {kk : Nat} {W : WX} (co : CO T g X C kk W) {pos : Pos} {a b c e : Expr} {es : List Expr} {kws : List Keyword} {m m1 m2 m3 : Env → Sto → Res Va} {ml mk : Env → Sto → Res (List Va)}
theorem a_nil : PA X [] (lfA T X.K W fun _ S => .ok [] S) := pa_nil.imp fun σ H Q ⟨μ, ρ, S, er, sr, g⟩ => Gd.stay (S := S) (a := []) (b := []) g sr .nil
theorem cons_lf {σ : Sl} {H : Hp} {Q : List V → Hp → Prop} {K : PySem.W.Frag} (h : lfA T K W (fun ρ S => (m ρ S).bind fun x S => (ml ρ S).bind fun xs S => .ok (x :: xs) S) σ H Q) : tCons (lfE T K W m) (lfA T K W ml) σ H Q :=
  let ⟨μ, ρ, S, er, sr, g⟩ := h
  (lf_step er sr g).imp fun x H1 ⟨μ1, S1, a, e1, er1, sr1, r1, g1⟩ => (lf_step er1 sr1 g1).imp fun y H2 ⟨μ2, S2, b, e2, er2, sr2, r2, g2⟩ =>
    Gd.stay (S := S2) (a := a :: b) g2 sr2 (.cons (r1.mono sr1 e2) r2)
theorem a_cons (ha : PE X e (lfE T X.K W m)) (hr : PA X es (lfA T X.K W ml)) (hs : starEach (e :: es) X.env = (false, eval e X.env) :: starEach es X.env) :
    PA X (e :: es) (lfA T X.K W fun ρ S => (m ρ S).bind fun x S => (ml ρ S).bind fun xs S => .ok (x :: xs) S) := (pa_cons ha hr hs).imp fun σ H Q h => cons_lf h
theorem k_nil : PK X [] (lfA T X.K W fun _ S => .ok [] S) := pk_nil.imp fun σ H Q ⟨μ, ρ, S, er, sr, g⟩ => Gd.stay (S := S) (a := []) (b := []) g sr .nil
theorem k_cons {nm : Option Str} {kpos : Pos} (ha : PE X e (lfE T X.K W m)) (hr : PK X kws (lfA T X.K W ml)) :
    PK X (⟨nm, e, kpos⟩ :: kws) (lfA T X.K W fun ρ S => (m ρ S).bind fun x S => (ml ρ S).bind fun xs S => .ok (x :: xs) S) := (pk_cons ha hr).imp fun σ H Q h => cons_lf h
/-- no star -/
def Plain (e : Expr) : Prop := ∀ (es : List Expr) (env : PySem.Env), starEach (e :: es) env = (false, eval e env) :: starEach es env
theorem plain_back (pos : Pos) (env : PySem.Env) : ∀ {es : List Expr}, (∀ e ∈ es, Plain e) → (backTo pos (starEach es env)).any (·.1) = false
  | [], _ => rfl
  | e :: es, h => by
    rw [h e List.mem_cons_self es env]
    show (false || (backTo pos (starEach es env)).any (·.1)) = false
    rw [plain_back pos env fun e' m => h e' (List.mem_cons_of_mem _ m)]
    rfl
theorem kw_all (pos : Pos) (env : PySem.Env) : ∀ {kws : List Keyword} {ks : List Str}, kws.map (·.arg) = ks.map some →
    (backToKw pos (keywordEach kws env)).all (·.1.isSome) = true ∧ (backToKw pos (keywordEach kws env)).filterMap (·.1) = ks ∧ (backToKw pos (keywordEach kws env)).any (·.1.isNone) = false
  | [], ks, h => by
    cases ks with
    | nil => exact ⟨rfl, rfl, rfl⟩
    | cons _ _ => simp at h
  | ⟨nm, v, p⟩ :: kws, ks, h => by
    cases ks with
    | nil => simp at h
    | cons k ks =>
      simp only [List.map_cons, List.cons.injEq] at h
      obtain ⟨e, h⟩ := h
      obtain ⟨h1, h2, h3⟩ := kw_all pos env h
      cases e
      refine ⟨?_, ?_, ?_⟩
      · show (true && (backToKw pos (keywordEach kws env)).all (·.1.isSome)) = true
        rw [h1]; rfl
      · show k :: (backToKw pos (keywordEach kws env)).filterMap (·.1) = k :: ks
        rw [h2]
      · show (false || (backToKw pos (keywordEach kws env)).any (·.1.isNone)) = false
        rw [h3]; rfl
theorem Gd.bindE {α β γ δ : Type} {T : Ct} {K : PySem.W.Frag} {R : Hp → List Addr → α → β → Prop} {R2 : Hp → List Addr → γ → δ → Prop} {Wh : WH} {H : Hp} {μ : List Addr} {r : Res α} {k : α → Sto → Res γ} {Q : δ → Hp → Prop} (h : Gd T K R2 Wh (r.bind k) H μ Q) :
    Gd T K R Wh r H μ (fun b H1 => ∃ μ1 S1 a, r = .ok a S1 ∧ Ext μ H μ1 H1 ∧ SR K H1 μ1 S1 ∧ R H1 μ1 a b ∧ Gd T K R2 Wh (k a S1) H1 μ1 Q) := by
  cases r with
  | ok a S' => exact fun b H' μ' e sr rr => ⟨μ', S', a, rfl, e, sr, rr, Gd.ext h e⟩
  | exn c x S' => exact h
  | bad => exact h
theorem lf_stepE {α β γ δ : Type} {K : PySem.W.Frag} {H : Hp} {μ : List Addr} {S : Sto} {ρ : Env} {σ : Sl} {R : Hp → List Addr → α → β → Prop} {R2 : Hp → List Addr → γ → δ → Prop} {m : Env → Sto → Res α} {k : α → Sto → Res γ} {Q : δ → Hp → Prop} (er : ER K H μ ρ σ) (sr : SR K H μ S) (g : Gd T K R2 (fun c d H' => W c d σ H') ((m ρ S).bind k) H μ Q) :
    lf T K W R m σ H (fun b H1 => ∃ μ1 S1 a, m ρ S = .ok a S1 ∧ Ext μ H μ1 H1 ∧ ER K H1 μ1 ρ σ ∧ SR K H1 μ1 S1 ∧ R H1 μ1 a b ∧ Gd T K R2 (fun c d H' => W c d σ H') (k a S1) H1 μ1 Q) :=
  ⟨μ, ρ, S, er, sr, (Gd.bindE g).imp fun b H1 ⟨μ1, S1, a, q, e, sr1, r, g1⟩ => ⟨μ1, S1, a, q, e, er.mono sr e, sr1, r, g1⟩⟩
theorem optMap_len {α β : Type} {f : α → Option β} : ∀ {l : List α} {r : List β}, optMap f l = some r → r.length = l.length
  | [], _, h => by rw [optMap_nil h]; rfl
  | a :: l, _, h => by
    obtain ⟨b, t, rfl, _, h2⟩ := optMap_cons h
    rw [List.length_cons, List.length_cons, optMap_len h2]
theorem optMap_reps {K : PySem.W.Frag} {H : Hp} {μ : List Addr} {xs : List Va} {vs : List V} (r : Reps K H μ xs vs) : ∀ {ix : List Nat} {ys : List Va} {ws : List V}, optMap (fun j => xs[j]?) ix = some ys → optMap (fun j => vs[j]?) ix = some ws → Reps K H μ ys ws
  | [], _, _, h, h' => by rw [optMap_nil h, optMap_nil h']; exact .nil
  | i :: ix, _, _, h, h' => by
    obtain ⟨y, t, rfl, h1, h2⟩ := optMap_cons h
    obtain ⟨w, t', rfl, h3, h4⟩ := optMap_cons h'
    obtain ⟨v, q1, q2⟩ := r.get h1
    rw [h3] at q1
    cases q1
    exact .cons q2 (optMap_reps r h2 h4)
abbrev mArr (ix : List Nat) (f : List Va → Sto → Res Va) (ml mk : Env → Sto → Res (List Va)) : Env → Sto → Res Va := fun ρ S => (ml ρ S).bind fun xs S => (mk ρ S).bind fun ys S =>
      match optMap (fun j => (xs ++ ys)[j]?) ix with
      | some zs => f zs S
      | none => .bad
theorem arr_fin {K : PySem.W.Frag} {Wh : WH} {H : Hp} {μ : List Addr} {S : Sto} {f : List Va → Sto → Res Va} {xs ys : List Va} {vs ws zs : List V} {ix : List Nat} {Q : VK} {n : Nat} (sr : SR K H μ S) (r : Reps K H μ xs vs) (r2 : Reps K H μ ys ws) (hn : ix.length = n)
    (g : GdV T K Wh (match optMap (fun j => (xs ++ ys)[j]?) ix with
      | some zs => f zs S
      | none => .bad) H μ Q) (hz : optMap (fun i => (vs ++ ws)[i]?) ix = some zs) : zs.length = n ∧ callSp T K f zs H Q Wh := by
  refine ⟨(optMap_len hz).trans hn, ?_⟩
  split at g
  · rename_i zs' h
    exact ⟨μ, S, zs', sr, optMap_reps (r.append r2) h hz, g⟩
  · exact g.elim
include co in
/-- f(.., k = ..) -/
theorem e_callK {i : Nat} {x : Str} {p : Pos} {bs : List (Nat × List Str × List Nat)} {ks : List Str} {ix : List Nat} (hf : g.fns[i]? = some (x, bs)) (hb : ((e :: es).length, ks, ix) ∈ bs) (hg : Gl X x) (hd : (x == ("__debug__" : Str)) = false)
    (hp : ∀ d ∈ e :: es, Plain d) (hk : kws.map (·.arg) = ks.map some) (ha : PA X (e :: es) (lfA T X.K W ml)) (hkw : PK X kws (lfA T X.K W mk)) (hl : ∀ ρ S xs S', ml ρ S = .ok xs S' → xs.length = (e :: es).length) (hl2 : ∀ ρ S xs S', mk ρ S = .ok xs S' → xs.length = ks.length) :
    PE X (.Call (.Name x p) (e :: es) kws pos) (lfE T X.K W (mArr ix (C.call i) ml mk)) := by
  obtain ⟨f, fd, ps, h1, h2, h3, h4⟩ := co.fns i x bs hf
  obtain ⟨hB, hBl⟩ := h4 _ hb
  obtain ⟨k1, k2, k3⟩ := kw_all pos X.env hk
  have hpl := plain_back pos X.env hp
  have hx : ∀ pins (σ : Sl) H s e s', L2.Inv X pins σ H s → L2.CX X.prog X.w X.stack H s (fun c d H' => W c d σ H') e s' → X.xe e s' := fun pins σ H s e s' I c => co.takes e s' (XE.of_call I (fun _ _ _ h => h) c)
  refine (pe_callG h3 co.room co.gd hg h1 h2 hB (E := fun σ c d H' => W c d σ H') hx ha hkw k1 k2 hd (hp e List.mem_cons_self es X.env) (by rw [hpl, k3]; rfl)).imp fun σ H Q ⟨μ, ρ, S, er, sr, g⟩ => ?_
  exact (lf_stepE er sr g).imp fun vs H1 ⟨μ1, S1, xs, q1, e1, er1, sr1, r1, g1⟩ => (lf_stepE er1 sr1 g1).imp fun ws H2 ⟨μ2, S2, ys, q2, e2, er2, sr2, r2, g2⟩ =>
    ⟨by rw [r1.length]; exact hl _ _ _ _ q1, by rw [r2.length]; exact hl2 _ _ _ _ q2, fun zs hz => arr_fin sr2 (Reps.mono sr1 e2 r1) r2 hBl g2 hz⟩
include co in
theorem e_callK0 {i : Nat} {x : Str} {p : Pos} {bs : List (Nat × List Str × List Nat)} {ks : List Str} {ix : List Nat} (hf : g.fns[i]? = some (x, bs)) (hb : (0, ks, ix) ∈ bs) (hg : Gl X x) (hd : (x == ("__debug__" : Str)) = false)
    (hk : kws.map (·.arg) = ks.map some) (hkw : PK X kws (lfA T X.K W mk)) (hl2 : ∀ ρ S xs S', mk ρ S = .ok xs S' → xs.length = ks.length) :
    PE X (.Call (.Name x p) [] kws pos) (lfE T X.K W (mArr ix (C.call i) (fun _ S => .ok [] S) mk)) := by
  obtain ⟨f, fd, ps, h1, h2, h3, h4⟩ := co.fns i x bs hf
  obtain ⟨hB, hBl⟩ := h4 _ hb
  obtain ⟨k1, k2, k3⟩ := kw_all pos X.env hk
  have hx : ∀ pins (σ : Sl) H s e s', L2.Inv X pins σ H s → L2.CX X.prog X.w X.stack H s (fun c d H' => W c d σ H') e s' → X.xe e s' := fun pins σ H s e s' I c => co.takes e s' (XE.of_call I (fun _ _ _ h => h) c)
  refine (pe_callG0 h3 co.room co.gd hg h1 h2 hB (E := fun σ c d H' => W c d σ H') hx hkw k1 k2 hd (by rw [k3]; rfl)).imp fun σ H Q ⟨μ, ρ, S, er, sr, g⟩ => ?_
  have g' : GdV T X.K (fun c d H' => W c d σ H') ((mk ρ S).bind fun ys S =>
      match optMap (fun j => ([] ++ ys)[j]?) ix with
      | some zs => C.call i zs S
      | none => .bad) H μ Q := g
  exact (lf_stepE er sr g').imp fun ws H2 ⟨μ2, S2, ys, q2, e2, er2, sr2, r2, g2⟩ =>
    ⟨rfl, by rw [r2.length]; exact hl2 _ _ _ _ q2, fun zs hz => arr_fin sr2 .nil r2 hBl g2 hz⟩
/-! built-in calls -/
theorem e_biB {id : String} {x : Str} {p : Pos} {b : Bi} (hc : CallR X (.builtin id) (rBi T X.K b)) (hg : Gl X x) (hm : X.mg x = none) (hv : bootBuiltins x = some (.builtin id)) (hn : x ≠ "__name__") (hdb : (x == ("__debug__" : Str)) = false) (hp : ∀ d ∈ e :: es, Plain d)
    (ha : PA X (e :: es) (lfA T X.K W ml)) : PE X (.Call (.Name x p) (e :: es) [] pos) (lfE T X.K W fun ρ S => (ml ρ S).bind fun xs S => biOp b xs S) :=
  (pe_callB hc hg hm hv ha hn hdb (hp e List.mem_cons_self es X.env) (plain_back pos X.env fun d h => hp d (List.mem_cons_of_mem _ h))).imp fun σ H Q ⟨μ, ρ, S, er, sr, g⟩ =>
    (lf_step er sr g).imp fun vs H1 ⟨μ1, S1, xs, e1, er1, sr1, r1, g1⟩ => ⟨_, μ1, S1, xs, sr1, r1, g1⟩
theorem e_biT {id : String} {x : Str} {p : Pos} {b : Bi} (hc : CallR X (.type id) (rBi T X.K b)) (hg : Gl X x) (hm : X.mg x = none) (hv : bootBuiltins x = some (.type id)) (hn : x ≠ "__name__") (hdb : (x == ("__debug__" : Str)) = false) (hp : ∀ d ∈ e :: es, Plain d)
    (ha : PA X (e :: es) (lfA T X.K W ml)) : PE X (.Call (.Name x p) (e :: es) [] pos) (lfE T X.K W fun ρ S => (ml ρ S).bind fun xs S => biOp b xs S) :=
  (pe_callTy hc hg hm hv ha hn hdb (hp e List.mem_cons_self es X.env) (plain_back pos X.env fun d h => hp d (List.mem_cons_of_mem _ h))).imp fun σ H Q ⟨μ, ρ, S, er, sr, g⟩ =>
    (lf_step er sr g).imp fun vs H1 ⟨μ1, S1, xs, e1, er1, sr1, r1, g1⟩ => ⟨_, μ1, S1, xs, sr1, r1, g1⟩
end
end EV

end
section
set_option Elab.async false
set_option linter.all false
set_option maxRecDepth 100000
set_option maxHeartbeats 4000000
/-! EV, part J: isinstance, methods, reversed. -/
namespace EV
open PySem PySem.Spec PyProof.Rows L2
section
variable {X : L2.Cx} {pins : List (Addr × Obj)} {σ : Sl} {H : Hp} {s : Shared} {K : PySem.W.Frag} {μ : List Addr} {S : Sto}
theorem kit_int (t : Ty) : PySem.W.kitOne K (.type "int") (.type t.id) = some (decide (t = .int)) := by cases t <;> exact kit_ty (by decide +kernel)
theorem kit_str (t : Ty) : PySem.W.kitOne K (.type "str") (.type t.id) = some (decide (t = .str)) := by cases t <;> exact kit_ty (by decide +kernel)
theorem kit_tup (t : Ty) : PySem.W.kitOne K (.type "tuple") (.type t.id) = some (decide (t = .tup)) := by cases t <;> exact kit_ty (by decide +kernel)
theorem kit_lst (t : Ty) : PySem.W.kitOne K (.type "list") (.type t.id) = some (decide (t = .lst)) := by cases t <;> exact kit_ty (by decide +kernel)
theorem kit_dic (t : Ty) : PySem.W.kitOne K (.type "dict") (.type t.id) = some (decide (t = .dic)) := by cases t <;> exact kit_ty (by decide +kernel)
theorem kit_non (t : Ty) : PySem.W.kitOne K (.type "NoneType") (.type t.id) = some false := by cases t <;> exact kit_ty (by decide +kernel)
theorem kit_bool (t : Ty) : PySem.W.kitOne K (.type "bool") (.type t.id) = some (decide (t = .bool) || decide (t = .int)) := by cases t <;> exact kit_ty (by decide +kernel)
theorem isi_va {a : Va} {x : V} {u : Value} {t : Ty} {b : Bool} {Q : VK} (I : L2.Inv X pins σ H s) (sr : SR X.K H μ S) (r : Rep X.K H μ a x) (rv : RelV x u) (e : isTy S a t = some b) (q : Q (.bl b) H) :
    wpAny (model X.prog X.w) X.A (call (.builtin "isinstance") [u, .type t.id]) (EP X pins σ Q) X.xe s := by
  have go : ∀ {n : Value} (_ : TyX X.K H x n) (_ : PySem.W.kitOne X.K n (.type t.id) = some b), wpAny (model X.prog X.w) X.A (call (.builtin "isinstance") [u, .type t.id]) (EP X pins σ Q) X.xe s := fun {n} ty k => by
    obtain ⟨P, Z, p, hx⟩ := kit_of I rv ty
    exact PySem.W.kia_one Z I.kIn p k hx fun tk => ⟨.bl b, H, I.tok tk, rfl, q⟩
  unfold isTy at e
  split at e
  · cases r.nonE; cases e; exact go (.base .non) (kit_non t)
  · cases r.blE; cases e; exact go (.base (.bl _)) (kit_bool t)
  · cases r.intE; cases e; exact go (.base (.int _)) (kit_int t)
  · cases r.strE; cases e; exact go (.base (.str _)) (kit_str t)
  · obtain ⟨p, vs, rfl, hp, _⟩ := r.tupE
    cases e
    rcases hp with ⟨o, h, _⟩ | ⟨o, _, _, h, c, _⟩
    · exact go (.fTuple h) (kit_tup t)
    · exact go (.kTuple h c) (kit_tup t)
  · cases e
  · split at e
    · rename_i i _ xs hs
      obtain ⟨p, vs, rfl, _, hp, _⟩ := Rep.lst sr r hs
      cases e
      exact go (.base (.lst hp)) (kit_lst t)
    · rename_i i _ kvs hs
      obtain ⟨p, rfl, hm⟩ := r.refE
      obtain ⟨p', hm', ob⟩ := sr.adr hs
      rw [hm] at hm'
      cases hm'
      cases e
      rcases ob with ⟨ks, hk, _⟩ | ⟨es, hk, _⟩
      · exact go (.base (.dK hk)) (kit_dic t)
      · cases (show u = Value.ref p from rv)
        obtain ⟨⟨_, o, ep, h1, h2, _⟩, _⟩ := (show ObjOk X.prog X.w H s.heap p (.ext (DicAt p es)) from I.hok p _ hk)
        exact PySem.W.kia_one PySem.W.kitx_dict I.kIn ⟨o, h1, h2.1⟩ (kit_dic t) (fun z => nomatch z) fun tk => ⟨.bl _, H, I.tok tk, rfl, q⟩
    · cases e
  · cases e
/-- methods -/
def rMe (T : Ct) (K : PySem.W.Frag) (m : Me) : V → List V → Hp → VK → Prop := fun x vs H Q => ∃ W : WH, ∃ μ S o xs, SR K H μ S ∧ Rep K H μ o x ∧ Reps K H μ xs vs ∧ GdV T K W (meOp m o xs S) H μ Q
theorem GdV.put {T : Ct} {W : WH} {i : Nat} {a : Addr} {xs ys : List Va} {vs ws : List V} {y : Va} {v : V} {Q : VK} (g : GdV T K W (.ok y (S.set i (.lst ys))) H μ Q) (sr : SR K H μ S) (hi : S[i]? = some (.lst xs)) (ha : μ[i]? = some a) (hH : H a = some (.lst vs)) (r : Reps K H μ ys ws) (ry : Rep K H μ y v) : Q v (upd H a (.lst ws)) := by
  obtain ⟨sr', e⟩ := sr.put hi ha hH r
  exact g v _ μ e sr' (ry.mono sr e)
variable {T : Ct}
theorem me_append : MtR X "list.append" (rMe T X.K .append) := by
  intro pins s σ H x vs v us Q I rx rv h
  obtain ⟨W, μ, S, o, xs, sr, ro, rs, g⟩ := h
  unfold meOp at g
  split at g <;> first | contradiction | skip
  rename_i a y
  split at g
  · rename_i ys hs
    split at g
    · rename_i hz
      obtain ⟨p, ws, rfl, hm, hp, hr⟩ := Rep.lst sr ro hs
      obtain ⟨z, rfl, rz⟩ := rs.one
      exact mt_append pins s σ H _ _ v us Q I rx rv ⟨p, ws, z, rfl, rfl, hp, by rw [hr.length]; exact hz, GdV.put g sr hs hm hp (hr.append (.cons rz .nil)) (by simp only [Rep])⟩
    · exact g.elim
  · exact g.elim
theorem me_extend : MtR X "list.extend" (rMe T X.K .extend) := by
  intro pins s σ H x vs v us Q I rx rv h
  obtain ⟨W, μ, S, o, xs, sr, ro, rs, g⟩ := h
  unfold meOp at g
  split at g <;> first | contradiction | skip
  rename_i a b
  split at g
  · rename_i ys zs hs hs2
    split at g
    · rename_i hz
      obtain ⟨p, ws, rfl, hm, hp, hr⟩ := Rep.lst sr ro hs
      obtain ⟨z, rfl, rz⟩ := rs.one
      obtain ⟨p2, ws2, rfl, hm2, hp2, hr2⟩ := Rep.lst sr rz hs2
      exact mt_extend pins s σ H _ _ v us Q I rx rv ⟨p, p2, ws, ws2, rfl, rfl, hp, hp2, by rw [hr.length, hr2.length]; exact hz, GdV.put g sr hs hm hp (hr.append hr2) (by simp only [Rep])⟩
    · exact g.elim
  · exact g.elim
theorem me_pop : MtR X "list.pop" (rMe T X.K .pop) := by
  intro pins s σ H x vs v us Q I rx rv h
  obtain ⟨W, μ, S, o, xs, sr, ro, rs, g⟩ := h
  unfold meOp at g
  split at g <;> first | contradiction | skip
  rename_i a
  split at g
  · rename_i ys hs
    split at g
    · rename_i y hy
      obtain ⟨p, ws, rfl, hm, hp, hr⟩ := Rep.lst sr ro hs
      obtain ⟨z, hz, rz⟩ := hr.get hy
      refine mt_pop pins s σ H _ _ v us Q I rx rv ⟨p, ws, z, rfl, rs.zero, hp, by rw [hr.length]; exact hz, GdV.put g sr hs hm hp hr.dropLast rz⟩
    · exact g.elim
  · exact g.elim
theorem countP_vals {y : V} : ∀ {ys : List V} {us : List Value}, Vals ys us → ys.all flatV = true → us.countP (eqU y) = ys.countP (fun b => eqV b y)
  | [], _, .nil, _ => rfl
  | z :: ys, _, .cons r t, h => by
    rw [List.all_cons, Bool.and_eq_true] at h
    rw [List.countP_cons, List.countP_cons, countP_vals t h.2, eqU_of r h.1]
theorem me_count : MtR X "tuple.count" (rMe T X.K .count) := by
  intro pins s σ H x vs v us Q I rx rv h
  obtain ⟨W, μ, S, o, xs, sr, ro, rs, g⟩ := h
  unfold meOp at g
  split at g <;> first | contradiction | skip
  rename_i ys y
  split at g
  · rename_i n hn
    obtain ⟨p, ws, rfl, hp, hr⟩ := ro.tupE
    obtain ⟨z, rfl, rz⟩ := rs.one
    obtain ⟨uy, rfl, ruy⟩ := Vals.one rv
    cases rx
    unfold cntOp at hn
    split at hn
    · rename_i a bs ha hb
      cases hn
      cases sc_of rz ha
      cases scs_of hr hb
      have fy := sc_flat ha
      have fys := scs_flat hb
      obtain ⟨its, rv2, ⟨⟨cls, dd, data, sl⟩, ho, hc, n, hd⟩, hlen⟩ := I.tuple hp.sq
      simp only at hc hd
      subst hc hd
      refine PySem.call_meets (w := X.w) (prog := X.prog) PySem.F.slot_tuple_count ⟨_, ho, rfl⟩ PySem.F.entry_tuple_count (PySem.F.args_tuple_count_2 _ _)
        (SeqAt.tuple_countAt p its.toArray n dd sl uy (eqU z)) ⟨ho, fun u' hu' => mem_eqAt ruy fy rv2 fys u' (by simpa using hu'), ?_⟩
      refine ⟨.int ((ws.countP fun b => eqV b z : Nat) : Int), H, I.tok _, ⟨s.toks, ?_⟩, GdV.int g sr⟩
      rw [List.toList_toArray, countP_vals rv2 fys]
    · cases hn
  · exact g.elim
/-- the receiver is of that type -/
def tyX (K : PySem.W.Frag) (T : String) (x : V) (H : Hp) : Prop := (T = "list" ∧ ∃ p xs, x = .ref p ∧ SqL K H p xs) ∨ (T = "tuple" ∧ ∃ p xs, x = .ref p ∧ TupX K H p xs)
theorem tyX_is {T : String} {x : V} {v : Value} (I : L2.Inv X pins σ H s) (r : RelV x v) (ty : tyX X.K T x H) : s.TypeIs v T ∧ ∀ a, v = .ref a → ∃ ob, s.heap.get? a = some ob ∧ ob.dict = none := by
  rcases ty with ⟨rfl, p, xs, rfl, h⟩ | ⟨rfl, p, xs, rfl, h⟩
  · exact tyV_is I r (.inl ⟨rfl, xs, h⟩)
  · cases (show v = Value.ref p from r)
    rcases h with ⟨o, h, hd⟩ | ⟨o, its, n, h, hc, hd, _⟩
    · obtain ⟨h1, _, its, _, o', h2, hc, _⟩ := (show ObjOk X.prog X.w H s.heap p (.frz o (.tup xs)) from I.hok p _ h)
      have e : o' = o := by rw [h1] at h2; cases h2; rfl
      cases e
      refine ⟨⟨o, h1, hc⟩, fun a e => ?_⟩
      cases e
      exact ⟨o, h1, hd⟩
    · refine ⟨⟨o, I.kIn _ _ h, hc⟩, fun a e => ?_⟩
      cases e
      exact ⟨o, I.kIn _ _ h, hd⟩
def tMe (K : PySem.W.Frag) (T : String) (r : V → List V → Hp → VK → Prop) (to : TE) (t : TA) : TE := fun σ H Q => to σ H fun x H1 => tyX K T x H1 ∧ t σ H1 fun xs H2 => r x xs H2 Q
/-- what stands ahead of the dot is no super() -/
def NoSup (o : Expr) : Prop := ∀ (name : Str) (env : PySem.Env), attributeBase o name env (eval o env) = eval o env
variable {o e : Expr} {es : List Expr} {to : TE} {t : TA} {name : Str} {apos cpos : Pos} {id TN : String} {r : V → List V → Hp → VK → Prop}
theorem plain_all (pos : Pos) (env : PySem.Env) : ∀ {es : List Expr}, (∀ e ∈ es, Plain e) → (backTo pos (starEach es env)).all (fun x => !x.1) = true
  | [], _ => rfl
  | e :: es, h => by
    rw [h e List.mem_cons_self es env]
    show (true && (backTo pos (starEach es env)).all (fun x => !x.1)) = true
    rw [plain_all pos env fun e' m => h e' (List.mem_cons_of_mem _ m)]
    rfl
theorem pe_me (pa : PlainAttrs TN) (slot : Slot TN name id) (hty : typeOf (.builtin id) = pure (.type "method_descriptor")) (hm : MtR X id r) (ho : PE X o to) (ha : PA X (e :: es) t) (hs : NoSup o) (hp : ∀ d ∈ e :: es, Plain d) (hfew : decide ((e :: es).length < 30) = true) (hline : (apos.endLine == cpos.line) = true) :
    PE X (.Call (.Attribute o name apos) (e :: es) [] cpos) (tMe X.K TN r to t) := by
  refine ⟨fun pins s σ H Q I h => ?_⟩
  refine wpAny_Call_method_late (hs _ _) (by
    rw [plain_all cpos X.env hp]
    show (true && decide ((e :: es).length < 30)) = true
    rw [hfew]; rfl) hline rfl (thn (ho.run pins s σ H _ I h) fun v s1 ⟨x, H1, I1, r1, ty, q1⟩ => ?_)
  obtain ⟨h1, h2⟩ := tyX_is I1 r1 ty
  refine ⟨TN, id, pa, slot, hty, h1, h2, ?_⟩
  have hA := ha.run cpos pins s1 σ H1 _ I1 q1
  have hE := hp e List.mem_cons_self es X.env
  rw [hE] at hA ⊢
  refine Calls.callWith_builtin ?_ (Calls.evalArgs_plain ?_)
  · show (false || (backTo cpos (starEach es X.env)).any (·.1)) = false
    rw [plain_back cpos X.env fun d m => hp d (List.mem_cons_of_mem _ m)]; rfl
  · exact thn hA fun us s2 ⟨vs, H2, I2, r2, q2⟩ => hm pins s2 σ H2 x vs v us Q I2 r1 r2 q2
theorem pe_me0 (pa : PlainAttrs TN) (slot : Slot TN name id) (hty : typeOf (.builtin id) = pure (.type "method_descriptor")) (hm : MtR X id r) (ho : PE X o to) (hs : NoSup o) (hline : (apos.endLine == cpos.line) = true) :
    PE X (.Call (.Attribute o name apos) [] [] cpos) (tMe X.K TN r to tNil) := by
  refine ⟨fun pins s σ H Q I h => ?_⟩
  refine wpAny_Call_method0_late (hs _ _) hline (thn (ho.run pins s σ H _ I h) fun v s1 ⟨x, H1, I1, r1, ty, q1⟩ => ?_)
  obtain ⟨h1, h2⟩ := tyX_is I1 r1 ty
  exact ⟨TN, id, pa, slot, hty, h1, h2, Calls.callWith_builtin rfl (PySem.evalArgs_none (hm pins s1 σ H1 x [] v [] Q I1 r1 .nil q1))⟩
def meT : Me → String
  | .count => "tuple"
  | _ => "list"
theorem meTy_is {m : Me} {a : Va} {x : V} (sr : SR K H μ S) (r : Rep K H μ a x) (h : meTy m a S = true) : tyX K (meT m) x H := by
  unfold meTy at h
  split at h
  · obtain ⟨p, vs, rfl, hp, _⟩ := r.tupE
    exact .inr ⟨rfl, p, vs, rfl, hp⟩
  · cases h
  · rename_i m' i _ hm
    split at h
    · rename_i xs hs
      obtain ⟨p, vs, rfl, _, hp, _⟩ := Rep.lst sr r hs
      refine .inl ⟨?_, p, vs, rfl, .of hp⟩
      cases m <;> first | rfl | exact absurd rfl hm | skip
      all_goals first | rfl | (exfalso; simp_all)
    · cases h
  · cases h
variable {g : Cfg} {C : Kx} {kk : Nat} {W : WX} {mo m1 : Env → Sto → Res Va} {ml : Env → Sto → Res (List Va)} {m : Me}
abbrev mMe (m : Me) (mo : Env → Sto → Res Va) (ml : Env → Sto → Res (List Va)) : Env → Sto → Res Va := fun ρ S => (mo ρ S).bind fun x S => if meTy m x S then (ml ρ S).bind fun xs S => meOp m x xs S else .bad
theorem me_lf {σ : Sl} {H : Hp} {Q : VK} (h : lfE T K W (mMe m mo ml) σ H Q) : tMe K (meT m) (rMe T K m) (lfE T K W mo) (lfA T K W ml) σ H Q :=
  let ⟨μ, ρ, S, er, sr, g⟩ := h
  (lf_step er sr g).imp fun x H1 ⟨μ1, S1, a, e1, er1, sr1, r1, g1⟩ => by
    split at g1
    · rename_i ht
      exact ⟨meTy_is sr1 r1 ht, (lf_step er1 sr1 g1).imp fun y H2 ⟨μ2, S2, b, e2, er2, sr2, r2, g2⟩ => ⟨_, μ2, S2, a, b, sr2, r1.mono sr1 e2, r2, g2⟩⟩
    · exact g1.elim
theorem e_append (ho : PE X o (lfE T X.K W mo)) (ha : PA X (e :: es) (lfA T X.K W ml)) (hs : NoSup o) (hp : ∀ d ∈ e :: es, Plain d) (hfew : decide ((e :: es).length < 30) = true) (hline : (apos.endLine == cpos.line) = true) :
    PE X (.Call (.Attribute o "append" apos) (e :: es) [] cpos) (lfE T X.K W (mMe .append mo ml)) :=
  (pe_me PySem.F.plainAttrs_list PySem.F.slot_list_append PySem.F.type_list_append (me_append (T := T)) ho ha hs hp hfew hline).imp fun σ H Q h => me_lf h
theorem e_extend (ho : PE X o (lfE T X.K W mo)) (ha : PA X (e :: es) (lfA T X.K W ml)) (hs : NoSup o) (hp : ∀ d ∈ e :: es, Plain d) (hfew : decide ((e :: es).length < 30) = true) (hline : (apos.endLine == cpos.line) = true) :
    PE X (.Call (.Attribute o "extend" apos) (e :: es) [] cpos) (lfE T X.K W (mMe .extend mo ml)) :=
  (pe_me PySem.F.plainAttrs_list PySem.F.slot_list_extend PySem.F.type_list_extend (me_extend (T := T)) ho ha hs hp hfew hline).imp fun σ H Q h => me_lf h
theorem e_count (ho : PE X o (lfE T X.K W mo)) (ha : PA X (e :: es) (lfA T X.K W ml)) (hs : NoSup o) (hp : ∀ d ∈ e :: es, Plain d) (hfew : decide ((e :: es).length < 30) = true) (hline : (apos.endLine == cpos.line) = true) :
    PE X (.Call (.Attribute o "count" apos) (e :: es) [] cpos) (lfE T X.K W (mMe .count mo ml)) :=
  (pe_me PySem.F.plainAttrs_tuple PySem.F.slot_tuple_count PySem.F.type_tuple_count (me_count (T := T)) ho ha hs hp hfew hline).imp fun σ H Q h => me_lf h
theorem e_pop (ho : PE X o (lfE T X.K W mo)) (hs : NoSup o) (hline : (apos.endLine == cpos.line) = true) :
    PE X (.Call (.Attribute o "pop" apos) [] [] cpos) (lfE T X.K W (mMe .pop mo fun _ S => .ok [] S)) :=
  (pe_me0 PySem.F.plainAttrs_list PySem.F.slot_list_pop PySem.F.type_list_pop (me_pop (T := T)) ho hs hline).imp fun σ H Q h => (me_lf h).imp fun x H1 ⟨h1, μ, ρ, S, er, sr, g⟩ => ⟨h1, Gd.stay (S := S) (a := []) (b := []) g sr .nil⟩
/-- isinstance(a, T) -/
theorem bltTy (t : Ty) : bootBuiltins t.nm = some (.type t.id) := by cases t <;> decide +kernel
theorem e_isi {m : Env → Sto → Res Va} {p p2 pos : Pos} {t : Ty} (he : PE X e (lfE T X.K W m)) (hp : Plain e) (hg : Gl X "isinstance") (hm : X.mg "isinstance" = none) (hg2 : Gl X t.nm) (hm2 : X.mg t.nm = none) :
    PE X (.Call (.Name "isinstance" p) [e, .Name t.nm p2] [] pos) (lfE T X.K W fun ρ S => (m ρ S).bind fun x S => ofB (isTy S x t) S) := by
  have h2 : Plain (.Name t.nm p2) := fun _ _ => rfl
  refine PE.imp (pe_callB (r := fun vs H Q => ∃ μ S a b x, vs = [x, .ty t.id] ∧ SR X.K H μ S ∧ Rep X.K H μ a x ∧ isTy S a t = some b ∧ Q (.bl b) H) ?_ hg hm PyProof.Rows.boot_isinstance (pa_cons he (pa_cons (pe_bltn hg2 hm2 (bltTy t) (v := .ty t.id) rfl (by cases t <;> decide) (by cases t <;> decide)) pa_nil (h2 _ _)) (hp _ _)) (by decide) (by decide) (hp _ _) (plain_back pos X.env fun d m => by
      rw [List.mem_singleton.mp m]; exact h2)) fun σ H Q ⟨μ, ρ, S, er, sr, g⟩ => (lf_step er sr g).imp fun x H1 ⟨μ1, S1, a, e1, er1, sr1, r1, g1⟩ => ?_
  · intro pins s σ H vs us Q I rv ⟨μ, S, a, b, x, e, sr, r, k, q⟩
    subst e
    obtain ⟨u1, u2, rfl, r1, r2⟩ := Vals.two rv
    cases (show u2 = Value.type t.id from r2)
    exact isi_va I sr r r1 k q
  · obtain ⟨b, h1, h2⟩ := ofB_some g1 sr1
    exact ⟨μ1, S1, a, b, x, rfl, sr1, r1, h1, h2⟩
end
end EV

end
section
set_option Elab.async false
set_option linter.all false
set_option maxRecDepth 100000
set_option maxHeartbeats 4000000
/-! EV, part K: list(reversed(a list)), tuple(reversed(a list)). -/
namespace EV
open PySem PySem.Spec PyProof.Rows L2
section
variable {prog : Program} {w : World} {A : Around} {E : Value → Shared → Prop} {s : Shared}
theorem list_init_rev {it l S : Addr} {items : Array Value} {R : Result → Shared → Prop} (hh : A.handled = none) (hit : s.heap.IsRevIter it l ((items.size : Int) - 1)) (hl : s.heap.IsList l items) (hne : l ≠ it) (hn : items.size ≤ sizeLine) (hSi : S ≠ it) (hSl : S ≠ l)
    (hS : s.heap.get? S = some { cls := .type "list", data := .seq #[] })
    (hR : ∀ (h' : Heap) (tk : Nat) (acc : Array Value) (c' : Nat), (∀ b o, b ≠ it → b ≠ S → s.heap.get? b = some o → h'.get? b = some o) → ItemsOf (fun i v => items[items.size - 1 - i]? = some v) acc items.size →
      h'.get? S = some { cls := .type "list", dict := none, data := .seq acc c', slots := #[] } → R (.ok (.ret .none)) { s with heap := h', toks := tk }) :
    wpAny (model prog w) A.in1 (Builtin.«list.__init__» ⟨[.ref S, .ref it], []⟩)
      (fun fin s' => match fin with | .done f => R (.ok f) s' | .again c' => c'.quiet = true ∧ codeAny (model prog w) A c' R s') (fun e s' => R (.error e) s') s := by
  have W := (Walks.listRev (prog := prog) (w := w) (A := A.in1) hh it l hne items).toS
  have hSf : S ∉ [it, l] := by simp only [List.mem_cons, List.not_mem_nil, or_false, not_or]; exact ⟨hSi, hSl⟩
  show wpAny _ A.in1 (do let old ← Builtin.List.listItems (.ref S); Builtin.List.listUpdate (.ref S) (fun _ => #[]); letGo old.toList.reverse; Builtin.List.listExtendWith (.ref S) (.ref it) .none) _ _ s
  refine wpAny_bind ?_
  unfold Builtin.List.listItems
  refine wpAny_bind (wpAny_seqItems hS rfl (wpAny_pure ?_))
  show wpAny _ A.in1 (updateSeq S (fun _ => #[]) >>= fun _ => letGo (#[] : Array Value).toList.reverse >>= fun _ => Builtin.List.listExtendWith (.ref S) (.ref it) .none) _ _ s
  refine wpAny_bind (wpAny_updateSeq hS rfl ?_)
  have hS₂ := Heap.get?_update_self (Obj.mapSeq (fun _ => (#[] : Array Value))) hS rfl
  have oth : ∀ b o, b ≠ S → s.heap.get? b = some o → (s.heap.update S (Obj.mapSeq (fun _ => (#[] : Array Value)))).get? b = some o := fun b o hb e => (Heap.get?_update_other _ _ (Ne.symm hb)).trans e
  refine wpAny_bind (wpAny_letGo ?_)
  have hit1 : (s.heap.update S (Obj.mapSeq (fun _ => (#[] : Array Value)))).IsRevIter it l ((items.size : Int) - 1) := hit.at fun o e => oth _ o (Ne.symm hSi) e
  have hl1 : (s.heap.update S (Obj.mapSeq (fun _ => (#[] : Array Value)))).IsList l items := by
    obtain ⟨o, e, q⟩ := hl
    exact ⟨o, oth _ o (Ne.symm hSl) e, q⟩
  have hT : ({ s with heap := s.heap.update S (Obj.mapSeq (fun _ => (#[] : Array Value))) } : Shared).TypeIs (.ref it) "list_reverseiterator" := Heap.IsRevIter.typeIs (s := { s with heap := s.heap.update S (Obj.mapSeq (fun _ => (#[] : Array Value))) }) hit1
  have h1 : Builtin.List.listSameRef (.ref S) (.ref it) = false := by simp [Builtin.List.listSameRef, hSi]
  unfold Builtin.List.listExtendWith
  refine wpAny_bind (wpAny_typeOf hT ?_)
  rw [if_neg (by rw [h1]; decide)]
  refine wpAny_bind (wpAny_pyIter_revIter (s := { s with heap := s.heap.update S (Obj.mapSeq (fun _ => (#[] : Array Value))) }) hit1 ?_)
  refine wpAny_bind (wpAny_holding ?_)
  unfold Builtin.List.listLengthHint
  refine wpAny_bind (wpAny_specialOf hT RT.nolen_lri ?_)
  show wpAny _ A.in1 (specialOf (Value.ref it) (Str.ofString "__length_hint__") >>= _) _ _ _
  refine wpAny_bind (wpAny_specialOf hT RT.hint_lri ?_)
  generalize hid : ("list_reverseiterator.__length_hint__" : String) = id0
  wp_delta
  rw [show splitId id0 = some ("list_reverseiterator", "__length_hint__") from by subst hid; decide +kernel]
  subst hid
  refine wpAny_bind (wpAny_isInstance (b := true) hT (by rw [isSubtype_type]; kernel_rfl) ?_)
  refine wpAny_pure ?_
  rw [if_neg (by decide)]
  have e0 : ((items.size : Nat) : Int) - 1 - ((0 : Nat) : Int) = (items.size : Int) - 1 := by omega
  refine wpAny_pure ⟨plainId_quiet F.plain_extend_loop _, codeAny_extend_loopS W hn _ hSf _ items.size 0 _ _ _ rfl (Nat.zero_le _) ⟨Nat.zero_le _, by rw [e0]; exact hit1, hl1⟩ hS₂ (ItemsOf.nil _) fun s' acc' c' hm hS' hacc => ?_⟩
  rw [Moved.eq_with hm]
  refine hR s'.heap s'.toks acc' c' (fun b o hb hbS e => hm.heap b o (fun hmem => ?_) (oth b o hbS e)) hacc hS'
  rcases List.mem_cons.mp hmem with e' | hmem
  · exact hbS e'
  · exact hb (List.mem_singleton.mp hmem)
theorem call_list_rev {it l : Addr} {items : Array Value} {Q : Value → Shared → Prop} (hh : A.handled = none) (hit : s.heap.IsRevIter it l ((items.size : Int) - 1)) (hl : s.heap.IsList l items) (hne : l ≠ it) (hn : items.size ≤ sizeLine)
    (hQ : ∀ (h' : Heap) (tk : Nat) (acc : Array Value) (c' : Nat), (∀ b o, b ≠ it → s.heap.get? b = some o → h'.get? b = some o) → ItemsOf (fun i v => items[items.size - 1 - i]? = some v) acc items.size →
      h'.get? s.heap.objs.size = some { cls := .type "list", dict := none, data := .seq acc c', slots := #[] } → Q (.ref s.heap.objs.size) { s with heap := h', toks := tk }) :
    wpAny (model prog w) A (call (.type "list") [.ref it]) Q E s := by
  obtain ⟨oi, hoi, _⟩ := id hit
  obtain ⟨ol, hol, _⟩ := id hl
  have hSi : s.heap.objs.size ≠ it := Nat.ne_of_gt (Heap.lt_size hoi)
  have hSl : s.heap.objs.size ≠ l := Nat.ne_of_gt (Heap.lt_size hol)
  refine callType_codes (Q₁ := fun obj s₁ => obj = .ref s.heap.objs.size ∧ s₁ = { s with heap := s.heap.push { cls := .type "list", data := .seq #[] } }) F.called_list (F.typeCall_list_1 _) F.entry_list_init
    (code_list_new _ ⟨rfl, rfl⟩) fun obj s₁ h₁ => ?_
  obtain ⟨rfl, rfl⟩ := h₁
  have hS : (s.heap.push { cls := .type "list", data := .seq #[] }).get? s.heap.objs.size = some { cls := .type "list", data := .seq #[] } := Heap.get?_push_size _ rfl
  refine ⟨⟨_, hS, rfl⟩, F.args_list_init_2 _ _, list_init_rev (s := { s with heap := s.heap.push { cls := .type "list", data := .seq #[] } }) hh (hit.at fun o e => Heap.get?_push_of_some _ e) (hl.push _) hne hn hSi hSl hS fun h' tk acc c' hk hi hS' => ?_⟩
  refine ⟨rfl, hQ h' tk acc c' (fun b o hb e => hk b o hb (fun z => ?_) (Heap.get?_push_of_some _ e)) hi hS'⟩
  exact Nat.lt_irrefl _ (z ▸ Heap.lt_size e)
end
section
variable {X : L2.Cx} {pins : List (Addr × Obj)} {σ : Sl} {H : Hp} {s : Shared}
/-- an object that stands there is tracked from here on -/
theorem inv_adopt {a : Addr} {o : HO} (I : L2.Inv X pins σ H s) (hf : FpOk X pins H a) (new : ObjOk X.prog X.w (upd H a o) s.heap a o) : L2.Inv X pins σ (upd H a o) s := by
  obtain ⟨f0, f1, f2, f3, f4, f5⟩ := hf
  have ne : ∀ b u, H b = some u → b ≠ a := fun b u e z => by rw [z, f0] at e; cases e
  refine I.step (g' := s.gens) (d' := s.drawn) (t' := s.toks) (ch := [a]) (fun b hb => ?_) (fun b _ _ _ _ e _ => e) (fun b o _ _ _ e _ => ⟨o.slots, e⟩) (fun b _ hc _ n => ?_) (fun b o _ e => ⟨o, e⟩)
    (fun b xs e => by rw [upd_ne (ne _ _ e)]; exact e) (fun b o u e => by rw [upd_ne (ne _ _ e)]; exact e) (fun b ps e => ⟨#[], by rw [upd_ne (ne _ _ e), e]; simp⟩) (fun m h => h) (fun b u e => ?_) I.bare
  · have e : b = a := by simpa using hb
    subst e
    exact ⟨f3, f1, f4, f5⟩
  · rw [upd_ne (fun z => hc (by simp [z]))]
    exact n
  · by_cases hb : b = a
    · subst hb
      rw [upd_same] at e
      cases e
      exact new
    · rw [upd_ne hb] at e
      exact (I.hok b u e).stay (fun c w _ q => q) (fun c q => by rw [upd_ne (ne _ _ q)]; exact q) fun c xs q => by rw [upd_ne (ne _ _ q)]; exact q
theorem rev_go {te : TE} {e : Expr} {p2 pos2 : Pos} {P : Value → Shared → Prop} (hg2 : Gl X "reversed") (hm2 : X.mg "reversed" = none) (he : PE X e te) (hp : Plain e) (I : L2.Inv X pins σ H s)
    (h : te σ H fun v H1 => ∃ (a : Addr) (xs : List V), v = .ref a ∧ SqL X.K H1 a xs ∧ ∀ (s2 : Shared) (it : Addr) (its : List Value), L2.Inv X pins σ H1 s2 → FpOk X pins H1 it → it < s2.heap.objs.size → Vals xs its → s2.heap.IsList a its.toArray → a ≠ it → xs.length ≤ sizeLine → s2.heap.IsRevIter it a ((its.toArray.size : Int) - 1) → P (.ref it) s2) :
    wpAny (model X.prog X.w) X.A (eval (.Call (.Name "reversed" p2) [e] [] pos2) X.env) P X.xe s := by
  refine Call_ (ld_blt I hg2 hm2 PyProof.Rows.boot_reversed (PyProof.Rows.callWith_type1 (args_cons (thn (he.run pins s σ H _ I h) fun u s1 ⟨v, H1, I1, r1, q1⟩ => args_nil ?_) (hp _ _)) (hp _ _) rfl))
  obtain ⟨a, xs, ev, hq, q⟩ := q1
  subst ev
  obtain rfl : u = Value.ref a := r1
  obtain ⟨its, rv, p', hz⟩ := I1.list hq
  refine call_reversed_list p'.isList ?_
  have k0 : ∀ b o, s1.heap.get? b = some o → (s1.heap.push (revObj a ((its.toArray.size : Int) - 1))).get? b = some o := fun b o e => Heap.get?_push_of_some _ e
  have I2 : L2.Inv X pins σ H1 { s1 with heap := s1.heap.push (revObj a ((its.toArray.size : Int) - 1)) } := I1.kept (t' := s1.toks) k0
  have hl := p'.isList
  obtain ⟨ol, hol, _⟩ := id hl
  have hne : a ≠ s1.heap.objs.size := Nat.ne_of_lt (Heap.lt_size hol)
  exact q _ _ its I2 (I1.fpOk (H' := H1) (b := s1.heap.objs.size) (Nat.le_refl _) (I1.hok.fresh (Nat.le_refl _))) (by rw [Heap.size_push]; exact Nat.lt_succ_self _) rv (hl.push _) hne hz ⟨_, Heap.get?_push_size _ rfl, rfl, rfl⟩
variable {e : Expr} {te : TE} {p p2 pos pos2 : Pos}
theorem plainC {f : Expr} {es : List Expr} {ks : List Keyword} : Plain (.Call f es ks pos) := fun _ _ => rfl
variable {T : Ct} {W : WX} {m : Env → Sto → Res Va}
theorem e_tupRev (hc : X.calm = true) (hg : Gl X "tuple") (hm : X.mg "tuple" = none) (hg2 : Gl X "reversed") (hm2 : X.mg "reversed" = none) (he : PE X e (lfE T X.K W m)) (hp : Plain e) :
    PE X (.Call (.Name "tuple" p) [.Call (.Name "reversed" p2) [e] [] pos2] [] pos) (lfE T X.K W fun ρ S => (m ρ S).bind fun x S => biOp .tupRev [x] S) := by
  refine ⟨fun pins s σ H Q I ⟨μ, ρ, S, er, sr, g⟩ => ?_⟩
  refine Call_ (ld_blt I hg hm boot_tuple (PyProof.Rows.callWith_type1 (args_cons (rev_go hg2 hm2 he hp I ((lf_step er sr g).imp fun v H1 ⟨μ1, S1, a, e1, er1, sr1, r1, g1⟩ => ?_)) (plainC _ _)) (plainC _ _) rfl))
  replace g1 : GdV T X.K (fun c d H' => W c d σ H') (match lstOf a S1 with
    | some xs => mkT xs.reverse S1
    | none => .bad) H1 μ1 Q := g1
  split at g1
  · rename_i ys hy
    obtain ⟨l, vs, rfl, hl, hr⟩ := lst_of sr1 r1 hy
    refine ⟨l, vs, rfl, .of hl, fun s2 it its I2 hf hlt rv hl hne hz hit => args_nil ?_⟩
    have hn : its.toArray.size ≤ sizeLine := by rw [List.size_toArray, ← rv.length]; exact hz
    refine RT.call_tuple_rev (s := s2) (I.ok.hd hc) hit hl hne hn fun h' tk acc hk hi => ?_
    obtain ⟨f0, f1, f2, f3, f4, f5⟩ := hf
    have I3 : L2.Inv X pins σ H1 { s2 with heap := h', toks := tk } := I2.turned (t' := tk) hk f0 f1 f3 f4 f5
    have e : acc = acc.toList.toArray := by simp
    rw [e]
    exact ep_tup (t' := tk) I3 (RT.vals_rev rv hi) (by rw [List.length_reverse]; exact hz) (GdV.mkT g1 sr1 hr.reverse).2
  · exact g1.elim
theorem boot_listT : bootBuiltins "list" = some (.type "list") := by decide +kernel
theorem e_listRev (hc : X.calm = true) (hg : Gl X "list") (hm : X.mg "list" = none) (hg2 : Gl X "reversed") (hm2 : X.mg "reversed" = none) (he : PE X e (lfE T X.K W m)) (hp : Plain e) :
    PE X (.Call (.Name "list" p) [.Call (.Name "reversed" p2) [e] [] pos2] [] pos) (lfE T X.K W fun ρ S => (m ρ S).bind fun x S => biOp .listRev [x] S) := by
  refine ⟨fun pins s σ H Q I ⟨μ, ρ, S, er, sr, g⟩ => ?_⟩
  refine Call_ (ld_blt I hg hm boot_listT (PyProof.Rows.callWith_type1 (args_cons (rev_go hg2 hm2 he hp I ((lf_step er sr g).imp fun v H1 ⟨μ1, S1, a, e1, er1, sr1, r1, g1⟩ => ?_)) (plainC _ _)) (plainC _ _) rfl))
  replace g1 : GdV T X.K (fun c d H' => W c d σ H') (match lstOf a S1 with
    | some xs => newL xs.reverse S1
    | none => .bad) H1 μ1 Q := g1
  split at g1
  · rename_i ys hy
    obtain ⟨l, vs, rfl, hl, hr⟩ := lst_of sr1 r1 hy
    refine ⟨l, vs, rfl, .of hl, fun s2 it its I2 hf hlt rv hl hne hz hit => args_nil ?_⟩
    have hn : its.toArray.size ≤ sizeLine := by rw [List.size_toArray, ← rv.length]; exact hz
    refine call_list_rev (s := s2) (I.ok.hd hc) hit hl hne hn fun h' tk acc c' hk hi hS => ?_
    have nit : ∀ b u, H1 b = some u → b ≠ it := fun b u e z => by rw [z, hf.1] at e; cases e
    have ff := I2.fpOk (H' := H1) (b := s2.heap.objs.size) (Nat.le_refl _) (I2.hok.fresh (Nat.le_refl _))
    obtain ⟨f0, f1, f2, f3, f4, f5⟩ := hf
    have I3 : L2.Inv X pins σ H1 { s2 with heap := h', toks := tk } := I2.turned (t' := tk) hk f0 f1 f3 f4 f5
    have hzr : vs.reverse.length ≤ sizeLine := by rw [List.length_reverse]; exact hz
    refine ⟨.ref s2.heap.objs.size, upd H1 s2.heap.objs.size (.lst vs.reverse), inv_adopt I3 ff (show ObjOk X.prog X.w _ _ _ (.lst vs.reverse) from ⟨hzr, acc.toList, c', RT.vals_rev rv hi, ?_⟩), rfl, (GdV.newL g1 sr1 hr.reverse).2 _ ff.1⟩
    have e : acc.toList.toArray = acc := by simp
    rw [e]
    exact hS
  · exact g1.elim
end
end EV

end
section
set_option Elab.async false
set_option linter.all false
set_option maxRecDepth 100000
set_option maxHeartbeats 4000000
/-! EV, part L: enumerate(a tuple). -/
namespace EV
open PySem PySem.Spec PyProof.Rows L2
set_option maxHeartbeats 8000000 in
theorem enum_new1 {v : Value} {o : Obj} {G : Heap → Prop} (B : Begins v o G) :
    Meets (Builtin.«enumerate.__new__» ⟨[.type "enumerate", v], []⟩) (fun _ R s => G s.heap ∧
      R (.ok (.ret (.ref (s.heap.push o).objs.size))) { s with heap := (s.heap.push o).push { cls := .type "enumerate", data := .fields #[.none, .bool false, .ref s.heap.objs.size, rawInt 0, .none, .none] } }) :=
  .of_wp fun prog w A R s h => by
    obtain ⟨hp, g, d, tk, os⟩ := s
    obtain ⟨h1, h⟩ := h
    have hsub := sub_enumerate
    have step : ∀ {A' : Around} {E : Value → Shared → Prop} {Q : Value → Shared → Prop}, Q (.ref hp.objs.size) ⟨hp.push o, g, d, tk, os⟩ → wpAny (model prog w) A' (pyIter v) Q E ⟨hp, g, d, tk, os⟩ :=
      fun q => B.iter prog w _ _ ⟨hp, g, d, tk, os⟩ _ h1 q
    wp_walk using step
    refine wpAny_stack_any fun st => wpAny_pure ?_
    split
    · rename_i c _ _ _ _ _
      cases (c == Value.type "enumerate")
      · wp_walk using step
        exact ⟨_, rfl, h⟩
      · wp_walk using step
        exact ⟨_, rfl, h⟩
    · wp_walk using step
      exact ⟨_, rfl, h⟩
section
variable {prog : Program} {w : World} {A : Around} {E : Value → Shared → Prop} {s : Shared}
theorem call_enum1 {v : Value} {o : Obj} {G : Heap → Prop} {Q : Value → Shared → Prop} (B : Begins v o G) (h1 : G s.heap)
    (h : ∀ h', IsEnum h' (s.heap.objs.size + 1) s.heap.objs.size 0 .none → h'.get? s.heap.objs.size = some o → h'.objs.size = s.heap.objs.size + 2 →
      (∀ b o, s.heap.get? b = some o → h'.get? b = some o) → Q (.ref (s.heap.objs.size + 1)) { s with heap := h' }) :
    wpAny (model prog w) A (call (.type "enumerate") [v]) Q E s := by
  refine callType_new F.called_enumerate (by decide) (F.typeCall_enumerate_1 _) (F.newCall_enumerate_1 _) (fun obj => F.args_object_init_2 obj _) F.entry_enumerate_new (enum_new1 B) ⟨h1, ?_⟩
  have hz : (s.heap.push o).objs.size = s.heap.objs.size + 1 := Heap.size_push ..
  show _ ∧ _
  rw [hz]
  have he : IsEnum ((s.heap.push o).push { cls := .type "enumerate", data := .fields #[.none, .bool false, .ref s.heap.objs.size, rawInt 0, .none, .none] }) (s.heap.objs.size + 1) s.heap.objs.size 0 .none := by
    have q := Heap.get?_push_size (s.heap.push o) (o := { cls := .type "enumerate", data := .fields #[.none, .bool false, .ref s.heap.objs.size, rawInt 0, .none, .none] }) rfl
    rw [hz] at q
    exact q
  exact ⟨⟨_, he, rfl⟩, h _ he (Heap.get?_push_of_some _ (Heap.get?_push_size _ B.free)) (by rw [Heap.size_push, hz]) fun b o x => Heap.get?_push_of_some _ (Heap.get?_push_of_some _ x)⟩
end
/-- the tuple at a, each item in a new pair -/
def IteT (K : PySem.W.Frag) (a : Addr) : It :=
  ⟨fun i H => ∃ (xs : List V) (x : V), SqT K H a xs ∧ xs[i]? = some x, fun i H v H' => ∃ T x, v = .ref T ∧ H T = none ∧ H' = upd H T (.tup [.int (i : Nat), x]) ∧ ∀ xs, SqT K H a xs → xs[i]? = some x, fun i H => ∃ xs : List V, SqT K H a xs ∧ xs.length = i⟩
theorem turn_enumT {P : Program} {w : World} {K : PySem.W.Frag} {elts : List Expr} {kk : Nat} {tpos : Pos} (a e it : Addr) (hai : a ≠ it) (hea : e ≠ a) :
    Turn P w K (.Tuple elts kk tpos) (IteT K a) [e, it] e (fun i h => (∃ old, IsEnum h e it ((i : Nat) : Int) old) ∧ h.IsTupleIter it a i ∧ e ≠ it) where
  mem := by simp
  obj := fun i h st b hb => by
    obtain ⟨⟨old, he⟩, ⟨o, ho, hc, hd⟩, _⟩ := st
    have e' : b = e ∨ b = it := by simpa using hb
    rcases e' with z | z
    · rw [z]; exact ⟨_, he, fun v q => nomatch q⟩
    · rw [z]; exact ⟨o, ho, fun v q => by rw [hd] at q; cases q⟩
  keep := fun i h h' st k => let ⟨⟨old, he⟩, hi, hne⟩ := st; ⟨⟨old, k e (by simp) _ he⟩, hi.at fun o q => k it (by simp) o q, hne⟩
  item := by
    intro X hP hw hK hc i pins s σ H E I hf st hg
    subst hP hw hK
    obtain ⟨⟨old, he⟩, hit, hne⟩ := st
    obtain ⟨xs, x, hq, hx⟩ := hg
    obtain ⟨its, rv, p, hz⟩ := I.tuple hq
    obtain ⟨u, hu, ru⟩ := rv.get hx
    have hel : e < s.heap.objs.size := Heap.lt_size he
    have hil : it < s.heap.objs.size := by obtain ⟨_, q, _⟩ := hit; exact Heap.lt_size q
    have hlt : i < its.toArray.size := by simpa using (List.getElem?_eq_some_iff.mp hu).1
    refine wpAny_pyNext_enum_itemD (Draws.tuple (A := X.A.in1) (show X.A.in1.handled = none from I.ok.hd hc) it a hai its.toArray) he ⟨hit, p⟩ hlt hne (by simp [hne, hea]) fun x' h' tk hx' ho hst' hT hsz hk => ?_
    have ex : x' = u := by
      have q : its.toArray[i]? = some u := by simpa using hu
      rw [hx'] at q
      exact Option.some.inj q
    subst ex
    obtain ⟨hit', _⟩ := hst'
    refine ⟨_, rfl, wpAny_letOwnedTupleGo_enum (s := { s with heap := h', toks := tk + 1 }) ho fun h'' he' sb => ?_⟩
    have hT2 : h''.get? s.heap.objs.size = some { cls := .type "tuple", data := .seq #[.int i tk, x'] } := (sb.2 _ (Nat.ne_of_gt hel)).trans hT
    have new : ObjOk X.prog X.w (upd H s.heap.objs.size (.tup [.int (i : Nat), x])) h'' s.heap.objs.size (.tup [.int (i : Nat), x]) :=
      ⟨by show 2 ≤ sizeLine; decide, [.int i tk, x'], .cons ⟨_, rfl⟩ (.cons ru .nil), ⟨_, hT2, rfl, _, rfl⟩⟩
    have I1 : L2.Inv X pins σ (upd H s.heap.objs.size (.tup [.int (i : Nat), x])) { s with heap := h'', toks := tk + 1 } :=
      I.turnedNew (ch := [e, it]) (fun b ob hb q => (sb.2 b (fun z => hb (by simp [z]))).trans (hk b ob (fun z => hb (by simp [z])) (fun z => hb (by simp [z])) q)) hf (Nat.le_refl _) new
    refine ⟨.ref s.heap.objs.size, _, I1, rfl, ⟨_, x, rfl, I.hok.fresh (Nat.le_refl _), rfl, fun ys hy => by rw [I.tuple_inj hy hq]; exact hx⟩, ⟨⟨x', ?_⟩, hit'.at fun o q => (sb.2 it (Ne.symm hne)).trans q, hne⟩, fun b hb => ?_⟩
    · have e1 : ((i + 1 : Nat) : Int) = (i : Int) + 1 := by omega
      rw [e1]; exact he'
    · have hb' : b < s.heap.objs.size := by
        have e' : b = e ∨ b = it := by simpa using hb
        rcases e' with z | z
        · rw [z]; exact hel
        · rw [z]; exact hil
      rw [upd_ne (Nat.ne_of_lt hb')]
      exact (hf b hb).1
  done := by
    intro X hP hw hK hc i pins s σ H E I hf st hg
    subst hP hw hK
    obtain ⟨⟨old, he⟩, hit, hne⟩ := st
    obtain ⟨xs, hq, hx⟩ := hg
    obtain ⟨its, rv, p, hz⟩ := I.tuple hq
    obtain ⟨f0, f1, f2, f3, f4, f5⟩ := hf it (by simp)
    have hl := rv.length
    have hi : its.toArray.size = i := by rw [List.size_toArray, ← hl, hx]
    refine wpAny_pyNext_enum_endD (Draws.tuple (A := X.A.in1) (show X.A.in1.handled = none from I.ok.hd hc) it a hai its.toArray) he ⟨by rw [hi]; exact hit, p⟩ fun h' eb => ⟨rfl, I.turned (t' := s.toks) (fun b o hb q => eb b o hb q) f0 f1 f3 f4 f5⟩
  self := fun A i s Q E st h => let ⟨⟨_, he⟩, _⟩ := st; wpAny_pyIter_enum he h
def iEnumT (K : PySem.W.Frag) (ta : TA) : TI := fun σ H R => ta σ H fun vs H1 => ∃ a xs, vs = [.ref a] ∧ SqT K H1 a xs ∧ R (IteT K a) H1
theorem pi_enumT {X : L2.Cx} {e : Expr} {ta : TA} {p pos tpos : Pos} {elts : List Expr} {kk : Nat} (hg : Gl X "enumerate") (hm : X.mg "enumerate" = none) (ha : PA X [e] ta) (hs : starEach [e] X.env = [(false, eval e X.env)]) :
    PI X (.Tuple elts kk tpos) (.Call (.Name "enumerate" p) [e] [] pos) (iEnumT X.K ta) := by
  refine ⟨fun pins s σ H R I h => ?_⟩
  refine Call_ (ld_blt I hg hm boot_enumerate (PyProof.Rows.callWith_type1 (thn (ha.run pos pins s σ H _ I h) fun us s1 ⟨vs, H1, I1, r1, q1⟩ => ?_) hs rfl))
  obtain ⟨a, xs, ex, hq, q⟩ := q1
  subst ex
  obtain ⟨u, rfl, r⟩ := Vals.one r1
  cases r
  obtain ⟨its, rv, p', hz⟩ := I1.tuple hq
  have hal : a < s1.heap.objs.size := by obtain ⟨o, e, _⟩ := id p'; exact Heap.lt_size e
  refine call_enum1 (begins_tuple a its.toArray) p' fun h' he hit hsz hk => wpAny_pyIter_enum he ?_
  have I2 : L2.Inv X pins σ H1 { s1 with heap := h' } := I1.kept (t' := s1.toks) hk
  refine ⟨s1.heap.objs.size + 1, [s1.heap.objs.size + 1, s1.heap.objs.size], _, _, H1, rfl, I2, turn_enumT a (s1.heap.objs.size + 1) s1.heap.objs.size (Nat.ne_of_lt hal) (Nat.ne_of_gt (Nat.lt_succ_of_lt hal)), ⟨⟨.none, he⟩, ⟨_, hit, rfl, rfl⟩, Nat.succ_ne_self _⟩, fun b hb => ?_, q⟩
  have e' : b = s1.heap.objs.size + 1 ∨ b = s1.heap.objs.size := by simpa using hb
  have hle : s1.heap.objs.size ≤ b := by
    rcases e' with z | z
    · rw [z]; exact Nat.le_add_right _ _
    · rw [z]; exact Nat.le_refl _
  exact I1.fpOk hle (I1.hok.fresh hle)
end EV

end
section
set_option Elab.async false
set_option linter.all false
set_option maxRecDepth 100000
set_option maxHeartbeats 4000000
/-! EV, part M: what is walked, targets. -/
namespace EV
open PySem PySem.Spec PyProof.Rows L2
section
variable {K : PySem.W.Frag} {H H' H0 : Hp} {μ μ' μ0 : List Addr} {S S' S0 : Sto} {ρ : Env} {σ : Sl}
/-- a value, or a pair just made of values -/
def RepY (K : PySem.W.Frag) (H : Hp) (μ : List Addr) (x : Va) (v : V) : Prop := Rep K H μ x v ∨ ∃ a vs xs, x = .tup xs ∧ v = .ref a ∧ SqT K H a vs ∧ Reps K H μ xs vs
def RIt (K : PySem.W.Frag) (one : Bool) (H0 : Hp) (μ0 : List Addr) (W : Wk) (J : It) : Prop :=
  ∀ (i : Nat) (H : Hp) (μ : List Addr) (S : Sto), Ext μ0 H0 μ H → SR K H μ S → stay W.G S = true →
    (i = W.items.length → J.stop i H) ∧ ∀ x, W.items[i]? = some x → J.go i H ∧ ∀ v H', J.yld i H v H' → Ext μ H μ H' ∧ SR K H' μ S ∧ (if one then Rep K H' μ x v else RepY K H' μ x v)
theorem stay_at {G : List (Nat × List Va)} {j : Nat} {xs : List Va} (h : stay G S = true) (m : (j, xs) ∈ G) : S[j]? = some (.lst xs) := by
  unfold stay at h
  have q := List.all_eq_true.mp h _ m
  dsimp only at q
  split at q
  · rename_i ys e
    rw [e, Va.of_beqs q]
  · cases q
theorem stay_app {G G' : List (Nat × List Va)} (h : stay (G ++ G') S = true) : stay G S = true ∧ stay G' S = true := by
  unfold stay at h ⊢
  rw [List.all_append, Bool.and_eq_true] at h
  exact h
theorem lst_there {j : Nat} {a : Addr} {xs : List Va} (e : Ext μ0 H0 μ H) (sr : SR K H μ S) (ha : μ0[j]? = some a) (h : S[j]? = some (.lst xs)) : ∃ vs, H a = some (.lst vs) ∧ Reps K H μ xs vs := by
  obtain ⟨a', h1, h2⟩ := sr.adr h
  rw [e.at_ ha] at h1
  cases h1
  exact h2
theorem Reps.none_of {xs : List Va} {vs : List V} {i : Nat} (h : Reps K H μ xs vs) (e : i = xs.length) : vs.length = i := by rw [h.length, e]
theorem yl {one : Bool} {x : Va} {v : V} (r : Rep K H μ x v) : if one then Rep K H μ x v else RepY K H μ x v := by
  cases one
  · exact .inl r
  · exact r
theorem rit_list {one : Bool} {j : Nat} {a : Addr} {xs : List Va} (ha : μ0[j]? = some a) : RIt K one H0 μ0 ⟨xs, [(j, xs)]⟩ (Itl K a) := fun i H μ S e sr st => by
  obtain ⟨vs, h1, h2⟩ := lst_there e sr ha (stay_at st (List.mem_singleton.mpr rfl))
  refine ⟨fun hi => ⟨vs, .of h1, by rw [h2.length, hi]; exact Nat.le_refl _⟩, fun x hx => ?_⟩
  obtain ⟨v, hv, rv⟩ := h2.get hx
  refine ⟨⟨vs, v, .of h1, hv⟩, fun v' H' y => ?_⟩
  obtain ⟨rfl, y⟩ := y
  have q := y vs (.of h1)
  rw [hv] at q
  cases q
  exact ⟨Ext.refl sr, sr, yl rv⟩
theorem rit_tup {one : Bool} {a : Addr} {xs : List Va} {vs : List V} (sr0 : SR K H0 μ0 S0) (ht : TupX K H0 a vs) (hr : Reps K H0 μ0 xs vs) : RIt K one H0 μ0 ⟨xs, []⟩ (Itt K a) := fun i H μ S e sr st => by
  have h1 := (ht.mono sr0 e).sq
  have h2 := Reps.mono sr0 e hr
  refine ⟨fun hi => ⟨vs, h1, by rw [h2.length, hi]; exact Nat.le_refl _⟩, fun x hx => ?_⟩
  obtain ⟨v, hv, rv⟩ := h2.get hx
  refine ⟨⟨vs, v, h1, hv⟩, fun v' H' y => ?_⟩
  obtain ⟨rfl, y⟩ := y
  have q := y vs h1
  rw [hv] at q
  cases q
  exact ⟨Ext.refl sr, sr, yl rv⟩
theorem rit_str {one : Bool} {z : Str} : RIt K one H0 μ0 ⟨z.cps.toList.map oneStr, []⟩ (Its z) := fun i H μ S e sr st => by
  refine ⟨fun hi => ?_, fun x hx => ?_⟩
  · show z.cps.size ≤ i
    rw [hi, List.length_map, Array.length_toList]
    exact Nat.le_refl _
  · rw [List.getElem?_map, Array.getElem?_toList] at hx
    cases hc : z.cps[i]? with
    | none => rw [hc] at hx; cases hx
    | some c =>
      rw [hc] at hx
      cases hx
      refine ⟨(Array.getElem?_eq_some_iff.mp hc).1, fun v' H' y => ?_⟩
      obtain ⟨rfl, c', h1, rfl⟩ := y
      rw [hc] at h1
      cases h1
      exact ⟨Ext.refl sr, sr, yl (by simp only [oneStr, Rep])⟩
theorem rit_range {one : Bool} {lo hi : Int} : RIt K one H0 μ0 (rangeW lo hi) (Itr lo (hi - lo).toNat) := fun i H μ S e sr st => by
  refine ⟨fun h => ?_, fun x hx => ?_⟩
  · show (hi - lo).toNat ≤ i
    rw [h]
    simp [rangeW]
  · have hx' : ((List.range (hi - lo).toNat).map fun i => Va.int (lo + (i : Nat)))[i]? = some x := hx
    rw [List.getElem?_map] at hx'
    cases hc : (List.range (hi - lo).toNat)[i]? with
    | none => rw [hc] at hx'; cases hx'
    | some c =>
      have hlt := (List.getElem?_eq_some_iff.mp hc).1
      rw [List.length_range] at hlt
      have ec : c = i := by
        rw [List.getElem?_range hlt] at hc
        exact (Option.some.inj hc).symm
      rw [hc] at hx'
      cases hx'
      subst ec
      refine ⟨hlt, fun v' H' y => ?_⟩
      obtain ⟨rfl, rfl⟩ := y
      exact ⟨Ext.refl sr, sr, yl (by simp only [Rep])⟩
theorem enum_len : ∀ (n : Nat) (xs : List Va), (enumFrom n xs).length = xs.length
  | _, [] => rfl
  | n, x :: r => by
    show (enumFrom (n + 1) r).length + 1 = r.length + 1
    rw [enum_len (n + 1) r]
theorem enum_get : ∀ (n : Nat) {xs : List Va} {i : Nat} {x : Va}, (enumFrom n xs)[i]? = some x → ∃ y, xs[i]? = some y ∧ x = .tup [.int ((n + i : Nat) : Int), y]
  | n, [], i, x, h => by simp [enumFrom] at h
  | n, y :: r, 0, x, h => by
    have h' : some (Va.tup [.int (n : Nat), y]) = some x := h
    cases h'
    exact ⟨y, rfl, rfl⟩
  | n, y :: r, i + 1, x, h => by
    have h' : (enumFrom (n + 1) r)[i]? = some x := h
    obtain ⟨z, h1, h2⟩ := enum_get (n + 1) h'
    refine ⟨z, h1, ?_⟩
    rw [h2, show n + 1 + i = n + (i + 1) by omega]
/-- a pair that was just made -/
theorem pairY {T : Addr} {ws : List V} {xs : List Va} (sr : SR K H μ S) (hT : H T = none) (r : Reps K H μ xs ws) : Ext μ H μ (upd H T (.tup ws)) ∧ SR K (upd H T (.tup ws)) μ S ∧ (if false then Rep K (upd H T (.tup ws)) μ (.tup xs) (.ref T) else RepY K (upd H T (.tup ws)) μ (.tup xs) (.ref T)) := by
  obtain ⟨sr', e⟩ := Ext.other (u := .tup ws) sr hT
  exact ⟨e, sr', .inr ⟨T, ws, xs, rfl, rfl, .of upd_same, Reps.mono sr e r⟩⟩
theorem rit_enumL {j : Nat} {a : Addr} {xs : List Va} (ha : μ0[j]? = some a) : RIt K false H0 μ0 (enumW ⟨xs, [(j, xs)]⟩) (Ite K a) := fun i H μ S e sr st => by
  obtain ⟨vs, h1, h2⟩ := lst_there e sr ha (stay_at st (List.mem_singleton.mpr rfl))
  refine ⟨fun hi => ⟨vs, .of h1, ?_⟩, fun x hx => ?_⟩
  · have q : i = (enumFrom 0 xs).length := hi
    rw [q, enum_len, h2.length]
    exact Nat.le_refl _
  · obtain ⟨y, h3, rfl⟩ := enum_get 0 (show (enumFrom 0 xs)[i]? = some x from hx)
    obtain ⟨v, hv, rv⟩ := h2.get h3
    refine ⟨⟨vs, v, .of h1, hv⟩, fun v' H' y => ?_⟩
    obtain ⟨T, x, rfl, hT, rfl, y⟩ := y
    have q := y vs (.of h1)
    rw [hv] at q
    cases q
    exact pairY sr hT (.cons (by simp only [Rep, Nat.zero_add]) (.cons rv .nil))
theorem rit_enumT {a : Addr} {xs : List Va} {vs : List V} (sr0 : SR K H0 μ0 S0) (ht : TupX K H0 a vs) (hr : Reps K H0 μ0 xs vs) : RIt K false H0 μ0 (enumW ⟨xs, []⟩) (IteT K a) := fun i H μ S e sr st => by
  have h1 := (ht.mono sr0 e).sq
  have h2 := Reps.mono sr0 e hr
  refine ⟨fun hi => ⟨vs, h1, ?_⟩, fun x hx => ?_⟩
  · have q : i = (enumFrom 0 xs).length := hi
    rw [q, enum_len, h2.length]
  · obtain ⟨y, h3, rfl⟩ := enum_get 0 (show (enumFrom 0 xs)[i]? = some x from hx)
    obtain ⟨v, hv, rv⟩ := h2.get h3
    refine ⟨⟨vs, v, h1, hv⟩, fun v' H' y => ?_⟩
    obtain ⟨T, x, rfl, hT, rfl, y⟩ := y
    have q := y vs h1
    rw [hv] at q
    cases q
    exact pairY sr hT (.cons (by simp only [Rep, Nat.zero_add]) (.cons rv .nil))
theorem zip_get : ∀ {xs ys : List Va} {i : Nat}, (∀ {x : Va}, (zipV xs ys)[i]? = some x → ∃ y z, xs[i]? = some y ∧ ys[i]? = some z ∧ x = .tup [y, z]) ∧ (i = (zipV xs ys).length → xs.length ≤ i ∨ ys.length ≤ i)
  | [], ys, i => ⟨fun h => by simp [zipV] at h, fun _ => .inl (Nat.zero_le _)⟩
  | x :: xs, [], i => ⟨fun h => by simp [zipV] at h, fun _ => .inr (Nat.zero_le _)⟩
  | x :: xs, y :: ys, 0 => ⟨fun h => by
      have h' : some (Va.tup [x, y]) = _ := h
      cases h'
      exact ⟨x, y, rfl, rfl, rfl⟩, fun h => by simp [zipV] at h⟩
  | x :: xs, y :: ys, i + 1 => by
    obtain ⟨h1, h2⟩ := @zip_get xs ys i
    refine ⟨fun h => ?_, fun h => ?_⟩
    · obtain ⟨a, b, q1, q2, q3⟩ := h1 (show (zipV xs ys)[i]? = some _ from h)
      exact ⟨a, b, q1, q2, q3⟩
    · have h' : i + 1 = (zipV xs ys).length + 1 := h
      rcases h2 (by omega) with q | q
      · exact .inl (by simp only [List.length_cons]; omega)
      · exact .inr (by simp only [List.length_cons]; omega)
theorem rit_zipL {j k : Nat} {a b : Addr} {xs ys : List Va} (ha : μ0[j]? = some a) (hb : μ0[k]? = some b) : RIt K false H0 μ0 (zipW ⟨xs, [(j, xs)]⟩ ⟨ys, [(k, ys)]⟩) (Itz K a b) := fun i H μ S e sr st => by
  obtain ⟨vs, h1, h2⟩ := lst_there e sr ha (stay_at (stay_app st).1 (List.mem_singleton.mpr rfl))
  obtain ⟨ws, h3, h4⟩ := lst_there e sr hb (stay_at (stay_app st).2 (List.mem_singleton.mpr rfl))
  refine ⟨fun hi => ⟨vs, ws, .of h1, .of h3, ?_⟩, fun x hx => ?_⟩
  · rw [h2.length, h4.length]
    exact zip_get.2 hi
  · obtain ⟨y, z, q1, q2, rfl⟩ := zip_get.1 (show (zipV xs ys)[i]? = some x from hx)
    obtain ⟨v, hv, rv⟩ := h2.get q1
    obtain ⟨u, hu, ru⟩ := h4.get q2
    refine ⟨⟨vs, ws, v, u, .of h1, .of h3, hv, hu⟩, fun v' H' y => ?_⟩
    obtain ⟨T, x, y, rfl, hT, rfl, y1, y2⟩ := y
    have q := y1 vs (.of h1)
    have q' := y2 ws (.of h3)
    rw [hv] at q
    rw [hu] at q'
    cases q
    cases q'
    exact pairY sr hT (.cons rv (.cons ru .nil))
theorem rit_zipT {a b : Addr} {xs ys : List Va} {vs ws : List V} (sr0 : SR K H0 μ0 S0) (ht : TupX K H0 a vs) (hr : Reps K H0 μ0 xs vs) (ht2 : TupX K H0 b ws) (hr2 : Reps K H0 μ0 ys ws) : RIt K false H0 μ0 (zipW ⟨xs, []⟩ ⟨ys, []⟩) (RZ.ItzT K a b) := fun i H μ S e sr st => by
  have h1 := (ht.mono sr0 e).sq
  have h2 := Reps.mono sr0 e hr
  have h3 := (ht2.mono sr0 e).sq
  have h4 := Reps.mono sr0 e hr2
  refine ⟨fun hi => ⟨vs, ws, h1, h3, ?_⟩, fun x hx => ?_⟩
  · rw [h2.length, h4.length]
    exact zip_get.2 hi
  · obtain ⟨y, z, q1, q2, rfl⟩ := zip_get.1 (show (zipV xs ys)[i]? = some x from hx)
    obtain ⟨v, hv, rv⟩ := h2.get q1
    obtain ⟨u, hu, ru⟩ := h4.get q2
    refine ⟨⟨vs, ws, v, u, h1, h3, hv, hu⟩, fun v' H' y => ?_⟩
    obtain ⟨T, x, y, rfl, hT, rfl, y1, y2⟩ := y
    have q := y1 vs h1
    have q' := y2 ws h3
    rw [hv] at q
    rw [hu] at q'
    cases q
    cases q'
    exact pairY sr hT (.cons rv (.cons ru .nil))
end

/-! ### the iterators' rules -/
theorem _root_.L2.PI.imp {X : L2.Cx} {tg e : Expr} {t t' : TI} (h : PI X tg e t) (q : ∀ σ H R, t' σ H R → t σ H R) : PI X tg e t' := ⟨fun pins s σ H Q I x => h.run pins s σ H Q I (q σ H Q x)⟩
section
variable {T : Ct} {X : L2.Cx} {W : WX} {pos p : Pos} {a b e tg : Expr} {m m1 m2 : Env → Sto → Res Va}
abbrev lfI (T : Ct) (K : PySem.W.Frag) (W : WX) (one : Bool) (m : Env → Sto → Res Wk) : TI := lf T K W (RIt K one) m
def iSeq (K : PySem.W.Frag) (te : TE) : TI := fun σ H R => te σ H fun x H1 => (∃ a xs, x = .ref a ∧ SqL K H1 a xs ∧ R (Itl K a) H1) ∨ (∃ a xs, x = .ref a ∧ SqT K H1 a xs ∧ R (Itt K a) H1) ∨ ∃ z, x = .str z ∧ R (Its z) H1
theorem pi_seq {te : TE} (he : PE X e te) : PI X tg e (iSeq X.K te) := by
  refine ⟨fun pins s σ H R I h => thn (he.run pins s σ H _ I h) fun v s1 ⟨x, H1, I1, r1, q1⟩ => ?_⟩
  rcases q1 with ⟨a, xs, rfl, hq, q⟩ | ⟨a, xs, rfl, hq, q⟩ | ⟨z, rfl, q⟩
  · cases r1
    obtain ⟨its, rv, p, hz⟩ := I1.list hq
    exact wpAny_pyIter_list p.isList (pi_one (tk := s1.toks) I1 _ (turn_list a _) ⟨_, Heap.get?_push_size _ rfl, rfl, rfl⟩ q)
  · cases r1
    obtain ⟨its, rv, p, hz⟩ := I1.tuple hq
    exact wpAny_pyIter_tuple (show s1.heap.IsTuple a its.toArray from p) (pi_one (tk := s1.toks) I1 _ (turn_tuple a _) ⟨_, Heap.get?_push_size _ rfl, rfl, rfl⟩ q)
  · obtain ⟨t, rfl⟩ := r1
    cases ha : z.cps.all (· < 128)
    · exact wpAny_pyIter_wide ha (pi_one (tk := s1.toks) I1 _ (turn_str _ z t "str_iterator" (.inr rfl)) ⟨_, Heap.get?_push_size _ rfl, rfl, rfl⟩ q)
    · exact wpAny_pyIter_ascii ha (pi_one (tk := s1.toks) I1 _ (turn_str _ z t "str_ascii_iterator" (.inl rfl)) ⟨_, Heap.get?_push_size _ rfl, rfl, rfl⟩ q)
theorem ofW_some {o : Option Wk} {K : PySem.W.Frag} {Wh : WH} {S : Sto} {H : Hp} {μ : List Addr} {R : Hp → List Addr → Wk → It → Prop} {Q : It → Hp → Prop} (g : Gd T K R Wh (ofW o S) H μ Q) : ∃ w, o = some w ∧ Gd T K R Wh (.ok w S) H μ Q := by
  cases o with
  | none => exact g.elim
  | some w => exact ⟨w, rfl, g⟩
theorem i_seq {one : Bool} (he : PE X e (lfE T X.K W m)) : PI X tg e (lfI T X.K W one fun ρ S => (m ρ S).bind fun x S => ofW (seqW x S) S) :=
  (pi_seq he).imp fun σ H Q ⟨μ, ρ, S, er, sr, g⟩ => (lf_step er sr g).imp fun x H1 ⟨μ1, S1, a, e1, er1, sr1, r1, g1⟩ => by
    obtain ⟨w, h, g1⟩ := ofW_some g1
    unfold seqW at h
    split at h
    · cases h
      obtain ⟨p, vs, rfl, hp, hr⟩ := r1.tupE
      exact .inr (.inl ⟨p, vs, rfl, hp.sq, Gd.stay g1 sr1 (rit_tup sr1 hp hr)⟩)
    · split at h
      · rename_i hs
        cases h
        obtain ⟨p, vs, rfl, hm, hp, hr⟩ := Rep.lst sr1 r1 hs
        exact .inl ⟨p, vs, rfl, .of hp, Gd.stay g1 sr1 (rit_list hm)⟩
      · cases h
    · cases h
      exact .inr (.inr ⟨_, r1.strE, Gd.stay g1 sr1 rit_str⟩)
    · cases h
theorem small62_is {i : Int} (h : small62 i = true) : -(2 ^ 62) ≤ i ∧ i < 2 ^ 62 := by
  unfold small62 at h
  simp only [Bool.and_eq_true, decide_eq_true_eq] at h
  exact h
theorem i_rng1 {one : Bool} (hg : Gl X "range") (hm : X.mg "range" = none) (ha : PE X a (lfE T X.K W m)) (hp : Plain a) : PI X tg (.Call (.Name "range" p) [a] [] pos) (lfI T X.K W one fun ρ S => (m ρ S).bind fun x S => match x with
    | .int i => if small62 i then .ok (rangeW 0 i) S else .bad
    | _ => .bad) :=
  (pi_range1 hg hm (pa_cons ha pa_nil (hp _ _)) (hp _ _)).imp fun σ H Q ⟨μ, ρ, S, er, sr, g⟩ => (lf_step er sr g).imp fun x H1 ⟨μ1, S1, a, e1, er1, sr1, r1, g1⟩ => by
    split at g1
    · rename_i i
      split at g1
      · rename_i hs
        obtain ⟨h1, h2⟩ := small62_is hs
        refine ⟨i, by rw [r1.intE], h1, h2, ?_⟩
        have q := Gd.stay (b := Itr 0 (i - 0).toNat) g1 sr1 rit_range
        rwa [Int.sub_zero] at q
      · exact g1.elim
    · exact g1.elim
theorem i_rng2 {one : Bool} (hg : Gl X "range") (hm : X.mg "range" = none) (ha : PE X a (lfE T X.K W m1)) (hb : PE X b (lfE T X.K W m2)) (hp : Plain a) (hp2 : Plain b) : PI X tg (.Call (.Name "range" p) [a, b] [] pos) (lfI T X.K W one fun ρ S => (m1 ρ S).bind fun x S => (m2 ρ S).bind fun y S => match x, y with
    | .int i, .int j => if small62 i && small62 j then .ok (rangeW i j) S else .bad
    | _, _ => .bad) :=
  (pi_range2 hg hm (pa_cons ha (pa_cons hb pa_nil (hp2 _ _)) (hp _ _)) (by rw [hp, hp2]; rfl) (hp2 _ _)).imp fun σ H Q ⟨μ, ρ, S, er, sr, g⟩ => (lf_step er sr g).imp fun x H1 ⟨μ1, S1, a, e1, er1, sr1, r1, g1⟩ => (lf_step er1 sr1 g1).imp fun y H2 ⟨μ2, S2, b, e2, er2, sr2, r2, g2⟩ => by
    split at g2
    · rename_i i j _
      split at g2
      · rename_i hs
        rw [Bool.and_eq_true] at hs
        obtain ⟨h1, h2⟩ := small62_is hs.1
        obtain ⟨h3, h4⟩ := small62_is hs.2
        refine ⟨i, j, by rw [r1.intE, r2.intE], ⟨h1, h2, h3, h4⟩, Gd.stay g2 sr2 rit_range⟩
      · exact g2.elim
    · exact g2.elim
def iEnumA (K : PySem.W.Frag) (ta : TA) : TI := fun σ H R => ta σ H fun vs H1 => ∃ a xs, vs = [.ref a] ∧ ((SqL K H1 a xs ∧ R (Ite K a) H1) ∨ (SqT K H1 a xs ∧ R (IteT K a) H1))
theorem pi_enumA {ta : TA} {tpos : Pos} {elts : List Expr} {kk : Nat} (hg : Gl X "enumerate") (hm : X.mg "enumerate" = none) (ha : PA X [e] ta) (hs : starEach [e] X.env = [(false, eval e X.env)]) :
    PI X (.Tuple elts kk tpos) (.Call (.Name "enumerate" p) [e] [] pos) (iEnumA X.K ta) := by
  refine ⟨fun pins s σ H R I h => ?_⟩
  refine Call_ (ld_blt I hg hm boot_enumerate (PyProof.Rows.callWith_type1 (thn (ha.run pos pins s σ H _ I h) fun us s1 ⟨vs, H1, I1, r1, q1⟩ => ?_) hs rfl))
  obtain ⟨a, xs, ex, q1⟩ := q1
  subst ex
  obtain ⟨u, rfl, r⟩ := Vals.one r1
  cases r
  have fr : ∀ b, b ∈ [s1.heap.objs.size + 1, s1.heap.objs.size] → FpOk X pins H1 b := fun b hb => by
    have e' : b = s1.heap.objs.size + 1 ∨ b = s1.heap.objs.size := by simpa using hb
    have hle : s1.heap.objs.size ≤ b := by
      rcases e' with z | z
      · rw [z]; exact Nat.le_add_right _ _
      · rw [z]; exact Nat.le_refl _
    exact I1.fpOk hle (I1.hok.fresh hle)
  rcases q1 with ⟨hq, q⟩ | ⟨hq, q⟩
  · obtain ⟨its, rv, p', hz⟩ := I1.list hq
    refine call_enumerate_list p'.isList fun h' he hit hsz hk => wpAny_pyIter_enum he ?_
    have I2 : L2.Inv X pins σ H1 { s1 with heap := h' } := I1.kept (t' := s1.toks) hk
    exact ⟨s1.heap.objs.size + 1, [s1.heap.objs.size + 1, s1.heap.objs.size], _, _, H1, rfl, I2, turn_enum a (s1.heap.objs.size + 1) s1.heap.objs.size, ⟨⟨.none, he⟩, hit, Nat.succ_ne_self _⟩, fr, q⟩
  · obtain ⟨its, rv, p', hz⟩ := I1.tuple hq
    have hal : a < s1.heap.objs.size := by obtain ⟨o, e, _⟩ := id p'; exact Heap.lt_size e
    refine call_enum1 (begins_tuple a its.toArray) p' fun h' he hit hsz hk => wpAny_pyIter_enum he ?_
    have I2 : L2.Inv X pins σ H1 { s1 with heap := h' } := I1.kept (t' := s1.toks) hk
    exact ⟨s1.heap.objs.size + 1, [s1.heap.objs.size + 1, s1.heap.objs.size], _, _, H1, rfl, I2, turn_enumT a (s1.heap.objs.size + 1) s1.heap.objs.size (Nat.ne_of_lt hal) (Nat.ne_of_gt (Nat.lt_succ_of_lt hal)), ⟨⟨.none, he⟩, ⟨_, hit, rfl, rfl⟩, Nat.succ_ne_self _⟩, fr, q⟩
theorem i_enum {tpos : Pos} {elts : List Expr} {kk : Nat} (hg : Gl X "enumerate") (hm : X.mg "enumerate" = none) (ha : PE X a (lfE T X.K W m)) (hp : Plain a) :
    PI X (.Tuple elts kk tpos) (.Call (.Name "enumerate" p) [a] [] pos) (lfI T X.K W false fun ρ S => (m ρ S).bind fun x S => ofW (enumS x S) S) :=
  (pi_enumA hg hm (pa_cons ha pa_nil (hp _ _)) (hp _ _)).imp fun σ H Q ⟨μ, ρ, S, er, sr, g⟩ => (lf_step er sr g).imp fun x H1 ⟨μ1, S1, a, e1, er1, sr1, r1, g1⟩ => by
    obtain ⟨w, h, g1⟩ := ofW_some g1
    unfold enumS at h
    split at h
    · cases h
      obtain ⟨p, vs, rfl, hp, hr⟩ := r1.tupE
      exact ⟨p, vs, rfl, .inr ⟨hp.sq, Gd.stay g1 sr1 (rit_enumT sr1 hp hr)⟩⟩
    · split at h
      · rename_i hs
        cases h
        obtain ⟨p, vs, rfl, hm, hp, hr⟩ := Rep.lst sr1 r1 hs
        exact ⟨p, vs, rfl, .inl ⟨.of hp, Gd.stay g1 sr1 (rit_enumL hm)⟩⟩
      · cases h
    · cases h
theorem i_zip {tpos : Pos} {elts : List Expr} {kk : Nat} (hg : Gl X "zip") (hm : X.mg "zip" = none) (ha : PE X a (lfE T X.K W m1)) (hb : PE X b (lfE T X.K W m2)) (hp : Plain a) (hp2 : Plain b) :
    PI X (.Tuple elts kk tpos) (.Call (.Name "zip" p) [a, b] [] pos) (lfI T X.K W false fun ρ S => (m1 ρ S).bind fun x S => (m2 ρ S).bind fun y S => ofW (zipS x y S) S) :=
  (RZ.pi_zipA hg hm (pa_cons ha (pa_cons hb pa_nil (hp2 _ _)) (hp _ _)) (hp _ _) (by rw [hp2]; rfl)).imp fun σ H Q ⟨μ, ρ, S, er, sr, g⟩ => (lf_step er sr g).imp fun x H1 ⟨μ1, S1, a, e1, er1, sr1, r1, g1⟩ => (lf_step er1 sr1 g1).imp fun y H2 ⟨μ2, S2, b, e2, er2, sr2, r2, g2⟩ => by
    obtain ⟨w, h, g2⟩ := ofW_some g2
    unfold zipS at h
    split at h
    · cases h
      obtain ⟨p, vs, rfl, hp, hr⟩ := (r1.mono sr1 e2).tupE
      obtain ⟨q, ws, rfl, hq, hr'⟩ := r2.tupE
      exact ⟨p, q, vs, ws, rfl, .inr ⟨hp.sq, hq.sq, Gd.stay g2 sr2 (rit_zipT sr2 hp hr hq hr')⟩⟩
    · split at h
      · rename_i hs hs2
        cases h
        obtain ⟨p, vs, rfl, hm, hp, hr⟩ := Rep.lst sr2 (r1.mono sr1 e2) hs
        obtain ⟨q, ws, rfl, hm2, hq, hr'⟩ := Rep.lst sr2 r2 hs2
        exact ⟨p, q, vs, ws, rfl, .inl ⟨.of hp, .of hq, Gd.stay g2 sr2 (rit_zipL hm hm2)⟩⟩
      · cases h
    · cases h
end
end EV

end
section
set_option Elab.async false
set_option linter.all false
set_option maxRecDepth 100000
set_option maxHeartbeats 4000000
/-! EV, part N: targets, comprehensions. -/
namespace EV
open PySem PySem.Spec PyProof.Rows L2
def setAllV : List Nat → List V → Sl → Sl
  | i :: is, v :: vs, σ => setAllV is vs (σ.set i (some v))
  | _, _, σ => σ
def Tg.ix : Tg → List Nat
  | .one i => [i]
  | .many is => is
def Tg.isOne : Tg → Bool
  | .one _ => true
  | .many _ => false
section
variable {K : PySem.W.Frag} {H H' : Hp} {μ : List Addr} {S : Sto} {ρ ρ' : Env} {σ : Sl}
theorem setAll_er : ∀ {is : List Nat} {xs : List Va} {vs : List V} {ρ ρ' : Env} {σ : Sl}, setAll is xs ρ = some ρ' → Reps K H μ xs vs → ER K H μ ρ σ → ER K H μ ρ' (setAllV is vs σ) ∧ vs.length = is.length
  | [], [], vs, ρ, ρ', σ, h, r, er => by
    have h' : some ρ = some ρ' := h
    cases h'
    rw [r.zero]
    exact ⟨er, rfl⟩
  | i :: is, x :: xs, vs, ρ, ρ', σ, h, r, er => by
    simp only [Reps] at r
    obtain ⟨v, vs, rfl, r1, r2⟩ := r
    obtain ⟨h1, h2⟩ := setAll_er (is := is) (show setAll is xs (ρ.set i (some x)) = some ρ' from h) r2 (er.set r1)
    exact ⟨h1, by rw [List.length_cons, List.length_cons, h2]⟩
  | [], _ :: _, _, _, _, _, h, _, _ => by simp [setAll] at h
  | _ :: _, [], _, _, _, _, h, _, _ => by simp [setAll] at h
theorem wipe_get : ∀ (ws : List Nat) (σ : Sl) (j : Nat), (L2.wipe σ ws)[j]? = if j ∈ ws ∧ j < σ.length then some none else σ[j]?
  | [], σ, j => by simp [L2.wipe]
  | w :: ws, σ, j => by
    show ((L2.wipe σ ws).set w none)[j]? = _
    have hl := L2.wipe_length σ ws
    by_cases hj : w = j
    · subst hj
      by_cases hlt : w < σ.length
      · rw [List.getElem?_set_self (by rw [hl]; exact hlt), if_pos ⟨List.mem_cons_self, hlt⟩]
      · rw [List.getElem?_eq_none (by rw [List.length_set, hl]; omega), if_neg (fun z => hlt z.2), List.getElem?_eq_none (by omega)]
    · rw [List.getElem?_set_ne hj, wipe_get ws σ j]
      have e : (j ∈ w :: ws) ↔ (j ∈ ws) := by
        rw [List.mem_cons]
        exact ⟨fun z => z.elim (fun q => absurd q.symm hj) id, .inr⟩
      simp only [e]
theorem wipe_set {i : Nat} {o : Option V} {ws : List Nat} (h : i ∈ ws) (σ : Sl) : L2.wipe (σ.set i o) ws = L2.wipe σ ws := by
  refine List.ext_getElem? fun j => ?_
  rw [wipe_get, wipe_get, List.length_set]
  by_cases hj : i = j
  · subst hj
    by_cases hlt : i < σ.length
    · rw [if_pos ⟨h, hlt⟩, if_pos ⟨h, hlt⟩]
    · rw [if_neg (fun z => hlt z.2), if_neg (fun z => hlt z.2), List.getElem?_eq_none (by rw [List.length_set]; omega), List.getElem?_eq_none (by omega)]
  · rw [List.getElem?_set_ne hj]
theorem wipe_setAll {ws : List Nat} : ∀ {is : List Nat} {vs : List V} {σ : Sl}, (∀ i ∈ is, i ∈ ws) → L2.wipe (setAllV is vs σ) ws = L2.wipe σ ws
  | [], _, _, _ => rfl
  | i :: is, [], _, _ => rfl
  | i :: is, v :: vs, σ, h => by
    show L2.wipe (setAllV is vs (σ.set i (some v))) ws = _
    rw [wipe_setAll (fun j m => h j (List.mem_cons_of_mem _ m)), wipe_set (h i List.mem_cons_self)]
theorem wipe_twice (ws : List Nat) (σ : Sl) : L2.wipe (L2.wipe σ ws) ws = L2.wipe σ ws := by
  refine List.ext_getElem? fun j => ?_
  rw [wipe_get, L2.wipe_length]
  by_cases h : j ∈ ws ∧ j < σ.length
  · rw [if_pos h, wipe_get, if_pos h]
  · rw [if_neg h]
end
/-- a target's reading -/
def gE (K : PySem.W.Frag) (tg : Tg) : TG := fun v σ H Q => ∃ μ ρ S x ρ', ER K H μ ρ σ ∧ SR K H μ S ∧ (if tg.isOne then Rep K H μ x v else RepY K H μ x v) ∧ setT tg x ρ S = some ρ' ∧
  ∀ σ', ER K H μ ρ' σ' → (∀ ws, (∀ i ∈ tg.ix, i ∈ ws) → L2.wipe σ' ws = L2.wipe σ ws) → Q σ' H
theorem _root_.L2.PG.imp {X : L2.Cx} {e : Expr} {t t' : TG} (h : PG X e t) (q : ∀ v σ H Q, t' v σ H Q → t v σ H Q) : PG X e t' := ⟨fun pins s σ H v u Q I r x => h.run pins s σ H v u Q I r (q v σ H Q x)⟩
theorem _root_.L2.PG.or {X : L2.Cx} {e : Expr} {t t' : TG} (h : PG X e t) (h' : PG X e t') : PG X e (fun v σ H Q => t v σ H Q ∨ t' v σ H Q) :=
  ⟨fun pins s σ H v u Q I r x => x.elim (h.run pins s σ H v u Q I r) (h'.run pins s σ H v u Q I r)⟩
section
variable {X : L2.Cx} {pos : Pos}
theorem g_one {i : Nat} {x : Str} (hN : X.N.Nodup) (hi : X.N[i]? = some x) (hx : Loc X.env.scope x) (hf : X.fn x = true ∨ X.env.scope.names.lookup x = some .local) : PG X (.Name x pos) (gE X.K (.one i)) :=
  (pg_name hN hi hx hf).imp fun v σ H Q ⟨μ, ρ, S, x, ρ', er, sr, r, e, q⟩ => by
    have e' : some (ρ.set i (some x)) = some ρ' := e
    cases e'
    exact q _ (er.set r) fun ws h => wipe_set (h i List.mem_cons_self) σ
/-- names, one after another -/
def gNames (is : List Nat) : TGs := fun vs σ H Q => vs.length = is.length ∧ Q (setAllV is vs σ) H
inductive NamesOk (X : L2.Cx) : List Expr → List Nat → Prop where
  | nil : NamesOk X [] []
  | cons {x : Str} {p : Pos} {i : Nat} {es : List Expr} {is : List Nat} (hi : X.N[i]? = some x) (hx : Loc X.env.scope x) (hf : X.fn x = true ∨ X.env.scope.names.lookup x = some .local) (t : NamesOk X es is) : NamesOk X (.Name x p :: es) (i :: is)
theorem pgs_names (hN : X.N.Nodup) : ∀ {es : List Expr} {is : List Nat}, NamesOk X es is → PGs X es (gNames is)
  | _, _, .nil => ⟨fun pins s σ H vs us Q I r h => pgs_nil.run pins s σ H vs us Q I r ⟨List.length_eq_zero_iff.mp h.1, by
      have e : vs = [] := List.length_eq_zero_iff.mp h.1
      have q := h.2
      rw [e] at q
      exact q⟩⟩
  | _, _, .cons hi hx hf t => ⟨fun pins s σ H vs us Q I r h => by
      refine (pgs_cons (pg_name hN hi hx hf) (pgs_names hN t) rfl).run pins s σ H vs us Q I r ?_
      obtain ⟨h1, h2⟩ := h
      cases vs with
      | nil => simp at h1
      | cons v vs => exact ⟨v, vs, rfl, by simpa using h1, h2⟩⟩
theorem names_len : ∀ {es : List Expr} {is : List Nat}, NamesOk X es is → (assignEach es X.env).length = is.length ∧ (assignEach es X.env).findIdx? (·.1) = none
  | _, _, .nil => ⟨rfl, rfl⟩
  | _, _, .cons _ _ _ t => by
    obtain ⟨h1, h2⟩ := names_len t
    refine ⟨?_, ?_⟩
    · show (assignEach _ X.env).length + 1 = _ + 1
      rw [h1]
    · show List.findIdx? (·.1) ((false, _) :: assignEach _ X.env) = none
      rw [List.findIdx?_cons]
      simp [h2]
theorem g_many {es : List Expr} {is : List Nat} {k : Nat} (hc : X.calm = true) (hN : X.N.Nodup) (h : NamesOk X es is) : PG X (.Tuple es k pos) (gE X.K (.many is)) := by
  obtain ⟨h1, h2⟩ := names_len h
  refine ((pg_tup hc (pgs_names hN h) h1 h2).or (pg_unl hc (pgs_names hN h) h1 h2)).imp fun v σ H Q ⟨μ, ρ, S, x, ρ', er, sr, r, e, q⟩ => ?_
  have fin : ∀ {xs : List Va} {vs : List V}, Reps X.K H μ xs vs → setAll is xs ρ = some ρ' → vs.length = is.length ∧ gNames is vs σ H Q := fun {xs vs} rr e => by
    obtain ⟨h1, h2⟩ := setAll_er e rr er
    exact ⟨h2, h2, q _ h1 fun ws h => wipe_setAll h⟩
  unfold setT at e
  dsimp only at e
  split at e
  · have r' : RepY X.K H μ _ v := r
    rcases r' with r' | ⟨a, vs, xs, ex, rfl, hq, rr⟩
    · obtain ⟨a, vs, rfl, hq, rr⟩ := r'.tupE
      obtain ⟨f1, f2⟩ := fin rr e
      exact .inl ⟨a, vs, rfl, hq.sq, f1, f2⟩
    · cases ex
      obtain ⟨f1, f2⟩ := fin rr e
      exact .inl ⟨a, vs, rfl, hq, f1, f2⟩
  · split at e
    · rename_i hs
      have r' : RepY X.K H μ _ v := r
      rcases r' with r' | ⟨a, vs, xs, ex, _⟩
      · obtain ⟨a, vs, rfl, _, hq, rr⟩ := Rep.lst sr r' hs
        obtain ⟨f1, f2⟩ := fin rr e
        exact .inr ⟨a, vs, rfl, .of hq, f1, f2⟩
      · cases ex
    · cases e
  · cases e
end

/-! ### comprehensions -/
section
variable {T : Ct} {K : PySem.W.Frag} {H H' H1 : Hp} {μ μ' μ1 : List Addr} {S S' : Sto} {ρ ρ' : Env} {σ : Sl} {Wh : WH}
mutual
theorem Rep.app {e : List Addr} : ∀ {x : Va} {v : V}, Rep K H μ x v → Rep K H (μ ++ e) x v
  | .non, _, h => by simpa only [Rep] using h
  | .bl _, _, h => by simpa only [Rep] using h
  | .int _, _, h => by simpa only [Rep] using h
  | .str _, _, h => by simpa only [Rep] using h
  | .tup xs, v, h => by
    simp only [Rep] at h ⊢
    obtain ⟨a, vs, h1, h2, h3⟩ := h
    exact ⟨a, vs, h1, h2, Reps.app h3⟩
  | .lis xs, v, h => by
    simp only [Rep] at h ⊢
    obtain ⟨a, vs, h1, h2, h3⟩ := h
    exact ⟨a, vs, h1, h2, Reps.app h3⟩
  | .ref i, v, h => by
    simp only [Rep] at h ⊢
    obtain ⟨a, h1, h2⟩ := h
    exact ⟨a, h1, by rw [List.getElem?_append_left (List.getElem?_eq_some_iff.mp h2).1]; exact h2⟩
  | .exc, _, _ => by simp only [Rep]
theorem Reps.app {e : List Addr} : ∀ {xs : List Va} {vs : List V}, Reps K H μ xs vs → Reps K H (μ ++ e) xs vs
  | [], _, h => by simpa only [Reps] using h
  | x :: xs, vs, h => by
    simp only [Reps] at h ⊢
    obtain ⟨v, r, h1, h2, h3⟩ := h
    exact ⟨v, r, h1, Rep.app h2, Reps.app h3⟩
end
theorem EnK.app {e : List Addr} : ∀ {kvs : List (Va × Va)} {ks : List (Key × V)}, EnK K H μ kvs ks → EnK K H (μ ++ e) kvs ks
  | [], _, h => h
  | _ :: _, _, ⟨k, v, t, h1, h2, h3, h4⟩ => ⟨k, v, t, h1, h2, h3.app, EnK.app h4⟩
theorem EnT.app {e : List Addr} : ∀ {kvs : List (Va × Va)} {ks : List DictEntry}, EnT K H μ kvs ks → EnT K H (μ ++ e) kvs ks
  | [], _, h => h
  | _ :: _, _, ⟨d, t, k, v, h1, h2, h3, h4, h5, h6⟩ => ⟨d, t, k, v, h1, h2, h3.app, h4, h5.app, EnT.app h6⟩
theorem ObR.app {e : List Addr} {a : Addr} : ∀ {o : Ob}, ObR K H μ a o → ObR K H (μ ++ e) a o
  | .lst xs, ⟨vs, h1, h2⟩ => ⟨vs, h1, h2.app⟩
  | .dic kvs, h => by
    rcases h with ⟨ks, h1, h2⟩ | ⟨ks, h1, h2⟩
    · exact .inl ⟨ks, h1, h2.app⟩
    · exact .inr ⟨ks, h1, h2.app⟩
/-- a list that stands there becomes a place of the store -/
theorem SR.adopt {D : Addr} {xs : List Va} {vs : List V} (sr : SR K H μ S) (hD : H D = some (.lst vs)) (hn : D ∉ μ) (r : Reps K H μ xs vs) : SR K H (μ ++ [D]) (S ++ [.lst xs]) := by
  refine ⟨by rw [List.length_append, List.length_append, sr.len]; rfl, ?_, fun j ob b h1 h2 => ?_⟩
  · refine List.nodup_append.mpr ⟨sr.nd, by simp, fun a ma b mb => ?_⟩
    rw [List.mem_singleton.mp mb]
    exact fun z => hn (by rw [← z]; exact ma)
  · by_cases hj : j < S.length
    · rw [List.getElem?_append_left hj] at h1
      rw [List.getElem?_append_left (by rw [sr.len]; exact hj)] at h2
      exact (sr.ob j ob b h1 h2).app
    · have hl := (List.getElem?_eq_some_iff.mp h1).1
      rw [List.length_append, List.length_singleton] at hl
      have ej : j = S.length := by omega
      subst ej
      rw [List.getElem?_append_right (Nat.le_refl _), Nat.sub_self] at h1
      rw [List.getElem?_append_right (by rw [sr.len]; exact Nat.le_refl _), sr.len, Nat.sub_self] at h2
      cases h1
      cases h2
      exact ⟨vs, hD, r.app⟩
/-- an untracked list is written -/
theorem Ext.side {D : Addr} {o : HO} (e : Ext μ1 H1 μ H) (sr : SR K H μ S) (h1 : H1 D = none) (hn : D ∉ μ) : Ext μ1 H1 μ (upd H D o) := by
  obtain ⟨p, k, l⟩ := e
  refine ⟨p, fun b u q n => ?_, fun b m => ?_⟩
  · rw [upd_ne (ne_of_none q h1)]
    exact k b u q n
  · rw [upd_ne (fun z => hn (by rw [← z]; exact m))]
    exact l b m
/-- what is not looked at changes -/
def NF (H : Hp) (D : Addr) : Prop := ∀ o u, H D ≠ some (.frz o u)
theorem nf_lst {D : Addr} {ws : List V} (h : H D = some (.lst ws)) : NF H D := fun o u e => by rw [h] at e; cases e
theorem nf_dK {D : Addr} {ws : List (Key × V)} (h : H D = some (.dK ws)) : NF H D := fun o u e => by rw [h] at e; cases e
theorem TupX.side {a D : Addr} {vs : List V} {o : HO} (hD : NF H D) (h : TupX K H a vs) : TupX K (upd H D o) a vs := by
  rcases h with ⟨ob, h, d⟩ | h
  · refine .inl ⟨ob, ?_, d⟩
    rw [upd_ne (fun z => hD _ _ (by rw [← z]; exact h))]
    exact h
  · exact .inr h
theorem LisX.side {a D : Addr} {vs : List V} {o : HO} (hD : NF H D) (h : LisX K H a vs) : LisX K (upd H D o) a vs := by
  rcases h with ⟨ob, h⟩ | h
  · refine .inl ⟨ob, ?_⟩
    rw [upd_ne (fun z => hD _ _ (by rw [← z]; exact h))]
    exact h
  · exact .inr h
mutual
theorem Rep.side {D : Addr} {o : HO} (hD : NF H D) : ∀ {x : Va} {v : V}, Rep K H μ x v → Rep K (upd H D o) μ x v
  | .non, _, h => by simpa only [Rep] using h
  | .bl _, _, h => by simpa only [Rep] using h
  | .int _, _, h => by simpa only [Rep] using h
  | .str _, _, h => by simpa only [Rep] using h
  | .tup xs, v, h => by
    simp only [Rep] at h ⊢
    obtain ⟨a, vs, h1, h2, h3⟩ := h
    exact ⟨a, vs, h1, h2.side hD, Reps.side hD h3⟩
  | .lis xs, v, h => by
    simp only [Rep] at h ⊢
    obtain ⟨a, vs, h1, h2, h3⟩ := h
    exact ⟨a, vs, h1, h2.side hD, Reps.side hD h3⟩
  | .ref i, v, h => by
    simp only [Rep] at h ⊢
    exact h
  | .exc, _, _ => by simp only [Rep]
theorem Reps.side {D : Addr} {o : HO} (hD : NF H D) : ∀ {xs : List Va} {vs : List V}, Reps K H μ xs vs → Reps K (upd H D o) μ xs vs
  | [], _, h => by simpa only [Reps] using h
  | x :: xs, vs, h => by
    simp only [Reps] at h ⊢
    obtain ⟨v, r, h1, h2, h3⟩ := h
    exact ⟨v, r, h1, Rep.side hD h2, Reps.side hD h3⟩
end
theorem EnK.side {D : Addr} {o : HO} (hD : NF H D) : ∀ {kvs : List (Va × Va)} {ks : List (Key × V)}, EnK K H μ kvs ks → EnK K (upd H D o) μ kvs ks
  | [], _, h => h
  | _ :: _, _, ⟨k, v, t, h1, h2, h3, h4⟩ => ⟨k, v, t, h1, h2, h3.side hD, EnK.side hD h4⟩
theorem EnT.side {D : Addr} {o : HO} (hD : NF H D) : ∀ {kvs : List (Va × Va)} {ks : List DictEntry}, EnT K H μ kvs ks → EnT K (upd H D o) μ kvs ks
  | [], _, h => h
  | _ :: _, _, ⟨d, t, k, v, h1, h2, h3, h4, h5, h6⟩ => ⟨d, t, k, v, h1, h2, h3.side hD, h4, h5.side hD, EnT.side hD h6⟩
theorem SR.side {D : Addr} {o : HO} (hD : NF H D) (hn : D ∉ μ) (sr : SR K H μ S) : SR K (upd H D o) μ S := by
  refine ⟨sr.len, sr.nd, fun i ob a h1 h2 => ?_⟩
  have ne : a ≠ D := fun z => hn (by rw [← z]; exact List.mem_of_getElem? h2)
  have q := sr.ob i ob a h1 h2
  cases ob with
  | lst xs =>
    obtain ⟨vs, q1, q2⟩ := q
    exact ⟨vs, by rw [upd_ne ne]; exact q1, q2.side hD⟩
  | dic kvs =>
    rcases q with ⟨ks, q1, q2⟩ | ⟨ks, q1, q2⟩
    · exact .inl ⟨ks, by rw [upd_ne ne]; exact q1, q2.side hD⟩
    · exact .inr ⟨ks, by rw [upd_ne ne]; exact q1, q2.side hD⟩
theorem ER.side {D : Addr} {o : HO} (hD : NF H D) (er : ER K H μ ρ σ) : ER K (upd H D o) μ ρ σ :=
  ⟨er.1, fun i v h => let ⟨w, h1, h2⟩ := er.2 i v h; ⟨w, h1, h2.side hD⟩⟩
/-- the reckoning of one turn -/
abbrev mTurn (tg : Tg) (own : List Nat) (mc : Env → Sto → Res (Option Va)) (me : Env → Sto → Res Va) (ρ : Env) : Va → Sto → Res (Option Va) := fun x S => match setT tg x (wipeE ρ own) S with
        | none => .bad
        | some ρ' => match mc ρ' S with
          | .ok none S1 => (me ρ' S1).bind fun y S => .ok (some y) S
          | .ok (some (.bl true)) S1 => (me ρ' S1).bind fun y S => .ok (some y) S
          | .ok (some (.bl false)) S1 => .ok none S1
          | _ => .bad
theorem setT_ok {tg : Tg} {x : Va} {mc : Env → Sto → Res (Option Va)} {me : Env → Sto → Res Va} {own : List Nat} {y : Option Va} {S1 : Sto} (h : mTurn tg own mc me ρ x S = .ok y S1) :
    ∃ ρ', setT tg x (wipeE ρ own) S = some ρ' ∧
      ((∃ z S2, y = some z ∧ (mc ρ' S = .ok none S2 ∨ mc ρ' S = .ok (some (.bl true)) S2) ∧ me ρ' S2 = .ok z S1) ∨ (y = none ∧ mc ρ' S = .ok (some (.bl false)) S1)) := by
  unfold mTurn at h
  split at h
  · cases h
  · rename_i ρ' e
    refine ⟨ρ', e, ?_⟩
    have go : ∀ {S2}, (me ρ' S2).bind (fun y S => Res.ok (some y) S) = .ok y S1 → ∃ z, y = some z ∧ me ρ' S2 = .ok z S1 := fun {S2} h => by
      cases q : me ρ' S2 with
      | ok z S3 =>
        rw [q] at h
        cases h
        exact ⟨z, rfl, rfl⟩
      | exn _ _ _ => rw [q] at h; cases h
      | bad => rw [q] at h; cases h
    split at h
    · rename_i S2 q
      obtain ⟨z, h1, h2⟩ := go h
      exact .inl ⟨z, S2, h1, .inl q, h2⟩
    · rename_i S2 q
      obtain ⟨z, h1, h2⟩ := go h
      exact .inl ⟨z, S2, h1, .inr q, h2⟩
    · rename_i S2 q
      cases h
      exact .inr ⟨rfl, q⟩
    · cases h
theorem compL_ok {turn : Va → Sto → Res (Option Va)} {G : List (Nat × List Va)} : ∀ {xs : List Va} {S : Sto}, (∃ ys S', compL turn G xs S = .ok ys S') ∨ compL turn G xs S = .bad
  | [], S => by
    unfold compL
    split
    · exact .inl ⟨_, _, rfl⟩
    · exact .inr rfl
  | x :: r, S => by
    unfold compL
    split
    · cases turn x S with
      | ok y S1 =>
        dsimp only
        rcases @compL_ok turn G r S1 with ⟨ys, S', e⟩ | e
        · rw [e]; exact .inl ⟨_, _, rfl⟩
        · rw [e]; exact .inr rfl
      | exn _ _ _ => exact .inr rfl
      | bad => exact .inr rfl
    · exact .inr rfl
theorem compL_cons {turn : Va → Sto → Res (Option Va)} {G : List (Nat × List Va)} {x : Va} {r ys : List Va} {Sf : Sto} (h : compL turn G (x :: r) S = .ok ys Sf) :
    stay G S = true ∧ ∃ y S1 zs, turn x S = .ok y S1 ∧ compL turn G r S1 = .ok zs Sf ∧ ys = (match y with | some v => v :: zs | none => zs) := by
  unfold compL at h
  split at h
  · rename_i st
    refine ⟨st, ?_⟩
    split at h
    · rename_i y S1 e
      split at h
      · rename_i zs S2 e2
        cases h
        exact ⟨y, S1, zs, e, e2, rfl⟩
      · cases h
      · cases h
    · cases h
    · cases h
  · cases h
theorem compL_nil {turn : Va → Sto → Res (Option Va)} {G : List (Nat × List Va)} {ys : List Va} {Sf : Sto} (h : compL turn G [] S = .ok ys Sf) : stay G S = true ∧ ys = [] ∧ Sf = S := by
  unfold compL at h
  split at h
  · rename_i st
    cases h
    exact ⟨st, rfl, rfl⟩
  · cases h
end
/-- a clause's tests: none, or one -/
def ttO : Option TE → TT
  | none => tYes
  | some t => tB t
abbrev noX : WX := fun _ _ _ _ => False
section
variable {T : Ct} {X : L2.Cx} {W : WX} {tg : Tg} {own : List Nat} {mi : Env → Sto → Res Wk} {mc : Env → Sto → Res (Option Va)} {me mt : Env → Sto → Res Va}
abbrev mComp (tg : Tg) (own : List Nat) (mi : Env → Sto → Res Wk) (mc : Env → Sto → Res (Option Va)) (me : Env → Sto → Res Va) : Env → Sto → Res Va := fun ρ S => (mi ρ S).bind fun W S => (compL (mTurn tg own mc me ρ) W.G W.items S).bind fun ys S => newL ys S
theorem comp_lf {K : PySem.W.Frag} {σ : Sl} {H : Hp} {Q : VK} {tc : Option TE} (hown : ∀ i ∈ tg.ix, i ∈ own) (hc : (tc = none ∧ ∀ ρ S, mc ρ S = .ok none S) ∨ (tc = some (lfE T K noX mt) ∧ ∀ ρ S, mc ρ S = (mt ρ S).bind fun x S => .ok (some x) S))
    (h : lfE T K W (mComp tg own mi mc me) σ H Q) : tLc (lfI T K W tg.isOne mi) (gE K tg) (ttO tc) (lfE T K noX me) own σ H Q := by
  obtain ⟨μ, ρ, S, er, sr, g⟩ := h
  refine (lf_step er sr g).imp fun J H1 ⟨μ1, S1, Wk, e1, er1, sr1, r1, g1⟩ D hD => ?_
  have hn1 : D ∉ μ1 := fun m => sr1.live D m hD
  rcases compL_ok (turn := mTurn tg own mc me ρ) (G := Wk.G) (xs := Wk.items) (S := S1) with ⟨zs, Sf, ez⟩ | ez
  case inr => rw [ez] at g1; exact g1.elim
  rw [ez] at g1
  replace g1 : GdV T K (fun c d H' => W c d σ H') (newL zs Sf) H1 μ1 Q := g1
  have hz : zs.length ≤ sizeLine := by
    unfold newL at g1
    split at g1
    · assumption
    · exact g1.elim
  have gz : GdV T K (fun c d H' => W c d σ H') (.ok (.ref Sf.length) (Sf ++ [.lst zs])) H1 μ1 Q := by
    unfold newL at g1
    rw [if_pos hz] at g1
    exact g1
  obtain ⟨sr0, e0⟩ := Ext.other (u := .lst []) sr1 hD
  refine ⟨fun i m H => m = Wk.items.length - i ∧ i ≤ Wk.items.length ∧ ∃ μ S done rest acc, Ext μ1 H1 μ H ∧ SR K H μ S ∧ ER K H μ ρ σ ∧ D ∉ μ ∧ H D = some (.lst acc) ∧ Reps K H μ done acc ∧
      compL (mTurn tg own mc me ρ) Wk.G (Wk.items.drop i) S = .ok rest Sf ∧ zs = done ++ rest, ⟨Wk.items.length, rfl, Nat.zero_le _, μ1, S1, [], zs, [], e0, sr0, er1.mono sr1 e0, hn1, upd_same, .nil, ez, rfl⟩, ?_⟩
  rintro i m H ⟨rfl, hi, μ, S, dn, rest, acc, e, sr, er, hDn, hDa, hacc, ec, ed⟩
  by_cases hlt : i < Wk.items.length
  · rw [List.drop_eq_getElem_cons hlt] at ec
    obtain ⟨st, y, S2, ws, et, ec2, ew⟩ := compL_cons ec
    obtain ⟨hgo, hy⟩ := (r1 i H μ S e sr st).2 _ (List.getElem?_eq_getElem hlt)
    refine .inr ⟨hgo, fun H' => ∃ m', m' = Wk.items.length - (i + 1) ∧ (i + 1) ≤ Wk.items.length ∧ ∃ μ S done rest acc, Ext μ1 H1 μ H' ∧ SR K H' μ S ∧ ER K H' μ ρ σ ∧ D ∉ μ ∧ H' D = some (.lst acc) ∧ Reps K H' μ done acc ∧
      compL (mTurn tg own mc me ρ) Wk.G (Wk.items.drop (i + 1)) S = .ok rest Sf ∧ zs = done ++ rest, fun H' ⟨m', q⟩ => ⟨m', by omega, q⟩, fun x H' yl => ?_⟩
    obtain ⟨e2, sr2, rx⟩ := hy x H' yl
    have er2 := er.mono sr e2
    obtain ⟨ρ', es, hcase⟩ := setT_ok et
    refine ⟨μ, wipeE ρ own, S, _, ρ', er2.wipe own, sr2, rx, es, fun σ2 er3 hw => ⟨by rw [hw own hown, wipe_twice], ?_⟩⟩
    have ee := e.trans e2
    have hDa2 : H' D = some (.lst acc) := e2.keep D _ hDa hDn
    have hacc2 := Reps.mono sr e2 hacc
    -- what the rest of a turn is
    have keepD : ∀ {μ3 H3}, Ext μ H' μ3 H3 → H3 D = some (.lst acc) ∧ D ∉ μ3 := fun {μ3 H3} e3 => by
      refine ⟨e3.keep D _ hDa2 hDn, fun mm => ?_⟩
      obtain ⟨⟨t, rfl, nt⟩, _, _⟩ := e3
      rcases List.mem_append.mp mm with q | q
      · exact hDn q
      · rw [nt D q] at hDa2; cases hDa2
    have skip : ∀ {μ3 H3}, Ext μ H' μ3 H3 → SR K H3 μ3 S2 → y = none → ∃ m', m' = Wk.items.length - (i + 1) ∧ (i + 1) ≤ Wk.items.length ∧ ∃ μ S done rest acc, Ext μ1 H1 μ H3 ∧ SR K H3 μ S ∧ ER K H3 μ ρ σ ∧ D ∉ μ ∧ H3 D = some (.lst acc) ∧ Reps K H3 μ done acc ∧
      compL (mTurn tg own mc me ρ) Wk.G (Wk.items.drop (i + 1)) S = .ok rest Sf ∧ zs = done ++ rest := fun {μ3 H3} e3 sr3 ey => by
      subst ey
      obtain ⟨k1, k2⟩ := keepD e3
      exact ⟨_, rfl, hlt, μ3, S2, dn, ws, acc, ee.trans e3, sr3, er2.mono sr2 e3, k2, k1, Reps.mono sr2 e3 hacc2, ec2, by rw [ed, ew]⟩
    have take : ∀ {μ3 H3 σ3 S3 z}, Ext μ H' μ3 H3 → SR K H3 μ3 S3 → ER K H3 μ3 ρ' σ3 → y = some z → me ρ' S3 = .ok z S2 → lfE T K noX me σ3 H3 fun v H4 => ∃ acc, H4 D = some (.lst acc) ∧ acc.length < sizeLine ∧ ∃ m', m' = Wk.items.length - (i + 1) ∧ (i + 1) ≤ Wk.items.length ∧ ∃ μ S done rest acc', Ext μ1 H1 μ (upd H4 D (.lst (acc ++ [v]))) ∧ SR K (upd H4 D (.lst (acc ++ [v]))) μ S ∧ ER K (upd H4 D (.lst (acc ++ [v]))) μ ρ σ ∧ D ∉ μ ∧ (upd H4 D (.lst (acc ++ [v]))) D = some (.lst acc') ∧ Reps K (upd H4 D (.lst (acc ++ [v]))) μ done acc' ∧
      compL (mTurn tg own mc me ρ) Wk.G (Wk.items.drop (i + 1)) S = .ok rest Sf ∧ zs = done ++ rest := fun {μ3 H3 σ3 S3 z} e3 sr3 er3 ey em => by
      subst ey
      refine ⟨μ3, ρ', S3, er3, sr3, ?_⟩
      rw [em]
      refine fun v H4 μ4 e4 sr4 rv => ?_
      have e5 := e3.trans e4
      obtain ⟨k1, k2⟩ := keepD e5
      have hl : acc.length < sizeLine := by
        have := hacc.length
        rw [ed, ew, List.length_append, List.length_cons] at hz
        omega
      have eE := (ee.trans e5).side (o := .lst (acc ++ [v])) sr4 hD k2
      exact ⟨acc, k1, hl, _, rfl, hlt, μ4, S2, dn ++ [z], ws, acc ++ [v], eE, sr4.side (nf_lst k1) k2, (er2.mono sr2 e5).side (nf_lst k1), k2, upd_same,
        ((Reps.mono sr2 e5 hacc2).append (.cons rv .nil)).side (nf_lst k1), ec2, by rw [ed, ew]; simp⟩
    rcases hc with ⟨rfl, hm⟩ | ⟨rfl, hm⟩
    · unfold ttO tYes
      dsimp only
      rw [if_pos rfl]
      rw [hm] at hcase
      rcases hcase with ⟨z, S3, ey, hq, em⟩ | ⟨_, hq⟩
      · rcases hq with hq | hq
        · cases hq
          exact take (Ext.refl sr2) sr2 er3 ey em
        · cases hq
      · cases hq
    · rw [hm] at hcase
      cases q : mt ρ' S with
      | bad =>
        rw [q] at hcase
        rcases hcase with ⟨_, _, _, hq | hq, _⟩ | ⟨_, hq⟩ <;> cases hq
      | exn _ _ _ =>
        rw [q] at hcase
        rcases hcase with ⟨_, _, _, hq | hq, _⟩ | ⟨_, hq⟩ <;> cases hq
      | ok b S3 =>
        rw [q] at hcase
        refine ⟨μ, ρ', S, er3, sr2, ?_⟩
        rw [q]
        refine fun v H3 μ3 e3 sr3 rv => ?_
        rcases hcase with ⟨z, S4, ey, hq, em⟩ | ⟨ey, hq⟩
        · rcases hq with hq | hq
          · cases hq
          · cases hq
            refine ⟨true, rv.blE, ?_⟩
            show ite (true = true) _ _
            rw [if_pos rfl]
            exact take e3 sr3 (er3.mono sr2 e3) ey em
        · cases hq
          refine ⟨false, rv.blE, ?_⟩
          show ite (false = true) _ _
          rw [if_neg Bool.false_ne_true]
          exact skip e3 sr3 ey
  · have hi' : i = Wk.items.length := by omega
    rw [hi', List.drop_length] at ec
    obtain ⟨st, er', es⟩ := compL_nil ec
    subst er' es
    rw [List.append_nil] at ed
    subst ed
    refine .inl ⟨(r1 i H μ _ e sr st).1 hi', gz _ H (μ ++ [D]) ?_ (SR.adopt sr hDa hDn hacc) ?_⟩
    · obtain ⟨⟨t, rfl, nt⟩, k, l⟩ := e
      refine ⟨⟨t ++ [D], by rw [List.append_assoc], fun b hb => ?_⟩, k, fun b hb => ?_⟩
      · rcases List.mem_append.mp hb with q | q
        · exact nt b q
        · rw [List.mem_singleton.mp q]; exact hD
      · rcases List.mem_append.mp hb with q | q
        · exact l b q
        · rw [List.mem_singleton.mp q, hDa]; nofun
    · simp only [Rep]
      refine ⟨D, rfl, ?_⟩
      rw [List.getElem?_append_right (by rw [sr.len]; exact Nat.le_refl _), sr.len, Nat.sub_self]
      rfl
end
end EV

end
section
set_option Elab.async false
set_option linter.all false
set_option maxRecDepth 100000
set_option maxHeartbeats 4000000
/-! EV, part W: displays of dicts, with no entry, with one. -/
namespace EV
open PySem PySem.Spec PyProof.Rows L2
section
variable {T : Ct} {g : Cfg} {X : L2.Cx} {W : WX} {pos : Pos} {k v : Expr} {mk mv : Env → Sto → Res Va}
theorem e_dic0 : PE X (.Dict [] [] pos) (lfE T X.K W fun ρ S => dicOp [] [] S) :=
  pe_dnewK.imp fun σ H Q ⟨μ, ρ, S, er, sr, g⟩ p hp => GdV.new (o := .dic []) g sr (fun p hp e => .inl ⟨[], upd_same, rfl⟩) p hp
theorem keyV_is {K : PySem.W.Frag} {H : Hp} {μ : List Addr} {a : Va} {x : V} {y : Key} (r : Rep K H μ a x) (h : keyV a = some y) : x = kV y ∧ a = kVa y := by
  unfold keyV at h
  split at h
  · cases h; exact ⟨r.intE, rfl⟩
  · cases h; exact ⟨r.strE, rfl⟩
  · cases h
theorem keyVs_are {K : PySem.W.Frag} {H : Hp} {μ : List Addr} : ∀ {xs : List Va} {vs : List V} {ys : List Key}, Reps K H μ xs vs → keyVs xs = some ys → vs = ys.map kV
  | [], _, _, r, h => by
    unfold keyVs at h
    cases h
    rw [r.zero]; rfl
  | a :: xs, _, _, r, h => by
    simp only [Reps] at r
    obtain ⟨v, t, rfl, r1, r2⟩ := r
    unfold keyVs at h
    split at h
    · cases h
    · rename_i y hy
      split at h
      · cases h
      · rename_i ks hk
        cases h
        rw [(keyV_is r1 hy).1, keyVs_are r2 hk]; rfl
theorem storeOne {M : Model} {A : Around} {E : Value → Shared → Prop} {s : Shared} {d : Addr} {key v : Value} {R : PUnit → Shared → Prop} (h : wpAny M A (dictSet d key v) (fun _ s' => R PUnit.unit s') E s) : wpAny M A (storeAll d [(key, v)]) R E s := by
  unfold storeAll
  rw [List.forIn_cons]
  refine wpAny_bind (wpAny_bind (thn h fun _ s' q => wpAny_pure ?_))
  show wpAny M A (forIn ([] : List (Value × Value)) PUnit.unit _) R E s'
  rw [List.forIn_nil]
  exact wpAny_pure q
theorem SR.adoptO {K : PySem.W.Frag} {H : Hp} {μ : List Addr} {S : Sto} {D : Addr} {o : Ob} (sr : SR K H μ S) (hn : D ∉ μ) (ob : ObR K H (μ ++ [D]) D o) : SR K H (μ ++ [D]) (S ++ [o]) := by
  refine ⟨by rw [List.length_append, List.length_append, sr.len]; rfl, ?_, fun j u b h1 h2 => ?_⟩
  · refine List.nodup_append.mpr ⟨sr.nd, by simp, fun a ma b mb => ?_⟩
    rw [List.mem_singleton.mp mb]
    exact fun z => hn (by rw [← z]; exact ma)
  · by_cases hj : j < S.length
    · rw [List.getElem?_append_left hj] at h1
      rw [List.getElem?_append_left (by rw [sr.len]; exact hj)] at h2
      exact (sr.ob j u b h1 h2).app
    · have hl := (List.getElem?_eq_some_iff.mp h1).1
      rw [List.length_append, List.length_singleton] at hl
      have ej : j = S.length := by omega
      subst ej
      rw [List.getElem?_append_right (Nat.le_refl _), Nat.sub_self] at h1
      rw [List.getElem?_append_right (by rw [sr.len]; exact Nat.le_refl _), sr.len, Nat.sub_self] at h2
      cases h1
      cases h2
      exact ob
/-- {k: v} -/
theorem e_dic1 (hu : X.A.units + 1 < cLine) (hk : PE X k (lfE T X.K W mk)) (hv : PE X v (lfE T X.K W mv)) : PE X (.Dict [some k] [v] pos) (lfE T X.K W fun ρ S => (mk ρ S).bind fun x S => (mv ρ S).bind fun y S => dicOp [x] [y] S) := by
  refine ⟨fun pins s σ H Q I ⟨μ, ρ, S, er, sr, g⟩ => ?_⟩
  have hn := I.hok.fresh (Nat.le_refl s.heap.objs.size)
  have I1 := I.laid (a := s.heap.objs.size) (o := .dK []) (h' := s.heap.push { cls := .type "dict", data := .dict #[] }) (t' := s.toks) (fun _ _ q => Heap.get?_push_of_some _ q) (Nat.le_refl _) (dk_empty s.heap I.big)
  generalize hDn : s.heap.objs.size = D at hn I1
  obtain ⟨sr0, e0⟩ := Ext.other (u := .dK []) sr hn
  have nD : D ∉ μ := fun m => sr.live D m hn
  refine wpAny_Dict_any rfl rfl (by simp) (by show 1 ≤ 15; decide) ?_
  rw [hDn]
  refine pairTrees_cons_walk (thn (hk.run pins _ σ _ _ I1 (lf_stepE (er.mono sr e0) sr0 (Gd.ext g e0))) fun uk s1 ⟨x, H1, I2, rx, μ1, S1, ax, q1, e1, er1, sr1, r1, g1⟩ => thn (hv.run pins s1 σ H1 _ I2 (lf_stepE er1 sr1 g1)) fun uv s2 ⟨y, H2, I3, ry, μ2, S2, ay, q2, e2, er2, sr2, r2, g2⟩ => pairTrees_nil_walk ?_)
  have r1' := r1.mono sr1 e2
  have e12 := e1.trans e2
  have hD2 : H2 D = some (.dK []) := e12.keep D _ upd_same nD
  have nD2 : D ∉ μ2 := fun mm => by
    obtain ⟨⟨t, rfl, nt⟩, _, _⟩ := e12
    rcases List.mem_append.mp mm with q | q
    · exact nD q
    · have z := nt D q
      rw [upd_same] at z
      cases z
  -- what is promised of the end
  replace g : GdV T X.K (fun c d H' => W c d σ H') ((mk ρ S).bind fun x S => (mv ρ S).bind fun y S => dicOp [x] [y] S) H μ Q := g
  rw [q1] at g
  replace g : GdV T X.K (fun c d H' => W c d σ H') ((mv ρ S1).bind fun y S => dicOp [ax] [y] S) H μ Q := g
  rw [q2] at g
  replace g : GdV T X.K (fun c d H' => W c d σ H') (if keyOk ax then new (.dic [(ax, ay)]) S2 else .bad) H μ Q := g
  split at g
  case isFalse => exact g.elim
  rename_i hkey
  replace g : GdV T X.K (fun c d H' => W c d σ H') (.ok (.ref S2.length) (S2 ++ [.dic [(ax, ay)]])) H μ Q := g
  have fin : ∀ o', o' ≠ HO.lst [] → (ObR X.K (upd H2 D o') (μ2 ++ [D]) D (.dic [(ax, ay)])) → Q (.ref D) (upd H2 D o') := fun o' _ ob => by
    refine g (.ref D) (upd H2 D o') (μ2 ++ [D]) ?_ (SR.adoptO (sr2.side (nf_dK hD2) nD2) nD2 ob) ?_
    · obtain ⟨⟨t, rfl, nt⟩, kp, lv⟩ := e12
      refine ⟨⟨t ++ [D], by rw [List.append_assoc], fun b hb => ?_⟩, fun b o q n => ?_, fun b hb => ?_⟩
      · rcases List.mem_append.mp hb with z | z
        · have q := nt b z
          by_cases hbD : b = D
          · rw [hbD]; exact hn
          · rw [upd_ne hbD] at q; exact q
        · rw [List.mem_singleton.mp z]; exact hn
      · have hbD : b ≠ D := ne_of_none q hn
        rw [upd_ne hbD]
        exact kp b o (by rw [upd_ne hbD]; exact q) n
      · by_cases hbD : b = D
        · rw [hbD, upd_same]; nofun
        · rw [upd_ne hbD]
          rcases List.mem_append.mp hb with z | z
          · exact lv b z
          · exact absurd (List.mem_singleton.mp z) hbD
    · simp only [Rep]
      refine ⟨D, rfl, ?_⟩
      rw [List.getElem?_append_right (by rw [sr2.len]; exact Nat.le_refl _), sr2.len, Nat.sub_self]
      rfl
  obtain ⟨z0, hsd, vs0, rel0, dd0⟩ := dk_of I3.hok hD2
  have hry : Rep X.K (upd H2 D (.dK [])) (μ2 ++ [D]) ay y := (r2.side (nf_dK hD2)).app
  refine storeOne ?_
  cases hq : keyV ax with
  | some kk =>
    obtain ⟨ex, ea⟩ := keyV_is r1' hq
    subst ex
    cases rel0
    refine wpAny_dictSet_pairs (knd := mixKind X.prog X.w) (kV_is rx) dd0 fun h' dd' hs => ?_
    have he : ∃ q, h'.get? D = some q := let ⟨q, _, _, hq, _⟩ := dd'; ⟨q, hq⟩
    refine ⟨.ref D, _, d_write (t' := s2.toks + 1) I3 (by rw [hD2]; exact True.intro) hs he (dk_new (kvs := [(kk, y)]) (vs := [(kk, uv)]) (by show 1 ≤ sizeLine; decide) hsd (.cons ⟨rfl, ry⟩ .nil) dd'), rfl, fin _ (by nofun) (.inl ⟨[(kk, y)], upd_same, kk, y, [], rfl, ea, (r2.side (nf_dK hD2)).app, rfl⟩)⟩
  | none =>
    have hkt : ∃ xs ks, ax = .tup xs ∧ keyVs xs = some ks := by
      unfold keyOk at hkey
      rw [hq] at hkey
      cases ax with
      | tup xs =>
        have z : (keyVs xs).isSome = true := hkey
        exact ⟨xs, _, rfl, (Option.some_get z).symm⟩
      | _ => cases hkey
    obtain ⟨xs, ks, rfl, hks⟩ := hkt
    obtain ⟨a, vs, rfl, ha, hr⟩ := r1'.tupE
    cases (show uk = Value.ref a from rx)
    cases keyVs_are hr hks
    have isk : (tupleKind (mixKind X.prog X.w)).is s2.heap ks a := by
      obtain ⟨its, rv, ⟨o, h1, h2, n, h3⟩, _⟩ := I3.tuple ha.sq
      exact ⟨o, its.toArray, n, h1, h2, h3, by simpa using items_are rv⟩
    cases rel0
    obtain ⟨o0, es0, ep0, ho0, hc0, hd0, _, hp0, _⟩ := dd0
    have ddH : s2.heap.DictOfH (tupleKind (mixKind X.prog X.w)) D [] := by
      refine ⟨o0, es0, ep0, ho0, hc0, hd0, ?_, fun x hx => absurd hx (by simp), List.nodup_nil⟩
      cases hes : es0.toList with
      | nil => rfl
      | cons e r => rw [hes] at hp0; cases hp0
    refine wpAny_dictSet_heap (knd := tupleKind (mixKind X.prog X.w)) (show X.A.units < cLine by omega) isk ddH fun h' dd' hs => ?_
    obtain ⟨o', es', ep', ho', hc', hd', he', _, _⟩ := dd'
    have hes : es' = (es'.toList).toArray := by simp
    refine ⟨.ref D, _, d_write (t' := s2.toks + _) (ob := .ext (DicAt D es'.toList)) I3 (by rw [hD2]; exact True.intro) hs ⟨_, ho'⟩ ⟨⟨hsd, o', ep', ho', hc', by rw [← hes]; exact hd'⟩, ⟨_, ho'⟩, fun h1 h2 q st => ?_⟩, rfl, fin _ (by nofun) (.inr ⟨es'.toList, upd_same, ?_⟩)⟩
    · obtain ⟨q1, o, ep, q2, q3, q4⟩ := q
      exact ⟨q1, o, ep, st _ q2, q3, q4⟩
    · rw [he']
      refine ⟨_, [], .ref a, y, rfl, rfl, (r1'.side (nf_dK hD2)).app, ry, (r2.side (nf_dK hD2)).app, rfl⟩
end
end EV

end
section
set_option Elab.async false
set_option linter.all false
set_option maxRecDepth 100000
set_option maxHeartbeats 8000000
/-! EV, part O: a text's expression is the term's; every such expression keeps its promise. -/
namespace EV
open PySem PySem.Spec PyProof.Rows L2

def Bi.nm : Bi → Str
  | .len => "len" | .abs => "abs" | .int => "int" | .max2 => "max" | .min2 => "min" | .sum => "sum" | .all => "all" | .any => "any" | .list => "list" | .tuple => "tuple" | .repr => "repr" | .tupRev => "tuple" | .listRev => "list"
def Bi.isRev : Bi → Bool
  | .tupRev => true | .listRev => true | _ => false
def Me.nm : Me → Str
  | .append => "append" | .extend => "extend" | .pop => "pop" | .count => "count"
def cstIs : Cst → Const → Bool
  | .non, .none => true
  | .bl b, .bool c => b == c
  | .int i, .int j => decide (i = j)
  | .str x, .str y => decide (x = y)
  | _, _ => false
def dbg (x : Str) : Bool := x == ("__debug__" : Str)
def noSup : Expr → Bool
  | .Name _ _ => true
  | .Subscript _ _ _ => true
  | .Constant _ _ _ => true
  | _ => false
def namesC (g : Cfg) : List Expr → List Nat → Bool
  | [], [] => true
  | .Name x _ :: es, i :: is => decide (g.N[i]? = some x) && g.sto x && namesC g es is
  | _, _ => false
def tgC (g : Cfg) : Tg → Expr → Bool
  | .one i, .Name x _ => decide (g.N[i]? = some x) && g.sto x
  | .many is, .Tuple es _ _ => namesC g es is
  | _, _ => false
def relN (ns l : List (Str × NameKind)) : List (Str × NameKind) := l.map fun (n, k) => if (k == .free && ns.lookup n == some .cell) then (n, .cell) else (n, k)
def Cfg.blk (g : Cfg) (scope : Scope) : Cfg := { g with ns := relN g.ns scope.names, wr := some scope.names }
def ownP (g : Cfg) (own : List Nat) : List (Str × Nat) := own.map fun i => ((g.N[i]?).getD "", i)
mutual
def ckE : Ex → Cfg → Expr → Bool
  | .var i, g, e => match e with
    | .Name x _ => decide (g.N[i]? = some x) && g.vis x && !dbg x && !(x == ("__classdict__" : Str))
    | _ => false
  | .cst c, _, e => match e with
    | .Constant k _ _ => cstIs c k
    | _ => false
  | .glo x c, g, e => match e with
    | .Name y _ => decide (x = y) && decide ((x, c) ∈ g.glo) && g.gl x && !dbg x
    | _ => false
  | .bin op a b, g, e => match e with
    | .BinOp a' op' b' _ => decide (op = op') && ckE a g a' && ckE b g b'
    | _ => false
  | .neg a, g, e => match e with
    | .UnaryOp .USub a' _ => ckE a g a'
    | _ => false
  | .not a, g, e => match e with
    | .UnaryOp .Not a' _ => ckE a g a'
    | _ => false
  | .cmp op a b, g, e => match e with
    | .Compare a' [op'] [b'] _ => decide (op = op') && ckE a g a' && ckE b g b' && !behindInMarks op' b'
    | _ => false
  | .chn op op2 a b c, g, e => match e with
    | .Compare a' [o1, o2] [b', c'] _ => decide (op = o1) && decide (op2 = o2) && ckE a g a' && ckE b g b' && ckE c g c' && !lastMarks [o1, o2] [b', c']
    | _ => false
  | .bool isAnd a es, g, e => match e with
    | .BoolOp op (a' :: es') _ => decide (op = boolO isAnd) && ckE a g a' && ckL es g es'
    | _ => false
  | .ite c a b, g, e => match e with
    | .IfExp c' a' b' _ => ckE c g c' && ckE a g a' && ckE b g b'
    | _ => false
  | .tup es, g, e => match e with
    | .Tuple es' _ _ => ckL es g es'
    | _ => false
  | .lst es, g, e => match e with
    | .List es' _ => ckL es g es'
    | _ => false
  | .dic ks vs, g, e => match e with
    | .Dict [] [] _ => (match ks, vs with
      | .nil, .nil => true
      | _, _ => false)
    | .Dict [some k'] [v'] _ => (match ks, vs with
      | .cons k .nil, .cons v .nil => ckE k g k' && ckE v g v'
      | _, _ => false)
    | _ => false
  | .idx a b, g, e => match e with
    | .Subscript a' b' _ => ckE a g a' && ckE b g b'
    | _ => false
  | .slc a l h, g, e => match e with
    | .Subscript a' (.Slice lo hi none _) _ => ckE a g a' && ckO l g lo && ckO h g hi
    | _ => false
  | .rev a, g, e => match e with
    | .Subscript a' (.Slice none none (some (.UnaryOp .USub (.Constant (.int i) _ _) _)) _) _ => decide (i = 1) && ckE a g a'
    | _ => false
  | .call f es, g, e => match e with
    | .Call (.Name x _) es' [] _ => (match g.fns[f]? with
      | some (y, bs) => decide (y = x) && g.gl x && !dbg x && decide ((es'.length, [], List.range es'.length) ∈ bs) && ckL es g es'
      | none => false)
    | _ => false
  | .callK f es ix ws, g, e => match e with
    | .Call (.Name x _) es' kws _ => (match g.fns[f]? with
      | some (y, bs) => decide (y = x) && g.gl x && !dbg x && kws.all (·.arg.isSome) && decide ((es'.length, kws.filterMap (·.arg), ix) ∈ bs) && ckL es g es' && ckK ws g kws
      | none => false)
    | _ => false
  | .bi b es, g, e => match e with
    | .Call (.Name x _) (e' :: es') [] _ => decide (x = b.nm) && g.gl x && (if b.isRev then (match es, e', es' with
      | .cons a .nil, .Call (.Name y _) [a'] [] _, [] => decide (y = "reversed") && g.gl y && ckE a g a'
      | _, _, _ => false) else ckL es g (e' :: es'))
    | _ => false
  | .me m o es, g, e => match e with
    | .Call (.Attribute o' nm apos) es' [] cpos => decide (nm = m.nm) && noSup o' && (apos.endLine == cpos.line) && decide (es'.length < 30) && (match m with | .pop => es'.isEmpty | _ => !es'.isEmpty) && ckE o g o' && ckL es g es'
    | _ => false
  | .ist a ts, g, e => match e with
    | .Call (.Name x _) [a', .Name y _] [] _ => (match ts with
      | [t] => decide (x = "isinstance") && g.gl x && decide (y = t.nm) && g.gl y && ckE a g a'
      | _ => false)
    | _ => false
  | .hist _ _, _, _ => false
  | .hfld _, _, _ => false
  | .comp e tg it c own, g, x => match x with
    | .ListComp e' [⟨tg', it', ifs, as⟩] scope _ => decide (as = 0) && decide (∀ i ∈ tg.ix, i ∈ own) && blkC g.N { scope with names := g.ns } scope (ownP g own) && ckI it g tg.isOne it' tg' && tgC (g.blk scope) tg tg' && ckE e (g.blk scope) e' &&
      (match c, ifs with
      | .none, [] => true
      | .some d, [d'] => ckE d (g.blk scope) d'
      | _, _ => false)
    | _ => false
def ckL : Exs → Cfg → List Expr → Bool
  | .nil, _, es => es.isEmpty
  | .cons e es, g, xs => match xs with
    | e' :: es' => ckE e g e' && ckL es g es'
    | [] => false
def ckK : Exs → Cfg → List Keyword → Bool
  | .nil, _, ks => ks.isEmpty
  | .cons e es, g, xs => match xs with
    | ⟨_, e', _⟩ :: ks => ckE e g e' && ckK es g ks
    | [] => false
def ckO : Opx → Cfg → Option Expr → Bool
  | .none, _, e => e.isNone
  | .some e, g, x => match x with
    | some e' => ckE e g e'
    | none => false
/-- an iterable, its target -/
def ckI : Itx → Cfg → Bool → Expr → Expr → Bool
  | .seq e, g, _, x, _ => ckE e g x
  | .rng1 a, g, _, x, _ => match x with
    | .Call (.Name f _) [a'] [] _ => decide (f = "range") && g.gl f && ckE a g a'
    | _ => false
  | .rng2 a b, g, _, x, _ => match x with
    | .Call (.Name f _) [a', b'] [] _ => decide (f = "range") && g.gl f && ckE a g a' && ckE b g b'
    | _ => false
  | .enum a, g, one, x, tg => match x, tg with
    | .Call (.Name f _) [a'] [] _, .Tuple _ _ _ => !one && decide (f = "enumerate") && g.gl f && ckE a g a'
    | _, _ => false
  | .zip a b, g, one, x, tg => match x, tg with
    | .Call (.Name f _) [a', b'] [] _, .Tuple _ _ _ => !one && decide (f = "zip") && g.gl f && ckE a g a' && ckE b g b'
    | _, _ => false
end
end EV

end
section
set_option Elab.async false
set_option linter.all false
set_option maxRecDepth 100000
set_option maxHeartbeats 16000000
/-! EV, part P: every expression that is the term's keeps its promise. -/
namespace EV
open PySem PySem.Spec PyProof.Rows L2
structure OkE (T : Ct) (X : L2.Cx) (W : WX) (m : Env → Sto → Res Va) (e : Expr) : Prop where
  pe : PE X e (lfE T X.K W m)
  pt : PT X e (tB (lfE T X.K W m))
  pl : Plain e
  px : PlainIx e
  fs : ∀ (env : PySem.Env) x, foldedSetIterable e env x = pure x
structure OkL (T : Ct) (X : L2.Cx) (W : WX) (m : Env → Sto → Res (List Va)) (es : List Expr) : Prop where
  pa : PA X es (lfA T X.K W m)
  pl : ∀ e ∈ es, Plain e
  len : ∀ ρ S xs S', m ρ S = .ok xs S' → xs.length = es.length
theorem OkE.of {T : Ct} {X : L2.Cx} {W : WX} {m : Env → Sto → Res Va} {e : Expr} (h : PE X e (lfE T X.K W m)) (he : ∀ whole, isTrue e X.env whole = (do let v ← whole; standAt e.pos; holding [v] (truthy v))) (pl : Plain e) (px : PlainIx e) (fs : ∀ (env : PySem.Env) x, foldedSetIterable e env x = pure x) : OkE T X W m e :=
  ⟨h, pt_val h he, pl, px, fs⟩
theorem OkE.as {T : Ct} {X : L2.Cx} {W : WX} {m m' : Env → Sto → Res Va} {e : Expr} (h : OkE T X W m e) (q : m' = m) : OkE T X W m' e := q ▸ h
section
variable {T : Ct} {g : Cfg} {X : L2.Cx} {C : Kx} {kk : Nat} {W : WX}
theorem vis_of (co : CO T g X C kk W) {x : Str} (h : g.vis x = true) : Vis X.env.scope x := by
  unfold Cfg.vis at h
  unfold Vis
  rw [co.ns]
  split at h <;> first | exact .inl (by assumption) | exact .inr (.inl (by assumption)) | exact .inr (.inr (by assumption)) | cases h
theorem gl_of (co : CO T g X C kk W) {x : Str} (h : g.gl x = true) : Gl X x := by
  unfold Cfg.gl at h
  unfold Gl Env.kindOf
  rw [co.ns]
  exact of_decide_eq_true h
theorem sto_of (co : CO T g X C kk W) {x : Str} (h : g.sto x = true) : Loc X.env.scope x ∧ (X.fn x = true ∨ X.env.scope.names.lookup x = some .local) := by
  unfold Cfg.sto at h
  unfold L2.Loc
  rw [co.ns]
  split at h
  · rename_i e
    exact ⟨.inl e, .inr e⟩
  · rename_i e
    refine ⟨.inr e, .inl (co.fn x ?_)⟩
    exact h
  · cases h
theorem cst_of {c : Cst} {k : Const} {i : Nat} {p : Pos} (h : cstIs c k = true) : PE X (.Constant k i p) (tC c.v) := by
  unfold cstIs at h
  split at h
  · exact pe_non
  · rw [beq_iff_eq] at h; subst h; exact pe_bl
  · rw [decide_eq_true_eq] at h; subst h; exact pe_int
  · rw [decide_eq_true_eq] at h; subst h; exact pe_str
  · cases h
theorem names_of (co : CO T g X C kk W) : ∀ {es : List Expr} {is : List Nat}, namesC g es is = true → NamesOk X es is
  | [], [], _ => .nil
  | [], _ :: _, h => by simp [namesC] at h
  | e :: es, [], h => by cases e <;> simp [namesC] at h
  | e :: es, i :: is, h => by
    unfold namesC at h
    split at h
    · rename_i h1 h2; cases h1
    · rename_i x p es' i' is' h1 h2
      cases h1
      cases h2
      simp only [Bool.and_eq_true, decide_eq_true_eq] at h
      obtain ⟨⟨q1, q2⟩, q3⟩ := h
      obtain ⟨s1, s2⟩ := sto_of co q2
      exact .cons (by rw [co.N]; exact q1) s1 s2 (names_of co q3)
    · cases h
theorem tg_of (co : CO T g X C kk W) {tg : Tg} {e : Expr} (h : tgC g tg e = true) : PG X e (gE X.K tg) := by
  unfold tgC at h
  split at h
  · simp only [Bool.and_eq_true, decide_eq_true_eq] at h
    obtain ⟨s1, s2⟩ := sto_of co h.2
    exact g_one co.nd (by rw [co.N]; exact h.1) s1 s2
  · exact g_many co.calm co.nd (names_of co h)
  · cases h
theorem pt_ifx {c a b : Expr} {tc ta tb : TT} {pos : Pos} (hc : PT X c tc) (ha : PT X a ta) (hb : PT X b tb) : PT X (.IfExp c a b pos) (fun σ H Q => tc σ H fun k H1 => if k = true then ta σ H1 Q else tb σ H1 Q) := by
  refine ⟨fun pins s σ H Q I h => ?_⟩
  show wpAny _ _ (do if ← isTrue c X.env (eval c X.env) then isTrue a X.env (eval a X.env) else isTrue b X.env (eval b X.env)) _ _ s
  refine wpAny_bind (thn (hc.run pins s σ H _ I h) fun k s1 ⟨H1, I1, q1⟩ => ?_)
  cases k with
  | true =>
    rw [if_pos rfl] at q1 ⊢
    exact ha.run pins s1 σ H1 Q I1 q1
  | false =>
    rw [if_neg Bool.false_ne_true] at q1 ⊢
    exact hb.run pins s1 σ H1 Q I1 q1
theorem t_ite {c a b : Expr} {m m1 m2 : Env → Sto → Res Va} {pos : Pos} (hc : PT X c (tB (lfE T X.K W m))) (ha : PT X a (tB (lfE T X.K W m1))) (hb : PT X b (tB (lfE T X.K W m2))) : PT X (.IfExp c a b pos) (tB (lfE T X.K W (mIte m m1 m2))) :=
  (pt_ifx hc ha hb).imp fun σ H Q ⟨μ, ρ, S, er, sr, g⟩ => (lf_step er sr g).imp fun x H1 ⟨μ1, S1, a, e1, er1, sr1, r1, g1⟩ => by
    split at g1
    · exact ⟨_, r1.blE, μ1, ρ, S1, er1, sr1, g1⟩
    · exact ⟨_, r1.blE, μ1, ρ, S1, er1, sr1, g1⟩
    · exact g1.elim
theorem arr_all {f : List Va → Sto → Res Va} {ml : Env → Sto → Res (List Va)} {n : Nat} (hl : ∀ ρ S xs S', ml ρ S = .ok xs S' → xs.length = n) : mArr (List.range n) f ml (fun _ S => .ok [] S) = fun ρ S => (ml ρ S).bind fun xs S => f xs S := by
  funext ρ S
  unfold mArr
  cases h : ml ρ S with
  | ok xs S' =>
    have hn := hl _ _ _ _ h
    have go : ∀ (ys : List Va) (zs : List Va), optMap (fun j => (ys ++ zs)[j]?) (List.range' ys.length zs.length) = some zs := fun ys zs => by
      induction zs generalizing ys with
      | nil => rfl
      | cons z zs ih =>
        rw [List.length_cons, List.range'_succ]
        have h1 := ih (ys ++ [z])
        rw [List.append_assoc, List.length_append] at h1
        simp only [List.singleton_append, List.length_singleton] at h1
        unfold optMap
        rw [List.getElem?_append_right (Nat.le_refl _), Nat.sub_self]
        simp only [List.getElem?_cons_zero, h1]
    have q := go [] xs
    rw [List.nil_append, List.length_nil, hn] at q
    show (match optMap (fun j => (xs ++ [])[j]?) (List.range n) with
      | some zs => f zs S'
      | none => .bad) = f xs S'
    rw [List.append_nil, List.range_eq_range', q]
  | exn c x S' => rfl
  | bad => rfl
theorem sup_of {e : Expr} (h : noSup e = true) : NoSup e := by
  unfold noSup at h
  split at h <;> first | exact fun _ _ => rfl | cases h
theorem kw_names : ∀ {kws : List Keyword}, kws.all (·.arg.isSome) = true → kws.map (·.arg) = (kws.filterMap (·.arg)).map some
  | [], _ => rfl
  | ⟨nm, v, p⟩ :: kws, h => by
    rw [List.all_cons, Bool.and_eq_true] at h
    cases nm with
    | none => cases h.1
    | some x =>
      show some x :: kws.map (·.arg) = _
      rw [kw_names h.2]
      rfl
theorem bi_names : ∀ b : Bi, (b.nm ∈ bltNames) ∧ b.nm ≠ "__name__" ∧ (b.nm == ("__debug__" : Str)) = false := fun b => by cases b <;> decide +kernel
theorem ty_names : ∀ t : Ty, t.nm ∈ bltNames := fun t => by cases t <;> decide +kernel
theorem co_blk (co : CO T g X C kk W) {scope : Scope} (hk : scope.kind = .function) (s : Shared) (H : Hp) (D : Addr) (cl : List (Str × Addr)) (fp : List Addr) : CO T (g.blk scope) (X.blk s H scope (compEnvC scope cl D X.env) fp) C kk noX where
  N := co.N
  nd := co.nd
  calm := co.calm
  un := co.un
  room := co.room
  gd := co.gd
  kind := hk
  ns := by
    show (relabel scope X.env).names = relN g.ns scope.names
    unfold relabel relN Env.kindOf
    dsimp only
    rw [co.kind, co.ns]
    simp
  fn := fun x h => h
  pass := PassesOwn.never
  takes := fun u s' ⟨_, _, _, _, _, _, _, _, _, _, _, _, _, _, _, _, w⟩ => w.elim
  blt := co.blt
  glo := co.glo
  fns := co.fns
theorem blk_of (co : CO T g X C kk W) {scope : Scope} {own : List (Str × Nat)} (h : blkC g.N { scope with names := g.ns } scope own = true) : BlkOk X.N X.env.scope scope own := by
  obtain ⟨h1, h2, h3, h4, h5⟩ := blkOk_by h
  exact ⟨h1, h2, by rw [co.N]; exact h3, by rw [co.ns]; exact h4, by rw [co.N]; exact h5⟩
theorem own_map (own : List Nat) : (ownP g own).map (·.2) = own := by
  unfold ownP
  rw [List.map_map]
  exact List.map_id' own
theorem foldC {f : Expr} {es : List Expr} {ks : List Keyword} {pos : Pos} {env : PySem.Env} : ∀ x, foldedSetIterable (.Call f es ks pos) env x = pure x := fun _ => rfl
set_option hygiene false in
mutual
theorem okE : ∀ (x : Ex) {g : Cfg} {X : L2.Cx} {W : WX} (co : CO T g X C kk W) {e : Expr}, ckE x g e = true → OkE T X W (evE C none x) e
  | .var i, g, X, W, co, e, h => by
    unfold ckE at h
    split at h
    · simp only [Bool.and_eq_true, decide_eq_true_eq, Bool.not_eq_true'] at h
      obtain ⟨⟨⟨h1, h2⟩, h3⟩, h4⟩ := h
      exact .of (e_var (i := i) (by rw [co.N]; exact h1) (vis_of co h2) h3 h4) (fun _ => rfl) (fun _ _ => rfl) (fun _ _ => rfl) (fun _ _ => rfl)
    · cases h
  | .cst c, g, X, W, co, e, h => by
    unfold ckE at h
    split at h
    · exact .of (e_cst (cst_of h)) (fun _ => rfl) (fun _ _ => rfl) (fun _ _ => rfl) (fun _ _ => rfl)
    · cases h
  | .glo x c, g, X, W, co, e, h => by
    unfold ckE at h
    split at h
    · simp only [Bool.and_eq_true, decide_eq_true_eq, Bool.not_eq_true'] at h
      obtain ⟨⟨⟨rfl, h2⟩, h3⟩, h4⟩ := h
      obtain ⟨u, q1, q2⟩ := co.glo _ _ h2
      exact .of (e_cst (pe_glob (gl_of co h3) q1 q2 h4)) (fun _ => rfl) (fun _ _ => rfl) (fun _ _ => rfl) (fun _ _ => rfl)
    · cases h
  | .bin op a b, g, X, W, co, e, h => by
    unfold ckE at h
    split at h
    · simp only [Bool.and_eq_true, decide_eq_true_eq] at h
      obtain ⟨⟨rfl, h2⟩, h3⟩ := h
      exact .of (e_bin (okE a co h2).pe (okE b co h3).pe) (fun _ => rfl) (fun _ _ => rfl) (fun _ _ => rfl) (fun _ _ => rfl)
    · cases h
  | .neg a, g, X, W, co, e, h => by
    unfold ckE at h
    split at h
    · exact .of (e_neg (okE a co h).pe) (fun _ => rfl) (fun _ _ => rfl) (fun _ _ => rfl) (fun _ _ => rfl)
    · cases h
  | .not a, g, X, W, co, e, h => by
    unfold ckE at h
    split at h
    · exact ⟨e_not (okE a co h).pe, t_not (okE a co h).pt, fun _ _ => rfl, fun _ _ => rfl, fun _ _ => rfl⟩
    · cases h
  | .cmp op a b, g, X, W, co, e, h => by
    unfold ckE at h
    split at h
    · simp only [Bool.and_eq_true, decide_eq_true_eq, Bool.not_eq_true'] at h
      obtain ⟨⟨⟨rfl, h2⟩, h3⟩, h4⟩ := h
      exact ⟨e_cmp co (okE a co h2).pe (okE b co h3).pe h4, t_cmp co (okE a co h2).pe (okE b co h3).pe h4, fun _ _ => rfl, fun _ _ => rfl, fun _ _ => rfl⟩
    · cases h
  | .chn op op2 a b c, g, X, W, co, e, h => by
    unfold ckE at h
    split at h
    · simp only [Bool.and_eq_true, decide_eq_true_eq, Bool.not_eq_true'] at h
      obtain ⟨⟨⟨⟨⟨rfl, rfl⟩, h2⟩, h3⟩, h5⟩, h4⟩ := h
      exact ⟨e_chn co (okE a co h2).pe (okE b co h3).pe (okE c co h5).pe h4, t_chn co (okE a co h2).pe (okE b co h3).pe (okE c co h5).pe h4, fun _ _ => rfl, fun _ _ => rfl, fun _ _ => rfl⟩
    · cases h
  | .bool isAnd a es, g, X, W, co, e, h => by
    unfold ckE at h
    split at h
    · simp only [Bool.and_eq_true, decide_eq_true_eq] at h
      obtain ⟨⟨rfl, h2⟩, h3⟩ := h
      have q := fun pos => okB isAnd es co (pos := pos) h3 (okE a co h2).pe (okE a co h2).pt
      exact ⟨(q _).1, (q _).2.pt, fun _ _ => rfl, fun _ _ => rfl, fun _ _ => rfl⟩
    · cases h
  | .ite c a b, g, X, W, co, e, h => by
    unfold ckE at h
    split at h
    · simp only [Bool.and_eq_true] at h
      obtain ⟨⟨h1, h2⟩, h3⟩ := h
      exact ⟨e_ite (okE c co h1).pt (okE a co h2).pe (okE b co h3).pe, t_ite (okE c co h1).pt (okE a co h2).pt (okE b co h3).pt, fun _ _ => rfl, fun _ _ => rfl, fun _ _ => rfl⟩
    · cases h
  | .tup es, g, X, W, co, e, h => by
    unfold ckE at h
    split at h
    · exact .of (e_tup (okL es co h).pa) (fun _ => rfl) (fun _ _ => rfl) (fun _ _ => rfl) (fun _ _ => rfl)
    · cases h
  | .lst es, g, X, W, co, e, h => by
    unfold ckE at h
    split at h
    · exact .of (e_lst (okL es co h).pa) (fun _ => rfl) (fun _ _ => rfl) (fun _ _ => rfl) (fun _ _ => rfl)
    · cases h
  | .dic ks vs, g, X, W, co, e, h => by
    unfold ckE at h
    split at h
    · split at h
      · exact .of e_dic0 (fun _ => rfl) (fun _ _ => rfl) (fun _ _ => rfl) (fun _ _ => rfl)
      · cases h
    · split at h
      · rename_i k v
        simp only [Bool.and_eq_true] at h
        have ev : evE C none (.dic (.cons k .nil) (.cons v .nil)) = fun ρ S => (evE C none k ρ S).bind fun x S => (evE C none v ρ S).bind fun y S => dicOp [x] [y] S := by
          funext ρ S
          show ((evE C none k ρ S).bind fun x S => (Res.ok [] S : Res (List Va)).bind fun xs S => .ok (x :: xs) S).bind (fun xs S => ((evE C none v ρ S).bind fun y S => (Res.ok [] S : Res (List Va)).bind fun ys S => .ok (y :: ys) S).bind fun ys S => dicOp xs ys S) = _
          cases evE C none k ρ S with
          | ok x S1 =>
            show ((evE C none v ρ S1).bind fun y S => (Res.ok [] S : Res (List Va)).bind fun ys S => .ok (y :: ys) S).bind (fun ys S => dicOp [x] ys S) = (evE C none v ρ S1).bind fun y S => dicOp [x] [y] S
            cases evE C none v ρ S1 <;> rfl
          | exn _ _ _ => rfl
          | bad => rfl
        rw [ev]
        exact .of (e_dic1 (by have z := co.un; omega) (okE k co h.1).pe (okE v co h.2).pe) (fun _ => rfl) (fun _ _ => rfl) (fun _ _ => rfl) (fun _ _ => rfl)
      · cases h
    · cases h
  | .idx a b, g, X, W, co, e, h => by
    unfold ckE at h
    split at h
    · simp only [Bool.and_eq_true] at h
      exact .of (e_idx (okE a co h.1).pe (okE b co h.2).pe (okE b co h.2).px) (fun _ => rfl) (fun _ _ => rfl) (fun _ _ => rfl) (fun _ _ => rfl)
    · cases h
  | .slc a l h', g, X, W, co, e, h => by
    unfold ckE at h
    split at h
    · simp only [Bool.and_eq_true] at h
      obtain ⟨⟨h1, h2⟩, h3⟩ := h
      exact .of (e_slc (okE a co h1).pe (okO l co h2) (okO h' co h3)) (fun _ => rfl) (fun _ _ => rfl) (fun _ _ => rfl) (fun _ _ => rfl)
    · cases h
  | .rev a, g, X, W, co, e, h => by
    unfold ckE at h
    split at h
    · simp only [Bool.and_eq_true, decide_eq_true_eq] at h
      obtain ⟨rfl, h⟩ := h
      exact .of (e_rev (okE a co h).pe) (fun _ => rfl) (fun _ _ => rfl) (fun _ _ => rfl) (fun _ _ => rfl)
    · cases h
  | .call f es, g, X, W, co, e, h => by
    unfold ckE at h
    split at h
    · rename_i x p es' pos
      split at h
      · rename_i y bs hf
        simp only [Bool.and_eq_true, decide_eq_true_eq, Bool.not_eq_true'] at h
        obtain ⟨⟨⟨⟨rfl, h2⟩, h3⟩, h4⟩, h5⟩ := h
        have q := okL es co h5
        refine .of ?_ (fun _ => rfl) (fun _ _ => rfl) (fun _ _ => rfl) (fun _ _ => rfl)
        show PE X _ (lfE T X.K W fun ρ S => (evL C none es ρ S).bind fun xs S => C.call f xs S)
        rw [← arr_all (f := C.call f) q.len]
        cases es' with
        | nil =>
          cases es with
          | nil => exact e_callK0 co (p := p) (pos := pos) (kws := []) hf h4 (gl_of co h2) h3 rfl (k_nil (T := T)) (fun ρ S xs S' e => by cases e; rfl)
          | cons _ _ => unfold ckL at h5; cases h5
        | cons e' es' => exact e_callK co hf h4 (gl_of co h2) h3 q.pl rfl q.pa k_nil q.len (fun ρ S xs S' e => by cases e; rfl)
      · cases h
    · cases h
  | .callK f es ix ws, g, X, W, co, e, h => by
    unfold ckE at h
    split at h
    · rename_i x p es' kws pos
      split at h
      · rename_i y bs hf
        simp only [Bool.and_eq_true, decide_eq_true_eq, Bool.not_eq_true'] at h
        obtain ⟨⟨⟨⟨⟨⟨rfl, h2⟩, h3⟩, h6⟩, h4⟩, h5⟩, h7⟩ := h
        have q := okL es co h5
        have q2 := okK ws co h7
        have q3 : ∀ ρ S xs S', evL C none ws ρ S = .ok xs S' → xs.length = (kws.filterMap (·.arg)).length := fun ρ S xs S' e => by
          have z := congrArg List.length (kw_names h6)
          rw [List.length_map, List.length_map] at z
          rw [q2.2 ρ S xs S' e, z]
        refine .of ?_ (fun _ => rfl) (fun _ _ => rfl) (fun _ _ => rfl) (fun _ _ => rfl)
        cases es' with
        | nil =>
          cases es with
          | nil => exact e_callK0 co (p := p) (pos := pos) hf h4 (gl_of co h2) h3 (kw_names h6) q2.1 q3
          | cons _ _ => unfold ckL at h5; cases h5
        | cons e' es' => exact e_callK co hf h4 (gl_of co h2) h3 q.pl (kw_names h6) q.pa q2.1 q.len q3
      · cases h
    · cases h
  | .bi b es, g, X, W, co, e, h => by
    unfold ckE at h
    split at h
    · rename_i x p e' es' pos
      simp only [Bool.and_eq_true, decide_eq_true_eq] at h
      obtain ⟨⟨rfl, h2⟩, h3⟩ := h
      obtain ⟨n1, n2, n3⟩ := bi_names b
      have hm := co.blt _ n1
      have hg := gl_of co h2
      refine .of ?_ (fun _ => rfl) (fun _ _ => rfl) (fun _ _ => rfl) (fun _ _ => rfl)
      cases hb : b.isRev with
      | true =>
        rw [hb, if_pos rfl] at h3
        split at h3
        · rename_i a y p2 a' pos2
          simp only [Bool.and_eq_true, decide_eq_true_eq] at h3
          obtain ⟨⟨rfl, h4⟩, h5⟩ := h3
          have q := okE a co h5
          have hm2 := co.blt "reversed" (by decide +kernel)
          have ev : evE C none (.bi b (.cons a .nil)) = fun ρ S => (evE C none a ρ S).bind fun x S => biOp b [x] S := by
            funext ρ S
            show ((evE C none a ρ S).bind fun x S => (Res.ok [] S : Res (List Va)).bind fun xs S => .ok (x :: xs) S).bind (fun xs S => biOp b xs S) = _
            cases evE C none a ρ S <;> rfl
          rw [ev]
          cases b <;> first | exact e_tupRev co.calm hg hm (gl_of co h4) hm2 q.pe q.pl | exact e_listRev co.calm hg hm (gl_of co h4) hm2 q.pe q.pl | cases hb
        · cases h3
      | false =>
        rw [hb, if_neg Bool.false_ne_true] at h3
        have q := okL es co h3
        cases b with
        | len => exact e_biB cl_len hg hm (by decide +kernel) n2 n3 q.pl q.pa
        | abs => exact e_biB cl_abs hg hm (by decide +kernel) n2 n3 q.pl q.pa
        | int => exact e_biT cl_int hg hm (by decide +kernel) n2 n3 q.pl q.pa
        | max2 => exact e_biB (cl_max2 co.calm) hg hm (by decide +kernel) n2 n3 q.pl q.pa
        | min2 => exact e_biB (cl_min2 co.calm) hg hm (by decide +kernel) n2 n3 q.pl q.pa
        | sum => exact e_biB (cl_sum co.calm) hg hm (by decide +kernel) n2 n3 q.pl q.pa
        | all => exact e_biB (cl_all co.calm) hg hm (by decide +kernel) n2 n3 q.pl q.pa
        | any => exact e_biB (cl_any co.calm) hg hm (by decide +kernel) n2 n3 q.pl q.pa
        | list => exact e_biT cl_list hg hm (by decide +kernel) n2 n3 q.pl q.pa
        | tuple => exact e_biT cl_tuple hg hm (by decide +kernel) n2 n3 q.pl q.pa
        | repr => exact e_biB (cl_repr co.gd co.un) hg hm (by decide +kernel) n2 n3 q.pl q.pa
        | tupRev => cases hb
        | listRev => cases hb
    · cases h
  | .me m o es, g, X, W, co, e, h => by
    unfold ckE at h
    split at h
    · rename_i o' nm apos es' cpos
      simp only [Bool.and_eq_true, decide_eq_true_eq] at h
      obtain ⟨⟨⟨⟨⟨⟨rfl, h2⟩, h3⟩, h4⟩, h5⟩, h6⟩, h7⟩ := h
      have q1 := okE o co h6
      have q2 := okL es co h7
      refine .of ?_ (fun _ => rfl) (fun _ _ => rfl) (fun _ _ => rfl) (fun _ _ => rfl)
      cases es' with
      | nil =>
        cases m with
        | pop =>
          cases es with
          | nil => exact e_pop q1.pe (sup_of h2) h3
          | cons _ _ => unfold ckL at h7; cases h7
        | append => cases h5
        | extend => cases h5
        | count => cases h5
      | cons e' es' =>
        have h8 : decide ((e' :: es').length < 30) = true := decide_eq_true h4
        cases m with
        | pop => cases h5
        | append => exact e_append q1.pe q2.pa (sup_of h2) q2.pl h8 h3
        | extend => exact e_extend q1.pe q2.pa (sup_of h2) q2.pl h8 h3
        | count => exact e_count q1.pe q2.pa (sup_of h2) q2.pl h8 h3
    · cases h
  | .ist a ts, g, X, W, co, e, h => by
    unfold ckE at h
    split at h
    · split at h
      · rename_i t
        simp only [Bool.and_eq_true, decide_eq_true_eq] at h
        obtain ⟨⟨⟨⟨rfl, h2⟩, rfl⟩, h4⟩, h5⟩ := h
        exact .of (e_isi (okE a co h5).pe (okE a co h5).pl (gl_of co h2) (co.blt _ (by decide +kernel)) (gl_of co h4) (co.blt _ (ty_names t))) (fun _ => rfl) (fun _ _ => rfl) (fun _ _ => rfl) (fun _ _ => rfl)
      · cases h
    · cases h
  | .hist i cs, g, X, W, co, e, h => by
    unfold ckE at h
    cases h
  | .hfld i, g, X, W, co, e, h => by
    unfold ckE at h
    cases h
  | .comp el tg it c own, g, X, W, co, e, h => by
    unfold ckE at h
    split at h
    · rename_i e' tg' it' ifs as scope pos
      simp only [Bool.and_eq_true, decide_eq_true_eq] at h
      obtain ⟨⟨⟨⟨⟨⟨rfl, h2⟩, h3⟩, h4⟩, h5⟩, h6⟩, h7⟩ := h
      have ok := blk_of co h3
      have cb := fun s H D cl fp => co_blk co ok.kind s H D cl fp
      obtain ⟨i1, i2⟩ := okI it co h4
      refine .of ?_ (fun _ => rfl) (fun _ _ => rfl) (fun _ _ => rfl) (fun _ _ => rfl)
      have go : ∀ {tc : Option TE} {mt : Env → Sto → Res Va} (_ : ∀ (s : Shared) (H : Hp) (D : Addr) (cl : List (Str × Addr)) (fp : List Addr), PTs (X.blk s H scope (compEnvC scope cl D X.env) fp) ifs (ttO tc))
          (_ : (tc = none ∧ ∀ ρ S, evO C none c ρ S = .ok none S) ∨ (tc = some (lfE T X.K noX mt) ∧ ∀ ρ S, evO C none c ρ S = (mt ρ S).bind fun x S => .ok (some x) S)), PE X (.ListComp e' [⟨tg', it', ifs, 0⟩] scope pos) (lfE T X.K W (evE C none (.comp el tg it c own))) := fun {tc mt} ht hc => by
        refine (pe_lc (te := lfE T X.K noX (evE C none el)) (tt := ttO tc) (g := gE X.K tg) co.calm co.nd i1 ok (fun s H D cl fp => tg_of (cb s H D cl fp) h5) ht (fun s H D cl fp => (okE el (cb s H D cl fp) h6).pe) (i2 _)).imp fun σ H Q hq => ?_
        rw [own_map]
        exact comp_lf (mi := evI C none it) h2 hc hq
      split at h7
      · exact go (tc := none) (mt := fun _ _ => .bad) (fun _ _ _ _ _ => pts_nil) (.inl ⟨rfl, fun _ _ => rfl⟩)
      · rename_i d d'
        exact go (tc := some (lfE T X.K noX (evE C none d))) (mt := evE C none d) (fun s H D cl fp => pts_one (okE d (cb s H D cl fp) h7).pt) (.inr ⟨rfl, fun _ _ => rfl⟩)
      · cases h7
    · cases h
theorem okL : ∀ (es : Exs) {g : Cfg} {X : L2.Cx} {W : WX} (co : CO T g X C kk W) {es' : List Expr}, ckL es g es' = true → OkL T X W (evL C none es) es'
  | .nil, g, X, W, co, es', h => by
    unfold ckL at h
    have e : es' = [] := List.isEmpty_iff.mp h
    subst e
    exact ⟨a_nil, fun e m => absurd m (by simp), fun ρ S xs S' e => by cases e; rfl⟩
  | .cons e es, g, X, W, co, es', h => by
    unfold ckL at h
    split at h
    · simp only [Bool.and_eq_true] at h
      have q1 := okE e co h.1
      have q2 := okL es co h.2
      refine ⟨a_cons q1.pe q2.pa (q1.pl _ _), fun d m => ?_, fun ρ S xs S' hq => ?_⟩
      · rcases List.mem_cons.mp m with rfl | m
        · exact q1.pl
        · exact q2.pl d m
      · unfold evL at hq
        cases h1 : evE C none e ρ S with
        | ok x S1 =>
          rw [h1] at hq
          replace hq : ((evL C none es ρ S1).bind fun xs S => Res.ok (x :: xs) S) = .ok xs S' := hq
          cases h2 : evL C none es ρ S1 with
          | ok ys S2 =>
            rw [h2] at hq
            cases hq
            rw [List.length_cons, List.length_cons, q2.len _ _ _ _ h2]
          | exn _ _ _ => rw [h2] at hq; cases hq
          | bad => rw [h2] at hq; cases hq
        | exn _ _ _ => rw [h1] at hq; cases hq
        | bad => rw [h1] at hq; cases hq
    · cases h
theorem okK : ∀ (es : Exs) {g : Cfg} {X : L2.Cx} {W : WX} (co : CO T g X C kk W) {ks : List Keyword}, ckK es g ks = true → PK X ks (lfA T X.K W (evL C none es)) ∧ ∀ ρ S xs S', evL C none es ρ S = .ok xs S' → xs.length = ks.length
  | .nil, g, X, W, co, es', h => by
    unfold ckK at h
    have e : es' = [] := List.isEmpty_iff.mp h
    subst e
    exact ⟨k_nil, fun ρ S xs S' e => by cases e; rfl⟩
  | .cons e es, g, X, W, co, es', h => by
    unfold ckK at h
    split at h
    · simp only [Bool.and_eq_true] at h
      have q1 := okE e co h.1
      have q2 := okK es co h.2
      refine ⟨k_cons q1.pe q2.1, fun ρ S xs S' hq => ?_⟩
      unfold evL at hq
      cases h1 : evE C none e ρ S with
      | ok x S1 =>
        rw [h1] at hq
        replace hq : ((evL C none es ρ S1).bind fun xs S => Res.ok (x :: xs) S) = .ok xs S' := hq
        cases h2 : evL C none es ρ S1 with
        | ok ys S2 =>
          rw [h2] at hq
          cases hq
          rw [List.length_cons, List.length_cons, q2.2 _ _ _ _ h2]
        | exn _ _ _ => rw [h2] at hq; cases hq
        | bad => rw [h2] at hq; cases hq
      | exn _ _ _ => rw [h1] at hq; cases hq
      | bad => rw [h1] at hq; cases hq
    · cases h
theorem okB : ∀ (isAnd : Bool) (es : Exs) {g : Cfg} {X : L2.Cx} {W : WX} (co : CO T g X C kk W) {es' : List Expr} {a : Expr} {m : Env → Sto → Res Va} {pos : Pos}, ckL es g es' = true → PE X a (lfE T X.K W m) → PT X a (tB (lfE T X.K W m)) →
    PE X (.BoolOp (boolO isAnd) (a :: es') pos) (lfE T X.K W (mBool isAnd m (evB C none isAnd es))) ∧ PW X (.BoolOp (boolO isAnd) (a :: es') pos) (tB (lfE T X.K W (mBool isAnd m (evB C none isAnd es))))
  | isAnd, .nil, g, X, W, co, es', a, m, pos, h, ha, ht => by
    unfold ckL at h
    have e : es' = [] := List.isEmpty_iff.mp h
    subst e
    exact ⟨e_bool1 ha, t_bool1 ht⟩
  | isAnd, .cons e es, g, X, W, co, es', a, m, pos, h, ha, ht => by
    unfold ckL at h
    split at h
    · simp only [Bool.and_eq_true] at h
      have q1 := okE e co h.1
      have q2 := okB isAnd es co (pos := pos) h.2 q1.pe q1.pt
      exact ⟨e_boolS ha q2.1, t_boolS ht q2.2⟩
    · cases h
theorem okO : ∀ (o : Opx) {g : Cfg} {X : L2.Cx} {W : WX} (co : CO T g X C kk W) {e : Option Expr}, ckO o g e = true → PO X e (lf T X.K W RO (mBnd (evO C none o)))
  | .none, g, X, W, co, e, h => by
    unfold ckO at h
    have e : e = none := Option.isNone_iff_eq_none.mp h
    subst e
    exact o_none
  | .some x, g, X, W, co, e, h => by
    unfold ckO at h
    split at h
    · exact o_some (okE x co h).pe
    · cases h
theorem okI : ∀ (it : Itx) {g : Cfg} {X : L2.Cx} {W : WX} (co : CO T g X C kk W) {one : Bool} {e tg : Expr}, ckI it g one e tg = true → PI X tg e (lfI T X.K W one (evI C none it)) ∧ ∀ (env : PySem.Env) x, foldedSetIterable e env x = pure x
  | .seq a, g, X, W, co, one, e, tg, h => by
    unfold ckI at h
    have q := okE a co h
    exact ⟨i_seq q.pe, q.fs⟩
  | .rng1 a, g, X, W, co, one, e, tg, h => by
    unfold ckI at h
    split at h
    · simp only [Bool.and_eq_true, decide_eq_true_eq] at h
      obtain ⟨⟨rfl, h2⟩, h3⟩ := h
      exact ⟨i_rng1 (gl_of co h2) (co.blt _ (by decide +kernel)) (okE a co h3).pe (okE a co h3).pl, fun _ _ => rfl⟩
    · cases h
  | .rng2 a b, g, X, W, co, one, e, tg, h => by
    unfold ckI at h
    split at h
    · simp only [Bool.and_eq_true, decide_eq_true_eq] at h
      obtain ⟨⟨⟨rfl, h2⟩, h3⟩, h4⟩ := h
      exact ⟨i_rng2 (gl_of co h2) (co.blt _ (by decide +kernel)) (okE a co h3).pe (okE b co h4).pe (okE a co h3).pl (okE b co h4).pl, fun _ _ => rfl⟩
    · cases h
  | .enum a, g, X, W, co, one, e, tg, h => by
    unfold ckI at h
    split at h
    · simp only [Bool.and_eq_true, decide_eq_true_eq, Bool.not_eq_true'] at h
      obtain ⟨⟨⟨rfl, rfl⟩, h2⟩, h3⟩ := h
      exact ⟨i_enum (gl_of co h2) (co.blt _ (by decide +kernel)) (okE a co h3).pe (okE a co h3).pl, fun _ _ => rfl⟩
    · cases h
  | .zip a b, g, X, W, co, one, e, tg, h => by
    unfold ckI at h
    split at h
    · simp only [Bool.and_eq_true, decide_eq_true_eq, Bool.not_eq_true'] at h
      obtain ⟨⟨⟨⟨rfl, rfl⟩, h2⟩, h3⟩, h4⟩ := h
      exact ⟨i_zip (gl_of co h2) (co.blt _ (by decide +kernel)) (okE a co h3).pe (okE b co h4).pe (okE a co h3).pl (okE b co h4).pl, fun _ _ => rfl⟩
    · cases h
end
end
end EV

end
section
set_option Elab.async false
set_option linter.all false
set_option maxRecDepth 100000
set_option maxHeartbeats 16000000
/-! EV, part Q: statements. -/
namespace EV
open PySem PySem.Spec PyProof.Rows L2

def GdS (T : Ct) (K : PySem.W.Frag) (W : WX) (f : Flw) (H : Hp) (μ : List Addr) (D : Ends) : Prop := match f with
  | .nx ρ' S' => ∀ σ' H' μ', Ext μ H μ' H' → SR K H' μ' S' → ER K H' μ' ρ' σ' → D.nx σ' H'
  | .ret v S' => ∀ b H' μ', Ext μ H μ' H' → SR K H' μ' S' → Rep K H' μ' v b → D.rt b H'
  | .brk ρ' S' => ∀ σ' H' μ', Ext μ H μ' H' → SR K H' μ' S' → ER K H' μ' ρ' σ' → D.bk σ' H'
  | .cnt ρ' S' => ∀ σ' H' μ', Ext μ H μ' H' → SR K H' μ' S' → ER K H' μ' ρ' σ' → D.ct σ' H'
  | .exn c x ρ' S' => ∀ cls d σ' H' μ', Ext μ H μ' H' → SR K H' μ' S' → ER K H' μ' ρ' σ' → ExR T K H' μ' c x cls d → W cls d σ' H'
  | .bad => False
def lfS (T : Ct) (K : PySem.W.Frag) (W : WX) (m : Env → Sto → Flw) : TS := fun D σ H => ∃ μ ρ S, ER K H μ ρ σ ∧ SR K H μ S ∧ GdS T K W (m ρ S) H μ D
section
variable {T : Ct} {K : PySem.W.Frag} {W : WX} {H H1 : Hp} {μ μ1 : List Addr} {S : Sto} {ρ : Env} {σ : Sl} {D D' : Ends}
theorem GdS.ext {f : Flw} (h : GdS T K W f H μ D) (e : Ext μ H μ1 H1) : GdS T K W f H1 μ1 D := by
  cases f with
  | nx ρ' S' => exact fun σ' H' μ' e' => h σ' H' μ' (e.trans e')
  | ret v S' => exact fun b H' μ' e' => h b H' μ' (e.trans e')
  | brk ρ' S' => exact fun σ' H' μ' e' => h σ' H' μ' (e.trans e')
  | cnt ρ' S' => exact fun σ' H' μ' e' => h σ' H' μ' (e.trans e')
  | exn c x ρ' S' => exact fun cls d σ' H' μ' e' => h cls d σ' H' μ' (e.trans e')
  | bad => exact h
theorem flw_step {α β : Type} {R : Hp → List Addr → α → β → Prop} {m : Env → Sto → Res α} {k : α → Sto → Flw} (er : ER K H μ ρ σ) (sr : SR K H μ S) (g : GdS T K W ((m ρ S).flw ρ k) H μ D) :
    lf T K W R m σ H (fun b H1 => ∃ μ1 S1 a, Ext μ H μ1 H1 ∧ ER K H1 μ1 ρ σ ∧ SR K H1 μ1 S1 ∧ R H1 μ1 a b ∧ GdS T K W (k a S1) H1 μ1 D) := by
  refine ⟨μ, ρ, S, er, sr, ?_⟩
  cases h : m ρ S with
  | ok a S' =>
    rw [h] at g
    exact fun b H' μ' e sr' r => ⟨μ', S', a, e, er.mono sr e, sr', r, GdS.ext g e⟩
  | exn c x S' =>
    rw [h] at g
    exact fun cls d H' μ' e sr' x => g cls d σ H' μ' e sr' (er.mono sr e) x
  | bad =>
    rw [h] at g
    exact g
theorem _root_.L2.PS.imp {X : L2.Cx} {st : Stmt} {t t' : TS} (h : PS X st t) (q : ∀ D σ H, t' D σ H → t D σ H) : PS X st t' := ⟨fun pins s σ H D I x => h.run pins s σ H D I (q D σ H x)⟩
theorem _root_.L2.PSs.imp {X : L2.Cx} {st : List Stmt} {t t' : TS} (h : PSs X st t) (q : ∀ D σ H, t' D σ H → t D σ H) : PSs X st t' := ⟨fun pins s σ H D I x => h.run pins s σ H D I (q D σ H x)⟩
end
section
variable {T : Ct} {g : Cfg} {X : L2.Cx} {C : Kx} {kk : Nat} {W : WX} (co : CO T g X C kk W) {pos : Pos} {a b c e : Expr} {m m1 m2 m3 : Env → Sto → Res Va} {ms ms2 : Env → Sto → Flw} {st : Stmt} {sts sts2 : List Stmt} {tg : Tg}
theorem s_nil : PSs X [] (lfS T X.K W fun ρ S => .nx ρ S) := pss_nil.imp fun D σ H ⟨μ, ρ, S, er, sr, g⟩ => g σ H μ (Ext.refl sr) sr er
theorem s_pass : PS X (.Pass pos) (lfS T X.K W fun ρ S => .nx ρ S) := ps_pass.imp fun D σ H ⟨μ, ρ, S, er, sr, g⟩ => g σ H μ (Ext.refl sr) sr er
theorem s_brk : PS X (.Break pos) (lfS T X.K W fun ρ S => .brk ρ S) := ps_break.imp fun D σ H ⟨μ, ρ, S, er, sr, g⟩ => g σ H μ (Ext.refl sr) sr er
theorem s_cont : PS X (.Continue pos) (lfS T X.K W fun ρ S => .cnt ρ S) := ps_continue.imp fun D σ H ⟨μ, ρ, S, er, sr, g⟩ => g σ H μ (Ext.refl sr) sr er
abbrev mSeq (m1 m2 : Env → Sto → Flw) : Env → Sto → Flw := fun ρ S => match m1 ρ S with
    | .nx ρ' S' => m2 ρ' S'
    | f => f
theorem s_cons (h1 : PS X st (lfS T X.K W ms)) (h2 : PSs X sts (lfS T X.K W ms2)) : PSs X (st :: sts) (lfS T X.K W (mSeq ms ms2)) :=
  (pss_cons h1 h2).imp fun D σ H ⟨μ, ρ, S, er, sr, g⟩ => by
    refine ⟨μ, ρ, S, er, sr, ?_⟩
    replace g : GdS T X.K W (match ms ρ S with
      | .nx ρ' S' => ms2 ρ' S'
      | f => f) H μ D := g
    cases h : ms ρ S with
    | nx ρ' S' =>
      rw [h] at g
      exact fun σ' H' μ' e sr' er' => ⟨μ', ρ', S', er', sr', GdS.ext g e⟩
    | ret v S' => rw [h] at g; exact g
    | brk ρ' S' => rw [h] at g; exact g
    | cnt ρ' S' => rw [h] at g; exact g
    | exn c x ρ' S' => rw [h] at g; exact g
    | bad => rw [h] at g; exact g
theorem s_expr (he : PE X e (lfE T X.K W m)) (hs : swapsWith e none pos.line X.env = pure false) : PS X (.Expr e pos) (lfS T X.K W fun ρ S => (m ρ S).flw ρ fun _ S => .nx ρ S) :=
  (ps_expr he hs).imp fun D σ H ⟨μ, ρ, S, er, sr, g⟩ => (flw_step er sr g).imp fun x H1 ⟨μ1, S1, a, e1, er1, sr1, r1, g1⟩ => g1 σ H1 μ1 (Ext.refl sr1) sr1 er1
theorem s_ret (he : PE X e (lfE T X.K W m)) : PS X (.Return (some e) pos) (lfS T X.K W fun ρ S => (m ρ S).flw ρ fun x S => .ret x S) :=
  (ps_ret he).imp fun D σ H ⟨μ, ρ, S, er, sr, g⟩ => (flw_step er sr g).imp fun x H1 ⟨μ1, S1, a, e1, er1, sr1, r1, g1⟩ => g1 x H1 μ1 (Ext.refl sr1) sr1 r1
theorem s_retN : PS X (.Return none pos) (lfS T X.K W fun ρ S => .ret .non S) :=
  ps_retN.imp fun D σ H ⟨μ, ρ, S, er, sr, g⟩ => g .non H μ (Ext.refl sr) sr (by simp only [Rep])
theorem s_ite (hc : PT X c (tB (lfE T X.K W m))) (ha : PSs X sts (lfS T X.K W ms)) (hb : PSs X sts2 (lfS T X.K W ms2)) : PS X (.If c sts sts2 pos) (lfS T X.K W fun ρ S => (m ρ S).flw ρ fun x S => match x with
    | .bl true => ms ρ S
    | .bl false => ms2 ρ S
    | _ => .bad) :=
  (ps_if hc ha hb).imp fun D σ H ⟨μ, ρ, S, er, sr, g⟩ => (flw_step er sr g).imp fun x H1 ⟨μ1, S1, a, e1, er1, sr1, r1, g1⟩ => by
    split at g1
    · exact ⟨true, r1.blE, μ1, ρ, S1, er1, sr1, g1⟩
    · exact ⟨false, r1.blE, μ1, ρ, S1, er1, sr1, g1⟩
    · exact g1.elim
abbrev mAsg (tg : Tg) (m : Env → Sto → Res Va) : Env → Sto → Flw := fun ρ S => (m ρ S).flw ρ fun x S => match setT tg x ρ S with
    | some ρ' => .nx ρ' S
    | none => .bad
theorem s_asg {te : Expr} (he : PE X e (lfE T X.K W m)) (hg : PG X te (gE X.K tg)) (hs : swapsWithSole [te] e pos.line X.env = pure false) (hw : swappedStores [te] e X.env = pure none) (h1 : (assignEach [te] X.env).map (·.2) = [assign te X.env]) : PS X (.Assign [te] e pos) (lfS T X.K W (mAsg tg m)) :=
  (ps_asg he hg hs hw h1).imp fun D σ H ⟨μ, ρ, S, er, sr, g⟩ => (flw_step er sr g).imp fun x H1 ⟨μ1, S1, a, e1, er1, sr1, r1, g1⟩ => by
    split at g1
    · rename_i ρ' hq
      refine ⟨μ1, ρ, S1, a, ρ', er1, sr1, ?_, hq, fun σ' er' _ => g1 σ' H1 μ1 (Ext.refl sr1) sr1 er'⟩
      cases tg
      · exact r1
      · exact .inl r1
    · exact g1.elim
theorem s_par {i j : Nat} {x y : Str} {px py pt : Pos} {kt k2 : Nat} {pt2 : Pos} (hc : X.calm = true) (hN : X.N.Nodup) (hi : X.N[i]? = some x) (hj : X.N[j]? = some y) (hij : i ≠ j) (hx : X.env.scope.names.lookup x = some .local) (hy : X.env.scope.names.lookup y = some .local)
    (ha : PE X a (lfE T X.K W m1)) (hb : PE X b (lfE T X.K W m2)) (pa : Plain a) (pb : Plain b) (hw : swappedStores [.Tuple [.Name x px, .Name y py] kt pt] (.Tuple [a, b] k2 pt2) X.env = pure (some [x, y])) :
    PS X (.Assign [.Tuple [.Name x px, .Name y py] kt pt] (.Tuple [a, b] k2 pt2) pos) (lfS T X.K W fun ρ S => (m1 ρ S).flw ρ fun x S => (m2 ρ S).flw ρ fun y S => .nx ((ρ.set i (some x)).set j (some y)) S) :=
  (ps_par hc hN hi hj hij hx hy (pa_cons ha (pa_cons hb pa_nil (pb _ _)) (pa _ _)) hw rfl).imp fun D σ H ⟨μ, ρ, S, er, sr, g⟩ => (flw_step er sr g).imp fun x H1 ⟨μ1, S1, a, e1, er1, sr1, r1, g1⟩ => (flw_step er1 sr1 g1).imp fun y H2 ⟨μ2, S2, b, e2, er2, sr2, r2, g2⟩ =>
    ⟨x, y, rfl, g2 _ H2 μ2 (Ext.refl sr2) sr2 ((er2.set (r1.mono sr1 e2)).set r2)⟩
theorem s_asgIx {o i v : Expr} {p : Pos} (hv : PE X v (lfE T X.K W m)) (ho : PE X o (lfE T X.K W m1)) (hi : PE X i (lfE T X.K W m2)) (hs : swapsWithSole [.Subscript o i p] v pos.line X.env = pure false)
    (ha : ∀ v, assign (.Subscript o i p) X.env v = (do let ov ← holding [v] (eval o X.env); let iv ← holding [v, ov] (eval i X.env); standAt p; holding [v, ov, iv] (setItem ov iv v); release [v, ov, iv] [])) :
    PS X (.Assign [.Subscript o i p] v pos) (lfS T X.K W fun ρ S => (m ρ S).flw ρ fun x S => (m1 ρ S).flw ρ fun y S => (m2 ρ S).flw ρ fun z S => match setI y z x S with
    | some S' => .nx ρ S'
    | none => .bad) :=
  (ps_asg hv (pg_sub ho hi set_list ha) hs (by cases v <;> rfl)).imp fun D σ H ⟨μ, ρ, S, er, sr, g⟩ => (flw_step er sr g).imp fun x H1 ⟨μ1, S1, vx, e1, er1, sr1, r1, g1⟩ => (flw_step er1 sr1 g1).imp fun y H2 ⟨μ2, S2, vy, e2, er2, sr2, r2, g2⟩ => (flw_step er2 sr2 g2).imp fun z H3 ⟨μ3, S3, vz, e3, er3, sr3, r3, g3⟩ => by
    unfold setI at g3
    split at g3
    · rename_i S' hS
      split at hS
      · rename_i a k _
        split at hS
        · rename_i xs hl
          split at hS
          · rename_i j hj
            cases hS
            obtain ⟨q, vs, rfl, hm, hp, hr⟩ := Rep.lst sr3 (r2.mono sr2 e3) hl
            have rx := (r1.mono sr1 e2).mono sr2 e3
            obtain ⟨sr4, e4⟩ := sr3.put hl hm hp (hr.set j rx)
            exact ⟨q, vs, k, j, rfl, r3.intE, hp, by rw [hr.length]; exact hj, g3 σ _ μ3 e4 sr4 (er3.mono sr3 e4)⟩
          · cases hS
        · cases hS
      · cases hS
    · exact g3.elim
/-! loops -/
theorem for_lf {K : PySem.W.Frag} {mi : Env → Sto → Res Wk} {body : Env → Sto → Flw} {D : Ends} {σ : Sl} {H : Hp} (h : lfS T K W (fun ρ S => (mi ρ S).flw ρ fun Wk S => forL body tg Wk.G Wk.items ρ S) D σ H) :
    tFor (lfI T K W tg.isOne mi) (gE K tg) (lfS T K W body) D σ H := by
  obtain ⟨μ, ρ, S, er, sr, g⟩ := h
  refine (flw_step er sr g).imp fun J H1 ⟨μ1, S1, Wk, e1, er1, sr1, r1, g1⟩ => ?_
  refine ⟨fun i m σ H => m = Wk.items.length - i ∧ i ≤ Wk.items.length ∧ ∃ μ ρ S, Ext μ1 H1 μ H ∧ SR K H μ S ∧ ER K H μ ρ σ ∧ GdS T K W (forL body tg Wk.G (Wk.items.drop i) ρ S) H μ D,
    ⟨Wk.items.length, rfl, Nat.zero_le _, μ1, ρ, S1, Ext.refl sr1, sr1, er1, g1⟩, ?_⟩
  rintro i m σ H ⟨rfl, hi, μ, ρ, S, e, sr, er, g⟩
  by_cases hlt : i < Wk.items.length
  · rw [List.drop_eq_getElem_cons hlt] at g
    unfold forL at g
    split at g
    case isFalse => exact g.elim
    rename_i st
    obtain ⟨hgo, hy⟩ := (r1 i H μ S e sr st).2 _ (List.getElem?_eq_getElem hlt)
    refine .inr ⟨hgo, fun σ H => ∃ m', m' = Wk.items.length - (i + 1) ∧ (i + 1) ≤ Wk.items.length ∧ ∃ μ ρ S, Ext μ1 H1 μ H ∧ SR K H μ S ∧ ER K H μ ρ σ ∧ GdS T K W (forL body tg Wk.G (Wk.items.drop (i + 1)) ρ S) H μ D,
      fun σ' H' ⟨m', q⟩ => ⟨m', by omega, q⟩, fun x H' yl => ?_⟩
    obtain ⟨e2, sr2, rx⟩ := hy x H' yl
    split at g
    · exact g.elim
    · rename_i ρ1 es
      refine ⟨μ, ρ, S, _, ρ1, er.mono sr e2, sr2, rx, es, fun σ2 er3 _ => ⟨μ, ρ1, S, er3, sr2, ?_⟩⟩
      have ee := e.trans e2
      have next : ∀ {ρ2 S2}, GdS T K W (forL body tg Wk.G (Wk.items.drop (i + 1)) ρ2 S2) H μ D → ∀ σ' H2 μ', Ext μ H' μ' H2 → SR K H2 μ' S2 → ER K H2 μ' ρ2 σ' → ∃ m', m' = Wk.items.length - (i + 1) ∧ (i + 1) ≤ Wk.items.length ∧ ∃ μ ρ S, Ext μ1 H1 μ H2 ∧ SR K H2 μ S ∧ ER K H2 μ ρ σ' ∧ GdS T K W (forL body tg Wk.G (Wk.items.drop (i + 1)) ρ S) H2 μ D :=
        fun {ρ2 S2} g σ' H2 μ' e3 sr3 er3 => ⟨_, rfl, hlt, μ', ρ2, S2, ee.trans e3, sr3, er3, GdS.ext g (e2.trans e3)⟩
      cases hb : body ρ1 S with
      | nx ρ2 S2 => rw [hb] at g; exact next g
      | cnt ρ2 S2 => rw [hb] at g; exact next g
      | brk ρ2 S2 => rw [hb] at g; exact GdS.ext g e2
      | ret v S2 => rw [hb] at g; exact GdS.ext g e2
      | exn c x ρ2 S2 => rw [hb] at g; exact GdS.ext g e2
      | bad => rw [hb] at g; exact g.elim
  · have hi' : i = Wk.items.length := by omega
    rw [hi', List.drop_length] at g
    unfold forL at g
    split at g
    · rename_i st
      exact .inl ⟨(r1 i H μ S e sr st).1 hi', g σ H μ (Ext.refl sr) sr er⟩
    · exact g.elim
include co in
theorem s_for {te it : Expr} {mi : Env → Sto → Res Wk} (hi : PI X te it (lfI T X.K W tg.isOne mi)) (hg : PG X te (gE X.K tg)) (hb : PSs X sts (lfS T X.K W ms)) (hs : ∀ x, foldedSetIterable it X.env x = pure x) :
    PS X (.For te it sts [] pos) (lfS T X.K W fun ρ S => (mi ρ S).flw ρ fun Wk S => forL ms tg Wk.G Wk.items ρ S) :=
  (ps_for co.pass co.calm hi hg hb hs).imp fun D σ H h => for_lf h
theorem whl_lf {K : PySem.W.Frag} {body : Env → Sto → Flw} {D : Ends} {σ : Sl} {H : Hp} {n : Nat} (h : lfS T K W (fun ρ S => whlL m body n ρ S) D σ H) : tWhile (tB (lfE T K W m)) (lfS T K W body) D σ H := by
  obtain ⟨μ, ρ, S, er, sr, g⟩ := h
  refine ⟨fun n σ H => ∃ μ ρ S, ER K H μ ρ σ ∧ SR K H μ S ∧ GdS T K W (whlL m body n ρ S) H μ D, ⟨n, μ, ρ, S, er, sr, g⟩, ?_⟩
  rintro n σ H ⟨μ, ρ, S, er, sr, g⟩
  cases n with
  | zero => exact g.elim
  | succ n =>
    unfold whlL at g
    refine (flw_step er sr g).imp fun x H1 ⟨μ1, S1, a, e1, er1, sr1, r1, g1⟩ => ?_
    split at g1
    · refine ⟨true, r1.blE, ?_⟩
      show ite (true = true) _ _
      rw [if_pos rfl]
      refine ⟨fun σ' H' => ∃ μ ρ S, ER K H' μ ρ σ' ∧ SR K H' μ S ∧ GdS T K W (whlL m body n ρ S) H' μ D, fun σ' H' q => ⟨n, Nat.lt_succ_self n, q⟩, μ1, ρ, S1, er1, sr1, ?_⟩
      have next : ∀ {ρ2 S2}, GdS T K W (whlL m body n ρ2 S2) H1 μ1 D → ∀ σ' H2 μ', Ext μ1 H1 μ' H2 → SR K H2 μ' S2 → ER K H2 μ' ρ2 σ' → ∃ μ ρ S, ER K H2 μ ρ σ' ∧ SR K H2 μ S ∧ GdS T K W (whlL m body n ρ S) H2 μ D :=
        fun {ρ2 S2} g σ' H2 μ' e3 sr3 er3 => ⟨μ', ρ2, S2, er3, sr3, GdS.ext g e3⟩
      cases hb : body ρ S1 with
      | nx ρ2 S2 => rw [hb] at g1; exact next g1
      | cnt ρ2 S2 => rw [hb] at g1; exact next g1
      | brk ρ2 S2 => rw [hb] at g1; exact g1
      | ret v S2 => rw [hb] at g1; exact g1
      | exn c x ρ2 S2 => rw [hb] at g1; exact g1
      | bad => rw [hb] at g1; exact g1.elim
    · refine ⟨false, r1.blE, ?_⟩
      show ite (false = true) _ _
      rw [if_neg Bool.false_ne_true]
      exact g1 σ H1 μ1 (Ext.refl sr1) sr1 er1
    · exact g1.elim
include co in
theorem s_whl {n : Nat} (hc : PT X c (tB (lfE T X.K W m))) (hb : PSs X sts (lfS T X.K W ms)) : PS X (.While c sts [] pos) (lfS T X.K W fun ρ S => whlL m ms n ρ S) :=
  (ps_while co.pass hc hb).imp fun D σ H h => whl_lf h
/-- x = [..] on one line -/
theorem s_setLc {i : Nat} {y : Str} {py spos : Pos} {elt te iter : Expr} {ifs : List Expr} {scope : Scope} {own : List (Str × Nat)} {wi : TI} {gt : TG} {tt : TT} {ten : TE} (hc : X.calm = true) (hN : X.N.Nodup) (hy : X.N[i]? = some y) (hyl : X.env.scope.names.lookup y = some .local)
    (hsw : swapsWith (.ListComp elt [⟨te, iter, ifs, 0⟩] scope pos) (some (.Name y py)) spos.line X.env = pure true) (hi : PI X te iter wi) (ok : BlkOk X.N X.env.scope scope own)
    (hg : ∀ (s : Shared) (H : Hp) (C : Addr) (cl : List (Str × Addr)) (fp : List Addr), PG (X.blk s H scope (compEnvC scope cl C X.env) fp) te gt) (ht : ∀ (s : Shared) (H : Hp) (C : Addr) (cl : List (Str × Addr)) (fp : List Addr), PTs (X.blk s H scope (compEnvC scope cl C X.env) fp) ifs tt)
    (he : ∀ (s : Shared) (H : Hp) (C : Addr) (cl : List (Str × Addr)) (fp : List Addr), PE (X.blk s H scope (compEnvC scope cl C X.env) fp) elt ten) (hs : ∀ x, foldedSetIterable iter X.env x = pure x)
    (hm : ∀ σ H Q, lfE T X.K W m σ H Q → tLc wi gt tt ten (own.map (·.2)) σ H Q) : PS X (.Assign [.Name y py] (.ListComp elt [⟨te, iter, ifs, 0⟩] scope pos) spos) (lfS T X.K W (mAsg (.one i) m)) :=
  (ps_setLc hc hN hy hyl hsw hi ok hg ht he hs).imp fun D σ H ⟨μ, ρ, S, er, sr, g⟩ => hm _ _ _ ((flw_step er sr g).imp fun x H1 ⟨μ1, S1, a, e1, er1, sr1, r1, g1⟩ => g1 _ H1 μ1 (Ext.refl sr1) sr1 (er1.set r1))
end
end EV

end
section
set_option Elab.async false
set_option linter.all false
set_option maxRecDepth 100000
set_option maxHeartbeats 16000000
/-! EV, part R: a text's statement is the term's. -/
namespace EV
open PySem PySem.Spec PyProof.Rows L2
def notComp : Expr → Bool
  | .ListComp .. => false
  | .SetComp .. => false
  | .DictComp .. => false
  | _ => true
theorem sw_not {e : Expr} {t : Option Expr} {l : Nat} {env : PySem.Env} (h : notComp e = true) : swapsWith e t l env = pure false := by
  cases e <;> first | rfl | cases h
/-- targets whose stores are not exchanged -/
def isNm : Expr → Bool
  | .Name .. => true
  | _ => false
def swN (g : Cfg) (tg e : Expr) : Bool := match tg with
  | .Name .. => true
  | .Tuple ts _ _ => (match e with
    | .Tuple vs _ _ => !(ts.length == 2 || ts.length == 3) || ts.any fun t => (match t with | .Name x _ => !(g.ns.lookup x == some .local) | _ => false)
    | _ => true)
  | _ => false
theorem lt_of_none {α β : Type} {f : α → Option β} : ∀ {l : List α} {a : α}, a ∈ l → f a = none → (l.filterMap f).length < l.length
  | b :: l, a, m, h => by
    rw [List.filterMap_cons]
    rcases List.mem_cons.mp m with rfl | m
    · rw [h]
      exact Nat.lt_succ_of_le (List.length_filterMap_le f l)
    · have ih := lt_of_none m h
      cases f b with
      | none => exact Nat.lt_succ_of_lt ih
      | some x => exact Nat.succ_lt_succ ih
theorem sw_none {g : Cfg} {tg e : Expr} {env : PySem.Env} (hns : env.scope.names = g.ns) (h : swN g tg e = true) : swappedStores [tg] e env = pure none := by
  unfold swN at h
  split at h
  · cases e <;> rfl
  · rename_i ts k p
    split at h
    · rename_i vs k2 p2
      rw [Bool.or_eq_true] at h
      unfold swappedStores
      show (if (!(ts.length == 2 || ts.length == 3) || vs.length != ts.length || env.blockKind != .function) = true then _ else _) = _
      split
      · rfl
      · rename_i h1
        rcases h with h | h
        · rw [h] at h1
          exact absurd rfl h1
        · rw [List.any_eq_true] at h
          obtain ⟨t, m, ht⟩ := h
          show (if (vs.any fun | .Starred .. => true | _ => false) = true then _ else _) = _
          split
          · rfl
          · have q : (ts.filterMap fun
                | .Name id pos => if (env.kindOf id == some NameKind.local && pos.line == (ts.head?.map (·.pos.line)).getD 0) = true then some id else none
                | _ => none).length < ts.length := by
              refine lt_of_none m ?_
              cases t with
              | Name x p =>
                have z : (env.kindOf x == some NameKind.local) = false := by
                  unfold Env.kindOf
                  rw [hns]
                  simpa using ht
                simp only [z, Bool.false_and, Bool.false_eq_true, if_false]
              | _ => cases ht
            have z : (((ts.filterMap fun
                | .Name id pos => if (env.kindOf id == some NameKind.local && pos.line == (ts.head?.map (·.pos.line)).getD 0) = true then some id else none
                | _ => none).length != ts.length) || ((ts.filterMap fun
                | .Name id pos => if (env.kindOf id == some NameKind.local && pos.line == (ts.head?.map (·.pos.line)).getD 0) = true then some id else none
                | _ => none).eraseDups.length != (ts.filterMap fun
                | .Name id pos => if (env.kindOf id == some NameKind.local && pos.line == (ts.head?.map (·.pos.line)).getD 0) = true then some id else none
                | _ => none).length)) = true := by
              rw [Bool.or_eq_true]
              exact .inl (by rw [bne_iff_ne]; exact Nat.ne_of_lt q)
            exact if_pos z
    · cases e <;> first | rfl | (rename_i h2; exact absurd rfl (h2 _ _ _))
  · cases h
def starE : Expr → Bool
  | .Starred .. => true
  | _ => false
def parC (g : Cfg) (x : Str) (px : Pos) (y : Str) (py : Pos) (a b : Expr) : Bool :=
  (g.ns.lookup x == some .local) && (g.ns.lookup y == some .local) && (py.line == px.line) && !(y == x) && !(x == y) && !starE a && !starE b && !(foldedForSure 8 a && foldedForSure 8 b) && !(constantsAlone 8 a && constantsAlone 8 b)
theorem sw_par {g : Cfg} {x y : Str} {px py pt pt2 : Pos} {kt k2 : Nat} {a b : Expr} {env : PySem.Env} (hk : env.scope.kind = .function) (hns : env.scope.names = g.ns) (h : parC g x px y py a b = true) :
    swappedStores [.Tuple [.Name x px, .Name y py] kt pt] (.Tuple [a, b] k2 pt2) env = pure (some [x, y]) := by
  unfold parC at h
  simp only [Bool.and_eq_true, Bool.not_eq_true'] at h
  obtain ⟨⟨⟨⟨⟨⟨⟨⟨h1, h2⟩, h3⟩, h4⟩, h4'⟩, h5⟩, h6⟩, h7⟩, h8⟩ := h
  have kx : (env.kindOf x == some NameKind.local) = true := by unfold Env.kindOf; rw [hns]; exact h1
  have ky : (env.kindOf y == some NameKind.local) = true := by unfold Env.kindOf; rw [hns]; exact h2
  have hb : env.blockKind = .function := by unfold Env.blockKind; rw [hk]; rfl
  have s1 : ∀ f : Expr → Bool, (∀ e, f e = starE e) → [a, b].any f = false := fun f hf => by simp [hf, h5, h6]
  unfold swappedStores
  show (if (!(([.Name x px, .Name y py] : List Expr).length == 2 || ([.Name x px, .Name y py] : List Expr).length == 3) || ([a, b] : List Expr).length != ([.Name x px, .Name y py] : List Expr).length || env.blockKind != .function) = true then _ else _) = _
  rw [if_neg (by rw [hb]; exact Bool.false_ne_true)]
  show (if ([a, b].any fun | .Starred .. => true | _ => false) = true then _ else _) = _
  rw [if_neg (by rw [s1 _ (fun e => by cases e <;> rfl)]; exact Bool.false_ne_true)]
  have e : (([.Name x px, .Name y py] : List Expr).filterMap fun
                | .Name id pos => if (env.kindOf id == some NameKind.local && pos.line == (([.Name x px, .Name y py] : List Expr).head?.map (·.pos.line)).getD 0) = true then some id else none
                | _ => none) = [x, y] := by
    show List.filterMap _ [Expr.Name x px, Expr.Name y py] = [x, y]
    have q1 : (px.line == px.line) = true := beq_self_eq_true _
    simp only [List.filterMap_cons, List.filterMap_nil, kx, ky, Bool.true_and, List.head?_cons, Option.map_some, Option.getD_some, Expr.pos, h3, q1, if_true]
  have ed : ([x, y] : List Str).eraseDups = [x, y] := by
    simp [List.eraseDups_cons, h4]
  show (if (((([.Name x px, .Name y py] : List Expr).filterMap fun
                | .Name id pos => if (env.kindOf id == some NameKind.local && pos.line == (([.Name x px, .Name y py] : List Expr).head?.map (·.pos.line)).getD 0) = true then some id else none
                | _ => none).length != ([.Name x px, .Name y py] : List Expr).length) || ((([.Name x px, .Name y py] : List Expr).filterMap fun
                | .Name id pos => if (env.kindOf id == some NameKind.local && pos.line == (([.Name x px, .Name y py] : List Expr).head?.map (·.pos.line)).getD 0) = true then some id else none
                | _ => none).eraseDups.length != (([.Name x px, .Name y py] : List Expr).filterMap fun
                | .Name id pos => if (env.kindOf id == some NameKind.local && pos.line == (([.Name x px, .Name y py] : List Expr).head?.map (·.pos.line)).getD 0) = true then some id else none
                | _ => none).length)) = true then _ else _) = _
  rw [e, ed, if_neg (show ¬ (([x, y].length != [Expr.Name x px, Expr.Name y py].length || [x, y].length != [x, y].length) = true) from Bool.false_ne_true)]
  show (if ([a, b].all (foldedForSure 8)) = true then _ else _) = _
  rw [if_neg (by
    show ¬ (foldedForSure 8 a && (foldedForSure 8 b && true)) = true
    rw [Bool.and_true, h7]; decide)]
  show (if ([a, b].all (constantsAlone 8)) = true then _ else _) = _
  rw [if_neg (by
    show ¬ (constantsAlone 8 a && (constantsAlone 8 b && true)) = true
    rw [Bool.and_true, h8]; decide)]
  exact congrArg (fun l => pure (some l)) e
/-- x = [..]: are the stores exchanged -/
def swB (g : Cfg) (y : Str) (py : Pos) (scope : Scope) (pos : Pos) : Bool := (g.ns.lookup y == some .local) && (py.line == pos.line) && !(scope.names.any fun (n, k) => n == y && (k == .local || k == .cell))
mutual
def ckS : Sx → Cfg → Stmt → Bool
  | .asg tg e, g, s => match s with
    | .Assign [tg'] e' _ => tgC g tg tg' && ckE e g e' && (if notComp e' then swN g tg' e' else (match tg', e' with
      | .Name y py, .ListComp _ _ scope pos => swB g y py scope pos || (g.ns.lookup y == some .cell)
      | _, _ => false))
    | _ => false
  | .par i j a b, g, s => match s with
    | .Assign [.Tuple [.Name x px, .Name y py] _ _] (.Tuple [a', b'] _ _) _ => decide (g.N[i]? = some x) && decide (g.N[j]? = some y) && decide (i ≠ j) && parC g x px y py a' b' && ckE a g a' && ckE b g b'
    | _ => false
  | .asgIx o i v, g, s => match s with
    | .Assign [.Subscript o' i' _] v' _ => ckE o g o' && ckE i g i' && ckE v g v' && notComp v'
    | _ => false
  | .expr e, g, s => match s with
    | .Expr e' _ => ckE e g e' && notComp e'
    | _ => false
  | .ret e, g, s => match s with
    | .Return (some e') _ => ckE e g e'
    | .Return none _ => (match e with | .cst .non => true | _ => false)
    | _ => false
  | .ite c a b, g, s => match s with
    | .If c' a' b' _ => ckE c g c' && ckSs a g a' && ckSs b g b'
    | _ => false
  | .fors tg it body, g, s => match s with
    | .For tg' it' body' [] _ => ckI it g tg.isOne it' tg' && tgC g tg tg' && ckSs body g body'
    | _ => false
  | .whil c body, g, s => match s with
    | .While c' body' [] _ => ckE c g c' && ckSs body g body'
    | _ => false
  | .rais _ _, _, _ => false
  | .tryx _ _, _, _ => false
  | .pass, _, s => match s with
    | .Pass _ => true
    | _ => false
  | .brk, _, s => match s with
    | .Break _ => true
    | _ => false
  | .cont, _, s => match s with
    | .Continue _ => true
    | _ => false
def ckSs : Sxs → Cfg → List Stmt → Bool
  | .nil, _, ss => ss.isEmpty
  | .cons s r, g, ss => match ss with
    | s' :: r' => ckS s g s' && ckSs r g r'
    | [] => false
end
end EV

end
section
set_option Elab.async false
set_option linter.all false
set_option maxRecDepth 100000
set_option maxHeartbeats 16000000
/-! EV, part S: every statement that is the term's keeps its promise. -/
namespace EV
open PySem PySem.Spec PyProof.Rows L2
section
variable {T : Ct} {C : Kx} {kk : Nat}
theorem asN {tg : Expr} {g : Cfg} {e : Expr} {env : PySem.Env} (h : swN g tg e = true) : (assignEach [tg] env).map (·.2) = [assign tg env] := by
  cases tg <;> first | rfl | (simp [swN] at h)
theorem sole_not {t e : Expr} {l : Nat} {env : PySem.Env} (h : notComp e = true) : swapsWithSole [t] e l env = pure false := by
  unfold swapsWithSole
  exact sw_not h
/-- o[i] = .., i an expression of ours -/
theorem asSub {g : Cfg} : ∀ {x : Ex} {i : Expr}, ckE x g i = true → ∀ (o : Expr) (p : Pos) (env : PySem.Env) (v : Value),
    assign (.Subscript o i p) env v = (do let ov ← holding [v] (eval o env); let iv ← holding [v, ov] (eval i env); standAt p; holding [v, ov, iv] (setItem ov iv v); release [v, ov, iv] []) := fun {x i} h o p env v => by
  cases i <;> first | rfl | (exfalso; cases x <;> (unfold ckE at h; first | cases h | (split at h <;> first | (rename_i hx; cases hx) | cases h)))
mutual
theorem okS : ∀ (s : Sx) {g : Cfg} {X : L2.Cx} {W : WX} (co : CO T g X C kk W) {st : Stmt}, ckS s g st = true → PS X st (lfS T X.K W (evS C none s))
  | .asg tg e, g, X, W, co, st, h => by
    unfold ckS at h
    split at h
    · rename_i tg' e' pos
      simp only [Bool.and_eq_true] at h
      obtain ⟨⟨h1, h2⟩, h3⟩ := h
      have q := okE e co h2
      have gg := tg_of co h1
      split at h3
      · rename_i hn
        exact s_asg q.pe gg (sw_not hn) (sw_none co.ns h3) (asN h3)
      · split at h3
        · rename_i y py el gs scope p2 _
          rw [Bool.or_eq_true] at h3
          by_cases hB : swB g y py scope p2 = true
          · unfold swB at hB
            simp only [Bool.and_eq_true, Bool.not_eq_true'] at hB
            obtain ⟨⟨b1, b2⟩, b3⟩ := hB
            have b1' : X.env.scope.names.lookup y = some .local := by rw [co.ns]; exact eq_of_beq b1
            cases e with
            | comp el2 tg2 it c own =>
              unfold ckE at h2
              split at h2
              · rename_i e2 tg3 it2 ifs as scope3 pos3 hx
                cases hx
                simp only [Bool.and_eq_true, decide_eq_true_eq] at h2
                obtain ⟨⟨⟨⟨⟨⟨rfl, k2⟩, k3⟩, k4⟩, k5⟩, k6⟩, k7⟩ := h2
                have ok := blk_of co k3
                have cb := fun s H D cl fp => co_blk co ok.kind s H D cl fp
                obtain ⟨i1, i2⟩ := okI it co k4
                cases tg with
                | many is => simp [tgC] at h1
                | one i =>
                  simp only [tgC, Bool.and_eq_true, decide_eq_true_eq] at h1
                  have go : ∀ {tc : Option TE} {mt : Env → Sto → Res Va} (_ : ∀ (s : Shared) (H : Hp) (D : Addr) (cl : List (Str × Addr)) (fp : List Addr), PTs (X.blk s H scope (compEnvC scope cl D X.env) fp) ifs (ttO tc))
                      (_ : (tc = none ∧ ∀ ρ S, evO C none c ρ S = .ok none S) ∨ (tc = some (lfE T X.K noX mt) ∧ ∀ ρ S, evO C none c ρ S = (mt ρ S).bind fun x S => .ok (some x) S)), PS X (.Assign [.Name y py] (.ListComp el [⟨tg3, it2, ifs, 0⟩] scope p2) pos) (lfS T X.K W (mAsg (.one i) (evE C none (.comp el2 tg2 it c own)))) := fun {tc mt} ht hc =>
                    s_setLc (ten := lfE T X.K noX (evE C none el2)) (tt := ttO tc) (gt := gE X.K tg2) co.calm co.nd (by rw [co.N]; exact h1.1) b1' (sw_true co.kind b1' b2 b3) i1 ok (fun s H D cl fp => tg_of (cb s H D cl fp) k5) ht (fun s H D cl fp => (okE el2 (cb s H D cl fp) k6).pe) (i2 _) fun σ H Q hq => by
                      rw [own_map]
                      exact comp_lf (mi := evI C none it) k2 hc hq
                  split at k7
                  · exact go (tc := none) (mt := fun _ _ => .bad) (fun _ _ _ _ _ => pts_nil) (.inl ⟨rfl, fun _ _ => rfl⟩)
                  · rename_i d d' _
                    exact go (tc := some (lfE T X.K noX (evE C none d))) (mt := evE C none d) (fun s H D cl fp => pts_one (okE d (cb s H D cl fp) k7).pt) (.inr ⟨rfl, fun _ _ => rfl⟩)
                  · cases k7
              · cases h2
            | _ => exfalso; unfold ckE at h2; first | cases h2 | (split at h2 <;> first | (rename_i hx; cases hx) | cases h2)
          · rcases h3 with h3 | h3
            · exact absurd h3 hB
            · refine s_asg q.pe gg ?_ rfl rfl
              have hk : (X.env.kindOf y == some NameKind.local) = false := by
                unfold Env.kindOf
                rw [co.ns, eq_of_beq h3]
                rfl
              show (pure (X.env.blockKind == .function && X.env.kindOf y == some .local && py.line == p2.line && !(scope.names.any fun (n, k) => n == y && (k == .local || k == .cell))) : Sem Bool) = pure false
              rw [hk]
              simp
        · cases h3
    · cases h
  | .par i j a b, g, X, W, co, st, h => by
    unfold ckS at h
    split at h
    · simp only [Bool.and_eq_true, decide_eq_true_eq] at h
      obtain ⟨⟨⟨⟨⟨h1, h2⟩, h3⟩, h4⟩, h5⟩, h6⟩ := h
      have z := h4
      unfold parC at z
      simp only [Bool.and_eq_true] at z
      have zx := z.1.1.1.1.1.1.1.1
      have zy := z.1.1.1.1.1.1.1.2
      exact s_par co.calm co.nd (by rw [co.N]; exact h1) (by rw [co.N]; exact h2) h3 (by rw [co.ns]; exact eq_of_beq zx) (by rw [co.ns]; exact eq_of_beq zy) (okE a co h5).pe (okE b co h6).pe (okE a co h5).pl (okE b co h6).pl (sw_par co.kind co.ns h4)
    · cases h
  | .asgIx o i v, g, X, W, co, st, h => by
    unfold ckS at h
    split at h
    · simp only [Bool.and_eq_true] at h
      obtain ⟨⟨⟨h1, h2⟩, h3⟩, h4⟩ := h
      exact s_asgIx (okE v co h3).pe (okE o co h1).pe (okE i co h2).pe (sole_not h4) (asSub h2 _ _ _)
    · cases h
  | .expr e, g, X, W, co, st, h => by
    unfold ckS at h
    split at h
    · simp only [Bool.and_eq_true] at h
      exact s_expr (okE e co h.1).pe (sw_not h.2)
    · cases h
  | .ret e, g, X, W, co, st, h => by
    unfold ckS at h
    split at h
    · exact s_ret (okE e co h).pe
    · split at h
      · exact s_retN
      · cases h
    · cases h
  | .ite c a b, g, X, W, co, st, h => by
    unfold ckS at h
    split at h
    · simp only [Bool.and_eq_true] at h
      obtain ⟨⟨h1, h2⟩, h3⟩ := h
      exact s_ite (okE c co h1).pt (okSs a co h2) (okSs b co h3)
    · cases h
  | .fors tg it body, g, X, W, co, st, h => by
    unfold ckS at h
    split at h
    · simp only [Bool.and_eq_true] at h
      obtain ⟨⟨h1, h2⟩, h3⟩ := h
      obtain ⟨i1, i2⟩ := okI it co h1
      exact s_for co i1 (tg_of co h2) (okSs body co h3) (i2 _)
    · cases h
  | .whil c body, g, X, W, co, st, h => by
    unfold ckS at h
    split at h
    · simp only [Bool.and_eq_true] at h
      exact s_whl co (n := C.fuel) (okE c co h.1).pt (okSs body co h.2)
    · cases h
  | .rais c e, g, X, W, co, st, h => by
    unfold ckS at h
    cases h
  | .tryx b hs, g, X, W, co, st, h => by
    unfold ckS at h
    cases h
  | .pass, g, X, W, co, st, h => by
    unfold ckS at h
    split at h
    · exact s_pass
    · cases h
  | .brk, g, X, W, co, st, h => by
    unfold ckS at h
    split at h
    · exact s_brk
    · cases h
  | .cont, g, X, W, co, st, h => by
    unfold ckS at h
    split at h
    · exact s_cont
    · cases h
theorem okSs : ∀ (ss : Sxs) {g : Cfg} {X : L2.Cx} {W : WX} (co : CO T g X C kk W) {sts : List Stmt}, ckSs ss g sts = true → PSs X sts (lfS T X.K W (evSs C none ss))
  | .nil, g, X, W, co, sts, h => by
    unfold ckSs at h
    have e : sts = [] := List.isEmpty_iff.mp h
    subst e
    exact s_nil
  | .cons s r, g, X, W, co, sts, h => by
    unfold ckSs at h
    split at h
    · simp only [Bool.and_eq_true] at h
      exact s_cons (okS s co h.1) (okSs r co h.2)
    · cases h
end
end
end EV

end
section
set_option Elab.async false
set_option linter.all false
set_option maxRecDepth 100000
set_option maxHeartbeats 16000000
/-! EV, part T: defs; the law. -/
namespace EV
open PySem PySem.Spec PyProof.Rows L2
section
variable {K : PySem.W.Frag} {H : Hp} {μ : List Addr}
theorem Reps.getAll : ∀ {xs : List Va} {vs : List V} {i : Nat} {v : Va}, Reps K H μ xs vs → (xs.map some)[i]? = some (some v) → ∃ w, (vs.map some)[i]? = some (some w) ∧ Rep K H μ v w := fun {xs vs i v} r h => by
  rw [List.getElem?_map] at h
  cases hx : xs[i]? with
  | none => rw [hx] at h; cases h
  | some y =>
    rw [hx] at h
    cases h
    obtain ⟨w, h1, h2⟩ := r.get hx
    exact ⟨w, by rw [List.getElem?_map, h1]; rfl, h2⟩
theorem start_er {N : List Str} {xs : List Va} {vs : List V} (r : Reps K H μ xs vs) : ER K H μ (startE N xs) (L2.start N vs) := by
  have hl := r.length
  refine ⟨?_, fun i v h => ?_⟩
  · unfold startE L2.start
    simp [hl]
  · unfold startE at h
    unfold L2.start
    by_cases hi : i < xs.length
    · rw [List.getElem?_append_left (by simpa using hi)] at h
      obtain ⟨w, h1, h2⟩ := r.getAll h
      exact ⟨w, by rw [List.getElem?_append_left (by simpa [hl] using hi)]; exact h1, h2⟩
    · rw [List.getElem?_append_right (by simpa using hi)] at h
      have q := (List.mem_replicate.mp (List.mem_of_getElem? h)).2
      cases q
end
/-- the text's defs, by number -/
structure Text (D : Nat → Option Def) (glo : List (Str × Cst)) (fns : List (Str × List (Nat × List Str × List Nat))) (tp : Nat → Stmt) : Prop where
  st : ∀ i d, D i = some d → FnScope d.N d.ps (defScope (tp i)) ∧ ckSs d.body ⟨d.N, (defScope (tp i)).names, none, glo, fns⟩ (defBody (tp i)) = true
/-- .. as they stand behind the top -/
structure Stood (D : Nat → Option Def) (glo : List (Str × Cst)) (fns : List (Str × List (Nat × List Str × List Nat))) (tp : Nat → Stmt) (K : PySem.W.Frag) (mg : Str → Option Value) : Prop where
  blt : ∀ x ∈ bltNames, mg x = none
  glo : ∀ x c, (x, c) ∈ glo → ∃ u, mg x = some u ∧ RelV c.v u
  fns : ∀ (i : Nat) (nm : Str) (bs : List (Nat × List Str × List Nat)), fns[i]? = some (nm, bs) → ∃ d f fd, D i = some d ∧ mg nm = some (.ref f) ∧ L2.Fun K d.nm d.nm (tp i) f fd ∧
    ∀ b ∈ bs, Bnd fd d.ps b.1 b.2.1 b.2.2 ∧ b.2.2.length = d.ps.length
section
variable {P : Program} {w : World} {K : PySem.W.Frag} {mg : Str → Option Value} {base : Heap} {T : Ct} {D : Nat → Option Def} {glo : List (Str × Cst)} {fns : List (Str × List (Nat × List Str × List Nat))} {tp : Nat → Stmt} {anc : Nat → List Nat} {fuel : Nat}
abbrev spE (T : Ct) (K : PySem.W.Frag) (D : Nat → Option Def) (anc : Nat → List Nat) (fuel n i : Nat) (ps : List Str) : Sp := fun vs H Q E => vs.length = ps.length ∧ callSp T K (run D anc fuel n i) vs H Q E
theorem run_ok (X : Text D glo fns tp) (Y : Stood D glo fns tp K mg) : ∀ (n i : Nat) (d : Def) (f : Addr) (fd : FuncData), D i = some d → L2.Fun K d.nm d.nm (tp i) f fd →
    FnG P w K mg base (L2.CX P w) n f fd d.ps (spE T K D anc fuel n i d.ps)
  | 0, i, d, f, fd, hd, F => ⟨fun _ _ _ _ h => h.1, fun _ _ _ _ _ _ _ _ _ _ _ _ _ _ ⟨_, _, _, _, _, _, g⟩ => by
      exact g.elim⟩
  | n + 1, i, d, f, fd, hd, F => by
    obtain ⟨sc, ck⟩ := X.st i d hd
    refine fnG_of F sc (fun _ _ _ _ h => h.1) fun cdv A outer s H vs Q E hr hg ⟨hl, μ, S, xs, sr, rs, g⟩ => ?_
    have co : CO T ⟨d.N, (defScope (tp i)).names, none, glo, fns⟩ (cxOf (L2.CX P w) P w K mg base d.N d.nm (defScope (tp i)) f cdv A outer s H E) ⟨run D anc fuel n, anc, fuel⟩ n (fun cls d _ H' => E cls d H') := {
      N := rfl
      nd := sc.nd
      calm := rfl
      un := by have z := hr.un; show (A.deeper _).units + 65 < cLine; omega
      room := hr
      gd := hg
      kind := sc.kind
      ns := rfl
      fn := fun _ _ => rfl
      pass := L2.passes_of (K := fun e s'' => L2.CX P w outer H s E e s'') rfl
      takes := L2.takes_of rfl rfl rfl rfl
      blt := Y.blt
      glo := Y.glo
      fns := fun j nm bs hj => by
        obtain ⟨d', f', fd', h1, h2, h3, h4⟩ := Y.fns j nm bs hj
        exact ⟨f', fd', d'.ps, h2, h3.kp, run_ok X Y n j d' f' fd' h1 h3, h4⟩ }
    refine ⟨_, okSs d.body co ck, μ, startE d.N xs, S, start_er rs, sr, ?_⟩
    have hx : xs.length = d.ps.length := by rw [← rs.length]; exact hl
    replace g : GdV T K E (match D i with
      | none => .bad
      | some d => if xs.length = d.ps.length then (match evSs ⟨run D anc fuel n, anc, fuel⟩ none d.body (startE d.N xs) S with
        | .ret v S' => .ok v S'
        | .nx _ S' => .ok .non S'
        | .exn c x _ S' => .exn c x S'
        | _ => .bad) else .bad) H μ Q := g
    rw [hd] at g
    dsimp only at g
    rw [if_pos hx] at g
    cases h : evSs ⟨run D anc fuel n, anc, fuel⟩ none d.body (startE d.N xs) S with
    | ret v S' => rw [h] at g; exact g
    | nx ρ' S' => rw [h] at g; exact fun σ' H' μ' e sr' _ => g .non H' μ' e sr' (by simp only [Rep])
    | exn c x ρ' S' => rw [h] at g; exact fun cls d σ' H' μ' e sr' _ x => g cls d H' μ' e sr' x
    | brk ρ' S' => rw [h] at g; exact g.elim
    | cnt ρ' S' => rw [h] at g; exact g.elim
    | bad => rw [h] at g; exact g.elim
end
end EV

end
section
set_option Elab.async false
set_option linter.all false
set_option maxRecDepth 100000
set_option maxHeartbeats 16000000
/-! EV, part U: from the reckoning of the law's def to the law. -/
namespace EV
open PySem PySem.Spec PyProof.Rows L2
section
variable {P : Program} {w : World} {K : PySem.W.Frag} {mg mb : Str → Option Value} {k : Nat} {fa a : Addr} {fd : FuncData} {x : Str} {sp : Sp} {t : Shared} {vs : List Value} {ns : List Int}
/-- the script's own place in the heap at the law's entry -/
def scrH (K : PySem.W.Frag) (a : Addr) (vs : List Value) (ns : List Int) : Hp := fun b => if b = a ∧ K.lookup a = none then some (.frz { cls := .type "list", data := .seq vs.toArray } (.lst (ns.map V.int))) else none
theorem scrH_some {b : Addr} {u : HO} (h : scrH K a vs ns b = some u) : b = a ∧ K.lookup a = none ∧ u = .frz { cls := .type "list", data := .seq vs.toArray } (.lst (ns.map V.int)) := by
  unfold scrH at h
  split at h
  · rename_i hb
    exact ⟨hb.1, hb.2, (Option.some.inj h).symm⟩
  · cases h
theorem scrH_lis (KX : K.In t.heap) (ha : t.heap.get? a = some { cls := .type "list", data := .seq vs.toArray }) (rv : Vals (ns.map V.int) vs) (hl : ns.length ≤ sizeLine) : LisX K (scrH K a vs ns) a (ns.map V.int) := by
  cases hk : K.lookup a with
  | none => exact .inl ⟨_, if_pos ⟨rfl, hk⟩⟩
  | some o =>
    have e := KX a o hk
    rw [ha] at e
    cases e
    have hv := rv.length
    rw [List.length_map] at hv
    exact .inr ⟨{ cls := .type "list", data := .seq vs.toArray }, vs.toArray, 0, hk, rfl, rfl, rfl, by rw [List.size_toArray, ← hv]; exact hl, by simpa using rv⟩
theorem scrH_ok {Pr : Program} {wd : World} (ha : t.heap.get? a = some { cls := .type "list", data := .seq vs.toArray }) (rv : Vals (ns.map V.int) vs) (hl : ns.length ≤ sizeLine) : HOk Pr wd (scrH K a vs ns) t.heap := fun b u h => by
  obtain ⟨rfl, _, rfl⟩ := scrH_some h
  exact ⟨ha, by rw [List.length_map]; exact hl, vs, _, rv, ha⟩
/-- the modules' facts stand below what is tracked -/
theorem scrH_mod (KX : K.In t.heap) (hns : t.heap.Ns mainGlobals mg) (hb : t.heap.Ns builtinsNs mb) (hbb : ∀ x : Str, x ≠ "__name__" → mb x = bootBuiltins x) (hlim : t.heap.NoLimit) (ha : t.heap.get? a = some { cls := .type "list", data := .seq vs.toArray }) :
    Mod K mg (hidT t.heap (scrH K a vs ns)) := by
  have free : ∀ {b : Addr} {o : Obj}, t.heap.get? b = some o → (b = a → K.lookup a = none → False) → scrH K a vs ns b = none := fun {b o} e h => by
    cases q : scrH K a vs ns b with
    | none => rfl
    | some u =>
      obtain ⟨h1, h2, _⟩ := scrH_some q
      exact (h h1 h2).elim
  have dct : ∀ {b : Addr} {m : Str → Option Value}, t.heap.Ns b m → (hidT t.heap (scrH K a vs ns)).Ns b m := fun {b m} ⟨o, es, ep, e, d, r⟩ => by
    refine ⟨o, es, ep, hidT_get e (free e fun z _ => ?_), d, r⟩
    rw [z, ha] at e
    cases e
    cases d
  obtain ⟨mc, l1, l2⟩ := hlim
  exact ⟨fun b o e => hidT_get (KX b o e) (free (KX b o e) fun z n => by rw [z, n] at e; cases e), dct hns, ⟨mb, dct hb, hbb⟩, mc, dct l1, l2⟩
theorem law_callG (KX : K.In t.heap) (hns : t.heap.Ns mainGlobals mg) (hb : t.heap.Ns builtinsNs mb) (hbb : ∀ x : Str, x ≠ "__name__" → mb x = bootBuiltins x) (hlim : t.heap.NoLimit) (hg : t.gens = #[])
    (ha : t.heap.get? a = some { cls := .type "list", data := .seq vs.toArray }) (hi : IntsAre vs ns) (hl : ns.length ≤ sizeLine) (hr : Room k callerA)
    (F : ∀ base : Heap, K.In base → base.Ns mainGlobals mg → FnG P w K mg base (L2.CX P w) k fa fd [x] sp) (hbind : ∀ (s : Shared) (u : Value), BindsTo s fd ⟨[u], []⟩ [(x, u)])
    (hsp : ∀ H : Hp, LisX K H a (ns.map V.int) → sp [.ref a] H (fun v _ => v = .bl true) fun _ _ _ => False) :
    codeAny (model P w) callerA (.call (.ref fa) ⟨[.ref a], []⟩) (fun r s' => r = .ok (.ret (.bool true)) ∧ OldK t.heap s'.heap ∧ s'.os = t.os ∧ AllBare s'.gens) t := by
  have rv := vals_ints hi
  have hM := scrH_mod (ns := ns) KX hns hb hbb hlim ha
  have hok := scrH_ok (Pr := P) (wd := w) (K := K) ha rv hl
  have e0 : Env0 P w K mg (hidT t.heap (scrH K a vs ns)) callerA [] t (scrH K a vs ns) :=
    ⟨rfl, hM, fun b o e => of_hidT e, Nat.le_of_eq (hidT_size _ _), trivial, fun b hb => absurd (show b ∈ ([] : List Addr) from hb) (by simp), hok, .of_eq hg⟩
  refine codeAny_mono ((F _ hM.kin hM.glob).run callerA [] t _ ⟨[.ref a], []⟩ [.ref a] [.ref a] _ _ hr rfl e0 (hbind t (.ref a)) (.cons rfl .nil) (hsp _ (scrH_lis KX ha rv hl))) fun r s' h => ?_
  cases r with
  | error e =>
    obtain ⟨_, _, _, _, _, _, _, _, _, _, _, _, z⟩ := h
    exact z.elim
  | ok fl =>
    cases fl with
    | next => exact h.elim
    | brk => exact h.elim
    | cont => exact h.elim
    | ret u =>
      obtain ⟨v, H', os, bare, un, hok', r', q⟩ := h
      obtain rfl : v = .bl true := q
      obtain rfl : u = Value.bool true := r'
      refine ⟨rfl, OldK.of_keep fun b o e => ?_, os, bare⟩
      cases q : scrH K a vs ns b with
      | none => exact un.keep b o e q (fun z => absurd (show b ∈ ([] : List Addr) from z) (by simp)) (by simp)
      | some u =>
        obtain ⟨_, _, rfl⟩ := scrH_some q
        obtain ⟨e1, _⟩ := hok b _ q
        obtain ⟨e2, _⟩ := hok' b _ (un.frzs b _ _ q)
        rw [e] at e1
        cases e1
        exact e2
end
/-- the goal that the head leaves, from the reckoning of the law's def -/
theorem walk_ofG {l : PySem.W.OpenLaw} {m : Nat} {q : Program} {loose : List Str} {XP : (Str → Option Value) → Heap → Prop} {YP : World → Heap → Prop} {d : DefRec} {K : Params → PySem.W.Frag} {x : Str}
    {T : Ct} {D : Nat → Option Def} {glo : List (Str × Cst)} {fns : List (Str × List (Nat × List Str × List Nat))} {tp : Nat → Stmt} {anc : Nat → List Nat} {fuel n i : Nat} {dl : Def}
    (hn : l.most = some m) (hn2 : m ≤ sizeLine) (hdf : d.params.defaults = []) (hr : Room n callerA)
    (hY : ∀ (w : World) (h : Heap), YP w h → (K w.params).In h) (X : Text D glo fns tp) (hD : D i = some dl) (hps : dl.ps = [x])
    (F : ∀ (w : World) (mg : Str → Option Value) (fa : Addr) (h : Heap), (K w.params).In h → h.Ns mainGlobals mg → mg d.name = some (.ref fa) →
      Stood D glo fns tp (K w.params) mg ∧ ∃ fd : FuncData, (∀ (s : Shared) (u : Value), BindsTo s fd ⟨[u], []⟩ [(x, u)]) ∧ L2.Fun (K w.params) dl.nm dl.nm (tp i) fa fd)
    (hL : ∀ ns : List Int, ns.length ≤ m → (∀ z ∈ ns, Builtin.Int.intBits z ≤ 1048576) → ∃ S', run D anc fuel n i [.lis (ns.map .int)] [] = .ok (.bl true) S') :
    PySem.W.WalkO q loose XP YP l.row.toRowW d [] (fun f vs => PySem.call f vs) := by
  refine Att.attach_callB hn hdf fun w s₀ s₁ mg mb fa o pm cd doc a vs ns G Y ho hd hcd hmg hobj hints hlen hbits hg => ?_
  have KX := hY w _ Y
  obtain ⟨St, fd, hb, hF⟩ := F w mg fa _ KX G.T.g hmg
  refine law_callG (P := l.prog) (w := w) (sp := spE T (K w.params) D anc fuel n i dl.ps) KX G.T.g G.T.b G.T.builtins G.T.nolimit hg hobj hints (Nat.le_trans hlen hn2) hr (fun base _ _ => hps ▸ run_ok X St n i dl fa fd hD hF) hb fun H hl => ?_
  obtain ⟨S', e⟩ := hL ns hlen hbits
  have rl : Rep (K w.params) H [] (.lis (ns.map .int)) (.ref a) := by
    simp only [Rep]
    refine ⟨a, _, rfl, hl, ?_⟩
    have go : ∀ zs : List Int, Reps (K w.params) H [] (zs.map Va.int) (zs.map V.int) := fun zs => by
      induction zs with
      | nil => exact .nil
      | cons z zs ih => exact .cons (by simp only [Rep]) ih
    exact go ns
  refine ⟨by rw [hps]; rfl, [], [], [.lis (ns.map .int)], ⟨rfl, List.nodup_nil, fun i o a h _ => by simp at h⟩, .cons rl .nil, ?_⟩
  rw [e]
  exact fun v H' μ' _ _ r => r.blE
/-- a def as the top has laid it -/
structure FnIn (K : PySem.W.Frag) (nm : Str) (st : Stmt) : Prop where
  ex : ∃ (f : Addr) (fd : FuncData), PySem.W.nsIn K mainGlobals nm = some (some (.ref f)) ∧ L2.Fun K nm nm st f fd ∧
    ∃ (kV doc pm : Value) (an : Option Addr) (cdv ct : Value), fd = PySem.W.fnOf nm nm (defArgs st) (defBody st) (defScope st) .none kV doc pm an cdv ct
theorem fnIn_mk {K : PySem.W.Frag} {nm : Str} {st : Stmt} {f : Addr} {oc : Value} {od an : Option Addr} {osl : Array (Option Value)} {kV doc pm cdv ct : Value} (h : PySem.W.nsIn K mainGlobals nm = some (some (.ref f)))
    (l : K.lookup f = some ⟨oc, od, .func (PySem.W.fnOf nm nm (defArgs st) (defBody st) (defScope st) .none kV doc pm an cdv ct), osl⟩)
    (c : PySem.W.codeIn K cdv nm = true) (k : PySem.W.keepIn K (.ref f) = true) : FnIn K nm st := ⟨⟨f, _, h, fun_mk l c k, kV, doc, pm, an, cdv, ct, rfl⟩⟩
end EV
namespace EV
open PySem PySem.Spec PyProof.Rows L2
/-- a text without classes of exceptions -/
def ctNone : Ct := ⟨fun _ => none, fun _ => none⟩
theorem blt_of {K : PySem.W.Frag} (z0 : PySem.W.nsIn K mainGlobals "len" = some none) (z1 : PySem.W.nsIn K mainGlobals "abs" = some none) (z2 : PySem.W.nsIn K mainGlobals "int" = some none) (z3 : PySem.W.nsIn K mainGlobals "max" = some none) (z4 : PySem.W.nsIn K mainGlobals "min" = some none)
    (z5 : PySem.W.nsIn K mainGlobals "sum" = some none) (z6 : PySem.W.nsIn K mainGlobals "all" = some none) (z7 : PySem.W.nsIn K mainGlobals "any" = some none) (z8 : PySem.W.nsIn K mainGlobals "list" = some none) (z9 : PySem.W.nsIn K mainGlobals "tuple" = some none)
    (z10 : PySem.W.nsIn K mainGlobals "repr" = some none) (z11 : PySem.W.nsIn K mainGlobals "reversed" = some none) (z12 : PySem.W.nsIn K mainGlobals "isinstance" = some none) (z13 : PySem.W.nsIn K mainGlobals "range" = some none) (z14 : PySem.W.nsIn K mainGlobals "enumerate" = some none)
    (z15 : PySem.W.nsIn K mainGlobals "zip" = some none) (z16 : PySem.W.nsIn K mainGlobals "str" = some none) (z17 : PySem.W.nsIn K mainGlobals "bool" = some none) (z18 : PySem.W.nsIn K mainGlobals "dict" = some none) : ∀ x ∈ bltNames, PySem.W.nsIn K mainGlobals x = some none := by
  unfold bltNames
  simp only [List.forall_mem_cons]
  exact ⟨z0, z1, z2, z3, z4, z5, z6, z7, z8, z9, z10, z11, z12, z13, z14, z15, z16, z17, z18, fun _ h => absurd h List.not_mem_nil⟩
end EV

end
section
set_option Elab.async false
set_option linter.all false
set_option maxRecDepth 100000
set_option maxHeartbeats 4000000
/-! EV, part X: reckoning with terms, rule by rule (plain Lean; no machine in sight). -/
namespace EV
open PySem
@[irreducible] def Rw {α : Type} (r : Res α) (P : α → Sto → Prop) : Prop := match r with
  | .ok a S => P a S
  | _ => False
/-- what a suite comes to: on, back, out of the loop, to the next turn -/
structure Way where
  nx : Env → Sto → Prop
  rt : Va → Sto → Prop
  bk : Env → Sto → Prop
  ct : Env → Sto → Prop
@[irreducible] def Fw (f : Flw) (N : Way) : Prop := match f with
  | .nx ρ S => N.nx ρ S
  | .ret v S => N.rt v S
  | .brk ρ S => N.bk ρ S
  | .cnt ρ S => N.ct ρ S
  | _ => False
abbrev Kr (D : Nat → Option Def) (anc : Nat → List Nat) (fuel n : Nat) : Kx := ⟨run D anc fuel n, anc, fuel⟩
section
variable {α β : Type} {C : Kx} {hx : Option (Nat × Va)} {ρ : Env} {S : Sto} {P : Va → Sto → Prop} {N : Way}
theorem Rw.ok {a : α} {P : α → Sto → Prop} (q : P a S) : Rw (.ok a S) P := by unfold Rw; exact q
theorem Rw.okE {a : α} {P : α → Sto → Prop} (q : Rw (.ok a S) P) : P a S := by unfold Rw at q; exact q
theorem Rw.no {P : α → Sto → Prop} (q : Rw .bad P) : False := by unfold Rw at q; exact q
theorem Rw.noX {c : Nat} {x : Va} {P : α → Sto → Prop} (q : Rw (.exn c x S) P) : False := by unfold Rw at q; exact q
theorem Rw.mono {r : Res α} {P Q : α → Sto → Prop} (h : Rw r P) (q : ∀ a S, P a S → Q a S) : Rw r Q := by
  cases r with
  | ok a S => exact .ok (q a S h.okE)
  | exn _ _ _ => exact h.noX.elim
  | bad => exact h.no.elim
theorem Rw.bind {r : Res α} {k : α → Sto → Res β} {P : β → Sto → Prop} (h : Rw r fun a S => Rw (k a S) P) : Rw (r.bind k) P := by
  cases r with
  | ok a S => exact h.okE
  | exn _ _ _ => exact h.noX.elim
  | bad => exact h.no.elim
theorem Rw.flw {r : Res α} {k : α → Sto → Flw} (h : Rw r fun a S => Fw (k a S) N) : Fw (r.flw ρ k) N := by
  cases r with
  | ok a S => exact h.okE
  | exn _ _ _ => exact h.noX.elim
  | bad => exact h.no.elim
theorem Rw.get {r : Res α} {P : α → Sto → Prop} (h : Rw r P) : ∃ a S, r = .ok a S ∧ P a S := by
  cases r with
  | ok a S => exact ⟨a, S, rfl, h.okE⟩
  | exn _ _ _ => exact h.noX.elim
  | bad => exact h.no.elim
theorem Fw.nx (q : N.nx ρ S) : Fw (.nx ρ S) N := by unfold Fw; exact q
theorem Fw.rt {v : Va} (q : N.rt v S) : Fw (.ret v S) N := by unfold Fw; exact q
theorem Fw.bk (q : N.bk ρ S) : Fw (.brk ρ S) N := by unfold Fw; exact q
theorem Fw.ct (q : N.ct ρ S) : Fw (.cnt ρ S) N := by unfold Fw; exact q
theorem Fw.nxE (q : Fw (.nx ρ S) N) : N.nx ρ S := by unfold Fw at q; exact q
theorem Fw.rtE {v : Va} (q : Fw (.ret v S) N) : N.rt v S := by unfold Fw at q; exact q
theorem Fw.bkE (q : Fw (.brk ρ S) N) : N.bk ρ S := by unfold Fw at q; exact q
theorem Fw.ctE (q : Fw (.cnt ρ S) N) : N.ct ρ S := by unfold Fw at q; exact q
theorem Fw.noX {c : Nat} {x : Va} (q : Fw (.exn c x ρ S) N) : False := by unfold Fw at q; exact q
theorem Fw.no (q : Fw .bad N) : False := by unfold Fw at q; exact q
theorem Fw.mono {f : Flw} {N M : Way} (h : Fw f N) (h1 : ∀ ρ S, N.nx ρ S → M.nx ρ S) (h2 : ∀ v S, N.rt v S → M.rt v S) (h3 : ∀ ρ S, N.bk ρ S → M.bk ρ S) (h4 : ∀ ρ S, N.ct ρ S → M.ct ρ S) : Fw f M := by
  cases f with
  | nx ρ S => exact .nx (h1 _ _ h.nxE)
  | ret v S => exact .rt (h2 _ _ h.rtE)
  | brk ρ S => exact .bk (h3 _ _ h.bkE)
  | cnt ρ S => exact .ct (h4 _ _ h.ctE)
  | exn _ _ _ _ => exact h.noX.elim
  | bad => exact h.no.elim
/-! expressions -/
theorem w_var {i : Nat} {v : Va} (h : ρ[i]? = some (some v)) (q : P v S) : Rw (evE C hx (.var i) ρ S) P := by
  show Rw (look ρ i S) P
  unfold look
  rw [h]
  exact .ok q
theorem w_cst {c : Cst} (q : P c.va S) : Rw (evE C hx (.cst c) ρ S) P := .ok q
theorem w_cI {i : Int} (q : P (.int i) S) : Rw (evE C hx (.cst (.int i)) ρ S) P := .ok q
theorem w_cS {i : Str} (q : P (.str i) S) : Rw (evE C hx (.cst (.str i)) ρ S) P := .ok q
theorem w_cN (q : P .non S) : Rw (evE C hx (.cst .non) ρ S) P := .ok q
theorem w_cB {b : Bool} (q : P (.bl b) S) : Rw (evE C hx (.cst (.bl b)) ρ S) P := .ok q
theorem w_gI {x : Str} {i : Int} (q : P (.int i) S) : Rw (evE C hx (.glo x (.int i)) ρ S) P := .ok q
theorem w_glo {x : Str} {c : Cst} (q : P c.va S) : Rw (evE C hx (.glo x c) ρ S) P := .ok q
theorem w_bin {op : Operator} {a b : Ex} (q : Rw (evE C hx a ρ S) fun x S => Rw (evE C hx b ρ S) fun y S => Rw (binOp op x y S) P) : Rw (evE C hx (.bin op a b) ρ S) P := Rw.bind (q.mono fun _ _ q => Rw.bind q)
theorem w_neg {a : Ex} (q : Rw (evE C hx a ρ S) fun x S => ∃ i, x = .int i ∧ P (.int (-i)) S) : Rw (evE C hx (.neg a) ρ S) P := Rw.bind (q.mono fun _ _ ⟨i, e, q⟩ => by subst e; exact .ok q)
theorem w_not {a : Ex} (q : Rw (evE C hx a ρ S) fun x S => ∃ b, x = .bl b ∧ P (.bl (!b)) S) : Rw (evE C hx (.not a) ρ S) P := Rw.bind (q.mono fun _ _ ⟨i, e, q⟩ => by subst e; exact .ok q)
theorem w_cmp {op : CmpOp} {a b : Ex} (q : Rw (evE C hx a ρ S) fun x S => Rw (evE C hx b ρ S) fun y S => ∃ c, cmpOp op x y S = some c ∧ P (.bl c) S) : Rw (evE C hx (.cmp op a b) ρ S) P :=
  Rw.bind (q.mono fun _ _ q => Rw.bind (q.mono fun _ _ ⟨c, e, q⟩ => by rw [e]; exact .ok q))
theorem w_chn {op op2 : CmpOp} {a b c : Ex} (q : Rw (evE C hx a ρ S) fun x S => Rw (evE C hx b ρ S) fun y S => ∃ k, cmpOp op x y S = some k ∧ (k = true → Rw (evE C hx c ρ S) fun z S => ∃ m, cmpOp op2 y z S = some m ∧ P (.bl m) S) ∧ (k = false → P (.bl false) S)) : Rw (evE C hx (.chn op op2 a b c) ρ S) P :=
  Rw.bind (q.mono fun _ _ q => Rw.bind (q.mono fun _ _ ⟨k, e, q1, q2⟩ => by
    rw [e]
    cases k with
    | true => exact Rw.bind ((q1 rfl).mono fun _ _ ⟨m, e, q⟩ => by rw [e]; exact .ok q)
    | false => exact .ok (q2 rfl)))
theorem w_bool {isAnd : Bool} {a : Ex} {es : Exs} (q : Rw (evE C hx a ρ S) fun x S => ∃ b, x = .bl b ∧ Rw (evB C hx isAnd es b ρ S) P) : Rw (evE C hx (.bool isAnd a es) ρ S) P := Rw.bind (q.mono fun _ _ ⟨b, e, q⟩ => by subst e; exact q)
theorem w_bnil {isAnd b : Bool} (q : P (.bl b) S) : Rw (evB C hx isAnd .nil b ρ S) P := .ok q
theorem w_and {b : Bool} {e : Ex} {es : Exs} (q1 : b = true → Rw (evE C hx e ρ S) fun x S => ∃ c, x = .bl c ∧ Rw (evB C hx true es c ρ S) P) (q2 : b = false → P (.bl false) S) : Rw (evB C hx true (.cons e es) b ρ S) P := by
  cases b with
  | true => exact Rw.bind ((q1 rfl).mono fun _ _ ⟨c, e, q⟩ => by subst e; exact q)
  | false => exact .ok (q2 rfl)
theorem w_or {b : Bool} {e : Ex} {es : Exs} (q1 : b = false → Rw (evE C hx e ρ S) fun x S => ∃ c, x = .bl c ∧ Rw (evB C hx false es c ρ S) P) (q2 : b = true → P (.bl true) S) : Rw (evB C hx false (.cons e es) b ρ S) P := by
  cases b with
  | false => exact Rw.bind ((q1 rfl).mono fun _ _ ⟨c, e, q⟩ => by subst e; exact q)
  | true => exact .ok (q2 rfl)
theorem w_if {c a b : Ex} (q : Rw (evE C hx c ρ S) fun x S => ∃ k, x = .bl k ∧ (k = true → Rw (evE C hx a ρ S) P) ∧ (k = false → Rw (evE C hx b ρ S) P)) : Rw (evE C hx (.ite c a b) ρ S) P :=
  Rw.bind (q.mono fun _ _ ⟨k, e, q1, q2⟩ => by
    subst e
    cases k with
    | true => exact q1 rfl
    | false => exact q2 rfl)
theorem w_tup {es : Exs} (q : Rw (evL C hx es ρ S) fun xs S => xs.length ≤ sizeLine ∧ P (.tup xs) S) : Rw (evE C hx (.tup es) ρ S) P := Rw.bind (q.mono fun xs S ⟨h, q⟩ => by
  show Rw (mkT xs S) P
  unfold mkT
  rw [if_pos h]
  exact .ok q)
theorem w_newL {xs : List Va} (h : xs.length ≤ sizeLine) (q : P (.ref S.length) (S ++ [.lst xs])) : Rw (newL xs S) P := by
  unfold newL
  rw [if_pos h]
  exact .ok q
theorem w_mkT {xs : List Va} (h : xs.length ≤ sizeLine) (q : P (.tup xs) S) : Rw (mkT xs S) P := by
  unfold mkT
  rw [if_pos h]
  exact .ok q
theorem w_lst {es : Exs} (q : Rw (evL C hx es ρ S) fun xs S => Rw (newL xs S) P) : Rw (evE C hx (.lst es) ρ S) P := Rw.bind q
theorem w_dic {ks vs : Exs} (q : Rw (evL C hx ks ρ S) fun xs S => Rw (evL C hx vs ρ S) fun ys S => Rw (dicOp xs ys S) P) : Rw (evE C hx (.dic ks vs) ρ S) P := Rw.bind (q.mono fun _ _ q => Rw.bind q)
theorem w_idx {a b : Ex} (q : Rw (evE C hx a ρ S) fun x S => Rw (evE C hx b ρ S) fun y S => Rw (idxOp x y S) P) : Rw (evE C hx (.idx a b) ρ S) P := Rw.bind (q.mono fun _ _ q => Rw.bind q)
theorem w_slc {a : Ex} {l h : Opx} (q : Rw (evE C hx a ρ S) fun x S => Rw (bndR (evO C hx l ρ S)) fun u S => Rw (bndR (evO C hx h ρ S)) fun v S => Rw (slcOp x u v S) P) : Rw (evE C hx (.slc a l h) ρ S) P :=
  Rw.bind (q.mono fun _ _ q => Rw.bind (q.mono fun _ _ q => Rw.bind q))
theorem w_bno {P : Option Va → Sto → Prop} (q : P none S) : Rw (bndR (evO C hx .none ρ S)) P := .ok q
theorem w_bso {P : Option Va → Sto → Prop} {e : Ex} (q : Rw (evE C hx e ρ S) fun x S => ∃ i, x = .int i ∧ P (some (.int i)) S) : Rw (bndR (evO C hx (.some e) ρ S)) P := by
  refine Rw.bind (Rw.bind (q.mono fun x S ⟨i, e, q⟩ => ?_))
  subst e
  exact .ok (.ok q)
theorem w_rev {a : Ex} (q : Rw (evE C hx a ρ S) fun x S => ∃ xs, x = .tup xs ∧ P (.tup xs.reverse) S) : Rw (evE C hx (.rev a) ρ S) P := Rw.bind (q.mono fun _ _ ⟨i, e, q⟩ => by subst e; exact .ok q)
theorem w_call {f : Nat} {es : Exs} (q : Rw (evL C hx es ρ S) fun xs S => Rw (C.call f xs S) P) : Rw (evE C hx (.call f es) ρ S) P := Rw.bind q
theorem w_callK {f : Nat} {es ws : Exs} {ks : List Nat} (q : Rw (evL C hx es ρ S) fun xs S => Rw (evL C hx ws ρ S) fun ys S => ∃ zs, optMap (fun i => (xs ++ ys)[i]?) ks = some zs ∧ Rw (C.call f zs S) P) : Rw (evE C hx (.callK f es ks ws) ρ S) P :=
  Rw.bind (q.mono fun _ _ q => Rw.bind (q.mono fun _ _ ⟨zs, e, q⟩ => by rw [e]; exact q))
theorem w_bi {b : Bi} {es : Exs} (q : Rw (evL C hx es ρ S) fun xs S => Rw (biOp b xs S) P) : Rw (evE C hx (.bi b es) ρ S) P := Rw.bind q
theorem w_me {m : Me} {o : Ex} {es : Exs} (q : Rw (evE C hx o ρ S) fun x S => meTy m x S = true ∧ Rw (evL C hx es ρ S) fun xs S => Rw (meOp m x xs S) P) : Rw (evE C hx (.me m o es) ρ S) P := Rw.bind (q.mono fun _ _ ⟨h, q⟩ => by rw [if_pos h]; exact Rw.bind q)
theorem w_ist {a : Ex} {t : Ty} (q : Rw (evE C hx a ρ S) fun x S => ∃ b, isTy S x t = some b ∧ P (.bl b) S) : Rw (evE C hx (.ist a [t]) ρ S) P := Rw.bind (q.mono fun x S ⟨b, e, q⟩ => by
  show Rw (ofB (isTy S x t) S) P
  rw [e]; exact .ok q)
theorem w_comp {e : Ex} {tg : Tg} {it : Itx} {c : Opx} {own : List Nat} (q : Rw (evI C hx it ρ S) fun W S => Rw (compL (mTurn tg own (evO C none c) (evE C none e) ρ) W.G W.items S) fun ys S => Rw (newL ys S) P) : Rw (evE C hx (.comp e tg it c own) ρ S) P :=
  Rw.bind (q.mono fun _ _ q => Rw.bind q)
theorem w_nil {P : List Va → Sto → Prop} (q : P [] S) : Rw (evL C hx .nil ρ S) P := .ok q
theorem w_cons {P : List Va → Sto → Prop} {e : Ex} {es : Exs} (q : Rw (evE C hx e ρ S) fun x S => Rw (evL C hx es ρ S) fun xs S => P (x :: xs) S) : Rw (evL C hx (.cons e es) ρ S) P := Rw.bind (q.mono fun _ _ q => Rw.bind (q.mono fun _ _ q => .ok q))
/-! iterables -/
theorem w_seq {P : Wk → Sto → Prop} {e : Ex} (q : Rw (evE C hx e ρ S) fun x S => ∃ w, seqW x S = some w ∧ P w S) : Rw (evI C hx (.seq e) ρ S) P := Rw.bind (q.mono fun x S ⟨w, e, q⟩ => by
  show Rw (ofW (seqW x S) S) P
  rw [e]; exact .ok q)
theorem w_rng1 {P : Wk → Sto → Prop} {a : Ex} (q : Rw (evE C hx a ρ S) fun x S => ∃ i, x = .int i ∧ small62 i = true ∧ P (rangeW 0 i) S) : Rw (evI C hx (.rng1 a) ρ S) P := Rw.bind (q.mono fun x S ⟨i, e, h, q⟩ => by
  subst e
  show Rw (if small62 i then .ok (rangeW 0 i) S else .bad) P
  rw [if_pos h]; exact .ok q)
theorem w_rng2 {P : Wk → Sto → Prop} {a b : Ex} (q : Rw (evE C hx a ρ S) fun x S => Rw (evE C hx b ρ S) fun y S => ∃ i j, x = .int i ∧ y = .int j ∧ (small62 i && small62 j) = true ∧ P (rangeW i j) S) : Rw (evI C hx (.rng2 a b) ρ S) P := Rw.bind (q.mono fun x S q => Rw.bind (q.mono fun y S ⟨i, j, e, e2, h, z⟩ => by
  subst e e2
  show Rw (if small62 i && small62 j then .ok (rangeW i j) S else .bad) P
  rw [if_pos h]; exact .ok z))
theorem w_enum {P : Wk → Sto → Prop} {e : Ex} (q : Rw (evE C hx e ρ S) fun x S => ∃ w, enumS x S = some w ∧ P w S) : Rw (evI C hx (.enum e) ρ S) P := Rw.bind (q.mono fun x S ⟨w, e, q⟩ => by
  show Rw (ofW (enumS x S) S) P
  rw [e]; exact .ok q)
theorem w_zip {P : Wk → Sto → Prop} {a b : Ex} (q : Rw (evE C hx a ρ S) fun x S => Rw (evE C hx b ρ S) fun y S => ∃ w, zipS x y S = some w ∧ P w S) : Rw (evI C hx (.zip a b) ρ S) P := Rw.bind (q.mono fun x S q => Rw.bind (q.mono fun y S ⟨w, e, q⟩ => by
  show Rw (ofW (zipS x y S) S) P
  rw [e]; exact .ok q))
/-- a comprehension's turns, by an invariant over what has come -/
theorem w_turns {turn : Va → Sto → Res (Option Va)} {G : List (Nat × List Va)} {P : List Va → Sto → Prop} {items : List Va} (I : Nat → List Va → Sto → Prop) (h0 : I 0 [] S) (hg : ∀ i acc S, i ≤ items.length → I i acc S → stay G S = true)
    (hs : ∀ i x acc S, items[i]? = some x → I i acc S → Rw (turn x S) fun y S => I (i + 1) (acc ++ y.toList) S) (he : ∀ acc S, I items.length acc S → P acc S) : Rw (compL turn G items S) P := by
  have go : ∀ (rest : List Va) (i : Nat) (acc : List Va) (S : Sto), items.drop i = rest → i ≤ items.length → I i acc S → Rw (compL turn G rest S) fun ys S => I items.length (acc ++ ys) S := by
    intro rest
    induction rest with
    | nil =>
      intro i acc S hd hi q
      have e : i = items.length := by
        have z := congrArg List.length hd
        rw [List.length_drop, List.length_nil] at z
        omega
      unfold compL
      rw [if_pos (hg i acc S hi q)]
      refine .ok ?_
      rw [List.append_nil, ← e]
      exact q
    | cons x r ih =>
      intro i acc S hd hi q
      have hlt : i < items.length := by
        have z := congrArg List.length hd
        rw [List.length_drop, List.length_cons] at z
        omega
      rw [List.drop_eq_getElem_cons hlt] at hd
      obtain ⟨hx, hr⟩ := List.cons.inj hd
      unfold compL
      rw [if_pos (hg i acc S hi q)]
      obtain ⟨y, S1, e1, q1⟩ := (hs i x acc S (by rw [List.getElem?_eq_getElem hlt, hx]) q).get
      rw [e1]
      dsimp only
      obtain ⟨ys, S2, e2, q2⟩ := (ih (i + 1) (acc ++ y.toList) S1 hr hlt q1).get
      rw [e2]
      refine .ok ?_
      cases y with
      | none => simpa using q2
      | some v => simpa using q2
  exact (go items 0 [] S rfl (Nat.zero_le _) h0).mono fun ys S q => he ys S (by simpa using q)
/-- one turn -/
theorem w_turn {tg : Tg} {own : List Nat} {c : Opx} {e : Ex} {x : Va} {ρ' : Env} {P : Option Va → Sto → Prop} (h : setT tg x (wipeE ρ own) S = some ρ') (q : Rw (evO C none c ρ' S) fun o S => (o = none ∧ Rw (evE C none e ρ' S) fun y S => P (some y) S) ∨ ∃ b, o = some (.bl b) ∧ (b = true → Rw (evE C none e ρ' S) fun y S => P (some y) S) ∧ (b = false → P none S)) :
    Rw (mTurn tg own (evO C none c) (evE C none e) ρ x S) P := by
  unfold mTurn
  rw [h]
  dsimp only
  obtain ⟨o, S1, e1, q⟩ := q.get
  rw [e1]
  rcases q with ⟨rfl, q⟩ | ⟨b, rfl, q1, q2⟩
  · exact Rw.bind (q.mono fun _ _ q => .ok q)
  · cases b with
    | true => exact Rw.bind ((q1 rfl).mono fun _ _ q => .ok q)
    | false => exact .ok (q2 rfl)
theorem w_ono {P : Option Va → Sto → Prop} (q : P none S) : Rw (evO C hx .none ρ S) P := .ok q
theorem w_oso {P : Option Va → Sto → Prop} {e : Ex} (q : Rw (evE C hx e ρ S) fun x S => P (some x) S) : Rw (evO C hx (.some e) ρ S) P := Rw.bind (q.mono fun _ _ q => .ok q)
/-! statements -/
theorem f_cons {s : Sx} {r : Sxs} (q : Fw (evS C hx s ρ S) { N with nx := fun ρ S => Fw (evSs C hx r ρ S) N }) : Fw (evSs C hx (.cons s r) ρ S) N := by
  show Fw (match evS C hx s ρ S with | .nx ρ' S' => evSs C hx r ρ' S' | f => f) N
  cases h : evS C hx s ρ S with
  | nx _ _ => rw [h] at q; exact q.nxE
  | ret _ _ => rw [h] at q; exact .rt q.rtE
  | brk _ _ => rw [h] at q; exact .bk q.bkE
  | cnt _ _ => rw [h] at q; exact .ct q.ctE
  | exn _ _ _ _ => rw [h] at q; exact q.noX.elim
  | bad => rw [h] at q; exact q.no.elim
theorem f_nil (q : N.nx ρ S) : Fw (evSs C hx .nil ρ S) N := .nx q
theorem f_asg {tg : Tg} {e : Ex} (q : Rw (evE C hx e ρ S) fun x S => ∃ ρ', setT tg x ρ S = some ρ' ∧ N.nx ρ' S) : Fw (evS C hx (.asg tg e) ρ S) N := Rw.flw (q.mono fun x S ⟨ρ', e, q⟩ => by rw [e]; exact .nx q)
theorem f_par {i j : Nat} {a b : Ex} (q : Rw (evE C hx a ρ S) fun x S => Rw (evE C hx b ρ S) fun y S => N.nx ((ρ.set i (some x)).set j (some y)) S) : Fw (evS C hx (.par i j a b) ρ S) N := Rw.flw (q.mono fun x S q => Rw.flw (q.mono fun _ _ q => .nx q))
theorem f_asgIx {o i v : Ex} (q : Rw (evE C hx v ρ S) fun x S => Rw (evE C hx o ρ S) fun y S => Rw (evE C hx i ρ S) fun z S => ∃ S', setI y z x S = some S' ∧ N.nx ρ S') : Fw (evS C hx (.asgIx o i v) ρ S) N :=
  Rw.flw (q.mono fun x S q => Rw.flw (q.mono fun y S q => Rw.flw (q.mono fun z S ⟨S', e, q⟩ => by rw [e]; exact .nx q)))
theorem f_expr {e : Ex} (q : Rw (evE C hx e ρ S) fun x S => N.nx ρ S) : Fw (evS C hx (.expr e) ρ S) N := Rw.flw (q.mono fun _ _ q => .nx q)
theorem f_ret {e : Ex} (q : Rw (evE C hx e ρ S) N.rt) : Fw (evS C hx (.ret e) ρ S) N := Rw.flw (q.mono fun _ _ q => .rt q)
theorem f_ite {c : Ex} {a b : Sxs} (q : Rw (evE C hx c ρ S) fun x S => ∃ k, x = .bl k ∧ (k = true → Fw (evSs C hx a ρ S) N) ∧ (k = false → Fw (evSs C hx b ρ S) N)) : Fw (evS C hx (.ite c a b) ρ S) N := Rw.flw (q.mono fun x S ⟨k, e, q1, q2⟩ => by
  subst e
  cases k with
  | true => exact q1 rfl
  | false => exact q2 rfl)
theorem f_for {tg : Tg} {it : Itx} {body : Sxs} (q : Rw (evI C hx it ρ S) fun W S => Fw (forL (fun ρ S => evSs C hx body ρ S) tg W.G W.items ρ S) N) : Fw (evS C hx (.fors tg it body) ρ S) N := Rw.flw q
/-- a loop, by an invariant over the turns -/
theorem f_turns {body : Env → Sto → Flw} {tg : Tg} {G : List (Nat × List Va)} {items : List Va} (I : Nat → Env → Sto → Prop) (h0 : I 0 ρ S) (hg : ∀ i ρ S, i ≤ items.length → I i ρ S → stay G S = true)
    (hs : ∀ i x ρ S, items[i]? = some x → I i ρ S → ∃ ρ', setT tg x ρ S = some ρ' ∧ Fw (body ρ' S) { nx := I (i + 1), rt := N.rt, bk := N.nx, ct := I (i + 1) }) (he : ∀ ρ S, I items.length ρ S → N.nx ρ S) : Fw (forL body tg G items ρ S) N := by
  have go : ∀ (rest : List Va) (i : Nat) (ρ : Env) (S : Sto), items.drop i = rest → i ≤ items.length → I i ρ S → Fw (forL body tg G rest ρ S) N := by
    intro rest
    induction rest with
    | nil =>
      intro i ρ S hd hi q
      have e : i = items.length := by
        have z := congrArg List.length hd
        rw [List.length_drop, List.length_nil] at z
        omega
      unfold forL
      rw [if_pos (hg i ρ S hi q)]
      subst e
      exact .nx (he ρ S q)
    | cons x r ih =>
      intro i ρ S hd hi q
      have hlt : i < items.length := by
        have z := congrArg List.length hd
        rw [List.length_drop, List.length_cons] at z
        omega
      rw [List.drop_eq_getElem_cons hlt] at hd
      obtain ⟨hx, hr⟩ := List.cons.inj hd
      unfold forL
      rw [if_pos (hg i ρ S hi q)]
      obtain ⟨ρ', e, q⟩ := hs i x ρ S (by rw [List.getElem?_eq_getElem hlt, hx]) q
      rw [e]
      dsimp only
      cases hb : body ρ' S with
      | nx ρ2 S2 => rw [hb] at q; exact ih (i + 1) ρ2 S2 hr hlt q.nxE
      | cnt ρ2 S2 => rw [hb] at q; exact ih (i + 1) ρ2 S2 hr hlt q.ctE
      | brk ρ2 S2 => rw [hb] at q; exact .nx q.bkE
      | ret v S2 => rw [hb] at q; exact .rt q.rtE
      | exn _ _ _ _ => rw [hb] at q; exact q.noX.elim
      | bad => rw [hb] at q; exact q.no.elim
  exact go items 0 ρ S rfl (Nat.zero_le _) h0
/-- while, by an invariant with a measure below the fuel -/
theorem f_whil {c : Ex} {body : Sxs} (I : Nat → Env → Sto → Prop) {m : Nat} (h0 : I m ρ S) (hm : m < C.fuel)
    (hs : ∀ m ρ S, I m ρ S → Rw (evE C hx c ρ S) fun x S => ∃ k, x = .bl k ∧ (k = true → Fw (evSs C hx body ρ S) { nx := fun ρ S => ∃ m', m' < m ∧ I m' ρ S, rt := N.rt, bk := N.nx, ct := fun ρ S => ∃ m', m' < m ∧ I m' ρ S }) ∧ (k = false → N.nx ρ S)) : Fw (evS C hx (.whil c body) ρ S) N := by
  show Fw (whlL (fun ρ S => evE C hx c ρ S) (fun ρ S => evSs C hx body ρ S) C.fuel ρ S) N
  have go : ∀ (n m : Nat) (ρ : Env) (S : Sto), m < n → I m ρ S → Fw (whlL (fun ρ S => evE C hx c ρ S) (fun ρ S => evSs C hx body ρ S) n ρ S) N := by
    intro n
    induction n with
    | zero => intro m _ _ h; exact absurd h (Nat.not_lt_zero m)
    | succ n ih =>
      intro m ρ S hm q
      unfold whlL
      refine Rw.flw ((hs m ρ S q).mono fun x S ⟨k, e, q1, q2⟩ => ?_)
      subst e
      cases k with
      | false => exact .nx (q2 rfl)
      | true =>
        have z := q1 rfl
        show Fw (match evSs C hx body ρ S with
          | .nx ρ2 S2 => whlL (fun ρ S => evE C hx c ρ S) (fun ρ S => evSs C hx body ρ S) n ρ2 S2
          | .cnt ρ2 S2 => whlL (fun ρ S => evE C hx c ρ S) (fun ρ S => evSs C hx body ρ S) n ρ2 S2
          | .brk ρ2 S2 => .nx ρ2 S2
          | .ret v S2 => .ret v S2
          | .exn c x ρ2 S2 => .exn c x ρ2 S2
          | .bad => .bad) N
        cases hb : evSs C hx body ρ S with
        | nx ρ2 S2 =>
          rw [hb] at z
          obtain ⟨m', h1, h2⟩ := z.nxE
          exact ih m' ρ2 S2 (by omega) h2
        | cnt ρ2 S2 =>
          rw [hb] at z
          obtain ⟨m', h1, h2⟩ := z.ctE
          exact ih m' ρ2 S2 (by omega) h2
        | brk ρ2 S2 => rw [hb] at z; exact .nx z.bkE
        | ret v S2 => rw [hb] at z; exact .rt z.rtE
        | exn _ _ _ _ => rw [hb] at z; exact z.noX.elim
        | bad => rw [hb] at z; exact z.no.elim
  exact go C.fuel m ρ S hm h0
theorem f_pass (q : N.nx ρ S) : Fw (evS C hx .pass ρ S) N := .nx q
theorem f_brk (q : N.bk ρ S) : Fw (evS C hx .brk ρ S) N := .bk q
theorem f_cont (q : N.ct ρ S) : Fw (evS C hx .cont ρ S) N := .ct q
end
/-- a def's call -/
theorem w_run {D : Nat → Option Def} {anc : Nat → List Nat} {fuel n f : Nat} {vs : List Va} {S : Sto} {P : Va → Sto → Prop} {d : Def} (hd : D f = some d) (hl : vs.length = d.ps.length)
    (q : Fw (evSs (Kr D anc fuel n) none d.body (startE d.N vs) S) { nx := fun _ S => P .non S, rt := P, bk := fun _ _ => False, ct := fun _ _ => False }) : Rw (run D anc fuel (n + 1) f vs S) P := by
  show Rw (match D f with
      | none => .bad
      | some d => if vs.length = d.ps.length then (match evSs ⟨run D anc fuel n, anc, fuel⟩ none d.body (startE d.N vs) S with
        | .ret v S' => .ok v S'
        | .nx _ S' => .ok .non S'
        | .exn c x _ S' => .exn c x S'
        | _ => .bad) else .bad) P
  rw [hd]
  dsimp only
  rw [if_pos hl]
  cases h : evSs ⟨run D anc fuel n, anc, fuel⟩ none d.body (startE d.N vs) S with
  | nx ρ S' => rw [show evSs (Kr D anc fuel n) none d.body (startE d.N vs) S = _ from h] at q; exact .ok q.nxE
  | ret v S' => rw [show evSs (Kr D anc fuel n) none d.body (startE d.N vs) S = _ from h] at q; exact .ok q.rtE
  | brk ρ S' => rw [show evSs (Kr D anc fuel n) none d.body (startE d.N vs) S = _ from h] at q; exact q.bkE.elim
  | cnt ρ S' => rw [show evSs (Kr D anc fuel n) none d.body (startE d.N vs) S = _ from h] at q; exact q.ctE.elim
  | exn _ _ _ _ => rw [show evSs (Kr D anc fuel n) none d.body (startE d.N vs) S = _ from h] at q; exact q.noX.elim
  | bad => rw [show evSs (Kr D anc fuel n) none d.body (startE d.N vs) S = _ from h] at q; exact q.no.elim
end EV

end
section
set_option Elab.async false
set_option linter.all false
set_option maxRecDepth 100000
set_option maxHeartbeats 4000000
/-! EV, part Y: data: equality, lists of ints. -/
namespace EV
open PySem
abbrev iV (ns : List Int) : List Va := ns.map .int
mutual
/-- a value without places, as data -/
def dV : Va → PyData
  | .bl b => .bool b
  | .int i => .int i
  | .str x => .str x
  | .tup xs => .tuple (dVs xs)
  | _ => .none
def dVs : List Va → List PyData
  | [] => []
  | x :: r => dV x :: dVs r
end
mutual
def flatD : Va → Bool
  | .non => true
  | .bl _ => true
  | .int _ => true
  | .str _ => true
  | .tup xs => flatDs xs
  | _ => false
def flatDs : List Va → Bool
  | [] => true
  | x :: r => flatD x && flatDs r
end
mutual
def depV : Va → Nat
  | .tup xs => depVs xs + 1
  | _ => 0
def depVs : List Va → Nat
  | [] => 0
  | x :: r => max (depV x) (depVs r)
end
theorem toD_flat (S : Sto) : ∀ (n : Nat) (v : Va), flatD v = true → depV v < n → toD S n v = some (dV v)
  | 0, _, _, h => absurd h (Nat.not_lt_zero _)
  | n + 1, v, hf, hd => by
    have go : ∀ xs : List Va, flatDs xs = true → depVs xs < n → optMap (toD S n) xs = some (dVs xs) := fun xs => by
      induction xs with
      | nil => intro _ _; rfl
      | cons x r ih =>
        intro h1 h2
        simp only [flatDs, Bool.and_eq_true] at h1
        simp only [depVs] at h2
        have z1 := toD_flat S n x h1.1 (by omega)
        have z2 := ih h1.2 (by omega)
        simp only [optMap, z1, z2, dVs]
    cases v with
    | non => rfl
    | bl b => rfl
    | int i => rfl
    | str x => rfl
    | tup xs =>
      simp only [flatD] at hf
      simp only [depV] at hd
      simp only [toD, go xs hf (by omega), dV, Option.map_some]
    | lis xs => simp [flatD] at hf
    | ref i => simp [flatD] at hf
    | exc => simp [flatD] at hf
theorem flat_ints : ∀ ns : List Int, flatDs (iV ns) = true
  | [] => rfl
  | n :: ns => by
    show (true && flatDs (iV ns)) = true
    rw [flat_ints ns]; rfl
theorem dep_ints : ∀ ns : List Int, depVs (iV ns) = 0
  | [] => rfl
  | n :: ns => by
    show max 0 (depVs (iV ns)) = 0
    rw [dep_ints ns]; rfl
abbrev iD (ns : List Int) : List PyData := ns.map .int
theorem dV_ints : ∀ ns : List Int, dVs (iV ns) = iD ns
  | [] => rfl
  | n :: ns => by
    show PyData.int n :: dVs (iV ns) = PyData.int n :: iD ns
    rw [dV_ints ns]
theorem toD_tupI {S : Sto} {ns : List Int} : toD S 60 (.tup (iV ns)) = some (.tuple (iD ns)) := by
  rw [toD_flat S 60 (.tup (iV ns)) (by simp only [flatD]; exact flat_ints ns) (by simp only [depV, dep_ints]; decide)]
  simp only [dV, dV_ints]
theorem optMap_ints {S : Sto} {n : Nat} : ∀ ns : List Int, optMap (toD S (n + 1)) (iV ns) = some (iD ns)
  | [] => rfl
  | k :: ns => by
    show optMap (toD S (n + 1)) (.int k :: iV ns) = _
    unfold optMap
    rw [show toD S (n + 1) (.int k) = some (.int k) from rfl, optMap_ints ns]
    rfl
theorem toD_lstI {S : Sto} {i : Nat} {ns : List Int} (h : S[i]? = some (.lst (iV ns))) : toD S 60 (.ref i) = some (.list (iD ns)) := by
  show (match S[i]? with
      | some (.lst xs) => (optMap (toD S 59) xs).map PyData.list
      | some (.dic kvs) => (optMap (fun (p : Va × Va) => match toD S 59 p.1 with
          | none => none
          | some a => match toD S 59 p.2 with
            | none => none
            | some b => some (a, b)) kvs).map PyData.dict
      | none => none) = _
  rw [h]
  dsimp only
  rw [optMap_ints]
  rfl
theorem can_ints : ∀ ns : List Int, PyData.canLayAll0 (iD ns) = true
  | [] => by simp only [List.map_nil, PyData.canLayAll0]
  | n :: ns => by
    simp only [List.map_cons, PyData.canLayAll0, PyData.canLay0, Bool.true_and]
    exact can_ints ns
theorem depth_ints : ∀ ns : List Int, PyData.depthAll (iD ns) = 0
  | [] => by simp only [List.map_nil, PyData.depthAll]
  | n :: ns => by
    simp only [List.map_cons, PyData.depthAll, PyData.depth]
    rw [depth_ints ns]; rfl
theorem shaped_tupI (ns : List Int) : SeqAt.shaped (.tuple (iD ns)) = true := by
  unfold SeqAt.shaped
  simp only [PyData.canLay0, PyData.depth, can_ints, depth_ints]
  decide
theorem shaped_lstI (ns : List Int) : SeqAt.shaped (.list (iD ns)) = true := by
  unfold SeqAt.shaped
  simp only [PyData.canLay0, PyData.depth, can_ints, depth_ints]
  decide
theorem eqv_ints : ∀ ns ms : List Int, PyData.eqvAll (iD ns) (iD ms) = decide (ns = ms)
  | [], [] => by simp [PyData.eqvAll]
  | [], m :: ms => by simp [PyData.eqvAll]
  | n :: ns, [] => by simp [PyData.eqvAll]
  | n :: ns, m :: ms => by
    simp only [List.map_cons, PyData.eqvAll, PyData.eqv]
    rw [eqv_ints ns ms]
    by_cases h : n = m
    · subst h; simp
    · simp [h]
theorem eq_tupI {S : Sto} {ns ms : List Int} : eqOp S (.tup (iV ns)) (.tup (iV ms)) = some (decide (ns = ms)) := by
  show eqDeep S (.tup (iV ns)) (.tup (iV ms)) = _
  unfold eqDeep
  rw [toD_tupI, toD_tupI]
  dsimp only
  rw [shaped_tupI, shaped_tupI]
  simp only [Bool.and_self, if_true, PyData.eqv, eqv_ints]
theorem eq_lstI {S : Sto} {i j : Nat} {ns ms : List Int} (h : S[i]? = some (.lst (iV ns))) (h2 : S[j]? = some (.lst (iV ms))) : eqOp S (.ref i) (.ref j) = some (decide (ns = ms)) := by
  show eqDeep S (.ref i) (.ref j) = _
  unfold eqDeep
  rw [toD_lstI h, toD_lstI h2]
  dsimp only
  rw [shaped_lstI, shaped_lstI]
  simp only [Bool.and_self, if_true, PyData.eqv, eqv_ints]
/-! answers of comparisons -/
section
variable {S : Sto} {P : Va → Sto → Prop}
theorem c_eqI {i j : Int} {Q : Bool → Prop} (q : Q (decide (i = j))) : ∃ c, cmpOp .Eq (.int i) (.int j) S = some c ∧ Q c := ⟨decide (i = j), by
  show some (decide (L2.V.int i = L2.V.int j)) = _
  rw [L2.dec_int]
  by_cases h : i = j <;> simp [h], q⟩
theorem c_neI {i j : Int} {Q : Bool → Prop} (q : Q (!decide (i = j))) : ∃ c, cmpOp .NotEq (.int i) (.int j) S = some c ∧ Q c := ⟨!decide (i = j), by
  show Option.map (!·) (some (decide (L2.V.int i = L2.V.int j))) = _
  rw [L2.dec_int]
  by_cases h : i = j <;> simp [h], q⟩
theorem c_eqT {ns ms : List Int} {Q : Bool → Prop} (q : Q (decide (ns = ms))) : ∃ c, cmpOp .Eq (.tup (iV ns)) (.tup (iV ms)) S = some c ∧ Q c := ⟨_, eq_tupI, q⟩
theorem c_neT {ns ms : List Int} {Q : Bool → Prop} (q : Q (!decide (ns = ms))) : ∃ c, cmpOp .NotEq (.tup (iV ns)) (.tup (iV ms)) S = some c ∧ Q c := ⟨_, by show (eqOp S _ _).map _ = _; rw [eq_tupI]; rfl, q⟩
theorem c_eqL {i j : Nat} {ns ms : List Int} (h : S[i]? = some (.lst (iV ns))) (h2 : S[j]? = some (.lst (iV ms))) {Q : Bool → Prop} (q : Q (decide (ns = ms))) : ∃ c, cmpOp .Eq (.ref i) (.ref j) S = some c ∧ Q c := ⟨_, eq_lstI h h2, q⟩
theorem c_neL {i j : Nat} {ns ms : List Int} (h : S[i]? = some (.lst (iV ns))) (h2 : S[j]? = some (.lst (iV ms))) {Q : Bool → Prop} (q : Q (!decide (ns = ms))) : ∃ c, cmpOp .NotEq (.ref i) (.ref j) S = some c ∧ Q c := ⟨_, by show (eqOp S _ _).map _ = _; rw [eq_lstI h h2]; rfl, q⟩
theorem c_ltI {i j : Int} {Q : Bool → Prop} (q : Q (decide (i < j))) : ∃ c, cmpOp .Lt (.int i) (.int j) S = some c ∧ Q c := ⟨_, rfl, q⟩
theorem c_leI {i j : Int} {Q : Bool → Prop} (q : Q (decide (i ≤ j))) : ∃ c, cmpOp .LtE (.int i) (.int j) S = some c ∧ Q c := ⟨_, rfl, q⟩
theorem c_gtI {i j : Int} {Q : Bool → Prop} (q : Q (decide (j < i))) : ∃ c, cmpOp .Gt (.int i) (.int j) S = some c ∧ Q c := ⟨_, rfl, q⟩
theorem c_geI {i j : Int} {Q : Bool → Prop} (q : Q (decide (j ≤ i))) : ∃ c, cmpOp .GtE (.int i) (.int j) S = some c ∧ Q c := ⟨_, rfl, q⟩
theorem b_addI {i j : Int} (q : P (.int (i + j)) S) : Rw (binOp .Add (.int i) (.int j) S) P := .ok q
theorem b_subI {i j : Int} (q : P (.int (i - j)) S) : Rw (binOp .Sub (.int i) (.int j) S) P := .ok q
theorem e_bl {b : Bool} {Q : Bool → Prop} (q : Q b) : ∃ k, Va.bl b = .bl k ∧ Q k := ⟨b, rfl, q⟩
theorem e_iI {b : Int} {Q : Int → Prop} (q : Q b) : ∃ k, Va.int b = .int k ∧ Q k := ⟨b, rfl, q⟩
theorem e_set {tg : Tg} {x : Va} {ρ ρ' : Env} {Q : Env → Prop} (h : setT tg x ρ S = some ρ') (q : Q ρ') : ∃ ρ', setT tg x ρ S = some ρ' ∧ Q ρ' := ⟨ρ', h, q⟩
theorem pick_t {A B : Prop} (q : A) : (true = true → A) ∧ (true = false → B) := ⟨fun _ => q, fun z => Bool.noConfusion z⟩
theorem pick_f {A B : Prop} (q : B) : (false = true → A) ∧ (false = false → B) := ⟨fun z => Bool.noConfusion z, fun _ => q⟩
theorem is_int {i : Int} {Q : Bool → Prop} (q : Q false) : ∃ c, cmpOp .Is (.int i) .non S = some c ∧ Q c := ⟨_, rfl, q⟩
theorem is_non {Q : Bool → Prop} (q : Q true) : ∃ c, cmpOp .Is .non .non S = some c ∧ Q c := ⟨_, rfl, q⟩
theorem is_tup {xs : List Va} {Q : Bool → Prop} (q : Q false) : ∃ c, cmpOp .Is (.tup xs) .non S = some c ∧ Q c := ⟨_, rfl, q⟩
theorem is_str {x : Str} {Q : Bool → Prop} (q : Q false) : ∃ c, cmpOp .Is (.str x) .non S = some c ∧ Q c := ⟨_, rfl, q⟩
theorem isn_int {i : Int} {Q : Bool → Prop} (q : Q true) : ∃ c, cmpOp .IsNot (.int i) .non S = some c ∧ Q c := ⟨_, rfl, q⟩
theorem isn_non {Q : Bool → Prop} (q : Q false) : ∃ c, cmpOp .IsNot .non .non S = some c ∧ Q c := ⟨_, rfl, q⟩
theorem isn_tup {xs : List Va} {Q : Bool → Prop} (q : Q true) : ∃ c, cmpOp .IsNot (.tup xs) .non S = some c ∧ Q c := ⟨_, rfl, q⟩
theorem ist_tup {xs : List Va} {Q : Bool → Prop} (q : Q true) : ∃ c, isTy S (.tup xs) .tup = some c ∧ Q c := ⟨_, rfl, q⟩
theorem ist_tupS {xs : List Va} {Q : Bool → Prop} (q : Q false) : ∃ c, isTy S (.tup xs) .str = some c ∧ Q c := ⟨_, rfl, q⟩
theorem ist_strS {x : Str} {Q : Bool → Prop} (q : Q true) : ∃ c, isTy S (.str x) .str = some c ∧ Q c := ⟨_, rfl, q⟩
theorem ist_strT {x : Str} {Q : Bool → Prop} (q : Q false) : ∃ c, isTy S (.str x) .tup = some c ∧ Q c := ⟨_, rfl, q⟩
theorem ist_intI {x : Int} {Q : Bool → Prop} (q : Q true) : ∃ c, isTy S (.int x) .int = some c ∧ Q c := ⟨_, rfl, q⟩
theorem ist_intB {x : Int} {Q : Bool → Prop} (q : Q false) : ∃ c, isTy S (.int x) .bool = some c ∧ Q c := ⟨_, rfl, q⟩
theorem ist_intT {x : Int} {Q : Bool → Prop} (q : Q false) : ∃ c, isTy S (.int x) .tup = some c ∧ Q c := ⟨_, rfl, q⟩
theorem w_andT {C : Kx} {hx : Option (Nat × Va)} {ρ : Env} {e : Ex} {es : Exs} (q : Rw (evE C hx e ρ S) fun x S => ∃ c, x = .bl c ∧ Rw (evB C hx true es c ρ S) P) : Rw (evB C hx true (.cons e es) true ρ S) P := w_and (fun _ => q) (fun z => Bool.noConfusion z)
theorem w_andF {C : Kx} {hx : Option (Nat × Va)} {ρ : Env} {e : Ex} {es : Exs} (q : P (.bl false) S) : Rw (evB C hx true (.cons e es) false ρ S) P := w_and (fun z => Bool.noConfusion z) (fun _ => q)
theorem w_orF {C : Kx} {hx : Option (Nat × Va)} {ρ : Env} {e : Ex} {es : Exs} (q : Rw (evE C hx e ρ S) fun x S => ∃ c, x = .bl c ∧ Rw (evB C hx false es c ρ S) P) : Rw (evB C hx false (.cons e es) false ρ S) P := w_or (fun _ => q) (fun z => Bool.noConfusion z)
theorem w_orT {C : Kx} {hx : Option (Nat × Va)} {ρ : Env} {e : Ex} {es : Exs} (q : P (.bl true) S) : Rw (evB C hx false (.cons e es) true ρ S) P := w_or (fun z => Bool.noConfusion z) (fun _ => q)
theorem e_nT {Q : Bool → Prop} (q : Q false) : Q (!true) := q
theorem e_nF {Q : Bool → Prop} (q : Q true) : Q (!false) := q
theorem b_pow {i j : Int} (h : 0 ≤ j) (h2 : (Builtin.Int.intBits i : Int) * j ≤ 2 ^ 27) (q : P (.int (i ^ j.toNat)) S) : Rw (binOp .Pow (.int i) (.int j) S) P := by
  show Rw (intB _ _ S) P
  unfold intB
  rw [if_pos (by simp only [Bool.and_eq_true, decide_eq_true_eq]; exact ⟨h, h2⟩)]
  exact .ok q
theorem b_mul {i j : Int} (h : i.natAbs < 2 ^ 64 ∨ j.natAbs < 2 ^ 64) (q : P (.int (i * j)) S) : Rw (binOp .Mult (.int i) (.int j) S) P := by
  show Rw (intB _ _ S) P
  unfold intB
  rw [if_pos (by rcases h with h | h <;> simp [h])]
  exact .ok q
theorem b_mod {i j : Int} (h : j ≠ 0) (q : P (.int (i.fmod j)) S) : Rw (binOp .Mod (.int i) (.int j) S) P := by
  show Rw (intB _ _ S) P
  unfold intB
  rw [if_pos (by simp [h])]
  exact .ok q
theorem b_fdiv {i j : Int} (h : j ≠ 0) (h2 : j.natAbs < 1073741824) (q : P (.int (i.fdiv j)) S) : Rw (binOp .FloorDiv (.int i) (.int j) S) P := by
  show Rw (intB _ _ S) P
  unfold intB
  rw [if_pos (by simp [h, h2])]
  exact .ok q
theorem b_cat {xs ys : List Va} (h : xs.length + ys.length ≤ sizeLine) (q : P (.tup (xs ++ ys)) S) : Rw (binOp .Add (.tup xs) (.tup ys) S) P := w_mkT (by rw [List.length_append]; exact h) q
theorem bi_int {i : Int} (q : P (.int i) S) : Rw (biOp .int [.int i] S) P := .ok q
theorem bi_abs {i : Int} (q : P (.int (if i < 0 then -i else i)) S) : Rw (biOp .abs [.int i] S) P := .ok q
theorem bi_lenT {xs : List Va} (q : P (.int xs.length) S) : Rw (biOp .len [.tup xs] S) P := .ok q
theorem bi_lenL {a : Nat} {xs : List Va} (h : S[a]? = some (.lst xs)) (q : P (.int xs.length) S) : Rw (biOp .len [.ref a] S) P := by
  show Rw (match S[a]? with
    | some (.lst xs) => .ok (.int xs.length) S
    | _ => .bad) P
  rw [h]
  exact .ok q
theorem bi_tupT {xs : List Va} (q : P (.tup xs) S) : Rw (biOp .tuple [.tup xs] S) P := .ok q
theorem bi_tupL {a : Nat} {xs : List Va} (h : S[a]? = some (.lst xs)) (hz : xs.length ≤ sizeLine) (q : P (.tup xs) S) : Rw (biOp .tuple [.ref a] S) P := by
  show Rw (match S[a]? with
    | some (.lst xs) => mkT xs S
    | _ => .bad) P
  rw [h]
  exact w_mkT hz q
theorem bi_lstL {a : Nat} {xs : List Va} (h : S[a]? = some (.lst xs)) (hz : xs.length ≤ sizeLine) (q : P (.ref S.length) (S ++ [.lst xs])) : Rw (biOp .list [.ref a] S) P := by
  show Rw (match S[a]? with
    | some (.lst xs) => newL xs S
    | _ => .bad) P
  rw [h]
  exact w_newL hz q
theorem bi_lstT {xs : List Va} (hz : xs.length ≤ sizeLine) (q : P (.ref S.length) (S ++ [.lst xs])) : Rw (biOp .list [.tup xs] S) P := w_newL hz q
theorem bi_revL {a : Nat} {xs : List Va} (h : S[a]? = some (.lst xs)) (hz : xs.length ≤ sizeLine) (q : P (.ref S.length) (S ++ [.lst xs.reverse])) : Rw (biOp .listRev [.ref a] S) P := by
  show Rw (match lstOf (.ref a) S with
    | some xs => newL xs.reverse S
    | none => .bad) P
  unfold lstOf
  dsimp only
  rw [h]
  exact w_newL (by rw [List.length_reverse]; exact hz) q
theorem bi_revT {a : Nat} {xs : List Va} (h : S[a]? = some (.lst xs)) (hz : xs.length ≤ sizeLine) (q : P (.tup xs.reverse) S) : Rw (biOp .tupRev [.ref a] S) P := by
  show Rw (match lstOf (.ref a) S with
    | some xs => mkT xs.reverse S
    | none => .bad) P
  unfold lstOf
  dsimp only
  rw [h]
  exact w_mkT (by rw [List.length_reverse]; exact hz) q
theorem bls_map : ∀ bs : List Bool, blsOf (bs.map .bl) = some bs
  | [] => rfl
  | b :: bs => by
    have ih := bls_map bs
    unfold blsOf at ih ⊢
    show optMap _ (Va.bl b :: bs.map .bl) = _
    unfold optMap
    rw [ih]
theorem bi_allL {a : Nat} {bs : List Bool} (h : S[a]? = some (.lst (bs.map .bl))) (q : P (.bl (bs.all id)) S) : Rw (biOp .all [.ref a] S) P := by
  show Rw (match (lstOf (.ref a) S).bind blsOf with
    | some bs => .ok (.bl (bs.all id)) S
    | none => .bad) P
  unfold lstOf
  dsimp only
  rw [h]
  show Rw (match blsOf (bs.map .bl) with
    | some bs => .ok (.bl (bs.all id)) S
    | none => .bad) P
  rw [bls_map]
  exact .ok q
theorem ints_map : ∀ ns : List Int, intsOf (iV ns) = some ns
  | [] => rfl
  | b :: bs => by
    have ih := ints_map bs
    unfold intsOf at ih ⊢
    show optMap _ (Va.int b :: iV bs) = _
    unfold optMap
    rw [ih]
theorem bi_sumT {ns : List Int} (q : P (.int ns.sum) S) : Rw (biOp .sum [.tup (iV ns)] S) P := by
  show Rw (match intsOf (iV ns) with
    | some ns => .ok (.int ns.sum) S
    | none => .bad) P
  rw [ints_map]
  exact .ok q
theorem bi_sumL {a : Nat} {ns : List Int} (h : S[a]? = some (.lst (iV ns))) (q : P (.int ns.sum) S) : Rw (biOp .sum [.ref a] S) P := by
  show Rw (match (lstOf (.ref a) S).bind intsOf with
    | some ns => .ok (.int ns.sum) S
    | none => .bad) P
  unfold lstOf
  dsimp only
  rw [h]
  show Rw (match intsOf (iV ns) with
    | some ns => .ok (.int ns.sum) S
    | none => .bad) P
  rw [ints_map]
  exact .ok q
theorem mm_app {a : Nat} {xs : List Va} {y : Va} (h : S[a]? = some (.lst xs)) (hz : xs.length < sizeLine) (q : P .non (S.set a (.lst (xs ++ [y])))) : Rw (meOp .append (.ref a) [y] S) P := by
  show Rw (match S[a]? with
    | some (.lst xs) => if xs.length < sizeLine then .ok .non (S.set a (.lst (xs ++ [y]))) else .bad
    | _ => .bad) P
  rw [h]
  dsimp only
  rw [if_pos hz]
  exact .ok q
theorem mm_ext {a b : Nat} {xs ys : List Va} (h : S[a]? = some (.lst xs)) (h2 : S[b]? = some (.lst ys)) (hz : xs.length + ys.length ≤ sizeLine) (q : P .non (S.set a (.lst (xs ++ ys)))) : Rw (meOp .extend (.ref a) [.ref b] S) P := by
  show Rw (match S[a]?, S[b]? with
    | some (.lst xs), some (.lst ys) => if xs.length + ys.length ≤ sizeLine then .ok .non (S.set a (.lst (xs ++ ys))) else .bad
    | _, _ => .bad) P
  rw [h, h2]
  dsimp only
  rw [if_pos hz]
  exact .ok q
theorem mm_pop {a : Nat} {xs : List Va} {y : Va} (h : S[a]? = some (.lst (xs ++ [y]))) (q : P y (S.set a (.lst xs))) : Rw (meOp .pop (.ref a) [] S) P := by
  show Rw (match S[a]? with
    | some (.lst xs) => match xs[xs.length - 1]? with
      | some y => .ok y (S.set a (.lst xs.dropLast))
      | none => .bad
    | _ => .bad) P
  rw [h]
  dsimp only
  have e : (xs ++ [y])[(xs ++ [y]).length - 1]? = some y := by simp
  rw [e]
  dsimp only
  rw [List.dropLast_concat]
  exact .ok q
theorem ty_lst {a : Nat} {xs : List Va} {m : Me} (h : S[a]? = some (.lst xs)) (hm : m ≠ .count) : meTy m (.ref a) S = true := by
  cases m <;> first | exact absurd rfl hm | (simp only [meTy, h])
theorem ix_lst {a : Nat} {xs : List Va} {k : Int} {x : Va} (h : S[a]? = some (.lst xs)) (e : L2.atI xs k = some x) (q : P x S) : Rw (idxOp (.ref a) (.int k) S) P := by
  show Rw (match S[a]? with
      | some (.lst xs) => match L2.atI xs k with
        | some x => .ok x S
        | none => .bad
      | _ => .bad) P
  rw [h]
  dsimp only
  rw [e]
  exact .ok q
theorem ix_tup {xs : List Va} {k : Int} {x : Va} (e : L2.atI xs k = some x) (q : P x S) : Rw (idxOp (.tup xs) (.int k) S) P := by
  show Rw (match L2.atI xs k with
        | some x => .ok x S
        | none => .bad) P
  rw [e]
  exact .ok q
theorem set_lst {a : Nat} {xs : List Va} {k : Int} {j : Nat} {v : Va} {Q : Sto → Prop} (h : S[a]? = some (.lst xs)) (e : L2.ixN xs.length k = some j) (q : Q (S.set a (.lst (xs.set j v)))) : ∃ S', setI (.ref a) (.int k) v S = some S' ∧ Q S' := by
  refine ⟨_, ?_, q⟩
  show (match S[a]? with
    | some (.lst xs) => match L2.ixN xs.length k with
      | some j => some (S.set a (.lst (xs.set j v)))
      | none => none
    | _ => none) = _
  rw [h]
  dsimp only
  rw [e]
end
end EV

end
section
set_option Elab.async false
set_option linter.all false
set_option maxRecDepth 100000
set_option maxHeartbeats 4000000
/-! EV, part Z: slices, walks. -/
namespace EV
open PySem
theorem cut_map {α β : Type} (f : α → β) (xs : List α) (lo hi : Option Int) : cut (xs.map f) lo hi = (cut xs lo hi).map f := by
  unfold cut
  rw [List.length_map, List.map_take, List.map_drop]
theorem cut_to {α : Type} (xs : List α) (k : Nat) : cut xs none (some (k : Int)) = xs.take k := by
  unfold cut
  rw [HT.sIx_none, HT.sIx_nat, List.drop_zero, Nat.sub_zero]
  by_cases h : k ≤ xs.length
  · rw [Nat.min_eq_left h]
  · rw [Nat.min_eq_right (by omega), List.take_of_length_le (Nat.le_refl _), List.take_of_length_le (by omega)]
theorem cut_from {α : Type} (xs : List α) (k : Nat) : cut xs (some (k : Int)) none = xs.drop k := by
  unfold cut
  rw [HT.sIx_none, HT.sIx_nat]
  by_cases h : k ≤ xs.length
  · rw [Nat.min_eq_left h]
    exact List.take_of_length_le (by rw [List.length_drop]; exact Nat.le_refl _)
  · rw [Nat.min_eq_right (by omega), Nat.sub_self, List.take_zero, List.drop_eq_nil_of_le (by omega)]
theorem cut_mid {α : Type} (xs : List α) (i j : Nat) : cut xs (some (i : Int)) (some (j : Int)) = (xs.drop i).take (j - i) := by
  unfold cut
  rw [HT.sIx_nat, HT.sIx_nat]
  refine List.ext_getElem? fun m => ?_
  rw [List.getElem?_take, List.getElem?_take, List.getElem?_drop, List.getElem?_drop]
  by_cases h : i ≤ xs.length
  · rw [Nat.min_eq_left h]
    by_cases h2 : j ≤ xs.length
    · rw [Nat.min_eq_left h2]
    · rw [Nat.min_eq_right (by omega)]
      by_cases h3 : m < xs.length - i
      · rw [if_pos h3, if_pos (by omega)]
      · rw [if_neg h3, List.getElem?_eq_none (by omega)]
        split <;> rfl
  · rw [Nat.min_eq_right (show xs.length ≤ i by omega)]
    rw [if_neg (by omega), List.getElem?_eq_none (by omega)]
    split <;> rfl
section
variable {S : Sto} {P : Va → Sto → Prop}
theorem sl_lis {xs : List Va} {lo hi : Option Int} (hz : xs.length ≤ sizeLine) (q : P (.ref S.length) (S ++ [.lst (cut xs lo hi)])) : Rw (slcOp (.lis xs) (lo.map .int) (hi.map .int) S) P := by
  unfold slcOp
  rw [bnd_int, bnd_int]
  exact w_newL (Nat.le_trans (cut_length _ _ _) hz) q
theorem sl_tup {xs : List Va} {lo hi : Option Int} (q : P (.tup (cut xs lo hi)) S) : Rw (slcOp (.tup xs) (lo.map .int) (hi.map .int) S) P := by
  unfold slcOp
  rw [bnd_int, bnd_int]
  exact .ok q
theorem sl_lst {a : Nat} {xs : List Va} {lo hi : Option Int} (h : S[a]? = some (.lst xs)) (hz : xs.length ≤ sizeLine) (q : P (.ref S.length) (S ++ [.lst (cut xs lo hi)])) : Rw (slcOp (.ref a) (lo.map .int) (hi.map .int) S) P := by
  unfold slcOp
  rw [bnd_int, bnd_int]
  dsimp only
  rw [h]
  exact w_newL (Nat.le_trans (cut_length _ _ _) hz) q
theorem sw_ref {a : Nat} {xs : List Va} (h : S[a]? = some (.lst xs)) {Q : Wk → Prop} (q : Q ⟨xs, [(a, xs)]⟩) : ∃ w, seqW (.ref a) S = some w ∧ Q w := ⟨_, by unfold seqW; dsimp only; rw [h], q⟩
theorem sw_tup {xs : List Va} {Q : Wk → Prop} (q : Q ⟨xs, []⟩) : ∃ w, seqW (.tup xs) S = some w ∧ Q w := ⟨_, rfl, q⟩
theorem en_tup {xs : List Va} {Q : Wk → Prop} (q : Q ⟨enumFrom 0 xs, []⟩) : ∃ w, enumS (.tup xs) S = some w ∧ Q w := ⟨_, rfl, q⟩
theorem zp_tup {xs ys : List Va} {Q : Wk → Prop} (q : Q ⟨zipV xs ys, []⟩) : ∃ w, zipS (.tup xs) (.tup ys) S = some w ∧ Q w := ⟨_, rfl, q⟩
theorem stay_nil : stay [] S = true := rfl
theorem stay_one {a : Nat} {xs : List Va} (h : S[a]? = some (.lst xs)) : stay [(a, xs)] S = true := by
  unfold stay
  rw [List.all_cons, List.all_nil, Bool.and_true]
  dsimp only
  rw [h]
  exact Va.beqs_refl xs
/-- turns that leave the store as it is, each with its value -/
theorem w_map {turn : Va → Sto → Res (Option Va)} {G : List (Nat × List Va)} {P : List Va → Sto → Prop} {items : List Va} (f : Nat → Option Va) (hg : stay G S = true) (hs : ∀ i x, items[i]? = some x → Rw (turn x S) fun y S' => y = f i ∧ S' = S) (he : P ((List.range items.length).filterMap f) S) : Rw (compL turn G items S) P := by
  refine w_turns (fun i acc S' => S' = S ∧ acc = (List.range i).filterMap f) ⟨rfl, rfl⟩ (fun i acc S' _ q => by rw [q.1]; exact hg) (fun i x acc S' hx q => ?_) (fun acc S' q => ?_)
  · obtain ⟨rfl, rfl⟩ := q
    refine (hs i x hx).mono fun y S2 ⟨e1, e2⟩ => ⟨e2, ?_⟩
    rw [List.range_succ, List.filterMap_append, e1]
    cases h : f i <;> simp [h]
  · obtain ⟨rfl, rfl⟩ := q
    exact he
/-- .. by the items' values -/
theorem w_mapv {turn : Va → Sto → Res (Option Va)} {G : List (Nat × List Va)} {P : List Va → Sto → Prop} {items : List Va} (f : Va → Option Va) (hg : stay G S = true) (hs : ∀ x ∈ items, Rw (turn x S) fun y S' => y = f x ∧ S' = S) (he : P (items.filterMap f) S) : Rw (compL turn G items S) P := by
  refine w_turns (fun i acc S' => S' = S ∧ acc = (items.take i).filterMap f) ⟨rfl, rfl⟩ (fun i acc S' _ q => by rw [q.1]; exact hg) (fun i x acc S' hx q => ?_) (fun acc S' q => ?_)
  · obtain ⟨rfl, rfl⟩ := q
    refine (hs x (List.mem_of_getElem? hx)).mono fun y S2 ⟨e1, e2⟩ => ⟨e2, ?_⟩
    rw [List.take_add_one, hx, List.filterMap_append, e1]
    cases h : f x <;> simp [h]
  · obtain ⟨rfl, rfl⟩ := q
    rw [List.take_length]
    exact he
/-- a loop's turns that leave the store as it is -/
theorem zip_nil {ys : List Va} : zipV [] ys = [] := rfl
end
end EV

end
section
set_option Elab.async false
set_option linter.all false
set_option maxRecDepth 100000
set_option maxHeartbeats 16000000
namespace EV
open PySem PySem.Spec PyProof.Rows L2
/-- 0 -/
@[reducible] def k01_0 : Def := ⟨"is_integer", ["value"], ["value"], (.cons (.ret (.bool true (.ist (.var 0) [.int]) (.cons (.not (.ist (.var 0) [.bool])) .nil))) .nil)⟩
/-- 1 -/
@[reducible] def k01_1 : Def := ⟨"are_integers", ["value"], ["value", "item"], (.cons (.ret (.bool true (.ist (.var 0) [.tup]) (.cons (.bi .all (.cons (.comp (.call 0 (.cons (.var 1) .nil)) (.one 1) (.seq (.var 0)) .none [1]) .nil)) .nil))) .nil)⟩
/-- 2 -/
@[reducible] def k01_2 : Def := ⟨"odd_letter", ["k", "letters"], ["k", "letters", "odd", "place", "item"], (.cons (.asg (.one 2) (.comp (.var 3) (.many [3, 4]) (.enum (.var 1)) (.some (.not (.chn .LtE .Lt (.cst (.int 0)) (.var 4) (.var 0)))) [3, 4])) (.cons (.ret (.ite (.cmp .NotEq (.var 2) (.lst .nil)) (.idx (.var 2) (.cst (.int 0))) (.cst .non))) .nil))⟩
/-- 3 -/
@[reducible] def k01_3 : Def := ⟨"word_error", ["k", "value"], ["k", "value", "place"], (.cons (.ite (.not (.call 1 (.cons (.var 1) .nil))) (.cons (.ret (.cst (.str "form"))) .nil) .nil) (.cons (.ite (.cmp .Gt (.bi .len (.cons (.var 1) .nil)) (.glo "MAX_WORD" (.int 24))) (.cons (.ret (.cst (.str "long"))) .nil) .nil) (.cons (.asg (.one 2) (.call 2 (.cons (.var 0) (.cons (.var 1) .nil)))) (.cons (.ret (.ite (.cmp .IsNot (.var 2) (.cst .non)) (.tup (.cons (.cst (.str "letter")) (.cons (.var 2) .nil))) (.cst .non))) .nil))))⟩
/-- 4 -/
@[reducible] def k01_4 : Def := ⟨"class_error", ["k", "value"], ["k", "value", "place", "falls"], (.cons (.ite (.not (.call 1 (.cons (.var 1) .nil))) (.cons (.ret (.cst (.str "form"))) .nil) .nil) (.cons (.ite (.cmp .Eq (.var 1) (.tup .nil)) (.cons (.ret (.cst (.str "none"))) .nil) .nil) (.cons (.asg (.one 2) (.call 2 (.cons (.var 0) (.cons (.var 1) .nil)))) (.cons (.ite (.cmp .IsNot (.var 2) (.cst .non)) (.cons (.ret (.tup (.cons (.cst (.str "letter")) (.cons (.var 2) .nil)))) .nil) .nil) (.cons (.asg (.one 3) (.comp (.var 2) (.one 2) (.rng2 (.cst (.int 1)) (.bi .len (.cons (.var 1) .nil))) (.some (.cmp .LtE (.idx (.var 1) (.var 2)) (.idx (.var 1) (.bin .Sub (.var 2) (.cst (.int 1)))))) [2])) (.cons (.ret (.ite (.cmp .NotEq (.var 3) (.lst .nil)) (.tup (.cons (.cst (.str "order")) (.cons (.idx (.var 3) (.cst (.int 0))) .nil))) (.cst .non))) .nil))))))⟩
/-- 5 -/
@[reducible] def k01_5 : Def := ⟨"other_letters", ["k", "own"], ["k", "own", "letter"], (.cons (.ret (.bi .tuple (.cons (.comp (.var 2) (.one 2) (.rng1 (.var 0)) (.some (.cmp .NotIn (.var 2) (.var 1))) [2]) .nil))) .nil)⟩
/-- 6 -/
@[reducible] def k01_6 : Def := ⟨"letter_counts", ["k", "word"], ["k", "word", "letter"], (.cons (.ret (.bi .tuple (.cons (.comp (.me .count (.var 1) (.cons (.var 2) .nil)) (.one 2) (.rng1 (.var 0)) .none [2]) .nil))) .nil)⟩
/-- 7 -/
@[reducible] def k01_7 : Def := ⟨"runs_of", ["word", "own"], ["word", "own", "found", "first", "place", "letter"], (.cons (.par 2 3 (.lst .nil) (.cst .non)) (.cons (.fors (.many [4, 5]) (.enum (.var 0)) (.cons (.ite (.bool true (.cmp .In (.var 5) (.var 1)) (.cons (.cmp .Is (.var 3) (.cst .non)) .nil)) (.cons (.asg (.one 3) (.var 4)) .nil) .nil) (.cons (.ite (.bool true (.cmp .NotIn (.var 5) (.var 1)) (.cons (.cmp .IsNot (.var 3) (.cst .non)) .nil)) (.cons (.expr (.me .append (.var 2) (.cons (.tup (.cons (.var 3) (.cons (.var 4) .nil))) .nil))) (.cons (.asg (.one 3) (.cst .non)) .nil)) .nil) .nil))) (.cons (.ite (.cmp .IsNot (.var 3) (.cst .non)) (.cons (.expr (.me .append (.var 2) (.cons (.tup (.cons (.var 3) (.cons (.bi .len (.cons (.var 0) .nil)) .nil))) .nil))) .nil) .nil) (.cons (.ret (.bi .tuple (.cons (.var 2) .nil))) .nil))))⟩
/-- 8 -/
@[reducible] def k01_8 : Def := ⟨"like_length", ["one", "other"], ["one", "other", "many"], (.cons (.asg (.one 2) (.cst (.int 0))) (.cons (.whil (.bool true (.cmp .Lt (.var 2) (.bi .min2 (.cons (.bi .len (.cons (.var 0) .nil)) (.cons (.bi .len (.cons (.var 1) .nil)) .nil)))) (.cons (.cmp .Eq (.idx (.var 0) (.var 2)) (.idx (.var 1) (.var 2))) .nil)) (.cons (.asg (.one 2) (.bin .Add (.var 2) (.cst (.int 1)))) .nil)) (.cons (.ret (.var 2)) .nil)))⟩
/-- 9 -/
@[reducible] def k01_9 : Def := ⟨"common_begin", ["one", "other"], ["one", "other"], (.cons (.ret (.slc (.var 0) .none (.some (.call 8 (.cons (.var 0) (.cons (.var 1) .nil)))))) .nil)⟩
/-- 10 -/
@[reducible] def k01_10 : Def := ⟨"common_end", ["one", "other"], ["one", "other"], (.cons (.ret (.slc (.var 0) (.some (.bin .Sub (.bi .len (.cons (.var 0) .nil)) (.call 8 (.cons (.rev (.var 0)) (.cons (.rev (.var 1)) .nil))))) .none)) .nil)⟩
/-- 11 -/
@[reducible] def k01_11 : Def := ⟨"parts_at", ["word", "part"], ["word", "part", "many", "gap"], (.cons (.asg (.one 2) (.bi .len (.cons (.var 1) .nil))) (.cons (.ret (.bi .tuple (.cons (.comp (.var 3) (.one 3) (.rng1 (.bin .Add (.bin .Sub (.bi .len (.cons (.var 0) .nil)) (.var 2)) (.cst (.int 1)))) (.some (.cmp .Eq (.slc (.var 0) (.some (.var 3)) (.some (.bin .Add (.var 3) (.var 2)))) (.var 1))) [3]) .nil))) .nil))⟩
/-- 12 -/
@[reducible] def k01_12 : Def := ⟨"turned_word", ["word"], ["word"], (.cons (.ret (.rev (.var 0))) .nil)⟩
/-- 13 -/
@[reducible] def k01_13 : Def := ⟨"_law_own_bag", ["script"], ["script", "cells", "cell", "mixed"], (.cons (.asg (.one 1) (.comp (.bi .abs (.cons (.var 2) .nil)) (.one 2) (.seq (.slc (.var 0) .none (.some (.cst (.int 63))))) .none [2])) (.cons (.asg (.one 3) (.bin .Add (.cst (.int 1357)) (.bi .len (.cons (.var 1) .nil)))) (.cons (.fors (.one 2) (.seq (.var 1)) (.cons (.asg (.one 3) (.bin .Mod (.bin .Add (.bin .Add (.bin .Mult (.var 3) (.cst (.int 48271))) (.bin .Mod (.bi .int (.cons (.var 2) .nil)) (.cst (.int 2147483629)))) (.cst (.int 7))) (.cst (.int 2147483647)))) .nil)) (.cons (.ret (.lst (.cons (.bi .listRev (.cons (.bi .list (.cons (.var 1) .nil)) .nil)) (.cons (.cst (.int 0)) (.cons (.var 3) .nil))))) .nil))))⟩
/-- 14 -/
@[reducible] def k01_14 : Def := ⟨"_law_draw", ["bag", "below"], ["bag", "below", "cell", "found"], (.cons (.whil (.bool true (.cmp .Eq (.idx (.var 0) (.cst (.int 1))) (.cst (.int 0))) (.cons (.cmp .NotEq (.idx (.var 0) (.cst (.int 0))) (.lst .nil)) .nil)) (.cons (.asg (.one 2) (.me .pop (.idx (.var 0) (.cst (.int 0))) .nil)) (.cons (.asgIx (.var 0) (.cst (.int 1)) (.ite (.cmp .Gt (.var 2) (.bin .Pow (.cst (.int 10)) (.cst (.int 9)))) (.var 2) (.cst (.int 0)))) .nil))) (.cons (.ite (.cmp .Gt (.idx (.var 0) (.cst (.int 1))) (.cst (.int 0))) (.cons (.asg (.one 3) (.bin .Mod (.bi .int (.cons (.idx (.var 0) (.cst (.int 1))) .nil)) (.var 1))) (.cons (.asgIx (.var 0) (.cst (.int 1)) (.bin .FloorDiv (.idx (.var 0) (.cst (.int 1))) (.var 1))) (.cons (.ret (.var 3)) .nil))) .nil) (.cons (.asgIx (.var 0) (.cst (.int 2)) (.bin .Mod (.bin .Add (.bin .Mult (.bi .int (.cons (.idx (.var 0) (.cst (.int 2))) .nil)) (.cst (.int 48271))) (.cst (.int 11))) (.cst (.int 2147483647)))) (.cons (.ret (.bin .Mod (.bin .FloorDiv (.bin .Mod (.bi .int (.cons (.bin .Mult (.idx (.var 0) (.cst (.int 2))) (.idx (.var 0) (.cst (.int 2)))) .nil)) (.cst (.int 2147483629))) (.cst (.int 7))) (.var 1))) .nil))))⟩
/-- 15 -/
@[reducible] def k01_15 : Def := ⟨"_law_pick", ["bag", "some"], ["bag", "some"], (.cons (.ret (.idx (.var 1) (.call 14 (.cons (.var 0) (.cons (.bi .len (.cons (.var 1) .nil)) .nil))))) .nil)⟩
/-- 16 -/
@[reducible] def k01_16 : Def := ⟨"_law_are_numbers", ["told", "due"], ["told", "due", "one"], (.cons (.ite (.bool false (.not (.ist (.var 0) [.tup])) (.cons (.cmp .NotEq (.bi .len (.cons (.var 0) .nil)) (.bi .len (.cons (.var 1) .nil))) .nil)) (.cons (.ret (.cst (.bl false))) .nil) .nil) (.cons (.ret (.bool true (.bi .all (.cons (.comp (.bool true (.ist (.var 2) [.int]) (.cons (.not (.ist (.var 2) [.bool])) .nil)) (.one 2) (.seq (.var 0)) .none [2]) .nil)) (.cons (.cmp .Eq (.var 0) (.var 1)) .nil))) .nil))⟩
/-- 17 -/
@[reducible] def k01_17 : Def := ⟨"_law_are_pairs", ["told", "due"], ["told", "due", "one", "other"], (.cons (.ite (.bool false (.not (.ist (.var 0) [.tup])) (.cons (.cmp .NotEq (.bi .len (.cons (.var 0) .nil)) (.bi .len (.cons (.var 1) .nil))) .nil)) (.cons (.ret (.cst (.bl false))) .nil) .nil) (.cons (.ret (.bi .all (.cons (.comp (.call 16 (.cons (.var 2) (.cons (.var 3) .nil))) (.many [2, 3]) (.zip (.var 0) (.var 1)) .none [2, 3]) .nil))) .nil))⟩
/-- 18 -/
@[reducible] def k01_18 : Def := ⟨"_law_is_error", ["told", "due"], ["told", "due"], (.cons (.ite (.cmp .Is (.var 1) (.cst .non)) (.cons (.ret (.cmp .Is (.var 0) (.cst .non))) .nil) .nil) (.cons (.ite (.ist (.var 1) [.str]) (.cons (.ret (.bool true (.ist (.var 0) [.str]) (.cons (.cmp .Eq (.var 0) (.var 1)) .nil))) .nil) .nil) (.cons (.ite (.bool false (.not (.ist (.var 0) [.tup])) (.cons (.cmp .NotEq (.bi .len (.cons (.var 0) .nil)) (.cst (.int 2))) (.cons (.not (.ist (.idx (.var 0) (.cst (.int 0))) [.str])) (.cons (.cmp .NotEq (.idx (.var 0) (.cst (.int 0))) (.idx (.var 1) (.cst (.int 0)))) .nil)))) (.cons (.ret (.cst (.bl false))) .nil) .nil) (.cons (.ret (.bool true (.ist (.idx (.var 0) (.cst (.int 1))) [.int]) (.cons (.not (.ist (.idx (.var 0) (.cst (.int 1))) [.bool])) (.cons (.cmp .Eq (.idx (.var 0) (.cst (.int 1))) (.idx (.var 1) (.cst (.int 1)))) .nil)))) .nil))))⟩
/-- 19 -/
@[reducible] def k01_19 : Def := ⟨"_law_turned", ["word"], ["word"], (.cons (.ret (.bi .tupRev (.cons (.bi .list (.cons (.var 0) .nil)) .nil))) .nil)⟩
/-- 20 -/
@[reducible] def k01_20 : Def := ⟨"_law_class", ["k", "bits"], ["k", "bits", "a"], (.cons (.ret (.bi .tuple (.cons (.comp (.var 2) (.one 2) (.rng1 (.var 0)) (.some (.cmp .Eq (.bin .Mod (.bin .FloorDiv (.bi .int (.cons (.var 1) .nil)) (.idx (.lst (.cons (.cst (.int 1)) (.cons (.cst (.int 2)) (.cons (.cst (.int 4)) (.cons (.cst (.int 8)) (.cons (.cst (.int 16)) .nil)))))) (.var 2))) (.cst (.int 2))) (.cst (.int 1)))) [2]) .nil))) .nil)⟩
/-- 21 -/
@[reducible] def k01_21 : Def := ⟨"_law_word", ["bag", "k", "n"], ["bag", "k", "n", "way", "turn", "found", "part"], (.cons (.asg (.one 3) (.call 14 (.cons (.var 0) (.cons (.cst (.int 3)) .nil)))) (.cons (.ite (.cmp .Eq (.var 3) (.cst (.int 0))) (.cons (.ret (.bi .tuple (.cons (.comp (.call 14 (.cons (.var 0) (.cons (.var 1) .nil))) (.one 4) (.rng1 (.var 2)) .none [4]) .nil))) .nil) .nil) (.cons (.asg (.one 5) (.lst .nil)) (.cons (.ite (.cmp .Eq (.var 3) (.cst (.int 1))) (.cons (.fors (.one 4) (.rng1 (.var 2)) (.cons (.ite (.cmp .Lt (.bi .len (.cons (.var 5) .nil)) (.var 2)) (.cons (.expr (.me .extend (.var 5) (.cons (.bin .Mult (.lst (.cons (.call 14 (.cons (.var 0) (.cons (.var 1) .nil))) .nil)) (.bin .Add (.cst (.int 1)) (.call 14 (.cons (.var 0) (.cons (.bin .Add (.cst (.int 2)) (.bin .FloorDiv (.var 2) (.cst (.int 6)))) .nil))))) .nil))) .nil) .nil) .nil)) (.cons (.ret (.bi .tuple (.cons (.slc (.var 5) .none (.some (.var 2))) .nil))) .nil)) .nil) (.cons (.asg (.one 6) (.comp (.call 14 (.cons (.var 0) (.cons (.var 1) .nil))) (.one 4) (.rng1 (.bin .Add (.cst (.int 1)) (.call 14 (.cons (.var 0) (.cons (.cst (.int 4)) .nil))))) .none [4])) (.cons (.asg (.one 5) (.slc (.bin .Mult (.var 6) (.var 2)) .none (.some (.var 2)))) (.cons (.ite (.bool true (.cmp .Gt (.var 2) (.cst (.int 0))) (.cons (.cmp .Eq (.call 14 (.cons (.var 0) (.cons (.cst (.int 2)) .nil))) (.cst (.int 0))) .nil)) (.cons (.asgIx (.var 5) (.call 14 (.cons (.var 0) (.cons (.var 2) .nil))) (.call 14 (.cons (.var 0) (.cons (.var 1) .nil)))) .nil) .nil) (.cons (.ret (.bi .tuple (.cons (.var 5) .nil))) .nil))))))))⟩
/-- 22 -/
@[reducible] def k01_22 : Def := ⟨"_law_bad_letter", ["k", "value"], ["k", "value", "i", "one"], (.cons (.fors (.many [2, 3]) (.enum (.var 1)) (.cons (.ite (.bool false (.cmp .Lt (.var 3) (.cst (.int 0))) (.cons (.cmp .GtE (.var 3) (.var 0)) .nil)) (.cons (.ret (.var 2)) .nil) .nil) .nil)) (.cons (.ret (.cst .non)) .nil))⟩
/-- 23 -/
@[reducible] def k01_23 : Def := ⟨"_law_bad_order", ["value"], ["value", "i"], (.cons (.fors (.one 1) (.rng2 (.cst (.int 1)) (.bi .len (.cons (.var 0) .nil))) (.cons (.ite (.cmp .LtE (.idx (.var 0) (.var 1)) (.idx (.var 0) (.bin .Sub (.var 1) (.cst (.int 1))))) (.cons (.ret (.var 1)) .nil) .nil) .nil)) (.cons (.ret (.cst .non)) .nil))⟩
/-- 24 -/
@[reducible] def k01_24 : Def := ⟨"_law_dues", ["k", "value"], ["k", "value", "one", "bad", "first"], (.cons (.ite (.not (.ist (.var 1) [.tup])) (.cons (.ret (.lst (.cons (.cst (.str "form")) (.cons (.cst (.str "form")) .nil)))) .nil) .nil) (.cons (.ite (.not (.bi .all (.cons (.comp (.bool true (.ist (.var 2) [.int]) (.cons (.not (.ist (.var 2) [.bool])) .nil)) (.one 2) (.seq (.var 1)) .none [2]) .nil))) (.cons (.ret (.lst (.cons (.cst (.str "form")) (.cons (.cst (.str "form")) .nil)))) .nil) .nil) (.cons (.ite (.cmp .Eq (.var 1) (.tup .nil)) (.cons (.ret (.lst (.cons (.cst .non) (.cons (.cst (.str "none")) .nil)))) .nil) .nil) (.cons (.asg (.one 3) (.call 22 (.cons (.var 0) (.cons (.var 1) .nil)))) (.cons (.asg (.one 4) (.ite (.cmp .Is (.var 3) (.cst .non)) (.cst .non) (.tup (.cons (.cst (.str "letter")) (.cons (.var 3) .nil))))) (.cons (.ite (.cmp .Gt (.bi .len (.cons (.var 1) .nil)) (.cst (.int 24))) (.cons (.asg (.one 4) (.cst (.str "long"))) .nil) .nil) (.cons (.ite (.cmp .IsNot (.var 3) (.cst .non)) (.cons (.ret (.lst (.cons (.var 4) (.cons (.tup (.cons (.cst (.str "letter")) (.cons (.var 3) .nil))) .nil)))) .nil) .nil) (.cons (.asg (.one 3) (.call 23 (.cons (.var 1) .nil))) (.cons (.ret (.lst (.cons (.var 4) (.cons (.ite (.cmp .Is (.var 3) (.cst .non)) (.cst .non) (.tup (.cons (.cst (.str "order")) (.cons (.var 3) .nil)))) .nil)))) .nil)))))))))⟩
/-- 25 -/
@[reducible] def k01_25 : Def := ⟨"_law_is_judged", ["k", "value", "due", "other"], ["k", "value", "due", "other"], (.cons (.ite (.bool false (.not (.call 18 (.cons (.call 3 (.cons (.var 0) (.cons (.var 1) .nil))) (.cons (.var 2) .nil)))) (.cons (.not (.call 18 (.cons (.callK 3 .nil [0, 1] (.cons (.var 0) (.cons (.var 1) .nil))) (.cons (.var 2) .nil)))) .nil)) (.cons (.ret (.cst (.bl false))) .nil) .nil) (.cons (.ret (.bool true (.call 18 (.cons (.call 4 (.cons (.var 0) (.cons (.var 1) .nil))) (.cons (.var 3) .nil))) (.cons (.call 18 (.cons (.callK 4 .nil [0, 1] (.cons (.var 0) (.cons (.var 1) .nil))) (.cons (.var 3) .nil))) .nil))) .nil))⟩
/-- 26 -/
@[reducible] def k01_26 : Def := ⟨"_law_are_judged", ["k", "values"], ["k", "values", "value", "kept", "dues"], (.cons (.fors (.one 2) (.seq (.var 1)) (.cons (.par 3 4 (.bi .repr (.cons (.var 2) .nil)) (.call 24 (.cons (.var 0) (.cons (.var 2) .nil)))) (.cons (.ite (.bool false (.not (.call 25 (.cons (.var 0) (.cons (.var 2) (.cons (.idx (.var 4) (.cst (.int 0))) (.cons (.idx (.var 4) (.cst (.int 1))) .nil)))))) (.cons (.cmp .NotEq (.bi .repr (.cons (.var 2) .nil)) (.var 3)) .nil)) (.cons (.ret (.cst (.bl false))) .nil) .nil) .nil))) (.cons (.ret (.cst (.bl true))) .nil))⟩
/-- 27 -/
@[reducible] def k01_27 : Def := ⟨"_law_strange", ["bag", "k"], ["bag", "k", "great", "numbers", "others"], (.cons (.asg (.one 2) (.bin .Pow (.bin .Pow (.cst (.int 10)) (.cst (.int 57))) (.cst (.int 7)))) (.cons (.asg (.one 3) (.lst (.cons (.var 1) (.cons (.neg (.cst (.int 1))) (.cons (.bin .Add (.var 1) (.cst (.int 1))) (.cons (.neg (.var 1)) (.cons (.cst (.int 5)) (.cons (.cst (.int 7)) (.cons (.var 2) (.cons (.bin .Sub (.cst (.int 0)) (.var 2)) (.cons (.bin .Add (.var 1) (.call 14 (.cons (.var 0) (.cons (.cst (.int 300)) .nil)))) (.cons (.bin .Sub (.neg (.cst (.int 1))) (.call 14 (.cons (.var 0) (.cons (.cst (.int 300)) .nil)))) .nil)))))))))))) (.cons (.asg (.one 4) (.lst (.cons (.cst (.bl true)) (.cons (.cst (.bl false)) (.cons (.cst .non) (.cons (.cst (.str "a")) (.cons (.cst (.str "0")) (.cons (.cst (.str "")) (.cons (.tup (.cons (.cst (.int 0)) .nil)) (.cons (.lst (.cons (.cst (.int 0)) .nil)) (.cons (.tup .nil) (.cons (.dic (.cons (.cst (.int 0)) .nil) (.cons (.cst (.int 0)) .nil)) .nil)))))))))))) (.cons (.ret (.lst (.cons (.call 15 (.cons (.var 0) (.cons (.var 3) .nil))) (.cons (.call 15 (.cons (.var 0) (.cons (.var 4) .nil))) .nil)))) .nil))))⟩
/-- 28 -/
@[reducible] def k01_28 : Def := ⟨"_law_spoilt", ["bag", "k", "word"], ["bag", "k", "word", "n", "at", "number", "other", "again", "second", "bad", "odd", "like", "found"], (.cons (.asg (.one 3) (.bi .len (.cons (.var 2) .nil))) (.cons (.asg (.one 4) (.ite (.cmp .Eq (.call 14 (.cons (.var 0) (.cons (.cst (.int 3)) .nil))) (.cst (.int 0))) (.bin .Sub (.var 3) (.cst (.int 1))) (.call 14 (.cons (.var 0) (.cons (.var 3) .nil))))) (.cons (.asg (.many [5, 6]) (.call 27 (.cons (.var 0) (.cons (.var 1) .nil)))) (.cons (.asg (.one 7) (.call 14 (.cons (.var 0) (.cons (.bin .Add (.var 3) (.cst (.int 1))) .nil)))) (.cons (.asg (.one 8) (.call 27 (.cons (.var 0) (.cons (.var 1) .nil)))) (.cons (.asg (.one 9) (.bin .Add (.bin .Add (.slc (.var 2) .none (.some (.var 4))) (.tup (.cons (.var 5) .nil))) (.slc (.var 2) (.some (.bin .Add (.var 4) (.cst (.int 1)))) .none))) (.cons (.asg (.one 10) (.bin .Add (.bin .Add (.slc (.var 2) .none (.some (.var 4))) (.tup (.cons (.var 6) .nil))) (.slc (.var 2) (.some (.bin .Add (.var 4) (.cst (.int 1)))) .none))) (.cons (.asg (.one 11) (.bin .Add (.bin .Add (.slc (.var 2) .none (.some (.var 4))) (.tup (.cons (.cmp .Eq (.idx (.var 2) (.var 4)) (.cst (.int 1))) .nil))) (.slc (.var 2) (.some (.bin .Add (.var 4) (.cst (.int 1)))) .none))) (.cons (.asg (.one 12) (.lst (.cons (.var 2) (.cons (.var 9) (.cons (.var 10) (.cons (.var 11) (.cons (.var 2) (.cons (.slc (.var 2) .none (.some (.var 4))) (.cons (.slc (.var 2) (.some (.var 4)) .none) (.cons (.bin .Add (.var 2) (.tup (.cons (.idx (.var 2) (.var 4)) .nil))) .nil)))))))))) (.cons (.expr (.me .append (.var 12) (.cons (.bin .Add (.bin .Add (.slc (.var 2) .none (.some (.var 7))) (.tup (.cons (.idx (.var 2) (.var 4)) .nil))) (.slc (.var 2) (.some (.var 7)) .none)) .nil))) (.cons (.expr (.me .extend (.var 12) (.cons (.lst (.cons (.bin .Add (.bin .Add (.slc (.var 9) .none (.some (.var 7))) (.tup (.cons (.idx (.var 8) (.cst (.int 0))) .nil))) (.slc (.var 9) (.some (.var 7)) .none)) (.cons (.bin .Add (.bin .Add (.slc (.var 9) .none (.some (.var 7))) (.tup (.cons (.idx (.var 8) (.cst (.int 1))) .nil))) (.slc (.var 9) (.some (.var 7)) .none)) (.cons (.bin .Add (.var 9) (.var 2)) .nil)))) .nil))) (.cons (.expr (.me .extend (.var 12) (.cons (.lst (.cons (.call 19 (.cons (.var 2) .nil)) (.cons (.bin .Add (.var 2) (.var 2)) (.cons (.bin .Add (.slc (.var 2) (.some (.var 4)) .none) (.slc (.var 2) .none (.some (.var 4)))) (.cons (.bin .Add (.call 19 (.cons (.var 2) .nil)) (.tup (.cons (.var 5) .nil))) .nil))))) .nil))) (.cons (.expr (.me .extend (.var 12) (.cons (.lst (.cons (.bin .Add (.tup (.cons (.var 6) .nil)) (.var 9)) (.cons (.bi .list (.cons (.var 2) .nil)) (.cons (.lst (.cons (.var 2) .nil)) (.cons (.tup (.cons (.var 2) .nil)) (.cons (.bi .list (.cons (.var 9) .nil)) (.cons (.tup (.cons (.bi .list (.cons (.var 2) .nil)) .nil)) (.cons (.bin .Add (.var 2) (.tup (.cons (.var 2) .nil))) .nil)))))))) .nil))) (.cons (.expr (.me .extend (.var 12) (.cons (.lst (.cons (.dic (.cons (.var 2) .nil) (.cons (.var 2) .nil)) (.cons (.var 6) (.cons (.var 5) (.cons (.var 2) .nil))))) .nil))) (.cons (.ret (.var 12)) .nil)))))))))))))))⟩
/-- 29 -/
@[reducible] def k01_29 : Def := ⟨"_law_are_lengths_right", ["bag"], ["bag", "k", "word", "turn", "number", "other", "values"], (.cons (.fors (.one 1) (.rng2 (.cst (.int 1)) (.cst (.int 6))) (.cons (.asg (.one 2) (.bi .tuple (.cons (.comp (.call 14 (.cons (.var 0) (.cons (.var 1) .nil))) (.one 3) (.rng1 (.cst (.int 25))) .none [3]) .nil))) (.cons (.asg (.many [4, 5]) (.call 27 (.cons (.var 0) (.cons (.var 1) .nil)))) (.cons (.asg (.one 6) (.lst (.cons (.var 2) (.cons (.slc (.var 2) (.some (.cst (.int 1))) .none) (.cons (.slc (.var 2) .none (.some (.cst (.int 24)))) (.cons (.bin .Add (.slc (.var 2) .none (.some (.cst (.int 24)))) (.tup (.cons (.var 4) .nil))) (.cons (.bin .Add (.slc (.var 2) .none (.some (.cst (.int 23)))) (.tup (.cons (.var 4) .nil))) (.cons (.bin .Add (.slc (.var 2) .none (.some (.cst (.int 23)))) (.tup (.cons (.var 5) .nil))) .nil)))))))) (.cons (.expr (.me .extend (.var 6) (.cons (.lst (.cons (.bin .Add (.slc (.var 2) .none (.some (.cst (.int 24)))) (.tup (.cons (.var 5) .nil))) (.cons (.bin .Add (.tup (.cons (.var 4) .nil)) (.var 2)) (.cons (.bin .Add (.bin .Add (.slc (.var 2) .none (.some (.cst (.int 12)))) (.tup (.cons (.var 5) (.cons (.var 4) .nil)))) (.slc (.var 2) .none (.some (.cst (.int 12))))) .nil)))) .nil))) (.cons (.ite (.not (.call 26 (.cons (.var 1) (.cons (.var 6) .nil)))) (.cons (.ret (.cst (.bl false))) .nil) .nil) .nil)))))) (.cons (.asg (.one 6) (.lst (.cons (.tup .nil) (.cons (.lst .nil) (.cons (.cst (.str "")) (.cons (.cst .non) (.cons (.cst (.int 0)) (.cons (.cst (.int 1)) (.cons (.cst (.bl true)) (.cons (.cst (.bl false)) (.cons (.dic .nil .nil) (.cons (.tup (.cons (.tup .nil) .nil)) (.cons (.cst (.str "ab")) (.cons (.cst (.str "-")) (.cons (.tup (.cons (.cst .non) .nil)) (.cons (.tup .nil) .nil)))))))))))))))) (.cons (.ret (.call 26 (.cons (.bin .Add (.cst (.int 1)) (.call 14 (.cons (.var 0) (.cons (.cst (.int 5)) .nil)))) (.cons (.var 6) .nil)))) .nil)))⟩
/-- 30 -/
@[reducible] def k01_30 : Def := ⟨"_law_are_greats_right", ["bag"], ["bag", "k", "n", "a", "word", "strange"], (.cons (.par 1 2 (.bin .Add (.cst (.int 1)) (.call 14 (.cons (.var 0) (.cons (.cst (.int 5)) .nil)))) (.bin .Add (.cst (.int 25)) (.call 14 (.cons (.var 0) (.cons (.cst (.int 3000)) .nil))))) (.cons (.ite (.cmp .Eq (.call 14 (.cons (.var 0) (.cons (.cst (.int 4)) .nil))) (.cst (.int 0))) (.cons (.asg (.one 2) (.bin .Add (.cst (.int 3000)) (.call 14 (.cons (.var 0) (.cons (.cst (.int 36000)) .nil))))) .nil) .nil) (.cons (.asg (.one 3) (.call 14 (.cons (.var 0) (.cons (.var 1) .nil)))) (.cons (.par 4 5 (.bin .Mult (.tup (.cons (.var 3) .nil)) (.var 2)) (.call 27 (.cons (.var 0) (.cons (.var 1) .nil)))) (.cons (.ite (.bool false (.not (.call 25 (.cons (.var 1) (.cons (.var 4) (.cons (.cst (.str "long")) (.cons (.tup (.cons (.cst (.str "order")) (.cons (.cst (.int 1)) .nil))) .nil)))))) (.cons (.not (.call 25 (.cons (.var 1) (.cons (.bin .Add (.var 4) (.tup (.cons (.cst (.bl true)) .nil))) (.cons (.cst (.str "form")) (.cons (.cst (.str "form")) .nil)))))) .nil)) (.cons (.ret (.cst (.bl false))) .nil) .nil) (.cons (.ite (.not (.call 25 (.cons (.var 1) (.cons (.bin .Add (.var 4) (.tup (.cons (.idx (.var 5) (.cst (.int 1))) .nil))) (.cons (.cst (.str "form")) (.cons (.cst (.str "form")) .nil)))))) (.cons (.ret (.cst (.bl false))) .nil) .nil) (.cons (.ret (.call 25 (.cons (.var 1) (.cons (.bin .Add (.var 4) (.tup (.cons (.idx (.var 5) (.cst (.int 0))) .nil))) (.cons (.cst (.str "long")) (.cons (.tup (.cons (.cst (.str "letter")) (.cons (.var 2) .nil))) .nil)))))) .nil)))))))⟩
/-- 31 -/
@[reducible] def k01_31 : Def := ⟨"_law_are_classes_right", [], ["k", "last", "bits", "own", "due", "told"], (.cons (.fors (.one 0) (.rng2 (.cst (.int 1)) (.cst (.int 6))) (.cons (.asg (.one 1) (.idx (.lst (.cons (.cst (.int 1)) (.cons (.cst (.int 3)) (.cons (.cst (.int 7)) (.cons (.cst (.int 15)) (.cons (.cst (.int 31)) .nil)))))) (.bin .Sub (.var 0) (.cst (.int 1))))) (.cons (.fors (.one 2) (.rng2 (.cst (.int 1)) (.bin .Add (.var 1) (.cst (.int 1)))) (.cons (.par 3 4 (.call 20 (.cons (.var 0) (.cons (.var 2) .nil))) (.call 20 (.cons (.var 0) (.cons (.bin .Sub (.var 1) (.var 2)) .nil)))) (.cons (.asg (.one 5) (.call 5 (.cons (.var 0) (.cons (.var 3) .nil)))) (.cons (.ite (.bool false (.not (.call 16 (.cons (.var 5) (.cons (.var 4) .nil)))) (.cons (.not (.call 16 (.cons (.callK 5 .nil [0, 1] (.cons (.var 0) (.cons (.var 3) .nil))) (.cons (.var 4) .nil)))) .nil)) (.cons (.ret (.cst (.bl false))) .nil) .nil) (.cons (.ite (.bool true (.cmp .NotEq (.var 4) (.tup .nil)) (.cons (.not (.call 16 (.cons (.call 5 (.cons (.var 0) (.cons (.var 5) .nil))) (.cons (.var 3) .nil)))) .nil)) (.cons (.ret (.cst (.bl false))) .nil) .nil) (.cons (.ite (.not (.call 25 (.cons (.var 0) (.cons (.var 3) (.cons (.cst .non) (.cons (.cst .non) .nil)))))) (.cons (.ret (.cst (.bl false))) .nil) .nil) (.cons (.ite (.not (.call 25 (.cons (.var 0) (.cons (.var 5) (.cons (.cst .non) (.cons (.ite (.cmp .NotEq (.var 4) (.tup .nil)) (.cst .non) (.cst (.str "none"))) .nil)))))) (.cons (.ret (.cst (.bl false))) .nil) .nil) .nil))))))) .nil))) (.cons (.ret (.cst (.bl true))) .nil))⟩
/-- 32 -/
@[reducible] def k01_32 : Def := ⟨"_law_runs", ["word", "own"], ["word", "own", "found", "begin", "at", "is_in"], (.cons (.par 2 3 (.lst .nil) (.cst .non)) (.cons (.fors (.one 4) (.rng1 (.bin .Add (.bi .len (.cons (.var 0) .nil)) (.cst (.int 1)))) (.cons (.asg (.one 5) (.bool true (.cmp .Lt (.var 4) (.bi .len (.cons (.var 0) .nil))) (.cons (.cmp .In (.idx (.var 0) (.var 4)) (.var 1)) .nil))) (.cons (.ite (.bool true (.var 5) (.cons (.cmp .Is (.var 3) (.cst .non)) .nil)) (.cons (.asg (.one 3) (.var 4)) .nil) (.cons (.ite (.bool true (.not (.var 5)) (.cons (.cmp .IsNot (.var 3) (.cst .non)) .nil)) (.cons (.expr (.me .append (.var 2) (.cons (.tup (.cons (.var 3) (.cons (.var 4) .nil))) .nil))) (.cons (.asg (.one 3) (.cst .non)) .nil)) .nil) .nil)) .nil))) (.cons (.ret (.bi .tuple (.cons (.var 2) .nil))) .nil)))⟩
/-- 33 -/
@[reducible] def k01_33 : Def := ⟨"_law_begin", ["one", "other"], ["one", "other", "many", "a", "b"], (.cons (.asg (.one 2) (.cst (.int 0))) (.cons (.fors (.many [3, 4]) (.zip (.var 0) (.var 1)) (.cons (.ite (.cmp .NotEq (.var 3) (.var 4)) (.cons (.ret (.slc (.var 0) .none (.some (.var 2)))) .nil) .nil) (.cons (.asg (.one 2) (.bin .Add (.var 2) (.cst (.int 1)))) .nil))) (.cons (.ret (.slc (.var 0) .none (.some (.var 2)))) .nil)))⟩
/-- 34 -/
@[reducible] def k01_34 : Def := ⟨"_law_are_runs_right", ["bag", "k", "word"], ["bag", "k", "word", "n", "own", "due", "turned", "again", "pair", "told", "back", "a"], (.cons (.asg (.many [3, 4]) (.tup (.cons (.bi .len (.cons (.var 2) .nil)) (.cons (.call 20 (.cons (.var 1) (.cons (.bin .Add (.cst (.int 1)) (.call 14 (.cons (.var 0) (.cons (.idx (.lst (.cons (.cst (.int 1)) (.cons (.cst (.int 3)) (.cons (.cst (.int 7)) (.cons (.cst (.int 15)) (.cons (.cst (.int 31)) .nil)))))) (.bin .Sub (.var 1) (.cst (.int 1)))) .nil)))) .nil))) .nil)))) (.cons (.par 5 6 (.call 32 (.cons (.var 2) (.cons (.var 4) .nil))) (.call 19 (.cons (.var 2) .nil))) (.cons (.asg (.one 7) (.bi .tupRev (.cons (.bi .list (.cons (.comp (.tup (.cons (.bin .Sub (.var 3) (.idx (.var 8) (.cst (.int 1)))) (.cons (.bin .Sub (.var 3) (.idx (.var 8) (.cst (.int 0)))) .nil))) (.one 8) (.seq (.var 5)) .none [8]) .nil)) .nil))) (.cons (.asg (.one 9) (.call 7 (.cons (.var 2) (.cons (.var 4) .nil)))) (.cons (.ite (.bool false (.not (.call 17 (.cons (.var 9) (.cons (.var 5) .nil)))) (.cons (.not (.call 17 (.cons (.callK 7 .nil [0, 1] (.cons (.var 2) (.cons (.var 4) .nil))) (.cons (.var 5) .nil)))) .nil)) (.cons (.ret (.cst (.bl false))) .nil) .nil) (.cons (.asg (.one 10) (.call 12 (.cons (.var 2) .nil))) (.cons (.ite (.bool false (.not (.call 16 (.cons (.var 10) (.cons (.var 6) .nil)))) (.cons (.not (.call 16 (.cons (.callK 12 .nil [0] (.cons (.var 2) .nil)) (.cons (.var 6) .nil)))) .nil)) (.cons (.ret (.cst (.bl false))) .nil) .nil) (.cons (.ite (.bool false (.not (.call 17 (.cons (.call 7 (.cons (.var 10) (.cons (.var 4) .nil))) (.cons (.var 7) .nil)))) (.cons (.not (.call 16 (.cons (.call 12 (.cons (.var 10) .nil)) (.cons (.var 2) .nil)))) .nil)) (.cons (.ret (.cst (.bl false))) .nil) .nil) (.cons (.ite (.cmp .NotEq (.bi .sum (.cons (.comp (.bin .Sub (.idx (.var 8) (.cst (.int 1))) (.idx (.var 8) (.cst (.int 0)))) (.one 8) (.seq (.var 9)) .none [8]) .nil)) (.bi .len (.cons (.comp (.var 11) (.one 11) (.seq (.var 2)) (.some (.cmp .In (.var 11) (.var 4))) [11]) .nil))) (.cons (.ret (.cst (.bl false))) .nil) .nil) (.cons (.ret (.ite (.cmp .LtE (.var 3) (.cst (.int 24))) (.call 35 (.cons (.var 1) (.cons (.var 2) .nil))) (.cst (.bl true)))) .nil))))))))))⟩
/-- 35 -/
@[reducible] def k01_35 : Def := ⟨"_law_are_counts_right", ["k", "word"], ["k", "word", "due", "a", "letter", "told", "turned"], (.cons (.asg (.one 2) (.bi .tuple (.cons (.comp (.bi .len (.cons (.comp (.var 3) (.one 3) (.seq (.var 1)) (.some (.cmp .Eq (.var 3) (.var 4))) [3]) .nil)) (.one 4) (.rng1 (.var 0)) .none [4]) .nil))) (.cons (.par 5 6 (.call 6 (.cons (.var 0) (.cons (.var 1) .nil))) (.call 19 (.cons (.var 1) .nil))) (.cons (.ite (.bool false (.not (.call 16 (.cons (.var 5) (.cons (.var 2) .nil)))) (.cons (.not (.call 16 (.cons (.callK 6 .nil [0, 1] (.cons (.var 0) (.cons (.var 1) .nil))) (.cons (.var 2) .nil)))) .nil)) (.cons (.ret (.cst (.bl false))) .nil) .nil) (.cons (.ret (.bool true (.cmp .Eq (.bi .sum (.cons (.var 5) .nil)) (.bi .len (.cons (.var 1) .nil))) (.cons (.call 16 (.cons (.call 6 (.cons (.var 0) (.cons (.var 6) .nil))) (.cons (.var 2) .nil))) .nil))) .nil))))⟩
/-- 36 -/
@[reducible] def k01_36 : Def := ⟨"_law_pair", ["bag", "k", "word"], ["bag", "k", "word", "n", "at", "way", "a", "begin", "end", "one", "other"], (.cons (.asg (.one 3) (.bi .len (.cons (.var 2) .nil))) (.cons (.par 4 5 (.call 14 (.cons (.var 0) (.cons (.bin .Add (.var 3) (.cst (.int 1))) .nil))) (.call 14 (.cons (.var 0) (.cons (.cst (.int 8)) .nil)))) (.cons (.ite (.cmp .Eq (.var 5) (.cst (.int 0))) (.cons (.ret (.tup (.cons (.var 2) (.cons (.var 2) .nil)))) .nil) .nil) (.cons (.ite (.cmp .Eq (.var 5) (.cst (.int 1))) (.cons (.ret (.ite (.cmp .Eq (.call 14 (.cons (.var 0) (.cons (.cst (.int 2)) .nil))) (.cst (.int 0))) (.tup (.cons (.var 2) (.cons (.slc (.var 2) .none (.some (.var 4))) .nil))) (.tup (.cons (.slc (.var 2) (.some (.var 4)) .none) (.cons (.var 2) .nil))))) .nil) .nil) (.cons (.ite (.cmp .Eq (.var 5) (.cst (.int 2))) (.cons (.asg (.one 6) (.call 14 (.cons (.var 0) (.cons (.var 1) .nil)))) (.cons (.ret (.tup (.cons (.bin .Mult (.tup (.cons (.var 6) .nil)) (.var 3)) (.cons (.bin .Mult (.tup (.cons (.var 6) .nil)) (.var 4)) .nil)))) .nil)) .nil) (.cons (.ite (.cmp .Eq (.var 5) (.cst (.int 3))) (.cons (.ret (.tup (.cons (.var 2) (.cons (.call 21 (.cons (.var 0) (.cons (.var 1) (.cons (.var 4) .nil)))) .nil)))) .nil) .nil) (.cons (.ite (.cmp .Lt (.var 5) (.cst (.int 6))) (.cons (.asg (.one 6) (.tup (.cons (.call 14 (.cons (.var 0) (.cons (.var 1) .nil))) .nil))) (.cons (.ret (.ite (.cmp .Eq (.var 5) (.cst (.int 4))) (.tup (.cons (.var 2) (.cons (.bin .Add (.slc (.var 2) .none (.some (.bi .max2 (.cons (.cst (.int 0)) (.cons (.bin .Sub (.var 3) (.cst (.int 1))) .nil))))) (.var 6)) .nil))) (.tup (.cons (.bin .Add (.var 6) (.slc (.var 2) (.some (.cst (.int 1))) .none)) (.cons (.var 2) .nil))))) .nil)) .nil) (.cons (.par 7 8 (.slc (.var 2) .none (.some (.var 4))) (.slc (.var 2) (.some (.var 4)) .none)) (.cons (.par 9 10 (.call 21 (.cons (.var 0) (.cons (.var 1) (.cons (.call 14 (.cons (.var 0) (.cons (.cst (.int 4)) .nil))) .nil)))) (.call 21 (.cons (.var 0) (.cons (.var 1) (.cons (.call 14 (.cons (.var 0) (.cons (.cst (.int 4)) .nil))) .nil))))) (.cons (.ret (.tup (.cons (.slc (.bin .Add (.bin .Add (.var 7) (.var 9)) (.var 8)) .none (.some (.cst (.int 600)))) (.cons (.slc (.bin .Add (.bin .Add (.var 7) (.var 10)) (.var 8)) .none (.some (.cst (.int 600)))) .nil)))) .nil))))))))))⟩
/-- 37 -/
@[reducible] def k01_37 : Def := ⟨"_law_are_ends_right", ["bag", "k", "word"], ["bag", "k", "word", "one", "other", "begin", "end", "told", "last", "pair"], (.cons (.asg (.many [3, 4]) (.call 36 (.cons (.var 0) (.cons (.var 1) (.cons (.var 2) .nil))))) (.cons (.par 5 6 (.call 33 (.cons (.var 3) (.cons (.var 4) .nil))) (.call 19 (.cons (.call 33 (.cons (.call 19 (.cons (.var 3) .nil)) (.cons (.call 19 (.cons (.var 4) .nil)) .nil))) .nil))) (.cons (.par 7 8 (.call 9 (.cons (.var 3) (.cons (.var 4) .nil))) (.call 10 (.cons (.var 3) (.cons (.var 4) .nil)))) (.cons (.ite (.bool false (.not (.call 16 (.cons (.var 7) (.cons (.var 5) .nil)))) (.cons (.not (.call 16 (.cons (.callK 9 .nil [0, 1] (.cons (.var 4) (.cons (.var 3) .nil))) (.cons (.var 5) .nil)))) .nil)) (.cons (.ret (.cst (.bl false))) .nil) .nil) (.cons (.ite (.bool false (.not (.call 16 (.cons (.var 8) (.cons (.var 6) .nil)))) (.cons (.not (.call 16 (.cons (.callK 10 .nil [0, 1] (.cons (.var 4) (.cons (.var 3) .nil))) (.cons (.var 6) .nil)))) .nil)) (.cons (.ret (.cst (.bl false))) .nil) .nil) (.cons (.asg (.one 9) (.tup (.cons (.call 12 (.cons (.var 3) .nil)) (.cons (.call 12 (.cons (.var 4) .nil)) .nil)))) (.cons (.ite (.not (.call 16 (.cons (.call 10 (.cons (.idx (.var 9) (.cst (.int 0))) (.cons (.idx (.var 9) (.cst (.int 1))) .nil))) (.cons (.call 19 (.cons (.var 5) .nil)) .nil)))) (.cons (.ret (.cst (.bl false))) .nil) .nil) (.cons (.ite (.not (.call 16 (.cons (.call 9 (.cons (.idx (.var 9) (.cst (.int 0))) (.cons (.idx (.var 9) (.cst (.int 1))) .nil))) (.cons (.call 19 (.cons (.var 6) .nil)) .nil)))) (.cons (.ret (.cst (.bl false))) .nil) .nil) (.cons (.ret (.bool true (.call 16 (.cons (.call 9 (.cons (.var 7) (.cons (.var 3) .nil))) (.cons (.var 5) .nil))) (.cons (.call 16 (.cons (.call 10 (.cons (.var 4) (.cons (.var 8) .nil))) (.cons (.var 6) .nil))) .nil))) .nil)))))))))⟩
/-- 38 -/
@[reducible] def k01_38 : Def := ⟨"_law_are_parts_right", ["bag", "k", "word"], ["bag", "k", "word", "n", "at", "part", "parts", "place", "one", "due", "g"], (.cons (.asg (.one 3) (.bi .len (.cons (.var 2) .nil))) (.cons (.asg (.one 4) (.call 14 (.cons (.var 0) (.cons (.bin .Add (.var 3) (.cst (.int 1))) .nil)))) (.cons (.asg (.one 5) (.slc (.var 2) (.some (.var 4)) (.some (.bin .Add (.var 4) (.call 14 (.cons (.var 0) (.cons (.cst (.int 6)) .nil))))))) (.cons (.asg (.one 6) (.lst (.cons (.var 5) (.cons (.call 21 (.cons (.var 0) (.cons (.var 1) (.cons (.call 14 (.cons (.var 0) (.cons (.cst (.int 4)) .nil))) .nil)))) (.cons (.slc (.bin .Add (.var 2) (.tup (.cons (.call 14 (.cons (.var 0) (.cons (.var 1) .nil))) .nil))) .none (.some (.cst (.int 600)))) .nil))))) (.cons (.ite (.bool false (.cmp .LtE (.var 3) (.cst (.int 100))) (.cons (.cmp .Eq (.call 14 (.cons (.var 0) (.cons (.cst (.int 3)) .nil))) (.cst (.int 0))) .nil)) (.cons (.expr (.me .extend (.var 6) (.cons (.lst (.cons (.tup .nil) (.cons (.var 2) (.cons (.slc (.var 2) (.some (.var 4)) .none) .nil)))) .nil))) .nil) .nil) (.cons (.ite (.cmp .NotEq (.var 5) (.tup .nil)) (.cons (.asg (.one 7) (.call 14 (.cons (.var 0) (.cons (.bi .len (.cons (.var 5) .nil)) .nil)))) (.cons (.expr (.me .append (.var 6) (.cons (.bin .Add (.bin .Add (.slc (.var 5) .none (.some (.var 7))) (.tup (.cons (.call 14 (.cons (.var 0) (.cons (.var 1) .nil))) .nil))) (.slc (.var 5) (.some (.bin .Add (.var 7) (.cst (.int 1)))) .none)) .nil))) .nil)) .nil) (.cons (.fors (.one 8) (.seq (.var 6)) (.cons (.asg (.one 9) (.bi .tuple (.cons (.comp (.var 10) (.one 10) (.rng1 (.bin .Add (.var 3) (.cst (.int 1)))) (.some (.cmp .Eq (.slc (.var 2) (.some (.var 10)) (.some (.bin .Add (.var 10) (.bi .len (.cons (.var 8) .nil))))) (.var 8))) [10]) .nil))) (.cons (.ite (.bool false (.not (.call 16 (.cons (.call 11 (.cons (.var 2) (.cons (.var 8) .nil))) (.cons (.var 9) .nil)))) (.cons (.not (.call 16 (.cons (.callK 11 .nil [0, 1] (.cons (.var 2) (.cons (.var 8) .nil))) (.cons (.var 9) .nil)))) .nil)) (.cons (.ret (.cst (.bl false))) .nil) .nil) .nil))) (.cons (.ret (.cst (.bl true))) .nil))))))))⟩
/-- 39 -/
@[reducible] def k01_39 : Def := ⟨"_law_size", ["bag", "turn"], ["bag", "turn"], (.cons (.ite (.cmp .Lt (.var 1) (.cst (.int 5))) (.cons (.ret (.ite (.cmp .Gt (.var 1) (.cst (.int 1))) (.call 14 (.cons (.var 0) (.cons (.cst (.int 25)) .nil))) (.idx (.lst (.cons (.call 14 (.cons (.var 0) (.cons (.cst (.int 4)) .nil))) (.cons (.bin .Sub (.cst (.int 24)) (.call 14 (.cons (.var 0) (.cons (.cst (.int 2)) .nil)))) .nil))) (.var 1)))) .nil) .nil) (.cons (.ret (.ite (.cmp .Eq (.call 14 (.cons (.var 0) (.cons (.cst (.int 3)) .nil))) (.cst (.int 0))) (.cst (.int 600)) (.bin .Add (.cst (.int 25)) (.call 14 (.cons (.var 0) (.cons (.cst (.int 576)) .nil)))))) .nil))⟩
/-- 40 -/
@[reducible] def k01_40 : Def := ⟨"law", ["script"], ["script", "bag", "turn", "k", "own", "values", "word"], (.cons (.asg (.one 1) (.call 13 (.cons (.var 0) .nil))) (.cons (.ite (.bool false (.not (.call 31 .nil)) (.cons (.not (.call 29 (.cons (.var 1) .nil))) .nil)) (.cons (.ret (.cst (.bl false))) .nil) .nil) (.cons (.fors (.one 2) (.rng1 (.cst (.int 4))) (.cons (.asg (.one 3) (.bin .Add (.cst (.int 1)) (.bin .Mod (.bi .int (.cons (.bin .Add (.var 2) (.call 14 (.cons (.var 1) (.cons (.cst (.int 5)) .nil)))) .nil)) (.cst (.int 5))))) (.cons (.asg (.one 4) (.call 20 (.cons (.var 3) (.cons (.bin .Add (.cst (.int 1)) (.call 14 (.cons (.var 1) (.cons (.idx (.lst (.cons (.cst (.int 1)) (.cons (.cst (.int 3)) (.cons (.cst (.int 7)) (.cons (.cst (.int 15)) (.cons (.cst (.int 31)) .nil)))))) (.bin .Sub (.var 3) (.cst (.int 1)))) .nil)))) .nil)))) (.cons (.asg (.one 5) (.call 28 (.cons (.var 1) (.cons (.var 3) (.cons (.call 21 (.cons (.var 1) (.cons (.var 3) (.cons (.bin .Add (.cst (.int 1)) (.call 14 (.cons (.var 1) (.cons (.cst (.int 24)) .nil)))) .nil)))) .nil))))) (.cons (.ite (.bool false (.not (.call 26 (.cons (.var 3) (.cons (.var 5) .nil)))) (.cons (.not (.call 26 (.cons (.var 3) (.cons (.call 28 (.cons (.var 1) (.cons (.var 3) (.cons (.var 4) .nil)))) .nil)))) .nil)) (.cons (.ret (.cst (.bl false))) .nil) .nil) .nil))))) (.cons (.fors (.one 2) (.rng1 (.cst (.int 6))) (.cons (.asg (.one 3) (.bin .Add (.cst (.int 1)) (.call 14 (.cons (.var 1) (.cons (.cst (.int 5)) .nil))))) (.cons (.asg (.one 6) (.call 21 (.cons (.var 1) (.cons (.var 3) (.cons (.call 39 (.cons (.var 1) (.cons (.var 2) .nil))) .nil))))) (.cons (.ite (.bool false (.not (.call 34 (.cons (.var 1) (.cons (.var 3) (.cons (.var 6) .nil))))) (.cons (.not (.call 37 (.cons (.var 1) (.cons (.var 3) (.cons (.var 6) .nil))))) .nil)) (.cons (.ret (.cst (.bl false))) .nil) .nil) (.cons (.ite (.not (.call 38 (.cons (.var 1) (.cons (.var 3) (.cons (.var 6) .nil))))) (.cons (.ret (.cst (.bl false))) .nil) .nil) .nil))))) (.cons (.ret (.ite (.cmp .Eq (.call 14 (.cons (.var 1) (.cons (.cst (.int 3)) .nil))) (.cst (.int 0))) (.call 30 (.cons (.var 1) .nil)) (.cst (.bl true)))) .nil)))))⟩
def k01_D : Nat → Option Def
  | 0 => some k01_0
  | 1 => some k01_1
  | 2 => some k01_2
  | 3 => some k01_3
  | 4 => some k01_4
  | 5 => some k01_5
  | 6 => some k01_6
  | 7 => some k01_7
  | 8 => some k01_8
  | 9 => some k01_9
  | 10 => some k01_10
  | 11 => some k01_11
  | 12 => some k01_12
  | 13 => some k01_13
  | 14 => some k01_14
  | 15 => some k01_15
  | 16 => some k01_16
  | 17 => some k01_17
  | 18 => some k01_18
  | 19 => some k01_19
  | 20 => some k01_20
  | 21 => some k01_21
  | 22 => some k01_22
  | 23 => some k01_23
  | 24 => some k01_24
  | 25 => some k01_25
  | 26 => some k01_26
  | 27 => some k01_27
  | 28 => some k01_28
  | 29 => some k01_29
  | 30 => some k01_30
  | 31 => some k01_31
  | 32 => some k01_32
  | 33 => some k01_33
  | 34 => some k01_34
  | 35 => some k01_35
  | 36 => some k01_36
  | 37 => some k01_37
  | 38 => some k01_38
  | 39 => some k01_39
  | 40 => some k01_40
  | _ => none
def k01_anc : Nat → List Nat
  | _ => []
def k01_tp : Nat → Stmt := fun i => PySem.Challenge.pw_lettersides_k01_whole_runs_of_words.main.body.getD (match i with
    | 0 => 2
    | 1 => 3
    | 2 => 5
    | 3 => 6
    | 4 => 7
    | 5 => 8
    | 6 => 9
    | 7 => 11
    | 8 => 12
    | 9 => 13
    | 10 => 14
    | 11 => 15
    | 12 => 16
    | 13 => 18
    | 14 => 19
    | 15 => 20
    | 16 => 21
    | 17 => 22
    | 18 => 23
    | 19 => 24
    | 20 => 25
    | 21 => 26
    | 22 => 27
    | 23 => 28
    | 24 => 29
    | 25 => 30
    | 26 => 31
    | 27 => 32
    | 28 => 33
    | 29 => 34
    | 30 => 35
    | 31 => 36
    | 32 => 37
    | 33 => 38
    | 34 => 39
    | 35 => 40
    | 36 => 41
    | 37 => 42
    | 38 => 43
    | 39 => 44
    | 40 => 45
    | _ => 0) (.Pass ⟨0, 0, 0, 0⟩)
def k01_fns : List (Str × List (Nat × List Str × List Nat)) := [(("is_integer" : Str), ([(1, ([] : List Str), [0])] : List (Nat × List Str × List Nat))),
  (("are_integers" : Str), ([(1, ([] : List Str), [0])] : List (Nat × List Str × List Nat))),
  (("odd_letter" : Str), ([(2, ([] : List Str), [0, 1])] : List (Nat × List Str × List Nat))),
  (("word_error" : Str), ([(2, ([] : List Str), [0, 1]), (0, (["k", "value"] : List Str), [0, 1])] : List (Nat × List Str × List Nat))),
  (("class_error" : Str), ([(2, ([] : List Str), [0, 1]), (0, (["k", "value"] : List Str), [0, 1])] : List (Nat × List Str × List Nat))),
  (("other_letters" : Str), ([(2, ([] : List Str), [0, 1]), (0, (["k", "own"] : List Str), [0, 1])] : List (Nat × List Str × List Nat))),
  (("letter_counts" : Str), ([(2, ([] : List Str), [0, 1]), (0, (["k", "word"] : List Str), [0, 1])] : List (Nat × List Str × List Nat))),
  (("runs_of" : Str), ([(2, ([] : List Str), [0, 1]), (0, (["word", "own"] : List Str), [0, 1])] : List (Nat × List Str × List Nat))),
  (("like_length" : Str), ([(2, ([] : List Str), [0, 1])] : List (Nat × List Str × List Nat))),
  (("common_begin" : Str), ([(2, ([] : List Str), [0, 1]), (0, (["one", "other"] : List Str), [0, 1])] : List (Nat × List Str × List Nat))),
  (("common_end" : Str), ([(2, ([] : List Str), [0, 1]), (0, (["one", "other"] : List Str), [0, 1])] : List (Nat × List Str × List Nat))),
  (("parts_at" : Str), ([(2, ([] : List Str), [0, 1]), (0, (["word", "part"] : List Str), [0, 1])] : List (Nat × List Str × List Nat))),
  (("turned_word" : Str), ([(1, ([] : List Str), [0]), (0, (["word"] : List Str), [0])] : List (Nat × List Str × List Nat))),
  (("_law_own_bag" : Str), ([(1, ([] : List Str), [0])] : List (Nat × List Str × List Nat))),
  (("_law_draw" : Str), ([(2, ([] : List Str), [0, 1])] : List (Nat × List Str × List Nat))),
  (("_law_pick" : Str), ([(2, ([] : List Str), [0, 1])] : List (Nat × List Str × List Nat))),
  (("_law_are_numbers" : Str), ([(2, ([] : List Str), [0, 1])] : List (Nat × List Str × List Nat))),
  (("_law_are_pairs" : Str), ([(2, ([] : List Str), [0, 1])] : List (Nat × List Str × List Nat))),
  (("_law_is_error" : Str), ([(2, ([] : List Str), [0, 1])] : List (Nat × List Str × List Nat))),
  (("_law_turned" : Str), ([(1, ([] : List Str), [0])] : List (Nat × List Str × List Nat))),
  (("_law_class" : Str), ([(2, ([] : List Str), [0, 1])] : List (Nat × List Str × List Nat))),
  (("_law_word" : Str), ([(3, ([] : List Str), [0, 1, 2])] : List (Nat × List Str × List Nat))),
  (("_law_bad_letter" : Str), ([(2, ([] : List Str), [0, 1])] : List (Nat × List Str × List Nat))),
  (("_law_bad_order" : Str), ([(1, ([] : List Str), [0])] : List (Nat × List Str × List Nat))),
  (("_law_dues" : Str), ([(2, ([] : List Str), [0, 1])] : List (Nat × List Str × List Nat))),
  (("_law_is_judged" : Str), ([(4, ([] : List Str), [0, 1, 2, 3])] : List (Nat × List Str × List Nat))),
  (("_law_are_judged" : Str), ([(2, ([] : List Str), [0, 1])] : List (Nat × List Str × List Nat))),
  (("_law_strange" : Str), ([(2, ([] : List Str), [0, 1])] : List (Nat × List Str × List Nat))),
  (("_law_spoilt" : Str), ([(3, ([] : List Str), [0, 1, 2])] : List (Nat × List Str × List Nat))),
  (("_law_are_lengths_right" : Str), ([(1, ([] : List Str), [0])] : List (Nat × List Str × List Nat))),
  (("_law_are_greats_right" : Str), ([(1, ([] : List Str), [0])] : List (Nat × List Str × List Nat))),
  (("_law_are_classes_right" : Str), ([(0, ([] : List Str), [])] : List (Nat × List Str × List Nat))),
  (("_law_runs" : Str), ([(2, ([] : List Str), [0, 1])] : List (Nat × List Str × List Nat))),
  (("_law_begin" : Str), ([(2, ([] : List Str), [0, 1])] : List (Nat × List Str × List Nat))),
  (("_law_are_runs_right" : Str), ([(3, ([] : List Str), [0, 1, 2])] : List (Nat × List Str × List Nat))),
  (("_law_are_counts_right" : Str), ([(2, ([] : List Str), [0, 1])] : List (Nat × List Str × List Nat))),
  (("_law_pair" : Str), ([(3, ([] : List Str), [0, 1, 2])] : List (Nat × List Str × List Nat))),
  (("_law_are_ends_right" : Str), ([(3, ([] : List Str), [0, 1, 2])] : List (Nat × List Str × List Nat))),
  (("_law_are_parts_right" : Str), ([(3, ([] : List Str), [0, 1, 2])] : List (Nat × List Str × List Nat))),
  (("_law_size" : Str), ([(2, ([] : List Str), [0, 1])] : List (Nat × List Str × List Nat))),
  (("law" : Str), ([(1, ([] : List Str), [0])] : List (Nat × List Str × List Nat)))]
def k01_glo : List (Str × Cst) := [("MAX_WORD", (.int 24))]
theorem k01_s0 : FnScope k01_0.N k01_0.ps (defScope (k01_tp 0)) ∧ ckSs k01_0.body ⟨k01_0.N, (defScope (k01_tp 0)).names, none, k01_glo, k01_fns⟩ (defBody (k01_tp 0)) = true :=
  ⟨⟨rfl, rfl, rfl, by decide +kernel, rfl, by decide +kernel, by decide +kernel⟩, by decide +kernel⟩
theorem k01_s1 : FnScope k01_1.N k01_1.ps (defScope (k01_tp 1)) ∧ ckSs k01_1.body ⟨k01_1.N, (defScope (k01_tp 1)).names, none, k01_glo, k01_fns⟩ (defBody (k01_tp 1)) = true :=
  ⟨⟨rfl, rfl, rfl, by decide +kernel, rfl, by decide +kernel, by decide +kernel⟩, by decide +kernel⟩
theorem k01_s2 : FnScope k01_2.N k01_2.ps (defScope (k01_tp 2)) ∧ ckSs k01_2.body ⟨k01_2.N, (defScope (k01_tp 2)).names, none, k01_glo, k01_fns⟩ (defBody (k01_tp 2)) = true :=
  ⟨⟨rfl, rfl, rfl, by decide +kernel, rfl, by decide +kernel, by decide +kernel⟩, by decide +kernel⟩
theorem k01_s3 : FnScope k01_3.N k01_3.ps (defScope (k01_tp 3)) ∧ ckSs k01_3.body ⟨k01_3.N, (defScope (k01_tp 3)).names, none, k01_glo, k01_fns⟩ (defBody (k01_tp 3)) = true :=
  ⟨⟨rfl, rfl, rfl, by decide +kernel, rfl, by decide +kernel, by decide +kernel⟩, by decide +kernel⟩
theorem k01_s4 : FnScope k01_4.N k01_4.ps (defScope (k01_tp 4)) ∧ ckSs k01_4.body ⟨k01_4.N, (defScope (k01_tp 4)).names, none, k01_glo, k01_fns⟩ (defBody (k01_tp 4)) = true :=
  ⟨⟨rfl, rfl, rfl, by decide +kernel, rfl, by decide +kernel, by decide +kernel⟩, by decide +kernel⟩
theorem k01_s5 : FnScope k01_5.N k01_5.ps (defScope (k01_tp 5)) ∧ ckSs k01_5.body ⟨k01_5.N, (defScope (k01_tp 5)).names, none, k01_glo, k01_fns⟩ (defBody (k01_tp 5)) = true :=
  ⟨⟨rfl, rfl, rfl, by decide +kernel, rfl, by decide +kernel, by decide +kernel⟩, by decide +kernel⟩
theorem k01_s6 : FnScope k01_6.N k01_6.ps (defScope (k01_tp 6)) ∧ ckSs k01_6.body ⟨k01_6.N, (defScope (k01_tp 6)).names, none, k01_glo, k01_fns⟩ (defBody (k01_tp 6)) = true :=
  ⟨⟨rfl, rfl, rfl, by decide +kernel, rfl, by decide +kernel, by decide +kernel⟩, by decide +kernel⟩
theorem k01_s7 : FnScope k01_7.N k01_7.ps (defScope (k01_tp 7)) ∧ ckSs k01_7.body ⟨k01_7.N, (defScope (k01_tp 7)).names, none, k01_glo, k01_fns⟩ (defBody (k01_tp 7)) = true :=
  ⟨⟨rfl, rfl, rfl, by decide +kernel, rfl, by decide +kernel, by decide +kernel⟩, by decide +kernel⟩
theorem k01_s8 : FnScope k01_8.N k01_8.ps (defScope (k01_tp 8)) ∧ ckSs k01_8.body ⟨k01_8.N, (defScope (k01_tp 8)).names, none, k01_glo, k01_fns⟩ (defBody (k01_tp 8)) = true :=
  ⟨⟨rfl, rfl, rfl, by decide +kernel, rfl, by decide +kernel, by decide +kernel⟩, by decide +kernel⟩
theorem k01_s9 : FnScope k01_9.N k01_9.ps (defScope (k01_tp 9)) ∧ ckSs k01_9.body ⟨k01_9.N, (defScope (k01_tp 9)).names, none, k01_glo, k01_fns⟩ (defBody (k01_tp 9)) = true :=
  ⟨⟨rfl, rfl, rfl, by decide +kernel, rfl, by decide +kernel, by decide +kernel⟩, by decide +kernel⟩
theorem k01_s10 : FnScope k01_10.N k01_10.ps (defScope (k01_tp 10)) ∧ ckSs k01_10.body ⟨k01_10.N, (defScope (k01_tp 10)).names, none, k01_glo, k01_fns⟩ (defBody (k01_tp 10)) = true :=
  ⟨⟨rfl, rfl, rfl, by decide +kernel, rfl, by decide +kernel, by decide +kernel⟩, by decide +kernel⟩
theorem k01_s11 : FnScope k01_11.N k01_11.ps (defScope (k01_tp 11)) ∧ ckSs k01_11.body ⟨k01_11.N, (defScope (k01_tp 11)).names, none, k01_glo, k01_fns⟩ (defBody (k01_tp 11)) = true :=
  ⟨⟨rfl, rfl, rfl, by decide +kernel, rfl, by decide +kernel, by decide +kernel⟩, by decide +kernel⟩
theorem k01_s12 : FnScope k01_12.N k01_12.ps (defScope (k01_tp 12)) ∧ ckSs k01_12.body ⟨k01_12.N, (defScope (k01_tp 12)).names, none, k01_glo, k01_fns⟩ (defBody (k01_tp 12)) = true :=
  ⟨⟨rfl, rfl, rfl, by decide +kernel, rfl, by decide +kernel, by decide +kernel⟩, by decide +kernel⟩
theorem k01_s13 : FnScope k01_13.N k01_13.ps (defScope (k01_tp 13)) ∧ ckSs k01_13.body ⟨k01_13.N, (defScope (k01_tp 13)).names, none, k01_glo, k01_fns⟩ (defBody (k01_tp 13)) = true :=
  ⟨⟨rfl, rfl, rfl, by decide +kernel, rfl, by decide +kernel, by decide +kernel⟩, by decide +kernel⟩
theorem k01_s14 : FnScope k01_14.N k01_14.ps (defScope (k01_tp 14)) ∧ ckSs k01_14.body ⟨k01_14.N, (defScope (k01_tp 14)).names, none, k01_glo, k01_fns⟩ (defBody (k01_tp 14)) = true :=
  ⟨⟨rfl, rfl, rfl, by decide +kernel, rfl, by decide +kernel, by decide +kernel⟩, by decide +kernel⟩
theorem k01_s15 : FnScope k01_15.N k01_15.ps (defScope (k01_tp 15)) ∧ ckSs k01_15.body ⟨k01_15.N, (defScope (k01_tp 15)).names, none, k01_glo, k01_fns⟩ (defBody (k01_tp 15)) = true :=
  ⟨⟨rfl, rfl, rfl, by decide +kernel, rfl, by decide +kernel, by decide +kernel⟩, by decide +kernel⟩
theorem k01_s16 : FnScope k01_16.N k01_16.ps (defScope (k01_tp 16)) ∧ ckSs k01_16.body ⟨k01_16.N, (defScope (k01_tp 16)).names, none, k01_glo, k01_fns⟩ (defBody (k01_tp 16)) = true :=
  ⟨⟨rfl, rfl, rfl, by decide +kernel, rfl, by decide +kernel, by decide +kernel⟩, by decide +kernel⟩
theorem k01_s17 : FnScope k01_17.N k01_17.ps (defScope (k01_tp 17)) ∧ ckSs k01_17.body ⟨k01_17.N, (defScope (k01_tp 17)).names, none, k01_glo, k01_fns⟩ (defBody (k01_tp 17)) = true :=
  ⟨⟨rfl, rfl, rfl, by decide +kernel, rfl, by decide +kernel, by decide +kernel⟩, by decide +kernel⟩
theorem k01_s18 : FnScope k01_18.N k01_18.ps (defScope (k01_tp 18)) ∧ ckSs k01_18.body ⟨k01_18.N, (defScope (k01_tp 18)).names, none, k01_glo, k01_fns⟩ (defBody (k01_tp 18)) = true :=
  ⟨⟨rfl, rfl, rfl, by decide +kernel, rfl, by decide +kernel, by decide +kernel⟩, by decide +kernel⟩
theorem k01_s19 : FnScope k01_19.N k01_19.ps (defScope (k01_tp 19)) ∧ ckSs k01_19.body ⟨k01_19.N, (defScope (k01_tp 19)).names, none, k01_glo, k01_fns⟩ (defBody (k01_tp 19)) = true :=
  ⟨⟨rfl, rfl, rfl, by decide +kernel, rfl, by decide +kernel, by decide +kernel⟩, by decide +kernel⟩
theorem k01_s20 : FnScope k01_20.N k01_20.ps (defScope (k01_tp 20)) ∧ ckSs k01_20.body ⟨k01_20.N, (defScope (k01_tp 20)).names, none, k01_glo, k01_fns⟩ (defBody (k01_tp 20)) = true :=
  ⟨⟨rfl, rfl, rfl, by decide +kernel, rfl, by decide +kernel, by decide +kernel⟩, by decide +kernel⟩
theorem k01_s21 : FnScope k01_21.N k01_21.ps (defScope (k01_tp 21)) ∧ ckSs k01_21.body ⟨k01_21.N, (defScope (k01_tp 21)).names, none, k01_glo, k01_fns⟩ (defBody (k01_tp 21)) = true :=
  ⟨⟨rfl, rfl, rfl, by decide +kernel, rfl, by decide +kernel, by decide +kernel⟩, by decide +kernel⟩
theorem k01_s22 : FnScope k01_22.N k01_22.ps (defScope (k01_tp 22)) ∧ ckSs k01_22.body ⟨k01_22.N, (defScope (k01_tp 22)).names, none, k01_glo, k01_fns⟩ (defBody (k01_tp 22)) = true :=
  ⟨⟨rfl, rfl, rfl, by decide +kernel, rfl, by decide +kernel, by decide +kernel⟩, by decide +kernel⟩
theorem k01_s23 : FnScope k01_23.N k01_23.ps (defScope (k01_tp 23)) ∧ ckSs k01_23.body ⟨k01_23.N, (defScope (k01_tp 23)).names, none, k01_glo, k01_fns⟩ (defBody (k01_tp 23)) = true :=
  ⟨⟨rfl, rfl, rfl, by decide +kernel, rfl, by decide +kernel, by decide +kernel⟩, by decide +kernel⟩
theorem k01_s24 : FnScope k01_24.N k01_24.ps (defScope (k01_tp 24)) ∧ ckSs k01_24.body ⟨k01_24.N, (defScope (k01_tp 24)).names, none, k01_glo, k01_fns⟩ (defBody (k01_tp 24)) = true :=
  ⟨⟨rfl, rfl, rfl, by decide +kernel, rfl, by decide +kernel, by decide +kernel⟩, by decide +kernel⟩
theorem k01_s25 : FnScope k01_25.N k01_25.ps (defScope (k01_tp 25)) ∧ ckSs k01_25.body ⟨k01_25.N, (defScope (k01_tp 25)).names, none, k01_glo, k01_fns⟩ (defBody (k01_tp 25)) = true :=
  ⟨⟨rfl, rfl, rfl, by decide +kernel, rfl, by decide +kernel, by decide +kernel⟩, by decide +kernel⟩
theorem k01_s26 : FnScope k01_26.N k01_26.ps (defScope (k01_tp 26)) ∧ ckSs k01_26.body ⟨k01_26.N, (defScope (k01_tp 26)).names, none, k01_glo, k01_fns⟩ (defBody (k01_tp 26)) = true :=
  ⟨⟨rfl, rfl, rfl, by decide +kernel, rfl, by decide +kernel, by decide +kernel⟩, by decide +kernel⟩
theorem k01_s27 : FnScope k01_27.N k01_27.ps (defScope (k01_tp 27)) ∧ ckSs k01_27.body ⟨k01_27.N, (defScope (k01_tp 27)).names, none, k01_glo, k01_fns⟩ (defBody (k01_tp 27)) = true :=
  ⟨⟨rfl, rfl, rfl, by decide +kernel, rfl, by decide +kernel, by decide +kernel⟩, by decide +kernel⟩
theorem k01_s28 : FnScope k01_28.N k01_28.ps (defScope (k01_tp 28)) ∧ ckSs k01_28.body ⟨k01_28.N, (defScope (k01_tp 28)).names, none, k01_glo, k01_fns⟩ (defBody (k01_tp 28)) = true :=
  ⟨⟨rfl, rfl, rfl, by decide +kernel, rfl, by decide +kernel, by decide +kernel⟩, by decide +kernel⟩
theorem k01_s29 : FnScope k01_29.N k01_29.ps (defScope (k01_tp 29)) ∧ ckSs k01_29.body ⟨k01_29.N, (defScope (k01_tp 29)).names, none, k01_glo, k01_fns⟩ (defBody (k01_tp 29)) = true :=
  ⟨⟨rfl, rfl, rfl, by decide +kernel, rfl, by decide +kernel, by decide +kernel⟩, by decide +kernel⟩
theorem k01_s30 : FnScope k01_30.N k01_30.ps (defScope (k01_tp 30)) ∧ ckSs k01_30.body ⟨k01_30.N, (defScope (k01_tp 30)).names, none, k01_glo, k01_fns⟩ (defBody (k01_tp 30)) = true :=
  ⟨⟨rfl, rfl, rfl, by decide +kernel, rfl, by decide +kernel, by decide +kernel⟩, by decide +kernel⟩
theorem k01_s31 : FnScope k01_31.N k01_31.ps (defScope (k01_tp 31)) ∧ ckSs k01_31.body ⟨k01_31.N, (defScope (k01_tp 31)).names, none, k01_glo, k01_fns⟩ (defBody (k01_tp 31)) = true :=
  ⟨⟨rfl, rfl, rfl, by decide +kernel, rfl, by decide +kernel, by decide +kernel⟩, by decide +kernel⟩
theorem k01_s32 : FnScope k01_32.N k01_32.ps (defScope (k01_tp 32)) ∧ ckSs k01_32.body ⟨k01_32.N, (defScope (k01_tp 32)).names, none, k01_glo, k01_fns⟩ (defBody (k01_tp 32)) = true :=
  ⟨⟨rfl, rfl, rfl, by decide +kernel, rfl, by decide +kernel, by decide +kernel⟩, by decide +kernel⟩
theorem k01_s33 : FnScope k01_33.N k01_33.ps (defScope (k01_tp 33)) ∧ ckSs k01_33.body ⟨k01_33.N, (defScope (k01_tp 33)).names, none, k01_glo, k01_fns⟩ (defBody (k01_tp 33)) = true :=
  ⟨⟨rfl, rfl, rfl, by decide +kernel, rfl, by decide +kernel, by decide +kernel⟩, by decide +kernel⟩
theorem k01_s34 : FnScope k01_34.N k01_34.ps (defScope (k01_tp 34)) ∧ ckSs k01_34.body ⟨k01_34.N, (defScope (k01_tp 34)).names, none, k01_glo, k01_fns⟩ (defBody (k01_tp 34)) = true :=
  ⟨⟨rfl, rfl, rfl, by decide +kernel, rfl, by decide +kernel, by decide +kernel⟩, by decide +kernel⟩
theorem k01_s35 : FnScope k01_35.N k01_35.ps (defScope (k01_tp 35)) ∧ ckSs k01_35.body ⟨k01_35.N, (defScope (k01_tp 35)).names, none, k01_glo, k01_fns⟩ (defBody (k01_tp 35)) = true :=
  ⟨⟨rfl, rfl, rfl, by decide +kernel, rfl, by decide +kernel, by decide +kernel⟩, by decide +kernel⟩
theorem k01_s36 : FnScope k01_36.N k01_36.ps (defScope (k01_tp 36)) ∧ ckSs k01_36.body ⟨k01_36.N, (defScope (k01_tp 36)).names, none, k01_glo, k01_fns⟩ (defBody (k01_tp 36)) = true :=
  ⟨⟨rfl, rfl, rfl, by decide +kernel, rfl, by decide +kernel, by decide +kernel⟩, by decide +kernel⟩
theorem k01_s37 : FnScope k01_37.N k01_37.ps (defScope (k01_tp 37)) ∧ ckSs k01_37.body ⟨k01_37.N, (defScope (k01_tp 37)).names, none, k01_glo, k01_fns⟩ (defBody (k01_tp 37)) = true :=
  ⟨⟨rfl, rfl, rfl, by decide +kernel, rfl, by decide +kernel, by decide +kernel⟩, by decide +kernel⟩
theorem k01_s38 : FnScope k01_38.N k01_38.ps (defScope (k01_tp 38)) ∧ ckSs k01_38.body ⟨k01_38.N, (defScope (k01_tp 38)).names, none, k01_glo, k01_fns⟩ (defBody (k01_tp 38)) = true :=
  ⟨⟨rfl, rfl, rfl, by decide +kernel, rfl, by decide +kernel, by decide +kernel⟩, by decide +kernel⟩
theorem k01_s39 : FnScope k01_39.N k01_39.ps (defScope (k01_tp 39)) ∧ ckSs k01_39.body ⟨k01_39.N, (defScope (k01_tp 39)).names, none, k01_glo, k01_fns⟩ (defBody (k01_tp 39)) = true :=
  ⟨⟨rfl, rfl, rfl, by decide +kernel, rfl, by decide +kernel, by decide +kernel⟩, by decide +kernel⟩
theorem k01_s40 : FnScope k01_40.N k01_40.ps (defScope (k01_tp 40)) ∧ ckSs k01_40.body ⟨k01_40.N, (defScope (k01_tp 40)).names, none, k01_glo, k01_fns⟩ (defBody (k01_tp 40)) = true :=
  ⟨⟨rfl, rfl, rfl, by decide +kernel, rfl, by decide +kernel, by decide +kernel⟩, by decide +kernel⟩
theorem k01_text : Text k01_D k01_glo k01_fns k01_tp := ⟨fun i d h => match i, h with
  | 0, h => by cases h; exact k01_s0
  | 1, h => by cases h; exact k01_s1
  | 2, h => by cases h; exact k01_s2
  | 3, h => by cases h; exact k01_s3
  | 4, h => by cases h; exact k01_s4
  | 5, h => by cases h; exact k01_s5
  | 6, h => by cases h; exact k01_s6
  | 7, h => by cases h; exact k01_s7
  | 8, h => by cases h; exact k01_s8
  | 9, h => by cases h; exact k01_s9
  | 10, h => by cases h; exact k01_s10
  | 11, h => by cases h; exact k01_s11
  | 12, h => by cases h; exact k01_s12
  | 13, h => by cases h; exact k01_s13
  | 14, h => by cases h; exact k01_s14
  | 15, h => by cases h; exact k01_s15
  | 16, h => by cases h; exact k01_s16
  | 17, h => by cases h; exact k01_s17
  | 18, h => by cases h; exact k01_s18
  | 19, h => by cases h; exact k01_s19
  | 20, h => by cases h; exact k01_s20
  | 21, h => by cases h; exact k01_s21
  | 22, h => by cases h; exact k01_s22
  | 23, h => by cases h; exact k01_s23
  | 24, h => by cases h; exact k01_s24
  | 25, h => by cases h; exact k01_s25
  | 26, h => by cases h; exact k01_s26
  | 27, h => by cases h; exact k01_s27
  | 28, h => by cases h; exact k01_s28
  | 29, h => by cases h; exact k01_s29
  | 30, h => by cases h; exact k01_s30
  | 31, h => by cases h; exact k01_s31
  | 32, h => by cases h; exact k01_s32
  | 33, h => by cases h; exact k01_s33
  | 34, h => by cases h; exact k01_s34
  | 35, h => by cases h; exact k01_s35
  | 36, h => by cases h; exact k01_s36
  | 37, h => by cases h; exact k01_s37
  | 38, h => by cases h; exact k01_s38
  | 39, h => by cases h; exact k01_s39
  | 40, h => by cases h; exact k01_s40
  | n + 41, h => nomatch h⟩
theorem k01_b0 {kV doc pm : Value} {an : Option Addr} {cdv ct : Value} : ∀ b ∈ ([(1, ([] : List Str), [0])] : List (Nat × List Str × List Nat)), Bnd (PySem.W.fnOf "is_integer" "is_integer" (defArgs (k01_tp 0)) (defBody (k01_tp 0)) (defScope (k01_tp 0)) .none kV doc pm an cdv ct) k01_0.ps b.1 b.2.1 b.2.2 ∧ b.2.2.length = k01_0.ps.length := by
  intro b hb
  rcases List.mem_cons.mp hb with rfl | hb
  · exact ⟨fun us ws h1 h2 => match us, ws, h1, h2 with | [a0], [], _, _ => ⟨[a0], rfl, rfl⟩, rfl⟩
  exact absurd hb (List.not_mem_nil)
theorem k01_b1 {kV doc pm : Value} {an : Option Addr} {cdv ct : Value} : ∀ b ∈ ([(1, ([] : List Str), [0])] : List (Nat × List Str × List Nat)), Bnd (PySem.W.fnOf "are_integers" "are_integers" (defArgs (k01_tp 1)) (defBody (k01_tp 1)) (defScope (k01_tp 1)) .none kV doc pm an cdv ct) k01_1.ps b.1 b.2.1 b.2.2 ∧ b.2.2.length = k01_1.ps.length := by
  intro b hb
  rcases List.mem_cons.mp hb with rfl | hb
  · exact ⟨fun us ws h1 h2 => match us, ws, h1, h2 with | [a0], [], _, _ => ⟨[a0], rfl, rfl⟩, rfl⟩
  exact absurd hb (List.not_mem_nil)
theorem k01_b2 {kV doc pm : Value} {an : Option Addr} {cdv ct : Value} : ∀ b ∈ ([(2, ([] : List Str), [0, 1])] : List (Nat × List Str × List Nat)), Bnd (PySem.W.fnOf "odd_letter" "odd_letter" (defArgs (k01_tp 2)) (defBody (k01_tp 2)) (defScope (k01_tp 2)) .none kV doc pm an cdv ct) k01_2.ps b.1 b.2.1 b.2.2 ∧ b.2.2.length = k01_2.ps.length := by
  intro b hb
  rcases List.mem_cons.mp hb with rfl | hb
  · exact ⟨fun us ws h1 h2 => match us, ws, h1, h2 with | [a0, a1], [], _, _ => ⟨[a0, a1], rfl, rfl⟩, rfl⟩
  exact absurd hb (List.not_mem_nil)
theorem k01_b3 {kV doc pm : Value} {an : Option Addr} {cdv ct : Value} : ∀ b ∈ ([(2, ([] : List Str), [0, 1]), (0, (["k", "value"] : List Str), [0, 1])] : List (Nat × List Str × List Nat)), Bnd (PySem.W.fnOf "word_error" "word_error" (defArgs (k01_tp 3)) (defBody (k01_tp 3)) (defScope (k01_tp 3)) .none kV doc pm an cdv ct) k01_3.ps b.1 b.2.1 b.2.2 ∧ b.2.2.length = k01_3.ps.length := by
  intro b hb
  rcases List.mem_cons.mp hb with rfl | hb
  · exact ⟨fun us ws h1 h2 => match us, ws, h1, h2 with | [a0, a1], [], _, _ => ⟨[a0, a1], rfl, rfl⟩, rfl⟩
  rcases List.mem_cons.mp hb with rfl | hb
  · exact ⟨fun us ws h1 h2 => match us, ws, h1, h2 with | [], [b0, b1], _, _ => ⟨[b0, b1], rfl, rfl⟩, rfl⟩
  exact absurd hb (List.not_mem_nil)
theorem k01_b4 {kV doc pm : Value} {an : Option Addr} {cdv ct : Value} : ∀ b ∈ ([(2, ([] : List Str), [0, 1]), (0, (["k", "value"] : List Str), [0, 1])] : List (Nat × List Str × List Nat)), Bnd (PySem.W.fnOf "class_error" "class_error" (defArgs (k01_tp 4)) (defBody (k01_tp 4)) (defScope (k01_tp 4)) .none kV doc pm an cdv ct) k01_4.ps b.1 b.2.1 b.2.2 ∧ b.2.2.length = k01_4.ps.length := by
  intro b hb
  rcases List.mem_cons.mp hb with rfl | hb
  · exact ⟨fun us ws h1 h2 => match us, ws, h1, h2 with | [a0, a1], [], _, _ => ⟨[a0, a1], rfl, rfl⟩, rfl⟩
  rcases List.mem_cons.mp hb with rfl | hb
  · exact ⟨fun us ws h1 h2 => match us, ws, h1, h2 with | [], [b0, b1], _, _ => ⟨[b0, b1], rfl, rfl⟩, rfl⟩
  exact absurd hb (List.not_mem_nil)
theorem k01_b5 {kV doc pm : Value} {an : Option Addr} {cdv ct : Value} : ∀ b ∈ ([(2, ([] : List Str), [0, 1]), (0, (["k", "own"] : List Str), [0, 1])] : List (Nat × List Str × List Nat)), Bnd (PySem.W.fnOf "other_letters" "other_letters" (defArgs (k01_tp 5)) (defBody (k01_tp 5)) (defScope (k01_tp 5)) .none kV doc pm an cdv ct) k01_5.ps b.1 b.2.1 b.2.2 ∧ b.2.2.length = k01_5.ps.length := by
  intro b hb
  rcases List.mem_cons.mp hb with rfl | hb
  · exact ⟨fun us ws h1 h2 => match us, ws, h1, h2 with | [a0, a1], [], _, _ => ⟨[a0, a1], rfl, rfl⟩, rfl⟩
  rcases List.mem_cons.mp hb with rfl | hb
  · exact ⟨fun us ws h1 h2 => match us, ws, h1, h2 with | [], [b0, b1], _, _ => ⟨[b0, b1], rfl, rfl⟩, rfl⟩
  exact absurd hb (List.not_mem_nil)
theorem k01_b6 {kV doc pm : Value} {an : Option Addr} {cdv ct : Value} : ∀ b ∈ ([(2, ([] : List Str), [0, 1]), (0, (["k", "word"] : List Str), [0, 1])] : List (Nat × List Str × List Nat)), Bnd (PySem.W.fnOf "letter_counts" "letter_counts" (defArgs (k01_tp 6)) (defBody (k01_tp 6)) (defScope (k01_tp 6)) .none kV doc pm an cdv ct) k01_6.ps b.1 b.2.1 b.2.2 ∧ b.2.2.length = k01_6.ps.length := by
  intro b hb
  rcases List.mem_cons.mp hb with rfl | hb
  · exact ⟨fun us ws h1 h2 => match us, ws, h1, h2 with | [a0, a1], [], _, _ => ⟨[a0, a1], rfl, rfl⟩, rfl⟩
  rcases List.mem_cons.mp hb with rfl | hb
  · exact ⟨fun us ws h1 h2 => match us, ws, h1, h2 with | [], [b0, b1], _, _ => ⟨[b0, b1], rfl, rfl⟩, rfl⟩
  exact absurd hb (List.not_mem_nil)
theorem k01_b7 {kV doc pm : Value} {an : Option Addr} {cdv ct : Value} : ∀ b ∈ ([(2, ([] : List Str), [0, 1]), (0, (["word", "own"] : List Str), [0, 1])] : List (Nat × List Str × List Nat)), Bnd (PySem.W.fnOf "runs_of" "runs_of" (defArgs (k01_tp 7)) (defBody (k01_tp 7)) (defScope (k01_tp 7)) .none kV doc pm an cdv ct) k01_7.ps b.1 b.2.1 b.2.2 ∧ b.2.2.length = k01_7.ps.length := by
  intro b hb
  rcases List.mem_cons.mp hb with rfl | hb
  · exact ⟨fun us ws h1 h2 => match us, ws, h1, h2 with | [a0, a1], [], _, _ => ⟨[a0, a1], rfl, rfl⟩, rfl⟩
  rcases List.mem_cons.mp hb with rfl | hb
  · exact ⟨fun us ws h1 h2 => match us, ws, h1, h2 with | [], [b0, b1], _, _ => ⟨[b0, b1], rfl, rfl⟩, rfl⟩
  exact absurd hb (List.not_mem_nil)
theorem k01_b8 {kV doc pm : Value} {an : Option Addr} {cdv ct : Value} : ∀ b ∈ ([(2, ([] : List Str), [0, 1])] : List (Nat × List Str × List Nat)), Bnd (PySem.W.fnOf "like_length" "like_length" (defArgs (k01_tp 8)) (defBody (k01_tp 8)) (defScope (k01_tp 8)) .none kV doc pm an cdv ct) k01_8.ps b.1 b.2.1 b.2.2 ∧ b.2.2.length = k01_8.ps.length := by
  intro b hb
  rcases List.mem_cons.mp hb with rfl | hb
  · exact ⟨fun us ws h1 h2 => match us, ws, h1, h2 with | [a0, a1], [], _, _ => ⟨[a0, a1], rfl, rfl⟩, rfl⟩
  exact absurd hb (List.not_mem_nil)
theorem k01_b9 {kV doc pm : Value} {an : Option Addr} {cdv ct : Value} : ∀ b ∈ ([(2, ([] : List Str), [0, 1]), (0, (["one", "other"] : List Str), [0, 1])] : List (Nat × List Str × List Nat)), Bnd (PySem.W.fnOf "common_begin" "common_begin" (defArgs (k01_tp 9)) (defBody (k01_tp 9)) (defScope (k01_tp 9)) .none kV doc pm an cdv ct) k01_9.ps b.1 b.2.1 b.2.2 ∧ b.2.2.length = k01_9.ps.length := by
  intro b hb
  rcases List.mem_cons.mp hb with rfl | hb
  · exact ⟨fun us ws h1 h2 => match us, ws, h1, h2 with | [a0, a1], [], _, _ => ⟨[a0, a1], rfl, rfl⟩, rfl⟩
  rcases List.mem_cons.mp hb with rfl | hb
  · exact ⟨fun us ws h1 h2 => match us, ws, h1, h2 with | [], [b0, b1], _, _ => ⟨[b0, b1], rfl, rfl⟩, rfl⟩
  exact absurd hb (List.not_mem_nil)
theorem k01_b10 {kV doc pm : Value} {an : Option Addr} {cdv ct : Value} : ∀ b ∈ ([(2, ([] : List Str), [0, 1]), (0, (["one", "other"] : List Str), [0, 1])] : List (Nat × List Str × List Nat)), Bnd (PySem.W.fnOf "common_end" "common_end" (defArgs (k01_tp 10)) (defBody (k01_tp 10)) (defScope (k01_tp 10)) .none kV doc pm an cdv ct) k01_10.ps b.1 b.2.1 b.2.2 ∧ b.2.2.length = k01_10.ps.length := by
  intro b hb
  rcases List.mem_cons.mp hb with rfl | hb
  · exact ⟨fun us ws h1 h2 => match us, ws, h1, h2 with | [a0, a1], [], _, _ => ⟨[a0, a1], rfl, rfl⟩, rfl⟩
  rcases List.mem_cons.mp hb with rfl | hb
  · exact ⟨fun us ws h1 h2 => match us, ws, h1, h2 with | [], [b0, b1], _, _ => ⟨[b0, b1], rfl, rfl⟩, rfl⟩
  exact absurd hb (List.not_mem_nil)
theorem k01_b11 {kV doc pm : Value} {an : Option Addr} {cdv ct : Value} : ∀ b ∈ ([(2, ([] : List Str), [0, 1]), (0, (["word", "part"] : List Str), [0, 1])] : List (Nat × List Str × List Nat)), Bnd (PySem.W.fnOf "parts_at" "parts_at" (defArgs (k01_tp 11)) (defBody (k01_tp 11)) (defScope (k01_tp 11)) .none kV doc pm an cdv ct) k01_11.ps b.1 b.2.1 b.2.2 ∧ b.2.2.length = k01_11.ps.length := by
  intro b hb
  rcases List.mem_cons.mp hb with rfl | hb
  · exact ⟨fun us ws h1 h2 => match us, ws, h1, h2 with | [a0, a1], [], _, _ => ⟨[a0, a1], rfl, rfl⟩, rfl⟩
  rcases List.mem_cons.mp hb with rfl | hb
  · exact ⟨fun us ws h1 h2 => match us, ws, h1, h2 with | [], [b0, b1], _, _ => ⟨[b0, b1], rfl, rfl⟩, rfl⟩
  exact absurd hb (List.not_mem_nil)
theorem k01_b12 {kV doc pm : Value} {an : Option Addr} {cdv ct : Value} : ∀ b ∈ ([(1, ([] : List Str), [0]), (0, (["word"] : List Str), [0])] : List (Nat × List Str × List Nat)), Bnd (PySem.W.fnOf "turned_word" "turned_word" (defArgs (k01_tp 12)) (defBody (k01_tp 12)) (defScope (k01_tp 12)) .none kV doc pm an cdv ct) k01_12.ps b.1 b.2.1 b.2.2 ∧ b.2.2.length = k01_12.ps.length := by
  intro b hb
  rcases List.mem_cons.mp hb with rfl | hb
  · exact ⟨fun us ws h1 h2 => match us, ws, h1, h2 with | [a0], [], _, _ => ⟨[a0], rfl, rfl⟩, rfl⟩
  rcases List.mem_cons.mp hb with rfl | hb
  · exact ⟨fun us ws h1 h2 => match us, ws, h1, h2 with | [], [b0], _, _ => ⟨[b0], rfl, rfl⟩, rfl⟩
  exact absurd hb (List.not_mem_nil)
theorem k01_b13 {kV doc pm : Value} {an : Option Addr} {cdv ct : Value} : ∀ b ∈ ([(1, ([] : List Str), [0])] : List (Nat × List Str × List Nat)), Bnd (PySem.W.fnOf "_law_own_bag" "_law_own_bag" (defArgs (k01_tp 13)) (defBody (k01_tp 13)) (defScope (k01_tp 13)) .none kV doc pm an cdv ct) k01_13.ps b.1 b.2.1 b.2.2 ∧ b.2.2.length = k01_13.ps.length := by
  intro b hb
  rcases List.mem_cons.mp hb with rfl | hb
  · exact ⟨fun us ws h1 h2 => match us, ws, h1, h2 with | [a0], [], _, _ => ⟨[a0], rfl, rfl⟩, rfl⟩
  exact absurd hb (List.not_mem_nil)
theorem k01_b14 {kV doc pm : Value} {an : Option Addr} {cdv ct : Value} : ∀ b ∈ ([(2, ([] : List Str), [0, 1])] : List (Nat × List Str × List Nat)), Bnd (PySem.W.fnOf "_law_draw" "_law_draw" (defArgs (k01_tp 14)) (defBody (k01_tp 14)) (defScope (k01_tp 14)) .none kV doc pm an cdv ct) k01_14.ps b.1 b.2.1 b.2.2 ∧ b.2.2.length = k01_14.ps.length := by
  intro b hb
  rcases List.mem_cons.mp hb with rfl | hb
  · exact ⟨fun us ws h1 h2 => match us, ws, h1, h2 with | [a0, a1], [], _, _ => ⟨[a0, a1], rfl, rfl⟩, rfl⟩
  exact absurd hb (List.not_mem_nil)
theorem k01_b15 {kV doc pm : Value} {an : Option Addr} {cdv ct : Value} : ∀ b ∈ ([(2, ([] : List Str), [0, 1])] : List (Nat × List Str × List Nat)), Bnd (PySem.W.fnOf "_law_pick" "_law_pick" (defArgs (k01_tp 15)) (defBody (k01_tp 15)) (defScope (k01_tp 15)) .none kV doc pm an cdv ct) k01_15.ps b.1 b.2.1 b.2.2 ∧ b.2.2.length = k01_15.ps.length := by
  intro b hb
  rcases List.mem_cons.mp hb with rfl | hb
  · exact ⟨fun us ws h1 h2 => match us, ws, h1, h2 with | [a0, a1], [], _, _ => ⟨[a0, a1], rfl, rfl⟩, rfl⟩
  exact absurd hb (List.not_mem_nil)
theorem k01_b16 {kV doc pm : Value} {an : Option Addr} {cdv ct : Value} : ∀ b ∈ ([(2, ([] : List Str), [0, 1])] : List (Nat × List Str × List Nat)), Bnd (PySem.W.fnOf "_law_are_numbers" "_law_are_numbers" (defArgs (k01_tp 16)) (defBody (k01_tp 16)) (defScope (k01_tp 16)) .none kV doc pm an cdv ct) k01_16.ps b.1 b.2.1 b.2.2 ∧ b.2.2.length = k01_16.ps.length := by
  intro b hb
  rcases List.mem_cons.mp hb with rfl | hb
  · exact ⟨fun us ws h1 h2 => match us, ws, h1, h2 with | [a0, a1], [], _, _ => ⟨[a0, a1], rfl, rfl⟩, rfl⟩
  exact absurd hb (List.not_mem_nil)
theorem k01_b17 {kV doc pm : Value} {an : Option Addr} {cdv ct : Value} : ∀ b ∈ ([(2, ([] : List Str), [0, 1])] : List (Nat × List Str × List Nat)), Bnd (PySem.W.fnOf "_law_are_pairs" "_law_are_pairs" (defArgs (k01_tp 17)) (defBody (k01_tp 17)) (defScope (k01_tp 17)) .none kV doc pm an cdv ct) k01_17.ps b.1 b.2.1 b.2.2 ∧ b.2.2.length = k01_17.ps.length := by
  intro b hb
  rcases List.mem_cons.mp hb with rfl | hb
  · exact ⟨fun us ws h1 h2 => match us, ws, h1, h2 with | [a0, a1], [], _, _ => ⟨[a0, a1], rfl, rfl⟩, rfl⟩
  exact absurd hb (List.not_mem_nil)
theorem k01_b18 {kV doc pm : Value} {an : Option Addr} {cdv ct : Value} : ∀ b ∈ ([(2, ([] : List Str), [0, 1])] : List (Nat × List Str × List Nat)), Bnd (PySem.W.fnOf "_law_is_error" "_law_is_error" (defArgs (k01_tp 18)) (defBody (k01_tp 18)) (defScope (k01_tp 18)) .none kV doc pm an cdv ct) k01_18.ps b.1 b.2.1 b.2.2 ∧ b.2.2.length = k01_18.ps.length := by
  intro b hb
  rcases List.mem_cons.mp hb with rfl | hb
  · exact ⟨fun us ws h1 h2 => match us, ws, h1, h2 with | [a0, a1], [], _, _ => ⟨[a0, a1], rfl, rfl⟩, rfl⟩
  exact absurd hb (List.not_mem_nil)
theorem k01_b19 {kV doc pm : Value} {an : Option Addr} {cdv ct : Value} : ∀ b ∈ ([(1, ([] : List Str), [0])] : List (Nat × List Str × List Nat)), Bnd (PySem.W.fnOf "_law_turned" "_law_turned" (defArgs (k01_tp 19)) (defBody (k01_tp 19)) (defScope (k01_tp 19)) .none kV doc pm an cdv ct) k01_19.ps b.1 b.2.1 b.2.2 ∧ b.2.2.length = k01_19.ps.length := by
  intro b hb
  rcases List.mem_cons.mp hb with rfl | hb
  · exact ⟨fun us ws h1 h2 => match us, ws, h1, h2 with | [a0], [], _, _ => ⟨[a0], rfl, rfl⟩, rfl⟩
  exact absurd hb (List.not_mem_nil)
theorem k01_b20 {kV doc pm : Value} {an : Option Addr} {cdv ct : Value} : ∀ b ∈ ([(2, ([] : List Str), [0, 1])] : List (Nat × List Str × List Nat)), Bnd (PySem.W.fnOf "_law_class" "_law_class" (defArgs (k01_tp 20)) (defBody (k01_tp 20)) (defScope (k01_tp 20)) .none kV doc pm an cdv ct) k01_20.ps b.1 b.2.1 b.2.2 ∧ b.2.2.length = k01_20.ps.length := by
  intro b hb
  rcases List.mem_cons.mp hb with rfl | hb
  · exact ⟨fun us ws h1 h2 => match us, ws, h1, h2 with | [a0, a1], [], _, _ => ⟨[a0, a1], rfl, rfl⟩, rfl⟩
  exact absurd hb (List.not_mem_nil)
theorem k01_b21 {kV doc pm : Value} {an : Option Addr} {cdv ct : Value} : ∀ b ∈ ([(3, ([] : List Str), [0, 1, 2])] : List (Nat × List Str × List Nat)), Bnd (PySem.W.fnOf "_law_word" "_law_word" (defArgs (k01_tp 21)) (defBody (k01_tp 21)) (defScope (k01_tp 21)) .none kV doc pm an cdv ct) k01_21.ps b.1 b.2.1 b.2.2 ∧ b.2.2.length = k01_21.ps.length := by
  intro b hb
  rcases List.mem_cons.mp hb with rfl | hb
  · exact ⟨fun us ws h1 h2 => match us, ws, h1, h2 with | [a0, a1, a2], [], _, _ => ⟨[a0, a1, a2], rfl, rfl⟩, rfl⟩
  exact absurd hb (List.not_mem_nil)
theorem k01_b22 {kV doc pm : Value} {an : Option Addr} {cdv ct : Value} : ∀ b ∈ ([(2, ([] : List Str), [0, 1])] : List (Nat × List Str × List Nat)), Bnd (PySem.W.fnOf "_law_bad_letter" "_law_bad_letter" (defArgs (k01_tp 22)) (defBody (k01_tp 22)) (defScope (k01_tp 22)) .none kV doc pm an cdv ct) k01_22.ps b.1 b.2.1 b.2.2 ∧ b.2.2.length = k01_22.ps.length := by
  intro b hb
  rcases List.mem_cons.mp hb with rfl | hb
  · exact ⟨fun us ws h1 h2 => match us, ws, h1, h2 with | [a0, a1], [], _, _ => ⟨[a0, a1], rfl, rfl⟩, rfl⟩
  exact absurd hb (List.not_mem_nil)
theorem k01_b23 {kV doc pm : Value} {an : Option Addr} {cdv ct : Value} : ∀ b ∈ ([(1, ([] : List Str), [0])] : List (Nat × List Str × List Nat)), Bnd (PySem.W.fnOf "_law_bad_order" "_law_bad_order" (defArgs (k01_tp 23)) (defBody (k01_tp 23)) (defScope (k01_tp 23)) .none kV doc pm an cdv ct) k01_23.ps b.1 b.2.1 b.2.2 ∧ b.2.2.length = k01_23.ps.length := by
  intro b hb
  rcases List.mem_cons.mp hb with rfl | hb
  · exact ⟨fun us ws h1 h2 => match us, ws, h1, h2 with | [a0], [], _, _ => ⟨[a0], rfl, rfl⟩, rfl⟩
  exact absurd hb (List.not_mem_nil)
theorem k01_b24 {kV doc pm : Value} {an : Option Addr} {cdv ct : Value} : ∀ b ∈ ([(2, ([] : List Str), [0, 1])] : List (Nat × List Str × List Nat)), Bnd (PySem.W.fnOf "_law_dues" "_law_dues" (defArgs (k01_tp 24)) (defBody (k01_tp 24)) (defScope (k01_tp 24)) .none kV doc pm an cdv ct) k01_24.ps b.1 b.2.1 b.2.2 ∧ b.2.2.length = k01_24.ps.length := by
  intro b hb
  rcases List.mem_cons.mp hb with rfl | hb
  · exact ⟨fun us ws h1 h2 => match us, ws, h1, h2 with | [a0, a1], [], _, _ => ⟨[a0, a1], rfl, rfl⟩, rfl⟩
  exact absurd hb (List.not_mem_nil)
theorem k01_b25 {kV doc pm : Value} {an : Option Addr} {cdv ct : Value} : ∀ b ∈ ([(4, ([] : List Str), [0, 1, 2, 3])] : List (Nat × List Str × List Nat)), Bnd (PySem.W.fnOf "_law_is_judged" "_law_is_judged" (defArgs (k01_tp 25)) (defBody (k01_tp 25)) (defScope (k01_tp 25)) .none kV doc pm an cdv ct) k01_25.ps b.1 b.2.1 b.2.2 ∧ b.2.2.length = k01_25.ps.length := by
  intro b hb
  rcases List.mem_cons.mp hb with rfl | hb
  · exact ⟨fun us ws h1 h2 => match us, ws, h1, h2 with | [a0, a1, a2, a3], [], _, _ => ⟨[a0, a1, a2, a3], rfl, rfl⟩, rfl⟩
  exact absurd hb (List.not_mem_nil)
theorem k01_b26 {kV doc pm : Value} {an : Option Addr} {cdv ct : Value} : ∀ b ∈ ([(2, ([] : List Str), [0, 1])] : List (Nat × List Str × List Nat)), Bnd (PySem.W.fnOf "_law_are_judged" "_law_are_judged" (defArgs (k01_tp 26)) (defBody (k01_tp 26)) (defScope (k01_tp 26)) .none kV doc pm an cdv ct) k01_26.ps b.1 b.2.1 b.2.2 ∧ b.2.2.length = k01_26.ps.length := by
  intro b hb
  rcases List.mem_cons.mp hb with rfl | hb
  · exact ⟨fun us ws h1 h2 => match us, ws, h1, h2 with | [a0, a1], [], _, _ => ⟨[a0, a1], rfl, rfl⟩, rfl⟩
  exact absurd hb (List.not_mem_nil)
theorem k01_b27 {kV doc pm : Value} {an : Option Addr} {cdv ct : Value} : ∀ b ∈ ([(2, ([] : List Str), [0, 1])] : List (Nat × List Str × List Nat)), Bnd (PySem.W.fnOf "_law_strange" "_law_strange" (defArgs (k01_tp 27)) (defBody (k01_tp 27)) (defScope (k01_tp 27)) .none kV doc pm an cdv ct) k01_27.ps b.1 b.2.1 b.2.2 ∧ b.2.2.length = k01_27.ps.length := by
  intro b hb
  rcases List.mem_cons.mp hb with rfl | hb
  · exact ⟨fun us ws h1 h2 => match us, ws, h1, h2 with | [a0, a1], [], _, _ => ⟨[a0, a1], rfl, rfl⟩, rfl⟩
  exact absurd hb (List.not_mem_nil)
theorem k01_b28 {kV doc pm : Value} {an : Option Addr} {cdv ct : Value} : ∀ b ∈ ([(3, ([] : List Str), [0, 1, 2])] : List (Nat × List Str × List Nat)), Bnd (PySem.W.fnOf "_law_spoilt" "_law_spoilt" (defArgs (k01_tp 28)) (defBody (k01_tp 28)) (defScope (k01_tp 28)) .none kV doc pm an cdv ct) k01_28.ps b.1 b.2.1 b.2.2 ∧ b.2.2.length = k01_28.ps.length := by
  intro b hb
  rcases List.mem_cons.mp hb with rfl | hb
  · exact ⟨fun us ws h1 h2 => match us, ws, h1, h2 with | [a0, a1, a2], [], _, _ => ⟨[a0, a1, a2], rfl, rfl⟩, rfl⟩
  exact absurd hb (List.not_mem_nil)
theorem k01_b29 {kV doc pm : Value} {an : Option Addr} {cdv ct : Value} : ∀ b ∈ ([(1, ([] : List Str), [0])] : List (Nat × List Str × List Nat)), Bnd (PySem.W.fnOf "_law_are_lengths_right" "_law_are_lengths_right" (defArgs (k01_tp 29)) (defBody (k01_tp 29)) (defScope (k01_tp 29)) .none kV doc pm an cdv ct) k01_29.ps b.1 b.2.1 b.2.2 ∧ b.2.2.length = k01_29.ps.length := by
  intro b hb
  rcases List.mem_cons.mp hb with rfl | hb
  · exact ⟨fun us ws h1 h2 => match us, ws, h1, h2 with | [a0], [], _, _ => ⟨[a0], rfl, rfl⟩, rfl⟩
  exact absurd hb (List.not_mem_nil)
theorem k01_b30 {kV doc pm : Value} {an : Option Addr} {cdv ct : Value} : ∀ b ∈ ([(1, ([] : List Str), [0])] : List (Nat × List Str × List Nat)), Bnd (PySem.W.fnOf "_law_are_greats_right" "_law_are_greats_right" (defArgs (k01_tp 30)) (defBody (k01_tp 30)) (defScope (k01_tp 30)) .none kV doc pm an cdv ct) k01_30.ps b.1 b.2.1 b.2.2 ∧ b.2.2.length = k01_30.ps.length := by
  intro b hb
  rcases List.mem_cons.mp hb with rfl | hb
  · exact ⟨fun us ws h1 h2 => match us, ws, h1, h2 with | [a0], [], _, _ => ⟨[a0], rfl, rfl⟩, rfl⟩
  exact absurd hb (List.not_mem_nil)
theorem k01_b31 {kV doc pm : Value} {an : Option Addr} {cdv ct : Value} : ∀ b ∈ ([(0, ([] : List Str), [])] : List (Nat × List Str × List Nat)), Bnd (PySem.W.fnOf "_law_are_classes_right" "_law_are_classes_right" (defArgs (k01_tp 31)) (defBody (k01_tp 31)) (defScope (k01_tp 31)) .none kV doc pm an cdv ct) k01_31.ps b.1 b.2.1 b.2.2 ∧ b.2.2.length = k01_31.ps.length := by
  intro b hb
  rcases List.mem_cons.mp hb with rfl | hb
  · exact ⟨fun us ws h1 h2 => match us, ws, h1, h2 with | [], [], _, _ => ⟨[], rfl, rfl⟩, rfl⟩
  exact absurd hb (List.not_mem_nil)
theorem k01_b32 {kV doc pm : Value} {an : Option Addr} {cdv ct : Value} : ∀ b ∈ ([(2, ([] : List Str), [0, 1])] : List (Nat × List Str × List Nat)), Bnd (PySem.W.fnOf "_law_runs" "_law_runs" (defArgs (k01_tp 32)) (defBody (k01_tp 32)) (defScope (k01_tp 32)) .none kV doc pm an cdv ct) k01_32.ps b.1 b.2.1 b.2.2 ∧ b.2.2.length = k01_32.ps.length := by
  intro b hb
  rcases List.mem_cons.mp hb with rfl | hb
  · exact ⟨fun us ws h1 h2 => match us, ws, h1, h2 with | [a0, a1], [], _, _ => ⟨[a0, a1], rfl, rfl⟩, rfl⟩
  exact absurd hb (List.not_mem_nil)
theorem k01_b33 {kV doc pm : Value} {an : Option Addr} {cdv ct : Value} : ∀ b ∈ ([(2, ([] : List Str), [0, 1])] : List (Nat × List Str × List Nat)), Bnd (PySem.W.fnOf "_law_begin" "_law_begin" (defArgs (k01_tp 33)) (defBody (k01_tp 33)) (defScope (k01_tp 33)) .none kV doc pm an cdv ct) k01_33.ps b.1 b.2.1 b.2.2 ∧ b.2.2.length = k01_33.ps.length := by
  intro b hb
  rcases List.mem_cons.mp hb with rfl | hb
  · exact ⟨fun us ws h1 h2 => match us, ws, h1, h2 with | [a0, a1], [], _, _ => ⟨[a0, a1], rfl, rfl⟩, rfl⟩
  exact absurd hb (List.not_mem_nil)
theorem k01_b34 {kV doc pm : Value} {an : Option Addr} {cdv ct : Value} : ∀ b ∈ ([(3, ([] : List Str), [0, 1, 2])] : List (Nat × List Str × List Nat)), Bnd (PySem.W.fnOf "_law_are_runs_right" "_law_are_runs_right" (defArgs (k01_tp 34)) (defBody (k01_tp 34)) (defScope (k01_tp 34)) .none kV doc pm an cdv ct) k01_34.ps b.1 b.2.1 b.2.2 ∧ b.2.2.length = k01_34.ps.length := by
  intro b hb
  rcases List.mem_cons.mp hb with rfl | hb
  · exact ⟨fun us ws h1 h2 => match us, ws, h1, h2 with | [a0, a1, a2], [], _, _ => ⟨[a0, a1, a2], rfl, rfl⟩, rfl⟩
  exact absurd hb (List.not_mem_nil)
theorem k01_b35 {kV doc pm : Value} {an : Option Addr} {cdv ct : Value} : ∀ b ∈ ([(2, ([] : List Str), [0, 1])] : List (Nat × List Str × List Nat)), Bnd (PySem.W.fnOf "_law_are_counts_right" "_law_are_counts_right" (defArgs (k01_tp 35)) (defBody (k01_tp 35)) (defScope (k01_tp 35)) .none kV doc pm an cdv ct) k01_35.ps b.1 b.2.1 b.2.2 ∧ b.2.2.length = k01_35.ps.length := by
  intro b hb
  rcases List.mem_cons.mp hb with rfl | hb
  · exact ⟨fun us ws h1 h2 => match us, ws, h1, h2 with | [a0, a1], [], _, _ => ⟨[a0, a1], rfl, rfl⟩, rfl⟩
  exact absurd hb (List.not_mem_nil)
theorem k01_b36 {kV doc pm : Value} {an : Option Addr} {cdv ct : Value} : ∀ b ∈ ([(3, ([] : List Str), [0, 1, 2])] : List (Nat × List Str × List Nat)), Bnd (PySem.W.fnOf "_law_pair" "_law_pair" (defArgs (k01_tp 36)) (defBody (k01_tp 36)) (defScope (k01_tp 36)) .none kV doc pm an cdv ct) k01_36.ps b.1 b.2.1 b.2.2 ∧ b.2.2.length = k01_36.ps.length := by
  intro b hb
  rcases List.mem_cons.mp hb with rfl | hb
  · exact ⟨fun us ws h1 h2 => match us, ws, h1, h2 with | [a0, a1, a2], [], _, _ => ⟨[a0, a1, a2], rfl, rfl⟩, rfl⟩
  exact absurd hb (List.not_mem_nil)
theorem k01_b37 {kV doc pm : Value} {an : Option Addr} {cdv ct : Value} : ∀ b ∈ ([(3, ([] : List Str), [0, 1, 2])] : List (Nat × List Str × List Nat)), Bnd (PySem.W.fnOf "_law_are_ends_right" "_law_are_ends_right" (defArgs (k01_tp 37)) (defBody (k01_tp 37)) (defScope (k01_tp 37)) .none kV doc pm an cdv ct) k01_37.ps b.1 b.2.1 b.2.2 ∧ b.2.2.length = k01_37.ps.length := by
  intro b hb
  rcases List.mem_cons.mp hb with rfl | hb
  · exact ⟨fun us ws h1 h2 => match us, ws, h1, h2 with | [a0, a1, a2], [], _, _ => ⟨[a0, a1, a2], rfl, rfl⟩, rfl⟩
  exact absurd hb (List.not_mem_nil)
theorem k01_b38 {kV doc pm : Value} {an : Option Addr} {cdv ct : Value} : ∀ b ∈ ([(3, ([] : List Str), [0, 1, 2])] : List (Nat × List Str × List Nat)), Bnd (PySem.W.fnOf "_law_are_parts_right" "_law_are_parts_right" (defArgs (k01_tp 38)) (defBody (k01_tp 38)) (defScope (k01_tp 38)) .none kV doc pm an cdv ct) k01_38.ps b.1 b.2.1 b.2.2 ∧ b.2.2.length = k01_38.ps.length := by
  intro b hb
  rcases List.mem_cons.mp hb with rfl | hb
  · exact ⟨fun us ws h1 h2 => match us, ws, h1, h2 with | [a0, a1, a2], [], _, _ => ⟨[a0, a1, a2], rfl, rfl⟩, rfl⟩
  exact absurd hb (List.not_mem_nil)
theorem k01_b39 {kV doc pm : Value} {an : Option Addr} {cdv ct : Value} : ∀ b ∈ ([(2, ([] : List Str), [0, 1])] : List (Nat × List Str × List Nat)), Bnd (PySem.W.fnOf "_law_size" "_law_size" (defArgs (k01_tp 39)) (defBody (k01_tp 39)) (defScope (k01_tp 39)) .none kV doc pm an cdv ct) k01_39.ps b.1 b.2.1 b.2.2 ∧ b.2.2.length = k01_39.ps.length := by
  intro b hb
  rcases List.mem_cons.mp hb with rfl | hb
  · exact ⟨fun us ws h1 h2 => match us, ws, h1, h2 with | [a0, a1], [], _, _ => ⟨[a0, a1], rfl, rfl⟩, rfl⟩
  exact absurd hb (List.not_mem_nil)
theorem k01_b40 {kV doc pm : Value} {an : Option Addr} {cdv ct : Value} : ∀ b ∈ ([(1, ([] : List Str), [0])] : List (Nat × List Str × List Nat)), Bnd (PySem.W.fnOf "law" "law" (defArgs (k01_tp 40)) (defBody (k01_tp 40)) (defScope (k01_tp 40)) .none kV doc pm an cdv ct) k01_40.ps b.1 b.2.1 b.2.2 ∧ b.2.2.length = k01_40.ps.length := by
  intro b hb
  rcases List.mem_cons.mp hb with rfl | hb
  · exact ⟨fun us ws h1 h2 => match us, ws, h1, h2 with | [a0], [], _, _ => ⟨[a0], rfl, rfl⟩, rfl⟩
  exact absurd hb (List.not_mem_nil)
structure k01_In (K : PySem.W.Frag) : Prop where
  f0 : FnIn K "is_integer" (k01_tp 0)
  f1 : FnIn K "are_integers" (k01_tp 1)
  f2 : FnIn K "odd_letter" (k01_tp 2)
  f3 : FnIn K "word_error" (k01_tp 3)
  f4 : FnIn K "class_error" (k01_tp 4)
  f5 : FnIn K "other_letters" (k01_tp 5)
  f6 : FnIn K "letter_counts" (k01_tp 6)
  f7 : FnIn K "runs_of" (k01_tp 7)
  f8 : FnIn K "like_length" (k01_tp 8)
  f9 : FnIn K "common_begin" (k01_tp 9)
  f10 : FnIn K "common_end" (k01_tp 10)
  f11 : FnIn K "parts_at" (k01_tp 11)
  f12 : FnIn K "turned_word" (k01_tp 12)
  f13 : FnIn K "_law_own_bag" (k01_tp 13)
  f14 : FnIn K "_law_draw" (k01_tp 14)
  f15 : FnIn K "_law_pick" (k01_tp 15)
  f16 : FnIn K "_law_are_numbers" (k01_tp 16)
  f17 : FnIn K "_law_are_pairs" (k01_tp 17)
  f18 : FnIn K "_law_is_error" (k01_tp 18)
  f19 : FnIn K "_law_turned" (k01_tp 19)
  f20 : FnIn K "_law_class" (k01_tp 20)
  f21 : FnIn K "_law_word" (k01_tp 21)
  f22 : FnIn K "_law_bad_letter" (k01_tp 22)
  f23 : FnIn K "_law_bad_order" (k01_tp 23)
  f24 : FnIn K "_law_dues" (k01_tp 24)
  f25 : FnIn K "_law_is_judged" (k01_tp 25)
  f26 : FnIn K "_law_are_judged" (k01_tp 26)
  f27 : FnIn K "_law_strange" (k01_tp 27)
  f28 : FnIn K "_law_spoilt" (k01_tp 28)
  f29 : FnIn K "_law_are_lengths_right" (k01_tp 29)
  f30 : FnIn K "_law_are_greats_right" (k01_tp 30)
  f31 : FnIn K "_law_are_classes_right" (k01_tp 31)
  f32 : FnIn K "_law_runs" (k01_tp 32)
  f33 : FnIn K "_law_begin" (k01_tp 33)
  f34 : FnIn K "_law_are_runs_right" (k01_tp 34)
  f35 : FnIn K "_law_are_counts_right" (k01_tp 35)
  f36 : FnIn K "_law_pair" (k01_tp 36)
  f37 : FnIn K "_law_are_ends_right" (k01_tp 37)
  f38 : FnIn K "_law_are_parts_right" (k01_tp 38)
  f39 : FnIn K "_law_size" (k01_tp 39)
  f40 : FnIn K "law" (k01_tp 40)
theorem k01_stood {K : PySem.W.Frag} {mg : Str → Option Value} {h : Heap} (X : K.In h) (G : h.Ns mainGlobals mg) (I : k01_In K) (B : ∀ x ∈ bltNames, PySem.W.nsIn K mainGlobals x = some none) (Q : ∀ x c, (x, c) ∈ k01_glo → ∃ u, PySem.W.nsIn K mainGlobals x = some (some u) ∧ RelV c.v u) : Stood k01_D k01_glo k01_fns k01_tp K mg where
  blt := fun x hx => PySem.W.mg_none_of X G (B x hx)
  glo := fun x c hx => let ⟨u, h1, h2⟩ := Q x c hx; ⟨u, PySem.W.mg_of X G h1, h2⟩
  fns := fun i nm bs hi => match i, hi with
    | 0, hi => by
      cases hi
      obtain ⟨f, fd, h1, h2, kV, doc, pm, an, cdv, ct, rfl⟩ := I.f0.ex
      exact ⟨_, f, _, rfl, PySem.W.mg_of X G h1, h2, k01_b0⟩
    | 1, hi => by
      cases hi
      obtain ⟨f, fd, h1, h2, kV, doc, pm, an, cdv, ct, rfl⟩ := I.f1.ex
      exact ⟨_, f, _, rfl, PySem.W.mg_of X G h1, h2, k01_b1⟩
    | 2, hi => by
      cases hi
      obtain ⟨f, fd, h1, h2, kV, doc, pm, an, cdv, ct, rfl⟩ := I.f2.ex
      exact ⟨_, f, _, rfl, PySem.W.mg_of X G h1, h2, k01_b2⟩
    | 3, hi => by
      cases hi
      obtain ⟨f, fd, h1, h2, kV, doc, pm, an, cdv, ct, rfl⟩ := I.f3.ex
      exact ⟨_, f, _, rfl, PySem.W.mg_of X G h1, h2, k01_b3⟩
    | 4, hi => by
      cases hi
      obtain ⟨f, fd, h1, h2, kV, doc, pm, an, cdv, ct, rfl⟩ := I.f4.ex
      exact ⟨_, f, _, rfl, PySem.W.mg_of X G h1, h2, k01_b4⟩
    | 5, hi => by
      cases hi
      obtain ⟨f, fd, h1, h2, kV, doc, pm, an, cdv, ct, rfl⟩ := I.f5.ex
      exact ⟨_, f, _, rfl, PySem.W.mg_of X G h1, h2, k01_b5⟩
    | 6, hi => by
      cases hi
      obtain ⟨f, fd, h1, h2, kV, doc, pm, an, cdv, ct, rfl⟩ := I.f6.ex
      exact ⟨_, f, _, rfl, PySem.W.mg_of X G h1, h2, k01_b6⟩
    | 7, hi => by
      cases hi
      obtain ⟨f, fd, h1, h2, kV, doc, pm, an, cdv, ct, rfl⟩ := I.f7.ex
      exact ⟨_, f, _, rfl, PySem.W.mg_of X G h1, h2, k01_b7⟩
    | 8, hi => by
      cases hi
      obtain ⟨f, fd, h1, h2, kV, doc, pm, an, cdv, ct, rfl⟩ := I.f8.ex
      exact ⟨_, f, _, rfl, PySem.W.mg_of X G h1, h2, k01_b8⟩
    | 9, hi => by
      cases hi
      obtain ⟨f, fd, h1, h2, kV, doc, pm, an, cdv, ct, rfl⟩ := I.f9.ex
      exact ⟨_, f, _, rfl, PySem.W.mg_of X G h1, h2, k01_b9⟩
    | 10, hi => by
      cases hi
      obtain ⟨f, fd, h1, h2, kV, doc, pm, an, cdv, ct, rfl⟩ := I.f10.ex
      exact ⟨_, f, _, rfl, PySem.W.mg_of X G h1, h2, k01_b10⟩
    | 11, hi => by
      cases hi
      obtain ⟨f, fd, h1, h2, kV, doc, pm, an, cdv, ct, rfl⟩ := I.f11.ex
      exact ⟨_, f, _, rfl, PySem.W.mg_of X G h1, h2, k01_b11⟩
    | 12, hi => by
      cases hi
      obtain ⟨f, fd, h1, h2, kV, doc, pm, an, cdv, ct, rfl⟩ := I.f12.ex
      exact ⟨_, f, _, rfl, PySem.W.mg_of X G h1, h2, k01_b12⟩
    | 13, hi => by
      cases hi
      obtain ⟨f, fd, h1, h2, kV, doc, pm, an, cdv, ct, rfl⟩ := I.f13.ex
      exact ⟨_, f, _, rfl, PySem.W.mg_of X G h1, h2, k01_b13⟩
    | 14, hi => by
      cases hi
      obtain ⟨f, fd, h1, h2, kV, doc, pm, an, cdv, ct, rfl⟩ := I.f14.ex
      exact ⟨_, f, _, rfl, PySem.W.mg_of X G h1, h2, k01_b14⟩
    | 15, hi => by
      cases hi
      obtain ⟨f, fd, h1, h2, kV, doc, pm, an, cdv, ct, rfl⟩ := I.f15.ex
      exact ⟨_, f, _, rfl, PySem.W.mg_of X G h1, h2, k01_b15⟩
    | 16, hi => by
      cases hi
      obtain ⟨f, fd, h1, h2, kV, doc, pm, an, cdv, ct, rfl⟩ := I.f16.ex
      exact ⟨_, f, _, rfl, PySem.W.mg_of X G h1, h2, k01_b16⟩
    | 17, hi => by
      cases hi
      obtain ⟨f, fd, h1, h2, kV, doc, pm, an, cdv, ct, rfl⟩ := I.f17.ex
      exact ⟨_, f, _, rfl, PySem.W.mg_of X G h1, h2, k01_b17⟩
    | 18, hi => by
      cases hi
      obtain ⟨f, fd, h1, h2, kV, doc, pm, an, cdv, ct, rfl⟩ := I.f18.ex
      exact ⟨_, f, _, rfl, PySem.W.mg_of X G h1, h2, k01_b18⟩
    | 19, hi => by
      cases hi
      obtain ⟨f, fd, h1, h2, kV, doc, pm, an, cdv, ct, rfl⟩ := I.f19.ex
      exact ⟨_, f, _, rfl, PySem.W.mg_of X G h1, h2, k01_b19⟩
    | 20, hi => by
      cases hi
      obtain ⟨f, fd, h1, h2, kV, doc, pm, an, cdv, ct, rfl⟩ := I.f20.ex
      exact ⟨_, f, _, rfl, PySem.W.mg_of X G h1, h2, k01_b20⟩
    | 21, hi => by
      cases hi
      obtain ⟨f, fd, h1, h2, kV, doc, pm, an, cdv, ct, rfl⟩ := I.f21.ex
      exact ⟨_, f, _, rfl, PySem.W.mg_of X G h1, h2, k01_b21⟩
    | 22, hi => by
      cases hi
      obtain ⟨f, fd, h1, h2, kV, doc, pm, an, cdv, ct, rfl⟩ := I.f22.ex
      exact ⟨_, f, _, rfl, PySem.W.mg_of X G h1, h2, k01_b22⟩
    | 23, hi => by
      cases hi
      obtain ⟨f, fd, h1, h2, kV, doc, pm, an, cdv, ct, rfl⟩ := I.f23.ex
      exact ⟨_, f, _, rfl, PySem.W.mg_of X G h1, h2, k01_b23⟩
    | 24, hi => by
      cases hi
      obtain ⟨f, fd, h1, h2, kV, doc, pm, an, cdv, ct, rfl⟩ := I.f24.ex
      exact ⟨_, f, _, rfl, PySem.W.mg_of X G h1, h2, k01_b24⟩
    | 25, hi => by
      cases hi
      obtain ⟨f, fd, h1, h2, kV, doc, pm, an, cdv, ct, rfl⟩ := I.f25.ex
      exact ⟨_, f, _, rfl, PySem.W.mg_of X G h1, h2, k01_b25⟩
    | 26, hi => by
      cases hi
      obtain ⟨f, fd, h1, h2, kV, doc, pm, an, cdv, ct, rfl⟩ := I.f26.ex
      exact ⟨_, f, _, rfl, PySem.W.mg_of X G h1, h2, k01_b26⟩
    | 27, hi => by
      cases hi
      obtain ⟨f, fd, h1, h2, kV, doc, pm, an, cdv, ct, rfl⟩ := I.f27.ex
      exact ⟨_, f, _, rfl, PySem.W.mg_of X G h1, h2, k01_b27⟩
    | 28, hi => by
      cases hi
      obtain ⟨f, fd, h1, h2, kV, doc, pm, an, cdv, ct, rfl⟩ := I.f28.ex
      exact ⟨_, f, _, rfl, PySem.W.mg_of X G h1, h2, k01_b28⟩
    | 29, hi => by
      cases hi
      obtain ⟨f, fd, h1, h2, kV, doc, pm, an, cdv, ct, rfl⟩ := I.f29.ex
      exact ⟨_, f, _, rfl, PySem.W.mg_of X G h1, h2, k01_b29⟩
    | 30, hi => by
      cases hi
      obtain ⟨f, fd, h1, h2, kV, doc, pm, an, cdv, ct, rfl⟩ := I.f30.ex
      exact ⟨_, f, _, rfl, PySem.W.mg_of X G h1, h2, k01_b30⟩
    | 31, hi => by
      cases hi
      obtain ⟨f, fd, h1, h2, kV, doc, pm, an, cdv, ct, rfl⟩ := I.f31.ex
      exact ⟨_, f, _, rfl, PySem.W.mg_of X G h1, h2, k01_b31⟩
    | 32, hi => by
      cases hi
      obtain ⟨f, fd, h1, h2, kV, doc, pm, an, cdv, ct, rfl⟩ := I.f32.ex
      exact ⟨_, f, _, rfl, PySem.W.mg_of X G h1, h2, k01_b32⟩
    | 33, hi => by
      cases hi
      obtain ⟨f, fd, h1, h2, kV, doc, pm, an, cdv, ct, rfl⟩ := I.f33.ex
      exact ⟨_, f, _, rfl, PySem.W.mg_of X G h1, h2, k01_b33⟩
    | 34, hi => by
      cases hi
      obtain ⟨f, fd, h1, h2, kV, doc, pm, an, cdv, ct, rfl⟩ := I.f34.ex
      exact ⟨_, f, _, rfl, PySem.W.mg_of X G h1, h2, k01_b34⟩
    | 35, hi => by
      cases hi
      obtain ⟨f, fd, h1, h2, kV, doc, pm, an, cdv, ct, rfl⟩ := I.f35.ex
      exact ⟨_, f, _, rfl, PySem.W.mg_of X G h1, h2, k01_b35⟩
    | 36, hi => by
      cases hi
      obtain ⟨f, fd, h1, h2, kV, doc, pm, an, cdv, ct, rfl⟩ := I.f36.ex
      exact ⟨_, f, _, rfl, PySem.W.mg_of X G h1, h2, k01_b36⟩
    | 37, hi => by
      cases hi
      obtain ⟨f, fd, h1, h2, kV, doc, pm, an, cdv, ct, rfl⟩ := I.f37.ex
      exact ⟨_, f, _, rfl, PySem.W.mg_of X G h1, h2, k01_b37⟩
    | 38, hi => by
      cases hi
      obtain ⟨f, fd, h1, h2, kV, doc, pm, an, cdv, ct, rfl⟩ := I.f38.ex
      exact ⟨_, f, _, rfl, PySem.W.mg_of X G h1, h2, k01_b38⟩
    | 39, hi => by
      cases hi
      obtain ⟨f, fd, h1, h2, kV, doc, pm, an, cdv, ct, rfl⟩ := I.f39.ex
      exact ⟨_, f, _, rfl, PySem.W.mg_of X G h1, h2, k01_b39⟩
    | 40, hi => by
      cases hi
      obtain ⟨f, fd, h1, h2, kV, doc, pm, an, cdv, ct, rfl⟩ := I.f40.ex
      exact ⟨_, f, _, rfl, PySem.W.mg_of X G h1, h2, k01_b40⟩
    | n + 41, hi => nomatch hi
end EV

end
section
set_option Elab.async false
set_option linter.all false
set_option maxRecDepth 100000
set_option maxHeartbeats 4000000
namespace EV
open PySem
local macro_rules | `(tactic| walk_at "ev") => `(tactic| with_reducible first
  | refine f_cons ?_ | refine f_nil ?_ | refine f_asg ?_ | refine f_par ?_ | refine f_asgIx ?_ | refine f_expr ?_ | refine f_ret ?_ | refine f_ite ?_ | refine f_for ?_ | refine f_pass ?_ | refine f_brk ?_ | refine f_cont ?_
  | refine w_var (by with_unfolding_all rfl) ?_ | refine w_cI ?_ | refine w_cS ?_ | refine w_cN ?_ | refine w_cB ?_ | refine w_gI ?_ | refine w_bin ?_ | refine w_neg ?_ | refine w_not ?_ | refine w_cmp ?_ | refine w_chn ?_ | refine w_bool ?_ | refine w_bnil ?_ | refine w_if ?_
  | refine w_tup ?_ | refine w_lst ?_ | refine w_dic ?_ | refine w_idx ?_ | refine w_slc ?_ | refine w_bno ?_ | refine w_bso ?_ | refine w_rev ?_ | refine w_call ?_ | refine w_callK ?_ | refine w_bi ?_ | refine w_me ?_ | refine w_ist ?_ | refine w_comp ?_ | refine w_nil ?_ | refine w_cons ?_
  | refine w_seq ?_ | refine w_rng1 ?_ | refine w_rng2 ?_ | refine w_enum ?_ | refine w_zip ?_ | refine w_ono ?_ | refine w_oso ?_
  | refine bi_int ?_ | refine bi_abs ?_ | refine bi_lenT ?_ | refine bi_tupT ?_ | refine b_addI ?_ | refine b_subI ?_ | refine c_eqI ?_ | refine c_neI ?_ | refine c_ltI ?_ | refine c_leI ?_ | refine c_gtI ?_ | refine c_geI ?_ | refine e_bl ?_ | refine e_iI ?_ | refine e_set (by with_unfolding_all rfl) ?_)
def k01_fuel : Nat := 100000
abbrev Rn (n i : Nat) (vs : List Va) (S : Sto) : Res Va := run k01_D k01_anc k01_fuel n i vs S
def Bag (b c : Nat) (S : Sto) : Prop := ∃ cs x y, S[b]? = some (.lst [.ref c, .int x, .int y]) ∧ S[c]? = some (.lst (iV cs)) ∧ b ≠ c ∧ (∀ z ∈ cs, 0 ≤ z) ∧ 0 ≤ x ∧ cs.length ≤ 63
def Fr (b c : Nat) (S S' : Sto) : Prop := S.length ≤ S'.length ∧ ∀ i, i < S.length → i ≠ b → i ≠ c → S'[i]? = S[i]?
theorem Fr.refl {b c : Nat} {S : Sto} : Fr b c S S := ⟨Nat.le_refl _, fun _ _ _ _ => rfl⟩
theorem Fr.trans {b c : Nat} {S S1 S2 : Sto} (h : Fr b c S S1) (h2 : Fr b c S1 S2) : Fr b c S S2 := ⟨Nat.le_trans h.1 h2.1, fun i a b c => (h2.2 i (Nat.lt_of_lt_of_le a h.1) b c).trans (h.2 i a b c)⟩
theorem Fr.grow {b c : Nat} {S : Sto} (T : Sto) : Fr b c S (S ++ T) := ⟨by rw [List.length_append]; exact Nat.le_add_right _ _, fun i h _ _ => List.getElem?_append_left h⟩
theorem Fr.set {b c i : Nat} {S : Sto} {o : Ob} (h : i = b ∨ i = c) : Fr b c S (S.set i o) := ⟨by rw [List.length_set]; exact Nat.le_refl _, fun j _ h1 h2 => List.getElem?_set_ne (fun e => by rcases h with z | z <;> omega)⟩
theorem at_grow {S T : Sto} {i : Nat} {o : Ob} (h : S[i]? = some o) : (S ++ T)[i]? = some o := by
  rw [List.getElem?_append_left (List.getElem?_eq_some_iff.mp h).1]
  exact h
theorem at_end {S : Sto} {o : Ob} : (S ++ [o])[S.length]? = some o := by
  rw [List.getElem?_append_right (Nat.le_refl _), Nat.sub_self]
  rfl
theorem at_set {S : Sto} {i : Nat} {o u : Ob} (h : S[i]? = some u) : (S.set i o)[i]? = some o := List.getElem?_set_self (List.getElem?_eq_some_iff.mp h).1
theorem at_oth {S : Sto} {i j : Nat} {o u : Ob} (h : S[i]? = some u) (n : j ≠ i) : (S.set j o)[i]? = some u := by rw [List.getElem?_set_ne n]; exact h
theorem atI0 {x : Va} {r : List Va} : L2.atI (x :: r) 0 = some x := L2.atI_nat (j := 0) rfl
theorem atI1 {x y : Va} {r : List Va} : L2.atI (x :: y :: r) 1 = some y := L2.atI_nat (j := 1) rfl
theorem atI2 {x y z : Va} {r : List Va} : L2.atI (x :: y :: z :: r) 2 = some z := L2.atI_nat (j := 2) rfl
theorem w_draw (n : Nat) {below : Int} (hb : 0 < below) (h2 : below < 1073741824) {b c : Nat} {S : Sto} {P : Va → Sto → Prop} (B : Bag b c S) (q : ∀ f S', 0 ≤ f → f < below → Bag b c S' → Fr b c S S' → P (.int f) S') : Rw (Rn (n + 1) 14 [.ref b, .int below] S) P := by
  refine w_run (d := k01_14) rfl rfl ?_
  obtain ⟨cs, x, y, h1, h3, h4, h5, h6, h7⟩ := B
  refine f_cons (f_whil (m := cs.length) (fun m ρ S1 => ∃ o2 cs x y, m = cs.length ∧ ρ = [some (.ref b), some (.int below), o2, none] ∧ Fr b c S S1 ∧ S1[b]? = some (.lst [.ref c, .int x, .int y]) ∧ S1[c]? = some (.lst (iV cs)) ∧ (∀ z ∈ cs, 0 ≤ z) ∧ 0 ≤ x ∧ cs.length ≤ 63) ⟨none, cs, x, y, rfl, rfl, Fr.refl, h1, h3, h5, h6, h7⟩ (by show cs.length < 100000; omega) ?_)
  rintro m ρ S1 ⟨o2, cs, x, y, rfl, rfl, fr, h1, h3, h5, h6, h7⟩
  repeat walk_at "ev"
  refine ix_lst h1 atI1 ?_
  repeat walk_at "ev"
  -- what the loop leaves
  have leave : ∀ S2, Fr b c S S2 → S2[b]? = some (.lst [.ref c, .int x, .int y]) → S2[c]? = some (.lst (iV cs)) → Fw (evSs (Kr k01_D k01_anc k01_fuel n) none (match k01_14.body with | .cons _ r => r | _ => .nil) [some (.ref b), some (.int below), o2, none] S2) { nx := fun _ S => P .non S, rt := P, bk := fun _ _ => False, ct := fun _ _ => False } := fun S2 fr h1 h3 => by
    repeat walk_at "ev"
    refine ix_lst h1 atI1 ?_
    repeat walk_at "ev"
    refine ⟨fun e => ?_, fun e => ?_⟩
    · repeat walk_at "ev"
      refine ix_lst h1 atI1 ?_
      repeat walk_at "ev"
      with_reducible refine b_mod (by omega) ?_
      repeat walk_at "ev"
      refine ix_lst h1 atI1 ?_
      repeat walk_at "ev"
      with_reducible refine b_fdiv (by omega) (by omega) ?_
      repeat walk_at "ev"
      refine set_lst h1 (j := 1) rfl ?_
      repeat walk_at "ev"
      have f2 := fr.trans (Fr.set (b := b) (c := c) (i := b) (o := .lst [.ref c, .int (x.fdiv below), .int y]) (.inl rfl))
      exact q _ _ (Int.fmod_nonneg_of_pos x hb) (Int.fmod_lt_of_pos x hb) ⟨cs, x.fdiv below, y, at_set h1, at_oth h3 h4, h4, h5, Int.fdiv_nonneg h6 (Int.le_of_lt hb), h7⟩ f2
    · repeat walk_at "ev"
      refine ix_lst h1 atI2 ?_
      repeat walk_at "ev"
      with_reducible refine b_mul (.inr (by decide)) ?_
      repeat walk_at "ev"
      with_reducible refine b_mod (by decide) ?_
      repeat walk_at "ev"
      refine set_lst h1 (j := 2) rfl ?_
      repeat walk_at "ev"
      generalize hw : Int.fmod (y * 48271 + 11) 2147483647 = w
      have w0 : 0 ≤ w := by rw [← hw]; exact Int.fmod_nonneg_of_pos _ (by decide)
      have w1 : w < 2147483647 := by rw [← hw]; exact Int.fmod_lt_of_pos _ (by decide)
      have h1w : (S2.set b (.lst [.ref c, .int x, .int w]))[b]? = some (.lst [.ref c, .int x, .int w]) := at_set h1
      refine ix_lst h1w atI2 ?_
      repeat walk_at "ev"
      refine ix_lst h1w atI2 ?_
      with_reducible refine b_mul (.inl (by omega)) ?_
      repeat walk_at "ev"
      with_reducible refine b_mod (by decide) ?_
      repeat walk_at "ev"
      with_reducible refine b_fdiv (by decide) (by decide) ?_
      repeat walk_at "ev"
      with_reducible refine b_mod (by omega) ?_
      have f2 := fr.trans (Fr.set (b := b) (c := c) (i := b) (o := .lst [.ref c, .int x, .int w]) (.inl rfl))
      exact q _ _ (Int.fmod_nonneg_of_pos _ hb) (Int.fmod_lt_of_pos _ hb) ⟨cs, x, w, h1w, at_oth h3 h4, h4, h5, h6, h7⟩ f2
  refine w_and (fun e => ?_) (fun e => e_bl ⟨nofun, fun _ => leave S1 fr h1 h3⟩)
  repeat walk_at "ev"
  refine ix_lst h1 atI0 ?_
  repeat walk_at "ev"
  with_reducible refine w_newL (by decide) ?_
  have hE : (S1 ++ [Ob.lst []])[S1.length]? = some (.lst (iV [])) := at_end
  with_reducible refine c_neL (at_grow h3) hE ?_
  repeat walk_at "ev"
  refine ⟨fun e2 => ?_, fun e2 => leave _ (fr.trans (Fr.grow _)) (at_grow h1) (at_grow h3)⟩
  have hne : cs ≠ [] := by simpa using e2
  have h1' := at_grow (T := [.lst []]) h1
  have h3' := at_grow (T := [.lst []]) h3
  have fr' := fr.trans (Fr.grow (b := b) (c := c) [.lst []])
  generalize S1 ++ [.lst []] = S2 at h1' h3' fr'
  obtain ⟨cs0, z, rfl⟩ : ∃ cs0 z, cs = cs0 ++ [z] := ⟨cs.dropLast, cs.getLast hne, (List.dropLast_concat_getLast hne).symm⟩
  have hz : 0 ≤ z := h5 z (by simp)
  repeat walk_at "ev"
  refine ix_lst h1' atI0 ?_
  refine ⟨ty_lst h3' (by decide), ?_⟩
  repeat walk_at "ev"
  with_reducible refine mm_pop (xs := iV cs0) (y := .int z) (by rw [h3']; simp) ?_
  repeat walk_at "ev"
  with_reducible refine b_pow (by decide) (by decide) ?_
  repeat walk_at "ev"
  have fin : ∀ (o2 : Option Va) (w : Int), 0 ≤ w → Fr b c S ((S2.set c (.lst (iV cs0))).set b (.lst [.ref c, .int w, .int y])) ∧ ∃ m', m' < (cs0 ++ [z]).length ∧ ∃ o3 cs x y', m' = cs.length ∧ [some (.ref b), some (.int below), o2, none] = [some (.ref b), some (.int below), o3, none] ∧ Fr b c S ((S2.set c (.lst (iV cs0))).set b (.lst [.ref c, .int w, .int y])) ∧
      ((S2.set c (.lst (iV cs0))).set b (.lst [.ref c, .int w, .int y]))[b]? = some (.lst [.ref c, .int x, .int y']) ∧ ((S2.set c (.lst (iV cs0))).set b (.lst [.ref c, .int w, .int y]))[c]? = some (.lst (iV cs)) ∧ (∀ z ∈ cs, 0 ≤ z) ∧ 0 ≤ x ∧ cs.length ≤ 63 := fun o2 w hw => by
    have f2 := fr'.trans ((Fr.set (b := b) (c := c) (i := c) (o := .lst (iV cs0)) (.inr rfl)).trans (Fr.set (o := .lst [.ref c, .int w, .int y]) (.inl rfl)))
    refine ⟨f2, cs0.length, by simp, o2, cs0, w, y, rfl, rfl, f2, at_set (at_oth h1' h4.symm), at_oth (at_set h3') h4, fun v hv => h5 v (by simp [hv]), hw, by rw [List.length_append] at h7; omega⟩
  refine ⟨fun e3 => ?_, fun e3 => ?_⟩
  · repeat walk_at "ev"
    refine set_lst (at_oth h1' h4.symm) (j := 1) rfl ?_
    repeat walk_at "ev"
    exact (fin _ z hz).2
  · repeat walk_at "ev"
    refine set_lst (at_oth h1' h4.symm) (j := 1) rfl ?_
    repeat walk_at "ev"
    exact (fin _ 0 (by decide)).2
theorem w_own (n : Nat) {ns : List Int} (hl : ns.length ≤ 63) {S : Sto} {P : Va → Sto → Prop} (q : ∀ b c S', Bag b c S' → P (.ref b) S') : Rw (Rn (n + 1) 13 [.lis (iV ns)] S) P := by
  refine w_run (d := k01_13) rfl rfl ?_
  have hz : (iV ns).length ≤ sizeLine := by rw [List.length_map]; exact Nat.le_trans hl (by decide)
  repeat walk_at "ev"
  refine sl_lis (lo := none) (hi := some 63) hz ?_
  refine sw_ref at_end ?_
  generalize hxs : cut (iV ns) none (some 63) = xs
  have hxs' : xs = iV ns := by
    rw [← hxs, show (63 : Int) = ((63 : Nat) : Int) from rfl, cut_to, List.take_of_length_le (by rw [List.length_map]; exact hl)]
  subst hxs'
  refine w_mapv (fun x => match x with | .int i => some (.int (if i < 0 then -i else i)) | _ => none) (stay_one at_end) (fun x hx => ?_) ?_
  · obtain ⟨i, hi, rfl⟩ := List.mem_map.mp hx
    refine w_turn rfl ?_
    repeat walk_at "ev"
    refine .inl ⟨rfl, ?_⟩
    repeat walk_at "ev"
    exact ⟨rfl, rfl⟩
  · have e : (iV ns).filterMap (fun x => match x with | .int i => some (.int (if i < 0 then -i else i)) | _ => none) = iV (ns.map fun i => if i < 0 then -i else i) := by
      clear q hl hz hxs
      induction ns with
      | nil => rfl
      | cons a r ih =>
        show Va.int _ :: ((iV r).filterMap _) = _
        rw [ih]; rfl
    rw [e]
    have hpos : ∀ z ∈ ns.map (fun i : Int => if i < 0 then -i else i), 0 ≤ z := fun z hz => by
      obtain ⟨i, _, rfl⟩ := List.mem_map.mp hz
      show 0 ≤ if i < 0 then -i else i
      split <;> omega
    have hlen : (ns.map fun i : Int => if i < 0 then -i else i).length ≤ 63 := by rw [List.length_map]; exact hl
    generalize ns.map (fun i : Int => if i < 0 then -i else i) = ms at hpos hlen
    have hzm : (iV ms).length ≤ sizeLine := by rw [List.length_map]; exact Nat.le_trans hlen (by decide)
    generalize S ++ [.lst (iV ns)] = S1
    refine w_newL hzm ?_
    repeat walk_at "ev"
    refine bi_lenL at_end ?_
    repeat walk_at "ev"
    refine sw_ref at_end ?_
    refine f_turns (fun i ρ S2 => S2 = S1 ++ [.lst (iV ms)] ∧ ∃ o m, ρ = [some (.lis (iV ns)), some (.ref S1.length), o, some (.int m)]) ⟨rfl, _, _, rfl⟩ (fun i ρ S2 _ h => by rw [h.1]; exact stay_one at_end) (fun i x ρ S2 hx h => ?_) (fun ρ S2 h => ?_)
    · obtain ⟨rfl, o, m, rfl⟩ := h
      obtain ⟨v, hv, rfl⟩ := List.mem_map.mp (List.mem_of_getElem? hx)
      refine ⟨_, rfl, ?_⟩
      repeat walk_at "ev"
      with_reducible refine b_mul (.inr (by decide)) ?_
      repeat walk_at "ev"
      with_reducible refine b_mod (by decide) ?_
      repeat walk_at "ev"
      with_reducible refine b_mod (by decide) ?_
      repeat walk_at "ev"
      exact ⟨rfl, _, _, rfl⟩
    · obtain ⟨rfl, o, m, rfl⟩ := h
      repeat walk_at "ev"
      refine bi_lstL at_end hzm ?_
      repeat walk_at "ev"
      refine bi_revL at_end hzm ?_
      repeat walk_at "ev"
      refine w_newL (by show 3 ≤ sizeLine; decide) ?_
      refine q _ _ _ ⟨ms.reverse, 0, m, at_end, ?_, ?_, fun z h => hpos z (List.mem_reverse.mp h), by decide, by rw [List.length_reverse]; exact hlen⟩
      · exact (at_grow at_end).trans (by rw [iV, iV, List.map_reverse])
      · exact Nat.ne_of_gt (by simp)
end EV

end
section
set_option Elab.async false
set_option linter.all false
set_option maxRecDepth 100000
set_option maxHeartbeats 4000000
namespace EV
open PySem
local macro_rules | `(tactic| walk_at "ev") => `(tactic| with_reducible first
  | refine f_cons ?_ | refine f_nil ?_ | refine f_asg ?_ | refine f_par ?_ | refine f_asgIx ?_ | refine f_expr ?_ | refine f_ret ?_ | refine f_ite ?_ | refine f_for ?_ | refine f_pass ?_ | refine f_brk ?_ | refine f_cont ?_
  | refine w_var (by with_unfolding_all rfl) ?_ | refine w_cI ?_ | refine w_cS ?_ | refine w_cN ?_ | refine w_cB ?_ | refine w_gI ?_ | refine w_bin ?_ | refine w_neg ?_ | refine w_not ?_ | refine w_cmp ?_ | refine w_chn ?_ | refine w_bool ?_ | refine w_bnil ?_ | refine w_if ?_
  | refine w_tup ?_ | refine w_lst ?_ | refine w_dic ?_ | refine w_idx ?_ | refine w_slc ?_ | refine w_bno ?_ | refine w_bso ?_ | refine w_rev ?_ | refine w_call ?_ | refine w_callK ?_ | refine w_bi ?_ | refine w_me ?_ | refine w_ist ?_ | refine w_comp ?_ | refine w_nil ?_ | refine w_cons ?_
  | refine w_seq ?_ | refine w_rng1 ?_ | refine w_rng2 ?_ | refine w_enum ?_ | refine w_zip ?_ | refine w_ono ?_ | refine w_oso ?_
  | refine bi_int ?_ | refine bi_abs ?_ | refine bi_lenT ?_ | refine bi_tupT ?_ | refine b_addI ?_ | refine b_subI ?_ | refine c_eqI ?_ | refine c_neI ?_ | refine c_ltI ?_ | refine c_leI ?_ | refine c_gtI ?_ | refine c_geI ?_ | refine e_bl ?_ | refine e_iI ?_ | refine e_set (by with_unfolding_all rfl) ?_)
theorem fm_some {α β : Type} (g : α → β) : ∀ xs : List α, xs.filterMap (fun x => some (g x)) = xs.map g
  | [] => rfl
  | x :: xs => by rw [List.filterMap_cons, fm_some g xs]; rfl
theorem fm_if {α β : Type} (p : α → Bool) (g : α → β) : ∀ xs : List α, xs.filterMap (fun x => if p x then some (g x) else none) = (xs.filter p).map g
  | [] => rfl
  | x :: xs => by
    rw [List.filterMap_cons, fm_if p g xs, List.filter_cons]
    cases p x <;> rfl
def okV (S : Sto) : Va → Bool
  | .lis _ => false
  | .exc => false
  | .ref i => (S[i]?).isSome
  | _ => true
theorem okV_ty {S : Sto} {v : Va} (h : okV S v = true) (t : Ty) : ∃ b, isTy S v t = some b := by
  cases v with
  | lis _ => cases h
  | exc => cases h
  | ref i =>
    simp only [okV] at h
    cases hs : S[i]? with
    | none => rw [hs] at h; cases h
    | some o =>
      unfold isTy
      dsimp only
      rw [hs]
      cases o <;> exact ⟨_, rfl⟩
  | _ => exact ⟨_, rfl⟩
theorem okV_grow {S : Sto} {v : Va} (T : Sto) (h : okV S v = true) : okV (S ++ T) v = true := by
  cases v with
  | ref i =>
    simp only [okV] at h ⊢
    cases hs : S[i]? with
    | none => rw [hs] at h; cases h
    | some o => rw [at_grow hs]; rfl
  | _ => exact h
/-- an int that is no bool -/
def isI : Va → Bool
  | .int _ => true
  | _ => false
theorem w_isint (n : Nat) {v : Va} {S : Sto} {P : Va → Sto → Prop} (h : okV S v = true) (q : P (.bl (isI v)) S) : Rw (Rn (n + 1) 0 [v] S) P := by
  refine w_run (d := k01_0) rfl rfl ?_
  repeat walk_at "ev"
  obtain ⟨b, hb⟩ := okV_ty h .int
  obtain ⟨c, hc⟩ := okV_ty h .bool
  refine ⟨b, hb, ?_⟩
  refine e_bl (w_and (fun e => ?_) (fun e => ?_))
  · repeat walk_at "ev"
    refine ⟨c, hc, ?_⟩
    repeat walk_at "ev"
    have z : (!c) = isI v := by
      subst e
      cases v with
      | int i => cases hc; rfl
      | bl i => cases hc; rfl
      | ref i =>
        unfold isTy at hb
        dsimp only at hb
        split at hb <;> cases hb
      | _ => cases hb
    rw [z]
    exact q
  · have z : false = isI v := by
      subst e
      cases v with
      | int i => cases hb
      | _ => rfl
    rw [z]
    exact q
def okT (S : Sto) (v : Va) : Prop := okV S v = true ∧ ∀ xs, v = .tup xs → ∀ x ∈ xs, okV S x = true
def areI : Va → Bool
  | .tup xs => xs.all isI
  | _ => false
theorem ty_tup {S : Sto} {v : Va} (h : okV S v = true) : isTy S v .tup = some (match v with | .tup _ => true | _ => false) := by
  cases v with
  | lis _ => cases h
  | exc => cases h
  | ref i =>
    simp only [okV] at h
    cases hs : S[i]? with
    | none => rw [hs] at h; cases h
    | some o =>
      unfold isTy
      dsimp only
      rw [hs]
      cases o <;> rfl
  | _ => rfl
theorem w_areint (n : Nat) {v : Va} {S : Sto} {P : Va → Sto → Prop} (h : okT S v) (hz : ∀ xs, v = .tup xs → xs.length ≤ sizeLine) (q : ∀ T, P (.bl (areI v)) (S ++ T)) : Rw (Rn (n + 2) 1 [v] S) P := by
  refine w_run (d := k01_1) rfl rfl ?_
  repeat walk_at "ev"
  refine ⟨_, ty_tup h.1, ?_⟩
  refine e_bl (w_and (fun e => ?_) (fun e => ?_))
  · cases v with
    | tup xs =>
      have hi := h.2 xs rfl
      repeat walk_at "ev"
      refine sw_tup ?_
      refine w_mapv (fun x => some (.bl (isI x))) stay_nil (fun x hx => ?_) ?_
      · refine w_turn rfl ?_
        repeat walk_at "ev"
        refine .inl ⟨rfl, ?_⟩
        repeat walk_at "ev"
        exact w_isint n (hi x hx) ⟨rfl, rfl⟩
      · have e2 : xs.filterMap (fun x => some (Va.bl (isI x))) = (xs.map isI).map .bl := by
          rw [fm_some, List.map_map]; rfl
        rw [e2]
        refine w_newL (by rw [List.length_map, List.length_map]; exact hz xs rfl) ?_
        repeat walk_at "ev"
        refine bi_allL at_end ?_
        repeat walk_at "ev"
        have z := q [.lst ((xs.map isI).map .bl)]
        have e3 : (xs.map isI).all id = areI (.tup xs) := by simp [areI]
        rw [e3]
        exact z
    | _ => cases e
  · have z := q []
    rw [List.append_nil] at z
    have e3 : areI v = false := by cases v <;> first | rfl | cases e
    rw [e3] at z
    exact z
/-- the letters that are none, by place -/
def badL (k : Int) (xs : List Int) (i : Nat) : Bool := !(decide (0 ≤ xs.getD i 0) && decide (xs.getD i 0 < k))
def oddL (k : Int) (xs : List Int) : List Int := ((List.range xs.length).filter (badL k xs)).map Int.ofNat
def oddAt (k : Int) (xs : List Int) : Option Nat := (List.range xs.length).find? (badL k xs)
@[reducible] def optI : Option Nat → Va
  | none => .non
  | some i => .int (i : Nat)
theorem enumV_get {xs : List Int} {i : Nat} {x : Va} (h : (enumFrom 0 (iV xs))[i]? = some x) : i < xs.length ∧ x = .tup [.int (i : Nat), .int (xs.getD i 0)] := by
  obtain ⟨y, h1, h2⟩ := enum_get 0 h
  rw [List.getElem?_map] at h1
  cases hx : xs[i]? with
  | none => rw [hx] at h1; cases h1
  | some z =>
    rw [hx] at h1
    cases h1
    refine ⟨(List.getElem?_eq_some_iff.mp hx).1, ?_⟩
    rw [h2, Nat.zero_add]
    simp [List.getD, hx]
theorem w_odd (n : Nat) {k : Int} {xs : List Int} {S : Sto} {P : Va → Sto → Prop} (hz : xs.length ≤ sizeLine) (q : ∀ T, P (optI (oddAt k xs)) (S ++ T)) : Rw (Rn (n + 1) 2 [.int k, .tup (iV xs)] S) P := by
  refine w_run (d := k01_2) rfl rfl ?_
  repeat walk_at "ev"
  refine en_tup ?_
  refine w_map (fun i => if badL k xs i then some (.int (i : Nat)) else none) stay_nil (fun i x hx => ?_) ?_
  · obtain ⟨hi, rfl⟩ := enumV_get hx
    refine w_turn rfl ?_
    repeat walk_at "ev"
    refine ⟨fun e => ?_, fun e => ?_⟩
    · repeat walk_at "ev"
      refine .inr ⟨_, rfl, fun e2 => ?_, fun e2 => ?_⟩
      · repeat walk_at "ev"
        refine ⟨?_, rfl⟩
        rw [if_pos (by unfold badL; rw [e]; simpa using e2)]
      · refine ⟨?_, rfl⟩
        rw [if_neg (by unfold badL; rw [e]; simpa using e2)]
    · refine ⟨_, rfl, ?_⟩
      refine .inr ⟨_, rfl, fun e2 => ?_, fun e2 => ?_⟩
      · repeat walk_at "ev"
        refine ⟨?_, rfl⟩
        rw [if_pos (by unfold badL; rw [e]; rfl)]
      · cases e2
  · have e : (List.range (enumFrom 0 (iV xs)).length).filterMap (fun i => if badL k xs i then some (Va.int (i : Nat)) else none) = iV (oddL k xs) := by
      rw [enum_len, List.length_map]
      unfold oddL
      rw [fm_if, iV, List.map_map]
      rfl
    show Rw (newL ((List.range (enumFrom 0 (iV xs)).length).filterMap _) S) _
    rw [e]
    refine w_newL (by rw [List.length_map, oddL, List.length_map]; exact Nat.le_trans (List.length_filter_le _ _) (by rw [List.length_range]; exact hz)) ?_
    repeat walk_at "ev"
    refine w_newL (Nat.zero_le _) ?_
    have hE : (S ++ [Ob.lst (iV (oddL k xs))] ++ [Ob.lst []])[(S ++ [Ob.lst (iV (oddL k xs))]).length]? = some (.lst (iV [])) := at_end
    with_reducible refine c_neL (at_grow at_end) hE ?_
    have hq := q ([Ob.lst (iV (oddL k xs))] ++ [Ob.lst []])
    have hd : (oddL k xs).head? = (oddAt k xs).map Int.ofNat := by
      unfold oddL oddAt
      rw [List.head?_map, List.head?_filter]
    repeat walk_at "ev"
    refine ⟨fun e => ?_, fun e => ?_⟩
    · repeat walk_at "ev"
      cases ho : oddL k xs with
      | nil => rw [ho] at e; cases e
      | cons a r =>
        rw [ho] at hd hq
        cases hx : oddAt k xs with
        | none => rw [hx] at hd; cases hd
        | some i =>
          rw [hx] at hd hq
          cases hd
          refine ix_lst (at_grow at_end) atI0 ?_
          rw [← List.append_assoc] at hq
          exact hq
    · repeat walk_at "ev"
      have ho : oddL k xs = [] := by simpa using e
      rw [ho] at hd
      cases hx : oddAt k xs with
      | some i => rw [hx] at hd; cases hd
      | none =>
        rw [hx, ← List.append_assoc] at hq
        exact hq
end EV

end
section
set_option Elab.async false
set_option linter.all false
set_option maxRecDepth 100000
set_option maxHeartbeats 4000000
namespace EV
open PySem
local macro_rules | `(tactic| walk_at "ev") => `(tactic| with_reducible first
  | refine f_cons ?_ | refine f_nil ?_ | refine f_asg ?_ | refine f_par ?_ | refine f_asgIx ?_ | refine f_expr ?_ | refine f_ret ?_ | refine f_ite ?_ | refine f_for ?_ | refine f_pass ?_ | refine f_brk ?_ | refine f_cont ?_
  | refine w_var (by with_unfolding_all rfl) ?_ | refine w_cI ?_ | refine w_cS ?_ | refine w_cN ?_ | refine w_cB ?_ | refine w_gI ?_ | refine w_bin ?_ | refine w_neg ?_ | refine w_not ?_ | refine w_cmp ?_ | refine w_chn ?_ | refine w_bool ?_ | refine w_bnil ?_ | refine w_if ?_
  | refine w_tup ?_ | refine w_lst ?_ | refine w_dic ?_ | refine w_idx ?_ | refine w_slc ?_ | refine w_bno ?_ | refine w_bso ?_ | refine w_rev ?_ | refine w_call ?_ | refine w_callK ?_ | refine w_bi ?_ | refine w_me ?_ | refine w_ist ?_ | refine w_comp ?_ | refine w_nil ?_ | refine w_cons ?_
  | refine w_seq ?_ | refine w_rng1 ?_ | refine w_rng2 ?_ | refine w_enum ?_ | refine w_zip ?_ | refine w_ono ?_ | refine w_oso ?_
  | refine bi_int ?_ | refine bi_abs ?_ | refine bi_lenT ?_ | refine bi_tupT ?_ | refine b_addI ?_ | refine b_subI ?_ | refine c_eqI ?_ | refine c_neI ?_ | refine c_ltI ?_ | refine c_leI ?_ | refine c_gtI ?_ | refine c_geI ?_ | refine e_bl ?_ | refine e_iI ?_ | refine e_set (by with_unfolding_all rfl) ?_)
theorem isI_all : ∀ {vs : List Va}, vs.all isI = true → ∃ xs, vs = iV xs
  | [], _ => ⟨[], rfl⟩
  | v :: vs, h => by
    rw [List.all_cons, Bool.and_eq_true] at h
    obtain ⟨xs, rfl⟩ := isI_all h.2
    cases v with
    | int i => exact ⟨i :: xs, rfl⟩
    | _ => cases h.1
theorem areI_iV {v : Va} (h : areI v = true) : ∃ xs, v = .tup (iV xs) := by
  cases v with
  | tup vs =>
    obtain ⟨xs, rfl⟩ := isI_all h
    exact ⟨xs, rfl⟩
  | _ => cases h
theorem iV_areI (xs : List Int) : areI (.tup (iV xs)) = true := by
  show (iV xs).all isI = true
  rw [List.all_map]
  exact List.all_eq_true.mpr fun _ _ => rfl
def getI : Va → Option Int
  | .int i => some i
  | _ => none
def valI : Va → List Int
  | .tup vs => vs.filterMap getI
  | _ => []
theorem valI_iV (xs : List Int) : valI (.tup (iV xs)) = xs := by
  show (iV xs).filterMap getI = xs
  induction xs with
  | nil => rfl
  | cons x r ih =>
    show x :: (iV r).filterMap getI = _
    rw [ih]
@[reducible] def letE : Option Nat → Va
  | none => .non
  | some i => .tup [.str "letter", .int (i : Nat)]
def errW (k : Int) (v : Va) : Va := if areI v then (if 24 < (valI v).length then .str "long" else letE (oddAt k (valI v))) else .str "form"
def fallB (xs : List Int) (i : Nat) : Bool := decide (xs.getD (i + 1) 0 ≤ xs.getD i 0)
def fallAt (xs : List Int) : Option Nat := (List.range (xs.length - 1)).find? (fallB xs)
@[reducible] def fallE : Option Nat → Va
  | none => .non
  | some i => .tup [.str "order", .int (1 + (i : Nat))]
def errI (k : Int) (xs : List Int) : Va := if xs = [] then .str "none" else match oddAt k xs with
  | some i => letE (some i)
  | none => fallE (fallAt xs)
def errC (k : Int) (v : Va) : Va := if areI v then errI k (valI v) else .str "form"
theorem small_nat {n : Nat} (h : n ≤ sizeLine) : small62 (n : Int) = true := by
  have z : sizeLine < 2 ^ 62 := by decide
  unfold small62
  simp only [Bool.and_eq_true, decide_eq_true_eq]
  omega
theorem atI_iV {xs : List Int} {j : Nat} (h : j < xs.length) : L2.atI (iV xs) (j : Int) = some (.int (xs.getD j 0)) := by
  refine L2.atI_nat ?_
  rw [List.getElem?_map, List.getElem?_eq_getElem h]
  simp [List.getD, List.getElem?_eq_getElem h]
theorem w_we (n : Nat) {k : Int} {v : Va} {S : Sto} {P : Va → Sto → Prop} (h : okT S v) (hz : ∀ xs, v = .tup xs → xs.length ≤ sizeLine) (q : ∀ T, P (errW k v) (S ++ T)) : Rw (Rn (n + 3) 3 [.int k, v] S) P := by
  refine w_run (d := k01_3) rfl rfl ?_
  repeat walk_at "ev"
  refine w_areint n h hz fun T => ?_
  repeat walk_at "ev"
  refine ⟨fun e => ?_, fun e => ?_⟩
  · repeat walk_at "ev"
    have e' : areI v = false := by simpa using e
    have z := q T
    unfold errW at z
    rw [e', if_neg Bool.false_ne_true] at z
    exact z
  · have e' : areI v = true := by simpa using e
    obtain ⟨xs, rfl⟩ := areI_iV e'
    have hl : xs.length ≤ sizeLine := by have z := hz _ rfl; rw [List.length_map] at z; exact z
    have eW : errW k (.tup (iV xs)) = if 24 < xs.length then .str "long" else letE (oddAt k xs) := by
      unfold errW
      rw [if_pos e', valI_iV]
    rw [eW] at q
    repeat walk_at "ev"
    rw [List.length_map]
    refine ⟨fun e2 => ?_, fun e2 => ?_⟩
    · repeat walk_at "ev"
      have z := q T
      rw [if_pos (by have := of_decide_eq_true e2; omega)] at z
      exact z
    · repeat walk_at "ev"
      refine w_odd _ hl fun T2 => ?_
      have z := q (T ++ T2)
      rw [if_neg (by have := of_decide_eq_false e2; omega), ← List.append_assoc] at z
      cases ho : oddAt k xs with
      | none =>
        rw [ho] at z
        repeat walk_at "ev"
        refine ⟨_, rfl, ?_⟩
        repeat walk_at "ev"
        refine ⟨nofun, fun _ => ?_⟩
        repeat walk_at "ev"
        exact z
      | some i =>
        rw [ho] at z
        repeat walk_at "ev"
        refine ⟨_, rfl, ?_⟩
        repeat walk_at "ev"
        refine ⟨fun _ => ?_, nofun⟩
        repeat walk_at "ev"
        exact ⟨by show 2 ≤ sizeLine; decide, z⟩
end EV

end
section
set_option Elab.async false
set_option linter.all false
set_option maxRecDepth 100000
set_option maxHeartbeats 4000000
namespace EV
open PySem
local macro_rules | `(tactic| walk_at "ev") => `(tactic| with_reducible first
  | refine f_cons ?_ | refine f_nil ?_ | refine f_asg ?_ | refine f_par ?_ | refine f_asgIx ?_ | refine f_expr ?_ | refine f_ret ?_ | refine f_ite ?_ | refine f_for ?_ | refine f_pass ?_ | refine f_brk ?_ | refine f_cont ?_
  | refine w_var (by with_unfolding_all rfl) ?_ | refine w_cI ?_ | refine w_cS ?_ | refine w_cN ?_ | refine w_cB ?_ | refine w_gI ?_ | refine w_bin ?_ | refine w_neg ?_ | refine w_not ?_ | refine w_cmp ?_ | refine w_chn ?_ | refine w_bool ?_ | refine w_bnil ?_ | refine w_if ?_
  | refine w_tup ?_ | refine w_lst ?_ | refine w_dic ?_ | refine w_idx ?_ | refine w_slc ?_ | refine w_bno ?_ | refine w_bso ?_ | refine w_rev ?_ | refine w_call ?_ | refine w_callK ?_ | refine w_bi ?_ | refine w_me ?_ | refine w_ist ?_ | refine w_comp ?_ | refine w_nil ?_ | refine w_cons ?_
  | refine w_seq ?_ | refine w_rng1 ?_ | refine w_rng2 ?_ | refine w_enum ?_ | refine w_zip ?_ | refine w_ono ?_ | refine w_oso ?_
  | refine bi_int ?_ | refine bi_abs ?_ | refine bi_lenT ?_ | refine bi_tupT ?_ | refine b_addI ?_ | refine b_subI ?_ | refine c_eqI ?_ | refine c_neI ?_ | refine c_ltI ?_ | refine c_leI ?_ | refine c_gtI ?_ | refine c_geI ?_ | refine e_bl ?_ | refine e_iI ?_ | refine e_set (by with_unfolding_all rfl) ?_
  | refine pick_t ?_ | refine pick_f ?_ | refine is_int ?_ | refine is_non ?_ | refine is_tup ?_ | refine is_str ?_ | refine isn_int ?_ | refine isn_non ?_ | refine isn_tup ?_ | refine ist_tup ?_ | refine ist_tupS ?_ | refine ist_strS ?_ | refine ist_strT ?_ | refine ist_intI ?_ | refine ist_intB ?_ | refine ist_intT ?_
  | refine w_andT ?_ | refine w_andF ?_ | refine w_orF ?_ | refine w_orT ?_)
theorem rng_get {lo hi : Int} {i : Nat} {x : Va} (h : ((List.range (hi - lo).toNat).map fun i => Va.int (lo + (i : Nat)))[i]? = some x) : i < (hi - lo).toNat ∧ x = .int (lo + (i : Nat)) := by
  rw [List.getElem?_map] at h
  cases hx : (List.range (hi - lo).toNat)[i]? with
  | none => rw [hx] at h; cases h
  | some z =>
    have hlt := (List.getElem?_eq_some_iff.mp hx).1
    rw [List.length_range] at hlt
    rw [List.getElem?_range hlt] at hx
    cases hx
    rw [List.getElem?_range hlt] at h
    cases h
    exact ⟨hlt, rfl⟩
theorem head_find {n : Nat} {p : Nat → Bool} (f : Nat → Int) : (((List.range n).filter p).map f).head? = ((List.range n).find? p).map f := by rw [List.head?_map, List.head?_filter]
def fallL (xs : List Int) : List Int := ((List.range (xs.length - 1)).filter (fallB xs)).map fun i => 1 + (i : Nat)
theorem w_ce (n : Nat) {k : Int} {v : Va} {S : Sto} {P : Va → Sto → Prop} (h : okT S v) (hz : ∀ xs, v = .tup xs → xs.length ≤ sizeLine) (q : ∀ T, P (errC k v) (S ++ T)) : Rw (Rn (n + 3) 4 [.int k, v] S) P := by
  refine w_run (d := k01_4) rfl rfl ?_
  repeat walk_at "ev"
  refine w_areint n h hz fun T => ?_
  repeat walk_at "ev"
  refine ⟨fun e => ?_, fun e => ?_⟩
  · repeat walk_at "ev"
    have e' : areI v = false := by simpa using e
    have z := q T
    unfold errC at z
    rw [e', if_neg Bool.false_ne_true] at z
    exact z
  · have e' : areI v = true := by simpa using e
    obtain ⟨xs, rfl⟩ := areI_iV e'
    have hl : xs.length ≤ sizeLine := by have z := hz _ rfl; rw [List.length_map] at z; exact z
    have eW : errC k (.tup (iV xs)) = errI k xs := by
      unfold errC
      rw [if_pos e', valI_iV]
    rw [eW] at q
    unfold errI at q
    repeat walk_at "ev"
    refine ⟨Nat.zero_le _, ?_⟩
    refine c_eqT (ns := xs) (ms := []) ?_
    repeat walk_at "ev"
    refine ⟨fun e2 => ?_, fun e2 => ?_⟩
    · repeat walk_at "ev"
      have z := q T
      rw [if_pos (of_decide_eq_true e2)] at z
      exact z
    · repeat walk_at "ev"
      refine w_odd _ hl fun T2 => ?_
      rw [if_neg (of_decide_eq_false e2)] at q
      have z := fun T3 => q (T ++ (T2 ++ T3))
      replace z : ∀ T3, P (match oddAt k xs with
        | some i => letE (some i)
        | none => fallE (fallAt xs)) (S ++ T ++ T2 ++ T3) := fun T3 => by
        have y := z T3
        rw [← List.append_assoc, ← List.append_assoc] at y
        exact y
      cases ho : oddAt k xs with
      | some i =>
        rw [ho] at z
        repeat walk_at "ev"
        refine ⟨by show 2 ≤ sizeLine; decide, ?_⟩
        have z0 := z []
        rw [List.append_nil] at z0
        exact z0
      | none =>
        rw [ho] at z
        generalize S ++ T ++ T2 = S2 at z ⊢
        repeat walk_at "ev"
        refine ⟨_, _, rfl, rfl, by rw [List.length_map, small_nat hl]; rfl, ?_⟩
        have hn : ((((iV xs).length : Nat) : Int) - 1).toNat = xs.length - 1 := by rw [List.length_map]; omega
        refine w_map (fun i => if fallB xs i then some (.int (1 + (i : Nat))) else none) stay_nil (fun i x hx => ?_) ?_
        · obtain ⟨hi, rfl⟩ := rng_get hx
          rw [hn] at hi
          have e1 : (1 + (i : Nat) : Int) = ((i + 1 : Nat) : Int) := by omega
          have e2 : (1 + (i : Nat) : Int) - 1 = ((i : Nat) : Int) := by omega
          refine w_turn rfl ?_
          repeat walk_at "ev"
          refine ix_tup (by rw [e1]; exact atI_iV (by omega)) ?_
          repeat walk_at "ev"
          refine ix_tup (by rw [e2]; exact atI_iV (by omega)) ?_
          repeat walk_at "ev"
          refine .inr ⟨_, rfl, fun e3 => ?_, fun e3 => ?_⟩
          · repeat walk_at "ev"
            refine ⟨?_, rfl⟩
            rw [if_pos (show fallB xs i = true from e3)]
          · refine ⟨?_, rfl⟩
            rw [if_neg (by rw [show fallB xs i = false from e3]; exact Bool.false_ne_true)]
        · have e : (List.range (rangeW 1 ((iV xs).length : Nat)).items.length).filterMap (fun i => if fallB xs i then some (Va.int (1 + (i : Nat))) else none) = iV (fallL xs) := by
            unfold rangeW fallL
            rw [List.length_map, List.length_range, hn, fm_if, iV, List.map_map]
            rfl
          rw [e]
          refine w_newL (by rw [List.length_map, fallL, List.length_map]; exact Nat.le_trans (List.length_filter_le _ _) (by rw [List.length_range]; omega)) ?_
          repeat walk_at "ev"
          refine w_newL (Nat.zero_le _) ?_
          have hE : (S2 ++ [Ob.lst (iV (fallL xs))] ++ [Ob.lst []])[(S2 ++ [Ob.lst (iV (fallL xs))]).length]? = some (.lst (iV [])) := at_end
          with_reducible refine c_neL (at_grow at_end) hE ?_
          have hq := z ([Ob.lst (iV (fallL xs))] ++ [Ob.lst []])
          have hd : (fallL xs).head? = (fallAt xs).map (fun i : Nat => (1 + (i : Int))) := head_find _
          repeat walk_at "ev"
          refine ⟨fun e => ?_, fun e => ?_⟩
          · repeat walk_at "ev"
            cases hf : fallL xs with
            | nil => rw [hf] at e; cases e
            | cons a r =>
              rw [hf] at hd hq
              cases hx : fallAt xs with
              | none => rw [hx] at hd; cases hd
              | some i =>
                rw [hx] at hd hq
                cases hd
                refine ix_lst (at_grow at_end) atI0 ?_
                repeat walk_at "ev"
                rw [← List.append_assoc] at hq
                exact ⟨by show 2 ≤ sizeLine; decide, hq⟩
          · repeat walk_at "ev"
            have hf : fallL xs = [] := by simpa using e
            rw [hf] at hd
            cases hx : fallAt xs with
            | some i => rw [hx] at hd; cases hd
            | none =>
              rw [hx, ← List.append_assoc] at hq
              exact hq
end EV

end
section
set_option Elab.async false
set_option linter.all false
set_option maxRecDepth 100000
set_option maxHeartbeats 4000000
namespace EV
open PySem
local macro_rules | `(tactic| walk_at "ev") => `(tactic| with_reducible first
  | refine f_cons ?_ | refine f_nil ?_ | refine f_asg ?_ | refine f_par ?_ | refine f_asgIx ?_ | refine f_expr ?_ | refine f_ret ?_ | refine f_ite ?_ | refine f_for ?_ | refine f_pass ?_ | refine f_brk ?_ | refine f_cont ?_
  | refine w_var (by with_unfolding_all rfl) ?_ | refine w_cI ?_ | refine w_cS ?_ | refine w_cN ?_ | refine w_cB ?_ | refine w_gI ?_ | refine w_bin ?_ | refine w_neg ?_ | refine w_not ?_ | refine w_cmp ?_ | refine w_chn ?_ | refine w_bool ?_ | refine w_bnil ?_ | refine w_if ?_
  | refine w_tup ?_ | refine w_lst ?_ | refine w_dic ?_ | refine w_idx ?_ | refine w_slc ?_ | refine w_bno ?_ | refine w_bso ?_ | refine w_rev ?_ | refine w_call ?_ | refine w_callK ?_ | refine w_bi ?_ | refine w_me ?_ | refine w_ist ?_ | refine w_comp ?_ | refine w_nil ?_ | refine w_cons ?_
  | refine w_seq ?_ | refine w_rng1 ?_ | refine w_rng2 ?_ | refine w_enum ?_ | refine w_zip ?_ | refine w_ono ?_ | refine w_oso ?_
  | refine bi_int ?_ | refine bi_abs ?_ | refine bi_lenT ?_ | refine bi_tupT ?_ | refine b_addI ?_ | refine b_subI ?_ | refine c_eqI ?_ | refine c_neI ?_ | refine c_ltI ?_ | refine c_leI ?_ | refine c_gtI ?_ | refine c_geI ?_ | refine e_bl ?_ | refine e_iI ?_ | refine e_set (by with_unfolding_all rfl) ?_
  | refine pick_t ?_ | refine pick_f ?_ | refine is_int ?_ | refine is_non ?_ | refine is_tup ?_ | refine is_str ?_ | refine isn_int ?_ | refine isn_non ?_ | refine isn_tup ?_ | refine ist_tup ?_ | refine ist_tupS ?_ | refine ist_strS ?_ | refine ist_strT ?_ | refine ist_intI ?_ | refine ist_intB ?_ | refine ist_intT ?_
  | refine w_andT ?_ | refine w_andF ?_ | refine w_orF ?_ | refine w_orT ?_)
theorem e_rng {i j : Int} {Q : Int → Int → Prop} (h : (small62 i && small62 j) = true) (q : Q i j) : ∃ i' j', Va.int i = .int i' ∧ Va.int j = .int j' ∧ (small62 i' && small62 j') = true ∧ Q i' j' := ⟨i, j, rfl, rfl, h, q⟩
theorem e_rng1 {i : Int} {Q : Int → Prop} (h : small62 i = true) (q : Q i) : ∃ i', Va.int i = .int i' ∧ small62 i' = true ∧ Q i' := ⟨i, rfl, h, q⟩
theorem find_some {n : Nat} {p : Nat → Bool} {i : Nat} (hi : i < n) (hp : p i = true) (h : ∀ j, j < i → p j = false) : (List.range n).find? p = some i := by
  rw [List.find?_range_eq_some]
  exact ⟨hp, List.mem_range.mpr hi, fun j hj => by rw [h j hj]; rfl⟩
theorem find_none {n : Nat} {p : Nat → Bool} (h : ∀ j, j < n → p j = false) : (List.range n).find? p = none := by
  rw [List.find?_range_eq_none]
  exact fun j hj => by rw [h j hj]; rfl
theorem w_bad (n : Nat) {k : Int} {xs : List Int} {S : Sto} {P : Va → Sto → Prop} (q : P (optI (oddAt k xs)) S) : Rw (Rn (n + 1) 22 [.int k, .tup (iV xs)] S) P := by
  refine w_run (d := k01_22) rfl rfl ?_
  repeat walk_at "ev"
  refine en_tup ?_
  refine f_turns (fun i ρ S2 => S2 = S ∧ (∃ o p, ρ = [some (.int k), some (.tup (iV xs)), o, p]) ∧ ∀ j, j < i → badL k xs j = false) ⟨rfl, ⟨_, _, rfl⟩, fun j h => absurd h (Nat.not_lt_zero j)⟩ (fun i ρ S2 _ h => by rw [h.1]; exact stay_nil) (fun i x ρ S2 hx h => ?_) (fun ρ S2 h => ?_)
  · obtain ⟨rfl, ⟨o, p, rfl⟩, hb⟩ := h
    obtain ⟨hi, rfl⟩ := enumV_get hx
    refine ⟨_, rfl, ?_⟩
    have yes : badL k xs i = true → P (.int (i : Nat)) S2 := fun hB => by
      have z := q
      unfold oddAt at z
      rw [find_some hi hB hb] at z
      exact z
    have no : badL k xs i = false → S2 = S2 ∧ (∃ o' p', [some (Va.int k), some (.tup (iV xs)), some (Va.int (i : Nat)), some (Va.int (xs.getD i 0))] = [some (Va.int k), some (.tup (iV xs)), o', p']) ∧ ∀ j, j < i + 1 → badL k xs j = false := fun hB => ⟨rfl, ⟨_, _, rfl⟩, fun j hj => by
      rcases Nat.lt_succ_iff_lt_or_eq.mp hj with z | z
      · exact hb j z
      · rw [z]; exact hB⟩
    repeat walk_at "ev"
    refine w_or (fun e => ?_) (fun e => ?_)
    · repeat walk_at "ev"
      refine ⟨fun e2 => ?_, fun e2 => ?_⟩
      · repeat walk_at "ev"
        refine yes ?_
        have z := of_decide_eq_true e2
        unfold badL
        rw [decide_eq_false (show ¬ xs.getD i 0 < k by omega), Bool.and_false]; rfl
      · repeat walk_at "ev"
        refine no ?_
        have z := of_decide_eq_false e2
        have z1 := of_decide_eq_false e
        unfold badL
        rw [decide_eq_true (show 0 ≤ xs.getD i 0 by omega), decide_eq_true (show xs.getD i 0 < k by omega)]; rfl
    · repeat walk_at "ev"
      refine yes ?_
      have z1 := of_decide_eq_true e
      unfold badL
      rw [decide_eq_false (show ¬ 0 ≤ xs.getD i 0 by omega)]; rfl
  · obtain ⟨rfl, ⟨o, p, rfl⟩, hb⟩ := h
    repeat walk_at "ev"
    have z := q
    unfold oddAt at z
    rw [find_none (fun j hj => hb j (by rw [enum_len, List.length_map]; exact hj))] at z
    exact z
@[reducible] def ordI : Option Nat → Va
  | none => .non
  | some i => .int (1 + (i : Nat))
theorem w_ord (n : Nat) {xs : List Int} {S : Sto} {P : Va → Sto → Prop} (hl : xs.length ≤ sizeLine) (q : P (ordI (fallAt xs)) S) : Rw (Rn (n + 1) 23 [.tup (iV xs)] S) P := by
  refine w_run (d := k01_23) rfl rfl ?_
  repeat walk_at "ev"
  refine e_rng (i := 1) (j := ((iV xs).length : Nat)) (by rw [List.length_map, small_nat hl]; rfl) ?_
  have hn : ((((iV xs).length : Nat) : Int) - 1).toNat = xs.length - 1 := by rw [List.length_map]; omega
  refine f_turns (fun i ρ S2 => S2 = S ∧ (∃ o, ρ = [some (.tup (iV xs)), o]) ∧ ∀ j, j < i → fallB xs j = false) ⟨rfl, ⟨_, rfl⟩, fun j h => absurd h (Nat.not_lt_zero j)⟩ (fun i ρ S2 _ h => by rw [h.1]; exact stay_nil) (fun i x ρ S2 hx h => ?_) (fun ρ S2 h => ?_)
  · obtain ⟨rfl, ⟨o, rfl⟩, hb⟩ := h
    obtain ⟨hi, rfl⟩ := rng_get hx
    rw [hn] at hi
    have e1 : (1 + (i : Nat) : Int) = ((i + 1 : Nat) : Int) := by omega
    have e2 : (1 + (i : Nat) : Int) - 1 = ((i : Nat) : Int) := by omega
    refine ⟨_, rfl, ?_⟩
    repeat walk_at "ev"
    refine ix_tup (by rw [e1]; exact atI_iV (by omega)) ?_
    repeat walk_at "ev"
    refine ix_tup (by rw [e2]; exact atI_iV (by omega)) ?_
    repeat walk_at "ev"
    refine ⟨fun e3 => ?_, fun e3 => ?_⟩
    · repeat walk_at "ev"
      have z := q
      unfold fallAt at z
      rw [find_some hi (show fallB xs i = true from e3) hb] at z
      exact z
    · repeat walk_at "ev"
      exact ⟨rfl, ⟨_, rfl⟩, fun j hj => by
        rcases Nat.lt_succ_iff_lt_or_eq.mp hj with z | z
        · exact hb j z
        · rw [z]; exact e3⟩
  · obtain ⟨rfl, ⟨o, rfl⟩, hb⟩ := h
    repeat walk_at "ev"
    have z := q
    unfold fallAt at z
    rw [find_none (fun j hj => hb j (by unfold rangeW; rw [List.length_map, List.length_range, hn]; exact hj))] at z
    exact z
end EV

end
section
set_option Elab.async false
set_option linter.all false
set_option maxRecDepth 100000
set_option maxHeartbeats 4000000
namespace EV
open PySem
local macro_rules | `(tactic| walk_at "ev") => `(tactic| with_reducible first
  | refine f_cons ?_ | refine f_nil ?_ | refine f_asg ?_ | refine f_par ?_ | refine f_asgIx ?_ | refine f_expr ?_ | refine f_ret ?_ | refine f_ite ?_ | refine f_for ?_ | refine f_pass ?_ | refine f_brk ?_ | refine f_cont ?_
  | refine w_var (by with_unfolding_all rfl) ?_ | refine w_cI ?_ | refine w_cS ?_ | refine w_cN ?_ | refine w_cB ?_ | refine w_gI ?_ | refine w_bin ?_ | refine w_neg ?_ | refine w_not ?_ | refine w_cmp ?_ | refine w_chn ?_ | refine w_bool ?_ | refine w_bnil ?_ | refine w_if ?_
  | refine w_tup ?_ | refine w_lst ?_ | refine w_dic ?_ | refine w_idx ?_ | refine w_slc ?_ | refine w_bno ?_ | refine w_bso ?_ | refine w_rev ?_ | refine w_call ?_ | refine w_callK ?_ | refine w_bi ?_ | refine w_me ?_ | refine w_ist ?_ | refine w_comp ?_ | refine w_nil ?_ | refine w_cons ?_
  | refine w_seq ?_ | refine w_rng1 ?_ | refine w_rng2 ?_ | refine w_enum ?_ | refine w_zip ?_ | refine w_ono ?_ | refine w_oso ?_
  | refine bi_int ?_ | refine bi_abs ?_ | refine bi_lenT ?_ | refine bi_tupT ?_ | refine b_addI ?_ | refine b_subI ?_ | refine c_eqI ?_ | refine c_neI ?_ | refine c_ltI ?_ | refine c_leI ?_ | refine c_gtI ?_ | refine c_geI ?_ | refine e_bl ?_ | refine e_iI ?_ | refine e_set (by with_unfolding_all rfl) ?_
  | refine pick_t ?_ | refine pick_f ?_ | refine is_int ?_ | refine is_non ?_ | refine is_tup ?_ | refine is_str ?_ | refine isn_int ?_ | refine isn_non ?_ | refine isn_tup ?_ | refine ist_tup ?_ | refine ist_tupS ?_ | refine ist_strS ?_ | refine ist_strT ?_ | refine ist_intI ?_ | refine ist_intB ?_ | refine ist_intT ?_
  | refine w_andT ?_ | refine w_andF ?_ | refine w_orF ?_ | refine w_orT ?_)
theorem c_eqSS {S : Sto} {x : Str} {Q : Bool → Prop} (q : Q true) : ∃ c, cmpOp .Eq (.str x) (.str x) S = some c ∧ Q c := ⟨true, by show some (decide (L2.V.str x = L2.V.str x)) = some true; simp, q⟩
theorem c_neSS {S : Sto} {x : Str} {Q : Bool → Prop} (q : Q false) : ∃ c, cmpOp .NotEq (.str x) (.str x) S = some c ∧ Q c := ⟨false, by show Option.map (!·) (some (decide (L2.V.str x = L2.V.str x))) = some false; simp, q⟩
inductive IsE : Va → Prop where
  | non : IsE .non
  | str (x : Str) : IsE (.str x)
  | pair (x : Str) (i : Int) : IsE (.tup [.str x, .int i])
theorem w_iserr (n : Nat) {e : Va} (h : IsE e) {S : Sto} {P : Va → Sto → Prop} (q : P (.bl true) S) : Rw (Rn (n + 1) 18 [e, e] S) P := by
  refine w_run (d := k01_18) rfl rfl ?_
  cases h with
  | non =>
    repeat walk_at "ev"
    exact q
  | str x =>
    repeat walk_at "ev"
    refine c_eqSS ?_
    repeat walk_at "ev"
    exact q
  | pair x i =>
    repeat walk_at "ev"
    refine w_or (fun _ => ?_) (fun z => Bool.noConfusion z)
    repeat walk_at "ev"
    refine w_or (fun _ => ?_) (fun z => absurd z (by show ¬ (!decide (((2 : Nat) : Int) = 2)) = true; decide))
    repeat walk_at "ev"
    refine ix_tup atI0 ?_
    repeat walk_at "ev"
    refine w_or (fun _ => ?_) (fun z => Bool.noConfusion z)
    repeat walk_at "ev"
    refine ix_tup atI0 ?_
    repeat walk_at "ev"
    refine ix_tup atI0 ?_
    refine c_neSS ?_
    repeat walk_at "ev"
    refine ix_tup atI1 ?_
    repeat walk_at "ev"
    refine ix_tup atI1 ?_
    repeat walk_at "ev"
    refine w_and (fun _ => ?_) (fun z => Bool.noConfusion z)
    repeat walk_at "ev"
    refine ix_tup atI1 ?_
    repeat walk_at "ev"
    refine ix_tup atI1 ?_
    repeat walk_at "ev"
    rw [decide_eq_true (rfl : i = i)]
    exact q
theorem isE_letE : ∀ o, IsE (letE o)
  | none => .non
  | some i => .pair _ _
theorem isE_fallE : ∀ o, IsE (fallE o)
  | none => .non
  | some i => .pair _ _
theorem isE_errW (k : Int) (v : Va) : IsE (errW k v) := by
  unfold errW
  split
  · split
    · exact .str _
    · exact isE_letE _
  · exact .str _
theorem isE_errC (k : Int) (v : Va) : IsE (errC k v) := by
  unfold errC
  split
  · unfold errI
    split
    · exact .str _
    · split
      · exact isE_letE _
      · exact isE_fallE _
  · exact .str _
end EV

end
section
set_option Elab.async false
set_option linter.all false
set_option maxRecDepth 100000
set_option maxHeartbeats 4000000
namespace EV
open PySem
local macro_rules | `(tactic| walk_at "ev") => `(tactic| with_reducible first
  | refine f_cons ?_ | refine f_nil ?_ | refine f_asg ?_ | refine f_par ?_ | refine f_asgIx ?_ | refine f_expr ?_ | refine f_ret ?_ | refine f_ite ?_ | refine f_for ?_ | refine f_pass ?_ | refine f_brk ?_ | refine f_cont ?_
  | refine w_var (by with_unfolding_all rfl) ?_ | refine w_cI ?_ | refine w_cS ?_ | refine w_cN ?_ | refine w_cB ?_ | refine w_gI ?_ | refine w_bin ?_ | refine w_neg ?_ | refine w_not ?_ | refine w_cmp ?_ | refine w_chn ?_ | refine w_bool ?_ | refine w_bnil ?_ | refine w_if ?_
  | refine w_tup ?_ | refine w_lst ?_ | refine w_dic ?_ | refine w_idx ?_ | refine w_slc ?_ | refine w_bno ?_ | refine w_bso ?_ | refine w_rev ?_ | refine w_call ?_ | refine w_callK ?_ | refine w_bi ?_ | refine w_me ?_ | refine w_ist ?_ | refine w_comp ?_ | refine w_nil ?_ | refine w_cons ?_
  | refine w_seq ?_ | refine w_rng1 ?_ | refine w_rng2 ?_ | refine w_enum ?_ | refine w_zip ?_ | refine w_ono ?_ | refine w_oso ?_
  | refine bi_int ?_ | refine bi_abs ?_ | refine bi_lenT ?_ | refine bi_tupT ?_ | refine b_addI ?_ | refine b_subI ?_ | refine c_eqI ?_ | refine c_neI ?_ | refine c_ltI ?_ | refine c_leI ?_ | refine c_gtI ?_ | refine c_geI ?_ | refine e_bl ?_ | refine e_iI ?_ | refine e_set (by with_unfolding_all rfl) ?_
  | refine pick_t ?_ | refine pick_f ?_ | refine is_int ?_ | refine is_non ?_ | refine is_tup ?_ | refine is_str ?_ | refine isn_int ?_ | refine isn_non ?_ | refine isn_tup ?_ | refine ist_tup ?_ | refine ist_tupS ?_ | refine ist_strS ?_ | refine ist_strT ?_ | refine ist_intI ?_ | refine ist_intB ?_ | refine ist_intT ?_
  | refine w_andT ?_ | refine w_andF ?_ | refine w_orF ?_ | refine w_orT ?_)
theorem w_isi (n : Nat) {v : Va} {S : Sto} {C : Kx} {ρ : Env} {i : Nat} {P : Va → Sto → Prop} (hv : ρ[i]? = some (some v)) (h : okV S v = true) (q : P (.bl (isI v)) S) :
    Rw (evE C none (.bool true (.ist (.var i) [.int]) (.cons (.not (.ist (.var i) [.bool])) .nil)) ρ S) P := by
  obtain ⟨b, hb⟩ := okV_ty h .int
  obtain ⟨c, hc⟩ := okV_ty h .bool
  refine w_bool (w_ist (w_var hv ⟨b, hb, ?_⟩))
  refine e_bl (w_and (fun e => ?_) (fun e => ?_))
  · refine w_not (w_ist (w_var hv ⟨c, hc, ?_⟩))
    refine e_bl (e_bl (w_bnil ?_))
    have z : (!c) = isI v := by
      subst e
      cases v with
      | int i => cases hc; rfl
      | bl i => cases hc; rfl
      | ref i =>
        unfold isTy at hb
        dsimp only at hb
        split at hb <;> cases hb
      | _ => cases hb
    rw [z]
    exact q
  · have z : false = isI v := by
      subst e
      cases v with
      | int i => cases hb
      | _ => rfl
    rw [z]
    exact q
theorem w_dues (n : Nat) {k : Int} {v : Va} {S : Sto} {P : Va → Sto → Prop} (h : okT S v) (hz : ∀ xs, v = .tup xs → xs.length ≤ sizeLine) (q : ∀ T r, (S ++ T)[r]? = some (.lst [errW k v, errC k v]) → P (.ref r) (S ++ T)) : Rw (Rn (n + 2) 24 [.int k, v] S) P := by
  refine w_run (d := k01_24) rfl rfl ?_
  have form : areI v = false → ∀ T, P (.ref (S ++ T).length) (S ++ T ++ [.lst [.str "form", .str "form"]]) := fun e T => by
    have z := q (T ++ [.lst [.str "form", .str "form"]]) (S ++ T).length
    unfold errW errC at z
    rw [e, if_neg Bool.false_ne_true, if_neg Bool.false_ne_true, ← List.append_assoc] at z
    exact z at_end
  repeat walk_at "ev"
  refine ⟨_, ty_tup h.1, ?_⟩
  repeat walk_at "ev"
  refine ⟨fun e => ?_, fun e => ?_⟩
  · repeat walk_at "ev"
    refine w_newL (by show 2 ≤ sizeLine; decide) ?_
    have z := form (by cases v <;> first | rfl | cases e) []
    rw [List.append_nil] at z
    exact z
  · obtain ⟨vs, rfl⟩ : ∃ vs, v = .tup vs := by
      cases v with
      | tup vs => exact ⟨vs, rfl⟩
      | _ => cases e
    have hvs := hz vs rfl
    repeat walk_at "ev"
    refine sw_tup ?_
    refine w_mapv (fun x => some (.bl (isI x))) stay_nil (fun x hx => ?_) ?_
    · refine w_turn rfl ?_
      repeat walk_at "ev"
      refine .inl ⟨rfl, ?_⟩
      exact w_isi n rfl (h.2 vs rfl x hx) ⟨rfl, rfl⟩
    · have e2 : vs.filterMap (fun x => some (Va.bl (isI x))) = (vs.map isI).map .bl := by
        rw [fm_some, List.map_map]; rfl
      rw [e2]
      refine w_newL (by rw [List.length_map, List.length_map]; exact hvs) ?_
      repeat walk_at "ev"
      refine bi_allL at_end ?_
      have e3 : (vs.map isI).all id = areI (.tup vs) := by simp [areI]
      rw [e3]
      have form' := fun e => form e [.lst ((vs.map isI).map .bl)]
      have q' := fun T r => q ([.lst ((vs.map isI).map .bl)] ++ T) r
      simp only [← List.append_assoc] at q'
      generalize S ++ [.lst ((vs.map isI).map .bl)] = S1 at form' q' ⊢
      repeat walk_at "ev"
      refine ⟨fun e4 => ?_, fun e4 => ?_⟩
      · repeat walk_at "ev"
        refine w_newL (by show 2 ≤ sizeLine; decide) ?_
        exact form' (by simpa using e4)
      · have eI : areI (.tup vs) = true := by simpa using e4
        obtain ⟨xs, ex⟩ := areI_iV eI
        cases ex
        have hl : xs.length ≤ sizeLine := by rw [List.length_map] at hvs; exact hvs
        have eW : errW k (.tup (iV xs)) = if 24 < xs.length then .str "long" else letE (oddAt k xs) := by
          unfold errW
          rw [if_pos eI, valI_iV]
        have eC : errC k (.tup (iV xs)) = errI k xs := by
          unfold errC
          rw [if_pos eI, valI_iV]
        rw [eW, eC] at q'
        clear form form' q
        repeat walk_at "ev"
        refine ⟨Nat.zero_le _, ?_⟩
        refine c_eqT (ns := xs) (ms := []) ?_
        repeat walk_at "ev"
        refine ⟨fun e5 => ?_, fun e5 => ?_⟩
        · have e6 : xs = [] := of_decide_eq_true e5
          repeat walk_at "ev"
          refine w_newL (by show 2 ≤ sizeLine; decide) ?_
          have z := q' [.lst [.non, .str "none"]] S1.length
          subst e6
          exact z at_end
        · have e6 : xs ≠ [] := of_decide_eq_false e5
          unfold errI at q'
          rw [if_neg e6] at q'
          repeat walk_at "ev"
          with_reducible refine w_bad n ?_
          cases ho : oddAt k xs with
          | some i =>
            rw [ho] at q'
            repeat walk_at "ev"
            refine ⟨by show 2 ≤ sizeLine; decide, ?_⟩
            repeat walk_at "ev"
            rw [List.length_map]
            refine ⟨fun e7 => ?_, fun e7 => ?_⟩
            · repeat walk_at "ev"
              refine ⟨by show 2 ≤ sizeLine; decide, ?_⟩
              repeat walk_at "ev"
              refine w_newL (by show 2 ≤ sizeLine; decide) ?_
              have z := q' [.lst [.str "long", letE (some i)]] S1.length
              rw [if_pos (by have := of_decide_eq_true e7; omega)] at z
              exact z at_end
            · repeat walk_at "ev"
              refine ⟨by show 2 ≤ sizeLine; decide, ?_⟩
              repeat walk_at "ev"
              refine w_newL (by show 2 ≤ sizeLine; decide) ?_
              have z := q' [.lst [letE (some i), letE (some i)]] S1.length
              rw [if_neg (by have := of_decide_eq_false e7; omega)] at z
              exact z at_end
          | none =>
            rw [ho] at q'
            repeat walk_at "ev"
            rw [List.length_map]
            refine ⟨fun e7 => ?_, fun e7 => ?_⟩
            · repeat walk_at "ev"
              with_reducible refine w_ord n hl ?_
              rw [if_pos (show 24 < xs.length by have := of_decide_eq_true e7; omega)] at q'
              have z := q' [.lst [.str "long", fallE (fallAt xs)]] S1.length
              clear q'
              cases hf : fallAt xs with
              | none =>
                rw [hf] at z
                repeat walk_at "ev"
                refine w_newL (by show 2 ≤ sizeLine; decide) ?_
                exact z at_end
              | some i =>
                rw [hf] at z
                repeat walk_at "ev"
                refine ⟨by show 2 ≤ sizeLine; decide, ?_⟩
                repeat walk_at "ev"
                refine w_newL (by show 2 ≤ sizeLine; decide) ?_
                exact z at_end
            · repeat walk_at "ev"
              with_reducible refine w_ord n hl ?_
              rw [if_neg (show ¬ 24 < xs.length by have := of_decide_eq_false e7; omega)] at q'
              have z := q' [.lst [.non, fallE (fallAt xs)]] S1.length
              clear q'
              cases hf : fallAt xs with
              | none =>
                rw [hf] at z
                repeat walk_at "ev"
                refine w_newL (by show 2 ≤ sizeLine; decide) ?_
                exact z at_end
              | some i =>
                rw [hf] at z
                repeat walk_at "ev"
                refine ⟨by show 2 ≤ sizeLine; decide, ?_⟩
                repeat walk_at "ev"
                refine w_newL (by show 2 ≤ sizeLine; decide) ?_
                exact z at_end
end EV

end
section
set_option Elab.async false
set_option linter.all false
set_option maxRecDepth 100000
set_option maxHeartbeats 4000000
namespace EV
open PySem
local macro_rules | `(tactic| walk_at "ev") => `(tactic| with_reducible first
  | refine f_cons ?_ | refine f_nil ?_ | refine f_asg ?_ | refine f_par ?_ | refine f_asgIx ?_ | refine f_expr ?_ | refine f_ret ?_ | refine f_ite ?_ | refine f_for ?_ | refine f_pass ?_ | refine f_brk ?_ | refine f_cont ?_
  | refine w_var (by with_unfolding_all rfl) ?_ | refine w_cI ?_ | refine w_cS ?_ | refine w_cN ?_ | refine w_cB ?_ | refine w_gI ?_ | refine w_bin ?_ | refine w_neg ?_ | refine w_not ?_ | refine w_cmp ?_ | refine w_chn ?_ | refine w_bool ?_ | refine w_bnil ?_ | refine w_if ?_
  | refine w_tup ?_ | refine w_lst ?_ | refine w_dic ?_ | refine w_idx ?_ | refine w_slc ?_ | refine w_bno ?_ | refine w_bso ?_ | refine w_rev ?_ | refine w_call ?_ | refine w_callK ?_ | refine w_bi ?_ | refine w_me ?_ | refine w_ist ?_ | refine w_comp ?_ | refine w_nil ?_ | refine w_cons ?_
  | refine w_seq ?_ | refine w_rng1 ?_ | refine w_rng2 ?_ | refine w_enum ?_ | refine w_zip ?_ | refine w_ono ?_ | refine w_oso ?_
  | refine bi_int ?_ | refine bi_abs ?_ | refine bi_lenT ?_ | refine bi_tupT ?_ | refine b_addI ?_ | refine b_subI ?_ | refine c_eqI ?_ | refine c_neI ?_ | refine c_ltI ?_ | refine c_leI ?_ | refine c_gtI ?_ | refine c_geI ?_ | refine e_bl ?_ | refine e_iI ?_ | refine e_set (by with_unfolding_all rfl) ?_
  | refine pick_t ?_ | refine pick_f ?_ | refine is_int ?_ | refine is_non ?_ | refine is_tup ?_ | refine is_str ?_ | refine isn_int ?_ | refine isn_non ?_ | refine isn_tup ?_ | refine ist_tup ?_ | refine ist_tupS ?_ | refine ist_strS ?_ | refine ist_strT ?_ | refine ist_intI ?_ | refine ist_intB ?_ | refine ist_intT ?_
  | refine w_andT ?_ | refine w_andF ?_ | refine w_orF ?_ | refine w_orT ?_)
theorem okT_grow {S : Sto} {v : Va} (T : Sto) (h : okT S v) : okT (S ++ T) v := ⟨okV_grow T h.1, fun xs e x hx => okV_grow T (h.2 xs e x hx)⟩
theorem w_judged (n : Nat) {k : Int} {v : Va} {S : Sto} {P : Va → Sto → Prop} (h : okT S v) (hz : ∀ xs, v = .tup xs → xs.length ≤ sizeLine) (q : ∀ T, P (.bl true) (S ++ T)) : Rw (Rn (n + 4) 25 [.int k, v, errW k v, errC k v] S) P := by
  refine w_run (d := k01_25) rfl rfl ?_
  repeat walk_at "ev"
  with_reducible refine w_we n h hz fun T1 => ?_
  repeat walk_at "ev"
  with_reducible refine w_iserr (n + 2) (isE_errW k v) ?_
  repeat walk_at "ev"
  refine w_or (fun _ => ?_) (fun z => Bool.noConfusion z)
  repeat walk_at "ev"
  refine ⟨_, rfl, ?_⟩
  with_reducible refine w_we n (okT_grow T1 h) hz fun T2 => ?_
  repeat walk_at "ev"
  with_reducible refine w_iserr (n + 2) (isE_errW k v) ?_
  repeat walk_at "ev"
  refine ⟨fun z => Bool.noConfusion z, fun _ => ?_⟩
  repeat walk_at "ev"
  with_reducible refine w_ce n (okT_grow T2 (okT_grow T1 h)) hz fun T3 => ?_
  repeat walk_at "ev"
  with_reducible refine w_iserr (n + 2) (isE_errC k v) ?_
  repeat walk_at "ev"
  refine ⟨_, rfl, ?_⟩
  with_reducible refine w_ce n (okT_grow T3 (okT_grow T2 (okT_grow T1 h))) hz fun T4 => ?_
  repeat walk_at "ev"
  with_reducible refine w_iserr (n + 2) (isE_errC k v) ?_
  repeat walk_at "ev"
  have z := q (T1 ++ (T2 ++ (T3 ++ T4)))
  rw [← List.append_assoc, ← List.append_assoc, ← List.append_assoc] at z
  exact z
end EV

end
section
set_option Elab.async false
set_option linter.all false
set_option maxRecDepth 100000
set_option maxHeartbeats 4000000
namespace EV
open PySem
local macro_rules | `(tactic| walk_at "ev") => `(tactic| with_reducible first
  | refine f_cons ?_ | refine f_nil ?_ | refine f_asg ?_ | refine f_par ?_ | refine f_asgIx ?_ | refine f_expr ?_ | refine f_ret ?_ | refine f_ite ?_ | refine f_for ?_ | refine f_pass ?_ | refine f_brk ?_ | refine f_cont ?_
  | refine w_var (by with_unfolding_all rfl) ?_ | refine w_cI ?_ | refine w_cS ?_ | refine w_cN ?_ | refine w_cB ?_ | refine w_gI ?_ | refine w_bin ?_ | refine w_neg ?_ | refine w_not ?_ | refine w_cmp ?_ | refine w_chn ?_ | refine w_bool ?_ | refine w_bnil ?_ | refine w_if ?_
  | refine w_tup ?_ | refine w_lst ?_ | refine w_dic ?_ | refine w_idx ?_ | refine w_slc ?_ | refine w_bno ?_ | refine w_bso ?_ | refine w_rev ?_ | refine w_call ?_ | refine w_callK ?_ | refine w_bi ?_ | refine w_me ?_ | refine w_ist ?_ | refine w_comp ?_ | refine w_nil ?_ | refine w_cons ?_
  | refine w_seq ?_ | refine w_rng1 ?_ | refine w_rng2 ?_ | refine w_enum ?_ | refine w_zip ?_ | refine w_ono ?_ | refine w_oso ?_
  | refine bi_int ?_ | refine bi_abs ?_ | refine bi_lenT ?_ | refine bi_tupT ?_ | refine b_addI ?_ | refine b_subI ?_ | refine c_eqI ?_ | refine c_neI ?_ | refine c_ltI ?_ | refine c_leI ?_ | refine c_gtI ?_ | refine c_geI ?_ | refine e_bl ?_ | refine e_iI ?_ | refine e_set (by with_unfolding_all rfl) ?_
  | refine pick_t ?_ | refine pick_f ?_ | refine is_int ?_ | refine is_non ?_ | refine is_tup ?_ | refine is_str ?_ | refine isn_int ?_ | refine isn_non ?_ | refine isn_tup ?_ | refine ist_tup ?_ | refine ist_tupS ?_ | refine ist_strS ?_ | refine ist_strT ?_ | refine ist_intI ?_ | refine ist_intB ?_ | refine ist_intT ?_
  | refine w_andT ?_ | refine w_andF ?_ | refine w_orF ?_ | refine w_orT ?_)
theorem optMap_mono {α β : Type} {f g : α → Option β} (h : ∀ a b, f a = some b → g a = some b) : ∀ {l : List α} {r : List β}, optMap f l = some r → optMap g l = some r
  | [], _, e => by rw [optMap_nil e]; rfl
  | a :: l, _, e => by
    obtain ⟨b, t, rfl, h1, h2⟩ := optMap_cons e
    unfold optMap
    rw [h a b h1, optMap_mono h h2]
theorem toD_grow {S : Sto} (T : Sto) : ∀ (n : Nat) {v : Va} {d : PyData}, toD S n v = some d → toD (S ++ T) n v = some d
  | 0, _, _, h => by simp [toD] at h
  | n + 1, v, d, h => by
    have ih : ∀ a b, toD S n a = some b → toD (S ++ T) n a = some b := fun a b => toD_grow T n
    simp only [toD] at h ⊢
    cases v with
    | tup xs =>
      dsimp only at h ⊢
      cases ho : optMap (toD S n) xs with
      | none => rw [ho] at h; cases h
      | some ds => rw [ho] at h; rw [optMap_mono ih ho]; exact h
    | ref i =>
      dsimp only at h ⊢
      cases hs : S[i]? with
      | none => rw [hs] at h; cases h
      | some o =>
        rw [hs] at h
        rw [at_grow hs]
        cases o with
        | lst xs =>
          dsimp only at h ⊢
          cases ho : optMap (toD S n) xs with
          | none => rw [ho] at h; cases h
          | some ds => rw [ho] at h; rw [optMap_mono ih ho]; exact h
        | dic kvs =>
          dsimp only at h ⊢
          obtain ⟨ds, ho, e⟩ := Option.map_eq_some_iff.mp h
          refine Option.map_eq_some_iff.mpr ⟨ds, optMap_mono (fun p b hb => ?_) ho, e⟩
          split at hb
          · cases hb
          · rename_i x h1
            split at hb
            · cases hb
            · rename_i y h2
              rw [ih _ _ h1, ih _ _ h2]
              exact hb
    | _ => exact h
theorem bi_repr {S : Sto} {v : Va} {d : PyData} {P : Va → Sto → Prop} (h : toD S 60 v = some d) (hs : showOk d = true) (q : P (.str d.shown) S) : Rw (biOp .repr [v] S) P := by
  show Rw (match toD S 60 v with
    | some d => if showOk d then .ok (.str d.shown) S else .bad
    | none => .bad) P
  rw [h]
  dsimp only
  rw [if_pos hs]
  exact .ok q
/-- a value that may be judged -/
structure OkJ (S : Sto) (v : Va) : Prop where
  ok : okT S v
  len : ∀ xs, v = .tup xs → xs.length ≤ sizeLine
  show_ : ∃ d, toD S 60 v = some d ∧ showOk d = true
theorem OkJ.grow {S : Sto} {v : Va} (h : OkJ S v) (T : Sto) : OkJ (S ++ T) v := ⟨okT_grow T h.ok, h.len, let ⟨d, h1, h2⟩ := h.show_; ⟨d, toD_grow T 60 h1, h2⟩⟩
theorem w_judges (n : Nat) {k : Int} {r : Nat} {items : List Va} {S : Sto} {P : Va → Sto → Prop} (hr : S[r]? = some (.lst items)) (hj : ∀ v ∈ items, OkJ S v) (q : ∀ T, P (.bl true) (S ++ T)) : Rw (Rn (n + 5) 26 [.int k, .ref r] S) P := by
  refine w_run (d := k01_26) rfl rfl ?_
  repeat walk_at "ev"
  refine sw_ref hr ?_
  refine f_turns (fun i ρ S2 => (∃ T, S2 = S ++ T) ∧ ∃ a b c, ρ = [some (.int k), some (.ref r), a, b, c]) ⟨⟨[], by rw [List.append_nil]⟩, _, _, _, rfl⟩ (fun i ρ S2 _ h => by
    obtain ⟨⟨T, rfl⟩, _⟩ := h
    exact stay_one (at_grow hr)) (fun i v ρ S2 hx h => ?_) (fun ρ S2 h => ?_)
  · obtain ⟨⟨T, rfl⟩, a, b, c, rfl⟩ := h
    have oj := (hj v (List.mem_of_getElem? hx)).grow T
    have fin : ∀ T', ∃ T2, S ++ T ++ T' = S ++ T2 := fun T' => ⟨T ++ T', by rw [List.append_assoc]⟩
    generalize S ++ T = S1 at oj fin ⊢
    obtain ⟨d, hd, hs⟩ := oj.show_
    refine ⟨_, rfl, ?_⟩
    repeat walk_at "ev"
    refine bi_repr hd hs ?_
    repeat walk_at "ev"
    with_reducible refine w_dues (n + 2) oj.ok oj.len fun T1 r1 h1 => ?_
    repeat walk_at "ev"
    refine ix_lst h1 atI0 ?_
    repeat walk_at "ev"
    refine ix_lst h1 atI1 ?_
    repeat walk_at "ev"
    with_reducible refine w_judged n (okT_grow T1 oj.ok) oj.len fun T2 => ?_
    repeat walk_at "ev"
    refine w_or (fun _ => ?_) (fun z => Bool.noConfusion z)
    repeat walk_at "ev"
    refine bi_repr (toD_grow T2 60 (toD_grow T1 60 hd)) hs ?_
    repeat walk_at "ev"
    refine c_neSS ?_
    repeat walk_at "ev"
    obtain ⟨T3, h3⟩ := fin (T1 ++ T2)
    exact ⟨⟨T3, by rw [← h3, List.append_assoc]⟩, _, _, _, rfl⟩
  · obtain ⟨⟨T, rfl⟩, a, b, c, rfl⟩ := h
    repeat walk_at "ev"
    exact q T
end EV

end
section
set_option Elab.async false
set_option linter.all false
set_option maxRecDepth 100000
set_option maxHeartbeats 4000000
namespace EV
open PySem
local macro_rules | `(tactic| walk_at "ev") => `(tactic| with_reducible first
  | refine f_cons ?_ | refine f_nil ?_ | refine f_asg ?_ | refine f_par ?_ | refine f_asgIx ?_ | refine f_expr ?_ | refine f_ret ?_ | refine f_ite ?_ | refine f_for ?_ | refine f_pass ?_ | refine f_brk ?_ | refine f_cont ?_
  | refine w_var (by with_unfolding_all rfl) ?_ | refine w_cI ?_ | refine w_cS ?_ | refine w_cN ?_ | refine w_cB ?_ | refine w_gI ?_ | refine w_bin ?_ | refine w_neg ?_ | refine w_not ?_ | refine w_cmp ?_ | refine w_chn ?_ | refine w_bool ?_ | refine w_bnil ?_ | refine w_if ?_
  | refine w_tup ?_ | refine w_lst ?_ | refine w_dic ?_ | refine w_idx ?_ | refine w_slc ?_ | refine w_bno ?_ | refine w_bso ?_ | refine w_rev ?_ | refine w_call ?_ | refine w_callK ?_ | refine w_bi ?_ | refine w_me ?_ | refine w_ist ?_ | refine w_comp ?_ | refine w_nil ?_ | refine w_cons ?_
  | refine w_seq ?_ | refine w_rng1 ?_ | refine w_rng2 ?_ | refine w_enum ?_ | refine w_zip ?_ | refine w_ono ?_ | refine w_oso ?_
  | refine bi_int ?_ | refine bi_abs ?_ | refine bi_lenT ?_ | refine bi_tupT ?_ | refine b_addI ?_ | refine b_subI ?_ | refine c_eqI ?_ | refine c_neI ?_ | refine c_ltI ?_ | refine c_leI ?_ | refine c_gtI ?_ | refine c_geI ?_ | refine e_bl ?_ | refine e_iI ?_ | refine e_set (by with_unfolding_all rfl) ?_
  | refine pick_t ?_ | refine pick_f ?_ | refine is_int ?_ | refine is_non ?_ | refine is_tup ?_ | refine is_str ?_ | refine isn_int ?_ | refine isn_non ?_ | refine isn_tup ?_ | refine ist_tup ?_ | refine ist_tupS ?_ | refine ist_strS ?_ | refine ist_strT ?_ | refine ist_intI ?_ | refine ist_intB ?_ | refine ist_intT ?_
  | refine w_andT ?_ | refine w_andF ?_ | refine w_orF ?_ | refine w_orT ?_)
theorem okV_int {S : Sto} {x : Va} {xs : List Int} (h : x ∈ iV xs) : okV S x = true ∧ isI x = true := by
  obtain ⟨i, _, rfl⟩ := List.mem_map.mp h
  exact ⟨rfl, rfl⟩
theorem w_nums (n : Nat) {xs ys : List Int} {S : Sto} {P : Va → Sto → Prop} (hz : xs.length ≤ sizeLine) (q : ∀ T, P (.bl (decide (xs = ys))) (S ++ T)) : Rw (Rn (n + 1) 16 [.tup (iV xs), .tup (iV ys)] S) P := by
  refine w_run (d := k01_16) rfl rfl ?_
  have q0 := q []
  rw [List.append_nil] at q0
  repeat walk_at "ev"
  refine w_or (fun _ => ?_) (fun z => Bool.noConfusion z)
  repeat walk_at "ev"
  rw [List.length_map, List.length_map]
  refine ⟨fun e => ?_, fun e => ?_⟩
  · repeat walk_at "ev"
    have hne : xs ≠ ys := fun z => by subst z; simp at e
    rw [decide_eq_false hne] at q0
    exact q0
  · repeat walk_at "ev"
    refine sw_tup ?_
    refine w_mapv (fun x => some (.bl true)) stay_nil (fun x hx => ?_) ?_
    · refine w_turn rfl ?_
      repeat walk_at "ev"
      refine .inl ⟨rfl, ?_⟩
      exact w_isi n rfl (okV_int hx).1 ⟨by rw [(okV_int (S := S) hx).2], rfl⟩
    · have e2 : (iV xs).filterMap (fun _ => some (Va.bl true)) = (xs.map fun _ => true).map .bl := by
        rw [fm_some, iV, List.map_map, List.map_map]; rfl
      rw [e2]
      refine w_newL (by rw [List.length_map, List.length_map]; exact hz) ?_
      repeat walk_at "ev"
      refine bi_allL at_end ?_
      have e3 : (xs.map fun _ => true).all id = true := by simp
      rw [e3]
      repeat walk_at "ev"
      refine c_eqT ?_
      repeat walk_at "ev"
      exact q _
theorem w_lturn (n : Nat) {xs : List Int} {S : Sto} {P : Va → Sto → Prop} (hz : xs.length ≤ sizeLine) (q : ∀ T, P (.tup (iV xs.reverse)) (S ++ T)) : Rw (Rn (n + 1) 19 [.tup (iV xs)] S) P := by
  refine w_run (d := k01_19) rfl rfl ?_
  have hzm : (iV xs).length ≤ sizeLine := by rw [List.length_map]; exact hz
  repeat walk_at "ev"
  refine bi_lstT hzm ?_
  repeat walk_at "ev"
  refine bi_revT at_end hzm ?_
  have z := q [.lst (iV xs)]
  rw [iV, List.map_reverse] at z
  exact z
theorem w_turned (n : Nat) {xs : List Int} {S : Sto} {P : Va → Sto → Prop} (q : P (.tup (iV xs.reverse)) S) : Rw (Rn (n + 1) 12 [.tup (iV xs)] S) P := by
  refine w_run (d := k01_12) rfl rfl ?_
  repeat walk_at "ev"
  refine ⟨_, rfl, ?_⟩
  rw [iV, List.map_reverse] at q
  exact q
/-- turns that leave the store but for new things -/
theorem w_mapT {S : Sto} {turn : Va → Sto → Res (Option Va)} {G : List (Nat × List Va)} {P : List Va → Sto → Prop} {items : List Va} (f : Nat → Option Va) (hg : ∀ T, stay G (S ++ T) = true)
    (hs : ∀ i x T, items[i]? = some x → Rw (turn x (S ++ T)) fun y S' => y = f i ∧ ∃ T', S' = S ++ T') (he : ∀ T, P ((List.range items.length).filterMap f) (S ++ T)) : Rw (compL turn G items S) P := by
  refine w_turns (fun i acc S' => (∃ T, S' = S ++ T) ∧ acc = (List.range i).filterMap f) ⟨⟨[], by rw [List.append_nil]⟩, rfl⟩ (fun i acc S' _ q => by
    obtain ⟨⟨T, rfl⟩, _⟩ := q
    exact hg T) (fun i x acc S' hx q => ?_) (fun acc S' q => ?_)
  · obtain ⟨⟨T, rfl⟩, rfl⟩ := q
    refine (hs i x T hx).mono fun y S2 ⟨e1, e2⟩ => ⟨e2, ?_⟩
    rw [List.range_succ, List.filterMap_append, e1]
    cases h : f i <;> simp [h]
  · obtain ⟨⟨T, rfl⟩, rfl⟩ := q
    exact he T
def pw (a : Nat) : Int := ([1, 2, 4, 8, 16] : List Int).getD a 1
def clsB (bits : Int) (a : Nat) : Bool := decide ((bits.fdiv (pw a)).fmod 2 = 1)
def clsL (k : Nat) (bits : Int) : List Int := ((List.range k).filter (clsB bits)).map Int.ofNat
theorem rng0_get {k : Nat} {i : Nat} {x : Va} (h : (rangeW 0 (k : Int)).items[i]? = some x) : i < k ∧ x = .int (i : Nat) := by
  obtain ⟨h1, rfl⟩ := rng_get (lo := 0) (hi := (k : Int)) h
  refine ⟨by omega, ?_⟩
  rw [Int.zero_add]
theorem rng0_len {k : Nat} : (rangeW 0 (k : Int)).items.length = k := by
  unfold rangeW
  rw [List.length_map, List.length_range]
  omega
theorem w_cls (n : Nat) {k : Nat} (hk : k ≤ 5) {bits : Int} {S : Sto} {P : Va → Sto → Prop} (q : ∀ T, P (.tup (iV (clsL k bits))) (S ++ T)) : Rw (Rn (n + 1) 20 [.int (k : Nat), .int bits] S) P := by
  refine w_run (d := k01_20) rfl rfl ?_
  repeat walk_at "ev"
  refine ⟨small_nat (Nat.le_trans hk (by decide)), ?_⟩
  refine w_mapT (fun i => if clsB bits i then some (.int (i : Nat)) else none) (fun T => stay_nil) (fun i x T hx => ?_) (fun T => ?_)
  · obtain ⟨hi, rfl⟩ := rng0_get hx
    refine w_turn rfl ?_
    repeat walk_at "ev"
    refine w_newL (by show 5 ≤ sizeLine; decide) ?_
    repeat walk_at "ev"
    refine ix_lst at_end (atI_iV (xs := [1, 2, 4, 8, 16]) (j := i) (by show i < 5; omega)) ?_
    have hp : pw i ≠ 0 ∧ (pw i).natAbs < 1073741824 := by
      have : i < 5 := by omega
      match i, this with
      | 0, _ => decide
      | 1, _ => decide
      | 2, _ => decide
      | 3, _ => decide
      | 4, _ => decide
    have hq : ([1, 2, 4, 8, 16] : List Int).getD i 0 = pw i := by
      have : i < 5 := by omega
      match i, this with
      | 0, _ => rfl
      | 1, _ => rfl
      | 2, _ => rfl
      | 3, _ => rfl
      | 4, _ => rfl
    rw [hq]
    with_reducible refine b_fdiv hp.1 hp.2 ?_
    repeat walk_at "ev"
    with_reducible refine b_mod (by decide) ?_
    repeat walk_at "ev"
    refine .inr ⟨_, rfl, fun e => ?_, fun e => ?_⟩
    · repeat walk_at "ev"
      refine ⟨by rw [if_pos (show clsB bits i = true from e)], _, by rw [List.append_assoc]⟩
    · refine ⟨by rw [if_neg (by rw [show clsB bits i = false from e]; exact Bool.false_ne_true)], _, by rw [List.append_assoc]⟩
  · rw [rng0_len, fm_if]
    have e : ((List.range k).filter (clsB bits)).map (fun i => Va.int (i : Nat)) = iV (clsL k bits) := by
      unfold clsL
      rw [iV, List.map_map]; rfl
    rw [e]
    have hl : (iV (clsL k bits)).length ≤ sizeLine := by
      rw [List.length_map, clsL, List.length_map]
      exact Nat.le_trans (List.length_filter_le _ _) (by rw [List.length_range]; exact Nat.le_trans hk (by decide))
    refine w_newL hl ?_
    repeat walk_at "ev"
    refine bi_tupL at_end hl ?_
    have z := q (T ++ [.lst (iV (clsL k bits))])
    rw [← List.append_assoc] at z
    exact z
end EV

end
section
set_option Elab.async false
set_option linter.all false
set_option maxRecDepth 100000
set_option maxHeartbeats 4000000
namespace EV
open PySem
local macro_rules | `(tactic| walk_at "ev") => `(tactic| with_reducible first
  | refine f_cons ?_ | refine f_nil ?_ | refine f_asg ?_ | refine f_par ?_ | refine f_asgIx ?_ | refine f_expr ?_ | refine f_ret ?_ | refine f_ite ?_ | refine f_for ?_ | refine f_pass ?_ | refine f_brk ?_ | refine f_cont ?_
  | refine w_var (by with_unfolding_all rfl) ?_ | refine w_cI ?_ | refine w_cS ?_ | refine w_cN ?_ | refine w_cB ?_ | refine w_gI ?_ | refine w_bin ?_ | refine w_neg ?_ | refine w_not ?_ | refine w_cmp ?_ | refine w_chn ?_ | refine w_bool ?_ | refine w_bnil ?_ | refine w_if ?_
  | refine w_tup ?_ | refine w_lst ?_ | refine w_dic ?_ | refine w_idx ?_ | refine w_slc ?_ | refine w_bno ?_ | refine w_bso ?_ | refine w_rev ?_ | refine w_call ?_ | refine w_callK ?_ | refine w_bi ?_ | refine w_me ?_ | refine w_ist ?_ | refine w_comp ?_ | refine w_nil ?_ | refine w_cons ?_
  | refine w_seq ?_ | refine w_rng1 ?_ | refine w_rng2 ?_ | refine w_enum ?_ | refine w_zip ?_ | refine w_ono ?_ | refine w_oso ?_
  | refine bi_int ?_ | refine bi_abs ?_ | refine bi_lenT ?_ | refine bi_tupT ?_ | refine b_addI ?_ | refine b_subI ?_ | refine c_eqI ?_ | refine c_neI ?_ | refine c_ltI ?_ | refine c_leI ?_ | refine c_gtI ?_ | refine c_geI ?_ | refine e_bl ?_ | refine e_iI ?_ | refine e_set (by with_unfolding_all rfl) ?_
  | refine pick_t ?_ | refine pick_f ?_ | refine is_int ?_ | refine is_non ?_ | refine is_tup ?_ | refine is_str ?_ | refine isn_int ?_ | refine isn_non ?_ | refine isn_tup ?_ | refine ist_tup ?_ | refine ist_tupS ?_ | refine ist_strS ?_ | refine ist_strT ?_ | refine ist_intI ?_ | refine ist_intB ?_ | refine ist_intT ?_
  | refine w_andT ?_ | refine w_andF ?_ | refine w_orF ?_ | refine w_orT ?_)
theorem sc_ints : ∀ ns : List Int, optMap sc (iV ns) = some (ns.map .int)
  | [] => rfl
  | n :: ns => by
    show optMap sc (Va.int n :: iV ns) = _
    unfold optMap
    rw [show sc (Va.int n) = some (.int n) from rfl, sc_ints ns]
    rfl
theorem inV_ints (i : Int) (ns : List Int) : L2.inV (.int i) (ns.map .int) = ns.contains i := by
  unfold L2.inV
  rw [List.any_map]
  induction ns with
  | nil => rfl
  | cons n r ih =>
    rw [List.any_cons, ih, List.contains_cons]
    congr 1
    show (n == i) = (i == n)
    by_cases h : n = i
    · subst h; rfl
    · rw [beq_eq_false_iff_ne.mpr h, beq_eq_false_iff_ne.mpr (Ne.symm h)]
theorem in_tupI {S : Sto} {i : Int} {ns : List Int} : inOp (.int i) (.tup (iV ns)) S = some (ns.contains i) := by
  show (match sc (Va.int i) with
    | none => none
    | some a => match optMap sc (iV ns) with
      | none => none
      | some bs => some (L2.inV a bs)) = _
  rw [sc_ints]
  show some (L2.inV (.int i) (ns.map .int)) = _
  rw [inV_ints]
theorem c_inI {S : Sto} {i : Int} {ns : List Int} {Q : Bool → Prop} (q : Q (ns.contains i)) : ∃ c, cmpOp .In (.int i) (.tup (iV ns)) S = some c ∧ Q c := ⟨_, in_tupI (S := S), q⟩
theorem c_niI {S : Sto} {i : Int} {ns : List Int} {Q : Bool → Prop} (q : Q (!ns.contains i)) : ∃ c, cmpOp .NotIn (.int i) (.tup (iV ns)) S = some c ∧ Q c := ⟨_, by show Option.map (!·) (inOp (.int i) (.tup (iV ns)) S) = _; rw [in_tupI (S := S)]; rfl, q⟩
def othL (k : Nat) (own : List Int) : List Int := ((List.range k).filter fun i : Nat => !own.contains (i : Int)).map Int.ofNat
theorem w_oth (n : Nat) {k : Nat} (hk : k ≤ 5) {own : List Int} {S : Sto} {P : Va → Sto → Prop} (q : ∀ T, P (.tup (iV (othL k own))) (S ++ T)) : Rw (Rn (n + 1) 5 [.int (k : Nat), .tup (iV own)] S) P := by
  refine w_run (d := k01_5) rfl rfl ?_
  repeat walk_at "ev"
  refine ⟨small_nat (Nat.le_trans hk (by decide)), ?_⟩
  refine w_map (fun i : Nat => if !own.contains (i : Int) then some (.int (i : Nat)) else none) stay_nil (fun i x hx => ?_) ?_
  · obtain ⟨hi, rfl⟩ := rng0_get hx
    refine w_turn rfl ?_
    repeat walk_at "ev"
    refine c_niI ?_
    refine .inr ⟨_, rfl, fun e => ?_, fun e => ?_⟩
    · repeat walk_at "ev"
      exact ⟨by rw [if_pos e], rfl⟩
    · exact ⟨by rw [if_neg (by rw [e]; exact Bool.false_ne_true)], rfl⟩
  · rw [rng0_len, fm_if]
    have e : ((List.range k).filter fun i : Nat => !own.contains (i : Int)).map (fun i => Va.int (i : Nat)) = iV (othL k own) := by
      unfold othL
      rw [iV, List.map_map]; rfl
    rw [e]
    have hl : (iV (othL k own)).length ≤ sizeLine := by
      rw [List.length_map, othL, List.length_map]
      exact Nat.le_trans (List.length_filter_le _ _) (by rw [List.length_range]; exact Nat.le_trans hk (by decide))
    refine w_newL hl ?_
    repeat walk_at "ev"
    refine bi_tupL at_end hl ?_
    exact q _
/-- what the classes of up to five letters are, by looking -/
theorem cls_facts : ∀ k : Fin 5, ∀ b : Fin 31, b.val + 1 ≤ 2 ^ (k.val + 1) - 1 →
    othL (k.val + 1) (clsL (k.val + 1) ((b.val + 1 : Nat) : Int)) = clsL (k.val + 1) ((2 ^ (k.val + 1) - 1 - (b.val + 1) : Nat) : Int) ∧
    othL (k.val + 1) (clsL (k.val + 1) ((2 ^ (k.val + 1) - 1 - (b.val + 1) : Nat) : Int)) = clsL (k.val + 1) ((b.val + 1 : Nat) : Int) ∧
    oddAt ((k.val + 1 : Nat) : Int) (clsL (k.val + 1) ((b.val + 1 : Nat) : Int)) = none ∧ fallAt (clsL (k.val + 1) ((b.val + 1 : Nat) : Int)) = none ∧ clsL (k.val + 1) ((b.val + 1 : Nat) : Int) ≠ [] ∧
    oddAt ((k.val + 1 : Nat) : Int) (clsL (k.val + 1) ((2 ^ (k.val + 1) - 1 - (b.val + 1) : Nat) : Int)) = none ∧ fallAt (clsL (k.val + 1) ((2 ^ (k.val + 1) - 1 - (b.val + 1) : Nat) : Int)) = none := by decide +kernel
end EV

end
section
set_option Elab.async false
set_option linter.all false
set_option maxRecDepth 100000
set_option maxHeartbeats 4000000
namespace EV
open PySem
local macro_rules | `(tactic| walk_at "ev") => `(tactic| with_reducible first
  | refine f_cons ?_ | refine f_nil ?_ | refine f_asg ?_ | refine f_par ?_ | refine f_asgIx ?_ | refine f_expr ?_ | refine f_ret ?_ | refine f_ite ?_ | refine f_for ?_ | refine f_pass ?_ | refine f_brk ?_ | refine f_cont ?_
  | refine w_var (by with_unfolding_all rfl) ?_ | refine w_cI ?_ | refine w_cS ?_ | refine w_cN ?_ | refine w_cB ?_ | refine w_gI ?_ | refine w_bin ?_ | refine w_neg ?_ | refine w_not ?_ | refine w_cmp ?_ | refine w_chn ?_ | refine w_bool ?_ | refine w_bnil ?_ | refine w_if ?_
  | refine w_tup ?_ | refine w_lst ?_ | refine w_dic ?_ | refine w_idx ?_ | refine w_slc ?_ | refine w_bno ?_ | refine w_bso ?_ | refine w_rev ?_ | refine w_call ?_ | refine w_callK ?_ | refine w_bi ?_ | refine w_me ?_ | refine w_ist ?_ | refine w_comp ?_ | refine w_nil ?_ | refine w_cons ?_
  | refine w_seq ?_ | refine w_rng1 ?_ | refine w_rng2 ?_ | refine w_enum ?_ | refine w_zip ?_ | refine w_ono ?_ | refine w_oso ?_
  | refine bi_int ?_ | refine bi_abs ?_ | refine bi_lenT ?_ | refine bi_tupT ?_ | refine b_addI ?_ | refine b_subI ?_ | refine c_eqI ?_ | refine c_neI ?_ | refine c_ltI ?_ | refine c_leI ?_ | refine c_gtI ?_ | refine c_geI ?_ | refine e_bl ?_ | refine e_iI ?_ | refine e_set (by with_unfolding_all rfl) ?_
  | refine pick_t ?_ | refine pick_f ?_ | refine is_int ?_ | refine is_non ?_ | refine is_tup ?_ | refine is_str ?_ | refine isn_int ?_ | refine isn_non ?_ | refine isn_tup ?_ | refine ist_tup ?_ | refine ist_tupS ?_ | refine ist_strS ?_ | refine ist_strT ?_ | refine ist_intI ?_ | refine ist_intB ?_ | refine ist_intT ?_
  | refine w_andT ?_ | refine w_andF ?_ | refine w_orF ?_ | refine w_orT ?_)
theorem okT_ints {S : Sto} (xs : List Int) : okT S (.tup (iV xs)) := ⟨rfl, fun vs e x hx => by cases e; exact (okV_int hx).1⟩
theorem cls_len (k : Nat) (b : Int) : (clsL k b).length ≤ k := by
  unfold clsL
  rw [List.length_map]
  exact Nat.le_trans (List.length_filter_le _ _) (by rw [List.length_range]; exact Nat.le_refl _)
theorem jud_non (n : Nat) {k : Int} {xs : List Int} {c : Va} {S : Sto} {P : Va → Sto → Prop} (hl : xs.length ≤ 24) (h1 : oddAt k xs = none) (h2 : c = errI k xs) (q : ∀ T, P (.bl true) (S ++ T)) : Rw (Rn (n + 4) 25 [.int k, .tup (iV xs), .non, c] S) P := by
  have hW : errW k (.tup (iV xs)) = .non := by
    unfold errW
    rw [if_pos (iV_areI xs), valI_iV, if_neg (by omega), h1]
  have hC : errC k (.tup (iV xs)) = c := by
    unfold errC
    rw [if_pos (iV_areI xs), valI_iV, h2]
  have z := w_judged n (k := k) (okT_ints (S := S) xs) (fun vs e => by cases e; rw [List.length_map]; exact Nat.le_trans hl (by decide)) q
  rw [hW, hC] at z
  exact z
theorem w_classes (n : Nat) {S : Sto} {P : Va → Sto → Prop} (q : ∀ T, P (.bl true) (S ++ T)) : Rw (Rn (n + 5) 31 [] S) P := by
  refine w_run (d := k01_31) rfl rfl ?_
  repeat walk_at "ev"
  with_reducible refine e_rng (by decide) ?_
  refine f_turns (fun i ρ S2 => (∃ T, S2 = S ++ T) ∧ ∃ a b c d e f, ρ = [a, b, c, d, e, f]) ⟨⟨[], by rw [List.append_nil]⟩, _, _, _, _, _, _, rfl⟩ (fun i ρ S2 _ _ => stay_nil) (fun i v ρ S2 hx h => ?_) (fun ρ S2 h => ?_)
  · obtain ⟨⟨T, rfl⟩, a, b, c, d, e, f, rfl⟩ := h
    obtain ⟨hi, rfl⟩ := rng_get (lo := 1) (hi := 6) hx
    have hi5 : i < 5 := hi
    have e1 : (1 + (i : Nat) : Int) = ((i + 1 : Nat) : Int) := by omega
    have e2 : ((i + 1 : Nat) : Int) - 1 = ((i : Nat) : Int) := by omega
    rw [e1]
    refine ⟨_, rfl, ?_⟩
    repeat walk_at "ev"
    refine w_newL (by show 5 ≤ sizeLine; decide) ?_
    repeat walk_at "ev"
    have hL : ([1, 3, 7, 15, 31] : List Int).getD i 0 = ((2 ^ (i + 1) - 1 : Nat) : Int) := by
      match i, hi5 with
      | 0, _ => rfl
      | 1, _ => rfl
      | 2, _ => rfl
      | 3, _ => rfl
      | 4, _ => rfl
    have hL2 : 2 ^ (i + 1) - 1 ≤ 31 := by
      match i, hi5 with
      | 0, _ => decide
      | 1, _ => decide
      | 2, _ => decide
      | 3, _ => decide
      | 4, _ => decide
    refine ix_lst at_end (x := .int ((2 ^ (i + 1) - 1 : Nat) : Int)) (by rw [e2, ← hL]; exact atI_iV (xs := [1, 3, 7, 15, 31]) (j := i) hi5) ?_
    generalize hM : 2 ^ (i + 1) - 1 = M at hL2 ⊢
    rw [List.append_assoc]
    generalize hT : T ++ [Ob.lst [Va.int 1, .int 3, .int 7, .int 15, .int 31]] = T1
    repeat walk_at "ev"
    have hsm : (small62 1 && small62 ((M : Int) + 1)) = true := by
      rw [show (M : Int) + 1 = ((M + 1 : Nat) : Int) by omega, small_nat (by have : sizeLine = 16777216 := sizeLine_eq; omega)]; rfl
    with_reducible refine e_rng hsm ?_
    refine f_turns (fun j ρ S2 => (∃ T, S2 = S ++ T) ∧ ∃ c d e f, ρ = [some (.int ((i + 1 : Nat) : Int)), some (.int (M : Nat)), c, d, e, f]) ⟨⟨T1, rfl⟩, _, _, _, _, rfl⟩ (fun i ρ S2 _ _ => stay_nil) (fun j v ρ S2 hx h => ?_) (fun ρ S2 h => ?_)
    · obtain ⟨⟨T, rfl⟩, c, d, e, f, rfl⟩ := h
      obtain ⟨hj, rfl⟩ := rng_get (lo := 1) hx
      have hjM : j + 1 ≤ M := by omega
      have f1 : (1 + (j : Nat) : Int) = ((j + 1 : Nat) : Int) := by omega
      have f2 : (M : Int) - ((j + 1 : Nat) : Int) = ((M - (j + 1) : Nat) : Int) := by omega
      have facts := cls_facts ⟨i, hi5⟩ ⟨j, by omega⟩ (by show j + 1 ≤ 2 ^ (i + 1) - 1; omega)
      simp only [hM] at facts
      obtain ⟨g1, g2, g3, g4, g5, g6, g7⟩ := facts
      rw [f1]
      refine ⟨_, rfl, ?_⟩
      generalize hS : S ++ T = S2
      have fin : ∀ T', (∃ T2, S2 ++ T' = S ++ T2) := fun T' => ⟨T ++ T', by rw [← hS, List.append_assoc]⟩
      clear hS
      repeat walk_at "ev"
      with_reducible refine w_cls (n + 3) (k := i + 1) (by omega) fun T1 => ?_
      repeat walk_at "ev"
      rw [f2]
      with_reducible refine w_cls (n + 3) (k := i + 1) (by omega) fun T2 => ?_
      have l1 := cls_len (i + 1) ((j + 1 : Nat) : Int)
      have l2 := cls_len (i + 1) ((M - (j + 1) : Nat) : Int)
      have hC1 : Va.non = errI ((i + 1 : Nat) : Int) (clsL (i + 1) ((j + 1 : Nat) : Int)) := by
        unfold errI
        rw [if_neg g5, g3]
        simp only [g4]
      have hC2 : (if clsL (i + 1) ((M - (j + 1) : Nat) : Int) = [] then Va.str "none" else .non) = errI ((i + 1 : Nat) : Int) (clsL (i + 1) ((M - (j + 1) : Nat) : Int)) := by
        unfold errI
        rw [g6]
        simp only [g7]
      generalize clsL (i + 1) ((j + 1 : Nat) : Int) = own at *
      generalize clsL (i + 1) ((M - (j + 1) : Nat) : Int) = due at *
      have hs5 : 5 ≤ sizeLine := by decide
      repeat walk_at "ev"
      with_reducible refine w_oth (n + 3) (k := i + 1) (by omega) fun T3 => ?_
      rw [g1]
      repeat walk_at "ev"
      with_reducible refine w_nums (n + 3) (by omega) fun T4 => ?_
      rw [decide_eq_true (rfl : due = due)]
      repeat walk_at "ev"
      refine w_or (fun _ => ?_) (fun z => Bool.noConfusion z)
      repeat walk_at "ev"
      refine ⟨_, rfl, ?_⟩
      with_reducible refine w_oth (n + 3) (k := i + 1) (by omega) fun T5 => ?_
      rw [g1]
      repeat walk_at "ev"
      with_reducible refine w_nums (n + 3) (by omega) fun T6 => ?_
      rw [decide_eq_true (rfl : due = due)]
      repeat walk_at "ev"
      refine ⟨fun z => Bool.noConfusion z, fun _ => ?_⟩
      repeat walk_at "ev"
      refine ⟨Nat.zero_le _, ?_⟩
      refine c_neT (ns := due) (ms := []) ?_
      generalize hS6 : S2 ++ T1 ++ T2 ++ T3 ++ T4 ++ T5 ++ T6 = S6
      have fin6 : ∀ T', (∃ T2, S6 ++ T' = S ++ T2) := fun T' => by
        obtain ⟨T9, h9⟩ := fin (T1 ++ (T2 ++ (T3 ++ (T4 ++ (T5 ++ (T6 ++ T'))))))
        refine ⟨T9, ?_⟩
        rw [← h9, ← hS6]
        simp only [List.append_assoc]
      clear hS6 fin
      by_cases hd : due = []
      · rw [decide_eq_true hd]
        refine e_bl (w_and (fun z => Bool.noConfusion z) (fun _ => ?_))
        repeat walk_at "ev"
        with_reducible refine jud_non n (by omega) g3 hC1 fun T7 => ?_
        repeat walk_at "ev"
        refine ⟨fun z => Bool.noConfusion z, fun _ => ?_⟩
        repeat walk_at "ev"
        refine ⟨Nat.zero_le _, ?_⟩
        refine c_neT (ns := due) (ms := []) ?_
        rw [decide_eq_true hd]
        repeat walk_at "ev"
        refine ⟨fun z => Bool.noConfusion z, fun _ => ?_⟩
        repeat walk_at "ev"
        rw [if_pos hd] at hC2
        with_reducible refine jud_non n (by omega) g6 hC2 fun T8 => ?_
        repeat walk_at "ev"
        refine ⟨fun z => Bool.noConfusion z, fun _ => ?_⟩
        repeat walk_at "ev"
        obtain ⟨T9, h9⟩ := fin6 (T7 ++ T8)
        exact ⟨⟨T9, by rw [← h9, List.append_assoc]⟩, _, _, _, _, rfl⟩
      · rw [decide_eq_false hd]
        refine e_bl (w_and (fun _ => ?_) (fun z => Bool.noConfusion z))
        repeat walk_at "ev"
        with_reducible refine w_oth (n + 3) (k := i + 1) (by omega) fun T7 => ?_
        rw [g2]
        repeat walk_at "ev"
        with_reducible refine w_nums (n + 3) (by omega) fun T8 => ?_
        rw [decide_eq_true (rfl : own = own)]
        repeat walk_at "ev"
        refine ⟨fun z => Bool.noConfusion z, fun _ => ?_⟩
        repeat walk_at "ev"
        with_reducible refine jud_non n (by omega) g3 hC1 fun T9 => ?_
        repeat walk_at "ev"
        refine ⟨fun z => Bool.noConfusion z, fun _ => ?_⟩
        repeat walk_at "ev"
        refine ⟨Nat.zero_le _, ?_⟩
        refine c_neT (ns := due) (ms := []) ?_
        rw [decide_eq_false hd]
        repeat walk_at "ev"
        refine ⟨fun _ => ?_, fun z => Bool.noConfusion z⟩
        repeat walk_at "ev"
        rw [if_neg hd] at hC2
        with_reducible refine jud_non n (by omega) g6 hC2 fun T10 => ?_
        repeat walk_at "ev"
        refine ⟨fun z => Bool.noConfusion z, fun _ => ?_⟩
        repeat walk_at "ev"
        obtain ⟨T11, h9⟩ := fin6 (T7 ++ (T8 ++ (T9 ++ T10)))
        exact ⟨⟨T11, by rw [← h9]; simp only [List.append_assoc]⟩, _, _, _, _, rfl⟩
    · obtain ⟨h1, c, d, e, f, rfl⟩ := h
      repeat walk_at "ev"
      exact ⟨h1, _, _, _, _, _, _, rfl⟩
  · obtain ⟨⟨T, rfl⟩, a, b, c, d, e, f, rfl⟩ := h
    repeat walk_at "ev"
    exact q T
end EV

end
section
set_option Elab.async false
set_option linter.all false
set_option maxRecDepth 100000
set_option maxHeartbeats 4000000
namespace EV
open PySem
local macro_rules | `(tactic| walk_at "ev") => `(tactic| with_reducible first
  | refine f_cons ?_ | refine f_nil ?_ | refine f_asg ?_ | refine f_par ?_ | refine f_asgIx ?_ | refine f_expr ?_ | refine f_ret ?_ | refine f_ite ?_ | refine f_for ?_ | refine f_pass ?_ | refine f_brk ?_ | refine f_cont ?_
  | refine w_var (by with_unfolding_all rfl) ?_ | refine w_cI ?_ | refine w_cS ?_ | refine w_cN ?_ | refine w_cB ?_ | refine w_gI ?_ | refine w_bin ?_ | refine w_neg ?_ | refine w_not ?_ | refine w_cmp ?_ | refine w_chn ?_ | refine w_bool ?_ | refine w_bnil ?_ | refine w_if ?_
  | refine w_tup ?_ | refine w_lst ?_ | refine w_dic ?_ | refine w_idx ?_ | refine w_slc ?_ | refine w_bno ?_ | refine w_bso ?_ | refine w_rev ?_ | refine w_call ?_ | refine w_callK ?_ | refine w_bi ?_ | refine w_me ?_ | refine w_ist ?_ | refine w_comp ?_ | refine w_nil ?_ | refine w_cons ?_
  | refine w_seq ?_ | refine w_rng1 ?_ | refine w_rng2 ?_ | refine w_enum ?_ | refine w_zip ?_ | refine w_ono ?_ | refine w_oso ?_
  | refine bi_int ?_ | refine bi_abs ?_ | refine bi_lenT ?_ | refine bi_tupT ?_ | refine b_addI ?_ | refine b_subI ?_ | refine c_eqI ?_ | refine c_neI ?_ | refine c_ltI ?_ | refine c_leI ?_ | refine c_gtI ?_ | refine c_geI ?_ | refine e_bl ?_ | refine e_iI ?_ | refine e_set (by with_unfolding_all rfl) ?_
  | refine pick_t ?_ | refine pick_f ?_ | refine is_int ?_ | refine is_non ?_ | refine is_tup ?_ | refine is_str ?_ | refine isn_int ?_ | refine isn_non ?_ | refine isn_tup ?_ | refine ist_tup ?_ | refine ist_tupS ?_ | refine ist_strS ?_ | refine ist_strT ?_ | refine ist_intI ?_ | refine ist_intB ?_ | refine ist_intT ?_
  | refine w_andT ?_ | refine w_andF ?_ | refine w_orF ?_ | refine w_orT ?_)
/-- how far two words go alike -/
def lcp : List Int → List Int → Nat
  | x :: xs, y :: ys => if x = y then lcp xs ys + 1 else 0
  | _, _ => 0
theorem lcp_le : ∀ xs ys : List Int, lcp xs ys ≤ xs.length ∧ lcp xs ys ≤ ys.length
  | [], ys => by cases ys <;> exact ⟨Nat.zero_le _, Nat.zero_le _⟩
  | x :: xs, [] => ⟨Nat.zero_le _, Nat.zero_le _⟩
  | x :: xs, y :: ys => by
    unfold lcp
    split
    · have := lcp_le xs ys
      simp only [List.length_cons]
      omega
    · exact ⟨Nat.zero_le _, Nat.zero_le _⟩
theorem lcp_step {xs ys : List Int} {i : Nat} (h1 : i < xs.length) (h2 : i < ys.length) : lcp (xs.drop i) (ys.drop i) = if xs.getD i 0 = ys.getD i 0 then lcp (xs.drop (i + 1)) (ys.drop (i + 1)) + 1 else 0 := by
  rw [List.drop_eq_getElem_cons h1, List.drop_eq_getElem_cons h2]
  have e1 : xs.getD i 0 = xs[i] := by simp [List.getD, List.getElem?_eq_getElem h1]
  have e2 : ys.getD i 0 = ys[i] := by simp [List.getD, List.getElem?_eq_getElem h2]
  rw [e1, e2]
  rfl
theorem lcp_end {xs ys : List Int} {i : Nat} (h : xs.length ≤ i ∨ ys.length ≤ i) : lcp (xs.drop i) (ys.drop i) = 0 := by
  rcases h with h | h
  · rw [List.drop_eq_nil_of_le h]; cases ys.drop i <;> rfl
  · rw [List.drop_eq_nil_of_le h]; cases xs.drop i <;> rfl
theorem bi_min {i j : Int} {S : Sto} {P : Va → Sto → Prop} (q : P (.int (if j < i then j else i)) S) : Rw (biOp .min2 [.int i, .int j] S) P := .ok q
theorem w_like (n : Nat) {xs ys : List Int} (hf : xs.length < 100000) {S : Sto} {P : Va → Sto → Prop} (q : P (.int (lcp xs ys : Nat)) S) : Rw (Rn (n + 1) 8 [.tup (iV xs), .tup (iV ys)] S) P := by
  refine w_run (d := k01_8) rfl rfl ?_
  repeat walk_at "ev"
  refine f_whil (m := xs.length) (fun m ρ S2 => S2 = S ∧ ∃ i : Nat, ρ = [some (.tup (iV xs)), some (.tup (iV ys)), some (.int (i : Nat))] ∧ m = xs.length - i ∧ lcp xs ys = i + lcp (xs.drop i) (ys.drop i)) ⟨rfl, 0, rfl, rfl, by simp⟩ (by show xs.length < 100000; exact hf) ?_
  rintro m ρ S2 ⟨rfl, i, rfl, rfl, hl⟩
  repeat walk_at "ev"
  rw [List.length_map, List.length_map]
  refine bi_min ?_
  repeat walk_at "ev"
  have out : lcp (xs.drop i) (ys.drop i) = 0 → P (.int (i : Nat)) S2 := fun e => by
    rw [e, Nat.add_zero] at hl
    rw [← hl]
    exact q
  refine w_and (fun e => ?_) (fun e => e_bl ⟨fun z => Bool.noConfusion z, fun _ => ?_⟩)
  · have hlt := of_decide_eq_true e
    have h1 : i < xs.length := by split at hlt <;> omega
    have h2 : i < ys.length := by split at hlt <;> omega
    repeat walk_at "ev"
    refine ix_tup (atI_iV h1) ?_
    repeat walk_at "ev"
    refine ix_tup (atI_iV h2) ?_
    repeat walk_at "ev"
    refine ⟨fun e2 => ?_, fun e2 => ?_⟩
    · repeat walk_at "ev"
      refine ⟨xs.length - (i + 1), by omega, rfl, i + 1, rfl, rfl, ?_⟩
      rw [hl, lcp_step h1 h2, if_pos (of_decide_eq_true e2)]
      omega
    · repeat walk_at "ev"
      exact out (by rw [lcp_step h1 h2, if_neg (of_decide_eq_false e2)])
  · repeat walk_at "ev"
    have hge := of_decide_eq_false e
    exact out (lcp_end (by split at hge <;> omega))
theorem w_lbegin (n : Nat) {xs ys : List Int} {S : Sto} {P : Va → Sto → Prop} (q : P (.tup (iV (xs.take (lcp xs ys)))) S) : Rw (Rn (n + 1) 33 [.tup (iV xs), .tup (iV ys)] S) P := by
  refine w_run (d := k01_33) rfl rfl ?_
  repeat walk_at "ev"
  refine zp_tup ?_
  have fin : ∀ (i : Nat) (S2 : Sto), S2 = S → lcp xs ys = i → Rw (slcOp (.tup (iV xs)) none (some (.int (i : Nat))) S2) P := fun i S2 e1 e2 => by
    refine sl_tup (lo := none) (hi := some (i : Int)) ?_
    rw [cut_to, iV, ← List.map_take, ← e2, e1]
    exact q
  refine f_turns (fun i ρ S2 => S2 = S ∧ (∃ a b, ρ = [some (.tup (iV xs)), some (.tup (iV ys)), some (.int (i : Nat)), a, b]) ∧ lcp xs ys = i + lcp (xs.drop i) (ys.drop i)) ⟨rfl, ⟨_, _, rfl⟩, by simp⟩ (fun i ρ S2 _ _ => stay_nil) (fun i v ρ S2 hx h => ?_) (fun ρ S2 h => ?_)
  · obtain ⟨rfl, ⟨a, b, rfl⟩, hl⟩ := h
    obtain ⟨y, z, q1, q2, rfl⟩ := zip_get.1 (show (zipV (iV xs) (iV ys))[i]? = some v from hx)
    have h1 : i < xs.length := by have := (List.getElem?_eq_some_iff.mp q1).1; rw [List.length_map] at this; exact this
    have h2 : i < ys.length := by have := (List.getElem?_eq_some_iff.mp q2).1; rw [List.length_map] at this; exact this
    have ey : y = .int (xs.getD i 0) := by
      rw [List.getElem?_map, List.getElem?_eq_getElem h1] at q1
      cases q1
      simp [List.getD, List.getElem?_eq_getElem h1]
    have ez : z = .int (ys.getD i 0) := by
      rw [List.getElem?_map, List.getElem?_eq_getElem h2] at q2
      cases q2
      simp [List.getD, List.getElem?_eq_getElem h2]
    subst ey ez
    refine ⟨_, rfl, ?_⟩
    repeat walk_at "ev"
    refine ⟨fun e2 => ?_, fun e2 => ?_⟩
    · repeat walk_at "ev"
      refine fin i _ rfl ?_
      rw [hl, lcp_step h1 h2, if_neg (by simpa using e2)]
      rfl
    · repeat walk_at "ev"
      refine ⟨rfl, ⟨_, _, rfl⟩, ?_⟩
      rw [hl, lcp_step h1 h2, if_pos (by simpa using e2)]
      omega
  · obtain ⟨rfl, ⟨a, b, rfl⟩, hl⟩ := h
    repeat walk_at "ev"
    refine fin _ _ rfl ?_
    rw [hl, lcp_end ?_]
    · rfl
    · have z := (zip_get (xs := iV xs) (ys := iV ys) (i := (zipV (iV xs) (iV ys)).length)).2 rfl
      rw [List.length_map, List.length_map] at z
      exact z
end EV

end
section
set_option Elab.async false
set_option linter.all false
set_option maxRecDepth 100000
set_option maxHeartbeats 4000000
namespace EV
open PySem
local macro_rules | `(tactic| walk_at "ev") => `(tactic| with_reducible first
  | refine f_cons ?_ | refine f_nil ?_ | refine f_asg ?_ | refine f_par ?_ | refine f_asgIx ?_ | refine f_expr ?_ | refine f_ret ?_ | refine f_ite ?_ | refine f_for ?_ | refine f_pass ?_ | refine f_brk ?_ | refine f_cont ?_
  | refine w_var (by with_unfolding_all rfl) ?_ | refine w_cI ?_ | refine w_cS ?_ | refine w_cN ?_ | refine w_cB ?_ | refine w_gI ?_ | refine w_bin ?_ | refine w_neg ?_ | refine w_not ?_ | refine w_cmp ?_ | refine w_chn ?_ | refine w_bool ?_ | refine w_bnil ?_ | refine w_if ?_
  | refine w_tup ?_ | refine w_lst ?_ | refine w_dic ?_ | refine w_idx ?_ | refine w_slc ?_ | refine w_bno ?_ | refine w_bso ?_ | refine w_rev ?_ | refine w_call ?_ | refine w_callK ?_ | refine w_bi ?_ | refine w_me ?_ | refine w_ist ?_ | refine w_comp ?_ | refine w_nil ?_ | refine w_cons ?_
  | refine w_seq ?_ | refine w_rng1 ?_ | refine w_rng2 ?_ | refine w_enum ?_ | refine w_zip ?_ | refine w_ono ?_ | refine w_oso ?_
  | refine bi_int ?_ | refine bi_abs ?_ | refine bi_lenT ?_ | refine bi_tupT ?_ | refine b_addI ?_ | refine b_subI ?_ | refine c_eqI ?_ | refine c_neI ?_ | refine c_ltI ?_ | refine c_leI ?_ | refine c_gtI ?_ | refine c_geI ?_ | refine e_bl ?_ | refine e_iI ?_ | refine e_set (by with_unfolding_all rfl) ?_
  | refine pick_t ?_ | refine pick_f ?_ | refine is_int ?_ | refine is_non ?_ | refine is_tup ?_ | refine is_str ?_ | refine isn_int ?_ | refine isn_non ?_ | refine isn_tup ?_ | refine ist_tup ?_ | refine ist_tupS ?_ | refine ist_strS ?_ | refine ist_strT ?_ | refine ist_intI ?_ | refine ist_intB ?_ | refine ist_intT ?_
  | refine w_andT ?_ | refine w_andF ?_ | refine w_orF ?_ | refine w_orT ?_)

theorem cnt_ints {xs : List Int} {i : Int} : cntOp (iV xs) (.int i) = some (xs.countP fun x => x == i) := by
  show (match sc (Va.int i), optMap sc (iV xs) with
    | some a, some bs => some (bs.countP fun b => L2.eqV b a)
    | _, _ => none) = _
  rw [sc_ints]
  show some ((xs.map _).countP _) = _
  rw [List.countP_map]
  rfl
theorem me_cnt {xs : List Int} {i : Int} {S : Sto} {P : Va → Sto → Prop} (q : P (.int (xs.countP fun x => x == i : Nat)) S) : Rw (meOp .count (.tup (iV xs)) [.int i] S) P := by
  show Rw (match cntOp (iV xs) (.int i) with
    | some n => .ok (.int n) S
    | none => .bad) P
  rw [cnt_ints]
  exact .ok q
def cntL (k : Nat) (xs : List Int) : List Int := (List.range k).map fun i : Nat => ((xs.countP fun x => x == (i : Int) : Nat) : Int)
theorem cnt_step (k : Nat) : ∀ xs : List Int, (xs.countP fun x => decide (0 ≤ x ∧ x < ((k + 1 : Nat) : Int))) = (xs.countP fun x => decide (0 ≤ x ∧ x < (k : Int))) + xs.countP fun x => x == (k : Int)
  | [] => rfl
  | x :: r => by
    rw [List.countP_cons, List.countP_cons, List.countP_cons, cnt_step k r]
    by_cases h1 : x = (k : Int)
    · subst h1
      have h3 : 0 ≤ (k : Int) ∧ (k : Int) < ((k + 1 : Nat) : Int) := by omega
      have h2 : ¬ (0 ≤ (k : Int) ∧ (k : Int) < (k : Int)) := by omega
      rw [if_pos (decide_eq_true h3), if_neg (by rw [decide_eq_false h2]; exact Bool.false_ne_true), if_pos (beq_self_eq_true _)]
      omega
    · by_cases h2 : 0 ≤ x ∧ x < (k : Int)
      · have h3 : 0 ≤ x ∧ x < ((k + 1 : Nat) : Int) := by omega
        simp only [h1, h2, h3, beq_iff_eq, decide_eq_true_eq, and_self, if_true, if_false, decide_true]
        omega
      · have h3 : ¬ (0 ≤ x ∧ x < ((k + 1 : Nat) : Int)) := by omega
        simp only [h1, h2, h3, beq_iff_eq, decide_eq_true_eq, if_false]
        omega
theorem cnt_sum (xs : List Int) : ∀ k : Nat, (cntL k xs).sum = ((xs.countP fun x => decide (0 ≤ x ∧ x < (k : Int)) : Nat) : Int)
  | 0 => by
    have e : (xs.countP fun x => decide (0 ≤ x ∧ x < ((0 : Nat) : Int))) = 0 := by
      rw [List.countP_eq_zero]
      intro x _ h
      have := of_decide_eq_true h
      omega
    rw [e]; rfl
  | k + 1 => by
    rw [cnt_step]
    unfold cntL
    rw [List.range_succ, List.map_append, List.sum_append]
    have := cnt_sum xs k
    unfold cntL at this
    rw [this]
    simp
theorem cnt_full {xs : List Int} {k : Nat} (h : ∀ x ∈ xs, 0 ≤ x ∧ x < (k : Int)) : (cntL k xs).sum = (xs.length : Int) := by
  rw [cnt_sum, List.countP_eq_length.mpr fun x hx => decide_eq_true (h x hx)]
theorem cnt_rev (k : Nat) (xs : List Int) : cntL k xs.reverse = cntL k xs := by
  unfold cntL
  simp only [List.countP_reverse]
theorem w_cnt (n : Nat) {k : Nat} (hk : k ≤ 5) {xs : List Int} {S : Sto} {P : Va → Sto → Prop} (q : ∀ T, P (.tup (iV (cntL k xs))) (S ++ T)) : Rw (Rn (n + 1) 6 [.int (k : Nat), .tup (iV xs)] S) P := by
  refine w_run (d := k01_6) rfl rfl ?_
  repeat walk_at "ev"
  refine ⟨small_nat (Nat.le_trans hk (by decide)), ?_⟩
  refine w_map (fun i : Nat => some (.int (xs.countP fun x => x == (i : Int) : Nat))) stay_nil (fun i x hx => ?_) ?_
  · obtain ⟨hi, rfl⟩ := rng0_get hx
    refine w_turn rfl ?_
    repeat walk_at "ev"
    refine .inl ⟨rfl, ?_⟩
    repeat walk_at "ev"
    refine ⟨rfl, ?_⟩
    repeat walk_at "ev"
    refine me_cnt ?_
    exact ⟨rfl, rfl⟩
  · rw [rng0_len, fm_some]
    have e : (List.range k).map (fun i : Nat => Va.int (xs.countP fun x => x == (i : Int) : Nat)) = iV (cntL k xs) := by
      unfold cntL
      rw [iV, List.map_map]; rfl
    rw [e]
    have hl : (iV (cntL k xs)).length ≤ sizeLine := by
      rw [List.length_map, cntL, List.length_map, List.length_range]
      exact Nat.le_trans hk (by decide)
    refine w_newL hl ?_
    repeat walk_at "ev"
    refine bi_tupL at_end hl ?_
    exact q _
theorem w_cntr (n : Nat) {k : Nat} (hk : k ≤ 5) {xs : List Int} (hz : xs.length ≤ sizeLine) (hx : ∀ x ∈ xs, 0 ≤ x ∧ x < (k : Int)) {S : Sto} {P : Va → Sto → Prop} (q : ∀ T, P (.bl true) (S ++ T)) : Rw (Rn (n + 2) 35 [.int (k : Nat), .tup (iV xs)] S) P := by
  refine w_run (d := k01_35) rfl rfl ?_
  repeat walk_at "ev"
  refine ⟨small_nat (Nat.le_trans hk (by decide)), ?_⟩
  refine w_mapT (fun i : Nat => some (.int (xs.countP fun x => x == (i : Int) : Nat))) (fun T => stay_nil) (fun i x T hx => ?_) (fun T => ?_)
  · obtain ⟨hi, rfl⟩ := rng0_get hx
    refine w_turn rfl ?_
    repeat walk_at "ev"
    refine .inl ⟨rfl, ?_⟩
    repeat walk_at "ev"
    refine sw_tup ?_
    refine w_mapv (fun v => if (match v with | .int x => x == (i : Int) | _ => false) then some v else none) stay_nil (fun v hv => ?_) ?_
    · obtain ⟨x, _, rfl⟩ := List.mem_map.mp hv
      refine w_turn rfl ?_
      repeat walk_at "ev"
      refine .inr ⟨_, rfl, fun e => ?_, fun e => ?_⟩
      · repeat walk_at "ev"
        exact ⟨by rw [if_pos (by simpa using e)], rfl⟩
      · exact ⟨by rw [if_neg (by simpa using e)], rfl⟩
    · have e : (iV xs).filterMap (fun v => if (match v with | .int x => x == (i : Int) | _ => false) then some v else none) = iV (xs.filter fun x => x == (i : Int)) := by
        rw [fm_if, iV, List.filter_map, iV, List.map_id']
        rfl
      rw [e]
      refine w_newL (by rw [List.length_map]; exact Nat.le_trans (List.length_filter_le _ _) hz) ?_
      repeat walk_at "ev"
      refine bi_lenL at_end ?_
      rw [List.length_map, ← List.countP_eq_length_filter]
      exact ⟨rfl, _, List.append_assoc _ _ _⟩
  · rw [rng0_len, fm_some]
    have e : (List.range k).map (fun i : Nat => Va.int (xs.countP fun x => x == (i : Int) : Nat)) = iV (cntL k xs) := by
      unfold cntL
      rw [iV, List.map_map]; rfl
    rw [e]
    have hl0 : (cntL k xs).length ≤ sizeLine := by
      rw [cntL, List.length_map, List.length_range]
      exact Nat.le_trans hk (by decide)
    have hl : (iV (cntL k xs)).length ≤ sizeLine := by
      rw [List.length_map]
      exact hl0
    refine w_newL hl ?_
    repeat walk_at "ev"
    refine bi_tupL at_end hl ?_
    repeat walk_at "ev"
    with_reducible refine w_cnt n hk fun T2 => ?_
    repeat walk_at "ev"
    with_reducible refine w_lturn n hz fun T3 => ?_
    repeat walk_at "ev"
    with_reducible refine w_nums n hl0 fun T4 => ?_
    rw [decide_eq_true (rfl : cntL k xs = cntL k xs)]
    repeat walk_at "ev"
    refine w_or (fun _ => ?_) (fun z => Bool.noConfusion z)
    repeat walk_at "ev"
    refine ⟨_, rfl, ?_⟩
    with_reducible refine w_cnt n hk fun T5 => ?_
    repeat walk_at "ev"
    with_reducible refine w_nums n hl0 fun T6 => ?_
    rw [decide_eq_true (rfl : cntL k xs = cntL k xs)]
    repeat walk_at "ev"
    refine ⟨fun z => Bool.noConfusion z, fun _ => ?_⟩
    repeat walk_at "ev"
    refine bi_sumT ?_
    repeat walk_at "ev"
    rw [cnt_full hx, List.length_map, decide_eq_true (rfl : (xs.length : Int) = xs.length)]
    repeat walk_at "ev"
    with_reducible refine w_cnt n hk fun T7 => ?_
    rw [cnt_rev]
    repeat walk_at "ev"
    with_reducible refine w_nums n hl0 fun T8 => ?_
    rw [decide_eq_true (rfl : cntL k xs = cntL k xs)]
    repeat walk_at "ev"
    have z := q (T ++ ([Ob.lst (iV (cntL k xs))] ++ (T2 ++ (T3 ++ (T4 ++ (T5 ++ (T6 ++ (T7 ++ T8))))))))
    simp only [List.append_assoc] at z ⊢
    exact z
end EV

end
section
set_option Elab.async false
set_option linter.all false
set_option maxRecDepth 100000
set_option maxHeartbeats 4000000
namespace EV
open PySem
local macro_rules | `(tactic| walk_at "ev") => `(tactic| with_reducible first
  | refine f_cons ?_ | refine f_nil ?_ | refine f_asg ?_ | refine f_par ?_ | refine f_asgIx ?_ | refine f_expr ?_ | refine f_ret ?_ | refine f_ite ?_ | refine f_for ?_ | refine f_pass ?_ | refine f_brk ?_ | refine f_cont ?_
  | refine w_var (by with_unfolding_all rfl) ?_ | refine w_cI ?_ | refine w_cS ?_ | refine w_cN ?_ | refine w_cB ?_ | refine w_gI ?_ | refine w_bin ?_ | refine w_neg ?_ | refine w_not ?_ | refine w_cmp ?_ | refine w_chn ?_ | refine w_bool ?_ | refine w_bnil ?_ | refine w_if ?_
  | refine w_tup ?_ | refine w_lst ?_ | refine w_dic ?_ | refine w_idx ?_ | refine w_slc ?_ | refine w_bno ?_ | refine w_bso ?_ | refine w_rev ?_ | refine w_call ?_ | refine w_callK ?_ | refine w_bi ?_ | refine w_me ?_ | refine w_ist ?_ | refine w_comp ?_ | refine w_nil ?_ | refine w_cons ?_
  | refine w_seq ?_ | refine w_rng1 ?_ | refine w_rng2 ?_ | refine w_enum ?_ | refine w_zip ?_ | refine w_ono ?_ | refine w_oso ?_
  | refine bi_int ?_ | refine bi_abs ?_ | refine bi_lenT ?_ | refine bi_tupT ?_ | refine b_addI ?_ | refine b_subI ?_ | refine c_eqI ?_ | refine c_neI ?_ | refine c_ltI ?_ | refine c_leI ?_ | refine c_gtI ?_ | refine c_geI ?_ | refine e_bl ?_ | refine e_iI ?_ | refine e_set (by with_unfolding_all rfl) ?_
  | refine pick_t ?_ | refine pick_f ?_ | refine is_int ?_ | refine is_non ?_ | refine is_tup ?_ | refine is_str ?_ | refine isn_int ?_ | refine isn_non ?_ | refine isn_tup ?_ | refine ist_tup ?_ | refine ist_tupS ?_ | refine ist_strS ?_ | refine ist_strT ?_ | refine ist_intI ?_ | refine ist_intB ?_ | refine ist_intT ?_
  | refine w_andT ?_ | refine w_andF ?_ | refine w_orF ?_ | refine w_orT ?_)


theorem ixn_nat {k j : Nat} (h : j < k) : L2.ixN k (j : Int) = some j := by
  unfold L2.ixN
  rw [if_pos (Int.natCast_nonneg j), if_pos (Int.ofNat_lt.mpr h), Int.toNat_natCast]
theorem Bag.lt {b c : Nat} {S : Sto} (B : Bag b c S) : b < S.length ∧ c < S.length := by
  obtain ⟨_, _, _, h1, h2, _⟩ := B
  exact ⟨(List.getElem?_eq_some_iff.mp h1).1, (List.getElem?_eq_some_iff.mp h2).1⟩
theorem Bag.grow {b c : Nat} {S : Sto} (B : Bag b c S) (T : Sto) : Bag b c (S ++ T) := by
  obtain ⟨cs, x, y, h1, h2, r⟩ := B
  exact ⟨cs, x, y, at_grow h1, at_grow h2, r⟩
theorem Bag.set {b c i : Nat} {o : Ob} {S : Sto} (B : Bag b c S) (n1 : i ≠ b) (n2 : i ≠ c) : Bag b c (S.set i o) := by
  obtain ⟨cs, x, y, h1, h2, r⟩ := B
  exact ⟨cs, x, y, at_oth h1 n1, at_oth h2 n2, r⟩
theorem Fr.setNew {b c i : Nat} {o : Ob} {S S1 : Sto} (f : Fr b c S S1) (h : S.length ≤ i) : Fr b c S (S1.set i o) :=
  ⟨by rw [List.length_set]; exact f.1, fun j h1 n1 n2 => by rw [List.getElem?_set_ne (by omega)]; exact f.2 j h1 n1 n2⟩
theorem Fr.at {b c i : Nat} {o : Ob} {S S1 : Sto} (f : Fr b c S S1) (h : S[i]? = some o) (n1 : i ≠ b) (n2 : i ≠ c) : S1[i]? = some o := by
  rw [f.2 i (List.getElem?_eq_some_iff.mp h).1 n1 n2]; exact h
def Wd (k : Int) (xs : List Int) : Prop := ∀ x ∈ xs, 0 ≤ x ∧ x < k
theorem Wd.nil {k : Int} : Wd k [] := fun _ h => nomatch h
theorem Wd.app {k : Int} {xs ys : List Int} (h : Wd k xs) (h2 : Wd k ys) : Wd k (xs ++ ys) := fun x hx => (List.mem_append.mp hx).elim (h x) (h2 x)
theorem Wd.one {k x : Int} (h : 0 ≤ x) (h2 : x < k) : Wd k [x] := fun y hy => by cases List.mem_singleton.mp hy; exact ⟨h, h2⟩
theorem Wd.take {k : Int} {xs : List Int} (h : Wd k xs) (i : Nat) : Wd k (xs.take i) := fun x hx => h x (List.mem_of_mem_take hx)
theorem Wd.drop {k : Int} {xs : List Int} (h : Wd k xs) (i : Nat) : Wd k (xs.drop i) := fun x hx => h x (List.mem_of_mem_drop hx)
def repI (m : Nat) (xs : List Int) : List Int := (List.replicate m xs).flatten
theorem rep_iV (m : Nat) (xs : List Int) : repL (m : Int) (iV xs) = iV (repI m xs) := by
  unfold repL repI
  rw [iV, iV, List.map_flatten, List.map_replicate]
  rfl
theorem rep_len (m : Nat) (xs : List Int) : (repI m xs).length = m * xs.length := by
  unfold repI
  induction m with
  | zero => rw [Nat.zero_mul]; rfl
  | succ m ih => rw [List.replicate_succ, List.flatten_cons, List.length_append, ih, Nat.succ_mul, Nat.add_comm]
theorem Wd.rep {k : Int} {xs : List Int} (h : Wd k xs) (m : Nat) : Wd k (repI m xs) := fun x hx => by
  obtain ⟨l, h1, h2⟩ := List.mem_flatten.mp hx
  rw [(List.mem_replicate.mp h1).2] at h2
  exact h x h2
theorem b_repL {a m : Nat} {xs : List Int} {S : Sto} {P : Va → Sto → Prop} (h : S[a]? = some (.lst (iV xs))) (hz : m * xs.length ≤ sizeLine) (hm : m ≤ sizeLine) (q : P (.ref S.length) (S ++ [.lst (iV (repI m xs))])) : Rw (binOp .Mult (.ref a) (.int (m : Nat)) S) P := by
  show Rw (match S[a]? with
    | some (.lst xs) => if -(2 ^ 62) < (m : Int) ∧ (m : Int) < 2 ^ 62 then newL (repL m xs) S else .bad
    | _ => .bad) P
  rw [h]
  have e := sizeLine_eq
  show Rw (if -(2 ^ 62) < (m : Int) ∧ (m : Int) < 2 ^ 62 then newL (repL m (iV xs)) S else .bad) P
  rw [if_pos (by omega), rep_iV]
  exact w_newL (by rw [List.length_map, rep_len]; exact hz) q
theorem b_repT {m : Nat} {xs : List Int} {S : Sto} {P : Va → Sto → Prop} (hz : m * xs.length ≤ sizeLine) (hm : m ≤ sizeLine) (q : P (.tup (iV (repI m xs))) S) : Rw (binOp .Mult (.tup (iV xs)) (.int (m : Nat)) S) P := by
  have e := sizeLine_eq
  unfold binOp
  dsimp only
  rw [if_pos (by omega), rep_iV]
  exact w_mkT (by rw [List.length_map, rep_len]; exact hz) q
/-- drawing a list of letters -/
theorem w_draws {b c m : Nat} {k : Int} {S : Sto} {P : List Va → Sto → Prop} {turn : Va → Sto → Res (Option Va)} (B : Bag b c S)
    (ht : ∀ (i : Nat) (S1 : Sto) (Q : Option Va → Sto → Prop), i < m → Bag b c S1 → (∀ f S2, 0 ≤ f → f < k → Bag b c S2 → Fr b c S1 S2 → Q (some (.int f)) S2) → Rw (turn (.int (i : Nat)) S1) Q)
    (q : ∀ xs S', xs.length = m → Wd k xs → Bag b c S' → Fr b c S S' → P (iV xs) S') : Rw (compL turn (rangeW 0 (m : Int)).G (rangeW 0 (m : Int)).items S) P := by
  refine w_turns (fun i acc S1 => Bag b c S1 ∧ Fr b c S S1 ∧ ∃ xs, acc = iV xs ∧ xs.length = i ∧ Wd k xs) ⟨B, Fr.refl, [], rfl, rfl, Wd.nil⟩ (fun i acc S1 _ _ => stay_nil) (fun i x acc S1 hx h => ?_) (fun acc S1 h => ?_)
  · obtain ⟨B1, f1, xs, rfl, rfl, hw⟩ := h
    obtain ⟨hi, rfl⟩ := rng0_get hx
    refine ht _ _ _ hi B1 fun f S2 g1 g2 B2 f2 => ?_
    refine ⟨B2, f1.trans f2, xs ++ [f], ?_, ?_, hw.app (Wd.one g1 g2)⟩
    · rw [iV, iV, List.map_append]; rfl
    · rw [List.length_append]; rfl
  · obtain ⟨B1, f1, xs, rfl, hl, hw⟩ := h
    exact q xs S1 (by rw [hl, rng0_len]) hw B1 f1
theorem w_word (n : Nat) {b c m : Nat} {k : Int} (hk : 0 < k) (hk2 : k < 1073741824) (hm : m ≤ 600) {S : Sto} {P : Va → Sto → Prop} (B : Bag b c S)
    (q : ∀ xs S', xs.length = m → Wd k xs → Bag b c S' → Fr b c S S' → P (.tup (iV xs)) S') : Rw (Rn (n + 2) 21 [.ref b, .int k, .int (m : Nat)] S) P := by
  refine w_run (d := k01_21) rfl rfl ?_
  have es := sizeLine_eq
  have sm : small62 (m : Int) = true := small_nat (by omega)
  repeat walk_at "ev"
  with_reducible refine w_draw n (by decide) (by decide) B fun way S1 w1 w2 B1 f1 => ?_
  repeat walk_at "ev"
  refine ⟨fun e => ?_, fun e => ?_⟩
  · repeat walk_at "ev"
    refine ⟨sm, ?_⟩
    refine w_draws (k := k) B1 (fun i S2 Q hi B2 qq => ?_) (fun xs S2 hl hw B2 f2 => ?_)
    · refine w_turn rfl ?_
      repeat walk_at "ev"
      refine .inl ⟨rfl, ?_⟩
      repeat walk_at "ev"
      with_reducible refine w_draw n hk hk2 B2 fun f S3 g1 g2 B3 f3 => ?_
      exact qq f S3 g1 g2 B3 f3
    · refine w_newL (by rw [List.length_map]; omega) ?_
      repeat walk_at "ev"
      refine bi_tupL at_end (by rw [List.length_map]; omega) ?_
      exact q xs _ hl hw (B2.grow _) (f1.trans (f2.trans (Fr.grow _)))
  · repeat walk_at "ev"
    refine w_newL (Nat.zero_le _) ?_
    repeat walk_at "ev"
    refine ⟨fun e1 => ?_, fun e1 => ?_⟩
    · repeat walk_at "ev"
      refine ⟨sm, ?_⟩
      have hL : S1.length ≠ b ∧ S1.length ≠ c := by have := B1.lt; omega
      have hS : S.length ≤ S1.length := f1.1
      refine f_turns (fun i ρ S2 => Bag b c S2 ∧ Fr b c S S2 ∧ (∃ t p, ρ = [some (.ref b), some (.int k), some (.int (m : Nat)), some (.int way), t, some (.ref S1.length), p]) ∧ ∃ xs, S2[S1.length]? = some (.lst (iV xs)) ∧ Wd k xs ∧ (i ≤ xs.length ∨ m ≤ xs.length) ∧ xs.length ≤ 2 * m + 3)
        ⟨B1.grow _, f1.trans (Fr.grow _), ⟨_, _, rfl⟩, [], at_end, Wd.nil, .inl (Nat.le_refl _), Nat.zero_le _⟩ (fun i ρ S2 _ _ => stay_nil) (fun i v ρ S2 hx h => ?_) (fun ρ S2 h => ?_)
      · obtain ⟨B2, f2, ⟨t, p, rfl⟩, xs, h2, hw, hl, hu⟩ := h
        obtain ⟨hi, rfl⟩ := rng0_get hx
        refine ⟨_, rfl, ?_⟩
        repeat walk_at "ev"
        refine bi_lenL h2 ?_
        repeat walk_at "ev"
        rw [List.length_map]
        refine ⟨fun e2 => ?_, fun e2 => ?_⟩
        · have hlt : xs.length < m := by have := of_decide_eq_true e2; omega
          repeat walk_at "ev"
          refine ⟨ty_lst h2 (by decide), ?_⟩
          repeat walk_at "ev"
          with_reducible refine w_draw n hk hk2 B2 fun f S3 g1 g2 B3 f3 => ?_
          repeat walk_at "ev"
          refine w_newL (by show 1 ≤ sizeLine; omega) ?_
          have h3 := f3.at h2 hL.1 hL.2
          have l3 := (List.getElem?_eq_some_iff.mp h3).1
          repeat walk_at "ev"
          refine b_fdiv (by decide) (by decide) ?_
          repeat walk_at "ev"
          have hd : 0 ≤ (m : Int).fdiv 6 ∧ (m : Int).fdiv 6 ≤ 100 ∧ (m : Int).fdiv 6 ≤ m := by
            rw [Int.fdiv_eq_ediv_of_nonneg _ (by decide)]
            omega
          have B3' := B3.grow [Ob.lst [Va.int f]]
          with_reducible refine w_draw n (below := 2 + (m : Int).fdiv 6) (by omega) (by omega) B3' fun g S4 k1 k2 B4 f4 => ?_
          repeat walk_at "ev"
          have hR : S3.length ≠ b ∧ S3.length ≠ c := by have := B3.lt; omega
          have h4 := f4.at (at_grow (T := [Ob.lst [Va.int f]]) h3) hL.1 hL.2
          have r4 := f4.at (at_end (S := S3) (o := Ob.lst (iV [f]))) hR.1 hR.2
          have eg : (1 + g : Int) = ((1 + g.toNat : Nat) : Int) := by omega
          rw [eg]
          have bg : 1 + g.toNat ≤ 102 := by omega
          refine b_repL r4 (by show (1 + g.toNat) * 1 ≤ sizeLine; omega) (by omega) ?_
          repeat walk_at "ev"
          refine mm_ext (at_grow h4) at_end (by rw [List.length_map, List.length_map, rep_len]; show xs.length + (1 + g.toNat) * 1 ≤ sizeLine; omega) ?_
          have lenr : (repI (1 + g.toNat) [f]).length = 1 + g.toNat := by rw [rep_len]; exact Nat.mul_one _
          have ff : Fr b c S (S4 ++ [Ob.lst (iV (repI (1 + g.toNat) [f]))]) := f2.trans (f3.trans ((Fr.grow _).trans (f4.trans (Fr.grow _))))
          repeat walk_at "ev"
          refine ⟨(B4.grow _).set hL.1 hL.2, ff.setNew hS, ⟨_, _, rfl⟩, xs ++ repI (1 + g.toNat) [f], ?_, hw.app ((Wd.one g1 g2).rep _), ?_, ?_⟩
          · rw [at_set (at_grow h4), iV, iV, iV, List.map_append]
          · rw [List.length_append, lenr]; omega
          · rw [List.length_append, lenr]; omega
        · have hge : m ≤ xs.length := by have := of_decide_eq_false e2; omega
          repeat walk_at "ev"
          exact ⟨B2, f2, ⟨_, _, rfl⟩, xs, h2, hw, .inr hge, hu⟩
      · obtain ⟨B2, f2, ⟨t, p, rfl⟩, xs, h2, hw, hl, hu⟩ := h
        rw [rng0_len] at hl
        have hge : m ≤ xs.length := by omega
        repeat walk_at "ev"
        refine sl_lst (lo := none) (hi := some (m : Int)) h2 (by rw [List.length_map]; omega) ?_
        rw [cut_to, iV, ← List.map_take]
        repeat walk_at "ev"
        refine bi_tupL at_end (by rw [List.length_map, List.length_take]; omega) ?_
        exact q _ _ (by rw [List.length_take]; omega) (hw.take _) (B2.grow _) (f2.trans (Fr.grow _))
    · repeat walk_at "ev"
      with_reducible refine w_draw n (by decide) (by decide) (B1.grow _) fun g S2 k1 k2 B2 f2 => ?_
      have eg : (1 + g : Int) = ((1 + g.toNat : Nat) : Int) := by omega
      repeat walk_at "ev"
      rw [eg]
      refine ⟨small_nat (by omega), ?_⟩
      refine w_draws (k := k) B2 (fun i S2 Q hi B2 qq => ?_) (fun ys S3 hl3 hw B3 f3 => ?_)
      · refine w_turn rfl ?_
        repeat walk_at "ev"
        refine .inl ⟨rfl, ?_⟩
        repeat walk_at "ev"
        with_reducible refine w_draw n hk hk2 B2 fun f S3 g1 g2 B3 f3 => ?_
        exact qq f S3 g1 g2 B3 f3
      · refine w_newL (by rw [List.length_map]; omega) ?_
        repeat walk_at "ev"
        have hb : m * ys.length ≤ 3000 := by rw [hl3]; exact Nat.le_trans (Nat.mul_le_mul hm (show 1 + g.toNat ≤ 5 by omega)) (by decide)
        have hb2 : m ≤ m * ys.length := by rw [hl3]; exact Nat.le_mul_of_pos_right _ (by omega)
        refine b_repL at_end (by omega) (by omega) ?_
        repeat walk_at "ev"
        refine sl_lst (lo := none) (hi := some (m : Int)) at_end (by rw [List.length_map, rep_len]; omega) ?_
        rw [cut_to, iV, ← List.map_take]
        have hxl : ((repI m ys).take m).length = m := by rw [List.length_take, rep_len]; omega
        have hxw := (hw.rep m).take m
        generalize (repI m ys).take m = xs at hxl hxw
        have fS : Fr b c S (S3 ++ [Ob.lst (iV ys)] ++ [Ob.lst (iV (repI m ys))]) := f1.trans ((Fr.grow _).trans (f2.trans (f3.trans ((Fr.grow _).trans (Fr.grow _)))))
        have B4 : Bag b c (S3 ++ [Ob.lst (iV ys)] ++ [Ob.lst (iV (repI m ys))]) := (B3.grow _).grow _
        generalize S3 ++ [Ob.lst (iV ys)] ++ [Ob.lst (iV (repI m ys))] = S4 at fS B4
        have hL : S4.length ≠ b ∧ S4.length ≠ c := by have := B4.lt; omega
        repeat walk_at "ev"
        have fin : ∀ (S5 : Sto) zs, zs.length = m → Wd k zs → Bag b c S5 → Fr b c S S5 → S5[S4.length]? = some (.lst (iV zs)) → Rw (biOp .tuple [.ref S4.length] S5) P := fun S5 zs hz hw B5 f5 h5 => by
          refine bi_tupL h5 (by rw [List.length_map]; omega) ?_
          exact q zs S5 hz hw B5 f5
        have h5 : (S4 ++ [Ob.lst (iV xs)])[S4.length]? = some (.lst (iV xs)) := at_end
        have B5 := B4.grow [Ob.lst (iV xs)]
        have f5 := fS.trans (Fr.grow [Ob.lst (iV xs)])
        refine w_and (fun e3 => ?_) (fun e3 => e_bl ⟨fun z => Bool.noConfusion z, fun _ => ?_⟩)
        · have hpos : 0 < (m : Int) := of_decide_eq_true e3
          repeat walk_at "ev"
          with_reducible refine w_draw n (by decide) (by decide) B5 fun u S6 _ _ B6 f6 => ?_
          have h6 := f6.at h5 hL.1 hL.2
          repeat walk_at "ev"
          refine ⟨fun _ => ?_, fun _ => ?_⟩
          · repeat walk_at "ev"
            with_reducible refine w_draw n hk hk2 B6 fun v S7 v1 v2 B7 f7 => ?_
            have h7 := f7.at h6 hL.1 hL.2
            repeat walk_at "ev"
            with_reducible refine w_draw n (below := (m : Int)) hpos (by omega) B7 fun j S8 j1 j2 B8 f8 => ?_
            have h8 := f8.at h7 hL.1 hL.2
            repeat walk_at "ev"
            have ej : j = ((j.toNat : Nat) : Int) := by omega
            rw [ej]
            refine set_lst h8 (j := j.toNat) (ixn_nat (by rw [List.length_map]; omega)) ?_
            repeat walk_at "ev"
            have fs8 : S.length ≤ S4.length := fS.1
            refine fin _ (xs.set j.toNat v) (by rw [List.length_set]; exact hxl) (fun x hx => ?_) (B8.set hL.1 hL.2) ((f5.trans (f6.trans (f7.trans f8))).setNew fs8) ?_
            · rcases List.mem_or_eq_of_mem_set hx with h | h
              · exact hxw x h
              · subst h; exact ⟨v1, v2⟩
            · rw [at_set h8, iV, iV, List.map_set]
          · repeat walk_at "ev"
            exact fin _ xs hxl hxw B6 (f5.trans f6) h6
        · repeat walk_at "ev"
          exact fin _ xs hxl hxw B5 f5 h5
end EV

end
section
set_option Elab.async false
set_option linter.all false
set_option maxRecDepth 100000
set_option maxHeartbeats 4000000
namespace EV
open PySem
local macro_rules | `(tactic| walk_at "ev") => `(tactic| with_reducible first
  | refine f_cons ?_ | refine f_nil ?_ | refine f_asg ?_ | refine f_par ?_ | refine f_asgIx ?_ | refine f_expr ?_ | refine f_ret ?_ | refine f_ite ?_ | refine f_for ?_ | refine f_pass ?_ | refine f_brk ?_ | refine f_cont ?_
  | refine w_var (by with_unfolding_all rfl) ?_ | refine w_cI ?_ | refine w_cS ?_ | refine w_cN ?_ | refine w_cB ?_ | refine w_gI ?_ | refine w_bin ?_ | refine w_neg ?_ | refine w_not ?_ | refine w_cmp ?_ | refine w_chn ?_ | refine w_bool ?_ | refine w_bnil ?_ | refine w_if ?_
  | refine w_tup ?_ | refine w_lst ?_ | refine w_dic ?_ | refine w_idx ?_ | refine w_slc ?_ | refine w_bno ?_ | refine w_bso ?_ | refine w_rev ?_ | refine w_call ?_ | refine w_callK ?_ | refine w_bi ?_ | refine w_me ?_ | refine w_ist ?_ | refine w_comp ?_ | refine w_nil ?_ | refine w_cons ?_
  | refine w_seq ?_ | refine w_rng1 ?_ | refine w_rng2 ?_ | refine w_enum ?_ | refine w_zip ?_ | refine w_ono ?_ | refine w_oso ?_
  | refine bi_int ?_ | refine bi_abs ?_ | refine bi_lenT ?_ | refine bi_tupT ?_ | refine b_addI ?_ | refine b_subI ?_ | refine c_eqI ?_ | refine c_neI ?_ | refine c_ltI ?_ | refine c_leI ?_ | refine c_gtI ?_ | refine c_geI ?_ | refine e_bl ?_ | refine e_iI ?_ | refine e_set (by with_unfolding_all rfl) ?_
  | refine pick_t ?_ | refine pick_f ?_ | refine is_int ?_ | refine is_non ?_ | refine is_tup ?_ | refine is_str ?_ | refine isn_int ?_ | refine isn_non ?_ | refine isn_tup ?_ | refine ist_tup ?_ | refine ist_tupS ?_ | refine ist_strS ?_ | refine ist_strT ?_ | refine ist_intI ?_ | refine ist_intB ?_ | refine ist_intT ?_
  | refine w_andT ?_ | refine w_andF ?_ | refine w_orF ?_ | refine w_orT ?_)


theorem lcp_comm : ∀ xs ys : List Int, lcp xs ys = lcp ys xs
  | [], [] => rfl
  | [], _ :: _ => rfl
  | _ :: _, [] => rfl
  | x :: xs, y :: ys => by
    unfold lcp
    by_cases h : x = y
    · rw [if_pos h, if_pos h.symm, lcp_comm xs ys]
    · rw [if_neg h, if_neg (Ne.symm h)]
theorem take_lcp : ∀ xs ys : List Int, xs.take (lcp xs ys) = ys.take (lcp xs ys)
  | [], [] => rfl
  | [], _ :: _ => rfl
  | _ :: _, [] => rfl
  | x :: xs, y :: ys => by
    unfold lcp
    by_cases h : x = y
    · rw [if_pos h, List.take_succ_cons, List.take_succ_cons, take_lcp xs ys, h]
    · rw [if_neg h]; rfl
theorem lcp_take : ∀ (l : Nat) (xs : List Int), l ≤ xs.length → lcp (xs.take l) xs = l
  | 0, xs, _ => by rw [List.take_zero]; cases xs <;> rfl
  | l + 1, [], h => by cases h
  | l + 1, x :: xs, h => by
    rw [List.take_succ_cons]
    unfold lcp
    rw [if_pos rfl, lcp_take l xs (Nat.le_of_succ_le_succ h)]
def bgn (xs ys : List Int) : List Int := xs.take (lcp xs ys)
def fin (xs ys : List Int) : List Int := (bgn xs.reverse ys.reverse).reverse
theorem bgn_comm (xs ys : List Int) : bgn ys xs = bgn xs ys := by unfold bgn; rw [lcp_comm ys xs, take_lcp xs ys]
theorem fin_comm (xs ys : List Int) : fin ys xs = fin xs ys := by unfold fin; rw [bgn_comm]
theorem bgn_bgn (xs ys : List Int) : bgn (bgn xs ys) xs = bgn xs ys := by
  unfold bgn
  rw [lcp_take _ _ (lcp_le xs ys).1, List.take_take, Nat.min_self]
theorem fin_rev (xs ys : List Int) : fin xs.reverse ys.reverse = (bgn xs ys).reverse := by unfold fin; rw [List.reverse_reverse, List.reverse_reverse]
theorem bgn_rev (xs ys : List Int) : bgn xs.reverse ys.reverse = (fin xs ys).reverse := by unfold fin; rw [List.reverse_reverse]
theorem fin_fin (xs ys : List Int) : fin ys (fin xs ys) = fin xs ys := by
  rw [← fin_comm xs ys]
  unfold fin
  rw [List.reverse_reverse, bgn_comm (bgn ys.reverse xs.reverse) ys.reverse, bgn_bgn]
theorem bgn_len (xs ys : List Int) : (bgn xs ys).length ≤ xs.length := by unfold bgn; rw [List.length_take]; omega
theorem fin_len (xs ys : List Int) : (fin xs ys).length ≤ xs.length := by unfold fin; rw [List.length_reverse]; exact Nat.le_trans (bgn_len _ _) (by rw [List.length_reverse]; exact Nat.le_refl _)
theorem w_cb (n : Nat) {xs ys : List Int} (hf : xs.length < 100000) {S : Sto} {P : Va → Sto → Prop} (q : P (.tup (iV (bgn xs ys))) S) : Rw (Rn (n + 2) 9 [.tup (iV xs), .tup (iV ys)] S) P := by
  refine w_run (d := k01_9) rfl rfl ?_
  repeat walk_at "ev"
  with_reducible refine w_like n hf ?_
  repeat walk_at "ev"
  refine sl_tup (lo := none) (hi := some ((lcp xs ys : Nat) : Int)) ?_
  rw [cut_to, iV, ← List.map_take]
  exact q
theorem w_cend (n : Nat) {xs ys : List Int} (hf : xs.length < 100000) {S : Sto} {P : Va → Sto → Prop} (q : P (.tup (iV (fin xs ys))) S) : Rw (Rn (n + 2) 10 [.tup (iV xs), .tup (iV ys)] S) P := by
  refine w_run (d := k01_10) rfl rfl ?_
  repeat walk_at "ev"
  refine ⟨_, rfl, ?_⟩
  repeat walk_at "ev"
  refine ⟨_, rfl, ?_⟩
  repeat walk_at "ev"
  rw [iV, iV, ← List.map_reverse, ← List.map_reverse]
  with_reducible refine w_like n (by rw [List.length_reverse]; exact hf) ?_
  repeat walk_at "ev"
  have hle := (lcp_le xs.reverse ys.reverse).1
  rw [List.length_reverse] at hle
  rw [List.length_map, show (xs.length : Int) - (lcp xs.reverse ys.reverse : Nat) = ((xs.length - lcp xs.reverse ys.reverse : Nat) : Int) by omega]
  refine sl_tup (lo := some ((xs.length - lcp xs.reverse ys.reverse : Nat) : Int)) (hi := none) ?_
  rw [cut_from, ← List.map_drop]
  have e : xs.drop (xs.length - lcp xs.reverse ys.reverse) = fin xs ys := by
    unfold fin bgn
    rw [List.take_reverse, List.reverse_reverse]
  rw [e]
  exact q
theorem b_catI {xs ys : List Int} {S : Sto} {P : Va → Sto → Prop} (h : xs.length + ys.length ≤ sizeLine) (q : P (.tup (iV (xs ++ ys))) S) : Rw (binOp .Add (.tup (iV xs)) (.tup (iV ys)) S) P := by
  refine b_cat (by rw [List.length_map, List.length_map]; exact h) ?_
  rw [iV, List.map_append] at q
  exact q
theorem sl_to {xs : List Int} {j : Nat} {S : Sto} {P : Va → Sto → Prop} (q : P (.tup (iV (xs.take j))) S) : Rw (slcOp (.tup (iV xs)) none (some (.int (j : Nat))) S) P := by
  refine sl_tup (lo := none) (hi := some (j : Int)) ?_
  rw [cut_to, iV, ← List.map_take]
  exact q
theorem sl_from {xs : List Int} {j : Nat} {S : Sto} {P : Va → Sto → Prop} (q : P (.tup (iV (xs.drop j))) S) : Rw (slcOp (.tup (iV xs)) (some (.int (j : Nat))) none S) P := by
  refine sl_tup (lo := some (j : Int)) (hi := none) ?_
  rw [cut_from, iV, ← List.map_drop]
  exact q
theorem w_ends (n : Nat) {b c m : Nat} {k : Int} {word : List Int} {S : Sto} {P : Va → Sto → Prop}
    (hpair : ∀ Q : Va → Sto → Prop, (∀ xs ys S', xs.length ≤ 2000 → ys.length ≤ 2000 → Bag b c S' → Fr b c S S' → Q (.tup [.tup (iV xs), .tup (iV ys)]) S') → Rw (Rn (n + 3) 36 [.ref b, .int k, .tup (iV word)] S) Q)
    (q : ∀ S', Bag b c S' → Fr b c S S' → P (.bl true) S') : Rw (Rn (n + 4) 37 [.ref b, .int k, .tup (iV word)] S) P := by
  refine w_run (d := k01_37) rfl rfl ?_
  have es := sizeLine_eq
  repeat walk_at "ev"
  with_reducible refine hpair _ fun xs ys S1 l1 l2 B1 f1 => ?_
  repeat walk_at "ev"
  with_reducible refine w_lbegin (n + 2) ?_
  rw [show xs.take (lcp xs ys) = bgn xs ys from rfl]
  repeat walk_at "ev"
  with_reducible refine w_lturn (n + 2) (by omega) fun T1 => ?_
  repeat walk_at "ev"
  with_reducible refine w_lturn (n + 2) (by omega) fun T2 => ?_
  repeat walk_at "ev"
  with_reducible refine w_lbegin (n + 2) ?_
  rw [show xs.reverse.take (lcp xs.reverse ys.reverse) = bgn xs.reverse ys.reverse from rfl]
  repeat walk_at "ev"
  have lb := bgn_len xs ys
  have lf := fin_len xs ys
  have lr : (bgn xs.reverse ys.reverse).length ≤ xs.length := by have := bgn_len xs.reverse ys.reverse; rw [List.length_reverse] at this; exact this
  with_reducible refine w_lturn (n + 2) (by omega) fun T3 => ?_
  rw [show (bgn xs.reverse ys.reverse).reverse = fin xs ys from rfl]
  repeat walk_at "ev"
  with_reducible refine w_cb (n + 1) (by omega) ?_
  repeat walk_at "ev"
  with_reducible refine w_cend (n + 1) (by omega) ?_
  repeat walk_at "ev"
  with_reducible refine w_nums (n + 2) (by omega) fun T4 => ?_
  rw [decide_eq_true (rfl : bgn xs ys = bgn xs ys)]
  repeat walk_at "ev"
  refine w_or (fun _ => ?_) (fun z => Bool.noConfusion z)
  repeat walk_at "ev"
  refine ⟨_, rfl, ?_⟩
  with_reducible refine w_cb (n + 1) (by omega) ?_
  rw [bgn_comm xs ys]
  repeat walk_at "ev"
  with_reducible refine w_nums (n + 2) (by omega) fun T5 => ?_
  rw [decide_eq_true (rfl : bgn xs ys = bgn xs ys)]
  repeat walk_at "ev"
  refine ⟨fun z => Bool.noConfusion z, fun _ => ?_⟩
  repeat walk_at "ev"
  with_reducible refine w_nums (n + 2) (by omega) fun T6 => ?_
  rw [decide_eq_true (rfl : fin xs ys = fin xs ys)]
  repeat walk_at "ev"
  refine w_or (fun _ => ?_) (fun z => Bool.noConfusion z)
  repeat walk_at "ev"
  refine ⟨_, rfl, ?_⟩
  with_reducible refine w_cend (n + 1) (by omega) ?_
  rw [fin_comm xs ys]
  repeat walk_at "ev"
  with_reducible refine w_nums (n + 2) (by omega) fun T7 => ?_
  rw [decide_eq_true (rfl : fin xs ys = fin xs ys)]
  repeat walk_at "ev"
  refine ⟨fun z => Bool.noConfusion z, fun _ => ?_⟩
  repeat walk_at "ev"
  with_reducible refine w_turned (n + 2) ?_
  repeat walk_at "ev"
  with_reducible refine w_turned (n + 2) ?_
  repeat walk_at "ev"
  refine ⟨by show 2 ≤ sizeLine; omega, ?_⟩
  repeat walk_at "ev"
  refine ix_tup atI0 ?_
  repeat walk_at "ev"
  refine ix_tup atI1 ?_
  repeat walk_at "ev"
  with_reducible refine w_cend (n + 1) (by rw [List.length_reverse]; omega) ?_
  rw [fin_rev]
  repeat walk_at "ev"
  with_reducible refine w_lturn (n + 2) (by omega) fun T8 => ?_
  repeat walk_at "ev"
  with_reducible refine w_nums (n + 2) (by rw [List.length_reverse]; omega) fun T9 => ?_
  rw [decide_eq_true (rfl : (bgn xs ys).reverse = (bgn xs ys).reverse)]
  repeat walk_at "ev"
  refine ⟨fun z => Bool.noConfusion z, fun _ => ?_⟩
  repeat walk_at "ev"
  refine ix_tup atI0 ?_
  repeat walk_at "ev"
  refine ix_tup atI1 ?_
  repeat walk_at "ev"
  with_reducible refine w_cb (n + 1) (by rw [List.length_reverse]; omega) ?_
  rw [bgn_rev]
  repeat walk_at "ev"
  with_reducible refine w_lturn (n + 2) (by omega) fun T10 => ?_
  repeat walk_at "ev"
  with_reducible refine w_nums (n + 2) (by rw [List.length_reverse]; omega) fun T11 => ?_
  rw [decide_eq_true (rfl : (fin xs ys).reverse = (fin xs ys).reverse)]
  repeat walk_at "ev"
  refine ⟨fun z => Bool.noConfusion z, fun _ => ?_⟩
  repeat walk_at "ev"
  with_reducible refine w_cb (n + 1) (by omega) ?_
  rw [bgn_bgn]
  repeat walk_at "ev"
  with_reducible refine w_nums (n + 2) (by omega) fun T12 => ?_
  rw [decide_eq_true (rfl : bgn xs ys = bgn xs ys)]
  repeat walk_at "ev"
  with_reducible refine w_cend (n + 1) (by omega) ?_
  rw [fin_fin]
  repeat walk_at "ev"
  with_reducible refine w_nums (n + 2) (by omega) fun T13 => ?_
  rw [decide_eq_true (rfl : fin xs ys = fin xs ys)]
  repeat walk_at "ev"
  have z := q (S1 ++ (T1 ++ (T2 ++ (T3 ++ (T4 ++ (T5 ++ (T6 ++ (T7 ++ (T8 ++ (T9 ++ (T10 ++ (T11 ++ (T12 ++ T13))))))))))))) (B1.grow _) (f1.trans (Fr.grow _))
  simp only [List.append_assoc] at z ⊢
  exact z
end EV

end
section
set_option Elab.async false
set_option linter.all false
set_option maxRecDepth 100000
set_option maxHeartbeats 4000000
namespace EV
open PySem
local macro_rules | `(tactic| walk_at "ev") => `(tactic| with_reducible first
  | refine f_cons ?_ | refine f_nil ?_ | refine f_asg ?_ | refine f_par ?_ | refine f_asgIx ?_ | refine f_expr ?_ | refine f_ret ?_ | refine f_ite ?_ | refine f_for ?_ | refine f_pass ?_ | refine f_brk ?_ | refine f_cont ?_
  | refine w_var (by with_unfolding_all rfl) ?_ | refine w_cI ?_ | refine w_cS ?_ | refine w_cN ?_ | refine w_cB ?_ | refine w_gI ?_ | refine w_bin ?_ | refine w_neg ?_ | refine w_not ?_ | refine w_cmp ?_ | refine w_chn ?_ | refine w_bool ?_ | refine w_bnil ?_ | refine w_if ?_
  | refine w_tup ?_ | refine w_lst ?_ | refine w_dic ?_ | refine w_idx ?_ | refine w_slc ?_ | refine w_bno ?_ | refine w_bso ?_ | refine w_rev ?_ | refine w_call ?_ | refine w_callK ?_ | refine w_bi ?_ | refine w_me ?_ | refine w_ist ?_ | refine w_comp ?_ | refine w_nil ?_ | refine w_cons ?_
  | refine w_seq ?_ | refine w_rng1 ?_ | refine w_rng2 ?_ | refine w_enum ?_ | refine w_zip ?_ | refine w_ono ?_ | refine w_oso ?_
  | refine bi_int ?_ | refine bi_abs ?_ | refine bi_lenT ?_ | refine bi_tupT ?_ | refine b_addI ?_ | refine b_subI ?_ | refine c_eqI ?_ | refine c_neI ?_ | refine c_ltI ?_ | refine c_leI ?_ | refine c_gtI ?_ | refine c_geI ?_ | refine e_bl ?_ | refine e_iI ?_ | refine e_set (by with_unfolding_all rfl) ?_
  | refine pick_t ?_ | refine pick_f ?_ | refine is_int ?_ | refine is_non ?_ | refine is_tup ?_ | refine is_str ?_ | refine isn_int ?_ | refine isn_non ?_ | refine isn_tup ?_ | refine ist_tup ?_ | refine ist_tupS ?_ | refine ist_strS ?_ | refine ist_strT ?_ | refine ist_intI ?_ | refine ist_intB ?_ | refine ist_intT ?_
  | refine w_andT ?_ | refine w_andF ?_ | refine w_orF ?_ | refine w_orT ?_)


theorem bi_max {i j : Int} {S : Sto} {P : Va → Sto → Prop} (q : P (.int (if j > i then j else i)) S) : Rw (biOp .max2 [.int i, .int j] S) P := .ok q
theorem sl_fromI {xs : List Int} {i : Int} {j : Nat} {S : Sto} {P : Va → Sto → Prop} (e : i = (j : Nat)) (q : P (.tup (iV (xs.drop j))) S) : Rw (slcOp (.tup (iV xs)) (some (.int i)) none S) P := by
  subst e; exact sl_from q
theorem sl_toI {xs : List Int} {i : Int} {j : Nat} {S : Sto} {P : Va → Sto → Prop} (e : i = (j : Nat)) (q : P (.tup (iV (xs.take j))) S) : Rw (slcOp (.tup (iV xs)) none (some (.int i)) S) P := by
  subst e; exact sl_to q
theorem b_repTI {m : Nat} {i : Int} {xs : List Int} {S : Sto} {P : Va → Sto → Prop} (e : i = (m : Nat)) (hz : m * xs.length ≤ sizeLine) (hm : m ≤ sizeLine) (q : P (.tup (iV (repI m xs))) S) : Rw (binOp .Mult (.tup (iV xs)) (.int i) S) P := by
  subst e; exact b_repT hz hm q
theorem w_pair (n : Nat) {b c : Nat} {k : Int} (hk : 0 < k) (hk2 : k < 1073741824) {word : List Int} (hm : word.length ≤ 600) {S : Sto} {P : Va → Sto → Prop} (B : Bag b c S)
    (q : ∀ xs ys S', xs.length ≤ 2000 → ys.length ≤ 2000 → Bag b c S' → Fr b c S S' → P (.tup [.tup (iV xs), .tup (iV ys)]) S') : Rw (Rn (n + 3) 36 [.ref b, .int k, .tup (iV word)] S) P := by
  refine w_run (d := k01_36) rfl rfl ?_
  have es := sizeLine_eq
  have two : 2 ≤ sizeLine := by omega
  repeat walk_at "ev"
  rw [List.length_map]
  generalize hM : word.length = M at hm
  with_reducible refine w_draw (n + 1) (below := (M : Int) + 1) (by omega) (by omega) B fun at_ S1 a1 a2 B1 f1 => ?_
  obtain ⟨j, rfl⟩ := Int.eq_ofNat_of_zero_le a1
  have hj : j ≤ M := by omega
  repeat walk_at "ev"
  with_reducible refine w_draw (n + 1) (by decide) (by decide) B1 fun way S2 w1 w2 B2 f2 => ?_
  have g2 := f1.trans f2
  repeat walk_at "ev"
  refine ⟨fun e => ?_, fun e => ?_⟩
  · repeat walk_at "ev"
    exact ⟨two, q word word S2 (by omega) (by omega) B2 g2⟩
  repeat walk_at "ev"
  refine ⟨fun e => ?_, fun e => ?_⟩
  · repeat walk_at "ev"
    with_reducible refine w_draw (n + 1) (by decide) (by decide) B2 fun u S3 _ _ B3 f3 => ?_
    repeat walk_at "ev"
    refine ⟨fun e => ?_, fun e => ?_⟩
    · repeat walk_at "ev"
      refine sl_to ?_
      repeat walk_at "ev"
      exact ⟨two, q word (word.take j) S3 (by omega) (by rw [List.length_take]; omega) B3 (g2.trans f3)⟩
    · repeat walk_at "ev"
      refine sl_from ?_
      repeat walk_at "ev"
      exact ⟨two, q (word.drop j) word S3 (by rw [List.length_drop]; omega) (by omega) B3 (g2.trans f3)⟩
  repeat walk_at "ev"
  refine ⟨fun e => ?_, fun e => ?_⟩
  · repeat walk_at "ev"
    with_reducible refine w_draw (n + 1) hk hk2 B2 fun a S3 _ _ B3 f3 => ?_
    repeat walk_at "ev"
    refine ⟨by show 1 ≤ sizeLine; omega, ?_⟩
    repeat walk_at "ev"
    refine b_repTI (xs := [a]) (m := M) rfl (by show M * 1 ≤ sizeLine; omega) (by omega) ?_
    repeat walk_at "ev"
    refine ⟨by show 1 ≤ sizeLine; omega, ?_⟩
    repeat walk_at "ev"
    refine b_repTI (xs := [a]) (m := j) rfl (by show j * 1 ≤ sizeLine; omega) (by omega) ?_
    repeat walk_at "ev"
    exact ⟨two, q (repI M [a]) (repI j [a]) S3 (by rw [rep_len]; show M * 1 ≤ 2000; omega) (by rw [rep_len]; show j * 1 ≤ 2000; omega) B3 (g2.trans f3)⟩
  repeat walk_at "ev"
  refine ⟨fun e => ?_, fun e => ?_⟩
  · repeat walk_at "ev"
    with_reducible refine w_word n hk hk2 (m := j) (by omega) B2 fun ys S3 hy _ B3 f3 => ?_
    repeat walk_at "ev"
    exact ⟨two, q word ys S3 (by omega) (by omega) B3 (g2.trans f3)⟩
  repeat walk_at "ev"
  refine ⟨fun e => ?_, fun e => ?_⟩
  · repeat walk_at "ev"
    with_reducible refine w_draw (n + 1) hk hk2 B2 fun a S3 _ _ B3 f3 => ?_
    repeat walk_at "ev"
    refine ⟨by show 1 ≤ sizeLine; omega, ?_⟩
    repeat walk_at "ev"
    refine ⟨fun e => ?_, fun e => ?_⟩
    · repeat walk_at "ev"
      refine bi_max ?_
      repeat walk_at "ev"
      refine sl_toI (j := M - 1) (by split <;> omega) ?_
      repeat walk_at "ev"
      refine b_catI (ys := [a]) (by rw [List.length_take]; show min (M - 1) word.length + 1 ≤ sizeLine; omega) ?_
      repeat walk_at "ev"
      exact ⟨two, q word (word.take (M - 1) ++ [a]) S3 (by omega) (by rw [List.length_append, List.length_take]; show min (M - 1) word.length + 1 ≤ 2000; omega) B3 (g2.trans f3)⟩
    · repeat walk_at "ev"
      refine sl_fromI (j := 1) rfl ?_
      repeat walk_at "ev"
      refine b_catI (xs := [a]) (by rw [List.length_drop]; show 1 + (word.length - 1) ≤ sizeLine; omega) ?_
      repeat walk_at "ev"
      exact ⟨two, q ([a] ++ word.drop 1) word S3 (by rw [List.length_append, List.length_drop]; show 1 + (word.length - 1) ≤ 2000; omega) (by omega) B3 (g2.trans f3)⟩
  repeat walk_at "ev"
  refine sl_to ?_
  repeat walk_at "ev"
  refine sl_from ?_
  repeat walk_at "ev"
  with_reducible refine w_draw (n + 1) (by decide) (by decide) B2 fun u S3 u1 u2 B3 f3 => ?_
  obtain ⟨u, rfl⟩ := Int.eq_ofNat_of_zero_le u1
  repeat walk_at "ev"
  with_reducible refine w_word n hk hk2 (m := u) (by omega) B3 fun xs S4 hx _ B4 f4 => ?_
  repeat walk_at "ev"
  with_reducible refine w_draw (n + 1) (by decide) (by decide) B4 fun v S5 v1 v2 B5 f5 => ?_
  obtain ⟨v, rfl⟩ := Int.eq_ofNat_of_zero_le v1
  repeat walk_at "ev"
  with_reducible refine w_word n hk hk2 (m := v) (by omega) B5 fun ys S6 hy _ B6 f6 => ?_
  have lt : (word.take j).length ≤ 600 := by rw [List.length_take]; omega
  have ld : (word.drop j).length ≤ 600 := by rw [List.length_drop]; omega
  repeat walk_at "ev"
  refine b_catI (by omega) ?_
  repeat walk_at "ev"
  refine b_catI (by rw [List.length_append]; omega) ?_
  repeat walk_at "ev"
  refine sl_toI (j := 600) rfl ?_
  repeat walk_at "ev"
  refine b_catI (by omega) ?_
  repeat walk_at "ev"
  refine b_catI (by rw [List.length_append]; omega) ?_
  repeat walk_at "ev"
  refine sl_toI (j := 600) rfl ?_
  repeat walk_at "ev"
  exact ⟨two, q _ _ S6 (by rw [List.length_take]; omega) (by rw [List.length_take]; omega) B6 (g2.trans (f3.trans (f4.trans (f5.trans f6))))⟩
/-- the ends are right, with the pair that is drawn -/
theorem w_endsr (n : Nat) {b c : Nat} {k : Int} (hk : 0 < k) (hk2 : k < 1073741824) {word : List Int} (hm : word.length ≤ 600) {S : Sto} {P : Va → Sto → Prop} (B : Bag b c S)
    (q : ∀ S', Bag b c S' → Fr b c S S' → P (.bl true) S') : Rw (Rn (n + 4) 37 [.ref b, .int k, .tup (iV word)] S) P :=
  w_ends n (m := 0) (fun _ qq => w_pair n hk hk2 hm B qq) q
end EV

end
section
set_option Elab.async false
set_option linter.all false
set_option maxRecDepth 100000
set_option maxHeartbeats 4000000
namespace EV
open PySem
local macro_rules | `(tactic| walk_at "ev") => `(tactic| with_reducible first
  | refine f_cons ?_ | refine f_nil ?_ | refine f_asg ?_ | refine f_par ?_ | refine f_asgIx ?_ | refine f_expr ?_ | refine f_ret ?_ | refine f_ite ?_ | refine f_for ?_ | refine f_pass ?_ | refine f_brk ?_ | refine f_cont ?_
  | refine w_var (by with_unfolding_all rfl) ?_ | refine w_cI ?_ | refine w_cS ?_ | refine w_cN ?_ | refine w_cB ?_ | refine w_gI ?_ | refine w_bin ?_ | refine w_neg ?_ | refine w_not ?_ | refine w_cmp ?_ | refine w_chn ?_ | refine w_bool ?_ | refine w_bnil ?_ | refine w_if ?_
  | refine w_tup ?_ | refine w_lst ?_ | refine w_dic ?_ | refine w_idx ?_ | refine w_slc ?_ | refine w_bno ?_ | refine w_bso ?_ | refine w_rev ?_ | refine w_call ?_ | refine w_callK ?_ | refine w_bi ?_ | refine w_me ?_ | refine w_ist ?_ | refine w_comp ?_ | refine w_nil ?_ | refine w_cons ?_
  | refine w_seq ?_ | refine w_rng1 ?_ | refine w_rng2 ?_ | refine w_enum ?_ | refine w_zip ?_ | refine w_ono ?_ | refine w_oso ?_
  | refine bi_int ?_ | refine bi_abs ?_ | refine bi_lenT ?_ | refine bi_tupT ?_ | refine b_addI ?_ | refine b_subI ?_ | refine c_eqI ?_ | refine c_neI ?_ | refine c_ltI ?_ | refine c_leI ?_ | refine c_gtI ?_ | refine c_geI ?_ | refine e_bl ?_ | refine e_iI ?_ | refine e_set (by with_unfolding_all rfl) ?_
  | refine pick_t ?_ | refine pick_f ?_ | refine is_int ?_ | refine is_non ?_ | refine is_tup ?_ | refine is_str ?_ | refine isn_int ?_ | refine isn_non ?_ | refine isn_tup ?_ | refine ist_tup ?_ | refine ist_tupS ?_ | refine ist_strS ?_ | refine ist_strT ?_ | refine ist_intI ?_ | refine ist_intB ?_ | refine ist_intT ?_
  | refine w_andT ?_ | refine w_andF ?_ | refine w_orF ?_ | refine w_orT ?_)


theorem sm_int {i : Int} (h : -1000000 ≤ i) (h2 : i ≤ 1000000) : small62 i = true := by
  unfold small62
  rw [decide_eq_true (by omega), decide_eq_true (by omega)]; rfl
def atB (w p : List Int) (g : Nat) : Bool := decide ((w.drop g).take p.length = p)
def atL (w p : List Int) (K : Nat) : List Int := ((List.range K).filter (atB w p)).map Int.ofNat
theorem atL_more (w p : List Int) : ∀ d : Nat, w.length + 1 - p.length + d ≤ w.length + 1 → atL w p (w.length + 1 - p.length + d) = atL w p (w.length + 1 - p.length)
  | 0, _ => rfl
  | d + 1, h => by
    rw [← atL_more w p d (by omega)]
    unfold atL
    have e : atB w p (w.length + 1 - p.length + d) = false := by
      refine decide_eq_false fun z => ?_
      have := congrArg List.length z
      rw [List.length_take, List.length_drop] at this
      omega
    rw [show w.length + 1 - p.length + (d + 1) = (w.length + 1 - p.length + d) + 1 from rfl, List.range_succ, List.filter_append]
    simp [e]
theorem atL_full (w p : List Int) : atL w p (w.length + 1) = atL w p (w.length + 1 - p.length) := by
  have := atL_more w p (w.length + 1 - (w.length + 1 - p.length)) (by omega)
  rw [← this]
  congr 1
  omega
theorem atL_len (w p : List Int) (K : Nat) : (atL w p K).length ≤ K := by
  unfold atL
  rw [List.length_map]
  exact Nat.le_trans (List.length_filter_le _ _) (by rw [List.length_range]; exact Nat.le_refl _)
/-- a turn that asks whether the part stands at a gap -/
theorem sl_midI {xs : List Int} {i j : Int} {a l : Nat} {S : Sto} {P : Va → Sto → Prop} (e : i = (a : Nat)) (e2 : j = (a : Int) + (l : Nat)) (q : P (.tup (iV ((xs.drop a).take l))) S) : Rw (slcOp (.tup (iV xs)) (some (.int i)) (some (.int j)) S) P := by
  subst e
  rw [show (a : Int) + (l : Nat) = ((a + l : Nat) : Int) by omega] at e2
  subst e2
  refine sl_tup (lo := some (a : Int)) (hi := some ((a + l : Nat) : Int)) ?_
  rw [cut_mid, iV, ← List.map_drop, ← List.map_take, Nat.add_sub_cancel_left]
  exact q
theorem at_iV (w p : List Int) (K : Nat) : (List.range K).filterMap (fun g => if atB w p g then some (Va.int (g : Nat)) else none) = iV (atL w p K) := by
  rw [fm_if]
  unfold atL
  rw [iV, List.map_map]; rfl
theorem w_parts (n : Nat) {w p : List Int} (hw : w.length ≤ 1000) (hp : p.length ≤ 1000) {S : Sto} {P : Va → Sto → Prop} (q : ∀ T, P (.tup (iV (atL w p (w.length + 1)))) (S ++ T)) : Rw (Rn (n + 1) 11 [.tup (iV w), .tup (iV p)] S) P := by
  refine w_run (d := k01_11) rfl rfl ?_
  have es := sizeLine_eq
  repeat walk_at "ev"
  rw [List.length_map, List.length_map]
  refine ⟨sm_int (by omega) (by omega), ?_⟩
  refine w_map (fun g : Nat => if atB w p g then some (.int (g : Nat)) else none) stay_nil (fun i x hx => ?_) ?_
  · obtain ⟨hi, rfl⟩ := rng_get (lo := 0) hx
    rw [Int.zero_add]
    refine w_turn rfl ?_
    repeat walk_at "ev"
    refine sl_midI (a := i) (l := p.length) rfl rfl ?_
    repeat walk_at "ev"
    refine c_eqT ?_
    refine .inr ⟨_, rfl, fun e => ?_, fun e => ?_⟩
    · repeat walk_at "ev"
      exact ⟨by rw [if_pos (show atB w p i = true from e)], rfl⟩
    · exact ⟨by rw [if_neg (by unfold atB; rw [e]; exact Bool.false_ne_true)], rfl⟩
  · have el : (rangeW 0 ((w.length : Int) - p.length + 1)).items.length = w.length + 1 - p.length := by
      unfold rangeW
      rw [List.length_map, List.length_range]
      omega
    rw [el, at_iV, ← atL_full]
    have hl : (iV (atL w p (w.length + 1))).length ≤ sizeLine := by
      rw [List.length_map]
      exact Nat.le_trans (atL_len _ _ _) (by omega)
    refine w_newL hl ?_
    repeat walk_at "ev"
    refine bi_tupL at_end hl ?_
    exact q _
theorem w_size (n : Nat) {b c t : Nat} (ht : t < 6) {S : Sto} {P : Va → Sto → Prop} (B : Bag b c S) (q : ∀ (m : Nat) S', m ≤ 600 → Bag b c S' → Fr b c S S' → P (.int (m : Nat)) S') : Rw (Rn (n + 2) 39 [.ref b, .int (t : Nat)] S) P := by
  refine w_run (d := k01_39) rfl rfl ?_
  have es := sizeLine_eq
  repeat walk_at "ev"
  refine ⟨fun e => ?_, fun e => ?_⟩
  · have h5 := of_decide_eq_true e
    repeat walk_at "ev"
    refine ⟨fun e1 => ?_, fun e1 => ?_⟩
    · repeat walk_at "ev"
      with_reducible refine w_draw n (by decide) (by decide) B fun u S2 u1 u2 B2 f2 => ?_
      obtain ⟨u, rfl⟩ := Int.eq_ofNat_of_zero_le u1
      repeat walk_at "ev"
      exact q u S2 (by omega) B2 f2
    · have h1 := of_decide_eq_false e1
      repeat walk_at "ev"
      with_reducible refine w_draw n (by decide) (by decide) B fun u S2 u1 u2 B2 f2 => ?_
      repeat walk_at "ev"
      with_reducible refine w_draw n (by decide) (by decide) B2 fun v S3 v1 v2 B3 f3 => ?_
      obtain ⟨u, rfl⟩ := Int.eq_ofNat_of_zero_le u1
      obtain ⟨v, rfl⟩ := Int.eq_ofNat_of_zero_le v1
      repeat walk_at "ev"
      refine w_newL (by show 2 ≤ sizeLine; omega) ?_
      repeat walk_at "ev"
      have fS := f2.trans (f3.trans (Fr.grow (S := S3) [Ob.lst [Va.int (u : Nat), Va.int (24 - (v : Nat))]]))
      match t, h1 with
      | 0, _ =>
        refine ix_lst at_end atI0 ?_
        exact q u _ (by omega) (B3.grow _) fS
      | 1, _ =>
        refine ix_lst at_end atI1 ?_
        have ev : (24 - (v : Nat) : Int) = ((24 - v : Nat) : Int) := by omega
        have z := q (24 - v) _ (by omega) (B3.grow _) fS
        rw [← ev] at z
        exact z
      | t + 2, h => exact absurd (show (1 : Int) < ((t + 2 : Nat) : Int) by omega) h
  · repeat walk_at "ev"
    with_reducible refine w_draw n (by decide) (by decide) B fun u S2 u1 u2 B2 f2 => ?_
    repeat walk_at "ev"
    refine ⟨fun e1 => ?_, fun e1 => ?_⟩
    · repeat walk_at "ev"
      exact q 600 S2 (by omega) B2 f2
    · repeat walk_at "ev"
      with_reducible refine w_draw n (by decide) (by decide) B2 fun v S3 v1 v2 B3 f3 => ?_
      obtain ⟨v, rfl⟩ := Int.eq_ofNat_of_zero_le v1
      repeat walk_at "ev"
      have ev : (25 + (v : Nat) : Int) = ((25 + v : Nat) : Int) := by omega
      rw [ev]
      exact q (25 + v) S3 (by omega) B3 (f2.trans f3)
end EV

end
section
set_option Elab.async false
set_option linter.all false
set_option maxRecDepth 100000
set_option maxHeartbeats 4000000
namespace EV
open PySem
local macro_rules | `(tactic| walk_at "ev") => `(tactic| with_reducible first
  | refine f_cons ?_ | refine f_nil ?_ | refine f_asg ?_ | refine f_par ?_ | refine f_asgIx ?_ | refine f_expr ?_ | refine f_ret ?_ | refine f_ite ?_ | refine f_for ?_ | refine f_pass ?_ | refine f_brk ?_ | refine f_cont ?_
  | refine w_var (by with_unfolding_all rfl) ?_ | refine w_cI ?_ | refine w_cS ?_ | refine w_cN ?_ | refine w_cB ?_ | refine w_gI ?_ | refine w_bin ?_ | refine w_neg ?_ | refine w_not ?_ | refine w_cmp ?_ | refine w_chn ?_ | refine w_bool ?_ | refine w_bnil ?_ | refine w_if ?_
  | refine w_tup ?_ | refine w_lst ?_ | refine w_dic ?_ | refine w_idx ?_ | refine w_slc ?_ | refine w_bno ?_ | refine w_bso ?_ | refine w_rev ?_ | refine w_call ?_ | refine w_callK ?_ | refine w_bi ?_ | refine w_me ?_ | refine w_ist ?_ | refine w_comp ?_ | refine w_nil ?_ | refine w_cons ?_
  | refine w_seq ?_ | refine w_rng1 ?_ | refine w_rng2 ?_ | refine w_enum ?_ | refine w_zip ?_ | refine w_ono ?_ | refine w_oso ?_
  | refine bi_int ?_ | refine bi_abs ?_ | refine bi_lenT ?_ | refine bi_tupT ?_ | refine b_addI ?_ | refine b_subI ?_ | refine c_eqI ?_ | refine c_neI ?_ | refine c_ltI ?_ | refine c_leI ?_ | refine c_gtI ?_ | refine c_geI ?_ | refine e_bl ?_ | refine e_iI ?_ | refine e_set (by with_unfolding_all rfl) ?_
  | refine pick_t ?_ | refine pick_f ?_ | refine is_int ?_ | refine is_non ?_ | refine is_tup ?_ | refine is_str ?_ | refine isn_int ?_ | refine isn_non ?_ | refine isn_tup ?_ | refine ist_tup ?_ | refine ist_tupS ?_ | refine ist_strS ?_ | refine ist_strT ?_ | refine ist_intI ?_ | refine ist_intB ?_ | refine ist_intT ?_
  | refine w_andT ?_ | refine w_andF ?_ | refine w_orF ?_ | refine w_orT ?_)


def tV (ps : List (List Int)) : List Va := ps.map fun p => .tup (iV p)
@[reducible] def r38 : Sxs := match k01_38.body with
  | .cons _ (.cons _ (.cons _ (.cons _ (.cons _ (.cons _ r))))) => r
  | _ => .nil
theorem p38_loop (n : Nat) {b L : Nat} {k : Int} {w : List Int} (hw : w.length ≤ 600) {ps : List (List Int)} (hp : ∀ p ∈ ps, p.length ≤ 1000) {a4 a5 a7 a8 a9 a10 : Option Va} {S : Sto} {N : Way} (h : S[L]? = some (.lst (tV ps)))
    (q : ∀ T, N.rt (.bl true) (S ++ T)) : Fw (evSs (Kr k01_D k01_anc k01_fuel (n + 1)) none r38 [some (.ref b), some (.int k), some (.tup (iV w)), some (.int (w.length : Nat)), a4, a5, some (.ref L), a7, a8, a9, a10] S) N := by
  have es := sizeLine_eq
  repeat walk_at "ev"
  refine sw_ref h ?_
  refine f_turns (fun i ρ S2 => (∃ T, S2 = S ++ T) ∧ ∃ a7 a8 a9 a10, ρ = [some (.ref b), some (.int k), some (.tup (iV w)), some (.int (w.length : Nat)), a4, a5, some (.ref L), a7, a8, a9, a10]) ⟨⟨[], by rw [List.append_nil]⟩, _, _, _, _, rfl⟩ (fun i ρ S2 _ z => ?_) (fun i v ρ S2 hx z => ?_) (fun ρ S2 z => ?_)
  · obtain ⟨⟨T, rfl⟩, _⟩ := z
    exact stay_one (at_grow h)
  · obtain ⟨⟨T, rfl⟩, a7, a8, a9, a10, rfl⟩ := z
    obtain ⟨p, hp2, rfl⟩ := List.mem_map.mp (List.mem_of_getElem? hx)
    have hpl := hp p hp2
    refine ⟨_, rfl, ?_⟩
    repeat walk_at "ev"
    rw [show ((w.length : Nat) : Int) + 1 = ((w.length + 1 : Nat) : Int) by omega]
    refine ⟨small_nat (by omega), ?_⟩
    refine w_map (fun g : Nat => if atB w p g then some (.int (g : Nat)) else none) stay_nil (fun i x hx => ?_) ?_
    · obtain ⟨hi, rfl⟩ := rng0_get hx
      refine w_turn rfl ?_
      repeat walk_at "ev"
      rw [List.length_map]
      refine sl_midI (a := i) (l := p.length) rfl rfl ?_
      repeat walk_at "ev"
      refine c_eqT ?_
      refine .inr ⟨_, rfl, fun e => ?_, fun e => ?_⟩
      · repeat walk_at "ev"
        exact ⟨by rw [if_pos (show atB w p i = true from e)], rfl⟩
      · exact ⟨by rw [if_neg (by unfold atB; rw [e]; exact Bool.false_ne_true)], rfl⟩
    · rw [rng0_len, at_iV]
      have hl0 : (atL w p (w.length + 1)).length ≤ sizeLine := Nat.le_trans (atL_len _ _ _) (by omega)
      have hl : (iV (atL w p (w.length + 1))).length ≤ sizeLine := by
        rw [List.length_map]; exact hl0
      refine w_newL hl ?_
      repeat walk_at "ev"
      refine bi_tupL at_end hl ?_
      repeat walk_at "ev"
      with_reducible refine w_parts n (by omega) hpl fun T2 => ?_
      repeat walk_at "ev"
      with_reducible refine w_nums n hl0 fun T3 => ?_
      rw [decide_eq_true (rfl : atL w p (w.length + 1) = atL w p (w.length + 1))]
      repeat walk_at "ev"
      refine w_or (fun _ => ?_) (fun z => Bool.noConfusion z)
      repeat walk_at "ev"
      refine ⟨_, rfl, ?_⟩
      with_reducible refine w_parts n (by omega) hpl fun T4 => ?_
      repeat walk_at "ev"
      with_reducible refine w_nums n hl0 fun T5 => ?_
      rw [decide_eq_true (rfl : atL w p (w.length + 1) = atL w p (w.length + 1))]
      repeat walk_at "ev"
      refine ⟨fun z => Bool.noConfusion z, fun _ => ?_⟩
      repeat walk_at "ev"
      exact ⟨⟨T ++ ([Ob.lst (iV (atL w p (w.length + 1)))] ++ (T2 ++ (T3 ++ (T4 ++ T5)))), by simp only [List.append_assoc]⟩, _, _, _, _, rfl⟩
  · obtain ⟨⟨T, rfl⟩, a7, a8, a9, a10, rfl⟩ := z
    repeat walk_at "ev"
    exact q T
end EV

end
section
set_option Elab.async false
set_option linter.all false
set_option maxRecDepth 100000
set_option maxHeartbeats 4000000
namespace EV
open PySem
local macro_rules | `(tactic| walk_at "ev") => `(tactic| with_reducible first
  | refine f_cons ?_ | refine f_nil ?_ | refine f_asg ?_ | refine f_par ?_ | refine f_asgIx ?_ | refine f_expr ?_ | refine f_ret ?_ | refine f_ite ?_ | refine f_for ?_ | refine f_pass ?_ | refine f_brk ?_ | refine f_cont ?_
  | refine w_var (by with_unfolding_all rfl) ?_ | refine w_cI ?_ | refine w_cS ?_ | refine w_cN ?_ | refine w_cB ?_ | refine w_gI ?_ | refine w_bin ?_ | refine w_neg ?_ | refine w_not ?_ | refine w_cmp ?_ | refine w_chn ?_ | refine w_bool ?_ | refine w_bnil ?_ | refine w_if ?_
  | refine w_tup ?_ | refine w_lst ?_ | refine w_dic ?_ | refine w_idx ?_ | refine w_slc ?_ | refine w_bno ?_ | refine w_bso ?_ | refine w_rev ?_ | refine w_call ?_ | refine w_callK ?_ | refine w_bi ?_ | refine w_me ?_ | refine w_ist ?_ | refine w_comp ?_ | refine w_nil ?_ | refine w_cons ?_
  | refine w_seq ?_ | refine w_rng1 ?_ | refine w_rng2 ?_ | refine w_enum ?_ | refine w_zip ?_ | refine w_ono ?_ | refine w_oso ?_
  | refine bi_int ?_ | refine bi_abs ?_ | refine bi_lenT ?_ | refine bi_tupT ?_ | refine b_addI ?_ | refine b_subI ?_ | refine c_eqI ?_ | refine c_neI ?_ | refine c_ltI ?_ | refine c_leI ?_ | refine c_gtI ?_ | refine c_geI ?_ | refine e_bl ?_ | refine e_iI ?_ | refine e_set (by with_unfolding_all rfl) ?_
  | refine pick_t ?_ | refine pick_f ?_ | refine is_int ?_ | refine is_non ?_ | refine is_tup ?_ | refine is_str ?_ | refine isn_int ?_ | refine isn_non ?_ | refine isn_tup ?_ | refine ist_tup ?_ | refine ist_tupS ?_ | refine ist_strS ?_ | refine ist_strT ?_ | refine ist_intI ?_ | refine ist_intB ?_ | refine ist_intT ?_
  | refine w_andT ?_ | refine w_andF ?_ | refine w_orF ?_ | refine w_orT ?_)


@[reducible] def t38 : Sxs := match k01_38.body with
  | .cons _ (.cons _ (.cons _ (.cons _ (.cons _ r)))) => r
  | _ => .nil
theorem tV_app (ps : List (List Int)) (p : List Int) : tV ps ++ [.tup (iV p)] = tV (ps ++ [p]) := by unfold tV; rw [List.map_append]; rfl
theorem tV_len (ps : List (List Int)) : (tV ps).length = ps.length := by unfold tV; rw [List.length_map]
theorem p38_app (n : Nat) {b c L : Nat} {k : Int} (hk : 0 < k) (hk2 : k < 1073741824) {w p0 : List Int} (hw : w.length ≤ 600) (h0 : p0.length ≤ 600) {ps : List (List Int)} (hp : ∀ p ∈ ps, p.length ≤ 1000) (hn : ps.length ≤ 10)
    {a4 a7 a8 a9 a10 : Option Va} {S0 S : Sto} {N : Way} (B : Bag b c S) (hL1 : L ≠ b) (hL2 : L ≠ c) (h : S[L]? = some (.lst (tV ps))) (f0 : Fr b c S0 S) (hL0 : S0.length ≤ L)
    (q : ∀ S', Bag b c S' → Fr b c S0 S' → N.rt (.bl true) S') : Fw (evSs (Kr k01_D k01_anc k01_fuel (n + 1)) none t38 [some (.ref b), some (.int k), some (.tup (iV w)), some (.int (w.length : Nat)), a4, some (.tup (iV p0)), some (.ref L), a7, a8, a9, a10] S) N := by
  have es := sizeLine_eq
  repeat walk_at "ev"
  refine ⟨Nat.zero_le _, ?_⟩
  refine c_neT (ns := p0) (ms := []) ?_
  refine e_bl ⟨fun e => ?_, fun e => ?_⟩
  · have hne : p0 ≠ [] := fun z => by subst z; cases e
    have hpos : 0 < p0.length := by cases p0 with
      | nil => exact absurd rfl hne
      | cons a r => exact Nat.succ_pos _
    repeat walk_at "ev"
    rw [List.length_map]
    with_reducible refine w_draw n (below := (p0.length : Nat)) (by omega) (by omega) B fun u S2 u1 u2 B2 f2 => ?_
    obtain ⟨u, rfl⟩ := Int.eq_ofNat_of_zero_le u1
    have h2 := f2.at h hL1 hL2
    repeat walk_at "ev"
    refine ⟨ty_lst h2 (by decide), ?_⟩
    repeat walk_at "ev"
    refine sl_to ?_
    repeat walk_at "ev"
    with_reducible refine w_draw n hk hk2 B2 fun a S3 _ _ B3 f3 => ?_
    have h3 := f3.at h2 hL1 hL2
    repeat walk_at "ev"
    refine ⟨by show 1 ≤ sizeLine; omega, ?_⟩
    repeat walk_at "ev"
    refine b_catI (ys := [a]) (by rw [List.length_take]; show min u p0.length + 1 ≤ sizeLine; omega) ?_
    repeat walk_at "ev"
    refine sl_fromI (j := u + 1) (by omega) ?_
    repeat walk_at "ev"
    have hl : (p0.take u ++ [a]).length ≤ u + 1 := by rw [List.length_append, List.length_take]; show min u p0.length + 1 ≤ u + 1; omega
    have hl2 : (p0.drop (u + 1)).length = p0.length - (u + 1) := List.length_drop
    refine b_catI (by omega) ?_
    repeat walk_at "ev"
    refine mm_app h3 (by rw [tV_len]; omega) ?_
    with_reducible refine f_nil ?_
    rw [tV_app]
    refine p38_loop n hw (ps := ps ++ [p0.take u ++ [a] ++ p0.drop (u + 1)]) (fun p hm => ?_) (at_set h3) fun T => ?_
    · rcases List.mem_append.mp hm with z | z
      · exact hp p z
      · cases List.mem_singleton.mp z
        rw [List.length_append]; omega
    · exact q _ ((B3.set hL1 hL2).grow _) (((f0.trans (f2.trans f3)).setNew hL0).trans (Fr.grow _))
  · with_reducible refine f_nil ?_
    refine p38_loop n hw hp h fun T => ?_
    exact q _ (B.grow _) (f0.trans (Fr.grow _))
end EV

end
section
set_option Elab.async false
set_option linter.all false
set_option maxRecDepth 100000
set_option maxHeartbeats 4000000
namespace EV
open PySem
local macro_rules | `(tactic| walk_at "ev") => `(tactic| with_reducible first
  | refine f_cons ?_ | refine f_nil ?_ | refine f_asg ?_ | refine f_par ?_ | refine f_asgIx ?_ | refine f_expr ?_ | refine f_ret ?_ | refine f_ite ?_ | refine f_for ?_ | refine f_pass ?_ | refine f_brk ?_ | refine f_cont ?_
  | refine w_var (by with_unfolding_all rfl) ?_ | refine w_cI ?_ | refine w_cS ?_ | refine w_cN ?_ | refine w_cB ?_ | refine w_gI ?_ | refine w_bin ?_ | refine w_neg ?_ | refine w_not ?_ | refine w_cmp ?_ | refine w_chn ?_ | refine w_bool ?_ | refine w_bnil ?_ | refine w_if ?_
  | refine w_tup ?_ | refine w_lst ?_ | refine w_dic ?_ | refine w_idx ?_ | refine w_slc ?_ | refine w_bno ?_ | refine w_bso ?_ | refine w_rev ?_ | refine w_call ?_ | refine w_callK ?_ | refine w_bi ?_ | refine w_me ?_ | refine w_ist ?_ | refine w_comp ?_ | refine w_nil ?_ | refine w_cons ?_
  | refine w_seq ?_ | refine w_rng1 ?_ | refine w_rng2 ?_ | refine w_enum ?_ | refine w_zip ?_ | refine w_ono ?_ | refine w_oso ?_
  | refine bi_int ?_ | refine bi_abs ?_ | refine bi_lenT ?_ | refine bi_tupT ?_ | refine b_addI ?_ | refine b_subI ?_ | refine c_eqI ?_ | refine c_neI ?_ | refine c_ltI ?_ | refine c_leI ?_ | refine c_gtI ?_ | refine c_geI ?_ | refine e_bl ?_ | refine e_iI ?_ | refine e_set (by with_unfolding_all rfl) ?_
  | refine pick_t ?_ | refine pick_f ?_ | refine is_int ?_ | refine is_non ?_ | refine is_tup ?_ | refine is_str ?_ | refine isn_int ?_ | refine isn_non ?_ | refine isn_tup ?_ | refine ist_tup ?_ | refine ist_tupS ?_ | refine ist_strS ?_ | refine ist_strT ?_ | refine ist_intI ?_ | refine ist_intB ?_ | refine ist_intT ?_
  | refine w_andT ?_ | refine w_andF ?_ | refine w_orF ?_ | refine w_orT ?_)


theorem w_partsr (n : Nat) {b c : Nat} {k : Int} (hk : 0 < k) (hk2 : k < 1073741824) {word : List Int} (hm : word.length ≤ 600) {S : Sto} {P : Va → Sto → Prop} (B : Bag b c S)
    (q : ∀ S', Bag b c S' → Fr b c S S' → P (.bl true) S') : Rw (Rn (n + 3) 38 [.ref b, .int k, .tup (iV word)] S) P := by
  refine w_run (d := k01_38) rfl rfl ?_
  have es := sizeLine_eq
  repeat walk_at "ev"
  rw [List.length_map]
  with_reducible refine w_draw (n + 1) (below := (word.length : Nat) + 1) (by omega) (by omega) B fun j S1 a1 a2 B1 f1 => ?_
  obtain ⟨j, rfl⟩ := Int.eq_ofNat_of_zero_le a1
  repeat walk_at "ev"
  with_reducible refine w_draw (n + 1) (by decide) (by decide) B1 fun d S2 d1 d2 B2 f2 => ?_
  obtain ⟨d, rfl⟩ := Int.eq_ofNat_of_zero_le d1
  repeat walk_at "ev"
  refine sl_midI (a := j) (l := d) rfl rfl ?_
  have l1 : ((word.drop j).take d).length ≤ 600 := by rw [List.length_take, List.length_drop]; omega
  generalize (word.drop j).take d = part at l1
  repeat walk_at "ev"
  with_reducible refine w_draw (n + 1) (by decide) (by decide) B2 fun u S3 u1 u2 B3 f3 => ?_
  obtain ⟨u, rfl⟩ := Int.eq_ofNat_of_zero_le u1
  repeat walk_at "ev"
  with_reducible refine w_word n hk hk2 (m := u) (by omega) B3 fun xs S4 hx _ B4 f4 => ?_
  repeat walk_at "ev"
  with_reducible refine w_draw (n + 1) hk hk2 B4 fun a S5 _ _ B5 f5 => ?_
  repeat walk_at "ev"
  refine ⟨by show 1 ≤ sizeLine; omega, ?_⟩
  repeat walk_at "ev"
  refine b_catI (ys := [a]) (by show word.length + 1 ≤ sizeLine; omega) ?_
  repeat walk_at "ev"
  refine sl_toI (j := 600) rfl ?_
  have l3 : ((word ++ [a]).take 600).length ≤ 600 := by rw [List.length_take]; omega
  generalize (word ++ [a]).take 600 = sl at l3
  repeat walk_at "ev"
  refine w_newL (by show 3 ≤ sizeLine; omega) ?_
  have g5 := f1.trans (f2.trans (f3.trans (f4.trans f5)))
  have hL : S5.length ≠ b ∧ S5.length ≠ c := by have := B5.lt; omega
  have hL0 : S.length ≤ S5.length := g5.1
  have h6 : (S5 ++ [Ob.lst [Va.tup (iV part), .tup (iV xs), .tup (iV sl)]])[S5.length]? = some (.lst (tV [part, xs, sl])) := at_end
  have B6 := B5.grow [Ob.lst [Va.tup (iV part), .tup (iV xs), .tup (iV sl)]]
  have g6 := g5.trans (Fr.grow [Ob.lst [Va.tup (iV part), .tup (iV xs), .tup (iV sl)]])
  have hps : ∀ p ∈ [part, xs, sl], p.length ≤ 1000 := fun p hq => by
    simp only [List.mem_cons, List.not_mem_nil, or_false] at hq
    rcases hq with rfl | rfl | rfl <;> omega
  repeat walk_at "ev"
  refine w_or (fun e => ?_) (fun e => e_bl ⟨fun _ => ?_, fun z => Bool.noConfusion z⟩)
  · repeat walk_at "ev"
    with_reducible refine w_draw (n + 1) (by decide) (by decide) B6 fun v S7 _ _ B7 f7 => ?_
    have h7 := f7.at h6 hL.1 hL.2
    have g7 := g6.trans f7
    repeat walk_at "ev"
    refine ⟨fun e => ?_, fun e => ?_⟩
    · repeat walk_at "ev"
      refine ⟨ty_lst h7 (by decide), ?_⟩
      repeat walk_at "ev"
      refine ⟨Nat.zero_le _, ?_⟩
      repeat walk_at "ev"
      refine sl_from ?_
      repeat walk_at "ev"
      refine w_newL (by show 3 ≤ sizeLine; omega) ?_
      repeat walk_at "ev"
      refine mm_ext (at_grow h7) at_end (by show 3 + 3 ≤ sizeLine; omega) ?_
      with_reducible refine f_nil ?_
      exact p38_app (n + 1) hk hk2 hm l1 (ps := [part, xs, sl, [], word, word.drop j]) (fun p hq => by
        simp only [List.mem_cons, List.not_mem_nil, or_false] at hq
        rcases hq with rfl | rfl | rfl | rfl | rfl | rfl
        · omega
        · omega
        · omega
        · exact Nat.zero_le _
        · omega
        · rw [List.length_drop]; omega) (by show 6 ≤ 10; decide) ((B7.grow _).set hL.1 hL.2) hL.1 hL.2 (at_set (at_grow h7)) ((g7.trans (Fr.grow _)).setNew hL0) hL0 q
    · with_reducible refine f_nil ?_
      exact p38_app (n + 1) hk hk2 hm l1 hps (by show 3 ≤ 10; decide) B7 hL.1 hL.2 h7 g7 hL0 q
  · repeat walk_at "ev"
    refine ⟨ty_lst h6 (by decide), ?_⟩
    repeat walk_at "ev"
    refine ⟨Nat.zero_le _, ?_⟩
    repeat walk_at "ev"
    refine sl_from ?_
    repeat walk_at "ev"
    refine w_newL (by show 3 ≤ sizeLine; omega) ?_
    repeat walk_at "ev"
    refine mm_ext (at_grow h6) at_end (by show 3 + 3 ≤ sizeLine; omega) ?_
    with_reducible refine f_nil ?_
    exact p38_app (n + 1) hk hk2 hm l1 (ps := [part, xs, sl, [], word, word.drop j]) (fun p hq => by
      simp only [List.mem_cons, List.not_mem_nil, or_false] at hq
      rcases hq with rfl | rfl | rfl | rfl | rfl | rfl
      · omega
      · omega
      · omega
      · exact Nat.zero_le _
      · omega
      · rw [List.length_drop]; omega) (by show 6 ≤ 10; decide) ((B6.grow _).set hL.1 hL.2) hL.1 hL.2 (at_set (at_grow h6)) ((g6.trans (Fr.grow _)).setNew hL0) hL0 q
end EV

end
section
set_option Elab.async false
set_option linter.all false
set_option maxRecDepth 100000
set_option maxHeartbeats 4000000
namespace EV
open PySem
local macro_rules | `(tactic| walk_at "ev") => `(tactic| with_reducible first
  | refine f_cons ?_ | refine f_nil ?_ | refine f_asg ?_ | refine f_par ?_ | refine f_asgIx ?_ | refine f_expr ?_ | refine f_ret ?_ | refine f_ite ?_ | refine f_for ?_ | refine f_pass ?_ | refine f_brk ?_ | refine f_cont ?_
  | refine w_var (by with_unfolding_all rfl) ?_ | refine w_cI ?_ | refine w_cS ?_ | refine w_cN ?_ | refine w_cB ?_ | refine w_gI ?_ | refine w_bin ?_ | refine w_neg ?_ | refine w_not ?_ | refine w_cmp ?_ | refine w_chn ?_ | refine w_bool ?_ | refine w_bnil ?_ | refine w_if ?_
  | refine w_tup ?_ | refine w_lst ?_ | refine w_dic ?_ | refine w_idx ?_ | refine w_slc ?_ | refine w_bno ?_ | refine w_bso ?_ | refine w_rev ?_ | refine w_call ?_ | refine w_callK ?_ | refine w_bi ?_ | refine w_me ?_ | refine w_ist ?_ | refine w_comp ?_ | refine w_nil ?_ | refine w_cons ?_
  | refine w_seq ?_ | refine w_rng1 ?_ | refine w_rng2 ?_ | refine w_enum ?_ | refine w_zip ?_ | refine w_ono ?_ | refine w_oso ?_
  | refine bi_int ?_ | refine bi_abs ?_ | refine bi_lenT ?_ | refine bi_tupT ?_ | refine b_addI ?_ | refine b_subI ?_ | refine c_eqI ?_ | refine c_neI ?_ | refine c_ltI ?_ | refine c_leI ?_ | refine c_gtI ?_ | refine c_geI ?_ | refine e_bl ?_ | refine e_iI ?_ | refine e_set (by with_unfolding_all rfl) ?_
  | refine pick_t ?_ | refine pick_f ?_ | refine is_int ?_ | refine is_non ?_ | refine is_tup ?_ | refine is_str ?_ | refine isn_int ?_ | refine isn_non ?_ | refine isn_tup ?_ | refine ist_tup ?_ | refine ist_tupS ?_ | refine ist_strS ?_ | refine ist_strT ?_ | refine ist_intI ?_ | refine ist_intB ?_ | refine ist_intT ?_
  | refine w_andT ?_ | refine w_andF ?_ | refine w_orF ?_ | refine w_orT ?_)


theorem w_pairs (n : Nat) {ps : List (List Int)} (hn : ps.length ≤ sizeLine) (hp : ∀ p ∈ ps, p.length ≤ sizeLine) {S : Sto} {P : Va → Sto → Prop} (q : ∀ T, P (.bl true) (S ++ T)) : Rw (Rn (n + 2) 17 [.tup (tV ps), .tup (tV ps)] S) P := by
  refine w_run (d := k01_17) rfl rfl ?_
  repeat walk_at "ev"
  refine w_or (fun _ => ?_) (fun z => Bool.noConfusion z)
  repeat walk_at "ev"
  rw [decide_eq_true (rfl : ((tV ps).length : Int) = (tV ps).length)]
  refine ⟨fun z => Bool.noConfusion z, fun _ => ?_⟩
  repeat walk_at "ev"
  refine zp_tup ?_
  refine w_mapT (fun _ => some (.bl true)) (fun T => stay_nil) (fun i x T hx => ?_) (fun T => ?_)
  · obtain ⟨y, z, q1, q2, rfl⟩ := zip_get.1 (show (zipV (tV ps) (tV ps))[i]? = some x from hx)
    rw [q1] at q2
    cases q2
    obtain ⟨p, hp2, rfl⟩ := List.mem_map.mp (List.mem_of_getElem? q1)
    refine w_turn rfl ?_
    repeat walk_at "ev"
    refine .inl ⟨rfl, ?_⟩
    repeat walk_at "ev"
    with_reducible refine w_nums n (hp p hp2) fun T2 => ?_
    rw [decide_eq_true (rfl : p = p)]
    exact ⟨rfl, T ++ T2, List.append_assoc _ _ _⟩
  · have hz : ∀ xs ys : List Va, (zipV xs ys).length ≤ xs.length := fun xs => by
      induction xs with
      | nil => intro ys; cases ys <;> exact Nat.le_refl _
      | cons a r ih =>
        intro ys
        cases ys with
        | nil => exact Nat.zero_le _
        | cons b t => exact Nat.succ_le_succ (ih t)
    have e2 : (List.range (zipV (tV ps) (tV ps)).length).filterMap (fun _ => some (Va.bl true)) = ((List.range (zipV (tV ps) (tV ps)).length).map fun _ => true).map .bl := by
      rw [fm_some, List.map_map]; rfl
    show Rw (newL ((List.range (zipV (tV ps) (tV ps)).length).filterMap fun _ => some (Va.bl true)) _) _
    rw [e2]
    refine w_newL (by rw [List.length_map, List.length_map, List.length_range]; exact Nat.le_trans (hz _ _) (by rw [tV_len]; exact hn)) ?_
    repeat walk_at "ev"
    refine bi_allL at_end ?_
    rw [show ((List.range (zipV (tV ps) (tV ps)).length).map fun _ => true).all id = true by simp]
    have z := q (T ++ [Ob.lst (((List.range (zipV (tV ps) (tV ps)).length).map fun _ => true).map .bl)])
    rw [← List.append_assoc] at z
    exact z
theorem w_pick (n : Nat) {b c L : Nat} {vs : List Va} {S : Sto} {P : Va → Sto → Prop} (B : Bag b c S) (h : S[L]? = some (.lst vs)) (h1 : L ≠ b) (h2 : L ≠ c) (hn : vs ≠ []) (hl : vs.length ≤ 1000)
    (q : ∀ v S', v ∈ vs → Bag b c S' → Fr b c S S' → P v S') : Rw (Rn (n + 2) 15 [.ref b, .ref L] S) P := by
  refine w_run (d := k01_15) rfl rfl ?_
  have hpos : 0 < vs.length := by cases vs with
    | nil => exact absurd rfl hn
    | cons a r => exact Nat.succ_pos _
  repeat walk_at "ev"
  refine bi_lenL h ?_
  repeat walk_at "ev"
  with_reducible refine w_draw n (below := (vs.length : Nat)) (by omega) (by omega) B fun u S2 u1 u2 B2 f2 => ?_
  obtain ⟨u, rfl⟩ := Int.eq_ofNat_of_zero_le u1
  have hu : u < vs.length := by omega
  refine ix_lst (f2.at h h1 h2) (L2.atI_nat (List.getElem?_eq_getElem hu)) ?_
  exact q _ S2 (List.getElem_mem hu) B2 f2
end EV

end
section
set_option Elab.async false
set_option linter.all false
set_option maxRecDepth 100000
namespace EV
def sh (ps : List (Nat × Nat)) : List (Nat × Nat) := ps.map fun p => (p.1 + 1, p.2 + 1)
/-- a true ahead of runs -/
def hd (ps : List (Nat × Nat)) : List (Nat × Nat) := match ps with
  | (0, e) :: r => (0, e + 1) :: sh r
  | r => (0, 1) :: sh r
def runs : List Bool → List (Nat × Nat)
  | [] => []
  | false :: bs => sh (runs bs)
  | true :: bs => hd (runs bs)
/-- a true behind runs of n letters -/
def sn (n : Nat) : List (Nat × Nat) → List (Nat × Nat)
  | [] => [(n, n + 1)]
  | [p] => if p.2 = n then [(p.1, n + 1)] else [p, (n, n + 1)]
  | p :: q :: r => p :: sn n (q :: r)
theorem sn_sh (n : Nat) : ∀ ps, sn (n + 1) (sh ps) = sh (sn n ps)
  | [] => rfl
  | [p] => by
    show (if p.2 + 1 = n + 1 then _ else _) = sh (if p.2 = n then _ else _)
    by_cases h : p.2 = n
    · rw [if_pos (by omega), if_pos h]; rfl
    · rw [if_neg (by omega), if_neg h]; rfl
  | p :: q :: r => by
    show _ :: sn (n + 1) (sh (q :: r)) = sh (p :: sn n (q :: r))
    rw [sn_sh n (q :: r)]; rfl
theorem sn_cons (n : Nat) (p : Nat × Nat) {ps : List (Nat × Nat)} (h : ps ≠ []) : sn n (p :: ps) = p :: sn n ps := by
  cases ps with
  | nil => exact absurd rfl h
  | cons a r => rfl
theorem hd_ne (ps : List (Nat × Nat)) : hd ps ≠ [] := by
  unfold hd
  split <;> simp
theorem sn_ne (n : Nat) : ∀ ps, sn n ps ≠ []
  | [] => by simp [sn]
  | [p] => by simp only [sn]; split <;> simp
  | p :: q :: r => by simp [sn]
theorem hd_sn (n : Nat) : ∀ ps, hd (sn n ps) = sn (n + 1) (hd ps)
  | [] => by
    cases n with
    | zero => rfl
    | succ n =>
      show (0, 1) :: sh [(n + 1, n + 2)] = (if 1 = n + 2 then _ else _)
      rw [if_neg (by omega)]; rfl
  | [(s, e)] => by
    by_cases h : e = n
    · subst h
      have e1 : sn e [(s, e)] = [(s, e + 1)] := by simp only [sn, if_true]
      rw [e1]
      cases s with
      | zero => show [(0, e + 2)] = (if e + 1 = e + 1 then _ else _); rw [if_pos rfl]
      | succ s =>
        show (0, 1) :: [(s + 2, e + 2)] = (0, 1) :: (if e + 1 = e + 1 then _ else _)
        rw [if_pos rfl]
    · have e1 : sn n [(s, e)] = [(s, e), (n, n + 1)] := by simp only [sn, if_neg h]
      rw [e1]
      cases s with
      | zero => show (0, e + 1) :: [(n + 1, n + 2)] = (if e + 1 = n + 1 then _ else _); rw [if_neg (by omega)]
      | succ s =>
        show (0, 1) :: [(s + 2, e + 1), (n + 1, n + 2)] = (0, 1) :: (if e + 1 = n + 1 then _ else _)
        rw [if_neg (by omega)]
  | (s, e) :: q :: r => by
    cases s with
    | zero =>
      show (0, e + 1) :: sh (sn n (q :: r)) = (0, e + 1) :: sn (n + 1) (sh (q :: r))
      rw [sn_sh]
    | succ s =>
      show (0, 1) :: sh (sn n ((s + 1, e) :: q :: r)) = (0, 1) :: sn (n + 1) (sh ((s + 1, e) :: q :: r))
      rw [sn_sh]
theorem runs_f : ∀ bs, runs (bs ++ [false]) = runs bs
  | [] => rfl
  | false :: bs => by show sh (runs (bs ++ [false])) = sh (runs bs); rw [runs_f bs]
  | true :: bs => by show hd (runs (bs ++ [false])) = hd (runs bs); rw [runs_f bs]
theorem runs_t : ∀ bs, runs (bs ++ [true]) = sn bs.length (runs bs)
  | [] => rfl
  | false :: bs => by show sh (runs (bs ++ [true])) = sn (bs.length + 1) (sh (runs bs)); rw [runs_t bs, sn_sh]
  | true :: bs => by show hd (runs (bs ++ [true])) = sn (bs.length + 1) (hd (runs bs)); rw [runs_t bs, hd_sn]
end EV

end
section
set_option Elab.async false
set_option linter.all false
set_option maxRecDepth 100000
namespace EV
/-- runs of n letters, seen from the other end -/
def tn (n : Nat) (ps : List (Nat × Nat)) : List (Nat × Nat) := (ps.map fun p => (n - p.2, n - p.1)).reverse
theorem runs_le : ∀ (bs : List Bool), ∀ p ∈ runs bs, p.1 < p.2 ∧ p.2 ≤ bs.length
  | [], p, h => nomatch h
  | false :: bs, p, h => by
    obtain ⟨r, hr, rfl⟩ := List.mem_map.mp (show p ∈ sh (runs bs) from h)
    have := runs_le bs r hr
    show r.1 + 1 < r.2 + 1 ∧ r.2 + 1 ≤ bs.length + 1
    omega
  | true :: bs, p, h => by
    have ih := runs_le bs
    have h' : p ∈ hd (runs bs) := h
    revert ih h'
    generalize runs bs = ps
    intro ih h'
    show p.1 < p.2 ∧ p.2 ≤ bs.length + 1
    unfold hd at h'
    split at h'
    · rename_i e r
      rcases List.mem_cons.mp h' with rfl | z
      · have := ih (0, e) (List.mem_cons_self ..)
        dsimp only at this ⊢
        omega
      · obtain ⟨r2, hr, rfl⟩ := List.mem_map.mp z
        have := ih r2 (List.mem_cons_of_mem _ hr)
        dsimp only
        omega
    · rcases List.mem_cons.mp h' with rfl | z
      · dsimp only; omega
      · obtain ⟨r2, hr, rfl⟩ := List.mem_map.mp z
        have := ih r2 hr
        dsimp only
        omega
def wid (ps : List (Nat × Nat)) : Nat := (ps.map fun p => p.2 - p.1).sum
theorem wid_sh (ps : List (Nat × Nat)) : wid (sh ps) = wid ps := by
  unfold wid sh
  rw [List.map_map]
  congr 1
  refine List.map_congr_left fun p _ => ?_
  show p.2 + 1 - (p.1 + 1) = p.2 - p.1
  omega
theorem wid_hd (ps : List (Nat × Nat)) : wid (hd ps) = wid ps + 1 := by
  unfold hd
  split
  · rename_i e r
    show (e + 1 - 0) + wid (sh r) = (e - 0) + wid r + 1
    rw [wid_sh]; omega
  · show (1 - 0) + wid (sh ps) = wid ps + 1
    rw [wid_sh]; omega
theorem wid_runs : ∀ bs : List Bool, wid (runs bs) = bs.countP id
  | [] => rfl
  | false :: bs => by
    show wid (sh (runs bs)) = _
    rw [wid_sh, wid_runs bs]
    rfl
  | true :: bs => by
    show wid (hd (runs bs)) = _
    rw [wid_hd, wid_runs bs, List.countP_cons_of_pos rfl]
end EV

end
section
set_option Elab.async false
set_option linter.all false
set_option maxRecDepth 100000
namespace EV
theorem tn_sh (n : Nat) (ps : List (Nat × Nat)) : tn (n + 1) (sh ps) = tn n ps := by
  unfold tn sh
  rw [List.map_map]
  congr 1
  refine List.map_congr_left fun p _ => ?_
  show (n + 1 - (p.2 + 1), n + 1 - (p.1 + 1)) = (n - p.2, n - p.1)
  rw [Nat.add_sub_add_right, Nat.add_sub_add_right]
theorem tn_cons (n : Nat) (p : Nat × Nat) (ps : List (Nat × Nat)) : tn n (p :: ps) = tn n ps ++ [(n - p.2, n - p.1)] := by
  unfold tn
  rw [List.map_cons, List.reverse_cons]
theorem sn_app (n : Nat) (p : Nat × Nat) : ∀ l : List (Nat × Nat), sn n (l ++ [p]) = l ++ sn n [p]
  | [] => rfl
  | a :: l => by
    rw [List.cons_append, sn_cons n a (by simp), sn_app n p l]; rfl
theorem tn_hd (n : Nat) {ps : List (Nat × Nat)} (h : ∀ p ∈ ps, p.1 < p.2 ∧ p.2 ≤ n) : sn n (tn n ps) = tn (n + 1) (hd ps) := by
  match ps, h with
  | [], _ => rfl
  | (0, e) :: r, h =>
    have := h (0, e) (List.mem_cons_self ..)
    show _ = tn (n + 1) ((0, e + 1) :: sh r)
    rw [tn_cons, tn_cons, sn_app, tn_sh]
    show tn n r ++ (if n - 0 = n then _ else _) = tn n r ++ [(n + 1 - (e + 1), n + 1 - 0)]
    rw [if_pos (Nat.sub_zero n), Nat.add_sub_add_right]; rfl
  | (s + 1, e) :: r, h =>
    have := h (s + 1, e) (List.mem_cons_self ..)
    dsimp only at this
    show _ = tn (n + 1) ((0, 1) :: sh ((s + 1, e) :: r))
    rw [tn_cons n, tn_cons (n + 1), tn_sh, tn_cons n, sn_app]
    show tn n r ++ (if n - (s + 1) = n then _ else _) = _
    rw [if_neg (by omega), List.append_assoc]; rfl
theorem runs_rev : ∀ bs : List Bool, runs bs.reverse = tn bs.length (runs bs)
  | [] => rfl
  | false :: bs => by
    rw [List.reverse_cons, runs_f, runs_rev bs]
    exact (tn_sh bs.length (runs bs)).symm
  | true :: bs => by
    rw [List.reverse_cons, runs_t, runs_rev bs, List.length_reverse]
    exact tn_hd bs.length (runs_le bs)
end EV

end
section
set_option Elab.async false
set_option linter.all false
set_option maxRecDepth 100000
namespace EV
/-- what a loop over letters has found: the runs so far, and where the open one began -/
def Inv (bs : List Bool) (fo : List (Nat × Nat)) : Option Nat → Prop
  | none => runs bs = fo ∧ ∀ p ∈ fo, p.2 ≠ bs.length
  | some f => runs bs = fo ++ [(f, bs.length)]
theorem sn_new (n : Nat) : ∀ ps : List (Nat × Nat), (∀ p ∈ ps, p.2 ≠ n) → sn n ps = ps ++ [(n, n + 1)]
  | [], _ => rfl
  | [p], h => by
    show (if p.2 = n then _ else _) = _
    rw [if_neg (h p (List.mem_cons_self ..))]; rfl
  | p :: q :: r, h => by
    show p :: sn n (q :: r) = p :: (q :: r ++ [(n, n + 1)])
    rw [sn_new n (q :: r) fun a ha => h a (List.mem_cons_of_mem _ ha)]
theorem inv_nil : Inv [] [] none := ⟨rfl, fun _ h => nomatch h⟩
theorem inv_t0 {bs : List Bool} {fo : List (Nat × Nat)} (h : Inv bs fo none) : Inv (bs ++ [true]) fo (some bs.length) := by
  show runs (bs ++ [true]) = fo ++ [(bs.length, (bs ++ [true]).length)]
  rw [runs_t, h.1, sn_new _ _ h.2, List.length_append]; rfl
theorem inv_t1 {bs : List Bool} {fo : List (Nat × Nat)} {f : Nat} (h : Inv bs fo (some f)) : Inv (bs ++ [true]) fo (some f) := by
  show runs (bs ++ [true]) = fo ++ [(f, (bs ++ [true]).length)]
  rw [runs_t, show runs bs = fo ++ [(f, bs.length)] from h, sn_app, List.length_append]
  show fo ++ (if bs.length = bs.length then _ else _) = _
  rw [if_pos rfl]; rfl
theorem inv_f0 {bs : List Bool} {fo : List (Nat × Nat)} (h : Inv bs fo none) : Inv (bs ++ [false]) fo none := by
  refine ⟨by rw [runs_f]; exact h.1, fun p hp => ?_⟩
  have := (runs_le bs p (by rw [h.1]; exact hp)).2
  rw [List.length_append]
  show p.2 ≠ bs.length + 1
  omega
theorem inv_f1 {bs : List Bool} {fo : List (Nat × Nat)} {f : Nat} (h : Inv bs fo (some f)) : Inv (bs ++ [false]) (fo ++ [(f, bs.length)]) none := by
  refine ⟨by rw [runs_f]; exact h, fun p hp => ?_⟩
  have := (runs_le bs p (by rw [show runs bs = fo ++ [(f, bs.length)] from h]; exact hp)).2
  rw [List.length_append]
  show p.2 ≠ bs.length + 1
  omega
end EV

end
section
set_option Elab.async false
set_option linter.all false
set_option maxRecDepth 100000
set_option maxHeartbeats 4000000
namespace EV
open PySem
local macro_rules | `(tactic| walk_at "ev") => `(tactic| with_reducible first
  | refine f_cons ?_ | refine f_nil ?_ | refine f_asg ?_ | refine f_par ?_ | refine f_asgIx ?_ | refine f_expr ?_ | refine f_ret ?_ | refine f_ite ?_ | refine f_for ?_ | refine f_pass ?_ | refine f_brk ?_ | refine f_cont ?_
  | refine w_var (by with_unfolding_all rfl) ?_ | refine w_cI ?_ | refine w_cS ?_ | refine w_cN ?_ | refine w_cB ?_ | refine w_gI ?_ | refine w_bin ?_ | refine w_neg ?_ | refine w_not ?_ | refine w_cmp ?_ | refine w_chn ?_ | refine w_bool ?_ | refine w_bnil ?_ | refine w_if ?_
  | refine w_tup ?_ | refine w_lst ?_ | refine w_dic ?_ | refine w_idx ?_ | refine w_slc ?_ | refine w_bno ?_ | refine w_bso ?_ | refine w_rev ?_ | refine w_call ?_ | refine w_callK ?_ | refine w_bi ?_ | refine w_me ?_ | refine w_ist ?_ | refine w_comp ?_ | refine w_nil ?_ | refine w_cons ?_
  | refine w_seq ?_ | refine w_rng1 ?_ | refine w_rng2 ?_ | refine w_enum ?_ | refine w_zip ?_ | refine w_ono ?_ | refine w_oso ?_
  | refine bi_int ?_ | refine bi_abs ?_ | refine bi_lenT ?_ | refine bi_tupT ?_ | refine b_addI ?_ | refine b_subI ?_ | refine c_eqI ?_ | refine c_neI ?_ | refine c_ltI ?_ | refine c_leI ?_ | refine c_gtI ?_ | refine c_geI ?_ | refine e_bl ?_ | refine e_iI ?_ | refine e_set (by with_unfolding_all rfl) ?_
  | refine pick_t ?_ | refine pick_f ?_ | refine is_int ?_ | refine is_non ?_ | refine is_tup ?_ | refine is_str ?_ | refine isn_int ?_ | refine isn_non ?_ | refine isn_tup ?_ | refine ist_tup ?_ | refine ist_tupS ?_ | refine ist_strS ?_ | refine ist_strT ?_ | refine ist_intI ?_ | refine ist_intB ?_ | refine ist_intT ?_
  | refine w_andT ?_ | refine w_andF ?_ | refine w_orF ?_ | refine w_orT ?_)
def rV (ps : List (Nat × Nat)) : List (List Int) := ps.map fun p => [(p.1 : Int), (p.2 : Int)]
def ins (own word : List Int) : List Bool := word.map fun a => own.contains a
def rns (word own : List Int) : List (List Int) := rV (runs (ins own word))
def oN : Option Nat → Va
  | none => .non
  | some i => .int (i : Nat)
theorem set_end {S : Sto} {x y : Ob} : (S ++ [x]).set S.length y = S ++ [y] := by simp
theorem sh_len (ps : List (Nat × Nat)) : (sh ps).length = ps.length := by unfold sh; rw [List.length_map]
theorem hd_len (ps : List (Nat × Nat)) : (hd ps).length ≤ ps.length + 1 := by
  unfold hd
  split
  · rw [List.length_cons, sh_len, List.length_cons]; omega
  · rw [List.length_cons, sh_len]; omega
theorem runs_len : ∀ bs : List Bool, (runs bs).length ≤ bs.length
  | [] => Nat.le_refl _
  | false :: bs => by
    show (sh (runs bs)).length ≤ bs.length + 1
    rw [sh_len]; exact Nat.le_succ_of_le (runs_len bs)
  | true :: bs => by
    show (hd (runs bs)).length ≤ bs.length + 1
    exact Nat.le_trans (hd_len _) (Nat.succ_le_succ (runs_len bs))
theorem inv_len {bs : List Bool} {fo : List (Nat × Nat)} {f : Option Nat} (h : Inv bs fo f) : fo.length ≤ bs.length := by
  have := runs_len bs
  cases f with
  | none => rw [h.1] at this; exact this
  | some f => rw [show runs bs = fo ++ [(f, bs.length)] from h, List.length_append] at this; omega
theorem rV_snoc (fo : List (Nat × Nat)) (f i : Nat) : tV (rV fo) ++ [.tup [.int (f : Nat), .int (i : Nat)]] = tV (rV (fo ++ [(f, i)])) := by
  unfold tV rV
  simp
theorem rV_len (fo : List (Nat × Nat)) : (tV (rV fo)).length = fo.length := by unfold tV rV; rw [List.length_map, List.length_map]
theorem ins_len (own word : List Int) : (ins own word).length = word.length := by unfold ins; rw [List.length_map]
theorem ins_take {own word : List Int} {i : Nat} (h : i < word.length) : (ins own word).take (i + 1) = (ins own word).take i ++ [own.contains (word.getD i 0)] := by
  rw [List.take_add_one]
  congr 1
  unfold ins
  rw [List.getElem?_map, List.getElem?_eq_getElem h, List.getD_eq_getElem?_getD, List.getElem?_eq_getElem h]
  rfl
theorem ins_tlen {own word : List Int} {i : Nat} (h : i ≤ word.length) : ((ins own word).take i).length = i := by
  rw [List.length_take, ins_len]; omega
theorem w_runs (n : Nat) {word own : List Int} (hw : word.length ≤ 1000) {S : Sto} {P : Va → Sto → Prop} (q : ∀ T, P (.tup (tV (rns word own))) (S ++ T)) : Rw (Rn (n + 1) 7 [.tup (iV word), .tup (iV own)] S) P := by
  refine w_run (d := k01_7) rfl rfl ?_
  have es := sizeLine_eq
  repeat walk_at "ev"
  refine w_newL (Nat.zero_le _) ?_
  repeat walk_at "ev"
  refine en_tup ?_
  have el : (enumFrom 0 (iV word)).length = word.length := by
    have : ∀ (xs : List Va) (j : Nat), (enumFrom j xs).length = xs.length := fun xs => by
      induction xs with
      | nil => intro _; rfl
      | cons a r ih => intro j; show (enumFrom (j + 1) r).length + 1 = r.length + 1; rw [ih]
    rw [this, List.length_map]
  refine f_turns (fun i ρ S2 => ∃ fo f a b, S2 = S ++ [.lst (tV (rV fo))] ∧ Inv ((ins own word).take i) fo f ∧ ρ = [some (.tup (iV word)), some (.tup (iV own)), some (.ref S.length), some (oN f), a, b])
    ⟨[], none, _, _, rfl, inv_nil, rfl⟩ (fun i ρ S2 _ _ => stay_nil) (fun i v ρ S2 hx h => ?_) (fun ρ S2 h => ?_)
  · obtain ⟨hi, rfl⟩ := enumV_get hx
    obtain ⟨fo, f, a, b, rfl, h, rfl⟩ := h
    refine ⟨_, rfl, ?_⟩
    have hl := inv_len h
    rw [ins_tlen (Nat.le_of_lt hi)] at hl
    have ht := ins_take (own := own) hi
    repeat walk_at "ev"
    refine c_inI ?_
    cases hb : own.contains (word.getD i 0) with
    | true =>
      rw [hb] at ht
      cases f with
      | none =>
        have h2 := inv_t0 h
        rw [← ht, ins_tlen (Nat.le_of_lt hi)] at h2
        rw [show oN none = .non from rfl]
        repeat walk_at "ev"
        refine c_niI ?_
        rw [hb, Bool.not_true]
        repeat walk_at "ev"
        exact ⟨fo, some i, _, _, rfl, h2, rfl⟩
      | some f =>
        have h2 := inv_t1 h
        rw [← ht] at h2
        rw [show oN (some f) = .int (f : Nat) from rfl]
        repeat walk_at "ev"
        refine c_niI ?_
        rw [hb, Bool.not_true]
        repeat walk_at "ev"
        exact ⟨fo, some f, _, _, rfl, h2, rfl⟩
    | false =>
      rw [hb] at ht
      cases f with
      | none =>
        have h2 := inv_f0 h
        rw [← ht] at h2
        rw [show oN none = .non from rfl]
        repeat walk_at "ev"
        refine c_niI ?_
        rw [hb, Bool.not_false]
        repeat walk_at "ev"
        exact ⟨fo, none, _, _, rfl, h2, rfl⟩
      | some f =>
        have h2 := inv_f1 h
        rw [← ht, ins_tlen (Nat.le_of_lt hi)] at h2
        rw [show oN (some f) = .int (f : Nat) from rfl]
        repeat walk_at "ev"
        refine c_niI ?_
        rw [hb, Bool.not_false]
        repeat walk_at "ev"
        refine ⟨ty_lst at_end (by decide), ?_⟩
        repeat walk_at "ev"
        refine ⟨by show 2 ≤ sizeLine; omega, ?_⟩
        repeat walk_at "ev"
        refine mm_app (xs := tV (rV fo)) at_end (by rw [rV_len]; omega) ?_
        rw [set_end, rV_snoc]
        repeat walk_at "ev"
        exact ⟨_, none, _, _, rfl, h2, rfl⟩
  · obtain ⟨fo, f, a, b, rfl, h, rfl⟩ := h
    rw [el, List.take_of_length_le (by rw [ins_len]; exact Nat.le_refl _)] at h
    have hl := inv_len h
    rw [ins_len] at hl
    have fin : ∀ g, runs (ins own word) = g → Rw (biOp .tuple [.ref S.length] (S ++ [.lst (tV (rV g))])) P := fun g e => by
      have hg := runs_len (ins own word)
      rw [e, ins_len] at hg
      refine bi_tupL at_end (by rw [rV_len]; omega) ?_
      have z := q [.lst (tV (rV g))]
      unfold rns at z
      rw [e] at z
      exact z
    cases f with
    | none =>
      rw [show oN none = .non from rfl]
      repeat walk_at "ev"
      exact fin fo h.1
    | some f =>
      rw [show oN (some f) = .int (f : Nat) from rfl]
      repeat walk_at "ev"
      refine ⟨ty_lst at_end (by decide), ?_⟩
      repeat walk_at "ev"
      refine ⟨by show 2 ≤ sizeLine; omega, ?_⟩
      repeat walk_at "ev"
      refine mm_app (xs := tV (rV fo)) at_end (by rw [rV_len]; omega) ?_
      rw [set_end, List.length_map, rV_snoc]
      repeat walk_at "ev"
      refine fin _ ?_
      rw [show runs (ins own word) = fo ++ [(f, (ins own word).length)] from h, ins_len]
end EV

end
section
set_option Elab.async false
set_option linter.all false
set_option maxRecDepth 100000
set_option maxHeartbeats 4000000
namespace EV
open PySem
local macro_rules | `(tactic| walk_at "ev") => `(tactic| with_reducible first
  | refine f_cons ?_ | refine f_nil ?_ | refine f_asg ?_ | refine f_par ?_ | refine f_asgIx ?_ | refine f_expr ?_ | refine f_ret ?_ | refine f_ite ?_ | refine f_for ?_ | refine f_pass ?_ | refine f_brk ?_ | refine f_cont ?_
  | refine w_var (by with_unfolding_all rfl) ?_ | refine w_cI ?_ | refine w_cS ?_ | refine w_cN ?_ | refine w_cB ?_ | refine w_gI ?_ | refine w_bin ?_ | refine w_neg ?_ | refine w_not ?_ | refine w_cmp ?_ | refine w_chn ?_ | refine w_bool ?_ | refine w_bnil ?_ | refine w_if ?_
  | refine w_tup ?_ | refine w_lst ?_ | refine w_dic ?_ | refine w_idx ?_ | refine w_slc ?_ | refine w_bno ?_ | refine w_bso ?_ | refine w_rev ?_ | refine w_call ?_ | refine w_callK ?_ | refine w_bi ?_ | refine w_me ?_ | refine w_ist ?_ | refine w_comp ?_ | refine w_nil ?_ | refine w_cons ?_
  | refine w_seq ?_ | refine w_rng1 ?_ | refine w_rng2 ?_ | refine w_enum ?_ | refine w_zip ?_ | refine w_ono ?_ | refine w_oso ?_
  | refine bi_int ?_ | refine bi_abs ?_ | refine bi_lenT ?_ | refine bi_tupT ?_ | refine b_addI ?_ | refine b_subI ?_ | refine c_eqI ?_ | refine c_neI ?_ | refine c_ltI ?_ | refine c_leI ?_ | refine c_gtI ?_ | refine c_geI ?_ | refine e_bl ?_ | refine e_iI ?_ | refine e_set (by with_unfolding_all rfl) ?_
  | refine pick_t ?_ | refine pick_f ?_ | refine is_int ?_ | refine is_non ?_ | refine is_tup ?_ | refine is_str ?_ | refine isn_int ?_ | refine isn_non ?_ | refine isn_tup ?_ | refine ist_tup ?_ | refine ist_tupS ?_ | refine ist_strS ?_ | refine ist_strT ?_ | refine ist_intI ?_ | refine ist_intB ?_ | refine ist_intT ?_
  | refine w_andT ?_ | refine w_andF ?_ | refine w_orF ?_ | refine w_orT ?_)
theorem f_step {C : Kx} {hx : Option (Nat × Va)} {s : Sx} {r : Sxs} {ρ : Env} {S : Sto} {N : Way} (Q : Env → Sto → Prop) (h : Fw (evS C hx s ρ S) { nx := Q, rt := fun _ _ => False, bk := fun _ _ => False, ct := fun _ _ => False }) (g : ∀ ρ S, Q ρ S → Fw (evSs C hx r ρ S) N) : Fw (evSs C hx (.cons s r) ρ S) N :=
  f_cons (h.mono g (fun _ _ z => z.elim) (fun _ _ z => z.elim) (fun _ _ z => z.elim))
theorem w_lruns (n : Nat) {word own : List Int} (hw : word.length ≤ 1000) {S : Sto} {P : Va → Sto → Prop} (q : ∀ T, P (.tup (tV (rns word own))) (S ++ T)) : Rw (Rn (n + 1) 32 [.tup (iV word), .tup (iV own)] S) P := by
  refine w_run (d := k01_32) rfl rfl ?_
  have es := sizeLine_eq
  repeat walk_at "ev"
  refine w_newL (Nat.zero_le _) ?_
  repeat walk_at "ev"
  rw [List.length_map, show ((word.length : Nat) : Int) + 1 = ((word.length + 1 : Nat) : Int) by omega]
  refine ⟨small_nat (by omega), ?_⟩
  have bl : (ins own word ++ [false]).length = word.length + 1 := by rw [List.length_append, ins_len]; rfl
  have tl : ∀ i, i ≤ word.length → ((ins own word ++ [false]).take i).length = i := fun i hi => by rw [List.length_take, bl]; omega
  refine f_turns (fun i ρ S2 => ∃ fo f a b, S2 = S ++ [.lst (tV (rV fo))] ∧ Inv ((ins own word ++ [false]).take i) fo f ∧ ρ = [some (.tup (iV word)), some (.tup (iV own)), some (.ref S.length), some (oN f), a, b])
    ⟨[], none, _, _, rfl, inv_nil, rfl⟩ (fun i ρ S2 _ _ => stay_nil) (fun i v ρ S2 hx h => ?_) (fun ρ S2 h => ?_)
  · obtain ⟨hi, rfl⟩ := rng0_get hx
    obtain ⟨fo, f, a, b, rfl, h, rfl⟩ := h
    have hi2 : i ≤ word.length := by omega
    refine ⟨_, rfl, ?_⟩
    have hl := inv_len h
    rw [tl i hi2] at hl
    -- the flag
    have go : ∀ c : Bool, (ins own word ++ [false]).take (i + 1) = (ins own word ++ [false]).take i ++ [c] →
        Fw (evSs (Kr k01_D k01_anc k01_fuel n) none (match k01_32.body with | .cons _ (.cons (.fors _ _ (.cons _ r)) _) => r | _ => .nil) [some (.tup (iV word)), some (.tup (iV own)), some (.ref S.length), some (oN f), some (.int (i : Nat)), some (.bl c)] (S ++ [.lst (tV (rV fo))]))
          { nx := fun ρ S2 => ∃ fo f a b, S2 = S ++ [.lst (tV (rV fo))] ∧ Inv ((ins own word ++ [false]).take (i + 1)) fo f ∧ ρ = [some (.tup (iV word)), some (.tup (iV own)), some (.ref S.length), some (oN f), a, b], rt := P, bk := fun _ _ => False, ct := fun _ _ => False } := fun c ht => by
      cases c with
      | true =>
        cases f with
        | none =>
          have h2 := inv_t0 h
          rw [← ht, tl i hi2] at h2
          rw [show oN none = .non from rfl]
          repeat walk_at "ev"
          exact ⟨fo, some i, _, _, rfl, h2, rfl⟩
        | some f =>
          have h2 := inv_t1 h
          rw [← ht] at h2
          rw [show oN (some f) = .int (f : Nat) from rfl]
          repeat walk_at "ev"
          rw [Bool.not_true]
          repeat walk_at "ev"
          exact ⟨fo, some f, _, _, rfl, h2, rfl⟩
      | false =>
        cases f with
        | none =>
          have h2 := inv_f0 h
          rw [← ht] at h2
          rw [show oN none = .non from rfl]
          repeat walk_at "ev"
          rw [Bool.not_false]
          repeat walk_at "ev"
          exact ⟨fo, none, _, _, rfl, h2, rfl⟩
        | some f =>
          have h2 := inv_f1 h
          rw [← ht, tl i hi2] at h2
          rw [show oN (some f) = .int (f : Nat) from rfl]
          repeat walk_at "ev"
          rw [Bool.not_false]
          repeat walk_at "ev"
          refine ⟨ty_lst at_end (by decide), ?_⟩
          repeat walk_at "ev"
          refine ⟨by show 2 ≤ sizeLine; omega, ?_⟩
          repeat walk_at "ev"
          refine mm_app (xs := tV (rV fo)) at_end (by rw [rV_len]; omega) ?_
          rw [set_end, rV_snoc]
          repeat walk_at "ev"
          exact ⟨_, none, _, _, rfl, h2, rfl⟩
    refine f_step (fun ρ' S' => ∃ c, (ins own word ++ [false]).take (i + 1) = (ins own word ++ [false]).take i ++ [c] ∧ ρ' = [some (.tup (iV word)), some (.tup (iV own)), some (.ref S.length), some (oN f), some (.int (i : Nat)), some (.bl c)] ∧ S' = S ++ [.lst (tV (rV fo))]) ?_ ?_
    · repeat walk_at "ev"
      rw [List.length_map]
      by_cases hlt : i < word.length
      · rw [decide_eq_true (show ((i : Nat) : Int) < (word.length : Nat) by omega)]
        repeat walk_at "ev"
        refine ix_tup (atI_iV hlt) ?_
        repeat walk_at "ev"
        refine c_inI ?_
        repeat walk_at "ev"
        refine ⟨_, ?_, rfl, rfl⟩
        rw [List.take_append_of_le_length (by rw [ins_len]; omega), List.take_append_of_le_length (by rw [ins_len]; omega), ins_take hlt]
      · rw [decide_eq_false (show ¬ ((i : Nat) : Int) < (word.length : Nat) by omega)]
        repeat walk_at "ev"
        refine ⟨_, ?_, rfl, rfl⟩
        have ei : i = word.length := by omega
        subst ei
        rw [List.take_of_length_le (by rw [bl]; exact Nat.le_refl _), List.take_append_of_le_length (by rw [ins_len]; exact Nat.le_refl _), List.take_of_length_le (by rw [ins_len]; exact Nat.le_refl _)]
    · rintro ρ' S' ⟨c, ht, rfl, rfl⟩
      exact (go c ht).mono (fun _ _ h => h) (fun _ _ h => h) (fun _ _ h => h.elim) (fun _ _ h => h.elim)
  · obtain ⟨fo, f, a, b, rfl, h, rfl⟩ := h
    rw [rng0_len, List.take_of_length_le (by rw [bl]; exact Nat.le_refl _)] at h
    have hr := runs_le (ins own word)
    have e : runs (ins own word) = fo := by
      cases f with
      | none => rw [← h.1, runs_f]
      | some f =>
        exfalso
        have z : runs (ins own word ++ [false]) = fo ++ [(f, (ins own word ++ [false]).length)] := h
        rw [runs_f] at z
        have := (hr (f, (ins own word ++ [false]).length) (by rw [z]; simp)).2
        rw [List.length_append] at this
        dsimp only at this
        have h1 : ([false] : List Bool).length = 1 := rfl
        omega
    have hg := runs_len (ins own word)
    rw [e, ins_len] at hg
    repeat walk_at "ev"
    refine bi_tupL at_end (by rw [rV_len]; omega) ?_
    have z := q [.lst (tV (rV fo))]
    unfold rns at z
    rw [e] at z
    exact z
end EV

end
section
set_option Elab.async false
set_option linter.all false
set_option maxRecDepth 100000
set_option maxHeartbeats 4000000
namespace EV
open PySem
local macro_rules | `(tactic| walk_at "ev") => `(tactic| with_reducible first
  | refine f_cons ?_ | refine f_nil ?_ | refine f_asg ?_ | refine f_par ?_ | refine f_asgIx ?_ | refine f_expr ?_ | refine f_ret ?_ | refine f_ite ?_ | refine f_for ?_ | refine f_pass ?_ | refine f_brk ?_ | refine f_cont ?_
  | refine w_var (by with_unfolding_all rfl) ?_ | refine w_cI ?_ | refine w_cS ?_ | refine w_cN ?_ | refine w_cB ?_ | refine w_gI ?_ | refine w_bin ?_ | refine w_neg ?_ | refine w_not ?_ | refine w_cmp ?_ | refine w_chn ?_ | refine w_bool ?_ | refine w_bnil ?_ | refine w_if ?_
  | refine w_tup ?_ | refine w_lst ?_ | refine w_dic ?_ | refine w_idx ?_ | refine w_slc ?_ | refine w_bno ?_ | refine w_bso ?_ | refine w_rev ?_ | refine w_call ?_ | refine w_callK ?_ | refine w_bi ?_ | refine w_me ?_ | refine w_ist ?_ | refine w_comp ?_ | refine w_nil ?_ | refine w_cons ?_
  | refine w_seq ?_ | refine w_rng1 ?_ | refine w_rng2 ?_ | refine w_enum ?_ | refine w_zip ?_ | refine w_ono ?_ | refine w_oso ?_
  | refine bi_int ?_ | refine bi_abs ?_ | refine bi_lenT ?_ | refine bi_tupT ?_ | refine b_addI ?_ | refine b_subI ?_ | refine c_eqI ?_ | refine c_neI ?_ | refine c_ltI ?_ | refine c_leI ?_ | refine c_gtI ?_ | refine c_geI ?_ | refine e_bl ?_ | refine e_iI ?_ | refine e_set (by with_unfolding_all rfl) ?_
  | refine pick_t ?_ | refine pick_f ?_ | refine is_int ?_ | refine is_non ?_ | refine is_tup ?_ | refine is_str ?_ | refine isn_int ?_ | refine isn_non ?_ | refine isn_tup ?_ | refine ist_tup ?_ | refine ist_tupS ?_ | refine ist_strS ?_ | refine ist_strT ?_ | refine ist_intI ?_ | refine ist_intB ?_ | refine ist_intT ?_
  | refine w_andT ?_ | refine w_andF ?_ | refine w_orF ?_ | refine w_orT ?_)
def rq (n : Nat) (p : Nat × Nat) : Va := .tup [.int ((n : Int) - (p.2 : Nat)), .int ((n : Int) - (p.1 : Nat))]
def rqV (n : Nat) : Va → Va
  | .tup [.int s, .int e] => .tup [.int ((n : Int) - e), .int ((n : Int) - s)]
  | _ => .non
def wqV : Va → Va
  | .tup [.int s, .int e] => .int (e - s)
  | _ => .non
def inV1 (own : List Int) : Va → Option Va
  | .int a => if own.contains a then some (.int a) else none
  | _ => none
theorem ins_rev (own word : List Int) : ins own word.reverse = (ins own word).reverse := by unfold ins; rw [List.map_reverse]
theorem rq_rev (n : Nat) {ps : List (Nat × Nat)} (h : ∀ p ∈ ps, p.1 < p.2 ∧ p.2 ≤ n) : (ps.map (rq n)).reverse = tV (rV (tn n ps)) := by
  unfold tV rV tn
  rw [List.map_reverse, List.map_reverse, List.map_map, List.map_map]
  congr 1
  refine List.map_congr_left fun p hp => ?_
  obtain ⟨h1, h2⟩ := h p hp
  show rq n p = .tup [.int ((n - p.2 : Nat) : Int), .int ((n - p.1 : Nat) : Int)]
  unfold rq
  rw [Int.ofNat_sub h2, Int.ofNat_sub (by omega)]
theorem rq_items (n : Nat) (ps : List (Nat × Nat)) : (tV (rV ps)).filterMap (fun x => some (rqV n x)) = ps.map (rq n) := by
  rw [fm_some]
  unfold tV rV
  rw [List.map_map, List.map_map]
  rfl
theorem wq_items (ps : List (Nat × Nat)) : (tV (rV ps)).filterMap (fun x => some (wqV x)) = iV (ps.map fun p => ((p.2 : Nat) : Int) - (p.1 : Nat)) := by
  rw [fm_some]
  unfold tV rV
  rw [List.map_map, List.map_map, iV, List.map_map]
  rfl
theorem wq_sum : ∀ ps : List (Nat × Nat), (∀ p ∈ ps, p.1 < p.2) → (ps.map fun p => ((p.2 : Nat) : Int) - (p.1 : Nat)).sum = (wid ps : Nat)
  | [], _ => rfl
  | p :: ps, h => by
    have h1 := h p (List.mem_cons_self ..)
    have ih := wq_sum ps fun a ha => h a (List.mem_cons_of_mem _ ha)
    unfold wid at ih ⊢
    rw [List.map_cons, List.sum_cons, ih, List.map_cons, List.sum_cons]
    omega
theorem in_items (own : List Int) : ∀ word : List Int, (iV word).filterMap (inV1 own) = iV (word.filter fun a => own.contains a)
  | [] => rfl
  | a :: r => by
    show ((.int a :: iV r : List Va)).filterMap (inV1 own) = _
    rw [List.filterMap_cons, in_items own r]
    unfold inV1
    dsimp only
    cases h : own.contains a with
    | true => rw [if_pos rfl, List.filter_cons_of_pos (by exact h)]; rfl
    | false => rw [if_neg (by simp), List.filter_cons_of_neg (by rw [h]; exact Bool.false_ne_true)]
theorem in_count (own word : List Int) : (word.filter fun a => own.contains a).length = wid (runs (ins own word)) := by
  rw [wid_runs, ← List.countP_eq_length_filter]
  unfold ins
  rw [List.countP_map]
  rfl
theorem rns_rev (word own : List Int) : rns word.reverse own = rV (tn word.length (runs (ins own word))) := by
  unfold rns
  rw [ins_rev, runs_rev, ins_len]
theorem rns_len (word own : List Int) : (rns word own).length ≤ word.length := by
  unfold rns rV
  rw [List.length_map]
  exact Nat.le_trans (runs_len _) (by rw [ins_len]; exact Nat.le_refl _)
theorem rns_two (word own : List Int) : ∀ p ∈ rns word own, p.length ≤ sizeLine := by
  have es := sizeLine_eq
  unfold rns rV
  intro p hp
  obtain ⟨a, _, rfl⟩ := List.mem_map.mp hp
  show 2 ≤ sizeLine
  omega
theorem ix_lims {k r : Nat} (h1 : 1 ≤ k) (h5 : k ≤ 5) {S : Sto} {P : Va → Sto → Prop} (h : S[r]? = some (.lst [.int 1, .int 3, .int 7, .int 15, .int 31])) (q : ∀ m : Nat, 1 ≤ m → m ≤ 31 → P (.int (m : Nat)) S) : Rw (idxOp (.ref r) (.int ((k : Nat) - 1 : Int)) S) P := by
  match k, h1, h5 with
  | 1, _, _ => exact ix_lst h (L2.atI_nat (j := 0) rfl) (q 1 (by omega) (by omega))
  | 2, _, _ => exact ix_lst h (L2.atI_nat (j := 1) rfl) (q 3 (by omega) (by omega))
  | 3, _, _ => exact ix_lst h (L2.atI_nat (j := 2) rfl) (q 7 (by omega) (by omega))
  | 4, _, _ => exact ix_lst h (L2.atI_nat (j := 3) rfl) (q 15 (by omega) (by omega))
  | 5, _, _ => exact ix_lst h (L2.atI_nat (j := 4) rfl) (q 31 (by omega) (by omega))
end EV

end
section
set_option Elab.async false
set_option linter.all false
set_option maxRecDepth 100000
set_option maxHeartbeats 4000000
namespace EV
open PySem
local macro_rules | `(tactic| walk_at "ev") => `(tactic| with_reducible first
  | refine f_cons ?_ | refine f_nil ?_ | refine f_asg ?_ | refine f_par ?_ | refine f_asgIx ?_ | refine f_expr ?_ | refine f_ret ?_ | refine f_ite ?_ | refine f_for ?_ | refine f_pass ?_ | refine f_brk ?_ | refine f_cont ?_
  | refine w_var (by with_unfolding_all rfl) ?_ | refine w_cI ?_ | refine w_cS ?_ | refine w_cN ?_ | refine w_cB ?_ | refine w_gI ?_ | refine w_bin ?_ | refine w_neg ?_ | refine w_not ?_ | refine w_cmp ?_ | refine w_chn ?_ | refine w_bool ?_ | refine w_bnil ?_ | refine w_if ?_
  | refine w_tup ?_ | refine w_lst ?_ | refine w_dic ?_ | refine w_idx ?_ | refine w_slc ?_ | refine w_bno ?_ | refine w_bso ?_ | refine w_rev ?_ | refine w_call ?_ | refine w_callK ?_ | refine w_bi ?_ | refine w_me ?_ | refine w_ist ?_ | refine w_comp ?_ | refine w_nil ?_ | refine w_cons ?_
  | refine w_seq ?_ | refine w_rng1 ?_ | refine w_rng2 ?_ | refine w_enum ?_ | refine w_zip ?_ | refine w_ono ?_ | refine w_oso ?_
  | refine bi_int ?_ | refine bi_abs ?_ | refine bi_lenT ?_ | refine bi_tupT ?_ | refine b_addI ?_ | refine b_subI ?_ | refine c_eqI ?_ | refine c_neI ?_ | refine c_ltI ?_ | refine c_leI ?_ | refine c_gtI ?_ | refine c_geI ?_ | refine e_bl ?_ | refine e_iI ?_ | refine e_set (by with_unfolding_all rfl) ?_
  | refine pick_t ?_ | refine pick_f ?_ | refine is_int ?_ | refine is_non ?_ | refine is_tup ?_ | refine is_str ?_ | refine isn_int ?_ | refine isn_non ?_ | refine isn_tup ?_ | refine ist_tup ?_ | refine ist_tupS ?_ | refine ist_strS ?_ | refine ist_strT ?_ | refine ist_intI ?_ | refine ist_intB ?_ | refine ist_intT ?_
  | refine w_andT ?_ | refine w_andF ?_ | refine w_orF ?_ | refine w_orT ?_)
theorem w_runsr (n : Nat) {b c k : Nat} (hk : 1 ≤ k) (hk5 : k ≤ 5) {word : List Int} (hm : word.length ≤ 600) (hx : Wd (k : Int) word) {S : Sto} {P : Va → Sto → Prop} (B : Bag b c S)
    (q : ∀ S', Bag b c S' → Fr b c S S' → P (.bl true) S') : Rw (Rn (n + 3) 34 [.ref b, .int (k : Nat), .tup (iV word)] S) P := by
  refine w_run (d := k01_34) rfl rfl ?_
  have es := sizeLine_eq
  have hxx : ∀ x ∈ word, 0 ≤ x ∧ x < (k : Int) := hx
  repeat walk_at "ev"
  refine w_newL (by show 5 ≤ sizeLine; omega) ?_
  repeat walk_at "ev"
  refine ix_lims hk hk5 at_end fun m m1 m2 => ?_
  repeat walk_at "ev"
  with_reducible refine w_draw (n + 1) (below := (m : Nat)) (by omega) (by omega) (B.grow _) fun j S1 a1 a2 B1 f1 => ?_
  repeat walk_at "ev"
  with_reducible refine w_cls (n + 1) hk5 fun T1 => ?_
  have B2 := B1.grow T1
  have f2 : Fr b c S (S1 ++ T1) := (Fr.grow _).trans (f1.trans (Fr.grow _))
  generalize S1 ++ T1 = S2 at B2 f2
  generalize clsL k (1 + j) = own
  repeat walk_at "ev"
  refine ⟨by show 2 ≤ sizeLine; omega, ?_⟩
  repeat walk_at "ev"
  with_reducible refine w_lruns (n + 1) (by omega) fun T3 => ?_
  repeat walk_at "ev"
  with_reducible refine w_lturn (n + 1) (by omega) fun T4 => ?_
  repeat walk_at "ev"
  refine sw_tup ?_
  have hle := runs_le (ins own word)
  have B4 : Bag b c (S2 ++ T3 ++ T4) := (B2.grow _).grow _
  have f4 : Fr b c S (S2 ++ T3 ++ T4) := f2.trans ((Fr.grow _).trans (Fr.grow _))
  generalize S2 ++ T3 ++ T4 = S4 at B4 f4
  have hrl := rns_len word own
  have hr0 := runs_len (ins own word)
  rw [ins_len] at hr0
  refine w_mapv (fun x => some (rqV word.length x)) stay_nil (fun x hx => ?_) ?_
  · obtain ⟨p, hp, rfl⟩ := List.mem_map.mp hx
    obtain ⟨⟨s, e⟩, _, rfl⟩ := List.mem_map.mp hp
    refine w_turn rfl ?_
    repeat walk_at "ev"
    refine .inl ⟨rfl, ?_⟩
    repeat walk_at "ev"
    refine ix_tup atI1 ?_
    repeat walk_at "ev"
    refine ix_tup atI0 ?_
    repeat walk_at "ev"
    refine ⟨by show 2 ≤ sizeLine; omega, ?_⟩
    refine ⟨?_, rfl⟩
    rw [List.length_map]
    rfl
  · show Rw (newL ((tV (rns word own)).filterMap fun x => some (rqV word.length x)) S4) _
    unfold rns
    rw [rq_items]
    have hq : ((runs (ins own word)).map (rq word.length)).length ≤ sizeLine := by rw [List.length_map]; omega
    refine w_newL hq ?_
    repeat walk_at "ev"
    refine bi_lstL at_end hq ?_
    repeat walk_at "ev"
    refine bi_revT at_end hq ?_
    rw [rq_rev _ (by rw [← ins_len own word]; exact hle), ← rns_rev]
    have B5 := (B4.grow [Ob.lst ((runs (ins own word)).map (rq word.length))]).grow [Ob.lst ((runs (ins own word)).map (rq word.length))]
    have f5 := (f4.trans (Fr.grow [Ob.lst ((runs (ins own word)).map (rq word.length))])).trans (Fr.grow [Ob.lst ((runs (ins own word)).map (rq word.length))])
    generalize S4 ++ [Ob.lst ((runs (ins own word)).map (rq word.length))] ++ [Ob.lst ((runs (ins own word)).map (rq word.length))] = S5 at B5 f5 ⊢
    repeat walk_at "ev"
    with_reducible refine w_runs (n + 1) (by omega) fun T6 => ?_
    repeat walk_at "ev"
    show Rw (run k01_D k01_anc k01_fuel (n + 2) 17 [.tup (tV (rns word own)), .tup (tV (rns word own))] _) _
    with_reducible refine w_pairs n (ps := rns word own) (by omega) (rns_two word own) fun T7 => ?_
    repeat walk_at "ev"
    refine w_or (fun _ => ?_) (fun z => Bool.noConfusion z)
    repeat walk_at "ev"
    refine ⟨_, rfl, ?_⟩
    with_reducible refine w_runs (n + 1) (by omega) fun T8 => ?_
    repeat walk_at "ev"
    show Rw (run k01_D k01_anc k01_fuel (n + 2) 17 [.tup (tV (rns word own)), .tup (tV (rns word own))] _) _
    with_reducible refine w_pairs n (ps := rns word own) (by omega) (rns_two word own) fun T9 => ?_
    repeat walk_at "ev"
    refine ⟨fun z => Bool.noConfusion z, fun _ => ?_⟩
    have B9 := (((B5.grow T6).grow T7).grow T8).grow T9
    have f9 := (((f5.trans (Fr.grow T6)).trans (Fr.grow T7)).trans (Fr.grow T8)).trans (Fr.grow T9)
    generalize S5 ++ T6 ++ T7 ++ T8 ++ T9 = S9 at B9 f9 ⊢
    repeat walk_at "ev"
    with_reducible refine w_turned (n + 1) ?_
    repeat walk_at "ev"
    with_reducible refine w_nums (n + 1) (by rw [List.length_reverse]; omega) fun T10 => ?_
    rw [decide_eq_true (rfl : word.reverse = word.reverse)]
    repeat walk_at "ev"
    refine w_or (fun _ => ?_) (fun z => Bool.noConfusion z)
    repeat walk_at "ev"
    refine ⟨_, rfl, ?_⟩
    with_reducible refine w_turned (n + 1) ?_
    repeat walk_at "ev"
    with_reducible refine w_nums (n + 1) (by rw [List.length_reverse]; omega) fun T11 => ?_
    rw [decide_eq_true (rfl : word.reverse = word.reverse)]
    repeat walk_at "ev"
    refine ⟨fun z => Bool.noConfusion z, fun _ => ?_⟩
    repeat walk_at "ev"
    with_reducible refine w_runs (n + 1) (by rw [List.length_reverse]; omega) fun T12 => ?_
    repeat walk_at "ev"
    have hrr := rns_len word.reverse own
    rw [List.length_reverse] at hrr
    with_reducible refine w_pairs n (ps := rns word.reverse own) (by omega) (rns_two _ own) fun T13 => ?_
    repeat walk_at "ev"
    refine w_or (fun _ => ?_) (fun z => Bool.noConfusion z)
    repeat walk_at "ev"
    with_reducible refine w_turned (n + 1) ?_
    repeat walk_at "ev"
    rw [List.reverse_reverse]
    with_reducible refine w_nums (n + 1) (by omega) fun T14 => ?_
    rw [decide_eq_true (rfl : word = word)]
    repeat walk_at "ev"
    refine ⟨fun z => Bool.noConfusion z, fun _ => ?_⟩
    have B14 := ((((B9.grow T10).grow T11).grow T12).grow T13).grow T14
    have f14 := ((((f9.trans (Fr.grow T10)).trans (Fr.grow T11)).trans (Fr.grow T12)).trans (Fr.grow T13)).trans (Fr.grow T14)
    generalize S9 ++ T10 ++ T11 ++ T12 ++ T13 ++ T14 = S14 at B14 f14 ⊢
    repeat walk_at "ev"
    refine sw_tup ?_
    refine w_mapv (fun x => some (wqV x)) stay_nil (fun x hx => ?_) ?_
    · obtain ⟨p, hp, rfl⟩ := List.mem_map.mp hx
      obtain ⟨⟨s, e⟩, _, rfl⟩ := List.mem_map.mp hp
      refine w_turn rfl ?_
      repeat walk_at "ev"
      refine .inl ⟨rfl, ?_⟩
      repeat walk_at "ev"
      refine ix_tup atI1 ?_
      repeat walk_at "ev"
      refine ix_tup atI0 ?_
      repeat walk_at "ev"
      exact ⟨rfl, rfl⟩
    · show Rw (newL ((tV (rV (runs (ins own word)))).filterMap fun x => some (wqV x)) S14) _
      rw [wq_items]
      refine w_newL (by rw [List.length_map, List.length_map]; omega) ?_
      repeat walk_at "ev"
      refine bi_sumL at_end ?_
      rw [wq_sum _ (fun p hp => (hle p hp).1)]
      have B15 := B14.grow [Ob.lst (iV ((runs (ins own word)).map fun p => ((p.2 : Nat) : Int) - (p.1 : Nat)))]
      have f15 := f14.trans (Fr.grow [Ob.lst (iV ((runs (ins own word)).map fun p => ((p.2 : Nat) : Int) - (p.1 : Nat)))])
      generalize S14 ++ [Ob.lst (iV ((runs (ins own word)).map fun p => ((p.2 : Nat) : Int) - (p.1 : Nat)))] = S15 at B15 f15 ⊢
      repeat walk_at "ev"
      refine sw_tup ?_
      refine w_mapv (inV1 own) stay_nil (fun x hx => ?_) ?_
      · obtain ⟨a, ha, rfl⟩ := List.mem_map.mp hx
        refine w_turn rfl ?_
        repeat walk_at "ev"
        refine c_inI ?_
        refine .inr ⟨_, rfl, fun e => ?_, fun e => ?_⟩
        · repeat walk_at "ev"
          exact ⟨by unfold inV1; dsimp only; rw [if_pos e], rfl⟩
        · exact ⟨by unfold inV1; dsimp only; rw [e]; rfl, rfl⟩
      · show Rw (newL ((iV word).filterMap (inV1 own)) S15) _
        rw [in_items]
        refine w_newL (by rw [List.length_map]; exact Nat.le_trans (List.length_filter_le _ _) (by omega)) ?_
        repeat walk_at "ev"
        refine bi_lenL at_end ?_
        rw [List.length_map, in_count]
        repeat walk_at "ev"
        rw [decide_eq_true (rfl : ((wid (runs (ins own word)) : Nat) : Int) = (wid (runs (ins own word)) : Nat))]
        refine ⟨fun z => Bool.noConfusion z, fun _ => ?_⟩
        have B16 := B15.grow [Ob.lst (iV (word.filter fun a => own.contains a))]
        have f16 := f15.trans (Fr.grow [Ob.lst (iV (word.filter fun a => own.contains a))])
        generalize S15 ++ [Ob.lst (iV (word.filter fun a => own.contains a))] = S16 at B16 f16 ⊢
        repeat walk_at "ev"
        refine ⟨fun _ => ?_, fun _ => ?_⟩
        · repeat walk_at "ev"
          with_reducible refine w_cntr n hk5 (xs := word) (by omega) hxx fun T17 => ?_
          exact q _ (B16.grow T17) (f16.trans (Fr.grow T17))
        · repeat walk_at "ev"
          exact q _ B16 f16
end EV

end
section
set_option Elab.async false
set_option linter.all false
set_option maxRecDepth 100000
set_option maxHeartbeats 4000000
namespace EV
open PySem
local macro_rules | `(tactic| walk_at "ev") => `(tactic| with_reducible first
  | refine f_cons ?_ | refine f_nil ?_ | refine f_asg ?_ | refine f_par ?_ | refine f_asgIx ?_ | refine f_expr ?_ | refine f_ret ?_ | refine f_ite ?_ | refine f_for ?_ | refine f_pass ?_ | refine f_brk ?_ | refine f_cont ?_
  | refine w_var (by with_unfolding_all rfl) ?_ | refine w_cI ?_ | refine w_cS ?_ | refine w_cN ?_ | refine w_cB ?_ | refine w_gI ?_ | refine w_bin ?_ | refine w_neg ?_ | refine w_not ?_ | refine w_cmp ?_ | refine w_chn ?_ | refine w_bool ?_ | refine w_bnil ?_ | refine w_if ?_
  | refine w_tup ?_ | refine w_lst ?_ | refine w_dic ?_ | refine w_idx ?_ | refine w_slc ?_ | refine w_bno ?_ | refine w_bso ?_ | refine w_rev ?_ | refine w_call ?_ | refine w_callK ?_ | refine w_bi ?_ | refine w_me ?_ | refine w_ist ?_ | refine w_comp ?_ | refine w_nil ?_ | refine w_cons ?_
  | refine w_seq ?_ | refine w_rng1 ?_ | refine w_rng2 ?_ | refine w_enum ?_ | refine w_zip ?_ | refine w_ono ?_ | refine w_oso ?_
  | refine bi_int ?_ | refine bi_abs ?_ | refine bi_lenT ?_ | refine bi_tupT ?_ | refine b_addI ?_ | refine b_subI ?_ | refine c_eqI ?_ | refine c_neI ?_ | refine c_ltI ?_ | refine c_leI ?_ | refine c_gtI ?_ | refine c_geI ?_ | refine e_bl ?_ | refine e_iI ?_ | refine e_set (by with_unfolding_all rfl) ?_
  | refine pick_t ?_ | refine pick_f ?_ | refine is_int ?_ | refine is_non ?_ | refine is_tup ?_ | refine is_str ?_ | refine isn_int ?_ | refine isn_non ?_ | refine isn_tup ?_ | refine ist_tup ?_ | refine ist_tupS ?_ | refine ist_strS ?_ | refine ist_strT ?_ | refine ist_intI ?_ | refine ist_intB ?_ | refine ist_intT ?_
  | refine w_andT ?_ | refine w_andF ?_ | refine w_orF ?_ | refine w_orT ?_)
/-! what values show -/
structure VS (S : Sto) (k N : Nat) (hD hL : Bool) (v : Va) : Prop where
  ex : ∃ d : PyData, (∀ m, k < m → toD S m v = some d) ∧ d.showable = true ∧ d.shown.length ≤ 2000 * N ∧ d.depth ≤ k ∧ (hD = false → d.hasDict = false) ∧ (hL = false → hasLst d = false)
structure LS (S : Sto) (k N : Nat) (hD hL : Bool) (vs : List Va) : Prop where
  ex : ∃ ds : List PyData, (∀ m, k < m → optMap (toD S m) vs = some ds) ∧ PyData.showableAll ds = true ∧ ((PyData.shownAll ds).map (·.length)).sum + 2 * ds.length ≤ 2000 * N ∧ PyData.depthAll ds ≤ k ∧ (hD = false → PyData.hasDictAll ds = false) ∧ (hL = false → hasLsts ds = false)
theorem VS.mono {S : Sto} {k N k2 N2 : Nat} {hD hL hD2 hL2 : Bool} {v : Va} (h : VS S k N hD hL v) (h1 : k ≤ k2) (h2 : N ≤ N2) (h3 : hD2 = false → hD = false) (h4 : hL2 = false → hL = false) : VS S k2 N2 hD2 hL2 v := by
  obtain ⟨d, a1, a2, a3, a4, a5, a6⟩ := h.ex
  exact ⟨d, fun m hm => a1 m (by omega), a2, by omega, by omega, fun e => a5 (h3 e), fun e => a6 (h4 e)⟩
theorem LS.nil {S : Sto} {k N : Nat} {hD hL : Bool} : LS S k N hD hL [] := ⟨[], fun _ _ => rfl, by simp only [PyData.showableAll], by simp [PyData.shownAll], by simp [PyData.depthAll], fun _ => by simp only [PyData.hasDictAll], fun _ => by simp only [hasLsts]⟩
theorem LS.cons {S : Sto} {k N M : Nat} {hD hL : Bool} {v : Va} {vs : List Va} (h : VS S k N hD hL v) (h2 : LS S k M hD hL vs) : LS S k (N + M + 1) hD hL (v :: vs) := by
  obtain ⟨d, a1, a2, a3, a4, a5, a6⟩ := h.ex
  obtain ⟨ds, b1, b2, b3, b4, b5, b6⟩ := h2.ex
  refine ⟨d :: ds, fun m hm => ?_, ?_, ?_, ?_, fun e => ?_, fun e => ?_⟩
  · unfold optMap
    rw [a1 m hm, b1 m hm]
  · simp only [PyData.showableAll, a2, b2, Bool.and_self]
  · simp only [PyData.shownAll, List.map_cons, List.sum_cons, List.length_cons]
    omega
  · simp only [PyData.depthAll]
    omega
  · simp only [PyData.hasDictAll, a5 e, b5 e, Bool.or_self]
  · simp only [hasLsts, a6 e, b6 e, Bool.or_self]
theorem LS.uncons {S : Sto} {k M : Nat} {hD hL : Bool} {v : Va} {vs : List Va} (h : LS S k M hD hL (v :: vs)) : ∃ N1 N2, VS S k N1 hD hL v ∧ LS S k N2 hD hL vs := by
  obtain ⟨ds, b1, b2, b3, b4, b5, b6⟩ := h.ex
  obtain ⟨d, t, rfl, h1, h2⟩ := optMap_cons (b1 (k + 1) (Nat.lt_succ_self _))
  have g : ∀ m, k < m → toD S m v = some d ∧ optMap (toD S m) vs = some t := fun m hm => by
    obtain ⟨d', t', e, h3, h4⟩ := optMap_cons (b1 m hm)
    cases e
    exact ⟨h3, h4⟩
  simp only [PyData.showableAll, Bool.and_eq_true] at b2
  simp only [PyData.depthAll] at b4
  refine ⟨d.shown.length, ((PyData.shownAll t).map (·.length)).sum + 2 * t.length, ⟨d, fun m hm => (g m hm).1, b2.1, by omega, by omega, fun e => ?_, fun e => ?_⟩, ⟨t, fun m hm => (g m hm).2, b2.2, by omega, by omega, fun e => ?_, fun e => ?_⟩⟩
  · have := b5 e; simp only [PyData.hasDictAll, Bool.or_eq_false_iff] at this; exact this.1
  · have := b6 e; simp only [hasLsts, Bool.or_eq_false_iff] at this; exact this.1
  · have := b5 e; simp only [PyData.hasDictAll, Bool.or_eq_false_iff] at this; exact this.2
  · have := b6 e; simp only [hasLsts, Bool.or_eq_false_iff] at this; exact this.2
theorem LS.mono {S : Sto} {k N k2 N2 : Nat} {hD hL hD2 hL2 : Bool} {vs : List Va} (h : LS S k N hD hL vs) (h1 : k ≤ k2) (h2 : N ≤ N2) (h3 : hD2 = false → hD = false) (h4 : hL2 = false → hL = false) : LS S k2 N2 hD2 hL2 vs := by
  obtain ⟨d, a1, a2, a3, a4, a5, a6⟩ := h.ex
  exact ⟨d, fun m hm => a1 m (by omega), a2, by omega, by omega, fun e => a5 (h3 e), fun e => a6 (h4 e)⟩
theorem sumL_app (xs ys : List PyData) : PyData.shownAll (xs ++ ys) = PyData.shownAll xs ++ PyData.shownAll ys := by
  induction xs with
  | nil => simp only [PyData.shownAll, List.nil_append]
  | cons a r ih => simp only [PyData.shownAll, List.cons_append, ih]
theorem LS.app {S : Sto} {k : Nat} {hD hL : Bool} {vs : List Va} : ∀ {N M : Nat} {ws : List Va}, LS S k N hD hL ws → LS S k M hD hL vs → LS S k (N + M) hD hL (ws ++ vs) := by
  intro N M ws h h2
  obtain ⟨ds, a1, a2, a3, a4, a5, a6⟩ := h.ex
  obtain ⟨es, b1, b2, b3, b4, b5, b6⟩ := h2.ex
  have om : ∀ m (ws : List Va) (ds : List PyData), optMap (toD S m) ws = some ds → optMap (toD S m) vs = some es → optMap (toD S m) (ws ++ vs) = some (ds ++ es) := fun m ws => by
    induction ws with
    | nil => intro ds e e2; rw [optMap_nil e]; exact e2
    | cons a r ih =>
      intro ds e e2
      obtain ⟨d, t, rfl, h3, h4⟩ := optMap_cons e
      show optMap (toD S m) (a :: (r ++ vs)) = _
      unfold optMap
      rw [h3, ih t h4 e2]; rfl
  have sa : ∀ ds : List PyData, PyData.showableAll ds = true → PyData.showableAll (ds ++ es) = true := fun ds => by
    induction ds with
    | nil => intro _; exact b2
    | cons a r ih =>
      intro e
      simp only [PyData.showableAll, List.cons_append, Bool.and_eq_true] at e ⊢
      exact ⟨e.1, ih e.2⟩
  have da : ∀ ds : List PyData, PyData.depthAll ds ≤ k → PyData.depthAll (ds ++ es) ≤ k := fun ds => by
    induction ds with
    | nil => intro _; exact b4
    | cons a r ih =>
      intro e
      simp only [PyData.depthAll, List.cons_append] at e ⊢
      have := ih (by omega)
      omega
  have ha : ∀ ds : List PyData, PyData.hasDictAll es = false → PyData.hasDictAll ds = false → PyData.hasDictAll (ds ++ es) = false := fun ds z => by
    induction ds with
    | nil => intro _; exact z
    | cons a r ih =>
      intro e
      simp only [PyData.hasDictAll, List.cons_append, Bool.or_eq_false_iff] at e ⊢
      exact ⟨e.1, ih e.2⟩
  have hb : ∀ ds : List PyData, hasLsts es = false → hasLsts ds = false → hasLsts (ds ++ es) = false := fun ds z => by
    induction ds with
    | nil => intro _; exact z
    | cons a r ih =>
      intro e
      simp only [hasLsts, List.cons_append, Bool.or_eq_false_iff] at e ⊢
      exact ⟨e.1, ih e.2⟩
  refine ⟨ds ++ es, fun m hm => om m ws ds (a1 m hm) (b1 m hm), sa ds a2, ?_, da ds a4, fun e => ha ds (b5 e) (a5 e), fun e => hb ds (b6 e) (a6 e)⟩
  rw [sumL_app, List.map_append, List.sum_append, List.length_append]
  omega
theorem int_len {z : Int} (h : z.natAbs.log2 < 1920) : (PyData.shown (.int z)).length ≤ 1999 := by
  have e := int_text_length_le (k := 1920) (by decide) h
  show (Str.ofString (toString z)).length ≤ 1999
  rw [ofString_length]
  omega
theorem VS.int {S : Sto} {z : Int} (h : z.natAbs.log2 < 1920) : VS S 0 1 false false (.int z) := by
  refine ⟨.int z, fun m hm => ?_, ?_, ?_, ?_, fun _ => by simp only [PyData.hasDict], fun _ => by simp only [hasLst]⟩
  · cases m with
    | zero => exact absurd hm (Nat.lt_irrefl 0)
    | succ m => rfl
  · simp only [PyData.showable, h, decide_true]
  · have := int_len h; omega
  · simp only [PyData.depth]; omega
theorem VS.tup {S : Sto} {k N : Nat} {hD hL : Bool} {vs : List Va} (h : LS S k N hD hL vs) : VS S (k + 1) (N + 1) hD hL (.tup vs) := by
  obtain ⟨ds, a1, a2, a3, a4, a5, a6⟩ := h.ex
  refine ⟨.tuple ds, fun m hm => ?_, by simp only [PyData.showable, a2], ?_, by simp only [PyData.depth]; omega, fun e => by simp only [PyData.hasDict, a5 e], fun e => by simp only [hasLst, a6 e]⟩
  · cases m with
    | zero => exact absurd hm (by omega)
    | succ m => simp only [toD, a1 m (by omega), Option.map_some]
  · have := tupleText_len_le (PyData.shownAll ds)
    have := PyData.shownAll_length ds
    simp only [PyData.shown]
    omega
theorem VS.lst {S : Sto} {k N i : Nat} {hD hL : Bool} {vs : List Va} (hs : S[i]? = some (.lst vs)) (h : LS S k N hD hL vs) : VS S (k + 1) (N + 1) hD true (.ref i) := by
  obtain ⟨ds, a1, a2, a3, a4, a5, a6⟩ := h.ex
  refine ⟨.list ds, fun m hm => ?_, by simp only [PyData.showable, a2], ?_, by simp only [PyData.depth]; omega, fun e => by simp only [PyData.hasDict, a5 e], fun e => Bool.noConfusion e⟩
  · cases m with
    | zero => exact absurd hm (by omega)
    | succ m => simp only [toD, hs, a1 m (by omega), Option.map_some]
  · have := listText_len_le (PyData.shownAll ds)
    have := PyData.shownAll_length ds
    simp only [PyData.shown]
    omega
theorem VS.dic {S : Sto} {k N M i : Nat} {hD hL : Bool} {a b : Va} (hs : S[i]? = some (.dic [(a, b)])) (h : VS S k N hD hL a) (h2 : VS S k M hD hL b) : VS S (k + 1) (N + M + 1) true hL (.ref i) := by
  obtain ⟨d, a1, a2, a3, a4, a5, a6⟩ := h.ex
  obtain ⟨e, b1, b2, b3, b4, b5, b6⟩ := h2.ex
  refine ⟨.dict [(d, e)], fun m hm => ?_, by simp only [PyData.showable, PyData.showableKv, a2, b2, Bool.and_self], ?_, by simp only [PyData.depth, PyData.depthKv]; omega, fun e => Bool.noConfusion e, fun z => by simp only [hasLst, hasLstKv, a6 z, b6 z, Bool.or_self]⟩
  · cases m with
    | zero => exact absurd hm (by omega)
    | succ m => simp only [toD, hs, optMap, a1 m (by omega), b1 m (by omega), Option.map_some]
  · have h3 := dictText_len_le (PyData.shownKv [(d, e)])
    have e2 : (d.shown ++ ": " ++ e.shown).length = d.shown.length + 2 + e.shown.length := by
      rw [strLen_append, strLen_append]; rfl
    simp only [PyData.shownKv, List.map_cons, List.map_nil, List.sum_cons, List.sum_nil, List.length_cons, List.length_nil, e2] at h3
    simp only [PyData.shown, PyData.shownKv]
    omega
end EV

end
section
set_option Elab.async false
set_option linter.all false
set_option maxRecDepth 100000
set_option maxHeartbeats 4000000
namespace EV
open PySem
local macro_rules | `(tactic| walk_at "ev") => `(tactic| with_reducible first
  | refine f_cons ?_ | refine f_nil ?_ | refine f_asg ?_ | refine f_par ?_ | refine f_asgIx ?_ | refine f_expr ?_ | refine f_ret ?_ | refine f_ite ?_ | refine f_for ?_ | refine f_pass ?_ | refine f_brk ?_ | refine f_cont ?_
  | refine w_var (by with_unfolding_all rfl) ?_ | refine w_cI ?_ | refine w_cS ?_ | refine w_cN ?_ | refine w_cB ?_ | refine w_gI ?_ | refine w_bin ?_ | refine w_neg ?_ | refine w_not ?_ | refine w_cmp ?_ | refine w_chn ?_ | refine w_bool ?_ | refine w_bnil ?_ | refine w_if ?_
  | refine w_tup ?_ | refine w_lst ?_ | refine w_dic ?_ | refine w_idx ?_ | refine w_slc ?_ | refine w_bno ?_ | refine w_bso ?_ | refine w_rev ?_ | refine w_call ?_ | refine w_callK ?_ | refine w_bi ?_ | refine w_me ?_ | refine w_ist ?_ | refine w_comp ?_ | refine w_nil ?_ | refine w_cons ?_
  | refine w_seq ?_ | refine w_rng1 ?_ | refine w_rng2 ?_ | refine w_enum ?_ | refine w_zip ?_ | refine w_ono ?_ | refine w_oso ?_
  | refine bi_int ?_ | refine bi_abs ?_ | refine bi_lenT ?_ | refine bi_tupT ?_ | refine b_addI ?_ | refine b_subI ?_ | refine c_eqI ?_ | refine c_neI ?_ | refine c_ltI ?_ | refine c_leI ?_ | refine c_gtI ?_ | refine c_geI ?_ | refine e_bl ?_ | refine e_iI ?_ | refine e_set (by with_unfolding_all rfl) ?_
  | refine pick_t ?_ | refine pick_f ?_ | refine is_int ?_ | refine is_non ?_ | refine is_tup ?_ | refine is_str ?_ | refine isn_int ?_ | refine isn_non ?_ | refine isn_tup ?_ | refine ist_tup ?_ | refine ist_tupS ?_ | refine ist_strS ?_ | refine ist_strT ?_ | refine ist_intI ?_ | refine ist_intB ?_ | refine ist_intT ?_
  | refine w_andT ?_ | refine w_andF ?_ | refine w_orF ?_ | refine w_orT ?_)
theorem VS.grow {S : Sto} {k N : Nat} {hD hL : Bool} {v : Va} (h : VS S k N hD hL v) (T : Sto) : VS (S ++ T) k N hD hL v := by
  obtain ⟨d, a1, r⟩ := h.ex
  exact ⟨d, fun m hm => toD_grow T m (a1 m hm), r⟩
theorem LS.grow {S : Sto} {k N : Nat} {hD hL : Bool} {v : List Va} (h : LS S k N hD hL v) (T : Sto) : LS (S ++ T) k N hD hL v := by
  obtain ⟨d, a1, r⟩ := h.ex
  exact ⟨d, fun m hm => optMap_mono (fun a b => toD_grow T m) (a1 m hm), r⟩
theorem LS.ints {S : Sto} {k : Nat} : ∀ {xs : List Int}, (∀ x ∈ xs, x.natAbs.log2 < 1920) → LS S k (2 * xs.length) false false (iV xs)
  | [], _ => LS.nil
  | x :: xs, h => by
    have z := LS.cons ((VS.int (S := S) (h x (List.mem_cons_self ..))).mono (k2 := k) (Nat.zero_le _) (Nat.le_refl _) id id) (LS.ints (S := S) (k := k) fun a ha => h a (List.mem_cons_of_mem _ ha))
    exact z.mono (Nat.le_refl _) (by rw [List.length_cons]; omega) id id
theorem LS.take {S : Sto} {k N : Nat} {hD hL : Bool} : ∀ {vs : List Va}, LS S k N hD hL vs → True := fun _ => trivial
theorem okV_toD {S : Sto} {v : Va} {d : PyData} : ∀ {m : Nat}, toD S m v = some d → okV S v = true
  | 0, h => by simp [toD] at h
  | m + 1, h => by
    cases v with
    | lis xs => simp [toD] at h
    | exc => simp [toD] at h
    | ref i =>
      simp only [okV]
      cases hs : S[i]? with
      | none => simp [toD, hs] at h
      | some o => rfl
    | _ => rfl
theorem optMap_mem {α β : Type} {f : α → Option β} : ∀ {l : List α} {r : List β}, optMap f l = some r → l.length = r.length ∧ ∀ a ∈ l, ∃ b, f a = some b
  | [], _, e => by rw [optMap_nil e]; exact ⟨rfl, fun _ h => nomatch h⟩
  | a :: l, _, e => by
    obtain ⟨b, t, rfl, h1, h2⟩ := optMap_cons e
    obtain ⟨g1, g2⟩ := optMap_mem h2
    refine ⟨by rw [List.length_cons, List.length_cons, g1], fun x hx => ?_⟩
    rcases List.mem_cons.mp hx with rfl | hx
    · exact ⟨b, h1⟩
    · exact g2 x hx
theorem VS.okT {S : Sto} {k N : Nat} {hD hL : Bool} {v : Va} (h : VS S k N hD hL v) : EV.okT S v := by
  obtain ⟨d, a1, a2, a3, a4, a5, a6⟩ := h.ex
  have z := a1 (k + 1) (Nat.lt_succ_self _)
  refine ⟨okV_toD z, fun xs e x hx => ?_⟩
  subst e
  simp only [toD] at z
  obtain ⟨ds, h1, _⟩ := Option.map_eq_some_iff.mp z
  obtain ⟨b, hb⟩ := (optMap_mem h1).2 x hx
  exact okV_toD hb
theorem VS.okJ {S : Sto} {k N : Nat} {hD hL : Bool} {v : Va} (h : VS S k N hD hL v) (hk : k ≤ 50) (hN : N ≤ 8000) (hb : (hD && hL) = false) (hl : ∀ xs, v = .tup xs → xs.length ≤ sizeLine) : OkJ S v := by
  refine ⟨h.okT, hl, ?_⟩
  obtain ⟨d, a1, a2, a3, a4, a5, a6⟩ := h.ex
  have es := sizeLine_eq
  refine ⟨d, a1 60 (by omega), ?_⟩
  unfold showOk
  have e1 : decide (d.shown.length ≤ sizeLine) = true := decide_eq_true (by omega)
  have e2 : decide (d.depth ≤ 60) = true := decide_eq_true (by omega)
  rw [a2, e1, e2]
  cases hD with
  | false => rw [a5 rfl]; rfl
  | true =>
    cases hL with
    | true => exact absurd hb (by decide)
    | false => rw [a6 rfl]; simp
theorem VS.sc {S : Sto} {v : Va} {d : PyData} (h : ∀ m, toD S (m + 1) v = some d) (h1 : d.showable = true) (h2 : d.shown.length ≤ 2000) (h3 : d.depth = 0) (h4 : d.hasDict = false) (h5 : hasLst d = false) : VS S 0 1 false false v :=
  ⟨d, fun m hm => by
    cases m with
    | zero => exact absurd hm (Nat.lt_irrefl 0)
    | succ m => exact h m, h1, by omega, by omega, fun _ => h4, fun _ => h5⟩
theorem VS.bl {S : Sto} (b : Bool) : VS S 0 1 false false (.bl b) := VS.sc (d := .bool b) (fun _ => rfl) (by simp only [PyData.showable]) (by cases b <;> decide) (by simp only [PyData.depth]) (by simp only [PyData.hasDict]) (by simp only [hasLst])
theorem VS.non {S : Sto} : VS S 0 1 false false .non := VS.sc (d := .none) (fun _ => rfl) (by simp only [PyData.showable]) (by decide) (by simp only [PyData.depth]) (by simp only [PyData.hasDict]) (by simp only [hasLst])
theorem VS.str {S : Sto} {x : Str} (h : (reprText x).length ≤ 2000) : VS S 0 1 false false (.str x) := VS.sc (d := .str x) (fun _ => rfl) (by simp only [PyData.showable]) (by simp only [PyData.shown]; exact h) (by simp only [PyData.depth]) (by simp only [PyData.hasDict]) (by simp only [hasLst])
/-- what stands for an odd item -/
inductive Atm (b c : Nat) (S : Sto) : Va → Prop
  | bl (x : Bool) : Atm b c S (.bl x)
  | non : Atm b c S .non
  | str (x : Str) (h : (reprText x).length ≤ 2000) : Atm b c S (.str x)
  | t0 : Atm b c S (.tup [])
  | t1 : Atm b c S (.tup [.int 0])
  | ls (i : Nat) (h1 : i ≠ b) (h2 : i ≠ c) (h : S[i]? = some (.lst [.int 0])) : Atm b c S (.ref i)
  | dc (i : Nat) (h1 : i ≠ b) (h2 : i ≠ c) (h : S[i]? = some (.dic [(.int 0, .int 0)])) : Atm b c S (.ref i)
theorem Atm.grow {b c : Nat} {S : Sto} {v : Va} (h : Atm b c S v) (T : Sto) : Atm b c (S ++ T) v := by
  cases h with
  | bl x => exact .bl x
  | non => exact .non
  | str x h => exact .str x h
  | t0 => exact .t0
  | t1 => exact .t1
  | ls i h1 h2 h => exact .ls i h1 h2 (at_grow h)
  | dc i h1 h2 h => exact .dc i h1 h2 (at_grow h)
theorem Atm.fr {b c : Nat} {S S' : Sto} {v : Va} (h : Atm b c S v) (f : Fr b c S S') : Atm b c S' v := by
  cases h with
  | bl x => exact .bl x
  | non => exact .non
  | str x h => exact .str x h
  | t0 => exact .t0
  | t1 => exact .t1
  | ls i h1 h2 h => exact .ls i h1 h2 (f.at h h1 h2)
  | dc i h1 h2 h => exact .dc i h1 h2 (f.at h h1 h2)
theorem Atm.isI {b c : Nat} {S : Sto} {v : Va} (h : Atm b c S v) : EV.isI v = false := by cases h <;> rfl
theorem z_log : (0 : Int).natAbs.log2 < 1920 := by decide
theorem Atm.vs {b c : Nat} {S : Sto} {v : Va} (h : Atm b c S v) : ∃ hD hL, VS S 1 4 hD hL v ∧ (hD && hL) = false := by
  cases h with
  | bl x => exact ⟨_, _, (VS.bl x).mono (by omega) (by omega) id id, rfl⟩
  | non => exact ⟨_, _, VS.non.mono (by omega) (by omega) id id, rfl⟩
  | str x h => exact ⟨_, _, (VS.str h).mono (by omega) (by omega) id id, rfl⟩
  | t0 => exact ⟨_, _, (VS.tup (k := 0) (N := 0) (hD := false) (hL := false) LS.nil).mono (by omega) (by omega) id id, rfl⟩
  | t1 => exact ⟨_, _, (VS.tup (LS.cons (VS.int z_log) (LS.nil (k := 0) (N := 0) (hD := false) (hL := false)))).mono (by omega) (by omega) id id, rfl⟩
  | ls i h1 h2 h => exact ⟨_, _, (VS.lst h (LS.cons (VS.int z_log) (LS.nil (k := 0) (N := 0) (hD := false) (hL := false)))).mono (by omega) (by omega) id id, rfl⟩
  | dc i h1 h2 h => exact ⟨_, _, (VS.dic h (VS.int z_log) (VS.int z_log)).mono (by omega) (by omega) id id, rfl⟩
end EV

end
section
set_option Elab.async false
set_option linter.all false
set_option maxRecDepth 100000
set_option maxHeartbeats 4000000
namespace EV
open PySem
local macro_rules | `(tactic| walk_at "ev") => `(tactic| with_reducible first
  | refine f_cons ?_ | refine f_nil ?_ | refine f_asg ?_ | refine f_par ?_ | refine f_asgIx ?_ | refine f_expr ?_ | refine f_ret ?_ | refine f_ite ?_ | refine f_for ?_ | refine f_pass ?_ | refine f_brk ?_ | refine f_cont ?_
  | refine w_var (by with_unfolding_all rfl) ?_ | refine w_cI ?_ | refine w_cS ?_ | refine w_cN ?_ | refine w_cB ?_ | refine w_gI ?_ | refine w_bin ?_ | refine w_neg ?_ | refine w_not ?_ | refine w_cmp ?_ | refine w_chn ?_ | refine w_bool ?_ | refine w_bnil ?_ | refine w_if ?_
  | refine w_tup ?_ | refine w_lst ?_ | refine w_dic ?_ | refine w_idx ?_ | refine w_slc ?_ | refine w_bno ?_ | refine w_bso ?_ | refine w_rev ?_ | refine w_call ?_ | refine w_callK ?_ | refine w_bi ?_ | refine w_me ?_ | refine w_ist ?_ | refine w_comp ?_ | refine w_nil ?_ | refine w_cons ?_
  | refine w_seq ?_ | refine w_rng1 ?_ | refine w_rng2 ?_ | refine w_enum ?_ | refine w_zip ?_ | refine w_ono ?_ | refine w_oso ?_
  | refine bi_int ?_ | refine bi_abs ?_ | refine bi_lenT ?_ | refine bi_tupT ?_ | refine b_addI ?_ | refine b_subI ?_ | refine c_eqI ?_ | refine c_neI ?_ | refine c_ltI ?_ | refine c_leI ?_ | refine c_gtI ?_ | refine c_geI ?_ | refine e_bl ?_ | refine e_iI ?_ | refine e_set (by with_unfolding_all rfl) ?_
  | refine pick_t ?_ | refine pick_f ?_ | refine is_int ?_ | refine is_non ?_ | refine is_tup ?_ | refine is_str ?_ | refine isn_int ?_ | refine isn_non ?_ | refine isn_tup ?_ | refine ist_tup ?_ | refine ist_tupS ?_ | refine ist_strS ?_ | refine ist_strT ?_ | refine ist_intI ?_ | refine ist_intB ?_ | refine ist_intT ?_
  | refine w_andT ?_ | refine w_andF ?_ | refine w_orF ?_ | refine w_orT ?_)
def Num (k : Nat) (z : Int) : Prop := (z < 0 ∨ (k : Int) ≤ z) ∧ z.natAbs.log2 < 1920
theorem log_small {z : Int} (h : z.natAbs < 2 ^ 64) : z.natAbs.log2 < 1920 := by
  by_cases e : z.natAbs = 0
  · rw [e]; decide
  · have := (Nat.log2_lt e).mpr h
    omega
theorem gr_fact : (5 : Int) < ((10 : Int) ^ (57 : Int).toNat) ^ (7 : Int).toNat ∧ (((10 : Int) ^ (57 : Int).toNat) ^ (7 : Int).toNat).natAbs.log2 < 1920 := by decide +kernel
theorem bits_ten : (Builtin.Int.intBits 10 : Int) * 57 ≤ 2 ^ 27 := by decide +kernel
theorem bits_gr : (Builtin.Int.intBits ((10 : Int) ^ (57 : Int).toNat) : Int) * 7 ≤ 2 ^ 27 := by decide +kernel
theorem di_one {a v : Va} {S : Sto} {P : Va → Sto → Prop} (h : keyOk a = true) (q : P (.ref S.length) (S ++ [.dic [(a, v)]])) : Rw (dicOp [a] [v] S) P := by
  show Rw (if keyOk a then new (.dic [(a, v)]) S else .bad) P
  rw [if_pos h]
  exact .ok q
theorem di_nil {S : Sto} {P : Va → Sto → Prop} (q : P (.ref S.length) (S ++ [.dic []])) : Rw (dicOp [] [] S) P := .ok q
@[reducible] def numsV (k g d1 d2 : Int) : List Va := [.int k, .int (-1), .int (k + 1), .int (-k), .int 5, .int 7, .int g, .int (0 - g), .int (k + d1), .int (-1 - d2)]
@[reducible] def othV (iL iD : Nat) : List Va := [.bl true, .bl false, .non, .str "a", .str "0", .str "", .tup [.int 0], .ref iL, .tup [], .ref iD]
theorem nums_mem {k : Nat} (hk : 1 ≤ k) (hk5 : k ≤ 5) {g d1 d2 : Int} (g1 : 5 < g) (g2 : g.natAbs.log2 < 1920) (a1 : 0 ≤ d1) (a2 : d1 < 300) (b1 : 0 ≤ d2) (b2 : d2 < 300) {v : Va} (h : v ∈ numsV k g d1 d2) : ∃ z, v = .int z ∧ Num k z := by
  simp only [numsV, List.mem_cons, List.not_mem_nil, or_false] at h
  rcases h with rfl | rfl | rfl | rfl | rfl | rfl | rfl | rfl | rfl | rfl
  · exact ⟨_, rfl, .inr (by omega), log_small (by omega)⟩
  · exact ⟨_, rfl, .inl (by omega), log_small (by omega)⟩
  · exact ⟨_, rfl, .inr (by omega), log_small (by omega)⟩
  · exact ⟨_, rfl, .inl (by omega), log_small (by omega)⟩
  · exact ⟨_, rfl, .inr (by omega), log_small (by omega)⟩
  · exact ⟨_, rfl, .inr (by omega), log_small (by omega)⟩
  · exact ⟨_, rfl, .inr (by omega), g2⟩
  · exact ⟨_, rfl, .inl (by omega), by rw [show (0 - g).natAbs = g.natAbs by omega]; exact g2⟩
  · exact ⟨_, rfl, .inr (by omega), log_small (by omega)⟩
  · exact ⟨_, rfl, .inl (by omega), log_small (by omega)⟩
theorem oth_mem {b c iL iD : Nat} {S : Sto} (h1 : iL ≠ b) (h2 : iL ≠ c) (h3 : iD ≠ b) (h4 : iD ≠ c) (hL : S[iL]? = some (.lst [.int 0])) (hD : S[iD]? = some (.dic [(.int 0, .int 0)])) {v : Va} (h : v ∈ othV iL iD) : Atm b c S v := by
  simp only [othV, List.mem_cons, List.not_mem_nil, or_false] at h
  rcases h with rfl | rfl | rfl | rfl | rfl | rfl | rfl | rfl | rfl | rfl
  · exact .bl _
  · exact .bl _
  · exact .non
  · exact .str _ (by decide +kernel)
  · exact .str _ (by decide +kernel)
  · exact .str _ (by decide +kernel)
  · exact .t1
  · exact .ls _ h1 h2 hL
  · exact .t0
  · exact .dc _ h3 h4 hD
theorem w_strange (n : Nat) {b c k : Nat} (hk : 1 ≤ k) (hk5 : k ≤ 5) {S : Sto} {P : Va → Sto → Prop} (B : Bag b c S)
    (q : ∀ z v S' r, Num k z → Atm b c S' v → Bag b c S' → Fr b c S S' → S'[r]? = some (.lst [.int z, v]) → r ≠ b → r ≠ c → S.length ≤ r → P (.ref r) S') : Rw (Rn (n + 3) 27 [.ref b, .int (k : Nat)] S) P := by
  refine w_run (d := k01_27) rfl rfl ?_
  have es := sizeLine_eq
  repeat walk_at "ev"
  with_reducible refine b_pow (by decide) bits_ten ?_
  repeat walk_at "ev"
  with_reducible refine b_pow (by decide) bits_gr ?_
  obtain ⟨g1, g2⟩ := gr_fact
  generalize ((10 : Int) ^ (57 : Int).toNat) ^ (7 : Int).toNat = g at g1 g2 ⊢
  repeat walk_at "ev"
  with_reducible refine w_draw (n + 1) (by decide) (by decide) B fun d1 S1 a1 a2 B1 f1 => ?_
  repeat walk_at "ev"
  with_reducible refine w_draw (n + 1) (by decide) (by decide) B1 fun d2 S2 b1 b2 B2 f2 => ?_
  repeat walk_at "ev"
  refine w_newL (xs := numsV k g d1 d2) (by show 10 ≤ sizeLine; omega) ?_
  repeat walk_at "ev"
  refine ⟨by show 1 ≤ sizeLine; omega, ?_⟩
  repeat walk_at "ev"
  refine w_newL (by show 1 ≤ sizeLine; omega) ?_
  repeat walk_at "ev"
  refine ⟨by show 0 ≤ sizeLine; omega, ?_⟩
  repeat walk_at "ev"
  refine di_one rfl ?_
  repeat walk_at "ev"
  have hl2 := B2.lt
  have l2 := List.length_append (as := S2) (bs := [Ob.lst (numsV k g d1 d2)])
  have l3 := List.length_append (as := S2 ++ [Ob.lst (numsV k g d1 d2)]) (bs := [Ob.lst [Va.int 0]])
  have l4 := List.length_append (as := S2 ++ [Ob.lst (numsV k g d1 d2)] ++ [Ob.lst [Va.int 0]]) (bs := [Ob.dic [(Va.int 0, Va.int 0)]])
  have B4 : Bag b c (S2 ++ [Ob.lst (numsV k g d1 d2)] ++ [Ob.lst [Va.int 0]] ++ [Ob.dic [(Va.int 0, Va.int 0)]]) := ((B2.grow _).grow _).grow _
  have f4 : Fr b c S (S2 ++ [Ob.lst (numsV k g d1 d2)] ++ [Ob.lst [Va.int 0]] ++ [Ob.dic [(Va.int 0, Va.int 0)]]) := f1.trans (f2.trans ((Fr.grow _).trans ((Fr.grow _).trans (Fr.grow _))))
  have hA : (S2 ++ [Ob.lst (numsV k g d1 d2)] ++ [Ob.lst [Va.int 0]] ++ [Ob.dic [(Va.int 0, Va.int 0)]])[S2.length]? = some (.lst (numsV k g d1 d2)) := at_grow (at_grow at_end)
  have hL : (S2 ++ [Ob.lst (numsV k g d1 d2)] ++ [Ob.lst [Va.int 0]] ++ [Ob.dic [(Va.int 0, Va.int 0)]])[(S2 ++ [Ob.lst (numsV k g d1 d2)]).length]? = some (.lst [.int 0]) := at_grow at_end
  have hD : (S2 ++ [Ob.lst (numsV k g d1 d2)] ++ [Ob.lst [Va.int 0]] ++ [Ob.dic [(Va.int 0, Va.int 0)]])[(S2 ++ [Ob.lst (numsV k g d1 d2)] ++ [Ob.lst [Va.int 0]]).length]? = some (.dic [(.int 0, .int 0)]) := at_end
  simp only [List.length_cons, List.length_nil] at l2 l3 l4
  generalize S2 ++ [Ob.lst (numsV k g d1 d2)] ++ [Ob.lst [Va.int 0]] ++ [Ob.dic [(Va.int 0, Va.int 0)]] = S4 at B4 f4 hA hL hD l4 ⊢
  generalize (S2 ++ [Ob.lst (numsV k g d1 d2)] ++ [Ob.lst [Va.int 0]]).length = iD at hD l3 l4 ⊢
  generalize (S2 ++ [Ob.lst (numsV k g d1 d2)]).length = iL at hL l2 l3 ⊢
  generalize S2.length = iA at hA l2 hl2 ⊢
  refine w_newL (xs := othV iL iD) (by show 10 ≤ sizeLine; omega) ?_
  repeat walk_at "ev"
  have f5 := f4.trans (Fr.grow [Ob.lst (othV iL iD)])
  have B5 := B4.grow [Ob.lst (othV iL iD)]
  have hA5 := at_grow (T := [Ob.lst (othV iL iD)]) hA
  have hL5 := at_grow (T := [Ob.lst (othV iL iD)]) hL
  have hD5 := at_grow (T := [Ob.lst (othV iL iD)]) hD
  have hO5 : (S4 ++ [Ob.lst (othV iL iD)])[S4.length]? = some (.lst (othV iL iD)) := at_end
  generalize S4 ++ [Ob.lst (othV iL iD)] = S5 at f5 B5 hA5 hL5 hD5 hO5 ⊢
  generalize S4.length = iO at l4 hO5 ⊢
  have nA : (numsV k g d1 d2).length ≤ 1000 := by show 10 ≤ 1000; omega
  have nO : (othV iL iD).length ≤ 1000 := by show 10 ≤ 1000; omega
  with_reducible refine w_pick n B5 hA5 (by omega) (by omega) (by simp) nA fun v S6 hv B6 f6 => ?_
  obtain ⟨z, rfl, hz⟩ := nums_mem hk hk5 g1 g2 a1 a2 b1 b2 hv
  repeat walk_at "ev"
  have hO6 := f6.at hO5 (by omega) (by omega)
  have hL6 := f6.at hL5 (by omega) (by omega)
  have hD6 := f6.at hD5 (by omega) (by omega)
  with_reducible refine w_pick n B6 hO6 (by omega) (by omega) (by simp) nO fun v S7 hv B7 f7 => ?_
  have ha := (oth_mem (by omega) (by omega) (by omega) (by omega) hL6 hD6 hv).fr f7
  repeat walk_at "ev"
  refine w_newL (by show 2 ≤ sizeLine; omega) ?_
  have hl7 := B7.lt
  have f07 := f5.trans (f6.trans f7)
  exact q z v _ _ hz (ha.grow _) (B7.grow _) (f07.trans (Fr.grow _)) at_end (by omega) (by omega) f07.1
end EV

end
section
set_option Elab.async false
set_option linter.all false
set_option maxRecDepth 100000
set_option maxHeartbeats 4000000
namespace EV
open PySem
local macro_rules | `(tactic| walk_at "ev") => `(tactic| with_reducible first
  | refine f_cons ?_ | refine f_nil ?_ | refine f_asg ?_ | refine f_par ?_ | refine f_asgIx ?_ | refine f_expr ?_ | refine f_ret ?_ | refine f_ite ?_ | refine f_for ?_ | refine f_pass ?_ | refine f_brk ?_ | refine f_cont ?_
  | refine w_var (by with_unfolding_all rfl) ?_ | refine w_cI ?_ | refine w_cS ?_ | refine w_cN ?_ | refine w_cB ?_ | refine w_gI ?_ | refine w_bin ?_ | refine w_neg ?_ | refine w_not ?_ | refine w_cmp ?_ | refine w_chn ?_ | refine w_bool ?_ | refine w_bnil ?_ | refine w_if ?_
  | refine w_tup ?_ | refine w_lst ?_ | refine w_dic ?_ | refine w_idx ?_ | refine w_slc ?_ | refine w_bno ?_ | refine w_bso ?_ | refine w_rev ?_ | refine w_call ?_ | refine w_callK ?_ | refine w_bi ?_ | refine w_me ?_ | refine w_ist ?_ | refine w_comp ?_ | refine w_nil ?_ | refine w_cons ?_
  | refine w_seq ?_ | refine w_rng1 ?_ | refine w_rng2 ?_ | refine w_enum ?_ | refine w_zip ?_ | refine w_ono ?_ | refine w_oso ?_
  | refine bi_int ?_ | refine bi_abs ?_ | refine bi_lenT ?_ | refine bi_tupT ?_ | refine b_addI ?_ | refine b_subI ?_ | refine c_eqI ?_ | refine c_neI ?_ | refine c_ltI ?_ | refine c_leI ?_ | refine c_gtI ?_ | refine c_geI ?_ | refine e_bl ?_ | refine e_iI ?_ | refine e_set (by with_unfolding_all rfl) ?_
  | refine pick_t ?_ | refine pick_f ?_ | refine is_int ?_ | refine is_non ?_ | refine is_tup ?_ | refine is_str ?_ | refine isn_int ?_ | refine isn_non ?_ | refine isn_tup ?_ | refine ist_tup ?_ | refine ist_tupS ?_ | refine ist_strS ?_ | refine ist_strT ?_ | refine ist_intI ?_ | refine ist_intB ?_ | refine ist_intT ?_
  | refine w_andT ?_ | refine w_andF ?_ | refine w_orF ?_ | refine w_orT ?_)
def Sml (xs : List Int) : Prop := ∀ x ∈ xs, x.natAbs.log2 < 1920
theorem Sml.app {xs ys : List Int} (h : Sml xs) (h2 : Sml ys) : Sml (xs ++ ys) := fun x hx => (List.mem_append.mp hx).elim (h x) (h2 x)
theorem Sml.one {x : Int} (h : x.natAbs.log2 < 1920) : Sml [x] := fun y hy => by cases List.mem_singleton.mp hy; exact h
theorem Sml.take {xs : List Int} (h : Sml xs) (i : Nat) : Sml (xs.take i) := fun x hx => h x (List.mem_of_mem_take hx)
theorem Sml.drop {xs : List Int} (h : Sml xs) (i : Nat) : Sml (xs.drop i) := fun x hx => h x (List.mem_of_mem_drop hx)
theorem Sml.rev {xs : List Int} (h : Sml xs) : Sml xs.reverse := fun x hx => h x (List.mem_reverse.mp hx)
theorem Sml.at {xs : List Int} (h : Sml xs) (i : Nat) : (xs.getD i 0).natAbs.log2 < 1920 := by
  rw [List.getD_eq_getElem?_getD]
  cases e : xs[i]? with
  | none => decide
  | some x => exact h x (List.mem_of_getElem? e)
theorem Wd.sml {k : Nat} (hk : k ≤ 5) {xs : List Int} (h : Wd (k : Int) xs) : Sml xs := fun x hx => log_small (by have := h x hx; omega)
theorem VS.okJ2 {S : Sto} {k N : Nat} {hD hL : Bool} {v : Va} (h : VS S k N hD hL v) (hk : k ≤ 50) (hN : N ≤ 8000) (hb : (hD && hL) = false) : OkJ S v := by
  refine h.okJ hk hN hb fun xs e => ?_
  subst e
  obtain ⟨d, a1, a2, a3, _⟩ := h.ex
  have z := a1 (k + 1) (Nat.lt_succ_self _)
  simp only [toD] at z
  obtain ⟨ds, h1, rfl⟩ := Option.map_eq_some_iff.mp z
  have l1 := (optMap_mem h1).1
  have l2 := piled_le_tupleText (PyData.shownAll ds)
  have l3 := PyData.shownAll_length ds
  have l4 : ∀ ts : List Str, 2 * ts.length ≤ piled ts := fun ts => by
    induction ts with
    | nil => exact Nat.le_refl _
    | cons a r ih => rw [piled_cons, List.length_cons]; omega
  have l5 := l4 (PyData.shownAll ds)
  have es := sizeLine_eq
  simp only [PyData.shown] at a3
  omega
theorem VS.ints {S : Sto} {xs : List Int} (h : Sml xs) (hl : xs.length ≤ 100) : VS S 5 500 false false (.tup (iV xs)) := (VS.tup (LS.ints (k := 1) h)).mono (by omega) (by omega) id id
theorem OkJ.ints {S : Sto} {xs : List Int} (h : Sml xs) (hl : xs.length ≤ 100) : OkJ S (.tup (iV xs)) := (VS.ints h hl).okJ2 (by omega) (by omega) rfl
theorem OkJ.mix {b c : Nat} {S : Sto} {xs ys : List Int} {v : Va} (h : Sml xs) (h2 : Sml ys) (hv : Atm b c S v) (hl : xs.length ≤ 100) (hl2 : ys.length ≤ 100) : OkJ S (.tup (iV xs ++ [v] ++ iV ys)) := by
  obtain ⟨hD, hL, z, e⟩ := hv.vs
  have z0 : LS S 1 (4 + 0 + 1) hD hL [v] := LS.cons z (LS.nil (N := 0))
  exact (VS.tup ((((LS.ints h).mono (Nat.le_refl _) (Nat.le_refl _) (fun _ => rfl) (fun _ => rfl)).app z0).app ((LS.ints h2).mono (Nat.le_refl _) (Nat.le_refl _) (fun _ => rfl) (fun _ => rfl)))).okJ2 (by omega) (by omega) e
theorem OkJ.mix1 {b c : Nat} {S : Sto} {ys : List Int} {v : Va} (h2 : Sml ys) (hv : Atm b c S v) (hl2 : ys.length ≤ 100) : OkJ S (.tup ([v] ++ iV ys)) := OkJ.mix (xs := []) (fun _ h => nomatch h) h2 hv (Nat.zero_le _) hl2
theorem OkJ.mix2 {b c : Nat} {S : Sto} {xs : List Int} {v : Va} (h : Sml xs) (hv : Atm b c S v) (hl : xs.length ≤ 100) : OkJ S (.tup (iV xs ++ [v])) := by
  have z := OkJ.mix (ys := []) h (fun _ h => nomatch h) hv hl (Nat.zero_le _)
  rw [show iV [] = ([] : List Va) from rfl, List.append_nil] at z
  exact z
theorem OkJ.atm {b c : Nat} {S : Sto} {v : Va} (hv : Atm b c S v) : OkJ S v := by
  obtain ⟨hD, hL, z, e⟩ := hv.vs
  exact z.okJ2 (by omega) (by omega) e
theorem OkJ.num {S : Sto} {z : Int} (h : z.natAbs.log2 < 1920) : OkJ S (.int z) := (VS.int h).okJ2 (by omega) (by omega) rfl
theorem VS.lints {S : Sto} {i : Nat} {xs : List Int} (h : Sml xs) (hl : xs.length ≤ 100) (hs : S[i]? = some (.lst (iV xs))) : VS S 2 300 false true (.ref i) := (VS.lst hs (LS.ints (k := 1) h)).mono (by omega) (by omega) id id
theorem OkJ.lints {S : Sto} {i : Nat} {xs : List Int} (h : Sml xs) (hl : xs.length ≤ 100) (hs : S[i]? = some (.lst (iV xs))) : OkJ S (.ref i) := (VS.lints h hl hs).okJ2 (by omega) (by omega) rfl
theorem OkJ.lword {S : Sto} {i : Nat} {xs : List Int} (h : Sml xs) (hl : xs.length ≤ 100) (hs : S[i]? = some (.lst [.tup (iV xs)])) : OkJ S (.ref i) := (VS.lst hs (LS.cons (VS.ints h hl) (LS.nil (N := 0)))).okJ2 (by omega) (by omega) rfl
theorem OkJ.tword {S : Sto} {xs : List Int} (h : Sml xs) (hl : xs.length ≤ 100) : OkJ S (.tup [.tup (iV xs)]) := (VS.tup (LS.cons (VS.ints h hl) (LS.nil (N := 0)))).okJ2 (by omega) (by omega) rfl
theorem OkJ.tlword {S : Sto} {i : Nat} {xs : List Int} (h : Sml xs) (hl : xs.length ≤ 100) (hs : S[i]? = some (.lst (iV xs))) : OkJ S (.tup [.ref i]) := (VS.tup (LS.cons (VS.lints h hl hs) (LS.nil (N := 0)))).okJ2 (by omega) (by omega) rfl
theorem OkJ.wword {S : Sto} {xs : List Int} (h : Sml xs) (hl : xs.length ≤ 100) : OkJ S (.tup (iV xs ++ [.tup (iV xs)])) := (VS.tup ((LS.ints (k := 5) h).app (LS.cons (VS.ints h hl) (LS.nil (N := 0))))).okJ2 (by omega) (by omega) rfl
theorem OkJ.dword {S : Sto} {i : Nat} {xs : List Int} (h : Sml xs) (hl : xs.length ≤ 100) (hs : S[i]? = some (.dic [(.tup (iV xs), .tup (iV xs))])) : OkJ S (.ref i) := (VS.dic hs (VS.ints h hl) (VS.ints h hl)).okJ2 (by omega) (by omega) rfl
theorem keys_iV : ∀ xs : List Int, (keyVs (iV xs)).isSome = true
  | [] => rfl
  | x :: xs => by
    have ih := keys_iV xs
    show (match keyV (.int x) with
      | none => none
      | some k => match keyVs (iV xs) with
        | none => none
        | some ks => some (k :: ks)).isSome = true
    cases h : keyVs (iV xs) with
    | none => rw [h] at ih; cases ih
    | some ks => rfl
theorem key_word (xs : List Int) : keyOk (.tup (iV xs)) = true := by
  unfold keyOk
  show ((none : Option L2.Key).isSome || (keyVs (iV xs)).isSome) = true
  rw [keys_iV]; rfl
theorem b_cat1 {xs : List Int} {z : Int} {S : Sto} {P : Va → Sto → Prop} (h : xs.length + 1 ≤ sizeLine) (q : P (.tup (iV (xs ++ [z]))) S) : Rw (binOp .Add (.tup (iV xs)) (.tup [.int z]) S) P := by
  refine b_catI (ys := [z]) (by rw [List.length_cons, List.length_nil]; exact h) q
end EV

end
section
set_option Elab.async false
set_option linter.all false
set_option maxRecDepth 100000
set_option maxHeartbeats 4000000
namespace EV
open PySem
local macro_rules | `(tactic| walk_at "ev") => `(tactic| with_reducible first
  | refine f_cons ?_ | refine f_nil ?_ | refine f_asg ?_ | refine f_par ?_ | refine f_asgIx ?_ | refine f_expr ?_ | refine f_ret ?_ | refine f_ite ?_ | refine f_for ?_ | refine f_pass ?_ | refine f_brk ?_ | refine f_cont ?_
  | refine w_var (by with_unfolding_all rfl) ?_ | refine w_cI ?_ | refine w_cS ?_ | refine w_cN ?_ | refine w_cB ?_ | refine w_gI ?_ | refine w_bin ?_ | refine w_neg ?_ | refine w_not ?_ | refine w_cmp ?_ | refine w_chn ?_ | refine w_bool ?_ | refine w_bnil ?_ | refine w_if ?_
  | refine w_tup ?_ | refine w_lst ?_ | refine w_dic ?_ | refine w_idx ?_ | refine w_slc ?_ | refine w_bno ?_ | refine w_bso ?_ | refine w_rev ?_ | refine w_call ?_ | refine w_callK ?_ | refine w_bi ?_ | refine w_me ?_ | refine w_ist ?_ | refine w_comp ?_ | refine w_nil ?_ | refine w_cons ?_
  | refine w_seq ?_ | refine w_rng1 ?_ | refine w_rng2 ?_ | refine w_enum ?_ | refine w_zip ?_ | refine w_ono ?_ | refine w_oso ?_
  | refine bi_int ?_ | refine bi_abs ?_ | refine bi_lenT ?_ | refine bi_tupT ?_ | refine b_addI ?_ | refine b_subI ?_ | refine c_eqI ?_ | refine c_neI ?_ | refine c_ltI ?_ | refine c_leI ?_ | refine c_gtI ?_ | refine c_geI ?_ | refine e_bl ?_ | refine e_iI ?_ | refine e_set (by with_unfolding_all rfl) ?_
  | refine pick_t ?_ | refine pick_f ?_ | refine is_int ?_ | refine is_non ?_ | refine is_tup ?_ | refine is_str ?_ | refine isn_int ?_ | refine isn_non ?_ | refine isn_tup ?_ | refine ist_tup ?_ | refine ist_tupS ?_ | refine ist_strS ?_ | refine ist_strT ?_ | refine ist_intI ?_ | refine ist_intB ?_ | refine ist_intT ?_
  | refine w_andT ?_ | refine w_andF ?_ | refine w_orF ?_ | refine w_orT ?_)
local macro_rules | `(tactic| walk_at "lenT") => `(tactic| (simp only [List.length_append, List.length_map, List.length_take, List.length_drop, List.length_cons, List.length_nil, List.length_reverse]; omega))
local macro_rules | `(tactic| walk_at "sp") => `(tactic| first | walk_at "ev" | (with_reducible refine sl_to ?_) | (with_reducible refine sl_from ?_) | (with_reducible refine b_catI (by walk_at "lenT") ?_) | (with_reducible refine b_cat1 (by walk_at "lenT") ?_) | (with_reducible refine b_cat (by walk_at "lenT") ?_))
@[reducible] def t28 : Sxs := match k01_28.body with
  | .cons _ (.cons _ (.cons _ (.cons _ (.cons _ r)))) => r
  | _ => .nil
@[reducible] def e28 (b k : Nat) (xs : List Int) (j : Nat) (z : Int) (v : Va) (g : Nat) (r2 : Nat) : Env := [some (.ref b), some (.int (k : Nat)), some (.tup (iV xs)), some (.int (xs.length : Nat)), some (.int (j : Nat)), some (.int z), some v, some (.int (g : Nat)), some (.ref r2), none, none, none, none]
theorem sp_begin (n : Nat) {b c k : Nat} (hk : 1 ≤ k) (hk5 : k ≤ 5) {xs : List Int} (hn : 1 ≤ xs.length) (hn2 : xs.length ≤ 24) {S : Sto} {N : Way} (B : Bag b c S)
    (q : ∀ S' j z v g r2 z2 v2, j < xs.length → g ≤ xs.length → Num k z → Num k z2 → Atm b c S' v → Atm b c S' v2 → S'[r2]? = some (.lst [.int z2, v2]) → Bag b c S' → Fr b c S S' → Fw (evSs (Kr k01_D k01_anc k01_fuel (n + 3)) none t28 (e28 b k xs j z v g r2) S') N) :
    Fw (evSs (Kr k01_D k01_anc k01_fuel (n + 3)) none k01_28.body (startE k01_28.N [.ref b, .int (k : Nat), .tup (iV xs)]) S) N := by
  refine f_step (fun ρ' S' => ρ' = [some (.ref b), some (.int (k : Nat)), some (.tup (iV xs)), some (.int (xs.length : Nat)), none, none, none, none, none, none, none, none, none] ∧ S = S') ?_ ?_
  · repeat walk_at "ev"
    rw [List.length_map]
    exact ⟨rfl, rfl⟩
  rintro ρ' S' ⟨rfl, rfl⟩
  refine f_step (fun ρ' S' => ∃ j : Nat, j < xs.length ∧ ρ' = [some (.ref b), some (.int (k : Nat)), some (.tup (iV xs)), some (.int (xs.length : Nat)), some (.int (j : Nat)), none, none, none, none, none, none, none, none] ∧ Bag b c S' ∧ Fr b c S S') ?_ ?_
  · repeat walk_at "ev"
    with_reducible refine w_draw (n + 2) (by decide) (by decide) B fun d1 S1 _ _ B1 f1 => ?_
    repeat walk_at "ev"
    refine ⟨fun _ => ?_, fun _ => ?_⟩
    · repeat walk_at "ev"
      exact ⟨xs.length - 1, by omega, by rw [Int.ofNat_sub hn]; rfl, B1, f1⟩
    · repeat walk_at "ev"
      with_reducible refine w_draw (n + 2) (below := (xs.length : Nat)) (by omega) (by omega) B1 fun d2 S2 a1 a2 B2 f2 => ?_
      obtain ⟨j, rfl⟩ := Int.eq_ofNat_of_zero_le a1
      repeat walk_at "ev"
      exact ⟨j, by omega, rfl, B2, f1.trans f2⟩
  rintro ρ' S1 ⟨j, hj, rfl, B1, f1⟩
  refine f_step (fun ρ' S' => ∃ z v, Num k z ∧ Atm b c S' v ∧ ρ' = [some (.ref b), some (.int (k : Nat)), some (.tup (iV xs)), some (.int (xs.length : Nat)), some (.int (j : Nat)), some (.int z), some v, none, none, none, none, none, none] ∧ Bag b c S' ∧ Fr b c S S') ?_ ?_
  · repeat walk_at "ev"
    with_reducible refine w_strange n hk hk5 B1 fun z v S2 r hz hv B2 f2 hr _ _ _ => ?_
    refine ⟨_, ?_, z, v, hz, hv, rfl, B2, f1.trans f2⟩
    show (match S2[r]? with
      | some (.lst xs) => setAll [5, 6] xs _
      | _ => none) = _
    rw [hr]
    rfl
  rintro ρ' S2 ⟨z, v, hz, hv, rfl, B2, f2⟩
  refine f_step (fun ρ' S' => ∃ g : Nat, g ≤ xs.length ∧ Atm b c S' v ∧ ρ' = [some (.ref b), some (.int (k : Nat)), some (.tup (iV xs)), some (.int (xs.length : Nat)), some (.int (j : Nat)), some (.int z), some v, some (.int (g : Nat)), none, none, none, none, none] ∧ Bag b c S' ∧ Fr b c S S') ?_ ?_
  · repeat walk_at "ev"
    with_reducible refine w_draw (n + 2) (below := (xs.length : Nat) + 1) (by omega) (by omega) B2 fun d2 S3 a1 a2 B3 f3 => ?_
    obtain ⟨g, rfl⟩ := Int.eq_ofNat_of_zero_le a1
    repeat walk_at "ev"
    exact ⟨g, by omega, hv.fr f3, rfl, B3, f2.trans f3⟩
  rintro ρ' S3 ⟨g, hg, hv3, rfl, B3, f3⟩
  refine f_cons (f_asg ?_)
  repeat walk_at "ev"
  with_reducible refine w_strange n hk hk5 B3 fun z2 v2 S4 r hz2 hv2 B4 f4 hr _ _ _ => ?_
  exact ⟨_, rfl, q S4 j z v g r z2 v2 hj hg hz hz2 (hv3.fr f4) hv2 hr B4 (f3.trans f4)⟩
end EV

end
section
set_option Elab.async false
set_option linter.all false
set_option maxRecDepth 100000
set_option maxHeartbeats 4000000
namespace EV
open PySem
local macro_rules | `(tactic| walk_at "ev") => `(tactic| with_reducible first
  | refine f_cons ?_ | refine f_nil ?_ | refine f_asg ?_ | refine f_par ?_ | refine f_asgIx ?_ | refine f_expr ?_ | refine f_ret ?_ | refine f_ite ?_ | refine f_for ?_ | refine f_pass ?_ | refine f_brk ?_ | refine f_cont ?_
  | refine w_var (by with_unfolding_all rfl) ?_ | refine w_cI ?_ | refine w_cS ?_ | refine w_cN ?_ | refine w_cB ?_ | refine w_gI ?_ | refine w_bin ?_ | refine w_neg ?_ | refine w_not ?_ | refine w_cmp ?_ | refine w_chn ?_ | refine w_bool ?_ | refine w_bnil ?_ | refine w_if ?_
  | refine w_tup ?_ | refine w_lst ?_ | refine w_dic ?_ | refine w_idx ?_ | refine w_slc ?_ | refine w_bno ?_ | refine w_bso ?_ | refine w_rev ?_ | refine w_call ?_ | refine w_callK ?_ | refine w_bi ?_ | refine w_me ?_ | refine w_ist ?_ | refine w_comp ?_ | refine w_nil ?_ | refine w_cons ?_
  | refine w_seq ?_ | refine w_rng1 ?_ | refine w_rng2 ?_ | refine w_enum ?_ | refine w_zip ?_ | refine w_ono ?_ | refine w_oso ?_
  | refine bi_int ?_ | refine bi_abs ?_ | refine bi_lenT ?_ | refine bi_tupT ?_ | refine b_addI ?_ | refine b_subI ?_ | refine c_eqI ?_ | refine c_neI ?_ | refine c_ltI ?_ | refine c_leI ?_ | refine c_gtI ?_ | refine c_geI ?_ | refine e_bl ?_ | refine e_iI ?_ | refine e_set (by with_unfolding_all rfl) ?_
  | refine pick_t ?_ | refine pick_f ?_ | refine is_int ?_ | refine is_non ?_ | refine is_tup ?_ | refine is_str ?_ | refine isn_int ?_ | refine isn_non ?_ | refine isn_tup ?_ | refine ist_tup ?_ | refine ist_tupS ?_ | refine ist_strS ?_ | refine ist_strT ?_ | refine ist_intI ?_ | refine ist_intB ?_ | refine ist_intT ?_
  | refine w_andT ?_ | refine w_andF ?_ | refine w_orF ?_ | refine w_orT ?_)
local macro_rules | `(tactic| walk_at "lenT") => `(tactic| ((try simp only [List.length_append, List.length_map, List.length_take, List.length_drop, List.length_cons, List.length_nil, List.length_reverse]); omega))
local macro_rules | `(tactic| walk_at "sp") => `(tactic| first | walk_at "ev" | (with_reducible refine sl_to ?_) | (with_reducible refine sl_from ?_) | (with_reducible refine b_catI (by walk_at "lenT") ?_) | (with_reducible refine b_cat1 (by walk_at "lenT") ?_) | (with_reducible refine b_cat (by walk_at "lenT") ?_))
/-- a store of which nothing is gone -/
def Xt (S S' : Sto) : Prop := S.length ≤ S'.length ∧ ∀ (i : Nat) (o : Ob), S[i]? = some o → S'[i]? = some o
theorem Xt.refl {S : Sto} : Xt S S := ⟨Nat.le_refl _, fun _ _ h => h⟩
theorem Xt.grow {S S' : Sto} (h : Xt S S') (T : Sto) : Xt S (S' ++ T) := ⟨by rw [List.length_append]; exact Nat.le_trans h.1 (Nat.le_add_right _ _), fun i o e => at_grow (h.2 i o e)⟩
theorem Xt.set {S S' : Sto} (h : Xt S S') (o : Ob) : Xt S (S'.set S.length o) := ⟨by rw [List.length_set]; exact h.1, fun i u e => by
  have := (List.getElem?_eq_some_iff.mp e).1
  exact at_oth (h.2 i u e) (by omega)⟩
theorem Xt.fr {b c : Nat} {S S' : Sto} (h : Xt S S') : Fr b c S S' := ⟨h.1, fun i hi _ _ => by
  rw [h.2 i _ (List.getElem?_eq_getElem hi), List.getElem?_eq_getElem hi]⟩
theorem Xt.bag {b c : Nat} {S S' : Sto} (h : Xt S S') (B : Bag b c S) : Bag b c S' := by
  obtain ⟨cs, x, y, h1, h2, r⟩ := B
  exact ⟨cs, x, y, h.2 _ _ h1, h.2 _ _ h2, r⟩
theorem Xt.atm {b c : Nat} {S S' : Sto} {v : Va} (h : Xt S S') (a : Atm b c S v) : Atm b c S' v := a.fr h.fr
/-- the list that is being made -/
def Jl (S S' : Sto) (A : List Va) : Prop := Xt S S' ∧ S'[S.length]? = some (.lst A)
theorem Jl.new {S : Sto} {A : List Va} : Jl S (S ++ [.lst A]) A := ⟨Xt.refl.grow _, at_end⟩
theorem Jl.grow {S S' : Sto} {A : List Va} (h : Jl S S' A) (T : Sto) : Jl S (S' ++ T) A := ⟨h.1.grow T, at_grow h.2⟩
theorem Jl.set {S S' : Sto} {A A' : List Va} (h : Jl S S' A) : Jl S (S'.set S.length (.lst A')) A' := ⟨h.1.set _, at_set h.2⟩
theorem Jl.lt {S S' : Sto} {A : List Va} (h : Jl S S' A) : S.length < S'.length := (List.getElem?_eq_some_iff.mp h.2).1
@[reducible] def f28 (b k : Nat) (xs : List Int) (j : Nat) (z : Int) (v : Va) (g : Nat) (r2 : Nat) (bs : List Int) (odd like : Va) (L : Nat) : Env := [some (.ref b), some (.int (k : Nat)), some (.tup (iV xs)), some (.int (xs.length : Nat)), some (.int (j : Nat)), some (.int z), some v, some (.int (g : Nat)), some (.ref r2), some (.tup (iV bs)), some odd, some like, some (.ref L)]
@[reducible] def u28 : Sxs := match t28 with
  | .cons _ (.cons _ (.cons _ (.cons _ r))) => r
  | _ => .nil
@[reducible] def A28 (xs : List Int) (j : Nat) (bs : List Int) (odd like : Va) : List Va := [.tup (iV xs), .tup (iV bs), odd, like, .tup (iV xs), .tup (iV (xs.take j)), .tup (iV (xs.drop j)), .tup (iV (xs ++ [xs.getD j 0]))]
theorem sp_mid (n : Nat) {b k : Nat} {xs : List Int} (hn2 : xs.length ≤ 24) {j g r2 : Nat} {z : Int} {v : Va} (hj : j < xs.length) {S : Sto} {N : Way}
    (q : ∀ bb, Fw (evSs (Kr k01_D k01_anc k01_fuel (n + 3)) none u28 (f28 b k xs j z v g r2 (xs.take j ++ [z] ++ xs.drop (j + 1)) (.tup (iV (xs.take j) ++ [v] ++ iV (xs.drop (j + 1)))) (.tup (iV (xs.take j) ++ [.bl bb] ++ iV (xs.drop (j + 1)))) S.length)
      (S ++ [.lst (A28 xs j (xs.take j ++ [z] ++ xs.drop (j + 1)) (.tup (iV (xs.take j) ++ [v] ++ iV (xs.drop (j + 1)))) (.tup (iV (xs.take j) ++ [.bl bb] ++ iV (xs.drop (j + 1)))))])) N) :
    Fw (evSs (Kr k01_D k01_anc k01_fuel (n + 3)) none t28 (e28 b k xs j z v g r2) S) N := by
  have es := sizeLine_eq
  repeat walk_at "sp"
  refine ⟨by show 1 ≤ sizeLine; omega, ?_⟩
  repeat walk_at "sp"
  refine sl_fromI (j := j + 1) (by omega) ?_
  repeat walk_at "sp"
  refine ⟨by show 1 ≤ sizeLine; omega, ?_⟩
  repeat walk_at "sp"
  refine sl_fromI (j := j + 1) (by omega) ?_
  repeat walk_at "sp"
  refine ix_tup (atI_iV hj) ?_
  repeat walk_at "sp"
  refine ⟨by show 1 ≤ sizeLine; omega, ?_⟩
  repeat walk_at "sp"
  refine sl_fromI (j := j + 1) (by omega) ?_
  repeat walk_at "sp"
  refine ix_tup (atI_iV hj) ?_
  repeat walk_at "sp"
  refine ⟨by show 1 ≤ sizeLine; omega, ?_⟩
  repeat walk_at "sp"
  refine w_newL (by show 8 ≤ sizeLine; omega) ?_
  exact ⟨_, rfl, q _⟩
@[reducible] def E1 (xs : List Int) (g : Nat) (bs : List Int) (z2 : Int) (v2 : Va) : List Va := [.tup (iV (bs.take g ++ [z2] ++ bs.drop g)), .tup (iV (bs.take g) ++ [v2] ++ iV (bs.drop g)), .tup (iV (bs ++ xs))]
@[reducible] def E2 (xs : List Int) (j : Nat) (z : Int) : List Va := [.tup (iV xs.reverse), .tup (iV (xs ++ xs)), .tup (iV (xs.drop j ++ xs.take j)), .tup (iV (xs.reverse ++ [z]))]
@[reducible] def E3 (xs bs : List Int) (v : Va) (p1 p2 p3 p4 : Nat) : List Va := [.tup ([v] ++ iV bs), .ref p1, .ref p2, .tup [.tup (iV xs)], .ref p3, .tup [.ref p4], .tup (iV xs ++ [.tup (iV xs)])]
@[reducible] def E4 (xs : List Int) (z : Int) (v : Va) (p5 : Nat) : List Va := [.ref p5, v, .int z, .tup (iV xs)]
def A1 (A : List Va) (xs : List Int) (g j : Nat) : List Va := A ++ [.tup (iV (xs.take g ++ [xs.getD j 0] ++ xs.drop g))]
def A2 (A : List Va) (xs : List Int) (g j : Nat) (bs : List Int) (z2 : Int) (v2 : Va) : List Va := A1 A xs g j ++ E1 xs g bs z2 v2
def A3 (A : List Va) (xs : List Int) (g j : Nat) (bs : List Int) (z z2 : Int) (v2 : Va) : List Va := A2 A xs g j bs z2 v2 ++ E2 xs j z
def A4 (A : List Va) (xs : List Int) (g j : Nat) (bs : List Int) (z z2 : Int) (v v2 : Va) (p1 p2 p3 p4 : Nat) : List Va := A3 A xs g j bs z z2 v2 ++ E3 xs bs v p1 p2 p3 p4
def A5 (A : List Va) (xs : List Int) (g j : Nat) (bs : List Int) (z z2 : Int) (v v2 : Va) (p1 p2 p3 p4 p5 : Nat) : List Va := A4 A xs g j bs z z2 v v2 p1 p2 p3 p4 ++ E4 xs z v p5
theorem sp_end (n : Nat) {b c k : Nat} {xs bs : List Int} (hn2 : xs.length ≤ 24) (hb : bs.length ≤ 24) {j g r2 : Nat} {z z2 : Int} {v v2 odd like : Va} (hj : j < xs.length) {S S0 : Sto} {A : List Va} {P : Va → Sto → Prop} (hA : A.length = 8) (J : Jl S S0 A) (h2 : S0[r2]? = some (Ob.lst [.int z2, v2])) (hr : r2 ≠ S.length)
    (q : ∀ S' p1 p2 p3 p4 p5, Jl S S' (A5 A xs g j bs z z2 v v2 p1 p2 p3 p4 p5) → S'[p1]? = some (Ob.lst (iV xs)) → S'[p2]? = some (Ob.lst [.tup (iV xs)]) → S'[p3]? = some (Ob.lst (iV bs)) → S'[p4]? = some (Ob.lst (iV xs)) → S'[p5]? = some (Ob.dic [(.tup (iV xs), .tup (iV xs))]) → P (.ref S.length) S') :
    Fw (evSs (Kr k01_D k01_anc k01_fuel (n + 3)) none u28 (f28 b k xs j z v g r2 bs odd like S.length) S0) { nx := fun _ S => P .non S, rt := P, bk := fun _ _ => False, ct := fun _ _ => False } := by
  have es := sizeLine_eq
  repeat walk_at "sp"
  refine ⟨ty_lst J.2 (by decide), ?_⟩
  repeat walk_at "sp"
  refine ix_tup (atI_iV hj) ?_
  repeat walk_at "sp"
  refine ⟨by show 1 ≤ sizeLine; omega, ?_⟩
  repeat walk_at "sp"
  refine mm_app J.2 (by omega) ?_
  rw [show A ++ [.tup (iV (xs.take g ++ [xs.getD j 0] ++ xs.drop g))] = A1 A xs g j from rfl]
  have J1 := J.set (A' := A1 A xs g j)
  have h21 := at_oth (o := Ob.lst (A1 A xs g j)) h2 (Ne.symm hr)
  have l1 : (A1 A xs g j).length = 9 := by unfold A1; rw [List.length_append, hA]; rfl
  generalize hB1 : A1 A xs g j = B1 at J1 h21 l1 ⊢
  generalize S0.set S.length (Ob.lst B1) = S1 at J1 h21 ⊢
  repeat walk_at "sp"
  refine ⟨ty_lst J1.2 (by decide), ?_⟩
  repeat walk_at "sp"
  refine ix_lst h21 atI0 ?_
  repeat walk_at "sp"
  refine ⟨by show 1 ≤ sizeLine; omega, ?_⟩
  repeat walk_at "sp"
  refine ix_lst h21 atI1 ?_
  repeat walk_at "sp"
  refine ⟨by show 1 ≤ sizeLine; omega, ?_⟩
  repeat walk_at "sp"
  refine w_newL (xs := E1 xs g bs z2 v2) (by show 3 ≤ sizeLine; omega) ?_
  repeat walk_at "sp"
  refine mm_ext (J1.grow _).2 at_end (by walk_at "lenT") ?_
  have J2 := (J1.grow [Ob.lst (E1 xs g bs z2 v2)]).set (A' := B1 ++ E1 xs g bs z2 v2)
  have l2 : (B1 ++ E1 xs g bs z2 v2).length = 12 := by rw [List.length_append, l1]; rfl
  have e2 : B1 ++ E1 xs g bs z2 v2 = A2 A xs g j bs z2 v2 := by rw [← hB1]; rfl
  generalize (S1 ++ [Ob.lst (E1 xs g bs z2 v2)]).set S.length (Ob.lst (B1 ++ E1 xs g bs z2 v2)) = S2 at J2 ⊢
  rw [e2] at J2 l2
  repeat walk_at "sp"
  refine ⟨ty_lst J2.2 (by decide), ?_⟩
  repeat walk_at "sp"
  with_reducible refine w_lturn (n + 2) (by omega) fun T1 => ?_
  repeat walk_at "sp"
  with_reducible refine w_lturn (n + 2) (by omega) fun T2 => ?_
  repeat walk_at "sp"
  refine ⟨by show 1 ≤ sizeLine; omega, ?_⟩
  repeat walk_at "sp"
  refine w_newL (xs := E2 xs j z) (by show 4 ≤ sizeLine; omega) ?_
  have J3 := (J2.grow T1).grow T2
  generalize S2 ++ T1 ++ T2 = S3 at J3 ⊢
  repeat walk_at "sp"
  refine mm_ext (J3.grow _).2 at_end (by rw [l2]; show 12 + 4 ≤ sizeLine; omega) ?_
  have J4 := (J3.grow [Ob.lst (E2 xs j z)]).set (A' := A3 A xs g j bs z z2 v2)
  have l3 : (A3 A xs g j bs z z2 v2).length = 16 := by unfold A3; rw [List.length_append, l2]; rfl
  rw [show A2 A xs g j bs z2 v2 ++ E2 xs j z = A3 A xs g j bs z z2 v2 from rfl]
  generalize (S3 ++ [Ob.lst (E2 xs j z)]).set S.length (Ob.lst (A3 A xs g j bs z z2 v2)) = S4 at J4 ⊢
  repeat walk_at "sp"
  refine ⟨ty_lst J4.2 (by decide), ?_⟩
  repeat walk_at "sp"
  refine ⟨by show 1 ≤ sizeLine; omega, ?_⟩
  repeat walk_at "sp"
  refine bi_lstT (by walk_at "lenT") ?_
  have hp1 : (S4 ++ [Ob.lst (iV xs)])[S4.length]? = some (Ob.lst (iV xs)) := at_end
  have n1 := J4.lt
  have Ja := J4.grow [Ob.lst (iV xs)]
  generalize S4 ++ [Ob.lst (iV xs)] = Sa at hp1 Ja ⊢
  generalize S4.length = p1 at hp1 n1 ⊢
  repeat walk_at "sp"
  refine w_newL (by show 1 ≤ sizeLine; omega) ?_
  have hp2 : (Sa ++ [Ob.lst [.tup (iV xs)]])[Sa.length]? = some (Ob.lst [.tup (iV xs)]) := at_end
  have n2 := Ja.lt
  have Jb := Ja.grow [Ob.lst [.tup (iV xs)]]
  replace hp1 := at_grow (T := [Ob.lst [.tup (iV xs)]]) hp1
  generalize Sa ++ [Ob.lst [.tup (iV xs)]] = Sb at hp1 hp2 Jb ⊢
  generalize Sa.length = p2 at hp2 n2 ⊢
  repeat walk_at "sp"
  refine ⟨by show 1 ≤ sizeLine; omega, ?_⟩
  repeat walk_at "sp"
  refine bi_lstT (by walk_at "lenT") ?_
  have hp3 : (Sb ++ [Ob.lst (iV bs)])[Sb.length]? = some (Ob.lst (iV bs)) := at_end
  have n3 := Jb.lt
  have Jc := Jb.grow [Ob.lst (iV bs)]
  replace hp1 := at_grow (T := [Ob.lst (iV bs)]) hp1
  replace hp2 := at_grow (T := [Ob.lst (iV bs)]) hp2
  generalize Sb ++ [Ob.lst (iV bs)] = Sc at hp1 hp2 hp3 Jc ⊢
  generalize Sb.length = p3 at hp3 n3 ⊢
  repeat walk_at "sp"
  refine bi_lstT (by walk_at "lenT") ?_
  have hp4 : (Sc ++ [Ob.lst (iV xs)])[Sc.length]? = some (Ob.lst (iV xs)) := at_end
  have n4 := Jc.lt
  have Jd := Jc.grow [Ob.lst (iV xs)]
  replace hp1 := at_grow (T := [Ob.lst (iV xs)]) hp1
  replace hp2 := at_grow (T := [Ob.lst (iV xs)]) hp2
  replace hp3 := at_grow (T := [Ob.lst (iV xs)]) hp3
  generalize Sc ++ [Ob.lst (iV xs)] = Sd at hp1 hp2 hp3 hp4 Jd ⊢
  generalize Sc.length = p4 at hp4 n4 ⊢
  repeat walk_at "sp"
  refine ⟨by show 1 ≤ sizeLine; omega, ?_⟩
  repeat walk_at "sp"
  refine ⟨by show 1 ≤ sizeLine; omega, ?_⟩
  repeat walk_at "sp"
  refine w_newL (xs := E3 xs bs v p1 p2 p3 p4) (by show 7 ≤ sizeLine; omega) ?_
  repeat walk_at "sp"
  refine mm_ext (Jd.grow _).2 at_end (by rw [l3]; show 16 + 7 ≤ sizeLine; omega) ?_
  have J5 := (Jd.grow [Ob.lst (E3 xs bs v p1 p2 p3 p4)]).set (A' := A4 A xs g j bs z z2 v v2 p1 p2 p3 p4)
  have l4 : (A4 A xs g j bs z z2 v v2 p1 p2 p3 p4).length = 23 := by unfold A4; rw [List.length_append, l3]; rfl
  rw [show A3 A xs g j bs z z2 v2 ++ E3 xs bs v p1 p2 p3 p4 = A4 A xs g j bs z z2 v v2 p1 p2 p3 p4 from rfl]
  replace hp1 := at_oth (o := Ob.lst (A4 A xs g j bs z z2 v v2 p1 p2 p3 p4)) (at_grow (T := [Ob.lst (E3 xs bs v p1 p2 p3 p4)]) hp1) (Nat.ne_of_lt n1)
  replace hp2 := at_oth (o := Ob.lst (A4 A xs g j bs z z2 v v2 p1 p2 p3 p4)) (at_grow (T := [Ob.lst (E3 xs bs v p1 p2 p3 p4)]) hp2) (Nat.ne_of_lt n2)
  replace hp3 := at_oth (o := Ob.lst (A4 A xs g j bs z z2 v v2 p1 p2 p3 p4)) (at_grow (T := [Ob.lst (E3 xs bs v p1 p2 p3 p4)]) hp3) (Nat.ne_of_lt n3)
  replace hp4 := at_oth (o := Ob.lst (A4 A xs g j bs z z2 v v2 p1 p2 p3 p4)) (at_grow (T := [Ob.lst (E3 xs bs v p1 p2 p3 p4)]) hp4) (Nat.ne_of_lt n4)
  generalize (Sd ++ [Ob.lst (E3 xs bs v p1 p2 p3 p4)]).set S.length (Ob.lst (A4 A xs g j bs z z2 v v2 p1 p2 p3 p4)) = S5 at J5 hp1 hp2 hp3 hp4 ⊢
  repeat walk_at "sp"
  refine ⟨ty_lst J5.2 (by decide), ?_⟩
  repeat walk_at "sp"
  refine di_one (key_word xs) ?_
  have hp5 : (S5 ++ [Ob.dic [(.tup (iV xs), .tup (iV xs))]])[S5.length]? = some (Ob.dic [(.tup (iV xs), .tup (iV xs))]) := at_end
  have n5 := J5.lt
  have Jf := J5.grow [Ob.dic [(.tup (iV xs), .tup (iV xs))]]
  replace hp1 := at_grow (T := [Ob.dic [(.tup (iV xs), .tup (iV xs))]]) hp1
  replace hp2 := at_grow (T := [Ob.dic [(.tup (iV xs), .tup (iV xs))]]) hp2
  replace hp3 := at_grow (T := [Ob.dic [(.tup (iV xs), .tup (iV xs))]]) hp3
  replace hp4 := at_grow (T := [Ob.dic [(.tup (iV xs), .tup (iV xs))]]) hp4
  generalize S5 ++ [Ob.dic [(.tup (iV xs), .tup (iV xs))]] = Sf at hp1 hp2 hp3 hp4 hp5 Jf ⊢
  generalize S5.length = p5 at hp5 n5 ⊢
  repeat walk_at "sp"
  refine w_newL (xs := E4 xs z v p5) (by show 4 ≤ sizeLine; omega) ?_
  repeat walk_at "sp"
  refine mm_ext (Jf.grow _).2 at_end (by rw [l4]; show 23 + 4 ≤ sizeLine; omega) ?_
  repeat walk_at "sp"
  exact q _ p1 p2 p3 p4 p5 ((Jf.grow [Ob.lst (E4 xs z v p5)]).set) (at_oth (at_grow hp1) (Nat.ne_of_lt n1)) (at_oth (at_grow hp2) (Nat.ne_of_lt n2)) (at_oth (at_grow hp3) (Nat.ne_of_lt n3)) (at_oth (at_grow hp4) (Nat.ne_of_lt n4)) (at_oth (at_grow hp5) (Nat.ne_of_lt n5))
end EV

end
section
set_option Elab.async false
set_option linter.all false
set_option maxRecDepth 100000
set_option maxHeartbeats 4000000
namespace EV
open PySem
local macro_rules | `(tactic| walk_at "ev") => `(tactic| with_reducible first
  | refine f_cons ?_ | refine f_nil ?_ | refine f_asg ?_ | refine f_par ?_ | refine f_asgIx ?_ | refine f_expr ?_ | refine f_ret ?_ | refine f_ite ?_ | refine f_for ?_ | refine f_pass ?_ | refine f_brk ?_ | refine f_cont ?_
  | refine w_var (by with_unfolding_all rfl) ?_ | refine w_cI ?_ | refine w_cS ?_ | refine w_cN ?_ | refine w_cB ?_ | refine w_gI ?_ | refine w_bin ?_ | refine w_neg ?_ | refine w_not ?_ | refine w_cmp ?_ | refine w_chn ?_ | refine w_bool ?_ | refine w_bnil ?_ | refine w_if ?_
  | refine w_tup ?_ | refine w_lst ?_ | refine w_dic ?_ | refine w_idx ?_ | refine w_slc ?_ | refine w_bno ?_ | refine w_bso ?_ | refine w_rev ?_ | refine w_call ?_ | refine w_callK ?_ | refine w_bi ?_ | refine w_me ?_ | refine w_ist ?_ | refine w_comp ?_ | refine w_nil ?_ | refine w_cons ?_
  | refine w_seq ?_ | refine w_rng1 ?_ | refine w_rng2 ?_ | refine w_enum ?_ | refine w_zip ?_ | refine w_ono ?_ | refine w_oso ?_
  | refine bi_int ?_ | refine bi_abs ?_ | refine bi_lenT ?_ | refine bi_tupT ?_ | refine b_addI ?_ | refine b_subI ?_ | refine c_eqI ?_ | refine c_neI ?_ | refine c_ltI ?_ | refine c_leI ?_ | refine c_gtI ?_ | refine c_geI ?_ | refine e_bl ?_ | refine e_iI ?_ | refine e_set (by with_unfolding_all rfl) ?_
  | refine pick_t ?_ | refine pick_f ?_ | refine is_int ?_ | refine is_non ?_ | refine is_tup ?_ | refine is_str ?_ | refine isn_int ?_ | refine isn_non ?_ | refine isn_tup ?_ | refine ist_tup ?_ | refine ist_tupS ?_ | refine ist_strS ?_ | refine ist_strT ?_ | refine ist_intI ?_ | refine ist_intB ?_ | refine ist_intT ?_
  | refine w_andT ?_ | refine w_andF ?_ | refine w_orF ?_ | refine w_orT ?_)
theorem fm_cons {Q : Va → Prop} {a : Va} {l : List Va} (h : Q a) (h2 : ∀ x ∈ l, Q x) : ∀ x ∈ a :: l, Q x := fun x hx => by
  rcases List.mem_cons.mp hx with rfl | hx
  · exact h
  · exact h2 x hx
theorem fm_nil {Q : Va → Prop} : ∀ x ∈ ([] : List Va), Q x := fun _ h => nomatch h
theorem fm_app {Q : Va → Prop} {l m : List Va} (h : ∀ x ∈ l, Q x) (h2 : ∀ x ∈ m, Q x) : ∀ x ∈ l ++ m, Q x := fun x hx => (List.mem_append.mp hx).elim (h x) (h2 x)
theorem sp_all {b c : Nat} {S : Sto} {xs bs : List Int} {j g p1 p2 p3 p4 p5 : Nat} {z z2 : Int} {v v2 : Va} {bb : Bool} (sx : Sml xs) (sb : Sml bs) (hn : xs.length ≤ 24) (hb : bs.length ≤ 24) (hz : z.natAbs.log2 < 1920) (hz2 : z2.natAbs.log2 < 1920) (hv : Atm b c S v) (hv2 : Atm b c S v2)
    (hp1 : S[p1]? = some (.lst (iV xs))) (hp2 : S[p2]? = some (.lst [.tup (iV xs)])) (hp3 : S[p3]? = some (.lst (iV bs))) (hp4 : S[p4]? = some (.lst (iV xs))) (hp5 : S[p5]? = some (.dic [(.tup (iV xs), .tup (iV xs))])) :
    ∀ u ∈ A5 (A28 xs j bs (.tup (iV (xs.take j) ++ [v] ++ iV (xs.drop (j + 1)))) (.tup (iV (xs.take j) ++ [.bl bb] ++ iV (xs.drop (j + 1))))) xs g j bs z z2 v v2 p1 p2 p3 p4 p5, OkJ S u := by
  have tl : ∀ (ys : List Int) i, ys.length ≤ 24 → (ys.take i).length ≤ 24 := fun ys i h => by rw [List.length_take]; omega
  have dl : ∀ (ys : List Int) i, ys.length ≤ 24 → (ys.drop i).length ≤ 24 := fun ys i h => by rw [List.length_drop]; omega
  have al : ∀ (ys zs : List Int) {a b : Nat}, ys.length ≤ a → zs.length ≤ b → (ys ++ zs).length ≤ a + b := fun ys zs _ _ h h2 => by rw [List.length_append]; omega
  have ol : ∀ a : Int, [a].length ≤ 1 := fun _ => Nat.le_refl _
  have up : ∀ {m a : Nat}, m ≤ a → a ≤ 100 → m ≤ 100 := fun h h2 => Nat.le_trans h h2
  have w : OkJ S (.tup (iV xs)) := OkJ.ints sx (by omega)
  unfold A5 A4 A3 A2 A1
  refine fm_app (fm_app (fm_app (fm_app (fm_app ?_ ?_) ?_) ?_) ?_) ?_
  · refine fm_cons w (fm_cons (OkJ.ints sb (by omega)) (fm_cons (OkJ.mix (sx.take j) (sx.drop _) hv (up (tl xs j hn) (by omega)) (up (dl xs _ hn) (by omega))) (fm_cons (OkJ.mix (sx.take j) (sx.drop _) (Atm.bl (b := b) (c := c) bb) (up (tl xs j hn) (by omega)) (up (dl xs _ hn) (by omega))) (fm_cons w (fm_cons ?_ (fm_cons ?_ (fm_cons ?_ fm_nil)))))))
    · exact OkJ.ints (sx.take j) (up (tl xs j hn) (by omega))
    · exact OkJ.ints (sx.drop j) (up (dl xs j hn) (by omega))
    · exact OkJ.ints (sx.app (Sml.one (sx.at j))) (up (al _ _ hn (ol _)) (by omega))
  · exact fm_cons (OkJ.ints (((sx.take g).app (Sml.one (sx.at j))).app (sx.drop g)) (up (al _ _ (al _ _ (tl xs g hn) (ol _)) (dl xs g hn)) (by omega))) fm_nil
  · refine fm_cons ?_ (fm_cons ?_ (fm_cons ?_ fm_nil))
    · exact OkJ.ints (((sb.take g).app (Sml.one hz2)).app (sb.drop g)) (up (al _ _ (al _ _ (tl bs g hb) (ol _)) (dl bs g hb)) (by omega))
    · exact OkJ.mix (sb.take g) (sb.drop g) hv2 (up (tl bs g hb) (by omega)) (up (dl bs g hb) (by omega))
    · exact OkJ.ints (sb.app sx) (up (al _ _ hb hn) (by omega))
  · refine fm_cons ?_ (fm_cons ?_ (fm_cons ?_ (fm_cons ?_ fm_nil)))
    · exact OkJ.ints sx.rev (by rw [List.length_reverse]; omega)
    · exact OkJ.ints (sx.app sx) (up (al _ _ hn hn) (by omega))
    · exact OkJ.ints ((sx.drop j).app (sx.take j)) (up (al _ _ (dl xs j hn) (tl xs j hn)) (by omega))
    · exact OkJ.ints (sx.rev.app (Sml.one hz)) (up (al _ _ (show xs.reverse.length ≤ 24 by rw [List.length_reverse]; exact hn) (ol _)) (by omega))
  · refine fm_cons (OkJ.mix1 sb hv (by omega)) (fm_cons (OkJ.lints sx (by omega) hp1) (fm_cons (OkJ.lword sx (by omega) hp2) (fm_cons (OkJ.tword sx (by omega)) (fm_cons (OkJ.lints sb (by omega) hp3) (fm_cons (OkJ.tlword sx (by omega) hp4) (fm_cons (OkJ.wword sx (by omega)) fm_nil))))))
  · exact fm_cons (OkJ.dword sx (by omega) hp5) (fm_cons (OkJ.atm hv) (fm_cons (OkJ.num hz) (fm_cons w fm_nil)))
theorem w_spoilt (n : Nat) {b c k : Nat} (hk : 1 ≤ k) (hk5 : k ≤ 5) {xs : List Int} (hx : Wd (k : Int) xs) (hn : 1 ≤ xs.length) (hn2 : xs.length ≤ 24) {S : Sto} {P : Va → Sto → Prop} (B : Bag b c S)
    (q : ∀ r S' items, S'[r]? = some (.lst items) → (∀ v ∈ items, OkJ S' v) → Bag b c S' → Fr b c S S' → r ≠ b → r ≠ c → P (.ref r) S') : Rw (Rn (n + 4) 28 [.ref b, .int (k : Nat), .tup (iV xs)] S) P := by
  refine w_run (d := k01_28) rfl rfl ?_
  refine sp_begin n hk hk5 hn hn2 B fun S1 j z v g r2 z2 v2 hj hg hz hz2 hv hv2 hr2 B1 f1 => ?_
  refine sp_mid n hn2 hj fun bb => ?_
  have sx := hx.sml hk5
  have hb : (xs.take j ++ [z] ++ xs.drop (j + 1)).length ≤ 24 := by
    rw [List.length_append, List.length_append, List.length_take, List.length_drop]
    show min j xs.length + 1 + _ ≤ 24
    omega
  have sb : Sml (xs.take j ++ [z] ++ xs.drop (j + 1)) := ((sx.take j).app (Sml.one hz.2)).app (sx.drop _)
  have hr3 := (List.getElem?_eq_some_iff.mp hr2).1
  refine sp_end n (c := c) hn2 hb hj (by rfl) Jl.new (at_grow hr2) (by omega) fun S' p1 p2 p3 p4 p5 J hp1 hp2 hp3 hp4 hp5 => ?_
  have hl := B1.lt
  exact q _ S' _ J.2 (sp_all (b := b) (c := c) sx sb hn2 hb hz.2 hz2.2 (J.1.atm hv) (J.1.atm hv2) hp1 hp2 hp3 hp4 hp5) (J.1.bag B1) (f1.trans J.1.fr) (by omega) (by omega)
end EV

end
section
set_option Elab.async false
set_option linter.all false
set_option maxRecDepth 100000
set_option maxHeartbeats 4000000
namespace EV
open PySem
local macro_rules | `(tactic| walk_at "ev") => `(tactic| with_reducible first
  | refine f_cons ?_ | refine f_nil ?_ | refine f_asg ?_ | refine f_par ?_ | refine f_asgIx ?_ | refine f_expr ?_ | refine f_ret ?_ | refine f_ite ?_ | refine f_for ?_ | refine f_pass ?_ | refine f_brk ?_ | refine f_cont ?_
  | refine w_var (by with_unfolding_all rfl) ?_ | refine w_cI ?_ | refine w_cS ?_ | refine w_cN ?_ | refine w_cB ?_ | refine w_gI ?_ | refine w_bin ?_ | refine w_neg ?_ | refine w_not ?_ | refine w_cmp ?_ | refine w_chn ?_ | refine w_bool ?_ | refine w_bnil ?_ | refine w_if ?_
  | refine w_tup ?_ | refine w_lst ?_ | refine w_dic ?_ | refine w_idx ?_ | refine w_slc ?_ | refine w_bno ?_ | refine w_bso ?_ | refine w_rev ?_ | refine w_call ?_ | refine w_callK ?_ | refine w_bi ?_ | refine w_me ?_ | refine w_ist ?_ | refine w_comp ?_ | refine w_nil ?_ | refine w_cons ?_
  | refine w_seq ?_ | refine w_rng1 ?_ | refine w_rng2 ?_ | refine w_enum ?_ | refine w_zip ?_ | refine w_ono ?_ | refine w_oso ?_
  | refine bi_int ?_ | refine bi_abs ?_ | refine bi_lenT ?_ | refine bi_tupT ?_ | refine b_addI ?_ | refine b_subI ?_ | refine c_eqI ?_ | refine c_neI ?_ | refine c_ltI ?_ | refine c_leI ?_ | refine c_gtI ?_ | refine c_geI ?_ | refine e_bl ?_ | refine e_iI ?_ | refine e_set (by with_unfolding_all rfl) ?_
  | refine pick_t ?_ | refine pick_f ?_ | refine is_int ?_ | refine is_non ?_ | refine is_tup ?_ | refine is_str ?_ | refine isn_int ?_ | refine isn_non ?_ | refine isn_tup ?_ | refine ist_tup ?_ | refine ist_tupS ?_ | refine ist_strS ?_ | refine ist_strT ?_ | refine ist_intI ?_ | refine ist_intB ?_ | refine ist_intT ?_
  | refine w_andT ?_ | refine w_andF ?_ | refine w_orF ?_ | refine w_orT ?_)
local macro_rules | `(tactic| walk_at "lenT") => `(tactic| ((try simp only [List.length_append, List.length_map, List.length_take, List.length_drop, List.length_cons, List.length_nil, List.length_reverse]); omega))
local macro_rules | `(tactic| walk_at "sp") => `(tactic| first | walk_at "ev" | (with_reducible refine sl_to ?_) | (with_reducible refine sl_from ?_) | (with_reducible refine b_catI (by walk_at "lenT") ?_) | (with_reducible refine b_cat1 (by walk_at "lenT") ?_) | (with_reducible refine b_cat (by walk_at "lenT") ?_))
theorem VS.d0 {S : Sto} {i : Nat} (hs : S[i]? = some (.dic [])) : VS S 1 1 true false (.ref i) := by
  refine ⟨.dict [], fun m hm => ?_, by simp only [PyData.showable, PyData.showableKv], ?_, by simp only [PyData.depth, PyData.depthKv]; omega, fun e => Bool.noConfusion e, fun _ => by simp only [hasLst, hasLstKv]⟩
  · cases m with
    | zero => exact absurd hm (by omega)
    | succ m => simp only [toD, hs, optMap, Option.map_some]
  · have := dictText_len_le (PyData.shownKv [])
    simp only [PyData.shownKv, List.map_nil, List.sum_nil, List.length_nil] at this
    simp only [PyData.shown, PyData.shownKv]
    omega
@[reducible] def V29 (xs : List Int) (z : Int) (v : Va) : List Va := [.tup (iV xs), .tup (iV (xs.drop 1)), .tup (iV (xs.take 24)), .tup (iV (xs.take 24 ++ [z])), .tup (iV (xs.take 23 ++ [z])), .tup (iV (xs.take 23) ++ [v])]
@[reducible] def W29 (xs : List Int) (z : Int) (v : Va) : List Va := [.tup (iV (xs.take 24) ++ [v]), .tup ([.int z] ++ iV xs), .tup (iV (xs.take 12) ++ [v, .int z] ++ iV (xs.take 12))]
@[reducible] def U29 (p1 p2 : Nat) : List Va := [.tup [], .ref p1, .str "", .non, .int 0, .int 1, .bl true, .bl false, .ref p2, .tup [.tup []], .str "ab", .str "-", .tup [.non], .tup []]
theorem all29 {b c : Nat} {S : Sto} {xs : List Int} {z : Int} {v : Va} (sx : Sml xs) (hn : xs.length = 25) (hz : z.natAbs.log2 < 1920) (hv : Atm b c S v) : ∀ u ∈ V29 xs z v ++ W29 xs z v, OkJ S u := by
  have tl : ∀ i, (xs.take i).length ≤ 25 := fun i => by rw [List.length_take]; omega
  have ol : ∀ i, (xs.take i ++ [z]).length ≤ 100 := fun i => by
    have := tl i
    rw [List.length_append]
    show _ + 1 ≤ 100
    omega
  refine fm_app (fm_cons (OkJ.ints sx (by omega)) (fm_cons (OkJ.ints (sx.drop 1) (by rw [List.length_drop]; omega)) (fm_cons (OkJ.ints (sx.take 24) (Nat.le_trans (tl _) (by omega))) (fm_cons (OkJ.ints ((sx.take 24).app (Sml.one hz)) (ol _)) (fm_cons (OkJ.ints ((sx.take 23).app (Sml.one hz)) (ol _)) (fm_cons (OkJ.mix2 (sx.take 23) hv (Nat.le_trans (tl _) (by omega))) fm_nil))))))
    (fm_cons (OkJ.mix2 (sx.take 24) hv (Nat.le_trans (tl _) (by omega))) (fm_cons ?_ (fm_cons ?_ fm_nil)))
  · exact OkJ.ints (xs := [z] ++ xs) ((Sml.one hz).app sx) (by rw [List.length_append, hn]; show 1 + 25 ≤ 100; omega)
  · have t := tl 12
    have w := OkJ.mix (b := b) (c := c) (S := S) (sx.take 12) ((Sml.one hz).app (sx.take 12)) hv (by omega) (by rw [List.length_append]; show 1 + _ ≤ 100; omega)
    rw [show iV (xs.take 12) ++ [v, .int z] ++ iV (xs.take 12) = iV (xs.take 12) ++ [v] ++ iV ([z] ++ xs.take 12) by simp [iV]]
    exact w
theorem allU {S : Sto} {p1 p2 : Nat} (h1 : S[p1]? = some (.lst [])) (h2 : S[p2]? = some (.dic [])) : ∀ u ∈ U29 p1 p2, OkJ S u := by
  have t0 : OkJ S (.tup []) := (VS.tup (LS.nil (k := 0) (N := 0) (hD := false) (hL := false))).okJ2 (by omega) (by omega) rfl
  refine fm_cons t0 (fm_cons ?_ (fm_cons ?_ (fm_cons ?_ (fm_cons ?_ (fm_cons ?_ (fm_cons ?_ (fm_cons ?_ (fm_cons ?_ (fm_cons ?_ (fm_cons ?_ (fm_cons ?_ (fm_cons ?_ (fm_cons t0 fm_nil)))))))))))))
  · exact (VS.lst h1 (LS.nil (k := 0) (N := 0) (hD := false) (hL := false))).okJ2 (by omega) (by omega) rfl
  · exact (VS.str (by decide +kernel)).okJ2 (by omega) (by omega) rfl
  · exact VS.non.okJ2 (by omega) (by omega) rfl
  · exact OkJ.num (by decide)
  · exact OkJ.num (by decide)
  · exact (VS.bl _).okJ2 (by omega) (by omega) rfl
  · exact (VS.bl _).okJ2 (by omega) (by omega) rfl
  · exact (VS.d0 h2).okJ2 (by omega) (by omega) rfl
  · exact (VS.tup (LS.cons (VS.tup (LS.nil (k := 0) (N := 0) (hD := false) (hL := false))) (LS.nil (N := 0)))).okJ2 (by omega) (by omega) rfl
  · exact (VS.str (by decide +kernel)).okJ2 (by omega) (by omega) rfl
  · exact (VS.str (by decide +kernel)).okJ2 (by omega) (by omega) rfl
  · exact (VS.tup (LS.cons VS.non (LS.nil (N := 0)))).okJ2 (by omega) (by omega) rfl
theorem w_lens (n : Nat) {b c : Nat} {S : Sto} {P : Va → Sto → Prop} (B : Bag b c S) (q : ∀ S', Bag b c S' → Fr b c S S' → P (.bl true) S') : Rw (Rn (n + 6) 29 [.ref b] S) P := by
  refine w_run (d := k01_29) rfl rfl ?_
  have es := sizeLine_eq
  refine f_step (fun ρ' S' => (∃ a1 a2 a3 a4 a5 a6, ρ' = [some (.ref b), a1, a2, a3, a4, a5, a6]) ∧ Bag b c S' ∧ Fr b c S S') ?_ ?_
  · refine f_for ?_
    repeat walk_at "sp"
    refine e_rng (by decide) ?_
    refine f_turns (fun i ρ S2 => (∃ a1 a2 a3 a4 a5 a6, ρ = [some (.ref b), a1, a2, a3, a4, a5, a6]) ∧ Bag b c S2 ∧ Fr b c S S2) ⟨⟨_, _, _, _, _, _, rfl⟩, B, Fr.refl⟩ (fun i ρ S2 _ _ => stay_nil) (fun i x ρ S2 hx h => ?_) (fun ρ S2 h => h)
    obtain ⟨hi, rfl⟩ := rng_get (lo := 1) (hi := 6) hx
    have hi5 : i < 5 := hi
    obtain ⟨⟨a1, a2, a3, a4, a5, a6, rfl⟩, B1, f1⟩ := h
    rw [show (1 + (i : Nat) : Int) = ((i + 1 : Nat) : Int) by omega]
    have hk1 : 1 ≤ i + 1 := by omega
    have hk5 : i + 1 ≤ 5 := by omega
    generalize i + 1 = k at hk1 hk5 ⊢
    refine ⟨_, rfl, ?_⟩
    repeat walk_at "sp"
    refine ⟨by decide, ?_⟩
    refine w_draws (k := (k : Nat)) (m := 25) B1 (fun i S2 Q hi B2 qq => ?_) (fun xs S3 hl hw B3 f3 => ?_)
    · refine w_turn rfl ?_
      repeat walk_at "sp"
      refine .inl ⟨rfl, ?_⟩
      repeat walk_at "sp"
      with_reducible refine w_draw (n + 4) (by omega) (by omega) B2 fun f S3 g1 g2 B3 f3 => ?_
      exact qq f S3 g1 g2 B3 f3
    · refine w_newL (by rw [List.length_map]; omega) ?_
      repeat walk_at "sp"
      refine bi_tupL at_end (by rw [List.length_map]; omega) ?_
      have B4 := B3.grow [.lst (iV xs)]
      have f4 := f3.trans (Fr.grow [.lst (iV xs)])
      generalize S3 ++ [Ob.lst (iV xs)] = S4 at B4 f4 ⊢
      repeat walk_at "sp"
      with_reducible refine w_strange (n + 2) hk1 hk5 B4 fun z v S5 r hz hv B5 f5 hr _ _ _ => ?_
      refine ⟨[some (.ref b), some (.int (k : Nat)), some (.tup (iV xs)), a3, some (.int z), some v, a6], ?_, ?_⟩
      · show (match S5[r]? with
          | some (.lst xs) => setAll [4, 5] xs _
          | _ => none) = _
        rw [hr]
        rfl
      have sx := hw.sml hk5
      repeat walk_at "sp"
      refine sl_fromI (j := 1) rfl ?_
      repeat walk_at "sp"
      refine sl_toI (j := 24) rfl ?_
      repeat walk_at "sp"
      refine sl_toI (j := 24) rfl ?_
      repeat walk_at "sp"
      refine ⟨by show 1 ≤ sizeLine; omega, ?_⟩
      repeat walk_at "sp"
      refine sl_toI (j := 23) rfl ?_
      repeat walk_at "sp"
      refine ⟨by show 1 ≤ sizeLine; omega, ?_⟩
      repeat walk_at "sp"
      refine sl_toI (j := 23) rfl ?_
      repeat walk_at "sp"
      refine ⟨by show 1 ≤ sizeLine; omega, ?_⟩
      repeat walk_at "sp"
      refine w_newL (xs := V29 xs z v) (by show 6 ≤ sizeLine; omega) ?_
      have J1 : Jl S5 (S5 ++ [.lst (V29 xs z v)]) (V29 xs z v) := Jl.new
      generalize S5 ++ [Ob.lst (V29 xs z v)] = S6 at J1 ⊢
      repeat walk_at "sp"
      refine ⟨ty_lst J1.2 (by decide), ?_⟩
      repeat walk_at "sp"
      refine sl_toI (j := 24) rfl ?_
      repeat walk_at "sp"
      refine ⟨by show 1 ≤ sizeLine; omega, ?_⟩
      repeat walk_at "sp"
      refine ⟨by show 1 ≤ sizeLine; omega, ?_⟩
      repeat walk_at "sp"
      refine sl_toI (j := 12) rfl ?_
      repeat walk_at "sp"
      refine ⟨by show 2 ≤ sizeLine; omega, ?_⟩
      repeat walk_at "sp"
      refine sl_toI (j := 12) rfl ?_
      repeat walk_at "sp"
      refine w_newL (xs := W29 xs z v) (by show 3 ≤ sizeLine; omega) ?_
      repeat walk_at "sp"
      refine mm_ext (J1.grow _).2 at_end (by show 6 + 3 ≤ sizeLine; omega) ?_
      have J2 := (J1.grow [.lst (W29 xs z v)]).set (A' := V29 xs z v ++ W29 xs z v)
      generalize (S6 ++ [Ob.lst (W29 xs z v)]).set S5.length (.lst (V29 xs z v ++ W29 xs z v)) = S7 at J2 ⊢
      repeat walk_at "sp"
      have j1 := J2.2
      have j2 := all29 (b := b) (c := c) sx hl hz.2 (J2.1.atm hv)
      with_reducible refine w_judges n j1 j2 fun T => ?_
      repeat walk_at "sp"
      rw [Bool.not_true]
      repeat walk_at "sp"
      exact ⟨⟨_, _, _, _, _, _, rfl⟩, (J2.1.bag B5).grow T, f1.trans (f4.trans (f5.trans (J2.1.fr.trans (Fr.grow T))))⟩
  · rintro ρ' S1 ⟨⟨a1, a2, a3, a4, a5, a6, rfl⟩, B1, f1⟩
    repeat walk_at "sp"
    refine ⟨by show 0 ≤ sizeLine; omega, ?_⟩
    repeat walk_at "sp"
    refine w_newL (by show 0 ≤ sizeLine; omega) ?_
    repeat walk_at "sp"
    refine di_nil ?_
    repeat walk_at "sp"
    refine ⟨by show 0 ≤ sizeLine; omega, ?_⟩
    repeat walk_at "sp"
    refine ⟨by show 1 ≤ sizeLine; omega, ?_⟩
    repeat walk_at "sp"
    refine ⟨by show 1 ≤ sizeLine; omega, ?_⟩
    repeat walk_at "sp"
    refine ⟨by show 0 ≤ sizeLine; omega, ?_⟩
    repeat walk_at "sp"
    refine w_newL (xs := U29 S1.length (S1 ++ [Ob.lst []]).length) (by show 14 ≤ sizeLine; omega) ?_
    have hl := B1.lt
    have B3 := ((B1.grow [Ob.lst []]).grow [Ob.dic []]).grow [.lst (U29 S1.length (S1 ++ [Ob.lst []]).length)]
    have f3 := f1.trans ((Fr.grow [Ob.lst []]).trans ((Fr.grow [Ob.dic []]).trans (Fr.grow [.lst (U29 S1.length (S1 ++ [Ob.lst []]).length)])))
    have h1 : (S1 ++ [Ob.lst []] ++ [Ob.dic []] ++ [.lst (U29 S1.length (S1 ++ [Ob.lst []]).length)])[S1.length]? = some (.lst []) := at_grow (at_grow at_end)
    have h2 : (S1 ++ [Ob.lst []] ++ [Ob.dic []] ++ [.lst (U29 S1.length (S1 ++ [Ob.lst []]).length)])[(S1 ++ [Ob.lst []]).length]? = some (.dic []) := at_grow at_end
    have h3 : (S1 ++ [Ob.lst []] ++ [Ob.dic []] ++ [.lst (U29 S1.length (S1 ++ [Ob.lst []]).length)])[(S1 ++ [Ob.lst []] ++ [Ob.dic []]).length]? = some (.lst (U29 S1.length (S1 ++ [Ob.lst []]).length)) := at_end
    have l1 : (S1 ++ [Ob.lst []]).length = S1.length + 1 := by rw [List.length_append]; rfl
    have l2 : (S1 ++ [Ob.lst []] ++ [Ob.dic []]).length = S1.length + 2 := by rw [List.length_append, l1]; rfl
    generalize S1 ++ [Ob.lst []] ++ [Ob.dic []] ++ [.lst (U29 S1.length (S1 ++ [Ob.lst []]).length)] = S3 at B3 f3 h1 h2 h3 ⊢
    generalize (S1 ++ [Ob.lst []] ++ [Ob.dic []]).length = r at h3 l2 ⊢
    generalize (S1 ++ [Ob.lst []]).length = p2 at h2 h3 l1 ⊢
    generalize S1.length = p1 at h1 h3 l1 l2 hl ⊢
    repeat walk_at "sp"
    with_reducible refine w_draw (n + 4) (by decide) (by decide) B3 fun d S4 _ _ B4 f4 => ?_
    repeat walk_at "sp"
    with_reducible refine w_judges n (f4.at h3 (by omega) (by omega)) (allU (f4.at h1 (by omega) (by omega)) (f4.at h2 (by omega) (by omega))) fun T => ?_
    exact q _ (B4.grow T) (f3.trans (f4.trans (Fr.grow T)))
end EV

end
section
set_option Elab.async false
set_option linter.all false
set_option maxRecDepth 100000
set_option maxHeartbeats 4000000
namespace EV
open PySem
local macro_rules | `(tactic| walk_at "ev") => `(tactic| with_reducible first
  | refine f_cons ?_ | refine f_nil ?_ | refine f_asg ?_ | refine f_par ?_ | refine f_asgIx ?_ | refine f_expr ?_ | refine f_ret ?_ | refine f_ite ?_ | refine f_for ?_ | refine f_pass ?_ | refine f_brk ?_ | refine f_cont ?_
  | refine w_var (by with_unfolding_all rfl) ?_ | refine w_cI ?_ | refine w_cS ?_ | refine w_cN ?_ | refine w_cB ?_ | refine w_gI ?_ | refine w_bin ?_ | refine w_neg ?_ | refine w_not ?_ | refine w_cmp ?_ | refine w_chn ?_ | refine w_bool ?_ | refine w_bnil ?_ | refine w_if ?_
  | refine w_tup ?_ | refine w_lst ?_ | refine w_dic ?_ | refine w_idx ?_ | refine w_slc ?_ | refine w_bno ?_ | refine w_bso ?_ | refine w_rev ?_ | refine w_call ?_ | refine w_callK ?_ | refine w_bi ?_ | refine w_me ?_ | refine w_ist ?_ | refine w_comp ?_ | refine w_nil ?_ | refine w_cons ?_
  | refine w_seq ?_ | refine w_rng1 ?_ | refine w_rng2 ?_ | refine w_enum ?_ | refine w_zip ?_ | refine w_ono ?_ | refine w_oso ?_
  | refine bi_int ?_ | refine bi_abs ?_ | refine bi_lenT ?_ | refine bi_tupT ?_ | refine b_addI ?_ | refine b_subI ?_ | refine c_eqI ?_ | refine c_neI ?_ | refine c_ltI ?_ | refine c_leI ?_ | refine c_gtI ?_ | refine c_geI ?_ | refine e_bl ?_ | refine e_iI ?_ | refine e_set (by with_unfolding_all rfl) ?_
  | refine pick_t ?_ | refine pick_f ?_ | refine is_int ?_ | refine is_non ?_ | refine is_tup ?_ | refine is_str ?_ | refine isn_int ?_ | refine isn_non ?_ | refine isn_tup ?_ | refine ist_tup ?_ | refine ist_tupS ?_ | refine ist_strS ?_ | refine ist_strT ?_ | refine ist_intI ?_ | refine ist_intB ?_ | refine ist_intT ?_
  | refine w_andT ?_ | refine w_andF ?_ | refine w_orF ?_ | refine w_orT ?_)
theorem rep_one (a : Int) : ∀ m, repI m [a] = List.replicate m a
  | 0 => rfl
  | m + 1 => by
    have ih := rep_one a m
    unfold repI at ih ⊢
    rw [List.replicate_succ, List.flatten_cons, ih, List.replicate_succ]
    rfl
theorem rep_get {m i : Nat} {a : Int} {ys : List Int} (h : i < m) : (repI m [a] ++ ys).getD i 0 = a := by
  rw [List.getD_eq_getElem?_getD, List.getElem?_append_left (by rw [rep_len]; show i < m * 1; omega), rep_one, List.getElem?_replicate, if_pos h]
  rfl
theorem rep_end {m : Nat} {a z : Int} : (repI m [a] ++ [z]).getD m 0 = z := by
  rw [List.getD_eq_getElem?_getD, List.getElem?_append_right (by rw [rep_len]; show m * 1 ≤ m; omega), rep_len]
  rw [show m - m * [a].length = 0 by show m - m * 1 = 0; omega]
  rfl
theorem rep_len1 {m : Nat} {a : Int} : (repI m [a]).length = m := by rw [rep_len]; exact Nat.mul_one m
theorem gr_word {k m : Nat} {a : Int} (hm : 25 ≤ m) (h0 : 0 ≤ a) (h1 : a < k) : errW k (.tup (iV (repI m [a]))) = .str "long" ∧ errC k (.tup (iV (repI m [a]))) = .tup [.str "order", .int 1] := by
  have ne : repI m [a] ≠ [] := fun e => by
    have := congrArg List.length e
    rw [rep_len1, List.length_nil] at this
    omega
  have g : ∀ i, i < m → (repI m [a]).getD i 0 = a := fun i hi => by
    have := rep_get (ys := []) (a := a) hi
    rw [List.append_nil] at this
    exact this
  constructor
  · unfold errW
    rw [if_pos (iV_areI _), valI_iV, if_pos (by rw [rep_len1]; omega)]
  · unfold errC
    rw [if_pos (iV_areI _), valI_iV]
    unfold errI
    rw [if_neg ne]
    have e1 : oddAt k (repI m [a]) = none := by
      unfold oddAt
      rw [rep_len1]
      refine find_none fun j hj => ?_
      unfold badL
      rw [g j hj, decide_eq_true h0, decide_eq_true h1]; rfl
    have e2 : fallAt (repI m [a]) = some 0 := by
      unfold fallAt
      rw [rep_len1]
      refine find_some (by omega) ?_ (fun j hj => absurd hj (Nat.not_lt_zero j))
      unfold fallB
      rw [g 0 (by omega), g (0 + 1) (by omega)]
      exact decide_eq_true (Int.le_refl a)
    rw [e1, e2]
    rfl
theorem gr_form {k : Int} {xs : List Int} {v : Va} (h : isI v = false) : errW k (.tup (iV xs ++ [v])) = .str "form" ∧ errC k (.tup (iV xs ++ [v])) = .str "form" := by
  have e : areI (.tup (iV xs ++ [v])) = false := by
    show (iV xs ++ [v]).all isI = false
    rw [List.all_append]
    show ((iV xs).all isI && (isI v && true)) = false
    rw [h]
    simp
  unfold errW errC
  rw [e]
  exact ⟨rfl, rfl⟩
theorem gr_num {k m : Nat} {a z : Int} (hm : 25 ≤ m) (h0 : 0 ≤ a) (h1 : a < k) (hz : z < 0 ∨ (k : Int) ≤ z) : errW k (.tup (iV (repI m [a] ++ [z]))) = .str "long" ∧ errC k (.tup (iV (repI m [a] ++ [z]))) = .tup [.str "letter", .int (m : Nat)] := by
  have le : (repI m [a] ++ [z]).length = m + 1 := by rw [List.length_append, rep_len1]; rfl
  have ne : repI m [a] ++ [z] ≠ [] := fun e => by
    have := congrArg List.length e
    rw [le, List.length_nil] at this
    omega
  constructor
  · unfold errW
    rw [if_pos (iV_areI _), valI_iV, if_pos (by rw [le]; omega)]
  · unfold errC
    rw [if_pos (iV_areI _), valI_iV]
    unfold errI
    rw [if_neg ne]
    have e1 : oddAt k (repI m [a] ++ [z]) = some m := by
      unfold oddAt
      rw [le]
      refine find_some (by omega) ?_ (fun j hj => ?_)
      · unfold badL
        rw [rep_end]
        rcases hz with hz | hz
        · rw [decide_eq_false (show ¬ 0 ≤ z by omega)]; rfl
        · rw [decide_eq_false (show ¬ z < (k : Int) by omega), Bool.and_false]; rfl
      · unfold badL
        rw [rep_get hj, decide_eq_true h0, decide_eq_true h1]; rfl
    rw [e1]
theorem okT_rep {b c : Nat} {S : Sto} {xs : List Int} {v : Va} (h : okV S v = true) : okT S (.tup (iV xs ++ [v])) := ⟨rfl, fun ys e x hx => by
  cases e
  rcases List.mem_append.mp hx with hx | hx
  · obtain ⟨i, _, rfl⟩ := List.mem_map.mp hx
    rfl
  · cases List.mem_singleton.mp hx
    exact h⟩
theorem Atm.ok {b c : Nat} {S : Sto} {v : Va} (h : Atm b c S v) : okV S v = true := by
  cases h with
  | ls i _ _ h => simp only [okV, h]; rfl
  | dc i _ _ h => simp only [okV, h]; rfl
  | _ => rfl
theorem w_greats (n : Nat) {b c : Nat} {S : Sto} {P : Va → Sto → Prop} (B : Bag b c S) (q : ∀ S', P (.bl true) S') : Rw (Rn (n + 5) 30 [.ref b] S) P := by
  refine w_run (d := k01_30) rfl rfl ?_
  have es := sizeLine_eq
  refine f_step (fun ρ' S' => ∃ k m : Nat, 1 ≤ k ∧ k ≤ 5 ∧ 25 ≤ m ∧ m ≤ 39000 ∧ ρ' = [some (.ref b), some (.int (k : Nat)), some (.int (m : Nat)), none, none, none] ∧ Bag b c S') ?_ ?_
  · repeat walk_at "ev"
    with_reducible refine w_draw (n + 3) (by decide) (by decide) B fun d1 S1 a1 a2 B1 f1 => ?_
    obtain ⟨d1, rfl⟩ := Int.eq_ofNat_of_zero_le a1
    repeat walk_at "ev"
    with_reducible refine w_draw (n + 3) (by decide) (by decide) B1 fun d2 S2 b1 b2 B2 f2 => ?_
    obtain ⟨d2, rfl⟩ := Int.eq_ofNat_of_zero_le b1
    repeat walk_at "ev"
    exact ⟨1 + d1, 25 + d2, by omega, by omega, by omega, by omega, by rw [Int.natCast_add, Int.natCast_add]; rfl, B2⟩
  rintro ρ' S1 ⟨k, m, hk, hk5, hm, hm2, rfl, B1⟩
  refine f_step (fun ρ' S' => ∃ m : Nat, 25 ≤ m ∧ m ≤ 39000 ∧ ρ' = [some (.ref b), some (.int (k : Nat)), some (.int (m : Nat)), none, none, none] ∧ Bag b c S') ?_ ?_
  · repeat walk_at "ev"
    with_reducible refine w_draw (n + 3) (by decide) (by decide) B1 fun d1 S2 a1 a2 B2 f2 => ?_
    repeat walk_at "ev"
    refine ⟨fun _ => ?_, fun _ => ?_⟩
    · repeat walk_at "ev"
      with_reducible refine w_draw (n + 3) (by decide) (by decide) B2 fun d2 S3 b1 b2 B3 f3 => ?_
      obtain ⟨d2, rfl⟩ := Int.eq_ofNat_of_zero_le b1
      repeat walk_at "ev"
      exact ⟨3000 + d2, by omega, by omega, by rw [Int.natCast_add]; rfl, B3⟩
    · repeat walk_at "ev"
      exact ⟨m, hm, hm2, rfl, B2⟩
  clear hm hm2
  rintro ρ' S2 ⟨m, hm, hm2, rfl, B2⟩
  repeat walk_at "ev"
  with_reducible refine w_draw (n + 3) (below := (k : Nat)) (by omega) (by omega) B2 fun a S3 h0 h1 B3 f3 => ?_
  repeat walk_at "ev"
  refine ⟨by show 1 ≤ sizeLine; omega, ?_⟩
  repeat walk_at "ev"
  refine b_repT (m := m) (xs := [a]) (by show m * 1 ≤ sizeLine; omega) (by omega) ?_
  repeat walk_at "ev"
  with_reducible refine w_strange (n + 1) hk hk5 B3 fun z v S4 r hz hv B4 f4 hr _ _ _ => ?_
  obtain ⟨w1, w2⟩ := gr_word hm h0 h1
  obtain ⟨t1, t2⟩ := gr_form (k := k) (xs := repI m [a]) (v := .bl true) rfl
  obtain ⟨o1, o2⟩ := gr_form (k := k) (xs := repI m [a]) (v := v) hv.isI
  obtain ⟨z1, z2⟩ := gr_num hm h0 h1 hz.1
  have J0 := fun (S : Sto) (Q : Va → Sto → Prop) => w_judged n (S := S) (P := Q) (k := (k : Nat)) (okT_ints (S := S) (repI m [a])) (fun vs e => by cases e; rw [List.length_map, rep_len1]; omega)
  have J1 := fun (S : Sto) (Q : Va → Sto → Prop) => w_judged n (S := S) (P := Q) (k := (k : Nat)) (okT_rep (b := b) (c := c) (S := S) (xs := repI m [a]) (v := .bl true) rfl) (fun vs e => by cases e; rw [List.length_append, List.length_map, rep_len1]; show m + 1 ≤ _; omega)
  have J2 := fun (S : Sto) (hv : Atm b c S v) (Q : Va → Sto → Prop) => w_judged n (S := S) (P := Q) (k := (k : Nat)) (okT_rep (b := b) (c := c) (xs := repI m [a]) (v := v) hv.ok) (fun vs e => by cases e; rw [List.length_append, List.length_map, rep_len1]; show m + 1 ≤ _; omega)
  have J3 := fun (S : Sto) (Q : Va → Sto → Prop) => w_judged n (S := S) (P := Q) (k := (k : Nat)) (okT_ints (S := S) (repI m [a] ++ [z])) (fun vs e => by cases e; rw [List.length_map, List.length_append, rep_len1]; show m + 1 ≤ _; omega)
  rw [w1, w2] at J0
  rw [t1, t2] at J1
  rw [o1, o2] at J2
  rw [z1, z2] at J3
  repeat walk_at "ev"
  refine ⟨by show 2 ≤ sizeLine; omega, ?_⟩
  repeat walk_at "ev"
  refine J0 _ _ fun T1 => ?_
  repeat walk_at "ev"
  refine w_or (fun _ => ?_) (fun z => Bool.noConfusion z)
  repeat walk_at "ev"
  refine ⟨by show 1 ≤ sizeLine; omega, ?_⟩
  repeat walk_at "ev"
  refine b_cat (by rw [List.length_map, rep_len1]; show m + 1 ≤ _; omega) ?_
  repeat walk_at "ev"
  refine J1 _ _ fun T2 => ?_
  repeat walk_at "ev"
  refine ⟨fun z => Bool.noConfusion z, fun _ => ?_⟩
  repeat walk_at "ev"
  refine ix_lst (at_grow (at_grow hr)) atI1 ?_
  repeat walk_at "ev"
  refine ⟨by show 1 ≤ sizeLine; omega, ?_⟩
  repeat walk_at "ev"
  refine b_cat (by rw [List.length_map, rep_len1]; show m + 1 ≤ _; omega) ?_
  repeat walk_at "ev"
  refine J2 _ ((hv.grow T1).grow T2) _ fun T3 => ?_
  repeat walk_at "ev"
  rw [Bool.not_true]
  repeat walk_at "ev"
  refine ix_lst (at_grow (at_grow (at_grow hr))) atI0 ?_
  repeat walk_at "ev"
  refine ⟨by show 1 ≤ sizeLine; omega, ?_⟩
  repeat walk_at "ev"
  refine b_cat1 (by rw [rep_len1]; omega) ?_
  repeat walk_at "ev"
  refine ⟨by show 2 ≤ sizeLine; omega, ?_⟩
  repeat walk_at "ev"
  refine J3 _ _ fun T4 => ?_
  exact q _
end EV

end
section
set_option Elab.async false
set_option linter.all false
set_option maxRecDepth 100000
set_option maxHeartbeats 4000000
namespace EV
open PySem
local macro_rules | `(tactic| walk_at "ev") => `(tactic| with_reducible first
  | refine f_cons ?_ | refine f_nil ?_ | refine f_asg ?_ | refine f_par ?_ | refine f_asgIx ?_ | refine f_expr ?_ | refine f_ret ?_ | refine f_ite ?_ | refine f_for ?_ | refine f_pass ?_ | refine f_brk ?_ | refine f_cont ?_
  | refine w_var (by with_unfolding_all rfl) ?_ | refine w_cI ?_ | refine w_cS ?_ | refine w_cN ?_ | refine w_cB ?_ | refine w_gI ?_ | refine w_bin ?_ | refine w_neg ?_ | refine w_not ?_ | refine w_cmp ?_ | refine w_chn ?_ | refine w_bool ?_ | refine w_bnil ?_ | refine w_if ?_
  | refine w_tup ?_ | refine w_lst ?_ | refine w_dic ?_ | refine w_idx ?_ | refine w_slc ?_ | refine w_bno ?_ | refine w_bso ?_ | refine w_rev ?_ | refine w_call ?_ | refine w_callK ?_ | refine w_bi ?_ | refine w_me ?_ | refine w_ist ?_ | refine w_comp ?_ | refine w_nil ?_ | refine w_cons ?_
  | refine w_seq ?_ | refine w_rng1 ?_ | refine w_rng2 ?_ | refine w_enum ?_ | refine w_zip ?_ | refine w_ono ?_ | refine w_oso ?_
  | refine bi_int ?_ | refine bi_abs ?_ | refine bi_lenT ?_ | refine bi_tupT ?_ | refine b_addI ?_ | refine b_subI ?_ | refine c_eqI ?_ | refine c_neI ?_ | refine c_ltI ?_ | refine c_leI ?_ | refine c_gtI ?_ | refine c_geI ?_ | refine e_bl ?_ | refine e_iI ?_ | refine e_set (by with_unfolding_all rfl) ?_
  | refine pick_t ?_ | refine pick_f ?_ | refine is_int ?_ | refine is_non ?_ | refine is_tup ?_ | refine is_str ?_ | refine isn_int ?_ | refine isn_non ?_ | refine isn_tup ?_ | refine ist_tup ?_ | refine ist_tupS ?_ | refine ist_strS ?_ | refine ist_strT ?_ | refine ist_intI ?_ | refine ist_intB ?_ | refine ist_intT ?_
  | refine w_andT ?_ | refine w_andF ?_ | refine w_orF ?_ | refine w_orT ?_)
theorem ix_lims2 {k r : Nat} (h1 : 1 ≤ k) (h5 : k ≤ 5) {S : Sto} {P : Va → Sto → Prop} (h : S[r]? = some (.lst [.int 1, .int 3, .int 7, .int 15, .int 31])) (q : P (.int ((2 ^ k - 1 : Nat) : Int)) S) : Rw (idxOp (.ref r) (.int ((k : Nat) - 1 : Int)) S) P := by
  match k, h1, h5 with
  | 1, _, _ => exact ix_lst h (L2.atI_nat (j := 0) rfl) q
  | 2, _, _ => exact ix_lst h (L2.atI_nat (j := 1) rfl) q
  | 3, _, _ => exact ix_lst h (L2.atI_nat (j := 2) rfl) q
  | 4, _, _ => exact ix_lst h (L2.atI_nat (j := 3) rfl) q
  | 5, _, _ => exact ix_lst h (L2.atI_nat (j := 4) rfl) q
theorem lims_le {k : Nat} (h1 : 1 ≤ k) (h5 : k ≤ 5) : 1 ≤ 2 ^ k - 1 ∧ 2 ^ k - 1 ≤ 31 := by
  match k, h1, h5 with
  | 1, _, _ => decide
  | 2, _, _ => decide
  | 3, _, _ => decide
  | 4, _, _ => decide
  | 5, _, _ => decide
theorem cls_wd (k : Nat) (bits : Int) : Wd (k : Int) (clsL k bits) := fun x hx => by
  unfold clsL at hx
  obtain ⟨i, hi, rfl⟩ := List.mem_map.mp hx
  have := List.mem_range.mp (List.mem_filter.mp hi).1
  exact ⟨Int.natCast_nonneg i, Int.ofNat_lt.mpr this⟩
theorem cls_len1 {k j : Nat} (h1 : 1 ≤ k) (h5 : k ≤ 5) (hj : j < 2 ^ k - 1) : 1 ≤ (clsL k (1 + (j : Nat) : Int)).length := by
  obtain ⟨k, rfl⟩ : ∃ k', k = k' + 1 := ⟨k - 1, by omega⟩
  have l := lims_le h1 h5
  have f := (cls_facts ⟨k, by omega⟩ ⟨j, by omega⟩ (by show j + 1 ≤ 2 ^ (k + 1) - 1; omega)).2.2.2.2.1
  rw [show (1 + (j : Nat) : Int) = ((j + 1 : Nat) : Int) by omega]
  exact List.length_pos_iff.mpr f
theorem k01_go {ns : List Int} (hl : ns.length ≤ 63) : Rw (run k01_D k01_anc k01_fuel 30 40 [.lis (iV ns)] []) fun v _ => v = .bl true := by
  refine w_run (d := k01_40) rfl rfl ?_
  have es := sizeLine_eq
  refine f_step (fun ρ' S' => ∃ b c, ρ' = [some (.lis (iV ns)), some (.ref b), none, none, none, none, none] ∧ Bag b c S') ?_ ?_
  · repeat walk_at "ev"
    with_reducible refine w_own 28 hl fun b c S' B => ?_
    exact ⟨_, rfl, b, c, rfl, B⟩
  rintro ρ' S1 ⟨b, c, rfl, B1⟩
  refine f_step (fun ρ' S' => ρ' = [some (.lis (iV ns)), some (.ref b), none, none, none, none, none] ∧ Bag b c S') ?_ ?_
  · repeat walk_at "ev"
    with_reducible refine w_classes 24 fun T1 => ?_
    repeat walk_at "ev"
    refine w_or (fun _ => ?_) (fun z => Bool.noConfusion z)
    repeat walk_at "ev"
    with_reducible refine w_lens 23 (B1.grow T1) fun S2 B2 f2 => ?_
    repeat walk_at "ev"
    refine ⟨fun z => Bool.noConfusion z, fun _ => ?_⟩
    repeat walk_at "ev"
    exact ⟨rfl, B2⟩
  rintro ρ' S2 ⟨rfl, B2⟩
  refine f_step (fun ρ' S' => (∃ a2 a3 a4 a5 a6, ρ' = [some (.lis (iV ns)), some (.ref b), a2, a3, a4, a5, a6]) ∧ Bag b c S') ?_ ?_
  · refine f_for ?_
    repeat walk_at "ev"
    refine ⟨by decide, ?_⟩
    refine f_turns (fun i ρ S2 => (∃ a2 a3 a4 a5 a6, ρ = [some (.lis (iV ns)), some (.ref b), a2, a3, a4, a5, a6]) ∧ Bag b c S2) ⟨⟨_, _, _, _, _, rfl⟩, B2⟩ (fun i ρ S2 _ _ => stay_nil) (fun i x ρ S3 hx h => ?_) (fun ρ S2 h => h)
    obtain ⟨hi, rfl⟩ := rng0_get (k := 4) hx
    obtain ⟨⟨a2, a3, a4, a5, a6, rfl⟩, B3⟩ := h
    refine ⟨_, rfl, ?_⟩
    refine f_step (fun ρ' S' => ∃ k : Nat, 1 ≤ k ∧ k ≤ 5 ∧ ρ' = [some (.lis (iV ns)), some (.ref b), some (.int (i : Nat)), some (.int (k : Nat)), a4, a5, a6] ∧ Bag b c S') ?_ ?_
    · repeat walk_at "ev"
      with_reducible refine w_draw 28 (by decide) (by decide) B3 fun d S4 d1 d2 B4 f4 => ?_
      obtain ⟨d, rfl⟩ := Int.eq_ofNat_of_zero_le d1
      repeat walk_at "ev"
      with_reducible refine b_mod (by decide) ?_
      repeat walk_at "ev"
      refine ⟨1 + (i + d) % 5, by omega, by omega, ?_, B4⟩
      rw [show ((i : Nat) : Int) + (d : Nat) = ((i + d : Nat) : Int) by omega, Int.fmod_eq_emod_of_nonneg _ (by decide)]
      rw [show (1 : Int) + ((i + d : Nat) : Int) % 5 = ((1 + (i + d) % 5 : Nat) : Int) by omega]
      rfl
    rintro ρ' S4 ⟨k, hk, hk5, rfl, B4⟩
    refine f_step (fun ρ' S' => ∃ own, Wd (k : Int) own ∧ 1 ≤ own.length ∧ own.length ≤ 24 ∧ ρ' = [some (.lis (iV ns)), some (.ref b), some (.int (i : Nat)), some (.int (k : Nat)), some (.tup (iV own)), a5, a6] ∧ Bag b c S') ?_ ?_
    · repeat walk_at "ev"
      refine w_newL (by show 5 ≤ sizeLine; omega) ?_
      repeat walk_at "ev"
      refine ix_lims2 hk hk5 at_end ?_
      have ll := lims_le hk hk5
      repeat walk_at "ev"
      with_reducible refine w_draw 28 (below := ((2 ^ k - 1 : Nat) : Int)) (by omega) (by omega) (B4.grow _) fun j S5 j1 j2 B5 f5 => ?_
      obtain ⟨j, rfl⟩ := Int.eq_ofNat_of_zero_le j1
      repeat walk_at "ev"
      with_reducible refine w_cls 28 hk5 fun T => ?_
      refine ⟨_, rfl, clsL k (1 + (j : Nat)), cls_wd k _, cls_len1 hk hk5 (by omega), ?_, rfl, B5.grow T⟩
      unfold clsL
      rw [List.length_map]
      exact Nat.le_trans (List.length_filter_le _ _) (by rw [List.length_range]; omega)
    rintro ρ' S5 ⟨own, hw, hw1, hw2, rfl, B5⟩
    repeat walk_at "ev"
    with_reducible refine w_draw 28 (by decide) (by decide) B5 fun m S6 m1 m2 B6 f6 => ?_
    obtain ⟨m, rfl⟩ := Int.eq_ofNat_of_zero_le m1
    repeat walk_at "ev"
    rw [show (1 + (m : Nat) : Int) = ((1 + m : Nat) : Int) by omega]
    with_reducible refine w_word 27 (k := (k : Nat)) (m := 1 + m) (by omega) (by omega) (by omega) B6 fun xs S7 l7 h7 B7 f7 => ?_
    repeat walk_at "ev"
    with_reducible refine w_spoilt 25 hk hk5 h7 (by omega) (by omega) B7 fun r S8 items hr hj B8 f8 _ _ => ?_
    repeat walk_at "ev"
    with_reducible refine w_judges 24 hr hj fun T9 => ?_
    repeat walk_at "ev"
    refine w_or (fun _ => ?_) (fun z => Bool.noConfusion z)
    repeat walk_at "ev"
    with_reducible refine w_spoilt 25 hk hk5 hw hw1 hw2 (B8.grow T9) fun r S10 items hr hj B10 f10 _ _ => ?_
    repeat walk_at "ev"
    with_reducible refine w_judges 24 hr hj fun T11 => ?_
    repeat walk_at "ev"
    refine ⟨fun z => Bool.noConfusion z, fun _ => ?_⟩
    repeat walk_at "ev"
    exact ⟨⟨_, _, _, _, _, rfl⟩, B10.grow T11⟩
  rintro ρ' S3 ⟨⟨a2, a3, a4, a5, a6, rfl⟩, B3⟩
  refine f_step (fun ρ' S' => (∃ a2 a3 a4 a5 a6, ρ' = [some (.lis (iV ns)), some (.ref b), a2, a3, a4, a5, a6]) ∧ Bag b c S') ?_ ?_
  · refine f_for ?_
    repeat walk_at "ev"
    refine ⟨by decide, ?_⟩
    refine f_turns (fun i ρ S2 => (∃ a2 a3 a4 a5 a6, ρ = [some (.lis (iV ns)), some (.ref b), a2, a3, a4, a5, a6]) ∧ Bag b c S2) ⟨⟨_, _, _, _, _, rfl⟩, B3⟩ (fun i ρ S2 _ _ => stay_nil) (fun i x ρ S4 hx h => ?_) (fun ρ S2 h => h)
    obtain ⟨hi, rfl⟩ := rng0_get (k := 6) hx
    obtain ⟨⟨a2, a3, a4, a5, a6, rfl⟩, B4⟩ := h
    refine ⟨_, rfl, ?_⟩
    repeat walk_at "ev"
    with_reducible refine w_draw 28 (by decide) (by decide) B4 fun d S5 d1 d2 B5 f5 => ?_
    obtain ⟨d, rfl⟩ := Int.eq_ofNat_of_zero_le d1
    repeat walk_at "ev"
    rw [show (1 + (d : Nat) : Int) = ((1 + d : Nat) : Int) by omega]
    have hk : 1 ≤ 1 + d := by omega
    have hk5 : 1 + d ≤ 5 := by omega
    generalize 1 + d = k at hk hk5 ⊢
    repeat walk_at "ev"
    with_reducible refine w_size 27 hi B5 fun m S6 hm B6 f6 => ?_
    repeat walk_at "ev"
    with_reducible refine w_word 27 (k := (k : Nat)) (m := m) (by omega) (by omega) hm B6 fun xs S7 l7 h7 B7 f7 => ?_
    have lx : xs.length ≤ 600 := by omega
    repeat walk_at "ev"
    with_reducible refine w_runsr 26 hk hk5 lx h7 B7 fun S8 B8 f8 => ?_
    repeat walk_at "ev"
    refine w_or (fun _ => ?_) (fun z => Bool.noConfusion z)
    repeat walk_at "ev"
    with_reducible refine w_endsr 25 (k := (k : Nat)) (by omega) (by omega) lx B8 fun S9 B9 f9 => ?_
    repeat walk_at "ev"
    refine ⟨fun z => Bool.noConfusion z, fun _ => ?_⟩
    repeat walk_at "ev"
    with_reducible refine w_partsr 26 (k := (k : Nat)) (by omega) (by omega) lx B9 fun S10 B10 f10 => ?_
    repeat walk_at "ev"
    rw [Bool.not_true]
    repeat walk_at "ev"
    exact ⟨⟨_, _, _, _, _, rfl⟩, B10⟩
  rintro ρ' S4 ⟨⟨a2, a3, a4, a5, a6, rfl⟩, B4⟩
  repeat walk_at "ev"
  with_reducible refine w_draw 28 (by decide) (by decide) B4 fun d S5 d1 d2 B5 f5 => ?_
  repeat walk_at "ev"
  refine ⟨fun _ => ?_, fun _ => ?_⟩
  · repeat walk_at "ev"
    with_reducible refine w_greats 24 B5 fun S6 => ?_
    rfl
  · repeat walk_at "ev"
    rfl
theorem k01_law : ∀ ns : List Int, ns.length ≤ 63 → (∀ z ∈ ns, Builtin.Int.intBits z ≤ 1048576) → ∃ S', run k01_D k01_anc k01_fuel 30 40 [.lis (ns.map .int)] [] = .ok (.bl true) S' := fun ns hl _ => by
  obtain ⟨v, S', e, h⟩ := (k01_go hl).get
  exact ⟨S', by rw [e, h]⟩
end EV

end
section
set_option Elab.async false
set_option linter.all false
set_option maxRecDepth 100000
set_option maxHeartbeats 16000000
namespace EV
open PySem PySem.Spec PyProof.Rows L2
theorem k01_fin {K : PySem.W.Frag} {mg : Str → Option Value} {fa : Addr} {h : Heap} (X : K.In h) (G : h.Ns mainGlobals mg) (hfa : mg "law" = some (.ref fa)) (I : k01_In K) (B : ∀ x ∈ bltNames, PySem.W.nsIn K mainGlobals x = some none) {g0 : Value} (q0 : PySem.W.nsIn K mainGlobals "MAX_WORD" = some (some g0)) (r0 : RelV (Cst.v (.int 24)) g0) :
    Stood k01_D k01_glo k01_fns k01_tp K mg ∧ ∃ fd : FuncData, (∀ (s : Shared) (u : Value), BindsTo s fd ⟨[u], []⟩ [("script", u)]) ∧ L2.Fun K k01_40.nm k01_40.nm (k01_tp 40) fa fd := by
  refine ⟨k01_stood X G I B fun x c hx => ?_, ?_⟩
  · rcases List.mem_cons.mp hx with e | hx
    · cases e; exact ⟨_, q0, r0⟩
    exact absurd hx List.not_mem_nil
  · obtain ⟨f, fd, h1, h2, kV, doc, pm, an, cdv, ct, rfl⟩ := I.f40.ex
    have e := hfa.symm.trans (PySem.W.mg_of X G h1)
    cases e
    exact ⟨_, fun s u => .of_eq rfl, h2⟩
end EV
open PySem PySem.W PyProof.Rows
set_option maxHeartbeats 0 in
theorem PySem.Challenge.cw_lettersides_k01_whole_runs_of_words_holds : PySem.Challenge.rw_lettersides_k01_whole_runs_of_words.Holds := by
  w_on; o_law; k_head; (case hw => w_witness2)
  k_fill
  refine EV.walk_ofG (l := PySem.Challenge.rw_lettersides_k01_whole_runs_of_words) (m := 63) (n := 30) (x := "script") (T := EV.ctNone) (D := EV.k01_D) (glo := EV.k01_glo) (fns := EV.k01_fns) (tp := EV.k01_tp) (anc := EV.k01_anc) (fuel := EV.k01_fuel) (i := 40) (dl := EV.k01_40) rfl (by decide) rfl ⟨rfl, by decide, by decide⟩ (fun w h Y => PySem.W.kIn_of Y) EV.k01_text rfl rfl ?F EV.k01_law
  case F =>
    intro w mg fa h KX G hmg
    refine' EV.k01_fin KX G hmg ⟨EV.fnIn_mk ?a0 ?l0 ?c0 ?k0, EV.fnIn_mk ?a1 ?l1 ?c1 ?k1, EV.fnIn_mk ?a2 ?l2 ?c2 ?k2, EV.fnIn_mk ?a3 ?l3 ?c3 ?k3, EV.fnIn_mk ?a4 ?l4 ?c4 ?k4, EV.fnIn_mk ?a5 ?l5 ?c5 ?k5, EV.fnIn_mk ?a6 ?l6 ?c6 ?k6, EV.fnIn_mk ?a7 ?l7 ?c7 ?k7, EV.fnIn_mk ?a8 ?l8 ?c8 ?k8, EV.fnIn_mk ?a9 ?l9 ?c9 ?k9, EV.fnIn_mk ?a10 ?l10 ?c10 ?k10, EV.fnIn_mk ?a11 ?l11 ?c11 ?k11, EV.fnIn_mk ?a12 ?l12 ?c12 ?k12, EV.fnIn_mk ?a13 ?l13 ?c13 ?k13, EV.fnIn_mk ?a14 ?l14 ?c14 ?k14, EV.fnIn_mk ?a15 ?l15 ?c15 ?k15, EV.fnIn_mk ?a16 ?l16 ?c16 ?k16, EV.fnIn_mk ?a17 ?l17 ?c17 ?k17, EV.fnIn_mk ?a18 ?l18 ?c18 ?k18, EV.fnIn_mk ?a19 ?l19 ?c19 ?k19, EV.fnIn_mk ?a20 ?l20 ?c20 ?k20, EV.fnIn_mk ?a21 ?l21 ?c21 ?k21, EV.fnIn_mk ?a22 ?l22 ?c22 ?k22, EV.fnIn_mk ?a23 ?l23 ?c23 ?k23, EV.fnIn_mk ?a24 ?l24 ?c24 ?k24, EV.fnIn_mk ?a25 ?l25 ?c25 ?k25, EV.fnIn_mk ?a26 ?l26 ?c26 ?k26, EV.fnIn_mk ?a27 ?l27 ?c27 ?k27, EV.fnIn_mk ?a28 ?l28 ?c28 ?k28, EV.fnIn_mk ?a29 ?l29 ?c29 ?k29, EV.fnIn_mk ?a30 ?l30 ?c30 ?k30, EV.fnIn_mk ?a31 ?l31 ?c31 ?k31, EV.fnIn_mk ?a32 ?l32 ?c32 ?k32, EV.fnIn_mk ?a33 ?l33 ?c33 ?k33, EV.fnIn_mk ?a34 ?l34 ?c34 ?k34, EV.fnIn_mk ?a35 ?l35 ?c35 ?k35, EV.fnIn_mk ?a36 ?l36 ?c36 ?k36, EV.fnIn_mk ?a37 ?l37 ?c37 ?k37, EV.fnIn_mk ?a38 ?l38 ?c38 ?k38, EV.fnIn_mk ?a39 ?l39 ?c39 ?k39, EV.fnIn_mk ?a40 ?l40 ?c40 ?k40⟩ (EV.blt_of ?z0 ?z1 ?z2 ?z3 ?z4 ?z5 ?z6 ?z7 ?z8 ?z9 ?z10 ?z11 ?z12 ?z13 ?z14 ?z15 ?z16 ?z17 ?z18) ?q0 ?r0
    (case a0 => k_is); (case l0 => k_is); (case c0 => k_is); (case k0 => k_is)
    (case a1 => k_is); (case l1 => k_is); (case c1 => k_is); (case k1 => k_is)
    (case a2 => k_is); (case l2 => k_is); (case c2 => k_is); (case k2 => k_is)
    (case a3 => k_is); (case l3 => k_is); (case c3 => k_is); (case k3 => k_is)
    (case a4 => k_is); (case l4 => k_is); (case c4 => k_is); (case k4 => k_is)
    (case a5 => k_is); (case l5 => k_is); (case c5 => k_is); (case k5 => k_is)
    (case a6 => k_is); (case l6 => k_is); (case c6 => k_is); (case k6 => k_is)
    (case a7 => k_is); (case l7 => k_is); (case c7 => k_is); (case k7 => k_is)
    (case a8 => k_is); (case l8 => k_is); (case c8 => k_is); (case k8 => k_is)
    (case a9 => k_is); (case l9 => k_is); (case c9 => k_is); (case k9 => k_is)
    (case a10 => k_is); (case l10 => k_is); (case c10 => k_is); (case k10 => k_is)
    (case a11 => k_is); (case l11 => k_is); (case c11 => k_is); (case k11 => k_is)
    (case a12 => k_is); (case l12 => k_is); (case c12 => k_is); (case k12 => k_is)
    (case a13 => k_is); (case l13 => k_is); (case c13 => k_is); (case k13 => k_is)
    (case a14 => k_is); (case l14 => k_is); (case c14 => k_is); (case k14 => k_is)
    (case a15 => k_is); (case l15 => k_is); (case c15 => k_is); (case k15 => k_is)
    (case a16 => k_is); (case l16 => k_is); (case c16 => k_is); (case k16 => k_is)
    (case a17 => k_is); (case l17 => k_is); (case c17 => k_is); (case k17 => k_is)
    (case a18 => k_is); (case l18 => k_is); (case c18 => k_is); (case k18 => k_is)
    (case a19 => k_is); (case l19 => k_is); (case c19 => k_is); (case k19 => k_is)
    (case a20 => k_is); (case l20 => k_is); (case c20 => k_is); (case k20 => k_is)
    (case a21 => k_is); (case l21 => k_is); (case c21 => k_is); (case k21 => k_is)
    (case a22 => k_is); (case l22 => k_is); (case c22 => k_is); (case k22 => k_is)
    (case a23 => k_is); (case l23 => k_is); (case c23 => k_is); (case k23 => k_is)
    (case a24 => k_is); (case l24 => k_is); (case c24 => k_is); (case k24 => k_is)
    (case a25 => k_is); (case l25 => k_is); (case c25 => k_is); (case k25 => k_is)
    (case a26 => k_is); (case l26 => k_is); (case c26 => k_is); (case k26 => k_is)
    (case a27 => k_is); (case l27 => k_is); (case c27 => k_is); (case k27 => k_is)
    (case a28 => k_is); (case l28 => k_is); (case c28 => k_is); (case k28 => k_is)
    (case a29 => k_is); (case l29 => k_is); (case c29 => k_is); (case k29 => k_is)
    (case a30 => k_is); (case l30 => k_is); (case c30 => k_is); (case k30 => k_is)
    (case a31 => k_is); (case l31 => k_is); (case c31 => k_is); (case k31 => k_is)
    (case a32 => k_is); (case l32 => k_is); (case c32 => k_is); (case k32 => k_is)
    (case a33 => k_is); (case l33 => k_is); (case c33 => k_is); (case k33 => k_is)
    (case a34 => k_is); (case l34 => k_is); (case c34 => k_is); (case k34 => k_is)
    (case a35 => k_is); (case l35 => k_is); (case c35 => k_is); (case k35 => k_is)
    (case a36 => k_is); (case l36 => k_is); (case c36 => k_is); (case k36 => k_is)
    (case a37 => k_is); (case l37 => k_is); (case c37 => k_is); (case k37 => k_is)
    (case a38 => k_is); (case l38 => k_is); (case c38 => k_is); (case k38 => k_is)
    (case a39 => k_is); (case l39 => k_is); (case c39 => k_is); (case k39 => k_is)
    (case a40 => k_is); (case l40 => k_is); (case c40 => k_is); (case k40 => k_is)
    (case z0 => k_is); (case z1 => k_is); (case z2 => k_is); (case z3 => k_is); (case z4 => k_is); (case z5 => k_is); (case z6 => k_is); (case z7 => k_is); (case z8 => k_is); (case z9 => k_is); (case z10 => k_is); (case z11 => k_is); (case z12 => k_is); (case z13 => k_is); (case z14 => k_is); (case z15 => k_is); (case z16 => k_is); (case z17 => k_is); (case z18 => k_is)
    (case q0 => k_is); (case r0 => first | exact ⟨_, rfl⟩ | rfl)

end
