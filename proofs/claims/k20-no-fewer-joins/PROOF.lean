import PyProof.Rows.All
import Wide.All
import OpenK.AllK
import Wide.FinOn
import HandS.ForMost
import HandS.Conv
import HandS.TupAny
import HandS.IsInst
import HandS.Flow
import HandS.Style
import HandS.Flt
import PySem.Challenge.RW_leadersplice_k20_whole_no_fewer_joins
set_option Elab.async false
set_option linter.all false
set_option maxRecDepth 100000
set_option maxHeartbeats 2000000
/-! A small functional reading of the part of Python that the program uses: values D, cells, results R; each construct a function. -/
namespace Py
open PySem PySem.Spec L2

/-! ### values, cells, results -/
inductive D where
  | non | bl (b : Bool) | int (i : Int) | str (x : Str) | tup (ds : List D) | frl (ds : List D) | ref (n : Nat)
  deriving Inhabited
mutual
def D.eqb : D → D → Bool
  | .non, .non => true
  | .bl a, .bl b => a == b
  | .int a, .int b => a == b
  | .str a, .str b => a == b
  | .tup a, .tup b => D.eqbs a b
  | .frl a, .frl b => D.eqbs a b
  | .ref a, .ref b => a == b
  | _, _ => false
def D.eqbs : List D → List D → Bool
  | [], [] => true
  | x :: xs, y :: ys => D.eqb x y && D.eqbs xs ys
  | _, _ => false
end
mutual
theorem D.eqb_iff : ∀ a b : D, D.eqb a b = true ↔ a = b
  | a, b => by
    cases a <;> cases b <;> try (simp [D.eqb]; done)
    all_goals
      rename_i xs ys
      rw [D.eqb, D.eqbs_iff xs ys]
      constructor
      · rintro rfl; rfl
      · intro h; injection h
theorem D.eqbs_iff : ∀ a b : List D, D.eqbs a b = true ↔ a = b
  | [], [] => by simp [D.eqbs]
  | [], _ :: _ => by simp [D.eqbs]
  | _ :: _, [] => by simp [D.eqbs]
  | x :: xs, y :: ys => by
    rw [D.eqbs, Bool.and_eq_true, D.eqb_iff x y, D.eqbs_iff xs ys]
    constructor
    · rintro ⟨rfl, rfl⟩; rfl
    · intro h; injection h with h1 h2; exact ⟨h1, h2⟩
end
instance : DecidableEq D := fun a b => if h : D.eqb a b = true then .isTrue ((D.eqb_iff a b).mp h) else .isFalse fun e => h ((D.eqb_iff a b).mpr e)

inductive Cell where
  | lst (ds : List D) | dic (kvs : List (Key × D)) | ins (c : Str) (fs : List (Str × D))
abbrev Hs := List Cell
/-- an error: its class's name, its fields -/
structure Xc where
  c : Str
  fs : List (Str × D)
inductive R (α : Type) where
  | ok (a : α) (S : Hs) | exc (e : Xc) (S : Hs) | bad
def R.bind {α β : Type} (r : R α) (k : α → Hs → R β) : R β :=
  match r with
  | .ok a S => k a S
  | .exc e S => .exc e S
  | .bad => .bad
@[simp] theorem R.bind_ok {α β : Type} (a : α) (S : Hs) (k : α → Hs → R β) : (R.ok a S).bind k = k a S := rfl
@[simp] theorem R.bind_exc {α β : Type} (e : Xc) (S : Hs) (k : α → Hs → R β) : (R.exc e S : R α).bind k = .exc e S := rfl
@[simp] theorem R.bind_bad {α β : Type} (k : α → Hs → R β) : (R.bad : R α).bind k = .bad := rfl
abbrev Ev := List (Option D)
abbrev DE := Ev → Hs → R D
abbrev DT := Ev → Hs → R Bool
abbrev DA := Ev → Hs → R (List D)
abbrev Fn := List D → Hs → R D
inductive Fl where
  | nx (τ : Ev) | rt (v : D) | bk (τ : Ev) | ct (τ : Ev) | ex (τ : Ev) (e : Xc)
abbrev DS := Ev → Hs → R Fl
abbrev DG := D → Ev → Hs → R Ev
/-- what a loop goes along: the items, and the list that must stay as it is meanwhile -/
abbrev DI := Ev → Hs → R (List D × List (Nat × List D))

/-! ### what values are -/
def lstOf (S : Hs) : D → Option (List D)
  | .ref n => match S[n]? with
    | some (.lst ds) => some ds
    | _ => none
  | .frl ds => some ds
  | _ => none
def seqOf (S : Hs) : D → Option (List D)
  | .ref n => lstOf S (.ref n)
  | .frl ds => some ds
  | .tup ds => some ds
  | _ => none
def wrOf (S : Hs) : D → Option (Nat × List D)
  | .ref n => match S[n]? with
    | some (.lst ds) => some (n, ds)
    | _ => none
  | _ => none
def dicOf (S : Hs) : D → Option (Nat × List (Key × D))
  | .ref n => match S[n]? with
    | some (.dic kvs) => some (n, kvs)
    | _ => none
  | _ => none
def keyOf : D → Option Key
  | .int i => some (.inl i)
  | .str x => some (.inr x)
  | _ => none
def look {α β : Type} [DecidableEq α] : List (α × β) → α → Option β
  | [], _ => none
  | (a, b) :: r, k => if a = k then some b else look r k
def putD {α β : Type} [DecidableEq α] (kvs : List (α × β)) (k : α) (v : β) : List (α × β) :=
  if (kvs.any fun kv => decide (kv.1 = k)) = true then kvs.map (fun kv => if kv.1 = k then (kv.1, v) else kv) else kvs ++ [(k, v)]
def allSome {α : Type} : List (Option α) → Option (List α)
  | [] => some []
  | none :: _ => none
  | some x :: r => match allSome r with
    | some xs => some (x :: xs)
    | none => none
/-- a value as data, lists and tuples gone into -/
def pd : Nat → Hs → D → Option PyData
  | _, _, .non => some .none
  | _, _, .bl b => some (.bool b)
  | _, _, .int i => some (.int i)
  | _, _, .str x => if PyData.strOk x = true then some (.str x) else none
  | n + 1, S, .tup ds => (allSome (ds.map (pd n S))).map .tuple
  | n + 1, S, .frl ds => (allSome (ds.map (pd n S))).map .list
  | n + 1, S, .ref r => match lstOf S (.ref r) with
    | some ds => (allSome (ds.map (pd n S))).map .list
    | none => none
  | 0, _, .tup _ => none
  | 0, _, .frl _ => none
  | 0, _, .ref _ => none
def flatD : D → Bool
  | .non => true
  | .bl _ => true
  | .int _ => true
  | .str _ => true
  | _ => false
def eqD : D → D → Bool
  | .non, .non => true
  | .bl a, .bl b => a == b
  | .bl a, .int b => (if a then 1 else 0) == b
  | .int a, .bl b => a == (if b then 1 else 0)
  | .int a, .int b => a == b
  | .str a, .str b => a == b
  | _, _ => false
def intsOf : List D → Option (List Int)
  | [] => some []
  | .int i :: r => (intsOf r).map (i :: ·)
  | _ => none
def blsOf : List D → Option (List Bool)
  | [] => some []
  | .bl i :: r => (blsOf r).map (i :: ·)
  | _ => none
def strsOf : List D → Option (List Str)
  | [] => some []
  | .str i :: r => (strsOf r).map (i :: ·)
  | _ => none
def cutD {α : Type} (xs : List α) (lo hi : Option Int) : List α := (xs.drop (HT.sIx xs.length 0 lo)).take (HT.sIx xs.length xs.length hi - HT.sIx xs.length 0 lo)
def newL (S : Hs) (ds : List D) : R D := .ok (.ref S.length) (S ++ [.lst ds])

/-! ### operators -/
abbrev O2 := D → D → Hs → R D
def opAdd : O2 := fun x y S => match x, y with
  | .int i, .int j => .ok (.int (i + j)) S
  | .str i, .str j => if i.length + j.length ≤ sizeLine then .ok (.str (i ++ j)) S else .bad
  | .tup a, .tup b => if a.length + b.length ≤ sizeLine then .ok (.tup (a ++ b)) S else .bad
  | .ref a, .ref b => match wrOf S (.ref a), wrOf S (.ref b) with
    | some (_, xs), some (_, ys) => if xs.length + ys.length ≤ sizeLine then newL S (xs ++ ys) else .bad
    | _, _ => .bad
  | _, _ => .bad
/-- x += y -/
def opIAdd : O2 := fun x y S => match x, y with
  | .int i, .int j => .ok (.int (i + j)) S
  | .str i, .str j => if i.length + j.length ≤ sizeLine then .ok (.str (i ++ j)) S else .bad
  | _, _ => .bad
def opSub : O2 := fun x y S => match x, y with
  | .int i, .int j => .ok (.int (i - j)) S
  | _, _ => .bad
def opMul : O2 := fun x y S => match x, y with
  | .int i, .int j => if (-(2 ^ 64) < i ∧ i < 2 ^ 64) ∨ (-(2 ^ 64) < j ∧ j < 2 ^ 64) then .ok (.int (i * j)) S else .bad
  | .ref a, .int k => match wrOf S (.ref a) with
    | some (_, xs) => if -(2 ^ 63) ≤ k ∧ k < 2 ^ 63 ∧ xs.length * k.toNat ≤ sizeLine then newL S (List.replicate k.toNat xs).flatten else .bad
    | none => .bad
  | _, _ => .bad
def opDiv : O2 := fun x y S => match x, y with
  | .int i, .int j => if 0 < j ∧ j < 1073741824 then .ok (.int (i / j)) S else .bad
  | _, _ => .bad
def opMod : O2 := fun x y S => match x, y with
  | .int i, .int j => if 0 < j then .ok (.int (i % j)) S else .bad
  | _, _ => .bad
def opPow : O2 := fun x y S => match x, y with
  | .int i, .int j => if 0 ≤ j ∧ j ≤ 1000000 ∧ i.natAbs < 2 ^ 64 then .ok (.int (i ^ j.toNat)) S else .bad
  | _, _ => .bad
def opNeg : D → Hs → R D := fun x S => match x with
  | .int i => .ok (.int (-i)) S
  | _ => .bad
def opEq : O2 := fun x y S => match x, y with
  | .int i, .int j => .ok (.bl (decide (i = j))) S
  | .str i, .str j => .ok (.bl (decide (i = j))) S
  | x, y => match pd 12 S x, pd 12 S y with
    | some a, some b => .ok (.bl (PyData.eqv a b)) S
    | _, _ => .bad
def opNe : O2 := fun x y S => match x, y with
  | .int i, .int j => .ok (.bl (!decide (i = j))) S
  | .str i, .str j => .ok (.bl (!decide (i = j))) S
  | x, y => match pd 12 S x, pd 12 S y with
    | some a, some b => .ok (.bl (!PyData.eqv a b)) S
    | _, _ => .bad
def opLt : O2 := fun x y S => match x, y with
  | .int i, .int j => .ok (.bl (decide (i < j))) S
  | _, _ => .bad
def opLe : O2 := fun x y S => match x, y with
  | .int i, .int j => .ok (.bl (decide (i ≤ j))) S
  | _, _ => .bad
def opGt : O2 := fun x y S => match x, y with
  | .int i, .int j => .ok (.bl (decide (j < i))) S
  | _, _ => .bad
def opGe : O2 := fun x y S => match x, y with
  | .int i, .int j => .ok (.bl (decide (j ≤ i))) S
  | _, _ => .bad
def isNon : D → Bool
  | .non => true
  | _ => false
def opIs : O2 := fun x y S => match y with
  | .non => .ok (.bl (isNon x)) S
  | _ => .bad
def opIsN : O2 := fun x y S => match y with
  | .non => .ok (.bl (!isNon x)) S
  | _ => .bad
def inD (x y : D) (S : Hs) : Option Bool := match dicOf S y with
    | some (_, kvs) => (keyOf x).map fun k => (look kvs k).isSome
    | none => match seqOf S y with
      | some ds => if flatD x = true ∧ ds.all flatD = true then some (ds.any fun y => eqD y x) else none
      | none => none
def inOf (x y : D) (S : Hs) : Option Bool := match y with
  | .str j => match x with
    | .str i => some (!(Builtin.Str.occurrences j i 0 j.length 1).isEmpty)
    | _ => none
  | y => inD x y S
def opIn : O2 := fun x y S => match inOf x y S with
  | some b => .ok (.bl b) S
  | none => .bad
def opNi : O2 := fun x y S => match inOf x y S with
  | some b => .ok (.bl (!b)) S
  | none => .bad
/-- x[y] -/
def ixD (x y : D) (S : Hs) : R D := match dicOf S x with
    | some (_, kvs) => match keyOf y with
      | some k => match look kvs k with
        | some v => .ok v S
        | none => .bad
      | none => .bad
    | none => match seqOf S x with
      | some ds => match y with
        | .int i => match atI ds i with
          | some d => .ok d S
          | none => .bad
        | _ => .bad
      | none => .bad
def opIx : O2 := fun x y S => match x with
  | .str z => match y with
    | .int i => if z.length ≤ sizeLine then match atI z.cps.toList i with
      | some c => .ok (.str ⟨#[c]⟩) S
      | none => .bad
      else .bad
    | _ => .bad
  | x => ixD x y S
/-- x[lo:hi] -/
def opSl (x : D) (lo hi : Option Int) (S : Hs) : R D := match x with
  | .str z => if z.length ≤ sizeLine then .ok (.str (cutS z lo hi)) S else .bad
  | .tup ds => .ok (.tup (cutD ds lo hi)) S
  | .frl ds => newL S (cutD ds lo hi)
  | .ref n => match lstOf S (.ref n) with
    | some ds => newL S (cutD ds lo hi)
    | none => .bad
  | _ => .bad
def truD (S : Hs) : D → Option Bool
  | .non => some false
  | .bl b => some b
  | .int i => some (i != 0)
  | .str x => if x.length ≤ sizeLine then some ((x.length : Int) != 0) else none
  | .tup ds => some (!ds.isEmpty)
  | .frl ds => some (!ds.isEmpty)
  | .ref n => match lstOf S (.ref n) with
    | some ds => some (!ds.isEmpty)
    | none => match dicOf S (.ref n) with
      | some (_, kvs) => some (!kvs.isEmpty)
      | none => none

/-! ### built-ins -/
def lenD (S : Hs) : D → Option Int
  | .str x => if x.length ≤ sizeLine then some x.length else none
  | x => match seqOf S x with
    | some ds => some ds.length
    | none => match dicOf S x with
      | some (_, kvs) => some kvs.length
      | none => none
def fLen : Fn := fun xs S => match xs with
  | [x] => match lenD S x with
    | some n => .ok (.int n) S
    | none => .bad
  | _ => .bad
def fAbs : Fn := fun xs S => match xs with
  | [.int i] => .ok (.int (if i < 0 then -i else i)) S
  | _ => .bad
def fMax : Fn := fun xs S => match xs with
  | [.int i, .int j] => .ok (.int (if j > i then j else i)) S
  | [.int i, .int j, .int k] => .ok (.int (max (max i j) k)) S
  | _ => .bad
def fMin : Fn := fun xs S => match xs with
  | [.int i, .int j] => .ok (.int (if j < i then j else i)) S
  | [.int i, .int j, .int k] => .ok (.int (min (min i j) k)) S
  | _ => .bad
def fInt : Fn := fun xs S => match xs with
  | [.int i] => .ok (.int i) S
  | [.bl k] => .ok (.int (if k then 1 else 0)) S
  | [.str a] => match PySem.intText? a with
    | some n => if a.length ≤ 640 then .ok (.int n) S else .bad
    | none => .bad
  | _ => .bad
def fStr : Fn := fun xs S => match xs with
  | [.int i] => if i.natAbs.log2 < 1920 then .ok (.str (toString i)) S else .bad
  | _ => .bad
def fList : Fn := fun xs S => match xs with
  | [x] => match seqOf S x with
    | some ds => newL S ds
    | none => .bad
  | _ => .bad
def fTuple : Fn := fun xs S => match xs with
  | [x] => match seqOf S x with
    | some ds => .ok (.tup ds) S
    | none => .bad
  | _ => .bad
def fSum : Fn := fun xs S => match xs with
  | [x] => match lstOf S x with
    | some ds => match intsOf ds with
      | some ns => .ok (.int ns.sum) S
      | none => .bad
    | none => .bad
  | _ => .bad
def fAll : Fn := fun xs S => match xs with
  | [x] => match lstOf S x with
    | some ds => match blsOf ds with
      | some ns => .ok (.bl (ns.all id)) S
      | none => .bad
    | none => .bad
  | _ => .bad
def fAny : Fn := fun xs S => match xs with
  | [x] => match lstOf S x with
    | some ds => match blsOf ds with
      | some ns => .ok (.bl (ns.any id)) S
      | none => .bad
    | none => .bad
  | _ => .bad
/-- the name of a value's class -/
def tyD (S : Hs) : D → Option String
  | .non => some "NoneType"
  | .bl _ => some "bool"
  | .int _ => some "int"
  | .str _ => some "str"
  | .tup _ => some "tuple"
  | .frl _ => some "list"
  | .ref n => match S[n]? with
    | some (.lst _) => some "list"
    | some (.dic _) => some "dict"
    | _ => none
def opIsi (T : String) : D → Hs → R D := fun x S => match tyD S x with
  | some t => match kitB t T with
    | some b => .ok (.bl b) S
    | none => .bad
  | none => .bad

/-! ### methods of built-in types: the receiver first -/
def mAppend : D → List D → Hs → R D := fun x vs S => match vs with
  | [v] => match wrOf S x with
    | some (n, ds) => if ds.length < sizeLine then .ok .non (S.set n (.lst (ds ++ [v]))) else .bad
    | none => .bad
  | _ => .bad
def mExtend : D → List D → Hs → R D := fun x vs S => match vs with
  | [v] => match wrOf S x, wrOf S v with
    | some (n, ds), some (_, es) => if ds.length + es.length ≤ sizeLine then .ok .non (S.set n (.lst (ds ++ es))) else .bad
    | _, _ => .bad
  | _ => .bad
def mPop : D → List D → Hs → R D := fun x vs S => match vs with
  | [] => match wrOf S x with
    | some (n, ds) => match ds[ds.length - 1]? with
      | some y => .ok y (S.set n (.lst ds.dropLast))
      | none => .bad
    | none => .bad
  | _ => .bad
def mClear : D → List D → Hs → R D := fun x vs S => match vs with
  | [] => match wrOf S x with
    | some (n, _) => .ok .non (S.set n (.lst []))
    | none => .bad
  | _ => .bad
def mReverse : D → List D → Hs → R D := fun x vs S => match vs with
  | [] => match wrOf S x with
    | some (n, ds) => .ok .non (S.set n (.lst ds.reverse))
    | none => .bad
  | _ => .bad
def mJoin : D → List D → Hs → R D := fun x vs S => match x, vs with
  | .str a, [v] => match seqOf S v with
    | some ds => match strsOf ds with
      | some ys => if (ys.map (·.length)).sum + ys.length * a.length ≤ 16777216 then .ok (.str (Txt.join a ys)) S else .bad
      | none => .bad
    | none => .bad
  | _, _ => .bad
def mSplit : D → List D → Hs → R D := fun x vs S => match x, vs with
  | .str a, [.str b] => if (b.length == 0) = false ∧ a.length + 2 ≤ sizeLine then newL S ((Txt.split a b).map .str) else .bad
  | _, _ => .bad
def mPartition : D → List D → Hs → R D := fun x vs S => match x, vs with
  | .str a, [.str b] => if (b.length == 0) = false ∧ a.length ≤ sizeLine then .ok (.tup [.str (Txt.partition a b).1, .str (Txt.partition a b).2.1, .str (Txt.partition a b).2.2]) S else .bad
  | _, _ => .bad

/-! ### expressions -/
def dVar (i : Nat) : DE := fun τ S => match τ[i]? with
  | some (some v) => .ok v S
  | _ => .bad
def dLit (d : D) : DE := fun _ S => .ok d S
def dBin (f : O2) (a b : DE) : DE := fun τ S => (a τ S).bind fun x S => (b τ S).bind fun y S => f x y S
def dUn (f : D → Hs → R D) (a : DE) : DE := fun τ S => (a τ S).bind fun x S => f x S
def dChain (f g : O2) (a b c : DE) : DE := fun τ S => (a τ S).bind fun x S => (b τ S).bind fun y S => (f x y S).bind fun z S => match z with
  | .bl true => (c τ S).bind fun w S => g y w S
  | .bl false => .ok (.bl false) S
  | _ => .bad
def dAnd (a b : DE) : DE := fun τ S => (a τ S).bind fun x S => match truD S x with
  | some true => b τ S
  | some false => .ok x S
  | none => .bad
def dOr (a b : DE) : DE := fun τ S => (a τ S).bind fun x S => match truD S x with
  | some true => .ok x S
  | some false => b τ S
  | none => .bad
def dNot (a : DE) : DE := fun τ S => (a τ S).bind fun x S => match truD S x with
  | some k => .ok (.bl (!k)) S
  | none => .bad
def dIf (t : DT) (a b : DE) : DE := fun τ S => (t τ S).bind fun k S => if k = true then a τ S else b τ S
def dArgs : List DE → DA
  | [] => fun _ S => .ok [] S
  | a :: r => fun τ S => (a τ S).bind fun x S => (dArgs r τ S).bind fun xs S => .ok (x :: xs) S
def dTup (as : List DE) : DE := fun τ S => (dArgs as τ S).bind fun ds S => .ok (.tup ds) S
def dLst (as : List DE) : DE := fun τ S => (dArgs as τ S).bind fun ds S => newL S ds
def dCall (f : Fn) (as : List DE) : DE := fun τ S => (dArgs as τ S).bind fun ds S => f ds S
inductive MTy where
  | list | str | dict
def tyOk (S : Hs) (x : D) : MTy → Bool
  | .list => (lstOf S x).isSome
  | .str => match x with
    | .str _ => true
    | _ => false
  | .dict => (dicOf S x).isSome
def dMt (T : MTy) (f : D → List D → Hs → R D) (o : DE) (as : List DE) : DE := fun τ S => (o τ S).bind fun x S => if tyOk S x T = true then (dArgs as τ S).bind fun ds S => f x ds S else .bad
def partOf : D → Option Int
  | .int i => some i
  | _ => none
def dPart (e : Option DE) : Ev → Hs → R (Option Int) := fun τ S => match e with
  | none => .ok none S
  | some a => (a τ S).bind fun x S => match x with
    | .int i => .ok (some i) S
    | _ => .bad
def dSl (a : DE) (lo hi : Option DE) : DE := fun τ S => (a τ S).bind fun x S => (dPart lo τ S).bind fun l S => (dPart hi τ S).bind fun h S => opSl x l h S
def opRev (x : D) (S : Hs) : R D := match lstOf S x with
  | some ds => newL S ds.reverse
  | none => .bad
def dDict0 : DE := fun _ S => .ok (.ref S.length) (S ++ [.dic []])

/-! ### tests -/
def tTru (a : DE) : DT := fun τ S => (a τ S).bind fun x S => match truD S x with
  | some k => .ok k S
  | none => .bad
def tBl (a : DE) : DT := fun τ S => (a τ S).bind fun x S => match x with
  | .bl k => .ok k S
  | _ => .bad
def tAndD (a b : DT) : DT := fun τ S => (a τ S).bind fun k S => if k = true then b τ S else .ok false S
def tOrD (a b : DT) : DT := fun τ S => (a τ S).bind fun k S => if k = true then .ok true S else b τ S
def tNotD (a : DT) : DT := fun τ S => (a τ S).bind fun k S => .ok (!k) S

/-! ### what is gone along -/
def chk (w : List (Nat × List D)) (S : Hs) : Bool := w.all fun p => match lstOf S (.ref p.1) with
  | some es => D.eqbs es p.2
  | none => false
def watch (x : D) (ds : List D) : List (Nat × List D) := match x with
  | .ref n => [(n, ds)]
  | _ => []
def rgD (lo c : Int) (n : Nat) : List D := (List.range n).map fun (k : Nat) => .int (lo + (k : Int) * c)
def iVal (a : DE) : DI := fun τ S => (a τ S).bind fun x S => match x with
  | .tup ds => .ok (ds, []) S
  | .str x => .ok (x.cps.toList.map fun c => .str ⟨#[c]⟩, []) S
  | x => match lstOf S x with
    | some ds => .ok (ds, watch x ds) S
    | none => .bad
def rngOf : List D → Option (Int × Int × Int)
  | [.int j] => some (0, j, 1)
  | [.int i, .int j] => some (i, j, 1)
  | [.int i, .int j, .int k] => some (i, j, k)
  | _ => none
def rngOk (i j k : Int) : Bool := decide (k ≠ 0) && decide (k.natAbs < 1073741824) && Builtin.Range.small i j k
def iRange (as : List DE) : DI := fun τ S => (dArgs as τ S).bind fun ds S => match rngOf ds with
  | some (i, j, k) => if rngOk i j k = true then .ok (rgD i k (Builtin.Range.rangeSize i j k).toNat, []) S else .bad
  | none => .bad
def dRange (as : List DE) : DE := fun τ S => (dArgs as τ S).bind fun ds S => match rngOf ds with
  | some (i, j, k) => if rngOk i j k = true ∧ (Builtin.Range.rangeSize i j k).toNat ≤ 2 ^ 24 then newL S (rgD i k (Builtin.Range.rangeSize i j k).toNat) else .bad
  | none => .bad
def enumD : Nat → List D → List D
  | _, [] => []
  | k, d :: ds => .tup [.int k, d] :: enumD (k + 1) ds
def zipD : List D → List D → List D
  | d :: ds, e :: es => .tup [d, e] :: zipD ds es
  | _, _ => []
def iEnumD (as : List DE) : DI := fun τ S => (dArgs as τ S).bind fun ds S => match ds with
  | [x] => match lstOf S x with
    | some ds => .ok (enumD 0 ds, watch x ds) S
    | none => .bad
  | _ => .bad
def iZipD (as : List DE) : DI := fun τ S => (dArgs as τ S).bind fun ds S => match ds with
  | [x, y] => match lstOf S x with
    | some ds => match lstOf S y with
      | some es => .ok (zipD ds es, watch x ds ++ watch y es) S
      | none => .bad
    | none => .bad
  | _ => .bad

/-! ### targets -/
def gSet (i : Nat) : DG := fun d τ S => .ok (τ.set i (some d)) S
def gEach : List DG → List D → Ev → Hs → R Ev
  | [], [], τ, S => .ok τ S
  | g :: gs, d :: ds, τ, S => (g d τ S).bind fun τ S => gEach gs ds τ S
  | _, _, _, _ => .bad
def gTupleN (n : Nat) (gs : List DG) : DG := fun d τ S => match d with
  | .tup ds => if ds.length = n then gEach gs ds τ S else .bad
  | _ => .bad
def setIx (x i v : D) (S : Hs) : R Unit := match dicOf S x with
  | some (n, kvs) => match keyOf i with
    | some k => if kvs.length < sizeLine then .ok () (S.set n (.dic (putD kvs k v))) else .bad
    | none => .bad
  | none => match wrOf S x, i with
    | some (n, ds), .int k => match ixN ds.length k with
      | some j => .ok () (S.set n (.lst (ds.set j v)))
      | none => .bad
    | _, _ => .bad
def gIx (o i : DE) : DG := fun d τ S => (o τ S).bind fun x S => (i τ S).bind fun y S => (setIx x y d S).bind fun _ S => .ok τ S

/-! ### statements -/
def R.st {α : Type} (r : R α) (τ : Ev) (k : α → Hs → R Fl) : R Fl := match r with
  | .ok v S => k v S
  | .exc e S => .ok (.ex τ e) S
  | .bad => .bad
@[simp] theorem R.st_ok {α : Type} (a : α) (S : Hs) (τ : Ev) (k : α → Hs → R Fl) : (R.ok a S).st τ k = k a S := rfl
@[simp] theorem R.st_exc {α : Type} (e : Xc) (S : Hs) (τ : Ev) (k : α → Hs → R Fl) : (R.exc e S : R α).st τ k = .ok (.ex τ e) S := rfl
@[simp] theorem R.st_bad {α : Type} (τ : Ev) (k : α → Hs → R Fl) : (R.bad : R α).st τ k = .bad := rfl
def sExpr (a : DE) : DS := fun τ S => (a τ S).st τ fun _ S => .ok (.nx τ) S
def sRet (a : DE) : DS := fun τ S => (a τ S).st τ fun v S => .ok (.rt v) S
def sPass : DS := fun τ S => .ok (.nx τ) S
def sBrk : DS := fun τ S => .ok (.bk τ) S
def sCnt : DS := fun τ S => .ok (.ct τ) S
def sAsg (a : DE) (g : DG) : DS := fun τ S => (a τ S).st τ fun v S => (g v τ S).st τ fun τ S => .ok (.nx τ) S
def sPar2 (i j : Nat) (as : List DE) : DS := fun τ S => (dArgs as τ S).st τ fun ds S => match ds with
  | [v, w] => .ok (.nx ((τ.set i (some v)).set j (some w))) S
  | _ => .bad
def sPar3 (i j l : Nat) (as : List DE) : DS := fun τ S => (dArgs as τ S).st τ fun ds S => match ds with
  | [u, v, w] => .ok (.nx (((τ.set i (some u)).set j (some v)).set l (some w))) S
  | _ => .bad
def sAug (i : Nat) (f : O2) (a : DE) : DS := fun τ S => (dVar i τ S).st τ fun x S => (a τ S).st τ fun y S => (f x y S).st τ fun z S => .ok (.nx (τ.set i (some z))) S
def sSeq : List DS → DS
  | [] => sPass
  | s :: r => fun τ S => (s τ S).bind fun f S => match f with
    | .nx τ => sSeq r τ S
    | f => .ok f S
def sIf (t : DT) (a b : DS) : DS := fun τ S => (t τ S).st τ fun k S => if k = true then a τ S else b τ S
def forGo (w : List (Nat × List D)) (g : DG) (body : DS) : List D → DS
  | [] => fun τ S => if chk w S = true then .ok (.nx τ) S else .bad
  | d :: r => fun τ S => if chk w S = true then (g d τ S).st τ fun τ S => (body τ S).bind fun f S => match f with
      | .nx τ => forGo w g body r τ S
      | .ct τ => forGo w g body r τ S
      | .bk τ => .ok (.nx τ) S
      | .rt v => .ok (.rt v) S
      | .ex τ e => .ok (.ex τ e) S
    else .bad
def sFor (it : DI) (g : DG) (body : DS) : DS := fun τ S => (it τ S).st τ fun p S => forGo p.2 g body p.1 τ S
def whGo (t : DT) (body : DS) : Nat → DS
  | 0 => fun _ _ => .bad
  | n + 1 => fun τ S => (t τ S).st τ fun k S => if k = true then (body τ S).bind fun f S => match f with
      | .nx τ => whGo t body n τ S
      | .ct τ => whGo t body n τ S
      | .bk τ => .ok (.nx τ) S
      | .rt v => .ok (.rt v) S
      | .ex τ e => .ok (.ex τ e) S
    else .ok (.nx τ) S
def whFuel : Nat := 16777216
def sWhile (t : DT) (body : DS) : DS := fun τ S => whGo t body whFuel τ S

/-! ### comprehensions -/
def wipeD (τ : Ev) : List Nat → Ev
  | [] => τ
  | v :: vs => (wipeD τ vs).set v none
/-- a comprehension's target -/
inductive Ctg where
  | one (i : Nat) | many (is : List Nat)
def Ctg.g : Ctg → DG
  | .one i => gSet i
  | .many is => gTupleN is.length (is.map gSet)
/-- no error leaves a comprehension's turn -/
def R.bindN {α β : Type} (r : R α) (k : α → Hs → R β) : R β := match r with
  | .ok a S => k a S
  | _ => .bad
@[simp] theorem R.bindN_ok {α β : Type} (a : α) (S : Hs) (k : α → Hs → R β) : (R.ok a S).bindN k = k a S := rfl
def lcGo (w : List (Nat × List D)) (g : Ctg) (t : DT) (elt : DE) (τ : Ev) : List D → List D → Hs → R (List D)
  | [], acc, S => if chk w S = true then .ok acc S else .bad
  | d :: r, acc, S => if chk w S = true then (g.g d τ S).bindN fun τ' S => (t τ' S).bindN fun k S =>
      if k = true then (elt τ' S).bindN fun y S => if acc.length < sizeLine then lcGo w g t elt τ r (acc ++ [y]) S else .bad
      else lcGo w g t elt τ r acc S
    else .bad
def dLc (it : DI) (g : Ctg) (t : DT) (elt : DE) (own : List Nat) : DE := fun τ S => (it τ S).bind fun p S =>
  (lcGo p.2 g t elt (wipeD τ own) p.1 [] S).bindN fun ys S => newL S ys
def tTrue : DT := fun _ S => .ok true S

/-! ### defs -/
def runFn (np nn : Nat) (body : DS) : Fn := fun ds S =>
  if ds.length = np then (body (ds.map some ++ List.replicate (nn - np) none) S).bind fun f S => match f with
    | .nx _ => .ok .non S
    | .rt v => .ok v S
    | .ex _ e => .exc e S
    | _ => .bad
  else .bad
end Py

/-! How the reading's values and cells lie in the layer's heap; what a rule must show. -/
namespace Py
open PySem PySem.Spec PyProof.Rows L2

/-- an object that is never written -/
def Fx : HO → Prop
  | .tup _ => True
  | .frz _ _ => True
  | _ => False
def SqF (K : PySem.W.Frag) (H : Hp) (a : Addr) (xs : List V) : Prop :=
  (∃ o, H a = some (.frz o (.lst xs))) ∨ ∃ (o : Obj) (its : Array Value) (n : Nat), K.lookup a = some o ∧ o.cls = .type "list" ∧ o.dict = none ∧ o.data = .seq its n ∧ its.size ≤ sizeLine ∧ Vals xs its.toList
theorem SqF.sq {K : PySem.W.Frag} {H : Hp} {a : Addr} {xs : List V} : SqF K H a xs → SqL K H a xs
  | .inl ⟨o, h⟩ => .inl (.inr ⟨o, h⟩)
  | .inr h => .inr h
mutual
inductive RV (K : PySem.W.Frag) (ρ : List Addr) (H : Hp) : D → V → Prop
  | non : RV K ρ H .non .non
  | bl (b : Bool) : RV K ρ H (.bl b) (.bl b)
  | int (i : Int) : RV K ρ H (.int i) (.int i)
  | str (x : Str) : RV K ρ H (.str x) (.str x)
  | ref {n : Nat} {a : Addr} (h : ρ[n]? = some a) : RV K ρ H (.ref n) (.ref a)
  | tup {ds : List D} {a : Addr} {xs : List V} (h : SqT K H a xs) (r : RVs K ρ H ds xs) : RV K ρ H (.tup ds) (.ref a)
  | frl {ds : List D} {a : Addr} {xs : List V} (h : SqF K H a xs) (r : RVs K ρ H ds xs) : RV K ρ H (.frl ds) (.ref a)
inductive RVs (K : PySem.W.Frag) (ρ : List Addr) (H : Hp) : List D → List V → Prop
  | nil : RVs K ρ H [] []
  | cons {d : D} {v : V} {ds : List D} {vs : List V} (h : RV K ρ H d v) (t : RVs K ρ H ds vs) : RVs K ρ H (d :: ds) (v :: vs)
end
structure Stp (ρ : List Addr) (H : Hp) (ρ' : List Addr) (H' : Hp) : Prop where
  pre : ρ <+: ρ'
  fr : ∀ a o, H a = some o → (a ∉ ρ ∨ Fx o) → H' a = some o
  new : ∀ a, a ∈ ρ' → a ∈ ρ ∨ H a = none
theorem Stp.refl (ρ : List Addr) (H : Hp) : Stp ρ H ρ H := ⟨List.prefix_refl ρ, fun _ _ h _ => h, fun _ h => .inl h⟩
theorem Stp.trans {ρ ρ1 ρ2 : List Addr} {H H1 H2 : Hp} (p : Stp ρ H ρ1 H1) (q : Stp ρ1 H1 ρ2 H2) : Stp ρ H ρ2 H2 := by
  refine ⟨p.pre.trans q.pre, fun a o h c => ?_, fun a h => ?_⟩
  · refine q.fr a o (p.fr a o h c) ?_
    rcases c with c | c
    · refine .inl fun m => ?_
      rcases p.new a m with z | z
      · exact c z
      · rw [h] at z; cases z
    · exact .inr c
  · rcases q.new a h with z | z
    · exact p.new a z
    · by_cases m : a ∈ ρ
      · exact .inl m
      · refine .inr ?_
        cases e : H a with
        | none => rfl
        | some o => rw [p.fr a o e (.inl m)] at z; cases z
/-- what is never written stays -/
def FxK (H H' : Hp) : Prop := ∀ a o, H a = some o → Fx o → H' a = some o
theorem Stp.fx {ρ ρ' : List Addr} {H H' : Hp} (s : Stp ρ H ρ' H') : FxK H H' := fun a o h k => s.fr a o h (.inr k)
theorem SqT.fx {K : PySem.W.Frag} {H H' : Hp} {a : Addr} {xs : List V} (s : FxK H H') : SqT K H a xs → SqT K H' a xs
  | .inl (.inl h) => .inl (.inl (s a _ h trivial))
  | .inl (.inr ⟨o, h⟩) => .inl (.inr ⟨o, s a _ h trivial⟩)
  | .inr h => .inr h
theorem SqF.fx {K : PySem.W.Frag} {H H' : Hp} {a : Addr} {xs : List V} (s : FxK H H') : SqF K H a xs → SqF K H' a xs
  | .inl ⟨o, h⟩ => .inl ⟨o, s a _ h trivial⟩
  | .inr h => .inr h
theorem SqT.stp {K : PySem.W.Frag} {ρ ρ' : List Addr} {H H' : Hp} {a : Addr} {xs : List V} (s : Stp ρ H ρ' H') (h : SqT K H a xs) : SqT K H' a xs := SqT.fx s.fx h
theorem pre_get {α : Type} {ρ ρ' : List α} (p : ρ <+: ρ') {n : Nat} {a : α} (h : ρ[n]? = some a) : ρ'[n]? = some a := by
  obtain ⟨t, rfl⟩ := p
  rw [List.getElem?_append_left (List.getElem?_eq_some_iff.mp h).1]; exact h
mutual
theorem RV.fx {K : PySem.W.Frag} {ρ ρ' : List Addr} {H H' : Hp} (p : ρ <+: ρ') (s : FxK H H') : ∀ {d : D} {v : V}, RV K ρ H d v → RV K ρ' H' d v
  | _, _, .non => .non
  | _, _, .bl b => .bl b
  | _, _, .int i => .int i
  | _, _, .str x => .str x
  | _, _, .ref h => .ref (pre_get p h)
  | _, _, .tup h r => .tup (SqT.fx s h) (RVs.fx p s r)
  | _, _, .frl h r => .frl (SqF.fx s h) (RVs.fx p s r)
theorem RVs.fx {K : PySem.W.Frag} {ρ ρ' : List Addr} {H H' : Hp} (p : ρ <+: ρ') (s : FxK H H') : ∀ {ds : List D} {vs : List V}, RVs K ρ H ds vs → RVs K ρ' H' ds vs
  | _, _, .nil => .nil
  | _, _, .cons h t => .cons (RV.fx p s h) (RVs.fx p s t)
end
theorem RV.stp {K : PySem.W.Frag} {ρ ρ' : List Addr} {H H' : Hp} (s : Stp ρ H ρ' H') {d : D} {v : V} (h : RV K ρ H d v) : RV K ρ' H' d v := h.fx s.pre s.fx
theorem RVs.stp {K : PySem.W.Frag} {ρ ρ' : List Addr} {H H' : Hp} (s : Stp ρ H ρ' H') {d : List D} {v : List V} (h : RVs K ρ H d v) : RVs K ρ' H' d v := h.fx s.pre s.fx
section
variable {K : PySem.W.Frag} {ρ : List Addr} {H : Hp}
theorem RVs.length : ∀ {ds : List D} {vs : List V}, RVs K ρ H ds vs → ds.length = vs.length
  | _, _, .nil => rfl
  | _, _, .cons _ t => by rw [List.length_cons, List.length_cons, t.length]
theorem RVs.get : ∀ {ds : List D} {vs : List V} {i : Nat} {d : D}, RVs K ρ H ds vs → ds[i]? = some d → ∃ v, vs[i]? = some v ∧ RV K ρ H d v
  | _, _, _, _, .nil, e => by simp at e
  | _, _, 0, _, .cons h _, e => by simp at e; subst e; exact ⟨_, rfl, h⟩
  | _, _, i + 1, d, .cons _ t, e => by
    obtain ⟨v, h1, h2⟩ := RVs.get (i := i) t (by simpa using e)
    exact ⟨v, by simpa using h1, h2⟩
theorem RVs.getV : ∀ {ds : List D} {vs : List V} {i : Nat} {v : V}, RVs K ρ H ds vs → vs[i]? = some v → ∃ d, ds[i]? = some d ∧ RV K ρ H d v
  | _, _, _, _, .nil, e => by simp at e
  | _, _, 0, _, .cons h _, e => by simp at e; subst e; exact ⟨_, rfl, h⟩
  | _, _, i + 1, d, .cons _ t, e => by
    obtain ⟨v, h1, h2⟩ := RVs.getV (i := i) t (by simpa using e)
    exact ⟨v, by simpa using h1, h2⟩
theorem RVs.append : ∀ {ds es : List D} {vs ws : List V}, RVs K ρ H ds vs → RVs K ρ H es ws → RVs K ρ H (ds ++ es) (vs ++ ws)
  | _, _, _, _, .nil, s => s
  | _, _, _, _, .cons h t, s => .cons h (t.append s)
theorem RVs.take : ∀ {ds : List D} {vs : List V} (n : Nat), RVs K ρ H ds vs → RVs K ρ H (ds.take n) (vs.take n)
  | _, _, 0, _ => .nil
  | _, _, _ + 1, .nil => .nil
  | _, _, n + 1, .cons h t => .cons h (t.take n)
theorem RVs.drop : ∀ {ds : List D} {vs : List V} (n : Nat), RVs K ρ H ds vs → RVs K ρ H (ds.drop n) (vs.drop n)
  | _, _, 0, r => r
  | _, _, _ + 1, .nil => .nil
  | _, _, n + 1, .cons _ t => t.drop n
theorem RVs.cut {ds : List D} {vs : List V} (r : RVs K ρ H ds vs) (lo hi : Option Int) : RVs K ρ H (cutD ds lo hi) (cutV vs lo hi) := by
  unfold cutD cutV
  rw [r.length]
  exact (r.drop _).take _
theorem RVs.rep {ds : List D} {vs : List V} (r : RVs K ρ H ds vs) : ∀ n : Nat, RVs K ρ H (List.replicate n ds).flatten (List.replicate n vs).flatten
  | 0 => .nil
  | n + 1 => by
    rw [List.replicate_succ, List.replicate_succ, List.flatten_cons, List.flatten_cons]
    exact r.append (RVs.rep r n)
theorem RVs.set : ∀ {ds : List D} {vs : List V} {d : D} {v : V} (i : Nat), RVs K ρ H ds vs → RV K ρ H d v → RVs K ρ H (ds.set i d) (vs.set i v)
  | _, _, _, _, _, .nil, _ => .nil
  | _, _, _, _, 0, .cons _ t, q => .cons q t
  | _, _, _, _, i + 1, .cons h t, q => .cons h (t.set i q)
theorem RVs.dropLast {ds : List D} {vs : List V} (r : RVs K ρ H ds vs) : RVs K ρ H ds.dropLast vs.dropLast := by
  rw [List.dropLast_eq_take, List.dropLast_eq_take, r.length]; exact r.take _
theorem RVs.reverse : ∀ {ds : List D} {vs : List V}, RVs K ρ H ds vs → RVs K ρ H ds.reverse vs.reverse
  | _, _, .nil => .nil
  | _, _, .cons h t => by
    rw [List.reverse_cons, List.reverse_cons]
    exact t.reverse.append (.cons h .nil)
theorem RVs.nil_iff {ds : List D} {vs : List V} (r : RVs K ρ H ds vs) : ds = [] ↔ vs = [] := by
  rw [← List.length_eq_zero_iff, ← List.length_eq_zero_iff, r.length]
theorem RVs.isEmpty {ds : List D} {vs : List V} (r : RVs K ρ H ds vs) : ds.isEmpty = vs.isEmpty := by cases r <;> rfl
theorem RVs.ints : ∀ {ds : List D} {vs : List V} {ns : List Int}, RVs K ρ H ds vs → intsOf ds = some ns → vs = ns.map V.int
  | _, _, ns, .nil, e => by simp [intsOf] at e; subst e; rfl
  | _, _, ns, .cons h t, e => by
    cases h <;> simp [intsOf] at e
    obtain ⟨ms, h1, h2⟩ := e
    subst h2
    rw [t.ints h1]; rfl
theorem RVs.bls : ∀ {ds : List D} {vs : List V} {ns : List Bool}, RVs K ρ H ds vs → blsOf ds = some ns → vs = ns.map V.bl
  | _, _, ns, .nil, e => by simp [blsOf] at e; subst e; rfl
  | _, _, ns, .cons h t, e => by
    cases h <;> simp [blsOf] at e
    obtain ⟨ms, h1, h2⟩ := e
    subst h2
    rw [t.bls h1]; rfl
theorem RVs.strs : ∀ {ds : List D} {vs : List V} {ns : List Str}, RVs K ρ H ds vs → strsOf ds = some ns → vs = ns.map V.str
  | _, _, ns, .nil, e => by simp [strsOf] at e; subst e; rfl
  | _, _, ns, .cons h t, e => by
    cases h <;> simp [strsOf] at e
    obtain ⟨ms, h1, h2⟩ := e
    subst h2
    rw [t.strs h1]; rfl
theorem RVs.ofInts (ns : List Int) : RVs K ρ H (ns.map D.int) (ns.map V.int) := by
  induction ns with
  | nil => exact .nil
  | cons n ns ih => exact .cons (.int n) ih
theorem RVs.ofStrs (ns : List Str) : RVs K ρ H (ns.map D.str) (ns.map V.str) := by
  induction ns with
  | nil => exact .nil
  | cons n ns ih => exact .cons (.str n) ih
theorem RV.flat {d : D} {v : V} (r : RV K ρ H d v) : flatD d = flatV v ∨ flatD d = false := by cases r <;> first | exact .inl rfl | exact .inr rfl
theorem RVs.flat : ∀ {ds : List D} {vs : List V}, RVs K ρ H ds vs → ds.all flatD = true → vs.all flatV = true
  | _, _, .nil, _ => rfl
  | _, _, .cons h t, e => by
    rw [List.all_cons, Bool.and_eq_true] at e ⊢
    refine ⟨?_, t.flat e.2⟩
    rcases h.flat with q | q
    · rw [← q]; exact e.1
    · rw [q] at e; cases e.1
theorem RV.eq {d e : D} {v u : V} (r : RV K ρ H d v) (q : RV K ρ H e u) (f : flatD d = true) (g : flatD e = true) : eqD d e = eqV v u := by
  cases r <;> cases q <;> first | rfl | (cases f; done) | (cases g; done)
theorem RVs.any {e : D} {u : V} (q : RV K ρ H e u) (g : flatD e = true) : ∀ {ds : List D} {vs : List V}, RVs K ρ H ds vs → ds.all flatD = true → (ds.any fun y => eqD y e) = inV u vs
  | _, _, .nil, _ => rfl
  | d :: ds, v :: vs, .cons h t, f => by
    rw [List.all_cons, Bool.and_eq_true] at f
    have ih := RVs.any q g t f.2
    show (eqD d e || ds.any fun y => eqD y e) = (eqV v u || vs.any fun y => eqV y u)
    rw [h.eq q f.1 g, ih]; rfl
end
/-- a dict's entries -/
inductive RKs (K : PySem.W.Frag) (ρ : List Addr) (H : Hp) : List (Key × D) → List (Key × V) → Prop
  | nil : RKs K ρ H [] []
  | cons {k : Key} {d : D} {v : V} {ds : List (Key × D)} {vs : List (Key × V)} (h : RV K ρ H d v) (t : RKs K ρ H ds vs) : RKs K ρ H ((k, d) :: ds) ((k, v) :: vs)
section
variable {K : PySem.W.Frag} {ρ ρ' : List Addr} {H H' : Hp}
theorem RKs.fx (p : ρ <+: ρ') (s : FxK H H') : ∀ {ds : List (Key × D)} {vs : List (Key × V)}, RKs K ρ H ds vs → RKs K ρ' H' ds vs
  | _, _, .nil => .nil
  | _, _, .cons h t => .cons (h.fx p s) (t.fx p s)
theorem RKs.stp (s : Stp ρ H ρ' H') {ds : List (Key × D)} {vs : List (Key × V)} (h : RKs K ρ H ds vs) : RKs K ρ' H' ds vs := h.fx s.pre s.fx
theorem RKs.length : ∀ {ds : List (Key × D)} {vs : List (Key × V)}, RKs K ρ H ds vs → ds.length = vs.length
  | _, _, .nil => rfl
  | _, _, .cons _ t => by rw [List.length_cons, List.length_cons, t.length]
theorem RKs.look : ∀ {ds : List (Key × D)} {vs : List (Key × V)} (k : Key), RKs K ρ H ds vs → (look ds k = none ∧ valV vs k = none) ∨ ∃ d v, look ds k = some d ∧ valV vs k = some v ∧ RV K ρ H d v
  | _, _, _, .nil => .inl ⟨rfl, rfl⟩
  | _, _, k, .cons (k := k') (d := d) (v := v) h t => by
    by_cases e : k' = k
    · exact .inr ⟨d, v, by simp [Py.look, e], valV_pos (p := (k', v)) e, h⟩
    · rcases t.look k with ⟨h1, h2⟩ | ⟨d', v', h1, h2, h3⟩
      · exact .inl ⟨by simp [Py.look, e, h1], (valV_neg (p := (k', v)) e).trans h2⟩
      · exact .inr ⟨d', v', by simp [Py.look, e, h1], (valV_neg (p := (k', v)) e).trans h2, h3⟩
theorem RKs.any (k : Key) : ∀ {ds : List (Key × D)} {vs : List (Key × V)}, RKs K ρ H ds vs → (ds.any fun p => decide (p.1 = k)) = vs.any fun p => decide (p.1 = k)
  | _, _, .nil => rfl
  | _, _, .cons _ t => by rw [List.any_cons, List.any_cons, t.any k]
theorem RKs.repl (k : Key) {d : D} {v : V} (q : RV K ρ H d v) : ∀ {ds : List (Key × D)} {vs : List (Key × V)}, RKs K ρ H ds vs → RKs K ρ H (ds.map fun p => if p.1 = k then (p.1, d) else p) (vs.map fun p => if p.1 = k then (p.1, v) else p)
  | _, _, .nil => .nil
  | _, _, .cons (k := k') h t => by
    rw [List.map_cons, List.map_cons]
    by_cases e : k' = k
    · simp only [e, if_true]; exact .cons q (t.repl k q)
    · simp only [e, if_false]; exact .cons h (t.repl k q)
theorem RKs.append : ∀ {ds es : List (Key × D)} {vs ws : List (Key × V)}, RKs K ρ H ds vs → RKs K ρ H es ws → RKs K ρ H (ds ++ es) (vs ++ ws)
  | _, _, _, _, .nil, s => s
  | _, _, _, _, .cons h t, s => .cons h (t.append s)
theorem RKs.put {ds : List (Key × D)} {vs : List (Key × V)} (r : RKs K ρ H ds vs) (k : Key) {d : D} {v : V} (q : RV K ρ H d v) : RKs K ρ H (putD ds k d) (putK vs k v) := by
  unfold putD putK
  rw [r.any k]
  split
  · exact r.repl k q
  · exact r.append (.cons q .nil)
end

def COk (K : PySem.W.Frag) (ρ : List Addr) (H : Hp) (a : Addr) : Cell → Prop
  | .lst ds => ∃ xs, H a = some (.lst xs) ∧ RVs K ρ H ds xs
  | .dic kvs => ∃ ws, H a = some (.dK ws) ∧ RKs K ρ H kvs ws
  | .ins _ _ => False
theorem COk.there {K : PySem.W.Frag} {ρ : List Addr} {H : Hp} {a : Addr} {c : Cell} (h : COk K ρ H a c) : ∃ o, H a = some o ∧ ¬ Fx o ∧ Mut (some o) := by
  cases c with
  | lst ds => obtain ⟨xs, e, _⟩ := h; exact ⟨_, e, id, trivial⟩
  | dic ds => obtain ⟨xs, e, _⟩ := h; exact ⟨_, e, id, trivial⟩
  | ins _ _ => exact h.elim
/-- the same cell, where its object stands as it stood -/
theorem COk.fx {K : PySem.W.Frag} {ρ ρ' : List Addr} {H H' : Hp} {a : Addr} {c : Cell} (p : ρ <+: ρ') (s : FxK H H') (e : H' a = H a) (h : COk K ρ H a c) : COk K ρ' H' a c := by
  cases c with
  | lst ds => obtain ⟨xs, q, r⟩ := h; exact ⟨xs, e.trans q, r.fx p s⟩
  | dic ds => obtain ⟨xs, q, r⟩ := h; exact ⟨xs, e.trans q, r.fx p s⟩
  | ins _ _ => exact h.elim
theorem COk.stp {K : PySem.W.Frag} {ρ ρ' : List Addr} {H H' : Hp} {a : Addr} {c : Cell} (s : Stp ρ H ρ' H') (e : H' a = H a) (h : COk K ρ H a c) : COk K ρ' H' a c := h.fx s.pre s.fx e
structure Rep (K : PySem.W.Frag) (ρ : List Addr) (S : Hs) (H : Hp) : Prop where
  len : ρ.length = S.length
  nd : ρ.Nodup
  ok : ∀ (n : Nat) (a : Addr) (c : Cell), ρ[n]? = some a → S[n]? = some c → COk K ρ H a c
section
variable {K : PySem.W.Frag} {ρ ρ' : List Addr} {S : Hs} {H H' : Hp}
theorem Rep.at (r : Rep K ρ S H) {n : Nat} {c : Cell} (h : S[n]? = some c) : ∃ a, ρ[n]? = some a ∧ COk K ρ H a c := by
  have hl : n < ρ.length := by rw [r.len]; exact (List.getElem?_eq_some_iff.mp h).1
  exact ⟨ρ[n], List.getElem?_eq_getElem hl, r.ok n _ c (List.getElem?_eq_getElem hl) h⟩
theorem Rep.mem (r : Rep K ρ S H) {a : Addr} (h : a ∈ ρ) : ∃ o, H a = some o ∧ ¬ Fx o ∧ Mut (some o) := by
  obtain ⟨n, hn, e⟩ := List.mem_iff_getElem.mp h
  have hs : n < S.length := by rw [← r.len]; exact hn
  exact (r.ok n a S[n] (by rw [← e]; exact List.getElem?_eq_getElem hn) (List.getElem?_eq_getElem hs)).there
theorem Rep.out (r : Rep K ρ S H) {p : Addr} (h : H p = none) : p ∉ ρ := fun m => by
  obtain ⟨o, e, _⟩ := r.mem m
  rw [h] at e; cases e
theorem stp_tup {p : Addr} {xs : List V} (h : H p = none) : Stp ρ H ρ (upd H p (.tup xs)) :=
  ⟨List.prefix_refl ρ, fun a o e _ => by rw [upd_ne (ne_of_none e h)]; exact e, fun _ m => .inl m⟩
theorem stp_new {p : Addr} {o : HO} (h : H p = none) : Stp ρ H (ρ ++ [p]) (upd H p o) := by
  refine ⟨List.prefix_append _ _, fun a o' e _ => by rw [upd_ne (ne_of_none e h)]; exact e, fun a m => ?_⟩
  rcases List.mem_append.mp m with m | m
  · exact .inl m
  · rw [List.mem_singleton] at m; subst m; exact .inr h
theorem Rep.tup (r : Rep K ρ S H) {p : Addr} {xs : List V} (h : H p = none) : Rep K ρ S (upd H p (.tup xs)) := by
  refine ⟨r.len, r.nd, fun n a c h1 h2 => ?_⟩
  have q := r.ok n a c h1 h2
  obtain ⟨o, e, _⟩ := q.there
  exact q.stp (stp_tup h) (upd_ne (ne_of_none e h))
theorem Rep.new (r : Rep K ρ S H) {p : Addr} {o : HO} {c : Cell} (h : H p = none) (hc : COk K (ρ ++ [p]) (upd H p o) p c) : Rep K (ρ ++ [p]) (S ++ [c]) (upd H p o) := by
  refine ⟨by rw [List.length_append, List.length_append, r.len]; rfl, ?_, fun n a c' h1 h2 => ?_⟩
  · rw [List.nodup_append]
    refine ⟨r.nd, by simp, fun a ha b hb => ?_⟩
    rw [List.mem_singleton] at hb; subst hb
    intro e; subst e; exact r.out h ha
  · by_cases hn : n < ρ.length
    · rw [List.getElem?_append_left hn] at h1
      rw [List.getElem?_append_left (by rw [← r.len]; exact hn)] at h2
      have q := r.ok n a c' h1 h2
      obtain ⟨o', e, _⟩ := q.there
      exact q.stp (stp_new h) (upd_ne (ne_of_none e h))
    · have hn' : n = ρ.length := by
        have := (List.getElem?_eq_some_iff.mp h1).1
        rw [List.length_append, List.length_singleton] at this
        omega
      subst hn'
      rw [List.getElem?_append_right (Nat.le_refl _)] at h1
      rw [r.len, List.getElem?_append_right (Nat.le_refl _)] at h2
      simp at h1 h2
      subst h1 h2
      exact hc
theorem stp_wr (r : Rep K ρ S H) {n : Nat} {a : Addr} {o : HO} (h : ρ[n]? = some a) : Stp ρ H ρ (upd H a o) := by
  refine ⟨List.prefix_refl ρ, fun b o' e c => ?_, fun _ m => .inl m⟩
  have m : a ∈ ρ := List.mem_of_getElem? h
  refine (upd_ne fun z => ?_).trans e
  subst z
  rcases c with c | c
  · exact c m
  · obtain ⟨o2, e2, f, _⟩ := r.mem m
    rw [e] at e2; cases e2; exact f c
theorem Rep.wr (r : Rep K ρ S H) {n : Nat} {a : Addr} {o : HO} {c : Cell} (h : ρ[n]? = some a) (hc : COk K ρ (upd H a o) a c) : Rep K ρ (S.set n c) (upd H a o) := by
  refine ⟨by rw [List.length_set]; exact r.len, r.nd, fun m b c' h1 h2 => ?_⟩
  by_cases e : m = n
  · subst e
    rw [h] at h1; cases h1
    have hl : m < S.length := by rw [← r.len]; exact (List.getElem?_eq_some_iff.mp h).1
    rw [List.getElem?_set_self hl] at h2
    cases h2; exact hc
  · rw [List.getElem?_set_ne (Ne.symm e)] at h2
    have q := r.ok m b c' h1 h2
    refine q.stp (stp_wr r h) (upd_ne fun z => ?_)
    subst z
    obtain ⟨i1, e1⟩ := List.getElem?_eq_some_iff.mp h1
    obtain ⟨i2, e2⟩ := List.getElem?_eq_some_iff.mp h
    exact e ((List.getElem_inj r.nd).mp (e1.trans e2.symm))
end

/-- what a result must lead to: W, what is wanted of an error -/
abbrev XW := Xc → Hs → List Addr → Hp → Prop
def Post {α : Type} (K : PySem.W.Frag) (W : XW) (ρ : List Addr) (H : Hp) (r : R α) (Q : α → Hs → List Addr → Hp → Prop) : Prop :=
  match r with
  | .ok v S' => ∀ ρ' H', Stp ρ H ρ' H' → Rep K ρ' S' H' → Q v S' ρ' H'
  | .exc e S' => ∀ ρ' H', Stp ρ H ρ' H' → Rep K ρ' S' H' → W e S' ρ' H'
  | .bad => False
section
variable {α β : Type} {K : PySem.W.Frag} {W : XW} {ρ : List Addr} {H : Hp}
theorem Post.imp {r : R α} {Q Q' : α → Hs → List Addr → Hp → Prop} (h : Post K W ρ H r Q) (f : ∀ v S' ρ' H', Stp ρ H ρ' H' → Rep K ρ' S' H' → Q v S' ρ' H' → Q' v S' ρ' H') : Post K W ρ H r Q' := by
  cases r with
  | ok v S' => exact fun ρ' H' s r => f v S' ρ' H' s r (h ρ' H' s r)
  | exc e S' => exact h
  | bad => exact h
theorem Post.stp {r : R α} {Q : α → Hs → List Addr → Hp → Prop} {ρ1 : List Addr} {H1 : Hp} (h : Post K W ρ H r Q) (s : Stp ρ H ρ1 H1) : Post K W ρ1 H1 r Q := by
  cases r with
  | ok v S' => exact fun ρ' H' s' r => h ρ' H' (s.trans s') r
  | exc e S' => exact fun ρ' H' s' r => h ρ' H' (s.trans s') r
  | bad => exact h
theorem Post.bind {r : R α} {k : α → Hs → R β} {Q : β → Hs → List Addr → Hp → Prop} (h : Post K W ρ H (r.bind k) Q) : Post K W ρ H r fun v S' ρ' H' => Post K W ρ' H' (k v S') Q := by
  cases r with
  | ok v S' => exact fun ρ' H' s' _ => Post.stp (r := k v S') h s'
  | exc e S' => exact h
  | bad => exact h
theorem Post.ok {v : α} {S : Hs} {Q : α → Hs → List Addr → Hp → Prop} (h : Post K W ρ H (.ok v S) Q) (r : Rep K ρ S H) : Q v S ρ H := h ρ H (Stp.refl ρ H) r
end

/-- the slots -/
def EvR (K : PySem.W.Frag) (ρ : List Addr) (H : Hp) (τ : Ev) (σ : L2.St) : Prop := τ.length = σ.length ∧ ∀ (i : Nat) (d : D), τ[i]? = some (some d) → ∃ v, σ[i]? = some (some v) ∧ RV K ρ H d v
theorem EvR.stp {K : PySem.W.Frag} {ρ ρ' : List Addr} {H H' : Hp} {τ : Ev} {σ : L2.St} (e : EvR K ρ H τ σ) (s : Stp ρ H ρ' H') : EvR K ρ' H' τ σ :=
  ⟨e.1, fun i d h => let ⟨v, h1, h2⟩ := e.2 i d h; ⟨v, h1, h2.stp s⟩⟩
theorem EvR.set {K : PySem.W.Frag} {ρ : List Addr} {H : Hp} {τ : Ev} {σ : L2.St} {i : Nat} {d : D} {v : V} (e : EvR K ρ H τ σ) (h : RV K ρ H d v) : EvR K ρ H (τ.set i (some d)) (σ.set i (some v)) := by
  refine ⟨by rw [List.length_set, List.length_set]; exact e.1, fun j x hx => ?_⟩
  by_cases c : i = j
  · subst c
    by_cases hl : i < τ.length
    · rw [List.getElem?_set_self hl] at hx
      cases hx
      exact ⟨v, List.getElem?_set_self (by rw [← e.1]; exact hl), h⟩
    · rw [List.getElem?_eq_none (by rw [List.length_set]; omega)] at hx; cases hx
  · rw [List.getElem?_set_ne c] at hx ⊢
    exact e.2 j x hx
theorem EvR.unset {K : PySem.W.Frag} {ρ : List Addr} {H : Hp} {τ : Ev} {σ : L2.St} {i : Nat} (e : EvR K ρ H τ σ) : EvR K ρ H (τ.set i none) (σ.set i none) := by
  refine ⟨by rw [List.length_set, List.length_set]; exact e.1, fun j x hx => ?_⟩
  by_cases c : i = j
  · subst c
    by_cases hl : i < τ.length
    · rw [List.getElem?_set_self hl] at hx; cases hx
    · rw [List.getElem?_eq_none (by rw [List.length_set]; omega)] at hx; cases hx
  · rw [List.getElem?_set_ne c] at hx ⊢
    exact e.2 j x hx
theorem EvR.wipe {K : PySem.W.Frag} {ρ : List Addr} {H : Hp} {τ : Ev} {σ : L2.St} (e : EvR K ρ H τ σ) : ∀ vs : List Nat, EvR K ρ H (wipeD τ vs) (wipe σ vs)
  | [] => e
  | _ :: vs => (EvR.wipe e vs).unset

/-! ### the readings -/
def tE (K : PySem.W.Frag) (W : XW) (d : DE) : TE := fun σ H Q => ∃ ρ τ S, Rep K ρ S H ∧ EvR K ρ H τ σ ∧ Post K W ρ H (d τ S) fun v _ ρ' H' => ∀ x, RV K ρ' H' v x → Q x H'
def tT (K : PySem.W.Frag) (W : XW) (d : DT) : TT := fun σ H Q => ∃ ρ τ S, Rep K ρ S H ∧ EvR K ρ H τ σ ∧ Post K W ρ H (d τ S) fun k _ _ H' => Q k H'
def tA (K : PySem.W.Frag) (W : XW) (d : DA) : TA := fun σ H Q => ∃ ρ τ S, Rep K ρ S H ∧ EvR K ρ H τ σ ∧ Post K W ρ H (d τ S) fun vs _ ρ' H' => ∀ xs, RVs K ρ' H' vs xs → Q xs H'
def tO (K : PySem.W.Frag) (W : XW) (d : Ev → Hs → R (Option Int)) : TO := fun σ H Q => ∃ ρ τ S, Rep K ρ S H ∧ EvR K ρ H τ σ ∧ Post K W ρ H (d τ S) fun o _ _ H' => Q o H'
def tG (K : PySem.W.Frag) (W : XW) (g : DG) : TG := fun x σ H Q => ∃ ρ τ S d, Rep K ρ S H ∧ EvR K ρ H τ σ ∧ RV K ρ H d x ∧ Post K W ρ H (g d τ S) fun τ' _ ρ' H' => ∀ σ', EvR K ρ' H' τ' σ' → Q σ' H'
def flQ (K : PySem.W.Frag) (W : XW) (D : Ends) (f : Fl) (S : Hs) (ρ : List Addr) (H : Hp) : Prop := match f with
  | .nx τ => ∀ σ, EvR K ρ H τ σ → D.nx σ H
  | .rt v => ∀ x, RV K ρ H v x → D.rt x H
  | .bk τ => ∀ σ, EvR K ρ H τ σ → D.bk σ H
  | .ct τ => ∀ σ, EvR K ρ H τ σ → D.ct σ H
  | .ex _ e => W e S ρ H
def tS (K : PySem.W.Frag) (W : XW) (d : DS) : TS := fun D σ H => ∃ ρ τ S, Rep K ρ S H ∧ EvR K ρ H τ σ ∧ Post K W ρ H (d τ S) (flQ K W D)
section
variable {X : Cx}
theorem _root_.L2.PE.wk {e : Expr} {t t' : TE} (h : PE X e t) (f : ∀ σ H Q, t' σ H Q → t σ H Q) : PE X e t' := ⟨fun pins s σ H Q I q => h.run pins s σ H Q I (f σ H Q q)⟩
theorem _root_.L2.PT.wk {e : Expr} {t t' : TT} (h : PT X e t) (f : ∀ σ H Q, t' σ H Q → t σ H Q) : PT X e t' := ⟨fun pins s σ H Q I q => h.run pins s σ H Q I (f σ H Q q)⟩
theorem _root_.L2.PW.wk {e : Expr} {t t' : TT} (h : PW X e t) (f : ∀ σ H Q, t' σ H Q → t σ H Q) : PW X e t' := ⟨fun w pins s σ H Q I q => h.run w pins s σ H Q I (f σ H Q q)⟩
theorem _root_.L2.PA.wk {e : List Expr} {t t' : TA} (h : PA X e t) (f : ∀ σ H Q, t' σ H Q → t σ H Q) : PA X e t' := ⟨fun p pins s σ H Q I q => h.run p pins s σ H Q I (f σ H Q q)⟩
theorem _root_.L2.PO.wk {e : Option Expr} {t t' : TO} (h : PO X e t) (f : ∀ σ H Q, t' σ H Q → t σ H Q) : PO X e t' := ⟨fun pins s σ H Q I q => h.run pins s σ H Q I (f σ H Q q)⟩
theorem _root_.L2.PG.wk {e : Expr} {t t' : TG} (h : PG X e t) (f : ∀ x σ H Q, t' x σ H Q → t x σ H Q) : PG X e t' := ⟨fun pins s σ H v u Q I r q => h.run pins s σ H v u Q I r (f v σ H Q q)⟩
theorem _root_.L2.PS.wk {e : Stmt} {t t' : TS} (h : PS X e t) (f : ∀ D σ H, t' D σ H → t D σ H) : PS X e t' := ⟨fun pins s σ H D I q => h.run pins s σ H D I (f D σ H q)⟩
theorem _root_.L2.PSs.wk {e : List Stmt} {t t' : TS} (h : PSs X e t) (f : ∀ D σ H, t' D σ H → t D σ H) : PSs X e t' := ⟨fun pins s σ H D I q => h.run pins s σ H D I (f D σ H q)⟩
theorem _root_.L2.PI.wk {tg e : Expr} {t t' : TI} (h : PI X tg e t) (f : ∀ σ H R, t' σ H R → t σ H R) : PI X tg e t' := ⟨fun pins s σ H R I q => h.run pins s σ H R I (f σ H R q)⟩
end
end Py

/-! The rules of the layer, over the functional reading: operators, built-ins, methods. -/
namespace Py
open PySem PySem.Spec PyProof.Rows L2

/-! ### reading cells -/
section
variable {K : PySem.W.Frag} {W : XW} {ρ : List Addr} {S : Hs} {H : Hp} {d : D} {x : V} {ds : List D} {n : Nat}
theorem wr_at (rep : Rep K ρ S H) (h : wrOf S d = some (n, ds)) (r : RV K ρ H d x) : ∃ a xs, d = .ref n ∧ x = .ref a ∧ ρ[n]? = some a ∧ S[n]? = some (.lst ds) ∧ H a = some (.lst xs) ∧ RVs K ρ H ds xs := by
  cases r <;> try (cases h; done)
  rename_i m a hm
  simp only [wrOf] at h
  split at h
  · rename_i es he
    cases h
    obtain ⟨xs, e, r⟩ := rep.ok _ _ _ hm he
    exact ⟨a, xs, rfl, rfl, hm, he, e, r⟩
  · cases h
theorem lst_at (rep : Rep K ρ S H) (h : lstOf S d = some ds) (r : RV K ρ H d x) : ∃ a xs, x = .ref a ∧ SqL K H a xs ∧ RVs K ρ H ds xs := by
  cases r <;> try (cases h; done)
  · rename_i m a hm
    simp only [lstOf] at h
    split at h
    · rename_i es he
      cases h
      obtain ⟨xs, e, r⟩ := rep.ok _ _ _ hm he
      exact ⟨a, xs, rfl, SqL.of e, r⟩
    · cases h
  · rename_i es a xs hq r
    cases h
    exact ⟨a, xs, rfl, hq.sq, r⟩
theorem seq_at (rep : Rep K ρ S H) (h : seqOf S d = some ds) (r : RV K ρ H d x) : ∃ a xs, x = .ref a ∧ (SqL K H a xs ∨ SqT K H a xs) ∧ RVs K ρ H ds xs := by
  cases r <;> try (cases h; done)
  · rename_i m a hm
    obtain ⟨a, xs, e, q, r⟩ := lst_at rep (d := .ref m) h (.ref hm)
    exact ⟨a, xs, e, .inl q, r⟩
  · rename_i es a xs hq r
    cases h
    exact ⟨a, xs, rfl, .inr hq, r⟩
  · rename_i es a xs hq r
    cases h
    exact ⟨a, xs, rfl, .inl hq.sq, r⟩
theorem dic_at {kvs : List (Key × D)} (rep : Rep K ρ S H) (h : dicOf S d = some (n, kvs)) (r : RV K ρ H d x) : ∃ a ws, d = .ref n ∧ x = .ref a ∧ ρ[n]? = some a ∧ S[n]? = some (.dic kvs) ∧ H a = some (.dK ws) ∧ RKs K ρ H kvs ws := by
  cases r <;> try (cases h; done)
  rename_i m a hm
  simp only [dicOf] at h
  split at h
  · rename_i es he
    cases h
    obtain ⟨xs, e, r⟩ := rep.ok _ _ _ hm he
    exact ⟨a, xs, rfl, rfl, hm, he, e, r⟩
  · cases h
theorem key_at {k : Key} (h : keyOf d = some k) (r : RV K ρ H d x) : x = kV k := by
  cases r <;> cases h <;> rfl
abbrev PV (K : PySem.W.Frag) (W : XW) (ρ : List Addr) (H : Hp) (r : R D) (Q : VK) : Prop := Post K W ρ H r fun v _ ρ' H' => ∀ z, RV K ρ' H' v z → Q z H'
theorem new_lst {xs : List V} {Q : VK} (rep : Rep K ρ S H) (r : RVs K ρ H ds xs) (h : PV K W ρ H (newL S ds) Q) : ∀ p, H p = none → Q (.ref p) (upd H p (.lst xs)) := fun p hp =>
  h (ρ ++ [p]) _ (stp_new hp) (rep.new hp ⟨xs, upd_same, r.stp (stp_new hp)⟩) (.ref p) (.ref (by rw [← rep.len, List.getElem?_append_right (Nat.le_refl _)]; simp))
theorem new_dic {Q : VK} (rep : Rep K ρ S H) (h : PV K W ρ H (.ok (.ref S.length) (S ++ [.dic []])) Q) : ∀ p, H p = none → Q (.ref p) (upd H p (.dK [])) := fun p hp =>
  h (ρ ++ [p]) _ (stp_new hp) (rep.new hp ⟨[], upd_same, .nil⟩) (.ref p) (.ref (by rw [← rep.len, List.getElem?_append_right (Nat.le_refl _)]; simp))
theorem new_tup {xs : List V} {Q : VK} (rep : Rep K ρ S H) (r : RVs K ρ H ds xs) (h : PV K W ρ H (.ok (.tup ds) S) Q) : ∀ p, H p = none → Q (.ref p) (upd H p (.tup xs)) := fun p hp =>
  h ρ _ (stp_tup hp) (rep.tup hp) (.ref p) (.tup (SqT.of upd_same) (r.stp (stp_tup hp)))
theorem wr_lst {a : Addr} {xs : List V} {v : D} {z : V} {Q : VK} (rep : Rep K ρ S H) (hm : ρ[n]? = some a) (r : RVs K ρ H ds xs) (rv : RV K ρ H v z) (h : PV K W ρ H (.ok v (S.set n (.lst ds))) Q) : Q z (upd H a (.lst xs)) :=
  h ρ _ (stp_wr rep hm) (rep.wr hm ⟨xs, upd_same, r.stp (stp_wr rep hm)⟩) z (rv.stp (stp_wr rep hm))
theorem PV.at {v : D} {Q : VK} (h : PV K W ρ H (.ok v S) Q) (rep : Rep K ρ S H) (r : RV K ρ H v x) : Q x H := Post.ok h rep x r
end
theorem cutD_length {α : Type} (xs : List α) (lo hi : Option Int) : (cutD xs lo hi).length ≤ xs.length := by
  unfold cutD; rw [List.length_take, List.length_drop]; omega

/-! ### operators -/
def rD2 (K : PySem.W.Frag) (W : XW) (f : O2) : R2 := fun x y H Q => ∃ ρ S d e, Rep K ρ S H ∧ RV K ρ H d x ∧ RV K ρ H e y ∧ PV K W ρ H (f d e S) Q
def rD1 (K : PySem.W.Frag) (W : XW) (f : D → Hs → R D) : V → Hp → VK → Prop := fun x H Q => ∃ ρ S d, Rep K ρ S H ∧ RV K ρ H d x ∧ PV K W ρ H (f d S) Q
def rDs (K : PySem.W.Frag) (W : XW) (f : Fn) : List V → Hp → VK → Prop := fun xs H Q => ∃ ρ S ds, Rep K ρ S H ∧ RVs K ρ H ds xs ∧ PV K W ρ H (f ds S) Q
def rDm (K : PySem.W.Frag) (W : XW) (f : D → List D → Hs → R D) : V → List V → Hp → VK → Prop := fun x xs H Q => ∃ ρ S d ds, Rep K ρ S H ∧ RV K ρ H d x ∧ RVs K ρ H ds xs ∧ PV K W ρ H (f d ds S) Q
section
variable {X : Cx} {W : XW}
theorem o_add : OpR X (binaryOp .Add) (rD2 X.K W opAdd) := by
  intro pins s σ H x y v u Q I rx ry ⟨ρ, S, d, e, rep, rd, re, post⟩
  cases d <;> cases e <;> try (exact False.elim post)
  · cases rd; cases re; exact op_add pins s σ H _ _ v u Q I rx ry ⟨_, _, rfl, rfl, post.at rep (.int _)⟩
  · rename_i i j
    cases rd; cases re
    simp only [opAdd] at post
    split at post
    · rename_i hl
      exact op_add_str pins s σ H _ _ v u Q I rx ry ⟨i, j, rfl, rfl, hl, post.at rep (.str _)⟩
    · exact False.elim post
  · rename_i a b
    cases rd with | tup ha ra => cases re with | tup hb rb =>
    simp only [opAdd] at post
    split at post
    · rename_i hl
      refine op_catA pins s σ H _ _ v u Q I rx ry ⟨_, _, _, _, rfl, rfl, ha, hb, by rw [← ra.length, ← rb.length]; exact hl, fun h => ?_, fun h h2 => ?_, fun h h2 => new_tup rep (ra.append rb) post⟩
      · have : a = [] := ra.nil_iff.mpr h
        subst this
        exact post.at rep (.tup hb rb)
      · have : b = [] := rb.nil_iff.mpr h2
        subst this
        rw [List.append_nil] at post
        exact post.at rep (.tup ha ra)
    · exact False.elim post
  · rename_i a b
    simp only [opAdd] at post
    split at post
    · rename_i n xs m ys h1 h2
      obtain ⟨p, xv, e1, rfl, hn, _, hp, rp⟩ := wr_at rep h1 rd
      obtain ⟨q, yv, e2, rfl, hm, _, hq, rq⟩ := wr_at rep h2 re
      split at post
      · rename_i hl
        exact op_cat pins s σ H _ _ v u Q I rx ry ⟨_, _, _, _, rfl, rfl, hp, hq, by rw [← rp.length, ← rq.length]; exact hl, new_lst rep (rp.append rq) post⟩
      · exact False.elim post
    · exact False.elim post
theorem o_sub : OpR X (binaryOp .Sub) (rD2 X.K W opSub) := by
  intro pins s σ H x y v u Q I rx ry ⟨ρ, S, d, e, rep, rd, re, post⟩
  cases d <;> cases e <;> try (exact False.elim post)
  cases rd; cases re; exact op_sub pins s σ H _ _ v u Q I rx ry ⟨_, _, rfl, rfl, post.at rep (.int _)⟩
theorem o_mul : OpR X (binaryOp .Mult) (rD2 X.K W opMul) := by
  intro pins s σ H x y v u Q I rx ry ⟨ρ, S, d, e, rep, rd, re, post⟩
  cases d <;> cases e <;> try (exact False.elim post)
  · cases rd; cases re
    simp only [opMul] at post
    split at post
    · rename_i hl
      exact op_mul pins s σ H _ _ v u Q I rx ry ⟨_, _, rfl, rfl, hl, post.at rep (.int _)⟩
    · exact False.elim post
  · cases re
    simp only [opMul] at post
    split at post
    · rename_i n xs h1
      obtain ⟨p, xv, e1, rfl, hn, _, hp, rp⟩ := wr_at rep h1 rd
      split at post
      · rename_i hl
        exact op_rep pins s σ H _ _ v u Q I rx ry ⟨_, _, _, rfl, rfl, hp, hl.1, hl.2.1, by rw [← rp.length]; exact hl.2.2, new_lst rep (rp.rep _) post⟩
      · exact False.elim post
    · exact False.elim post
theorem o_div : OpR X (binaryOp .FloorDiv) (rD2 X.K W opDiv) := by
  intro pins s σ H x y v u Q I rx ry ⟨ρ, S, d, e, rep, rd, re, post⟩
  cases d <;> cases e <;> try (exact False.elim post)
  cases rd; cases re
  simp only [opDiv] at post
  split at post
  · rename_i hl
    exact op_fdiv pins s σ H _ _ v u Q I rx ry ⟨_, _, rfl, rfl, hl, post.at rep (.int _)⟩
  · exact False.elim post
theorem o_mod : OpR X (binaryOp .Mod) (rD2 X.K W opMod) := by
  intro pins s σ H x y v u Q I rx ry ⟨ρ, S, d, e, rep, rd, re, post⟩
  cases d <;> cases e <;> try (exact False.elim post)
  cases rd; cases re
  simp only [opMod] at post
  split at post
  · rename_i hl
    exact op_mod pins s σ H _ _ v u Q I rx ry ⟨_, _, rfl, rfl, hl, post.at rep (.int _)⟩
  · exact False.elim post
theorem o_pow : OpR X (binaryOp .Pow) (rD2 X.K W opPow) := by
  intro pins s σ H x y v u Q I rx ry ⟨ρ, S, d, e, rep, rd, re, post⟩
  cases d <;> cases e <;> try (exact False.elim post)
  cases rd; cases re
  simp only [opPow] at post
  split at post
  · rename_i hl
    exact op_pow pins s σ H _ _ v u Q I rx ry ⟨_, _, rfl, rfl, hl, post.at rep (.int _)⟩
  · exact False.elim post
theorem o_neg : UnR X (unaryOp .USub) (rD1 X.K W opNeg) := by
  intro pins s σ H x v Q I rx ⟨ρ, S, d, rep, rd, post⟩
  cases d <;> try (exact False.elim post)
  cases rd
  exact un_neg pins s σ H _ v Q I rx ⟨_, rfl, post.at rep (.int _)⟩
theorem o_lt : OpR X (compareOp .Lt) (rD2 X.K W opLt) := by
  intro pins s σ H x y v u Q I rx ry ⟨ρ, S, d, e, rep, rd, re, post⟩
  cases d <;> cases e <;> try (exact False.elim post)
  cases rd; cases re; exact op_lt pins s σ H _ _ v u Q I rx ry ⟨_, _, rfl, rfl, post.at rep (.bl _)⟩
theorem o_le : OpR X (compareOp .LtE) (rD2 X.K W opLe) := by
  intro pins s σ H x y v u Q I rx ry ⟨ρ, S, d, e, rep, rd, re, post⟩
  cases d <;> cases e <;> try (exact False.elim post)
  cases rd; cases re; exact op_le pins s σ H _ _ v u Q I rx ry ⟨_, _, rfl, rfl, post.at rep (.bl _)⟩
theorem o_gt : OpR X (compareOp .Gt) (rD2 X.K W opGt) := by
  intro pins s σ H x y v u Q I rx ry ⟨ρ, S, d, e, rep, rd, re, post⟩
  cases d <;> cases e <;> try (exact False.elim post)
  cases rd; cases re; exact op_gt pins s σ H _ _ v u Q I rx ry ⟨_, _, rfl, rfl, post.at rep (.bl _)⟩
theorem o_ge : OpR X (compareOp .GtE) (rD2 X.K W opGe) := by
  intro pins s σ H x y v u Q I rx ry ⟨ρ, S, d, e, rep, rd, re, post⟩
  cases d <;> cases e <;> try (exact False.elim post)
  cases rd; cases re; exact op_ge pins s σ H _ _ v u Q I rx ry ⟨_, _, rfl, rfl, post.at rep (.bl _)⟩
theorem isNon_iff {K : PySem.W.Frag} {ρ : List Addr} {H : Hp} {d : D} {x : V} (r : RV K ρ H d x) : isNon d = decide (x = .non) := by
  cases r <;> simp [isNon]
theorem o_is : OpR X (compareOp .Is) (rD2 X.K W opIs) := by
  intro pins s σ H x y v u Q I rx ry ⟨ρ, S, d, e, rep, rd, re, post⟩
  cases e <;> try (exact False.elim post)
  cases re
  refine op_isN pins s σ H _ _ v u Q I rx ry ⟨rfl, ?_⟩
  rw [← isNon_iff rd]
  exact post.at rep (.bl _)
theorem o_isn : OpR X (compareOp .IsNot) (rD2 X.K W opIsN) := by
  intro pins s σ H x y v u Q I rx ry ⟨ρ, S, d, e, rep, rd, re, post⟩
  cases e <;> try (exact False.elim post)
  cases re
  refine op_notN pins s σ H _ _ v u Q I rx ry ⟨rfl, ?_⟩
  rw [← isNon_iff rd]
  exact post.at rep (.bl _)
end

/-! ### equality -/
theorem allSome_cons {α : Type} {x : Option α} {r : List (Option α)} {ys : List α} (h : allSome (x :: r) = some ys) : ∃ y zs, x = some y ∧ allSome r = some zs ∧ ys = y :: zs := by
  cases x with
  | none => cases h
  | some y =>
    simp only [allSome] at h
    split at h
    · rename_i zs hz
      cases h
      exact ⟨y, zs, rfl, hz, rfl⟩
    · cases h
theorem pd_ok : ∀ (n : Nat) (S : Hs) (d : D) (p : PyData), pd n S d = some p → p.canLay0 = true ∧ p.depth ≤ n := by
  have all : ∀ (n : Nat) (S : Hs), (∀ (d : D) (p : PyData), pd n S d = some p → p.canLay0 = true ∧ p.depth ≤ n) → ∀ (ds : List D) (ps : List PyData), allSome (ds.map (pd n S)) = some ps → PyData.canLayAll0 ps = true ∧ PyData.depthAll ps ≤ n := by
    intro n S ih ds
    induction ds with
    | nil => intro ps h; simp [allSome] at h; subst h; simp [PyData.canLayAll0, PyData.depthAll]
    | cons d ds iht =>
      intro ps h
      rw [List.map_cons] at h
      obtain ⟨y, zs, h1, h2, rfl⟩ := allSome_cons h
      obtain ⟨a1, a2⟩ := ih d y h1
      obtain ⟨b1, b2⟩ := iht zs h2
      simp only [PyData.canLayAll0, PyData.depthAll, a1, b1, Bool.and_self, true_and]
      omega
  intro n
  induction n with
  | zero =>
    intro S d p h
    cases d <;> simp only [pd] at h <;> first
      | (cases h; simp [PyData.canLay0, PyData.depth]; done)
      | (split at h <;> cases h; rename_i hs; simp [PyData.canLay0, PyData.depth, hs]; done)
      | (cases h; done)
  | succ n ih =>
    intro S d p h
    have tl : ∀ (ds : List D) (f : List PyData → PyData), (∀ ps, (f ps).canLay0 = PyData.canLayAll0 ps) → (∀ ps, (f ps).depth = PyData.depthAll ps + 1) → (allSome (ds.map (pd n S))).map f = some p → p.canLay0 = true ∧ p.depth ≤ n + 1 := by
      intro ds f f1 f2 h
      cases hq : allSome (ds.map (pd n S)) with
      | none => rw [hq] at h; cases h
      | some ps =>
        rw [hq] at h
        cases h
        obtain ⟨a1, a2⟩ := all n S (ih S) ds ps hq
        rw [f1, f2]
        exact ⟨a1, by omega⟩
    cases d <;> simp only [pd] at h
    · cases h; simp [PyData.canLay0, PyData.depth]
    · cases h; simp [PyData.canLay0, PyData.depth]
    · cases h; simp [PyData.canLay0, PyData.depth]
    · split at h
      · rename_i hs; cases h; simp [PyData.canLay0, PyData.depth, hs]
      · cases h
    · exact tl _ _ (fun ps => by simp [PyData.canLay0]) (fun ps => by simp [PyData.depth]) h
    · exact tl _ _ (fun ps => by simp [PyData.canLay0]) (fun ps => by simp [PyData.depth]) h
    · split at h
      · exact tl _ _ (fun ps => by simp [PyData.canLay0]) (fun ps => by simp [PyData.depth]) h
      · cases h
theorem pd_shaped {n : Nat} {S : Hs} {d : D} {p : PyData} (h : pd n S d = some p) (hn : n ≤ 64) : SeqAt.shaped p = true := by
  obtain ⟨a, b⟩ := pd_ok n S d p h
  unfold SeqAt.shaped
  rw [a, Bool.true_and]
  exact decide_eq_true (by omega)
theorem pd_dp {K : PySem.W.Frag} {ρ : List Addr} {S : Hs} {H : Hp} (rep : Rep K ρ S H) : ∀ (n : Nat) (d : D) (p : PyData) (x : V), pd n S d = some p → RV K ρ H d x → Dp K H x p := by
  have all : ∀ (n : Nat), (∀ (d : D) (p : PyData) (x : V), pd n S d = some p → RV K ρ H d x → Dp K H x p) → ∀ (ds : List D) (ps : List PyData) (xs : List V), allSome (ds.map (pd n S)) = some ps → RVs K ρ H ds xs → DpAll K H xs ps := by
    intro n ih ds
    induction ds with
    | nil => intro ps xs h r; simp [allSome] at h; subst h; cases r; exact .nil
    | cons d ds iht =>
      intro ps xs h r
      rw [List.map_cons] at h
      obtain ⟨y, zs, h1, h2, rfl⟩ := allSome_cons h
      cases r with | cons r1 r2 => exact .cons (ih _ _ _ h1 r1) (iht _ _ h2 r2)
  intro n
  induction n with
  | zero =>
    intro d p x h r
    cases r <;> simp only [pd] at h <;> first
      | (cases h; constructor; done)
      | (split at h <;> cases h; constructor; done)
      | (cases h; done)
  | succ n ih =>
    intro d p x h r
    cases r <;> simp only [pd] at h
    · cases h; constructor
    · cases h; constructor
    · cases h; constructor
    · split at h
      · cases h; constructor
      · cases h
    · rename_i m a hm
      split at h
      · rename_i ds hd
        obtain ⟨a', xs, e, q, r⟩ := lst_at rep (d := .ref m) hd (.ref hm)
        cases e
        cases hq : allSome (ds.map (pd n S)) with
        | none => rw [hq] at h; cases h
        | some ps => rw [hq] at h; cases h; exact .lst q (all n ih ds ps xs hq r)
      · cases h
    · rename_i ds a xs q r
      cases hq : allSome (ds.map (pd n S)) with
      | none => rw [hq] at h; cases h
      | some ps => rw [hq] at h; cases h; exact .tup q (all n ih ds ps xs hq r)
    · rename_i ds a xs q r
      cases hq : allSome (ds.map (pd n S)) with
      | none => rw [hq] at h; cases h
      | some ps => rw [hq] at h; cases h; exact .lst q.sq (all n ih ds ps xs hq r)
section
variable {X : Cx} {W : XW}
theorem opEq_cases (x y : D) (S : Hs) : (∃ i j, x = .int i ∧ y = .int j) ∨ (∃ i j, x = .str i ∧ y = .str j) ∨
    (opEq x y S = (match pd 12 S x, pd 12 S y with | some a, some b => .ok (.bl (PyData.eqv a b)) S | _, _ => .bad)) ∧ (opNe x y S = (match pd 12 S x, pd 12 S y with | some a, some b => .ok (.bl (!PyData.eqv a b)) S | _, _ => .bad)) := by
  cases x <;> cases y <;> first
    | exact .inl ⟨_, _, rfl, rfl⟩
    | exact .inr (.inl ⟨_, _, rfl, rfl⟩)
    | exact .inr (.inr ⟨rfl, rfl⟩)
theorem o_eq (hu : X.A.units + 64 < cLine) : OpR X (compareOp .Eq) (rD2 X.K W opEq) := by
  intro pins s σ H x y v u Q I rx ry ⟨ρ, S, d, e, rep, rd, re, post⟩
  rcases opEq_cases d e S with ⟨i, j, rfl, rfl⟩ | ⟨i, j, rfl, rfl⟩ | ⟨q, _⟩
  · cases rd; cases re
    refine op_eq pins s σ H _ _ v u Q I rx ry ⟨rfl, ?_⟩
    have h := post.at rep (.bl _)
    simpa only [V.int.injEq] using h
  · cases rd; cases re
    refine op_eq pins s σ H _ _ v u Q I rx ry ⟨rfl, ?_⟩
    have h := post.at rep (.bl _)
    simpa only [V.str.injEq] using h
  · rw [q] at post
    split at post
    · rename_i a b h1 h2
      exact op_eqD hu pins s σ H _ _ v u Q I rx ry ⟨a, b, pd_dp rep _ _ _ _ h1 rd, pd_dp rep _ _ _ _ h2 re, pd_shaped h1 (by decide), pd_shaped h2 (by decide), post.at rep (.bl _)⟩
    · exact False.elim post
theorem o_ne (hu : X.A.units + 64 < cLine) : OpR X (compareOp .NotEq) (rD2 X.K W opNe) := by
  intro pins s σ H x y v u Q I rx ry ⟨ρ, S, d, e, rep, rd, re, post⟩
  rcases opEq_cases d e S with ⟨i, j, rfl, rfl⟩ | ⟨i, j, rfl, rfl⟩ | ⟨_, q⟩
  · cases rd; cases re
    refine op_ne pins s σ H _ _ v u Q I rx ry ⟨rfl, ?_⟩
    have h := post.at rep (.bl _)
    simpa only [V.int.injEq] using h
  · cases rd; cases re
    refine op_ne pins s σ H _ _ v u Q I rx ry ⟨rfl, ?_⟩
    have h := post.at rep (.bl _)
    simpa only [V.str.injEq] using h
  · rw [q] at post
    split at post
    · rename_i a b h1 h2
      exact op_neD hu pins s σ H _ _ v u Q I rx ry ⟨a, b, pd_dp rep _ _ _ _ h1 rd, pd_dp rep _ _ _ _ h2 re, pd_shaped h1 (by decide), pd_shaped h2 (by decide), post.at rep (.bl _)⟩
    · exact False.elim post

/-! ### in -/
theorem inOf_ok {ρ : List Addr} {S : Hs} {H : Hp} {d e : D} {x y : V} {b : Bool} {K : PySem.W.Frag} (rep : Rep K ρ S H) (rd : RV K ρ H d x) (re : RV K ρ H e y) (h : inOf d e S = some b) :
    (∃ i j, x = .str i ∧ y = .str j ∧ b = (!(Builtin.Str.occurrences j i 0 j.length 1).isEmpty)) ∨ (∃ a o, y = .ref a ∧ DGet H a x o ∧ b = o.isSome) ∨ ∃ p xs, y = .ref p ∧ (SqL K H p xs ∨ SqT K H p xs) ∧ flatV x = true ∧ xs.all flatV = true ∧ b = inV x xs := by
  have main : ∀ e : D, RV K ρ H e y → inD d e S = some b → (∃ a o, y = .ref a ∧ DGet H a x o ∧ b = o.isSome) ∨ ∃ p xs, y = .ref p ∧ (SqL K H p xs ∨ SqT K H p xs) ∧ flatV x = true ∧ xs.all flatV = true ∧ b = inV x xs := by
    intro e re h
    unfold inD at h
    split at h
    · rename_i n kvs hd
      obtain ⟨a, ws, _, rfl, hm, _, hw, rk⟩ := dic_at rep hd re
      cases hk : keyOf d with
      | none => rw [hk] at h; cases h
      | some k =>
        rw [hk] at h
        cases h
        have := key_at hk rd
        subst this
        refine .inl ⟨a, _, rfl, DGet.k hw, ?_⟩
        rcases rk.look k with ⟨h1, h2⟩ | ⟨d', v', h1, h2, _⟩ <;> simp [h1, h2]
    · split at h
      · rename_i ds hs
        split at h
        · rename_i hf
          cases h
          obtain ⟨a, xs, rfl, q, r⟩ := seq_at rep hs re
          refine .inr ⟨a, xs, rfl, q, ?_, r.flat hf.2, RVs.any rd hf.1 r hf.2⟩
          rcases rd.flat with z | z
          · rw [← z]; exact hf.1
          · rw [z] at hf; cases hf.1
        · cases h
      · cases h
  cases re with
  | str j =>
    cases rd <;> try (cases h; done)
    exact .inl ⟨_, _, rfl, rfl, (Option.some.inj h).symm⟩
  | non => exact .inr (main _ .non h)
  | bl b => exact .inr (main _ (.bl b) h)
  | int i => exact .inr (main _ (.int i) h)
  | ref q => exact .inr (main _ (.ref q) h)
  | tup q r => exact .inr (main _ (.tup q r) h)
  | frl q r => exact .inr (main _ (.frl q r) h)
theorem o_in (hu : X.A.units + 1 < cLine) : OpR X (compareOp .In) (rD2 X.K W opIn) := by
  intro pins s σ H x y v u Q I rx ry ⟨ρ, S, d, e, rep, rd, re, post⟩
  unfold opIn at post
  split at post
  · rename_i b hb
    have q := post.at rep (.bl _)
    rcases inOf_ok rep rd re hb with ⟨i, j, rfl, rfl, eb⟩ | ⟨a, o, rfl, g, eb⟩ | ⟨p, xs, rfl, h1, h2, h3, eb⟩
    · exact op_in_str pins s σ H _ _ v u Q I rx ry ⟨i, j, rfl, rfl, by rw [← eb]; exact q⟩
    · cases ry
      exact d_in hu I g rx fun s' I' => ⟨.bl o.isSome, H, I', rfl, by rw [← eb]; exact q⟩
    · exact op_in_seq pins s σ H _ _ v u Q I rx ry ⟨p, xs, rfl, h1, h2, h3, by rw [if_neg (by simp), ← eb]; exact q⟩
  · exact False.elim post
theorem o_ni (hu : X.A.units + 1 < cLine) : OpR X (compareOp .NotIn) (rD2 X.K W opNi) := by
  intro pins s σ H x y v u Q I rx ry ⟨ρ, S, d, e, rep, rd, re, post⟩
  unfold opNi at post
  split at post
  · rename_i b hb
    have q := post.at rep (.bl _)
    rcases inOf_ok rep rd re hb with ⟨i, j, rfl, rfl, eb⟩ | ⟨a, o, rfl, g, eb⟩ | ⟨p, xs, rfl, h1, h2, h3, eb⟩
    · exact op_notin_str pins s σ H _ _ v u Q I rx ry ⟨i, j, rfl, rfl, by rw [← eb]; exact q⟩
    · cases ry
      exact d_notIn hu I g rx fun s' I' => ⟨.bl (!o.isSome), H, I', rfl, by rw [← eb]; exact q⟩
    · exact op_notIn_seq pins s σ H _ _ v u Q I rx ry ⟨p, xs, rfl, h1, h2, h3, by rw [if_pos rfl, ← eb]; exact q⟩
  · exact False.elim post

/-! ### x[y], x[lo:hi] -/
theorem atI_rel {K : PySem.W.Frag} {ρ : List Addr} {H : Hp} {ds : List D} {xs : List V} {i : Int} {d : D} (r : RVs K ρ H ds xs) (h : atI ds i = some d) : ∃ x, atI xs i = some x ∧ RV K ρ H d x := by
  unfold atI at h ⊢
  rw [r.length] at h
  cases e : ixN xs.length i with
  | none => rw [e] at h; cases h
  | some j =>
    rw [e] at h
    obtain ⟨v, h1, h2⟩ := r.get (i := j) h
    exact ⟨v, h1, h2⟩
theorem ix_dic (hu : X.A.units + 1 < cLine) : IxR X fun x y H Q => ∃ a v, x = .ref a ∧ DGet H a y (some v) ∧ Q v H := by
  intro value slice pins s σ H x y v u Q I rx ry ⟨a, z, e, g, q⟩ hs
  subst e
  cases rx
  exact tail_any (dict_typeIs I g) slot_dict_getitem.lookup (d_getItem hu I g ry fun w' s' I' r' => ⟨z, H, I', r', q⟩) hs
theorem o_ix (hu : X.A.units + 1 < cLine) : IxR X (rD2 X.K W opIx) := by
  intro value slice pins s σ H x y v u Q I rx ry ⟨ρ, S, d, e, rep, rd, re, post⟩ hs
  have main : ∀ d : D, RV X.K ρ H d x → PV X.K W ρ H (ixD d e S) Q → wpAny (model X.prog X.w) X.A (subscriptTail value slice v u) (EP X pins σ Q) X.xe s := by
    intro d rd post
    unfold ixD at post
    split at post
    · rename_i n kvs hd
      obtain ⟨a, ws, _, rfl, hm, _, hw, rk⟩ := dic_at rep hd rd
      split at post
      · rename_i k hk
        have := key_at hk re
        subst this
        split at post
        · rename_i z hz
          rcases rk.look k with ⟨h1, h2⟩ | ⟨d', v', h1, h2, r'⟩
          · rw [h1] at hz; cases hz
          · rw [h1] at hz; cases hz
            exact ix_dic hu value slice pins s σ H _ _ v u Q I rx ry ⟨a, v', rfl, by rw [← h2]; exact DGet.k hw, post.at rep r'⟩ hs
        · exact False.elim post
      · exact False.elim post
    · split at post
      · rename_i ds hs2
        obtain ⟨a, xs, rfl, q, r⟩ := seq_at rep hs2 rd
        cases re <;> try (exact False.elim post)
        simp only at post
        split at post
        · rename_i z hz
          obtain ⟨x', h1, h2⟩ := atI_rel r hz
          rcases q with q | q
          · exact ix_list value slice pins s σ H _ _ v u Q I rx ry ⟨a, xs, _, x', rfl, rfl, q, h1, post.at rep h2⟩ hs
          · exact ix_tup value slice pins s σ H _ _ v u Q I rx ry ⟨a, xs, _, x', rfl, rfl, q, h1, post.at rep h2⟩ hs
        · exact False.elim post
      · exact False.elim post
  cases rd with
  | str z =>
    cases e <;> try (exact False.elim post)
    cases re
    simp only [opIx] at post
    split at post
    · rename_i hl
      split at post
      · rename_i c hc
        exact ix_str value slice pins s σ H _ _ v u Q I rx ry ⟨z, _, c, rfl, rfl, hl, hc, post.at rep (.str _)⟩ hs
      · exact False.elim post
    · exact False.elim post
  | non => exact main _ .non post
  | bl b => exact main _ (.bl b) post
  | int i => exact main _ (.int i) post
  | ref q => exact main _ (.ref q) post
  | tup q r => exact main _ (.tup q r) post
  | frl q r => exact main _ (.frl q r) post
def rDsl (K : PySem.W.Frag) (W : XW) : V → Option Int → Option Int → Hp → VK → Prop := fun x lo hi H Q => ∃ ρ S d, Rep K ρ S H ∧ RV K ρ H d x ∧ PV K W ρ H (opSl d lo hi S) Q
theorem o_sl : SlR X (rDsl X.K W) := by
  intro pins s σ H x v vl vu lo hi sl Q I rx h1 h2 h3 ⟨ρ, S, d, rep, rd, post⟩
  cases rd <;> try (exact False.elim post)
  · rename_i z
    simp only [opSl] at post
    split at post
    · rename_i hl
      exact sl_str pins s σ H _ v vl vu lo hi sl Q I rx h1 h2 h3 ⟨z, rfl, hl, post.at rep (.str _)⟩
    · exact False.elim post
  · rename_i n a hm
    simp only [opSl] at post
    split at post
    · rename_i ds hd
      obtain ⟨a', xs, e, q, r⟩ := lst_at rep (d := .ref n) hd (.ref hm)
      cases e
      exact sl_list pins s σ H _ v vl vu lo hi sl Q I rx h1 h2 h3 ⟨a, xs, rfl, q, new_lst rep (r.cut lo hi) post⟩
    · exact False.elim post
  · rename_i ds a xs q r
    refine sl_tupA pins s σ H _ v vl vu lo hi sl Q I rx h1 h2 h3 ⟨a, xs, rfl, q, fun hw => ?_, fun _ => new_tup rep (r.cut lo hi) post⟩
    have e : cutD ds lo hi = ds := by
      unfold cutD
      rw [r.length, hw.1, hw.2, List.drop_zero, Nat.sub_zero]
      exact List.take_of_length_le (by rw [r.length]; exact Nat.le_refl _)
    have p2 : PV X.K W ρ H (.ok (.tup (cutD ds lo hi)) S) Q := post
    rw [e] at p2
    exact p2.at rep (.tup q r)
  · rename_i ds a xs q r
    exact sl_list pins s σ H _ v vl vu lo hi sl Q I rx h1 h2 h3 ⟨a, xs, rfl, q.sq, new_lst rep (r.cut lo hi) post⟩

/-! ### truth, length -/
theorem tru_at {K : PySem.W.Frag} {ρ : List Addr} {S : Hs} {H : Hp} {d : D} {x : V} {k : Bool} (rep : Rep K ρ S H) (r : RV K ρ H d x) (h : truD S d = some k) : TruV K x H k := by
  cases r <;> simp only [truD] at h
  · cases h; rfl
  · cases h; rfl
  · cases h; rfl
  · split at h
    · rename_i hl; cases h; exact ⟨hl, rfl⟩
    · cases h
  · rename_i n a hm
    split at h
    · rename_i ds hd
      obtain ⟨a', xs, e, q, r⟩ := lst_at rep (d := .ref n) hd (.ref hm)
      cases e; cases h
      exact .inl ⟨xs, q, by rw [r.isEmpty]⟩
    · split at h
      · rename_i m kvs hd
        obtain ⟨a', ws, _, e, _, _, hw, rk⟩ := dic_at rep (d := .ref n) hd (.ref hm)
        cases e; cases h
        exact .inr (.inr ⟨ws, hw, by cases rk <;> rfl⟩)
      · cases h
  · rename_i ds a xs q r
    cases h
    exact .inr (.inl ⟨xs, q, by rw [r.isEmpty]⟩)
  · rename_i ds a xs q r
    cases h
    exact .inl ⟨xs, q.sq, by rw [r.isEmpty]⟩
end
end Py

/-! Built-ins and methods; then expressions as a whole. -/
namespace Py
open PySem PySem.Spec PyProof.Rows L2
section
variable {X : Cx} {W : XW}
theorem RVs.one {K : PySem.W.Frag} {ρ : List Addr} {H : Hp} {d : D} {xs : List V} (r : RVs K ρ H [d] xs) : ∃ x, xs = [x] ∧ RV K ρ H d x := by
  cases r with | cons h t => cases t; exact ⟨_, rfl, h⟩
theorem RVs.two {K : PySem.W.Frag} {ρ : List Addr} {H : Hp} {d e : D} {xs : List V} (r : RVs K ρ H [d, e] xs) : ∃ x y, xs = [x, y] ∧ RV K ρ H d x ∧ RV K ρ H e y := by
  cases r with | cons h t => cases t with | cons h2 t => cases t; exact ⟨_, _, rfl, h, h2⟩
theorem c_len : CallR X (.builtin "len") (rDs X.K W fLen) := by
  intro pins s σ H xs us Q I rs ⟨ρ, S, ds, rep, r, post⟩
  unfold fLen at post
  split at post
  · rename_i d
    obtain ⟨x, rfl, rd⟩ := r.one
    have seqC : ∀ ds : List D, seqOf S d = some ds → PV X.K W ρ H (.ok (.int ds.length) S) Q → wpAny (model X.prog X.w) X.A (call (.builtin "len") us) (EP X pins σ Q) X.xe s := by
      intro ds hs post
      obtain ⟨a, ys, rfl, q, rr⟩ := seq_at rep hs rd
      refine call_len_seq pins s σ H _ us Q I rs ⟨a, ys, rfl, q, ?_⟩
      rw [← rr.length]
      exact post.at rep (.int _)
    have dicC : ∀ (n : Nat) (kvs : List (Key × D)), dicOf S d = some (n, kvs) → PV X.K W ρ H (.ok (.int kvs.length) S) Q → wpAny (model X.prog X.w) X.A (call (.builtin "len") us) (EP X pins σ Q) X.xe s := by
      intro n kvs hd post
      obtain ⟨a, ws, _, rfl, hm, _, hw, rk⟩ := dic_at rep hd rd
      have := Vals.ref1 rs
      subst this
      refine d_len I (.inl hw) fun t s' I' => ⟨.int ws.length, H, I', ⟨t, rfl⟩, ?_⟩
      rw [← rk.length]
      exact post.at rep (.int _)
    split at post
    · rename_i n hn
      cases rd <;> simp only [lenD] at hn
      · simp [seqOf, dicOf] at hn
      · simp [seqOf, dicOf] at hn
      · simp [seqOf, dicOf] at hn
      · split at hn
        · rename_i hl
          cases hn
          exact call_len_str pins s σ H _ us Q I rs ⟨_, rfl, hl, post.at rep (.int _)⟩
        · cases hn
      · split at hn
        · rename_i ds hs; cases hn; exact seqC ds hs post
        · split at hn
          · rename_i m kvs hd; cases hn; exact dicC m kvs hd post
          · cases hn
      · cases hn; exact seqC _ rfl post
      · cases hn; exact seqC _ rfl post
    · exact False.elim post
  · exact False.elim post
theorem c_abs : CallR X (.builtin "abs") (rDs X.K W fAbs) := by
  intro pins s σ H xs us Q I rs ⟨ρ, S, ds, rep, r, post⟩
  unfold fAbs at post
  split at post
  · obtain ⟨x, rfl, rd⟩ := r.one
    cases rd
    exact call_abs pins s σ H _ us Q I rs ⟨_, rfl, post.at rep (.int _)⟩
  · exact False.elim post
theorem RVs.three {K : PySem.W.Frag} {ρ : List Addr} {H : Hp} {d e f : D} {xs : List V} (r : RVs K ρ H [d, e, f] xs) : ∃ x y z, xs = [x, y, z] ∧ RV K ρ H d x ∧ RV K ρ H e y ∧ RV K ρ H f z := by
  cases r with
  | cons a r =>
    obtain ⟨y, z, rfl, b, c⟩ := r.two
    exact ⟨_, _, _, rfl, a, b, c⟩
theorem nuMax2_int (i j : Int) : nuMax2 (.int i) (.int j) = some (.int (max i j)) := by
  show some (if decide (i < j) = true then V.int j else V.int i) = _
  by_cases h : i < j
  · rw [if_pos (by simp [h]), show max i j = j by omega]
  · rw [if_neg (by simp [h]), show max i j = i by omega]
theorem nuMin2_int (i j : Int) : nuMin2 (.int i) (.int j) = some (.int (min i j)) := by
  show some (if decide (j < i) = true then V.int j else V.int i) = _
  by_cases h : j < i
  · rw [if_pos (by simp [h]), show min i j = j by omega]
  · rw [if_neg (by simp [h]), show min i j = i by omega]
theorem nuMax3_int (i j k : Int) : nuMax3 (.int i) (.int j) (.int k) = some (.int (max (max i j) k)) := by
  unfold nuMax3
  rw [nuMax2_int]
  exact nuMax2_int _ _
theorem nuMin3_int (i j k : Int) : nuMin3 (.int i) (.int j) (.int k) = some (.int (min (min i j) k)) := by
  unfold nuMin3
  rw [nuMin2_int]
  exact nuMin2_int _ _
theorem c_max (hc : X.calm = true) : CallR X (.builtin "max") (rDs X.K W fMax) := by
  intro pins s σ H xs us Q I rs ⟨ρ, S, ds, rep, r, post⟩
  unfold fMax at post
  split at post
  · obtain ⟨x, y, rfl, rd, re⟩ := r.two
    cases rd; cases re
    exact call_max2 hc pins s σ H _ us Q I rs ⟨_, _, rfl, post.at rep (.int _)⟩
  · obtain ⟨x, y, z, rfl, rd, re, rf⟩ := r.three
    cases rd; cases re; cases rf
    exact call_max3Nu hc pins s σ H _ us Q I rs ⟨_, _, _, _, rfl, nuMax3_int _ _ _, post.at rep (.int _)⟩
  · exact False.elim post
theorem c_min (hc : X.calm = true) : CallR X (.builtin "min") (rDs X.K W fMin) := by
  intro pins s σ H xs us Q I rs ⟨ρ, S, ds, rep, r, post⟩
  unfold fMin at post
  split at post
  · obtain ⟨x, y, rfl, rd, re⟩ := r.two
    cases rd; cases re
    exact call_min2 hc pins s σ H _ us Q I rs ⟨_, _, rfl, post.at rep (.int _)⟩
  · obtain ⟨x, y, z, rfl, rd, re, rf⟩ := r.three
    cases rd; cases re; cases rf
    exact call_min3Nu hc pins s σ H _ us Q I rs ⟨_, _, _, _, rfl, nuMin3_int _ _ _, post.at rep (.int _)⟩
  · exact False.elim post
theorem c_int : CallR X (.type "int") (rDs X.K W fInt) := by
  intro pins s σ H xs us Q I rs ⟨ρ, S, ds, rep, r, post⟩
  unfold fInt at post
  split at post
  · obtain ⟨x, rfl, rd⟩ := r.one
    cases rd
    exact call_int1 pins s σ H _ us Q I rs (.inl ⟨_, rfl, post.at rep (.int _)⟩)
  · obtain ⟨x, rfl, rd⟩ := r.one
    cases rd
    exact call_int1 pins s σ H _ us Q I rs (.inr ⟨_, rfl, post.at rep (.int _)⟩)
  · obtain ⟨x, rfl, rd⟩ := r.one
    cases rd
    split at post
    · rename_i n hn
      split at post
      · rename_i hl
        exact call_int_str pins s σ H _ us Q I rs ⟨_, n, rfl, hn, hl, post.at rep (.int _)⟩
      · exact False.elim post
    · exact False.elim post
  · exact False.elim post
theorem c_str : CallR X (.type "str") (rDs X.K W fStr) := by
  intro pins s σ H xs us Q I rs ⟨ρ, S, ds, rep, r, post⟩
  unfold fStr at post
  split at post
  · obtain ⟨x, rfl, rd⟩ := r.one
    cases rd
    split at post
    · rename_i hl
      exact call_str_int pins s σ H _ us Q I rs ⟨_, rfl, hl, post.at rep (.str _)⟩
    · exact False.elim post
  · exact False.elim post
theorem c_list : CallR X (.type "list") (rDs X.K W fList) := by
  intro pins s σ H xs us Q I rs ⟨ρ, S, ds, rep, r, post⟩
  unfold fList at post
  split at post
  · obtain ⟨x, rfl, rd⟩ := r.one
    split at post
    · rename_i ds hs
      obtain ⟨a, ys, rfl, q, rr⟩ := seq_at rep hs rd
      exact call_list_of pins s σ H _ us Q I rs ⟨a, ys, rfl, q, new_lst rep rr post⟩
    · exact False.elim post
  · exact False.elim post
theorem c_tuple : CallR X (.type "tuple") (rDs X.K W fTuple) := by
  intro pins s σ H xs us Q I rs ⟨ρ, S, ds, rep, r, post⟩
  unfold fTuple at post
  split at post
  · obtain ⟨x, rfl, rd⟩ := r.one
    split at post
    · rename_i ds hs
      obtain ⟨a, ys, rfl, q, rr⟩ := seq_at rep hs rd
      rcases q with q | q
      · exact call_tuple_of pins s σ H _ us Q I rs ⟨a, ys, rfl, .inl ⟨q, new_tup rep rr post⟩⟩
      · exact call_tuple_of pins s σ H _ us Q I rs ⟨a, ys, rfl, .inr ⟨q, post.at rep (.tup q rr)⟩⟩
    · exact False.elim post
  · exact False.elim post
theorem c_sum (hc : X.calm = true) : CallR X (.builtin "sum") (rDs X.K W fSum) := by
  intro pins s σ H xs us Q I rs ⟨ρ, S, ds, rep, r, post⟩
  unfold fSum at post
  split at post
  · obtain ⟨x, rfl, rd⟩ := r.one
    split at post
    · rename_i ds hs
      obtain ⟨a, ys, rfl, q, rr⟩ := lst_at rep hs rd
      split at post
      · rename_i ns hn
        rw [rr.ints hn] at q
        exact cr_sum hc pins s σ H _ us Q I rs ⟨a, ns, rfl, q, post.at rep (.int _)⟩
      · exact False.elim post
    · exact False.elim post
  · exact False.elim post
theorem c_all (hc : X.calm = true) : CallR X (.builtin "all") (rDs X.K W fAll) := by
  intro pins s σ H xs us Q I rs ⟨ρ, S, ds, rep, r, post⟩
  unfold fAll at post
  split at post
  · obtain ⟨x, rfl, rd⟩ := r.one
    split at post
    · rename_i ds hs
      obtain ⟨a, ys, rfl, q, rr⟩ := lst_at rep hs rd
      split at post
      · rename_i ns hn
        rw [rr.bls hn] at q
        exact cr_all hc pins s σ H _ us Q I rs ⟨a, ns, rfl, q, post.at rep (.bl _)⟩
      · exact False.elim post
    · exact False.elim post
  · exact False.elim post
theorem c_any (hc : X.calm = true) : CallR X (.builtin "any") (rDs X.K W fAny) := by
  intro pins s σ H xs us Q I rs ⟨ρ, S, ds, rep, r, post⟩
  unfold fAny at post
  split at post
  · obtain ⟨x, rfl, rd⟩ := r.one
    split at post
    · rename_i ds hs
      obtain ⟨a, ys, rfl, q, rr⟩ := lst_at rep hs rd
      split at post
      · rename_i ns hn
        rw [rr.bls hn] at q
        exact cr_any hc pins s σ H _ us Q I rs ⟨a, ns, rfl, q, post.at rep (.bl _)⟩
      · exact False.elim post
    · exact False.elim post
  · exact False.elim post
/-! ### isinstance(x, T), T a built-in class -/
theorem ty_at {K : PySem.W.Frag} {ρ : List Addr} {S : Hs} {H : Hp} {d : D} {x : V} {t : String} (rep : Rep K ρ S H) (r : RV K ρ H d x) (h : tyD S d = some t) : TyX K H x (.type t) := by
  cases r <;> simp only [tyD] at h
  · cases h; exact .base .non
  · cases h; exact .base (.bl _)
  · cases h; exact .base (.int _)
  · cases h; exact .base (.str _)
  · rename_i n a hm
    split at h
    · rename_i ds hs
      cases h
      obtain ⟨xs, e, _⟩ := rep.ok _ _ _ hm hs
      exact .base (.lst e)
    · rename_i ds hs
      cases h
      obtain ⟨xs, e, _⟩ := rep.ok _ _ _ hm hs
      exact .base (.dK e)
    · cases h
  · rename_i q rr
    cases h
    rcases q with (q | ⟨o, q⟩) | ⟨o, its, n, q, c, _⟩
    · exact .base (.tup q)
    · exact .fTuple q
    · exact .kTuple q c
  · rename_i q rr
    cases h
    rcases q with ⟨o, q⟩ | ⟨o, its, n, q, c, _⟩
    · exact .base (.frz q)
    · exact .kList q c
def rIsD (K : PySem.W.Frag) (W : XW) (T : String) : List V → Hp → VK → Prop := fun xs H Q => ∃ x, xs = [x, .ty T] ∧ rD1 K W (opIsi T) x H Q
theorem c_isi (T : String) : CallR X (.builtin "isinstance") (rIsD X.K W T) := by
  intro pins s σ H xs us Q I rs ⟨x, e, ρ, S, d, rep, r, post⟩
  subst e
  unfold opIsi at post
  split at post
  · rename_i t ht
    split at post
    · rename_i b hb
      exact call_isi pins s σ H _ us Q I rs ⟨x, .ty T, .type t, .type T, b, rfl, .ty T, ty_at rep r ht, kit_ty hb, post.at rep (.bl _)⟩
    · exact False.elim post
  · exact False.elim post

/-! ### methods -/
theorem m_append : MtR X "list.append" (rDm X.K W mAppend) := by
  intro pins s σ H x xs v us Q I rx rs ⟨ρ, S, d, ds, rep, rd, r, post⟩
  unfold mAppend at post
  split at post
  · obtain ⟨y, rfl, ry⟩ := r.one
    split at post
    · rename_i n es he
      obtain ⟨a, ys, _, rfl, hm, _, hp, rr⟩ := wr_at rep he rd
      split at post
      · rename_i hl
        exact mt_append pins s σ H _ _ v us Q I rx rs ⟨a, ys, y, rfl, rfl, hp, by rw [← rr.length]; exact hl, wr_lst rep hm (rr.append (.cons ry .nil)) .non post⟩
      · exact False.elim post
    · exact False.elim post
  · exact False.elim post
theorem m_extend : MtR X "list.extend" (rDm X.K W mExtend) := by
  intro pins s σ H x xs v us Q I rx rs ⟨ρ, S, d, ds, rep, rd, r, post⟩
  unfold mExtend at post
  split at post
  · obtain ⟨y, rfl, ry⟩ := r.one
    split at post
    · rename_i n es m fs he hf
      obtain ⟨a, ys, _, rfl, hm, _, hp, rr⟩ := wr_at rep he rd
      obtain ⟨b, zs, _, rfl, _, _, hq, rz⟩ := wr_at rep hf ry
      split at post
      · rename_i hl
        exact mt_extend pins s σ H _ _ v us Q I rx rs ⟨a, b, ys, zs, rfl, rfl, hp, hq, by rw [← rr.length, ← rz.length]; exact hl, wr_lst rep hm (rr.append rz) .non post⟩
      · exact False.elim post
    · exact False.elim post
  · exact False.elim post
theorem m_pop : MtR X "list.pop" (rDm X.K W mPop) := by
  intro pins s σ H x xs v us Q I rx rs ⟨ρ, S, d, ds, rep, rd, r, post⟩
  unfold mPop at post
  split at post
  · cases r
    split at post
    · rename_i n es he
      obtain ⟨a, ys, _, rfl, hm, _, hp, rr⟩ := wr_at rep he rd
      split at post
      · rename_i y hy
        rw [rr.length] at hy
        obtain ⟨z, hz, rz⟩ := rr.get hy
        exact mt_pop pins s σ H _ _ v us Q I rx rs ⟨a, ys, z, rfl, rfl, hp, hz, wr_lst rep hm rr.dropLast rz post⟩
      · exact False.elim post
    · exact False.elim post
  · exact False.elim post
theorem m_clear : MtR X "list.clear" (rDm X.K W mClear) := by
  intro pins s σ H x xs v us Q I rx rs ⟨ρ, S, d, ds, rep, rd, r, post⟩
  unfold mClear at post
  split at post
  · cases r
    split at post
    · rename_i n es he
      obtain ⟨a, ys, _, rfl, hm, _, hp, rr⟩ := wr_at rep he rd
      exact mt_clear pins s σ H _ _ v us Q I rx rs ⟨a, ys, rfl, rfl, hp, wr_lst rep hm .nil .non post⟩
    · exact False.elim post
  · exact False.elim post
theorem m_reverse : MtR X "list.reverse" (rDm X.K W mReverse) := by
  intro pins s σ H x xs v us Q I rx rs ⟨ρ, S, d, ds, rep, rd, r, post⟩
  unfold mReverse at post
  split at post
  · cases r
    split at post
    · rename_i n es he
      obtain ⟨a, ys, _, rfl, hm, _, hp, rr⟩ := wr_at rep he rd
      exact mt_reverse pins s σ H _ _ v us Q I rx rs ⟨a, ys, rfl, rfl, hp, wr_lst rep hm rr.reverse .non post⟩
    · exact False.elim post
  · exact False.elim post
theorem m_join : MtR X "str.join" (rDm X.K W mJoin) := by
  intro pins s σ H x xs v us Q I rx rs ⟨ρ, S, d, ds, rep, rd, r, post⟩
  unfold mJoin at post
  split at post
  · obtain ⟨y, rfl, ry⟩ := r.one
    cases rd
    split at post
    · rename_i es he
      obtain ⟨a, ys, rfl, q, rr⟩ := seq_at rep he ry
      split at post
      · rename_i zs hz
        rw [rr.strs hz] at q
        split at post
        · rename_i hl
          exact mt_join pins s σ H _ _ v us Q I rx rs ⟨_, a, zs, rfl, rfl, q, hl, post.at rep (.str _)⟩
        · exact False.elim post
      · exact False.elim post
    · exact False.elim post
  · exact False.elim post
theorem m_split : MtR X "str.split" (rDm X.K W mSplit) := by
  intro pins s σ H x xs v us Q I rx rs ⟨ρ, S, d, ds, rep, rd, r, post⟩
  unfold mSplit at post
  split at post
  · obtain ⟨y, rfl, ry⟩ := r.one
    cases rd; cases ry
    split at post
    · rename_i hl
      exact mt_split pins s σ H _ _ v us Q I rx rs ⟨_, _, rfl, rfl, hl.1, hl.2, new_lst rep (RVs.ofStrs _) post⟩
    · exact False.elim post
  · exact False.elim post
theorem m_partition : MtR X "str.partition" (rDm X.K W mPartition) := by
  intro pins s σ H x xs v us Q I rx rs ⟨ρ, S, d, ds, rep, rd, r, post⟩
  unfold mPartition at post
  split at post
  · obtain ⟨y, rfl, ry⟩ := r.one
    cases rd; cases ry
    split at post
    · rename_i hl
      exact mt_partition pins s σ H _ _ v us Q I rx rs ⟨_, _, rfl, rfl, hl.1, hl.2, new_tup rep (.cons (.str _) (.cons (.str _) (.cons (.str _) .nil))) post⟩
    · exact False.elim post
  · exact False.elim post
end

/-! ### expressions -/
section
variable {X : Cx} {W : XW} {a b c : Expr} {da db dc : DE} {pos : Pos}
/-- from the reading of a part to a rule's wish -/
theorem tE.imp {K : PySem.W.Frag} {d : DE} {σ : L2.St} {H : Hp} {Q : VK} {ρ : List Addr} {τ : Ev} {S : Hs} (rep : Rep K ρ S H) (ev : EvR K ρ H τ σ) (h : Post K W ρ H (d τ S) fun v S' ρ' H' => Rep K ρ' S' H' → Stp ρ H ρ' H' → EvR K ρ' H' τ σ → ∀ x, RV K ρ' H' v x → Q x H') : tE K W d σ H Q :=
  ⟨ρ, τ, S, rep, ev, h.imp fun v S' ρ' H' s r q => q r s (ev.stp s)⟩
theorem d_var {i : Nat} {x : Str} (hN : X.N[i]? = some x) (hv : Vis X.env.scope x) (hd : (x == ("__debug__" : Str)) = false) (hcd : (x == ("__classdict__" : Str)) = false) : PE X (.Name x pos) (tE X.K W (dVar i)) :=
  (pe_var hN hv hd hcd).wk fun σ H Q ⟨ρ, τ, S, rep, ev, post⟩ => by
    unfold dVar at post
    split at post
    · rename_i v hv
      obtain ⟨z, h1, h2⟩ := ev.2 i v hv
      exact ⟨z, h1, post ρ H (Stp.refl ρ H) rep z h2⟩
    · exact False.elim post
theorem tE.lit {K : PySem.W.Frag} {σ : L2.St} {H : Hp} {Q : VK} {d : D} {v : V} (h : tE K W (dLit d) σ H Q) (r : ∀ ρ, RV K ρ H d v) : Q v H := by
  obtain ⟨ρ, τ, S, rep, ev, post⟩ := h
  exact Post.ok post rep v (r ρ)
theorem d_int {i j} : PE X (.Constant (.int i) j pos) (tE X.K W (dLit (.int i))) := pe_int.wk fun σ H Q h => tE.lit h fun _ => .int i
theorem d_bl {i j} : PE X (.Constant (.bool i) j pos) (tE X.K W (dLit (.bl i))) := pe_bl.wk fun σ H Q h => tE.lit h fun _ => .bl i
theorem d_non {j} : PE X (.Constant .none j pos) (tE X.K W (dLit .non)) := pe_non.wk fun σ H Q h => tE.lit h fun _ => .non
theorem d_str {i j} : PE X (.Constant (.str i) j pos) (tE X.K W (dLit (.str i))) := pe_str.wk fun σ H Q h => tE.lit h fun _ => .str i
theorem two_step {K : PySem.W.Frag} {r : V → V → Hp → VK → Prop} {f : D → D → Hs → R D} {σ : L2.St} {H : Hp} {Q : VK} (hr : ∀ x y H, rD2 K W f x y H Q → r x y H Q) (h : tE K W (dBin f da db) σ H Q) : tE K W da σ H fun x H1 => tE K W db σ H1 fun y H2 => r x y H2 Q := by
  obtain ⟨ρ, τ, S, rep, ev, post⟩ := h
  refine tE.imp rep ev (Post.bind post |>.imp fun v S1 ρ1 H1 s1 _ p1 rep1 _ ev1 x rx => ?_)
  refine tE.imp rep1 ev1 (Post.bind p1 |>.imp fun w S2 ρ2 H2 s2 _ p2 rep2 _ _ y ry => ?_)
  exact hr x y H2 ⟨ρ2, S2, v, w, rep2, rx.stp s2, ry, p2⟩
theorem d_bin {op : Operator} {f : O2} (ho : OpR X (binaryOp op) (rD2 X.K W f)) (ha : PE X a (tE X.K W da)) (hb : PE X b (tE X.K W db)) : PE X (.BinOp a op b pos) (tE X.K W (dBin f da db)) :=
  (pe_op ho ha hb).wk fun σ H Q h => two_step (fun _ _ _ q => q) h
theorem d_cmp {op : CmpOp} {f : O2} (ho : OpR X (compareOp op) (rD2 X.K W f)) (ha : PE X a (tE X.K W da)) (hb : PE X b (tE X.K W db)) (hm : behindInMarks op b = false) : PE X (.Compare a [op] [b] pos) (tE X.K W (dBin f da db)) :=
  (pe_cmpR ho ha hb hm).wk fun σ H Q h => two_step (fun _ _ _ q => q) h
theorem d_ix (hu : X.A.units + 1 < cLine) (ha : PE X a (tE X.K W da)) (hb : PE X b (tE X.K W db)) (hs : PlainIx b) : PE X (.Subscript a b pos) (tE X.K W (dBin opIx da db)) :=
  (pe_ix (o_ix hu) ha hb hs).wk fun σ H Q h => two_step (fun _ _ _ q => q) h
theorem one_step {K : PySem.W.Frag} {r : V → Hp → VK → Prop} {f : D → Hs → R D} {σ : L2.St} {H : Hp} {Q : VK} (hr : ∀ x H, rD1 K W f x H Q → r x H Q) (h : tE K W (dUn f da) σ H Q) : tE K W da σ H fun x H1 => r x H1 Q := by
  obtain ⟨ρ, τ, S, rep, ev, post⟩ := h
  refine tE.imp rep ev (Post.bind post |>.imp fun v S1 ρ1 H1 s1 _ p1 rep1 _ ev1 x rx => ?_)
  exact hr x H1 ⟨ρ1, S1, v, rep1, rx, p1⟩
theorem d_un {op : UnaryOp} {f : D → Hs → R D} (ho : UnR X (unaryOp op) (rD1 X.K W f)) (ha : PE X a (tE X.K W da)) : PE X (.UnaryOp op a pos) (tE X.K W (dUn f da)) :=
  (pe_un ho ha).wk fun σ H Q h => one_step (fun _ _ q => q) h
theorem d_rev {k : Nat} {p1 p2 p3 : Pos} (ha : PE X a (tE X.K W da)) : PE X (.Subscript a (.Slice none none (some (.UnaryOp .USub (.Constant (.int 1) k p1) p2)) p3) pos) (tE X.K W (dUn opRev da)) :=
  (pe_revL ha).wk fun σ H Q h => one_step (r := fun x H1 Q => ∃ a xs, x = .ref a ∧ SqL X.K H1 a xs ∧ ∀ p, H1 p = none → Q (.ref p) (upd H1 p (.lst xs.reverse))) (fun x H ⟨ρ, S, d, rep, rd, post⟩ => by
    unfold opRev at post
    split at post
    · rename_i ds hd
      obtain ⟨a, xs, e, q, r⟩ := lst_at rep hd rd
      exact ⟨a, xs, e, q, new_lst rep r.reverse post⟩
    · exact False.elim post) h
theorem tBl_of {K : PySem.W.Frag} {k : Bool} {d : D} {x : V} {ρ : List Addr} {H : Hp} (h : d = .bl k) (r : RV K ρ H d x) : x = .bl k := by subst h; cases r; rfl
theorem d_chain {op op' : CmpOp} {f g : O2} (ho : OpR X (compareOp op) (rD2 X.K W f)) (ho' : OpR X (compareOp op') (rD2 X.K W g)) (ha : PE X a (tE X.K W da)) (hb : PE X b (tE X.K W db)) (hc : PE X c (tE X.K W dc)) (hm : lastMarks [op, op'] [b, c] = false) : PE X (.Compare a [op, op'] [b, c] pos) (tE X.K W (dChain f g da db dc)) :=
  (pe_chain ho ho' ha hb hc hm).wk fun σ H Q h => by
    obtain ⟨ρ, τ, S, rep, ev, post⟩ := h
    refine tE.imp rep ev (Post.bind post |>.imp fun v S1 ρ1 H1 s1 _ p1 rep1 _ ev1 x rx => ?_)
    refine tE.imp rep1 ev1 (Post.bind p1 |>.imp fun w S2 ρ2 H2 s2 _ p2 rep2 _ ev2 y ry => ?_)
    refine ⟨ρ2, S2, v, w, rep2, rx.stp s2, ry, (Post.bind p2).imp fun z S3 ρ3 H3 s3 rep3 p3 z' rz => ?_⟩
    cases z <;> try (exact False.elim p3)
    rename_i k
    cases rz
    refine ⟨k, rfl, ?_⟩
    cases k with
    | true =>
      refine iteT (tE.imp rep3 (ev2.stp s3) (Post.bind p3 |>.imp fun u S4 ρ4 H4 s4 _ p4 rep4 _ _ t rt => ?_))
      exact ⟨ρ4, S4, w, u, rep4, (ry.stp s3).stp s4, rt, p4⟩
    | false => exact iteF (p3 ρ3 H3 (Stp.refl ρ3 H3) rep3 _ (.bl false))
theorem d_and {rest : List Expr} {pos : Pos} (ha : PE X a (tE X.K W da)) (hb : PE X (.BoolOp .And (b :: rest) pos) (tE X.K W db)) : PE X (.BoolOp .And (a :: b :: rest) pos) (tE X.K W (dAnd da db)) :=
  (pe_andT ha hb).wk fun σ H Q h => by
    obtain ⟨ρ, τ, S, rep, ev, post⟩ := h
    refine tE.imp rep ev (Post.bind post |>.imp fun v S1 ρ1 H1 s1 _ p1 rep1 _ ev1 x rx => ?_)
    split at p1
    · rename_i ht
      exact ⟨true, tru_at rep1 rx ht, iteT ⟨ρ1, τ, S1, rep1, ev1, p1⟩⟩
    · rename_i ht
      exact ⟨false, tru_at rep1 rx ht, iteF (p1 ρ1 H1 (Stp.refl ρ1 H1) rep1 _ rx)⟩
    · exact False.elim p1
theorem d_or {rest : List Expr} {pos : Pos} (ha : PE X a (tE X.K W da)) (hb : PE X (.BoolOp .Or (b :: rest) pos) (tE X.K W db)) : PE X (.BoolOp .Or (a :: b :: rest) pos) (tE X.K W (dOr da db)) :=
  (pe_orT ha hb).wk fun σ H Q h => by
    obtain ⟨ρ, τ, S, rep, ev, post⟩ := h
    refine tE.imp rep ev (Post.bind post |>.imp fun v S1 ρ1 H1 s1 _ p1 rep1 _ ev1 x rx => ?_)
    split at p1
    · rename_i ht
      exact ⟨true, tru_at rep1 rx ht, iteT (p1 ρ1 H1 (Stp.refl ρ1 H1) rep1 _ rx)⟩
    · rename_i ht
      exact ⟨false, tru_at rep1 rx ht, iteF ⟨ρ1, τ, S1, rep1, ev1, p1⟩⟩
    · exact False.elim p1
theorem d_not (ha : PE X a (tE X.K W da)) : PE X (.UnaryOp .Not a pos) (tE X.K W (dNot da)) :=
  (pe_notT ha).wk fun σ H Q h => by
    obtain ⟨ρ, τ, S, rep, ev, post⟩ := h
    refine tE.imp rep ev (Post.bind post |>.imp fun v S1 ρ1 H1 s1 _ p1 rep1 _ ev1 x rx => ?_)
    split at p1
    · rename_i k ht
      exact ⟨k, tru_at rep1 rx ht, p1 ρ1 H1 (Stp.refl ρ1 H1) rep1 _ (.bl _)⟩
    · exact False.elim p1
theorem d_if {t : Expr} {dt : DT} (ht : PT X t (tT X.K W dt)) (ha : PE X a (tE X.K W da)) (hb : PE X b (tE X.K W db)) : PE X (.IfExp t a b pos) (tE X.K W (dIf dt da db)) :=
  (pe_ifExp ht ha hb).wk fun σ H Q h => by
    obtain ⟨ρ, τ, S, rep, ev, post⟩ := h
    refine ⟨ρ, τ, S, rep, ev, (Post.bind post).imp fun k S1 ρ1 H1 s1 rep1 p1 => ?_⟩
    cases k with
    | true => exact iteT ⟨ρ1, τ, S1, rep1, ev.stp s1, p1⟩
    | false => exact iteF ⟨ρ1, τ, S1, rep1, ev.stp s1, p1⟩
/-! arguments -/
theorem a_nil : PA X [] (tA X.K W (dArgs [])) := pa_nil.wk fun σ H Q ⟨ρ, τ, S, rep, ev, post⟩ => Post.ok post rep [] .nil
theorem a_cons {es : List Expr} {ds : List DE} (ha : PE X a (tE X.K W da)) (hr : PA X es (tA X.K W (dArgs ds))) (hs : starEach (a :: es) X.env = (false, eval a X.env) :: starEach es X.env) : PA X (a :: es) (tA X.K W (dArgs (da :: ds))) :=
  (pa_cons ha hr hs).wk fun σ H Q h => by
    obtain ⟨ρ, τ, S, rep, ev, post⟩ := h
    refine tE.imp rep ev (Post.bind post |>.imp fun v S1 ρ1 H1 s1 _ p1 rep1 _ ev1 x rx => ?_)
    refine ⟨ρ1, τ, S1, rep1, ev1, (Post.bind p1).imp fun vs S2 ρ2 H2 s2 rep2 p2 xs rxs => ?_⟩
    exact Post.ok p2 rep2 _ (.cons (rx.stp s2) rxs)
theorem dArgs_length : ∀ {as : List DE} {τ : Ev} {S S' : Hs} {ds : List D}, dArgs as τ S = .ok ds S' → ds.length = as.length
  | [], τ, S, S', ds, h => by cases h; rfl
  | a :: r, τ, S, S', ds, h => by
    unfold dArgs at h
    cases e : a τ S with
    | ok v S1 =>
      rw [e] at h
      simp only [R.bind_ok] at h
      cases e2 : dArgs r τ S1 with
      | ok vs S2 =>
        rw [e2] at h
        cases h
        rw [List.length_cons, List.length_cons, dArgs_length e2]
      | exc _ _ => rw [e2] at h; cases h
      | bad => rw [e2] at h; cases h
    | exc _ _ => rw [e] at h; cases h
    | bad => rw [e] at h; cases h
theorem argsG {β : Type} {K : PySem.W.Frag} {as : List DE} {k : List D → Hs → R β} {σ : L2.St} {H : Hp} {Qb : β → Hs → List Addr → Hp → Prop} {R' : List V → Hp → Prop} (hr : ∀ ds xs ρ S H1, ds.length = as.length → Rep K ρ S H1 → RVs K ρ H1 ds xs → Post K W ρ H1 (k ds S) Qb → R' xs H1)
    (h : ∃ ρ τ S, Rep K ρ S H ∧ EvR K ρ H τ σ ∧ Post K W ρ H ((dArgs as τ S).bind k) Qb) : tA K W (dArgs as) σ H R' := by
  obtain ⟨ρ, τ, S, rep, ev, post⟩ := h
  refine ⟨ρ, τ, S, rep, ev, ?_⟩
  have p := Post.bind post
  cases e : dArgs as τ S with
  | ok vs S1 =>
    rw [e] at p
    exact fun ρ1 H1 s1 rep1 xs rxs => hr vs xs ρ1 S1 H1 (dArgs_length e) rep1 rxs (p ρ1 H1 s1 rep1)
  | exc _ _ => rw [e] at p; exact p
  | bad => rw [e] at p; exact p
theorem argsR {K : PySem.W.Frag} {as : List DE} {k : List D → Hs → R D} {σ : L2.St} {H : Hp} {Q : VK} {R' : List V → Hp → Prop} (hr : ∀ ds xs ρ S H1, ds.length = as.length → Rep K ρ S H1 → RVs K ρ H1 ds xs → PV K W ρ H1 (k ds S) Q → R' xs H1) (h : tE K W (fun τ S => (dArgs as τ S).bind k) σ H Q) : tA K W (dArgs as) σ H R' := argsG hr h
theorem d_tup {es : List Expr} {as : List DE} {x1} (h : PA X es (tA X.K W (dArgs as))) (hl : as.length ≤ sizeLine) : PE X (.Tuple es x1 pos) (tE X.K W (dTup as)) :=
  (pe_tup h).wk fun σ H Q h => argsR (fun ds xs ρ S H1 el rep r p => ⟨by rw [← r.length, el]; exact hl, new_tup rep r p⟩) h
theorem d_lst {es : List Expr} {as : List DE} (h : PA X es (tA X.K W (dArgs as))) (hl : as.length ≤ sizeLine) : PE X (.List es pos) (tE X.K W (dLst as)) :=
  (pe_lst h).wk fun σ H Q h => argsR (fun ds xs ρ S H1 el rep r p => ⟨by rw [← r.length, el]; exact hl, new_lst rep r p⟩) h
/-! slices -/
theorem po_n : PO X none (tO X.K W (dPart none)) := po_none.wk fun σ H Q ⟨ρ, τ, S, rep, ev, post⟩ => Post.ok post rep
theorem po_s (ha : PE X a (tE X.K W da)) : PO X (some a) (tO X.K W (dPart (some da))) :=
  (po_some ha).wk fun σ H Q h => by
    obtain ⟨ρ, τ, S, rep, ev, post⟩ := h
    refine tE.imp rep ev (Post.bind post |>.imp fun v S1 ρ1 H1 s1 _ p1 rep1 _ ev1 x rx => ?_)
    split at p1
    · cases rx
      exact ⟨_, rfl, Post.ok p1 rep1⟩
    · exact False.elim p1
theorem d_sl {lo hi : Option Expr} {l h : Option DE} {p2 : Pos} (ha : PE X a (tE X.K W da)) (hl : PO X lo (tO X.K W (dPart l))) (hh : PO X hi (tO X.K W (dPart h))) : PE X (.Subscript a (.Slice lo hi none p2) pos) (tE X.K W (dSl da l h)) :=
  (pe_slice (o_sl (W := W)) ha hl hh).wk fun σ H Q q => by
    obtain ⟨ρ, τ, S, rep, ev, post⟩ := q
    refine tE.imp rep ev (Post.bind post |>.imp fun v S1 ρ1 H1 s1 _ p1 rep1 _ ev1 x rx => ?_)
    refine ⟨ρ1, τ, S1, rep1, ev1, (Post.bind p1).imp fun o S2 ρ2 H2 s2 rep2 p2 => ?_⟩
    refine ⟨ρ2, τ, S2, rep2, ev1.stp s2, (Post.bind p2).imp fun o' S3 ρ3 H3 s3 rep3 p3 => ?_⟩
    exact ⟨ρ3, S3, v, rep3, (rx.stp s2).stp s3, p3⟩
theorem d_dict0 : PE X (.Dict [] [] pos) (tE X.K W dDict0) := pe_dnewK.wk fun σ H Q ⟨ρ, τ, S, rep, ev, post⟩ => new_dic rep post
/-! calls of built-ins -/
theorem d_blt {x : Str} {id : String} {p : Pos} {e : Expr} {es : List Expr} {as : List DE} {f : Fn} (hc : CallR X (.builtin id) (rDs X.K W f)) (hg : Gl X x) (hm : X.mg x = none) (hv : bootBuiltins x = some (.builtin id)) (ha : PA X (e :: es) (tA X.K W (dArgs as))) (hn : x ≠ "__name__") (hdb : (x == ("__debug__" : Str)) = false)
    (he : starEach (e :: es) X.env = (false, eval e X.env) :: starEach es X.env) (hpl : (backTo pos (starEach es X.env)).any (·.1) = false) : PE X (.Call (.Name x p) (e :: es) [] pos) (tE X.K W (dCall f as)) :=
  (pe_callB hc hg hm hv ha hn hdb he hpl).wk fun σ H Q h => argsR (fun ds xs ρ S H1 el rep r p => ⟨ρ, S, ds, rep, r, p⟩) h
theorem d_ty {x : Str} {id : String} {p : Pos} {e : Expr} {es : List Expr} {as : List DE} {f : Fn} (hc : CallR X (.type id) (rDs X.K W f)) (hg : Gl X x) (hm : X.mg x = none) (hv : bootBuiltins x = some (.type id)) (ha : PA X (e :: es) (tA X.K W (dArgs as))) (hn : x ≠ "__name__") (hdb : (x == ("__debug__" : Str)) = false)
    (he : starEach (e :: es) X.env = (false, eval e X.env) :: starEach es X.env) (hpl : (backTo pos (starEach es X.env)).any (·.1) = false) : PE X (.Call (.Name x p) (e :: es) [] pos) (tE X.K W (dCall f as)) :=
  (pe_callTy hc hg hm hv ha hn hdb he hpl).wk fun σ H Q h => argsR (fun ds xs ρ S H1 el rep r p => ⟨ρ, S, ds, rep, r, p⟩) h
theorem ty_recv {K : PySem.W.Frag} {ρ : List Addr} {S : Hs} {H : Hp} {d : D} {x : V} (rep : Rep K ρ S H) (r : RV K ρ H d x) : ∀ {T : MTy}, tyOk S d T = true → tyV K (match T with | .list => "list" | .str => "str" | .dict => "dict") x H
  | .list, h => by
    obtain ⟨ds, hd⟩ := Option.isSome_iff_exists.mp h
    obtain ⟨a, xs, rfl, q, _⟩ := lst_at rep hd r
    exact .inl ⟨rfl, xs, q⟩
  | .str, h => by
    cases r <;> try (cases h; done)
    exact rfl
  | .dict, h => by
    obtain ⟨⟨n, kvs⟩, hd⟩ := Option.isSome_iff_exists.mp h
    obtain ⟨a, ws, _, rfl, _, _, hw, _⟩ := dic_at rep hd r
    exact .inr (.inr (.inl ⟨rfl, .inl ⟨ws, hw⟩⟩))
def MTy.nm : MTy → String
  | .list => "list" | .str => "str" | .dict => "dict"
theorem d_mt {T : MTy} {name : Str} {id : String} {apos cpos : Pos} {e : Expr} {es : List Expr} {as : List DE} {f : D → List D → Hs → R D} (pa : PlainAttrs T.nm) (slot : Slot T.nm name id) (hty : typeOf (.builtin id) = pure (.type "method_descriptor")) (hm : MtR X id (rDm X.K W f)) (ho : PE X a (tE X.K W da)) (ha : PA X (e :: es) (tA X.K W (dArgs as)))
    (hbase : attributeBase a name X.env (eval a X.env) = eval a X.env)
    (hfew : ((backTo cpos (starEach (e :: es) X.env)).all (fun x => !x.1) && (backToKw cpos (keywordEach [] X.env)).all (fun x => x.1.isSome)
      && decide ((e :: es).length + ([] : List Keyword).length + (if ([] : List Keyword).isEmpty then 0 else 1) < 30)) = true)
    (hline : (apos.endLine == cpos.line) = true) (hs : starEach (e :: es) X.env = (false, eval e X.env) :: starEach es X.env) (hplain : (backTo cpos (starEach es X.env)).any (·.1) = false) : PE X (.Call (.Attribute a name apos) (e :: es) [] cpos) (tE X.K W (dMt T f da as)) :=
  (pe_bm pa slot hty hm ho ha hbase hfew hline hs hplain).wk fun σ H Q h => by
    obtain ⟨ρ, τ, S, rep, ev, post⟩ := h
    refine tE.imp rep ev (Post.bind post |>.imp fun v S1 ρ1 H1 s1 _ p1 rep1 _ ev1 x rx => ?_)
    split at p1
    · rename_i ht
      refine ⟨by have q := ty_recv rep1 rx ht; cases T <;> exact q, ?_⟩
      refine ⟨ρ1, τ, S1, rep1, ev1, (Post.bind p1).imp fun vs S2 ρ2 H2 s2 rep2 p2 xs rxs => ?_⟩
      exact ⟨ρ2, S2, v, vs, rep2, rx.stp s2, rxs, p2⟩
    · exact False.elim p1
theorem d_mt0 {T : MTy} {name : Str} {id : String} {apos cpos : Pos} {f : D → List D → Hs → R D} (pa : PlainAttrs T.nm) (slot : Slot T.nm name id) (hty : typeOf (.builtin id) = pure (.type "method_descriptor")) (hm : MtR X id (rDm X.K W f)) (ho : PE X a (tE X.K W da))
    (hbase : attributeBase a name X.env (eval a X.env) = eval a X.env) (hline : (apos.endLine == cpos.line) = true) : PE X (.Call (.Attribute a name apos) [] [] cpos) (tE X.K W (dMt T f da [])) :=
  (pe_bm0 pa slot hty hm ho hbase hline).wk fun σ H Q h => by
    obtain ⟨ρ, τ, S, rep, ev, post⟩ := h
    refine tE.imp rep ev (Post.bind post |>.imp fun v S1 ρ1 H1 s1 _ p1 rep1 _ ev1 x rx => ?_)
    split at p1
    · rename_i ht
      refine ⟨by have q := ty_recv rep1 rx ht; cases T <;> exact q, ?_⟩
      exact ⟨ρ1, S1, v, [], rep1, rx, .nil, p1⟩
    · exact False.elim p1
end
end Py

/-! Tests, targets, what is gone along, comprehensions, statements, calls of own defs. -/
namespace Py
open PySem PySem.Spec PyProof.Rows L2
section
variable {X : Cx} {W : XW} {a b c : Expr} {da db dc : DE} {pos : Pos}
/-! ### tests -/
theorem t_val (ha : PE X a (tE X.K W da)) (he : ∀ whole, isTrue a X.env whole = (do let v ← whole; standAt a.pos; holding [v] (truthy v))) : PT X a (tT X.K W (tTru da)) :=
  (pt_truth ha he).wk fun σ H Q h => by
    obtain ⟨ρ, τ, S, rep, ev, post⟩ := h
    refine tE.imp rep ev (Post.bind post |>.imp fun v S1 ρ1 H1 s1 _ p1 rep1 _ ev1 x rx => ?_)
    split at p1
    · rename_i k ht
      exact ⟨k, tru_at rep1 rx ht, Post.ok p1 rep1⟩
    · exact False.elim p1
theorem tBl_step {K : PySem.W.Frag} {d : DE} {σ : L2.St} {H : Hp} {Q : Bool → Hp → Prop} (h : tT K W (tBl d) σ H Q) : tE K W d σ H fun x H' => ∃ k, x = .bl k ∧ Q k H' := by
  obtain ⟨ρ, τ, S, rep, ev, post⟩ := h
  refine tE.imp rep ev (Post.bind post |>.imp fun v S1 ρ1 H1 s1 _ p1 rep1 _ ev1 x rx => ?_)
  cases v <;> try (exact False.elim p1)
  cases rx
  exact ⟨_, rfl, Post.ok p1 rep1⟩
theorem t_cmp {op : CmpOp} {f : O2} (ho : OpR X (compareOp op) (rD2 X.K W f)) (ha : PE X a (tE X.K W da)) (hb : PE X b (tE X.K W db)) (hm : behindInMarks op b = false) : PT X (.Compare a [op] [b] pos) (tT X.K W (tBl (dBin f da db))) :=
  (pt_cmpR ho ha hb hm).wk fun σ H Q h => two_step (fun _ _ _ q => q) (tBl_step h)
theorem tE.mono {K : PySem.W.Frag} {d : DE} {σ : L2.St} {H : Hp} {Q Q' : VK} (h : tE K W d σ H Q) (f : ∀ x H', Q x H' → Q' x H') : tE K W d σ H Q' := by
  obtain ⟨ρ, τ, S, rep, ev, post⟩ := h
  exact ⟨ρ, τ, S, rep, ev, post.imp fun v S1 ρ1 H1 _ _ p x rx => f x H1 (p x rx)⟩
theorem chain_step {K : PySem.W.Frag} {f g : O2} {σ : L2.St} {H : Hp} {Q : VK} (h : tE K W (dChain f g da db dc) σ H Q) : tChain (rD2 K W f) (rD2 K W g) (tE K W da) (tE K W db) (tE K W dc) σ H Q := by
  obtain ⟨ρ, τ, S, rep, ev, post⟩ := h
  refine tE.imp rep ev (Post.bind post |>.imp fun v S1 ρ1 H1 s1 _ p1 rep1 _ ev1 x rx => ?_)
  refine tE.imp rep1 ev1 (Post.bind p1 |>.imp fun w S2 ρ2 H2 s2 _ p2 rep2 _ ev2 y ry => ?_)
  refine ⟨ρ2, S2, v, w, rep2, rx.stp s2, ry, (Post.bind p2).imp fun z S3 ρ3 H3 s3 rep3 p3 z' rz => ?_⟩
  cases z <;> try (exact False.elim p3)
  rename_i k
  cases rz
  refine ⟨k, rfl, ?_⟩
  cases k with
  | true =>
    refine iteT (tE.imp rep3 (ev2.stp s3) (Post.bind p3 |>.imp fun u S4 ρ4 H4 s4 _ p4 rep4 _ _ t rt => ?_))
    exact ⟨ρ4, S4, w, u, rep4, (ry.stp s3).stp s4, rt, p4⟩
  | false => exact iteF (p3 ρ3 H3 (Stp.refl ρ3 H3) rep3 _ (.bl false))
theorem t_chain {op op' : CmpOp} {f g : O2} (ho : OpR X (compareOp op) (rD2 X.K W f)) (ho' : OpR X (compareOp op') (rD2 X.K W g)) (ha : PE X a (tE X.K W da)) (hb : PE X b (tE X.K W db)) (hc : PE X c (tE X.K W dc)) (hm : lastMarks [op, op'] [b, c] = false) : PT X (.Compare a [op, op'] [b, c] pos) (tT X.K W (tBl (dChain f g da db dc))) :=
  (pt_chain ho ho' ha hb hc hm).wk fun σ H Q h => chain_step (tBl_step h)
theorem t_not {t : DT} (ha : PT X a (tT X.K W t)) : PT X (.UnaryOp .Not a pos) (tT X.K W (tNotD t)) :=
  (pt_not ha).wk fun σ H Q h => by
    obtain ⟨ρ, τ, S, rep, ev, post⟩ := h
    exact ⟨ρ, τ, S, rep, ev, (Post.bind post).imp fun k S1 ρ1 H1 s1 rep1 p1 => Post.ok p1 rep1⟩
theorem w_and1 {t : DT} (ha : PT X a (tT X.K W t)) : PW X (.BoolOp .And [a] pos) (tT X.K W t) := pw_and1 ha
theorem w_or1 {t : DT} (ha : PT X a (tT X.K W t)) : PW X (.BoolOp .Or [a] pos) (tT X.K W t) := pw_or1 ha
theorem w_and {t u : DT} {rest : List Expr} (ha : PT X a (tT X.K W t)) (hb : PW X (.BoolOp .And (b :: rest) pos) (tT X.K W u)) : PW X (.BoolOp .And (a :: b :: rest) pos) (tT X.K W (tAndD t u)) :=
  (pw_and ha hb).wk fun σ H Q h => by
    obtain ⟨ρ, τ, S, rep, ev, post⟩ := h
    refine ⟨ρ, τ, S, rep, ev, (Post.bind post).imp fun k S1 ρ1 H1 s1 rep1 p1 => ?_⟩
    cases k with
    | true => exact iteT ⟨ρ1, τ, S1, rep1, ev.stp s1, p1⟩
    | false => exact iteF (Post.ok p1 rep1)
theorem w_or {t u : DT} {rest : List Expr} (ha : PT X a (tT X.K W t)) (hb : PW X (.BoolOp .Or (b :: rest) pos) (tT X.K W u)) : PW X (.BoolOp .Or (a :: b :: rest) pos) (tT X.K W (tOrD t u)) :=
  (pw_or ha hb).wk fun σ H Q h => by
    obtain ⟨ρ, τ, S, rep, ev, post⟩ := h
    refine ⟨ρ, τ, S, rep, ev, (Post.bind post).imp fun k S1 ρ1 H1 s1 rep1 p1 => ?_⟩
    cases k with
    | true => exact iteT (Post.ok p1 rep1)
    | false => exact iteF ⟨ρ1, τ, S1, rep1, ev.stp s1, p1⟩

/-! ### targets -/
theorem g_name {i : Nat} {x : Str} (hN : X.N.Nodup) (hi : X.N[i]? = some x) (hx : Loc X.env.scope x) (hf : X.fn x = true ∨ X.env.scope.names.lookup x = some .local) : PG X (.Name x pos) (tG X.K W (gSet i)) :=
  (pg_name hN hi hx hf).wk fun x σ H Q ⟨ρ, τ, S, d, rep, ev, r, post⟩ => Post.ok post rep _ (ev.set r)
def tGs (K : PySem.W.Frag) (W : XW) (gs : List DG) : TGs := fun xs σ H Q => ∃ ρ τ S ds, Rep K ρ S H ∧ EvR K ρ H τ σ ∧ RVs K ρ H ds xs ∧ Post K W ρ H (gEach gs ds τ S) fun τ' _ ρ' H' => ∀ σ', EvR K ρ' H' τ' σ' → Q σ' H'
theorem _root_.L2.PGs.wk {e : List Expr} {t t' : TGs} (h : PGs X e t) (f : ∀ x σ H Q, t' x σ H Q → t x σ H Q) : PGs X e t' := ⟨fun pins s σ H v u Q I r q => h.run pins s σ H v u Q I r (f v σ H Q q)⟩
theorem gs_nil : PGs X [] (tGs X.K W []) :=
  pgs_nil.wk fun xs σ H Q ⟨ρ, τ, S, ds, rep, ev, r, post⟩ => by
    cases r with
    | nil => exact ⟨rfl, Post.ok post rep _ ev⟩
    | cons _ _ => exact False.elim post
theorem gs_cons {es : List Expr} {g : DG} {gs : List DG} (h1 : PG X a (tG X.K W g)) (h2 : PGs X es (tGs X.K W gs)) (hs : (assignEach (a :: es) X.env).map (·.2) = assign a X.env :: (assignEach es X.env).map (·.2)) : PGs X (a :: es) (tGs X.K W (g :: gs)) :=
  (pgs_cons h1 h2 hs).wk fun xs σ H Q ⟨ρ, τ, S, ds, rep, ev, r, post⟩ => by
    cases r with
    | nil => exact False.elim post
    | cons rv rs =>
      refine ⟨_, _, rfl, ρ, τ, S, _, rep, ev, rv, (Post.bind post).imp fun τ1 S1 ρ1 H1 s1 rep1 p1 σ1 ev1 => ?_⟩
      exact ⟨ρ1, τ1, S1, _, rep1, ev1, rs.stp s1, p1⟩
theorem g_tup {es : List Expr} {gs : List DG} {k n : Nat} (hc : X.calm = true) (h : PGs X es (tGs X.K W gs)) (hn : (assignEach es X.env).length = n) (hst : (assignEach es X.env).findIdx? (·.1) = none) : PG X (.Tuple es k pos) (tG X.K W (gTupleN n gs)) :=
  (pg_tup hc h hn hst).wk fun x σ H Q ⟨ρ, τ, S, d, rep, ev, r, post⟩ => by
    cases r with
    | tup hq rs =>
      unfold gTupleN at post
      simp only at post
      split at post
      · rename_i hl
        exact ⟨_, _, rfl, hq, by rw [← rs.length]; exact hl, ρ, τ, S, _, rep, ev, rs, post⟩
      · exact False.elim post
    | _ => exact False.elim post
def rSetD (K : PySem.W.Frag) (W : XW) : V → V → V → Hp → (Hp → Prop) → Prop := fun o i v H Q => ∃ ρ S do' di dv, Rep K ρ S H ∧ RV K ρ H do' o ∧ RV K ρ H di i ∧ RV K ρ H dv v ∧ Post K W ρ H (setIx do' di dv S) fun _ _ _ H' => Q H'
theorem o_set (hu : X.A.units + 1 < cLine) : PSet X (rSetD X.K W) := by
  intro pins s σ H o i v ov iv u Q I ro ri rv ⟨ρ, S, d0, di, dv, rep, r0, r1, r2, post⟩
  unfold setIx at post
  split at post
  · rename_i n kvs hd
    obtain ⟨p, ws, _, rfl, hm, _, hw, rk⟩ := dic_at rep hd r0
    split at post
    · rename_i k hk
      have := key_at hk r1
      subst this
      split at post
      · rename_i hl
        cases ro
        refine d_setItem hu I (DPut.k hw (by rw [← rk.length]; exact hl)) ri rv fun s' I' => ⟨_, I', ?_⟩
        exact post ρ _ (stp_wr rep hm) (rep.wr hm ⟨_, upd_same, (rk.put k r2).stp (stp_wr rep hm)⟩)
      · exact False.elim post
    · exact False.elim post
  · split at post
    · rename_i n ds k hw
      obtain ⟨p, xs, _, rfl, hm, _, hp, rr⟩ := wr_at rep hw r0
      cases r1
      split at post
      · rename_i j hj
        refine set_list pins s σ H _ _ _ ov iv u Q I ro ri rv ⟨p, xs, k, j, rfl, rfl, hp, by rw [← rr.length]; exact hj, ?_⟩
        exact post ρ _ (stp_wr rep hm) (rep.wr hm ⟨_, upd_same, (rr.set j r2).stp (stp_wr rep hm)⟩)
      · exact False.elim post
    · exact False.elim post
theorem g_ix (hu : X.A.units + 1 < cLine) (ha : PE X a (tE X.K W da)) (hb : PE X b (tE X.K W db)) (hg : ∀ v, assign (.Subscript a b pos) X.env v = (do let ov ← holding [v] (eval a X.env); let iv ← holding [v, ov] (eval b X.env); standAt pos; holding [v, ov, iv] (setItem ov iv v); release [v, ov, iv] [])) : PG X (.Subscript a b pos) (tG X.K W (gIx da db)) :=
  (pg_sub ha hb (o_set (W := W) hu) hg).wk fun x σ H Q ⟨ρ, τ, S, d, rep, ev, r, post⟩ => by
    refine tE.imp rep ev (Post.bind post |>.imp fun v S1 ρ1 H1 s1 _ p1 rep1 _ ev1 y ry => ?_)
    refine tE.imp rep1 ev1 (Post.bind p1 |>.imp fun w S2 ρ2 H2 s2 _ p2 rep2 _ ev2 z rz => ?_)
    exact ⟨ρ2, S2, v, w, d, rep2, ry.stp s2, rz, (r.stp s1).stp s2, (Post.bind p2).imp fun _ S3 ρ3 H3 s3 rep3 p3 => Post.ok p3 rep3 _ (ev2.stp s3)⟩

/-! ### what is gone along -/
def JOk (K : PySem.W.Frag) (J : It) (ρ0 : List Addr) (H0 : Hp) (ds : List D) (w : List (Nat × List D)) : Prop := ∀ (i : Nat) (ρ : List Addr) (S : Hs) (H : Hp), Stp ρ0 H0 ρ H → Rep K ρ S H → chk w S = true →
  (∀ d, ds[i]? = some d → J.go i H ∧ ∀ x H', J.yld i H x H' → Stp ρ H ρ H' ∧ Rep K ρ S H' ∧ RV K ρ H' d x) ∧ (ds.length ≤ i → J.stop i H)
def tI (K : PySem.W.Frag) (W : XW) (d : DI) : TI := fun σ H R => ∃ ρ τ S, Rep K ρ S H ∧ EvR K ρ H τ σ ∧ Post K W ρ H (d τ S) fun p _ ρ' H' => ∀ J, JOk K J ρ' H' p.1 p.2 → R J H'
theorem watch_ok {x : D} {ds : List D} {S0 S : Hs} (h0 : lstOf S0 x = some ds) (h : chk (watch x ds) S = true) : lstOf S x = some ds := by
  cases x <;> try (cases h0; done)
  · exact h0
  · rename_i n
    simp only [watch, chk, List.all_cons, List.all_nil, Bool.and_true] at h
    split at h
    · rename_i es he
      rw [he, (D.eqbs_iff es ds).mp h]
    · cases h
theorem chk_app {u w : List (Nat × List D)} {S : Hs} (h : chk (u ++ w) S = true) : chk u S = true ∧ chk w S = true := by
  unfold chk at h ⊢
  rw [List.all_append, Bool.and_eq_true] at h
  exact h
theorem j_list {K : PySem.W.Frag} {ρ : List Addr} {S : Hs} {H : Hp} {x : D} {p : Addr} {ds : List D} (hd : lstOf S x = some ds) (rx : RV K ρ H x (.ref p)) : JOk K (Itl K p) ρ H ds (watch x ds) := by
  intro i ρ1 S1 H1 s1 rep1 hc
  obtain ⟨a', xs, e, q, r⟩ := lst_at rep1 (watch_ok hd hc) (rx.stp s1)
  cases e
  refine ⟨fun d hd => ?_, fun hl => ⟨xs, q, by rw [← r.length]; exact hl⟩⟩
  obtain ⟨v, hv, rv⟩ := r.get hd
  refine ⟨⟨xs, v, q, hv⟩, fun x' H' ⟨e, y⟩ => ?_⟩
  subst e
  have := y xs q
  rw [hv] at this; cases this
  exact ⟨Stp.refl _ _, rep1, rv⟩
theorem j_tup {K : PySem.W.Frag} {ρ : List Addr} {H : Hp} {p : Addr} {ds : List D} {xs : List V} (h : SqT K H p xs) (r : RVs K ρ H ds xs) : JOk K (Itt K p) ρ H ds [] := by
  intro i ρ1 S1 H1 s1 rep1 _
  have q := SqT.stp s1 h
  have r1 := r.stp s1
  refine ⟨fun d hd => ?_, fun hl => ⟨xs, q, by rw [← r.length]; exact hl⟩⟩
  obtain ⟨v, hv, rv⟩ := r1.get hd
  refine ⟨⟨xs, v, q, hv⟩, fun x' H' ⟨e, y⟩ => ?_⟩
  subst e
  have := y xs q
  rw [hv] at this; cases this
  exact ⟨Stp.refl _ _, rep1, rv⟩
theorem i_val {tg : Expr} (ha : PE X a (tE X.K W da)) : PI X tg a (tI X.K W (iVal da)) := by
  refine ⟨fun pins s σ H R I h => ?_⟩
  obtain ⟨ρ, τ, S, rep, ev, post⟩ := h
  have key : tE X.K W da σ H fun x H1 => (∃ p, x = .ref p ∧ (∃ xs, SqL X.K H1 p xs) ∧ R (Itl X.K p) H1) ∨ (∃ p, x = .ref p ∧ (∃ xs, SqT X.K H1 p xs) ∧ R (Itt X.K p) H1) ∨ ∃ y, x = .str y ∧ R (Its y) H1 := by
    refine tE.imp rep ev (Post.bind post |>.imp fun v S1 ρ1 H1 s1 _ p1 rep1 _ ev1 x rx => ?_)
    have lstC : ∀ v : D, RV X.K ρ1 H1 v x → Post X.K W ρ1 H1 (match lstOf S1 v with | some ds => .ok (ds, watch v ds) S1 | none => .bad) (fun p _ ρ' H' => ∀ J, JOk X.K J ρ' H' p.1 p.2 → R J H') → ∃ p, x = .ref p ∧ (∃ xs, SqL X.K H1 p xs) ∧ R (Itl X.K p) H1 := by
      intro v rx p1
      split at p1
      · rename_i ds hd
        obtain ⟨p, xs, rfl, q, _⟩ := lst_at rep1 hd rx
        exact ⟨p, rfl, ⟨xs, q⟩, Post.ok p1 rep1 _ (j_list hd rx)⟩
      · exact False.elim p1
    cases rx with
    | tup q r => exact .inr (.inl ⟨_, rfl, ⟨_, q⟩, Post.ok p1 rep1 _ (j_tup q r)⟩)
    | str y =>
      refine .inr (.inr ⟨y, rfl, Post.ok p1 rep1 _ ?_⟩)
      intro i ρ2 S2 H2 s2 rep2 _
      have el : (y.cps.toList.map fun c => D.str ⟨#[c]⟩).length = y.cps.size := by rw [List.length_map, Array.length_toList]
      refine ⟨fun d hd => ?_, fun hl => by rw [el] at hl; exact hl⟩
      rw [List.getElem?_map, Array.getElem?_toList] at hd
      cases hc : y.cps[i]? with
      | none => rw [hc] at hd; cases hd
      | some c =>
        rw [hc] at hd
        cases hd
        refine ⟨(Array.getElem?_eq_some_iff.mp hc).1, fun x' H' ⟨e, c', h1, h2⟩ => ?_⟩
        subst e h2
        rw [hc] at h1; cases h1
        exact ⟨Stp.refl _ _, rep2, .str _⟩
    | non => exact .inl (lstC _ .non p1)
    | bl b => exact .inl (lstC _ (.bl b) p1)
    | int b => exact .inl (lstC _ (.int b) p1)
    | ref b => exact .inl (lstC _ (.ref b) p1)
    | frl q r => exact .inl (lstC _ (.frl q r) p1)
  refine thn (ha.run pins s σ H _ I key) fun v s1 ⟨x, H1, I1, r1, q1⟩ => ?_
  rcases q1 with ⟨p, rfl, ⟨xs, hq⟩, q⟩ | ⟨p, rfl, ⟨xs, hq⟩, q⟩ | ⟨y, rfl, q⟩
  · cases r1
    obtain ⟨its, _, pl, _⟩ := I1.list hq
    exact wpAny_pyIter_list pl.isList (pi_one (tk := s1.toks) I1 _ (turn_list p _) ⟨_, Heap.get?_push_size _ rfl, rfl, rfl⟩ q)
  · cases r1
    obtain ⟨its, _, pl, _⟩ := I1.tuple hq
    exact wpAny_pyIter_tuple (show s1.heap.IsTuple p its.toArray from pl) (pi_one (tk := s1.toks) I1 _ (turn_tuple p _) ⟨_, Heap.get?_push_size _ rfl, rfl, rfl⟩ q)
  · obtain ⟨t, rfl⟩ := r1
    cases ha : y.cps.all (· < 128)
    · exact wpAny_pyIter_wide ha (pi_one (tk := s1.toks) I1 _ (turn_str _ y t _ (.inr rfl)) ⟨_, Heap.get?_push_size _ rfl, rfl, rfl⟩ q)
    · exact wpAny_pyIter_ascii ha (pi_one (tk := s1.toks) I1 _ (turn_str _ y t _ (.inl rfl)) ⟨_, Heap.get?_push_size _ rfl, rfl, rfl⟩ q)
theorem enumD_get : ∀ (ds : List D) (k i : Nat) (d : D), (enumD k ds)[i]? = some d → ∃ e, ds[i]? = some e ∧ d = .tup [.int ((k + i : Nat) : Int), e]
  | [], _, _, _, h => by simp [enumD] at h
  | e :: ds, k, 0, d, h => by simp [enumD] at h; exact ⟨e, rfl, h.symm⟩
  | e :: ds, k, i + 1, d, h => by
    obtain ⟨e', h1, h2⟩ := enumD_get ds (k + 1) i d (by simpa [enumD] using h)
    refine ⟨e', by simpa using h1, h2.trans ?_⟩
    rw [Nat.add_assoc, Nat.add_comm 1 i]
theorem enumD_length : ∀ (ds : List D) (k : Nat), (enumD k ds).length = ds.length
  | [], _ => rfl
  | _ :: ds, k => by simp [enumD, enumD_length ds]
theorem zipD_get : ∀ (ds es : List D) (i : Nat) (d : D), (zipD ds es)[i]? = some d → ∃ x y, ds[i]? = some x ∧ es[i]? = some y ∧ d = .tup [x, y]
  | [], _, _, _, h => by simp [zipD] at h
  | _ :: _, [], _, _, h => by simp [zipD] at h
  | x :: ds, y :: es, 0, d, h => by simp [zipD] at h; exact ⟨x, y, rfl, rfl, h.symm⟩
  | x :: ds, y :: es, i + 1, d, h => by
    obtain ⟨x', y', h1, h2, h3⟩ := zipD_get ds es i d (by simpa [zipD] using h)
    exact ⟨x', y', by simpa using h1, by simpa using h2, h3⟩
theorem zipD_length : ∀ (ds es : List D), (zipD ds es).length = min ds.length es.length
  | [], _ => by simp [zipD]
  | _ :: _, [] => by simp [zipD]
  | _ :: ds, _ :: es => by simp [zipD, zipD_length ds es]
theorem pair_new {K : PySem.W.Frag} {ρ : List Addr} {S : Hs} {H : Hp} {T : Addr} {d e : D} {x y : V} (rep : Rep K ρ S H) (hT : H T = none) (rd : RV K ρ H d x) (re : RV K ρ H e y) : Stp ρ H ρ (upd H T (.tup [x, y])) ∧ Rep K ρ S (upd H T (.tup [x, y])) ∧ RV K ρ (upd H T (.tup [x, y])) (.tup [d, e]) (.ref T) :=
  ⟨stp_tup hT, rep.tup hT, .tup (SqT.of upd_same) (.cons (rd.stp (stp_tup hT)) (.cons (re.stp (stp_tup hT)) .nil))⟩
theorem i_enum {p tpos : Pos} {elts : List Expr} {as : List DE} {kk : Nat} (hg : Gl X "enumerate") (hm : X.mg "enumerate" = none) (ha : PA X [a] (tA X.K W (dArgs as))) (hs : starEach [a] X.env = [(false, eval a X.env)]) : PI X (.Tuple elts kk tpos) (.Call (.Name "enumerate" p) [a] [] pos) (tI X.K W (iEnumD as)) :=
  (pi_enum hg hm ha hs).wk fun σ H R h => argsG (fun ds xs ρ1 S1 H1 _ rep1 rs p1 => by
    split at p1
    · obtain ⟨x, rfl, rx⟩ := RVs.one rs
      split at p1
      · rename_i ds hd
        obtain ⟨q, ys, rfl, hq, _⟩ := lst_at rep1 hd rx
        refine ⟨q, ys, rfl, hq, Post.ok p1 rep1 _ fun i ρ2 S2 H2 s2 rep2 hc => ?_⟩
        obtain ⟨q', zs, e', hz, rz⟩ := lst_at rep2 (watch_ok hd hc) (rx.stp s2)
        cases e'
        refine ⟨fun d hi => ?_, fun hl => ⟨zs, hz, by rw [← rz.length]; rw [enumD_length] at hl; exact hl⟩⟩
        obtain ⟨e1, h1, h2⟩ := enumD_get _ _ _ _ hi
        obtain ⟨u, hu, ru⟩ := rz.get h1
        refine ⟨⟨zs, u, hz, hu⟩, fun x' H' ⟨T, x2, ex, hT, eH, hy⟩ => ?_⟩
        have hx := hy zs hz
        rw [hu] at hx; cases hx
        subst ex eH h2
        rw [Nat.zero_add]
        exact pair_new rep2 hT (.int _) ru
      · exact False.elim p1
    · exact False.elim p1) h
theorem i_zip {p tpos : Pos} {elts : List Expr} {as : List DE} {kk : Nat} (hg : Gl X "zip") (hm : X.mg "zip" = none) (ha : PA X [a, b] (tA X.K W (dArgs as))) (hs : starEach [a, b] X.env = (false, eval a X.env) :: starEach [b] X.env) (hpl : (backTo pos (starEach [b] X.env)).any (·.1) = false) : PI X (.Tuple elts kk tpos) (.Call (.Name "zip" p) [a, b] [] pos) (tI X.K W (iZipD as)) :=
  (pi_zip hg hm ha hs hpl).wk fun σ H R h => argsG (fun ds xs ρ1 S1 H1 _ rep1 rs p1 => by
    split at p1
    · obtain ⟨x, y, rfl, rx, ry⟩ := RVs.two rs
      split at p1
      · rename_i ds hd
        split at p1
        · rename_i es he
          obtain ⟨q, xs, rfl, hq, _⟩ := lst_at rep1 hd rx
          obtain ⟨q2, ys, rfl, hq2, _⟩ := lst_at rep1 he ry
          refine ⟨q, q2, xs, ys, rfl, hq, hq2, Post.ok p1 rep1 _ fun i ρ2 S2 H2 s2 rep2 hc => ?_⟩
          obtain ⟨hc1, hc2⟩ := chk_app hc
          obtain ⟨_, zs, e', hz, rz⟩ := lst_at rep2 (watch_ok hd hc1) (rx.stp s2)
          cases e'
          obtain ⟨_, ws, e', hw, rw'⟩ := lst_at rep2 (watch_ok he hc2) (ry.stp s2)
          cases e'
          refine ⟨fun d hi => ?_, fun hl => ⟨zs, ws, hz, hw, by rw [← rz.length, ← rw'.length]; rw [zipD_length] at hl; omega⟩⟩
          obtain ⟨e1, e2, h1, h2, h3⟩ := zipD_get _ _ _ _ hi
          obtain ⟨u, hu, ru⟩ := rz.get h1
          obtain ⟨v, hv, rv⟩ := rw'.get h2
          refine ⟨⟨zs, ws, u, v, hz, hw, hu, hv⟩, fun x' H' ⟨T, x2, y2, ex, hT, eH, hx, hy⟩ => ?_⟩
          have hx := hx zs hz
          have hy := hy ws hw
          rw [hu] at hx; cases hx
          rw [hv] at hy; cases hy
          subst ex eH h3
          exact pair_new rep2 hT ru rv
        · exact False.elim p1
      · exact False.elim p1
    · exact False.elim p1) h
/-! range(..) -/
theorem rngOf_ok {K : PySem.W.Frag} {ρ : List Addr} {H : Hp} {ds : List D} {xs : List V} {us : List Value} {i j k : Int} (h : rngOf ds = some (i, j, k)) (r : RVs K ρ H ds xs) (v : Vals xs us) :
    (i = 0 ∧ k = 1 ∧ ∃ t, us = [.int j t]) ∨ (k = 1 ∧ ∃ t u, us = [.int i t, .int j u]) ∨ ∃ t u w, us = [.int i t, .int j u, .int k w] := by
  unfold rngOf at h
  split at h <;> cases h
  · obtain ⟨x, rfl, rx⟩ := RVs.one r
    cases rx
    obtain ⟨u, rfl, t, rfl⟩ := vals1 v
    exact .inl ⟨rfl, rfl, t, rfl⟩
  · obtain ⟨x, y, rfl, rx, ry⟩ := RVs.two r
    cases rx; cases ry
    obtain ⟨t, u, rfl⟩ := Vals.int2 v
    exact .inr (.inl ⟨rfl, t, u, rfl⟩)
  · cases r with | cons rx r => cases r with | cons ry r => cases r with | cons rz r =>
    cases r; cases rx; cases ry; cases rz
    cases v with | cons q v => cases v with | cons q2 v => cases v with | cons q3 v =>
    cases v
    obtain ⟨t, rfl⟩ := q
    obtain ⟨t2, rfl⟩ := q2
    obtain ⟨t3, rfl⟩ := q3
    exact .inr (.inr ⟨t, t2, t3, rfl⟩)
theorem rngOk_of {i j k : Int} (h : rngOk i j k = true) : k ≠ 0 ∧ k.natAbs < 1073741824 ∧ Builtin.Range.small i j k = true := by
  unfold rngOk at h
  rw [Bool.and_eq_true, Bool.and_eq_true] at h
  exact ⟨of_decide_eq_true h.1.1, of_decide_eq_true h.1.2, h.2⟩
theorem rgD_length (i k : Int) (n : Nat) : (rgD i k n).length = n := by unfold rgD; rw [List.length_map, List.length_range]
theorem rgD_get {i k : Int} {n m : Nat} {d : D} (h : (rgD i k n)[m]? = some d) : m < n ∧ d = .int (i + (m : Nat) * k) := by
  unfold rgD at h
  rw [List.getElem?_map] at h
  by_cases hm : m < n
  · rw [List.getElem?_range hm] at h
    cases h
    exact ⟨hm, rfl⟩
  · rw [List.getElem?_eq_none (by rw [List.length_range]; omega)] at h; cases h
theorem rng_nn (i j k : Int) : 0 ≤ Builtin.Range.rangeSize i j k := by
  unfold Builtin.Range.rangeSize
  split
  · split
    · have := Int.ediv_nonneg (a := j - i - 1) (b := k) (by omega) (by omega)
      omega
    · exact Int.le_refl 0
  · split
    · have := Int.ediv_nonneg (a := i - j - 1) (b := -k) (by omega) (by omega)
      omega
    · exact Int.le_refl 0
theorem rng_toNat (i j k : Int) : (Builtin.Range.rangeSize i j k) = (((Builtin.Range.rangeSize i j k).toNat : Nat) : Int) := by
  have := rng_nn i j k
  omega
theorem j_range {K : PySem.W.Frag} {ρ : List Addr} {H : Hp} {i k : Int} {n : Nat} : JOk K (Itc i k n) ρ H (rgD i k n) [] := by
  intro m ρ1 S1 H1 s1 rep1 _
  refine ⟨fun d hd => ?_, fun hl => by rw [rgD_length] at hl; exact hl⟩
  obtain ⟨hm, rfl⟩ := rgD_get hd
  refine ⟨hm, fun x' H' ⟨e, y⟩ => ?_⟩
  subst e y
  exact ⟨Stp.refl _ _, rep1, .int _⟩
theorem i_range {tg e : Expr} {p : Pos} {es : List Expr} {as : List DE} (hg : Gl X "range") (hm : X.mg "range" = none) (ha : PA X (e :: es) (tA X.K W (dArgs as))) (hs : starEach (e :: es) X.env = (false, eval e X.env) :: starEach es X.env) (hpl : (backTo pos (starEach es X.env)).any (·.1) = false) : PI X tg (.Call (.Name "range" p) (e :: es) [] pos) (tI X.K W (iRange as)) := by
  refine ⟨fun pins s σ H R I h => ?_⟩
  have key : tA X.K W (dArgs as) σ H fun xs H1 => ∃ ρ ds i j k, RVs X.K ρ H1 ds xs ∧ rngOf ds = some (i, j, k) ∧ rngOk i j k = true ∧ R (Itc i k (Builtin.Range.rangeSize i j k).toNat) H1 := argsG (fun ds xs ρ1 S1 H1 _ rep1 rs p1 => by
    split at p1
    · rename_i i j k hr
      split at p1
      · rename_i ok
        exact ⟨ρ1, ds, i, j, k, rs, hr, ok, Post.ok p1 rep1 _ j_range⟩
      · exact False.elim p1
    · exact False.elim p1) h
  refine Call_ (ld_blt I hg hm boot_range (PyProof.Rows.callWith_type1 (thn (ha.run pos pins s σ H _ I key) fun us s1 ⟨xs, H1, I1, r1, ρ1, ds, i, j, k, rs, hr, ok, q⟩ => ?_) hs hpl))
  obtain ⟨k0, k1, k2⟩ := rngOk_of ok
  have fin : ∀ (t u w : Tok) (tk : Nat), wpAny (model X.prog X.w) X.A (pyIter (.ref s1.heap.objs.size)) (PIE X pins σ tg R) X.xe { s1 with heap := s1.heap.push { cls := .type "range", data := .fields #[.int i t, .int j u, .int k w] }, toks := tk } := by
    intro t u w tk
    refine wpAny_pyIter_range (IsRange.new ..) k2 ?_
    have I2 : Inv X pins σ H1 { s1 with heap := s1.heap.push { cls := .type "range", data := .fields #[.int i t, .int j u, .int k w] }, toks := tk } := I1.kept (t' := tk) fun b o e => Heap.get?_push_of_some _ e
    refine pi_one (tk := tk) I2 _ (turn_rangeC _ i k (Builtin.Range.rangeSize i j k).toNat) ?_ q
    show IsRangeIter _ _ (i + ((0 : Nat) : Int) * k) (((Builtin.Range.rangeSize i j k).toNat : Int) - ((0 : Nat) : Int)) k
    rw [← rng_toNat, show i + ((0 : Nat) : Int) * k = i by simp, show Builtin.Range.rangeSize i j k - ((0 : Nat) : Int) = Builtin.Range.rangeSize i j k by simp]
    exact Heap.get?_push_size _ rfl
  rcases rngOf_ok hr rs r1 with ⟨rfl, rfl, t, rfl⟩ | ⟨rfl, t, u, rfl⟩ | ⟨t, u, w, rfl⟩
  · exact call_range_1 (fin _ _ _ _)
  · exact call_range_2 (fin _ _ _ _)
  · exact call_range_3 k0 (fin _ _ _ _) (.inl (PyProof.noPylong_small k1))
/-! list(range(..)) -/
theorem RVs.rg {K : PySem.W.Frag} {ρ : List Addr} {H : Hp} {i k : Int} : ∀ (l : List Nat), RVs K ρ H (l.map fun (m : Nat) => D.int (i + (m : Int) * k)) (l.map fun (m : Nat) => V.int (i + (m : Int) * k))
  | [] => .nil
  | _ :: l => .cons (.int _) (RVs.rg l)
theorem vals_rgC {i k : Int} {n : Nat} {acc : Array Value} (h : ItemsOf (fun m v => ∃ t, v = .int (i + m * k) t) acc n) : Vals ((List.range n).map fun (m : Nat) => V.int (i + (m : Int) * k)) acc.toList := by
  have e : acc.toList.length = n := by rw [Array.length_toList]; exact h.1
  rw [← e]
  refine vals_of_get acc.toList _ fun j u hj => ?_
  obtain ⟨t, rfl⟩ := h.2 j u (by rw [← hj, Array.getElem?_toList])
  exact ⟨t, rfl⟩
theorem d_range {e : Expr} {p p2 pos2 : Pos} {es : List Expr} {as : List DE} (hc : X.calm = true) (hg : Gl X "range") (hm : X.mg "range" = none) (hg2 : Gl X "list") (hm2 : X.mg "list" = none) (ha : PA X (e :: es) (tA X.K W (dArgs as))) (hs : starEach (e :: es) X.env = (false, eval e X.env) :: starEach es X.env) (hpl : (backTo pos (starEach es X.env)).any (·.1) = false)
    (na : starEach [.Call (.Name "range" p) (e :: es) [] pos] X.env = (false, eval (.Call (.Name "range" p) (e :: es) [] pos) X.env) :: starEach [] X.env) : PE X (.Call (.Name "list" p2) [.Call (.Name "range" p) (e :: es) [] pos] [] pos2) (tE X.K W (dRange as)) := by
  refine ⟨fun pins s σ H Q I h => ?_⟩
  have key : tA X.K W (dArgs as) σ H fun xs H1 => ∃ ρ ds i j k, RVs X.K ρ H1 ds xs ∧ rngOf ds = some (i, j, k) ∧ rngOk i j k = true ∧ (Builtin.Range.rangeSize i j k).toNat ≤ 2 ^ 24 ∧ ∀ q, H1 q = none → Q (.ref q) (upd H1 q (.lst ((List.range (Builtin.Range.rangeSize i j k).toNat).map fun (m : Nat) => V.int (i + (m : Int) * k)))) := argsG (fun ds xs ρ1 S1 H1 _ rep1 rs p1 => by
    split at p1
    · rename_i i j k hr
      split at p1
      · rename_i ok
        exact ⟨ρ1, ds, i, j, k, rs, hr, ok.1, ok.2, new_lst rep1 (RVs.rg _) p1⟩
      · exact False.elim p1
    · exact False.elim p1) h
  refine Call_ (ld_blt I hg2 hm2 boot_list (PyProof.Rows.callWith_type1 (args_cons (Call_ (ld_blt I hg hm boot_range (PyProof.Rows.callWith_type1 (thn (ha.run pos pins s σ H _ I key) fun us s1 ⟨xs, H1, I1, r1, ρ1, ds, i, j, k, rs, hr, ok, hl, q⟩ => ?_) hs hpl))) na) na))
  obtain ⟨k0, k1, k2⟩ := rngOk_of ok
  have fin : ∀ (t u w : Tok) (tk : Nat), wpAny (model X.prog X.w) X.A (spliced (backTo pos2 (starEach [] X.env))) (fun vs s2 => wpAny (model X.prog X.w) X.A (call (.type "list") (.ref s1.heap.objs.size :: vs)) (EP X pins σ Q) X.xe s2) X.xe { s1 with heap := s1.heap.push { cls := .type "range", data := .fields #[.int i t, .int j u, .int k w] }, toks := tk } := by
    intro t u w tk
    have I2 : Inv X pins σ H1 { s1 with heap := s1.heap.push { cls := .type "range", data := .fields #[.int i t, .int j u, .int k w] }, toks := tk } := I1.kept (t' := tk) fun b o e => Heap.get?_push_of_some _ e
    refine args_nil ?_
    refine call_list_range (n := (Builtin.Range.rangeSize i j k).toNat) (I2.ok.hd hc) (IsRange.new ..) k2 (rng_toNat i j k) hl fun h' tk acc c' hk e' hi => ?_
    refine ⟨.ref _, _, I2.laid (o := .lst _) hk (Nat.le_refl _) ⟨?_, acc.toList, c', vals_rgC hi, ?_⟩, rfl, q _ (I2.hok.fresh (Nat.le_refl _))⟩
    · rw [List.length_map, List.length_range, sizeLine_eq]; omega
    · rw [Array.toArray_toList]; exact e'
  rcases rngOf_ok hr rs r1 with ⟨rfl, rfl, t, rfl⟩ | ⟨rfl, t, u, rfl⟩ | ⟨t, u, w, rfl⟩
  · exact call_range_1 (fin _ _ _ _)
  · exact call_range_2 (fin _ _ _ _)
  · exact call_range_3 k0 (fin _ _ _ _) (.inl (PyProof.noPylong_small k1))
end
end Py

/-! Comprehensions. -/
namespace Py
open PySem PySem.Spec PyProof.Rows L2
abbrev WF : XW := fun _ _ _ _ => False
section
variable {K : PySem.W.Frag} {ρ ρ' : List Addr} {S : Hs} {H H' : Hp}
/-- the heap without D -/
def dl (H : Hp) (p : Addr) : Hp := fun b => if b = p then none else H b
theorem dl_same {p : Addr} : dl H p p = none := by unfold dl; rw [if_pos rfl]
theorem dl_ne {p b : Addr} (h : b ≠ p) : dl H p b = H b := by unfold dl; rw [if_neg h]
theorem dl_upd {p : Addr} {o : HO} (h : H p = some o) : upd (dl H p) p o = H := by
  funext b
  by_cases e : b = p
  · subst e; rw [upd_same, h]
  · rw [upd_ne e, dl_ne e]
theorem dl_fx {p : Addr} {o : HO} (h : H p = some o) (n : ¬ Fx o) : FxK H (dl H p) := fun a o' e f => by
  by_cases z : a = p
  · subst z; rw [h] at e; cases e; exact absurd f n
  · rw [dl_ne z]; exact e
theorem stp_dl {p : Addr} (s : Stp ρ H ρ' H') (h : H p = none) : Stp ρ H ρ' (dl H' p) :=
  ⟨s.pre, fun a o e c => by rw [dl_ne (ne_of_none e h)]; exact s.fr a o e c, s.new⟩
theorem rep_dl {p : Addr} {o : HO} (r : Rep K ρ S H) (m : p ∉ ρ) (h : H p = some o) (n : ¬ Fx o) : Rep K ρ S (dl H p) := by
  refine ⟨r.len, r.nd, fun i a c h1 h2 => (r.ok i a c h1 h2).fx (List.prefix_refl ρ) (dl_fx h n) (dl_ne fun z => ?_)⟩
  subst z; exact m (List.mem_of_getElem? h1)
theorem rep_add {p : Addr} {o : HO} (r : Rep K ρ S H) (h : H p = none) : Rep K ρ S (upd H p o) := by
  refine ⟨r.len, r.nd, fun i a c h1 h2 => ?_⟩
  have q := r.ok i a c h1 h2
  obtain ⟨o', e, _⟩ := q.there
  exact q.fx (List.prefix_refl ρ) (fun b o2 e2 _ => by rw [upd_ne (ne_of_none e2 h)]; exact e2) (upd_ne (ne_of_none e h))
theorem stp_add {p : Addr} {o : HO} (h : H p = none) : Stp ρ H ρ (upd H p o) :=
  ⟨List.prefix_refl ρ, fun a o' e _ => by rw [upd_ne (ne_of_none e h)]; exact e, fun _ m => .inl m⟩
end
theorem wipe_get (σ : L2.St) : ∀ (vs : List Nat) (j : Nat), (wipe σ vs)[j]? = if j ∈ vs ∧ j < σ.length then some none else σ[j]?
  | [], j => by simp [wipe]
  | v :: vs, j => by
    unfold wipe
    have ih := wipe_get σ vs j
    by_cases e : v = j
    · subst e
      by_cases hl : v < σ.length
      · rw [List.getElem?_set_self (by rw [wipe_length]; exact hl), if_pos ⟨List.mem_cons_self, hl⟩]
      · rw [List.getElem?_eq_none (by rw [List.length_set, wipe_length]; omega), if_neg (fun h => hl h.2), List.getElem?_eq_none (by omega)]
    · rw [List.getElem?_set_ne e, ih]
      have : (j ∈ v :: vs ∧ j < σ.length) ↔ (j ∈ vs ∧ j < σ.length) := by
        rw [List.mem_cons]
        constructor
        · rintro ⟨h | h, hl⟩
          · exact absurd h.symm e
          · exact ⟨h, hl⟩
        · rintro ⟨h, hl⟩; exact ⟨.inr h, hl⟩
      simp only [this]
theorem wipe_set {σ : L2.St} {vs : List Nat} {i : Nat} {v : Option V} (h : i ∈ vs) : wipe (σ.set i v) vs = wipe σ vs := by
  apply List.ext_getElem?
  intro j
  rw [wipe_get, wipe_get, List.length_set]
  by_cases e : i = j
  · subst e
    by_cases hl : i < σ.length
    · rw [if_pos ⟨h, hl⟩, if_pos ⟨h, hl⟩]
    · rw [if_neg (fun q => hl q.2), if_neg (fun q => hl q.2), List.getElem?_eq_none (by rw [List.length_set]; omega), List.getElem?_eq_none (by omega)]
  · rw [List.getElem?_set_ne e]
theorem wipe_wipe {σ : L2.St} {vs : List Nat} : wipe (wipe σ vs) vs = wipe σ vs := by
  apply List.ext_getElem?
  intro j
  rw [wipe_get, wipe_get, wipe_length]
  split
  · rfl
  · rfl
/-! targets, read exactly -/
def gNames : List Nat → TGs
  | [] => gNil
  | i :: is => gCons (gName i) (gNames is)
def Ctg.rd (K : PySem.W.Frag) : Ctg → TG
  | .one i => gName i
  | .many is => gTup K is.length (gNames is)
def Ctg.ix : Ctg → List Nat
  | .one i => [i]
  | .many is => is
section
variable {K : PySem.W.Frag} {ρ : List Addr} {S : Hs} {H : Hp}
theorem gEach_names {own : List Nat} {Q : L2.St → Hp → Prop} : ∀ (is : List Nat) (ds : List D) (xs : List V) (τ τ' : Ev) (S' : Hs) (σ σ0 : L2.St), RVs K ρ H ds xs → EvR K ρ H τ σ → wipe σ own = σ0 → (∀ i ∈ is, i ∈ own) → gEach (is.map gSet) ds τ S = .ok τ' S' → (∀ σ2, EvR K ρ H τ' σ2 → wipe σ2 own = σ0 → Q σ2 H) → gNames is xs σ H Q
  | [], ds, xs, τ, τ', S', σ, σ0, r, ev, hw, _, h, q => by
    cases r with
    | nil =>
      cases h
      exact ⟨rfl, q σ ev hw⟩
    | cons _ _ => cases h
  | i :: is, ds, xs, τ, τ', S', σ, σ0, r, ev, hw, hi, h, q => by
    cases r with
    | nil => cases h
    | cons rd rs =>
      refine ⟨_, _, rfl, ?_⟩
      exact gEach_names is _ _ _ τ' S' _ σ0 rs (ev.set rd) (by rw [wipe_set (hi i List.mem_cons_self)]; exact hw) (fun j hj => hi j (List.mem_cons_of_mem _ hj)) h q
theorem gEach_S : ∀ (is : List Nat) (ds : List D) (τ τ' : Ev) (S S' : Hs), gEach (is.map gSet) ds τ S = .ok τ' S' → S' = S
  | [], [], _, _, _, _, h => by cases h; rfl
  | [], _ :: _, _, _, _, _, h => by cases h
  | _ :: _, [], _, _, _, _, h => by cases h
  | i :: is, d :: ds, τ, τ', S, S', h => gEach_S is ds _ τ' S S' h
theorem ctg_S {g : Ctg} {d : D} {τ τ' : Ev} {S S' : Hs} (h : g.g d τ S = .ok τ' S') : S' = S := by
  cases g with
  | one i => cases h; rfl
  | many is =>
    simp only [Ctg.g, gTupleN] at h
    split at h
    · split at h
      · exact gEach_S _ _ _ _ _ _ h
      · cases h
    · cases h
theorem ctg_ok {g : Ctg} {own : List Nat} {Q : L2.St → Hp → Prop} {d : D} {x : V} {τ τ' : Ev} {S' : Hs} {σ σ0 : L2.St} (r : RV K ρ H d x) (ev : EvR K ρ H τ σ) (hw : wipe σ own = σ0) (hi : ∀ i ∈ g.ix, i ∈ own) (h : g.g d τ S = .ok τ' S') (q : ∀ σ2, EvR K ρ H τ' σ2 → wipe σ2 own = σ0 → Q σ2 H) : g.rd K x σ H Q := by
  cases g with
  | one i =>
    cases h
    exact q _ (ev.set r) (by rw [wipe_set (hi i List.mem_cons_self)]; exact hw)
  | many is =>
    simp only [Ctg.g, gTupleN] at h
    cases r with
    | tup hq rs =>
      simp only at h
      split at h
      · rename_i hl
        exact ⟨_, _, rfl, hq, by rw [← rs.length]; exact hl, gEach_names is _ _ τ τ' S' σ σ0 rs ev hw hi h q⟩
      · cases h
    | _ => cases h
end
section
variable {K : PySem.W.Frag} {g : Ctg} {t : DT} {elt : DE} {own : List Nat}
theorem lc_ok {ρ1 : List Addr} {τ : Ev} {σ : L2.St} {S1 : Hs} {H1 : Hp} {J : It} {w : List (Nat × List D)} {ds : List D} {p : Addr} {Q : VK} {W : XW} (hi : ∀ i ∈ g.ix, i ∈ own)
    (rep : Rep K ρ1 S1 H1) (ev : EvR K ρ1 H1 τ σ) (jok : JOk K J ρ1 H1 ds w) (hp : H1 p = none)
    (post : Post K W ρ1 H1 ((lcGo w g t elt (wipeD τ own) ds [] S1).bindN fun ys S => newL S ys) fun v _ ρ' H' => ∀ z, RV K ρ' H' v z → Q z H') :
    ∃ Wv : Nat → Nat → Hp → Prop, (∃ m, Wv 0 m (upd H1 p (.lst []))) ∧ ∀ i m H, Wv i m H →
      (J.stop i H ∧ Q (.ref p) H) ∨ (J.go i H ∧ ∃ Nx : Hp → Prop, (∀ H', Nx H' → ∃ m', m' < m ∧ Wv (i + 1) m' H') ∧ ∀ x H', J.yld i H x H' → g.rd K x (wipe σ own) H' fun σ2 H2 => wipe σ2 own = wipe σ own ∧ tT K WF t σ2 H2 fun b H3 =>
        if b = true then tE K WF elt σ2 H3 fun y H4 => ∃ acc, H4 p = some (.lst acc) ∧ acc.length < sizeLine ∧ Nx (upd H4 p (.lst (acc ++ [y]))) else Nx H3) := by
  refine ⟨fun i m H => i ≤ ds.length ∧ m = ds.length - i ∧ ∃ ρ S acc xs, H p = some (.lst xs) ∧ p ∉ ρ ∧ Stp ρ1 H1 ρ (dl H p) ∧ Rep K ρ S (dl H p) ∧ RVs K ρ (dl H p) acc xs ∧
      Post K W ρ (dl H p) ((lcGo w g t elt (wipeD τ own) (ds.drop i) acc S).bindN fun ys S => newL S ys) fun v _ ρ' H' => ∀ z, RV K ρ' H' v z → Q z H', ?_, ?_⟩
  · refine ⟨_, Nat.zero_le _, rfl, ρ1, S1, [], [], upd_same, rep.out hp, ?_⟩
    have e : dl (upd H1 p (.lst [])) p = H1 := by
      funext b
      by_cases z : b = p
      · subst z; rw [dl_same, hp]
      · rw [dl_ne z, upd_ne z]
    rw [e]
    exact ⟨Stp.refl _ _, rep, .nil, post⟩
  · rintro i m H ⟨hil, rfl, ρ, S, acc, xs, hpH, hpρ, s1, rep, racc, post⟩
    have hd0 : dl H p p = none := dl_same
    have eH : upd (dl H p) p (.lst xs) = H := dl_upd hpH
    have sH : Stp ρ (dl H p) ρ H := by
      have q := stp_add (ρ := ρ) (o := HO.lst xs) hd0
      rwa [eH] at q
    have repH : Rep K ρ S H := by
      have q := rep_add (o := HO.lst xs) rep hd0
      rwa [eH] at q
    by_cases hlt : i < ds.length
    · have hdr : ds.drop i = ds[i] :: ds.drop (i + 1) := List.drop_eq_getElem_cons hlt
      rw [hdr] at post
      simp only [lcGo] at post
      have hchk : chk w S = true := by
        cases hc : chk w S with
        | true => rfl
        | false => rw [hc] at post; exact False.elim post
      rw [if_pos hchk] at post
      obtain ⟨hgo, hyl⟩ := (jok i ρ S H (s1.trans sH) repH hchk).1 ds[i] (List.getElem?_eq_getElem hlt)
      refine .inr ⟨hgo, fun H' => ∃ ρ' S' acc' xs', H' p = some (.lst xs') ∧ p ∉ ρ' ∧ Stp ρ1 H1 ρ' (dl H' p) ∧ Rep K ρ' S' (dl H' p) ∧ RVs K ρ' (dl H' p) acc' xs' ∧
          Post K W ρ' (dl H' p) ((lcGo w g t elt (wipeD τ own) (ds.drop (i + 1)) acc' S').bindN fun ys S => newL S ys) fun v _ ρ' H' => ∀ z, RV K ρ' H' v z → Q z H', fun H' h => ⟨_, by omega, by omega, rfl, h⟩, fun x H' y => ?_⟩
      obtain ⟨s2, rep2, rx⟩ := hyl x H' y
      have s02 : Stp ρ (dl H p) ρ H' := sH.trans s2
      have hpH' : H' p = some (.lst xs) := s2.fr p _ hpH (.inl hpρ)
      have ev2 : EvR K ρ H' (wipeD τ own) (wipe σ own) := ((ev.stp (s1.trans s02))).wipe own
      cases eg : g.g ds[i] (wipeD τ own) S with
      | exc _ _ => rw [eg] at post; exact False.elim post
      | bad => rw [eg] at post; exact False.elim post
      | ok τ2 S2 =>
        have e2 := ctg_S eg
        subst e2
        rw [eg] at post
        simp only [Py.R.bindN_ok] at post
        refine ctg_ok rx ev2 wipe_wipe hi eg fun σ2 evs hw => ⟨hw, ρ, τ2, S2, rep2, evs, ?_⟩
        cases et : t τ2 S2 with
        | exc _ _ => rw [et] at post; exact False.elim post
        | bad => rw [et] at post; exact False.elim post
        | ok k S3 =>
          rw [et] at post
          simp only [Py.R.bindN_ok] at post
          intro ρ3 H3 s3 rep3
          have hpH3 : H3 p = some (.lst xs) := s3.fr p _ hpH' (.inl hpρ)
          have hpρ3 : p ∉ ρ3 := fun m => (s3.new p m).elim hpρ fun z => by rw [hpH'] at z; cases z
          cases k with
          | false =>
            refine iteF ?_
            have s03 : Stp ρ (dl H p) ρ3 (dl H3 p) := stp_dl (s02.trans s3) hd0
            refine ⟨ρ3, S3, acc, xs, hpH3, hpρ3, s1.trans s03, rep_dl rep3 hpρ3 hpH3 (fun z => z), racc.stp s03, ?_⟩
            rw [if_neg (by simp)] at post
            exact Post.stp post s03
          | true =>
            refine iteT ?_
            rw [if_pos rfl] at post
            refine ⟨ρ3, τ2, S3, rep3, evs.stp s3, ?_⟩
            cases ee : elt τ2 S3 with
            | exc _ _ => rw [ee] at post; exact False.elim post
            | bad => rw [ee] at post; exact False.elim post
            | ok y S4 =>
              rw [ee] at post
              simp only [Py.R.bindN_ok] at post
              intro ρ4 H4 s4 rep4 yv ry
              have hpH4 : H4 p = some (.lst xs) := s4.fr p _ hpH3 (.inl hpρ3)
              have hpρ4 : p ∉ ρ4 := fun m => (s4.new p m).elim hpρ3 fun z => by rw [hpH3] at z; cases z
              have s04 : Stp ρ (dl H p) ρ4 (dl H4 p) := stp_dl ((s02.trans s3).trans s4) hd0
              have fx4 : FxK H4 (dl H4 p) := dl_fx hpH4 fun z => z
              split at post
              · rename_i hl
                refine ⟨xs, hpH4, by rw [← racc.length]; exact hl, ρ4, S4, acc ++ [y], xs ++ [yv], upd_same, hpρ4, ?_⟩
                have e : dl (upd H4 p (.lst (xs ++ [yv]))) p = dl H4 p := by
                  funext b
                  by_cases z : b = p
                  · subst z; rw [dl_same, dl_same]
                  · rw [dl_ne z, upd_ne z, dl_ne z]
                rw [e]
                exact ⟨s1.trans s04, rep_dl rep4 hpρ4 hpH4 (fun z => z), (racc.stp s04).append (.cons (ry.fx (List.prefix_refl _) fx4) .nil), Post.stp post s04⟩
              · exact False.elim post
    · have e : i = ds.length := by omega
      subst e
      rw [List.drop_length] at post
      simp only [lcGo] at post
      have hchk : chk w S = true := by
        cases hc : chk w S with
        | true => rfl
        | false => rw [hc] at post; exact False.elim post
      rw [if_pos hchk] at post
      refine .inl ⟨(jok _ ρ S H (s1.trans sH) repH hchk).2 (Nat.le_refl _), ?_⟩
      have q := new_lst rep racc (Q := Q) (W := W) post p hd0
      rwa [eH] at q
end
section
variable {X : Cx} {W : XW}
theorem d_lc {elt tg iter : Expr} {ifs : List Expr} {scope : Scope} {own : List (Str × Nat)} {pos : Pos} {it : DI} {g : Ctg} {t : DT} {e : DE} (hc : X.calm = true) (hN : X.N.Nodup) (hi : PI X tg iter (tI X.K W it)) (ok : BlkOk X.N X.env.scope scope own) (hix : ∀ i ∈ g.ix, i ∈ own.map (·.2))
    (hg : ∀ (s : Shared) (H : Hp) (C : Addr) (cl : List (Str × Addr)) (fp : List Addr), PG (X.blk s H scope (compEnvC scope cl C X.env) fp) tg (g.rd X.K))
    (ht : ∀ (s : Shared) (H : Hp) (C : Addr) (cl : List (Str × Addr)) (fp : List Addr), PTs (X.blk s H scope (compEnvC scope cl C X.env) fp) ifs (tT X.K WF t))
    (he : ∀ (s : Shared) (H : Hp) (C : Addr) (cl : List (Str × Addr)) (fp : List Addr), PE (X.blk s H scope (compEnvC scope cl C X.env) fp) elt (tE X.K WF e))
    (hs : ∀ x, foldedSetIterable iter X.env x = pure x) : PE X (.ListComp elt [⟨tg, iter, ifs, 0⟩] scope pos) (tE X.K W (dLc it g t e (own.map (·.2)))) :=
  (pe_lc hc hN hi ok hg ht he hs).wk fun σ H Q h => by
    obtain ⟨ρ, τ, S, rep, ev, post⟩ := h
    exact ⟨ρ, τ, S, rep, ev, (Post.bind post).imp fun p S1 ρ1 H1 s1 rep1 p1 J jok D hD => lc_ok hix rep1 (ev.stp s1) jok hD p1⟩
end
end Py

/-! Statements, calls of own defs, a def's promise. -/
namespace Py
open PySem PySem.Spec PyProof.Rows L2
section
variable {X : Cx} {W : XW} {a b c : Expr} {da db dc : DE} {pos : Pos}
theorem Post.st {α : Type} {K : PySem.W.Frag} {ρ : List Addr} {H : Hp} {r : R α} {τ : Ev} {k : α → Hs → R Fl} {D : Ends} (h : Post K W ρ H (r.st τ k) (flQ K W D)) : Post K W ρ H r fun v S' ρ' H' => Post K W ρ' H' (k v S') (flQ K W D) := by
  cases r with
  | ok v S' => exact fun ρ' H' s' _ => Post.stp (r := k v S') h s'
  | exc e S' => exact h
  | bad => exact h
theorem st_step {d : DE} {K : PySem.W.Frag} {k : Ev → D → Hs → R Fl} {D : Ends} {σ : L2.St} {H : Hp} {Q : VK} (h : tS K W (fun τ S => (d τ S).st τ (k τ)) D σ H) (f : ∀ τ v S ρ H1 x, Rep K ρ S H1 → EvR K ρ H1 τ σ → RV K ρ H1 v x → Post K W ρ H1 (k τ v S) (flQ K W D) → Q x H1) : tE K W d σ H Q := by
  obtain ⟨ρ, τ, S, rep, ev, post⟩ := h
  exact ⟨ρ, τ, S, rep, ev, (Post.st post).imp fun v S1 ρ1 H1 s1 rep1 p1 x rx => f τ v S1 ρ1 H1 x rep1 (ev.stp s1) rx p1⟩
theorem s_expr (ha : PE X a (tE X.K W da)) (hs : swapsWith a none pos.line X.env = pure false) : PS X (.Expr a pos) (tS X.K W (sExpr da)) :=
  (ps_expr ha hs).wk fun D σ H h => st_step (k := fun τ _ S => .ok (.nx τ) S) h fun τ v S ρ H1 x rep ev rx p => Post.ok p rep _ ev
theorem s_ret (ha : PE X a (tE X.K W da)) : PS X (.Return (some a) pos) (tS X.K W (sRet da)) :=
  (ps_ret ha).wk fun D σ H h => st_step (k := fun τ v S => .ok (.rt v) S) h fun τ v S ρ H1 x rep ev rx p => Post.ok p rep _ rx
theorem s_pass : PS X (.Pass pos) (tS X.K W sPass) := ps_pass.wk fun D σ H ⟨ρ, τ, S, rep, ev, post⟩ => Post.ok post rep _ ev
theorem s_brk : PS X (.Break pos) (tS X.K W sBrk) := ps_break.wk fun D σ H ⟨ρ, τ, S, rep, ev, post⟩ => Post.ok post rep _ ev
theorem s_cnt : PS X (.Continue pos) (tS X.K W sCnt) := ps_continue.wk fun D σ H ⟨ρ, τ, S, rep, ev, post⟩ => Post.ok post rep _ ev
theorem asg_step {K : PySem.W.Frag} {g : DG} {D : Ends} {σ : L2.St} {H : Hp} (h : tS K W (sAsg da g) D σ H) : tAsg (tE K W da) (tG K W g) D σ H :=
  st_step (k := fun τ v S => (g v τ S).st τ fun τ S => .ok (.nx τ) S) h fun τ v S ρ H1 x rep ev rx p =>
    ⟨ρ, τ, S, v, rep, ev, rx, (Post.st p).imp fun τ2 S2 ρ2 H2 s2 rep2 p2 σ2 ev2 => Post.ok p2 rep2 _ ev2⟩
theorem s_asg {tg : Expr} {g : DG} (ha : PE X a (tE X.K W da)) (hg : PG X tg (tG X.K W g)) (hs : swapsWithSole [tg] a pos.line X.env = pure false) (hw : swappedStores [tg] a X.env = pure none) (h1 : (assignEach [tg] X.env).map (·.2) = [assign tg X.env]) : PS X (.Assign [tg] a pos) (tS X.K W (sAsg da g)) :=
  (ps_asg ha hg hs hw h1).wk fun D σ H h => asg_step h
theorem s_setLc {i : Nat} {y : Str} {py : Pos} {elt tg iter : Expr} {ifs : List Expr} {scope : Scope} {own : List (Str × Nat)} {pos spos : Pos} {it : DI} {g : Ctg} {t : DT} {e : DE} (hc : X.calm = true) (hN : X.N.Nodup) (hy : X.N[i]? = some y) (hyl : X.env.scope.names.lookup y = some .local)
    (hsw : swapsWith (.ListComp elt [⟨tg, iter, ifs, 0⟩] scope pos) (some (.Name y py)) spos.line X.env = pure true) (hi : PI X tg iter (tI X.K W it)) (ok : BlkOk X.N X.env.scope scope own) (hix : ∀ i ∈ g.ix, i ∈ own.map (·.2))
    (hg : ∀ (s : Shared) (H : Hp) (C : Addr) (cl : List (Str × Addr)) (fp : List Addr), PG (X.blk s H scope (compEnvC scope cl C X.env) fp) tg (g.rd X.K))
    (ht : ∀ (s : Shared) (H : Hp) (C : Addr) (cl : List (Str × Addr)) (fp : List Addr), PTs (X.blk s H scope (compEnvC scope cl C X.env) fp) ifs (tT X.K WF t))
    (he : ∀ (s : Shared) (H : Hp) (C : Addr) (cl : List (Str × Addr)) (fp : List Addr), PE (X.blk s H scope (compEnvC scope cl C X.env) fp) elt (tE X.K WF e))
    (hs : ∀ x, foldedSetIterable iter X.env x = pure x) : PS X (.Assign [.Name y py] (.ListComp elt [⟨tg, iter, ifs, 0⟩] scope pos) spos) (tS X.K W (sAsg (dLc it g t e (own.map (·.2))) (gSet i))) :=
  (ps_setLc hc hN hy hyl hsw hi ok hg ht he hs).wk fun D σ H h => by
    have h1 : tE X.K W (dLc it g t e (own.map (·.2))) σ H fun x H1 => D.nx (σ.set i (some x)) H1 := by
      refine st_step (k := fun τ v S => (gSet i v τ S).st τ fun τ S => .ok (.nx τ) S) h fun τ v S ρ H1 x rep ev rx p => ?_
      exact Post.ok p rep _ (ev.set rx)
    obtain ⟨ρ, τ, S, rep, ev, post⟩ := h1
    exact ⟨ρ, τ, S, rep, ev, (Post.bind post).imp fun p S1 ρ1 H1 s1 rep1 p1 J jok D hD => lc_ok hix rep1 (ev.stp s1) jok hD p1⟩
theorem stA_step {as : List DE} {K : PySem.W.Frag} {k : Ev → List D → Hs → R Fl} {D : Ends} {σ : L2.St} {H : Hp} {Q : List V → Hp → Prop} (h : tS K W (fun τ S => (dArgs as τ S).st τ (k τ)) D σ H) (f : ∀ τ v S ρ H1 x, Rep K ρ S H1 → EvR K ρ H1 τ σ → RVs K ρ H1 v x → Post K W ρ H1 (k τ v S) (flQ K W D) → Q x H1) : tA K W (dArgs as) σ H Q := by
  obtain ⟨ρ, τ, S, rep, ev, post⟩ := h
  exact ⟨ρ, τ, S, rep, ev, (Post.st post).imp fun v S1 ρ1 H1 s1 rep1 p1 x rx => f τ v S1 ρ1 H1 x rep1 (ev.stp s1) rx p1⟩
theorem s_par2 {i j : Nat} {x y : Str} {as : List DE} {px py pt : Pos} {kt k2 pt2} (hc : X.calm = true) (hN : X.N.Nodup) (hi : X.N[i]? = some x) (hj : X.N[j]? = some y) (hij : i ≠ j) (hx : X.env.scope.names.lookup x = some .local) (hy : X.env.scope.names.lookup y = some .local) (ha : PA X [a, b] (tA X.K W (dArgs as)))
    (hw : swappedStores [.Tuple [.Name x px, .Name y py] kt pt] (.Tuple [a, b] k2 pt2) X.env = pure (some [x, y])) (hs : swapsWithSole [.Tuple [.Name x px, .Name y py] kt pt] (.Tuple [a, b] k2 pt2) pos.line X.env = pure false) :
    PS X (.Assign [.Tuple [.Name x px, .Name y py] kt pt] (.Tuple [a, b] k2 pt2) pos) (tS X.K W (sPar2 i j as)) :=
  (ps_par hc hN hi hj hij hx hy ha hw hs).wk fun D σ H h => stA_step (k := fun τ ds S => match ds with | [v, w] => .ok (.nx ((τ.set i (some v)).set j (some w))) S | _ => .bad) h fun τ v S ρ H1 xs rep ev rx p => by
    split at p
    · obtain ⟨x, y, rfl, r1, r2⟩ := RVs.two rx
      exact ⟨x, y, rfl, Post.ok p rep _ ((ev.set r1).set r2)⟩
    · exact False.elim p
theorem s_par3 {i j l : Nat} {x y z : Str} {as : List DE} {px py pz pt : Pos} {kt k2 pt2} (hc : X.calm = true) (hN : X.N.Nodup) (hi : X.N[i]? = some x) (hj : X.N[j]? = some y) (hl : X.N[l]? = some z) (hij : i ≠ j) (hil : i ≠ l) (hjl : j ≠ l) (hx : X.env.scope.names.lookup x = some .local) (hy : X.env.scope.names.lookup y = some .local) (hz : X.env.scope.names.lookup z = some .local) (ha : PA X [a, b, c] (tA X.K W (dArgs as)))
    (hw : swappedStores [.Tuple [.Name x px, .Name y py, .Name z pz] kt pt] (.Tuple [a, b, c] k2 pt2) X.env = pure (some [x, y, z])) (hs : swapsWithSole [.Tuple [.Name x px, .Name y py, .Name z pz] kt pt] (.Tuple [a, b, c] k2 pt2) pos.line X.env = pure false) :
    PS X (.Assign [.Tuple [.Name x px, .Name y py, .Name z pz] kt pt] (.Tuple [a, b, c] k2 pt2) pos) (tS X.K W (sPar3 i j l as)) :=
  (ps_par3 hc hN hi hj hl hij hil hjl hx hy hz ha hw hs).wk fun D σ H h => stA_step (k := fun τ ds S => match ds with | [u, v, w] => .ok (.nx (((τ.set i (some u)).set j (some v)).set l (some w))) S | _ => .bad) h fun τ v S ρ H1 xs rep ev rx p => by
    split at p
    · cases rx with | cons r1 rx => cases rx with | cons r2 rx => cases rx with | cons r3 rx =>
      cases rx
      exact ⟨_, _, _, rfl, Post.ok p rep _ (((ev.set r1).set r2).set r3)⟩
    · exact False.elim p
theorem o_iadd : OpR X (inplaceOp .Add) (rD2 X.K W opIAdd) := by
  intro pins s σ H x y v u Q I rx ry ⟨ρ, S, d, e, rep, rd, re, post⟩
  cases d <;> cases e <;> try (exact False.elim post)
  · cases rd; cases re; exact iop_add pins s σ H _ _ v u Q I rx ry ⟨_, _, rfl, rfl, post.at rep (.int _)⟩
  · rename_i i j
    cases rd; cases re
    simp only [opIAdd] at post
    split at post
    · rename_i hl
      exact iop_add_str pins s σ H _ _ v u Q I rx ry ⟨i, j, rfl, rfl, hl, post.at rep (.str _)⟩
    · exact False.elim post
theorem o_isub : OpR X (inplaceOp .Sub) (rD2 X.K W opSub) := by
  intro pins s σ H x y v u Q I rx ry ⟨ρ, S, d, e, rep, rd, re, post⟩
  cases d <;> cases e <;> try (exact False.elim post)
  cases rd; cases re; exact iop_sub pins s σ H _ _ v u Q I rx ry ⟨_, _, rfl, rfl, post.at rep (.int _)⟩
theorem s_aug {i : Nat} {x : Str} {op : Operator} {f : O2} {pos' : Pos} (hN : X.N.Nodup) (hi : X.N[i]? = some x) (hx : Loc X.env.scope x) (ha : PE X a (tE X.K W da)) (ho : OpR X (inplaceOp op) (rD2 X.K W f)) (hf : X.fn x = true ∨ X.env.scope.names.lookup x = some .local) : PS X (.AugAssign (.Name x pos') op a pos) (tS X.K W (sAug i f da)) :=
  (ps_aug (ti := rD2 X.K W f) hN hi hx ha (fun pins s σ H x y v u Q I rx ry h => ho pins s σ H x y v u Q I rx ry h) hf).wk fun D σ H h => by
    obtain ⟨ρ, τ, S, rep, ev, post⟩ := h
    have post : Post X.K W ρ H ((dVar i τ S).st τ fun x S => (da τ S).st τ fun y S => (f x y S).st τ fun z S => .ok (.nx (τ.set i (some z))) S) (flQ X.K W D) := post
    cases hv : dVar i τ S with
    | exc _ _ => unfold dVar at hv; split at hv <;> cases hv
    | bad => rw [hv] at post; exact False.elim post
    | ok v S1 =>
      rw [hv] at post
      unfold dVar at hv
      split at hv
      · rename_i d hd
        cases hv
        obtain ⟨z, h1, h2⟩ := ev.2 i _ hd
        have post : Post X.K W ρ H ((da τ S).st τ fun y S => (f v y S).st τ fun z S => .ok (.nx (τ.set i (some z))) S) (flQ X.K W D) := post
        refine ⟨z, h1, ρ, τ, S, rep, ev, (Post.st post).imp fun w S2 ρ2 H2 s2 rep2 p2 y ry => ?_⟩
        exact ⟨ρ2, S2, _, w, rep2, h2.stp s2, ry, (Post.st p2).imp fun u S3 ρ3 H3 s3 rep3 p3 t rt => Post.ok p3 rep3 _ (((ev.stp s2).stp s3).set rt)⟩
      · cases hv
theorem ss_nil : PSs X [] (tS X.K W (sSeq [])) := pss_nil.wk fun D σ H ⟨ρ, τ, S, rep, ev, post⟩ => Post.ok post rep _ ev
theorem ss_cons {st : Stmt} {rest : List Stmt} {d : DS} {ds : List DS} (h1 : PS X st (tS X.K W d)) (h2 : PSs X rest (tS X.K W (sSeq ds))) : PSs X (st :: rest) (tS X.K W (sSeq (d :: ds))) :=
  (pss_cons h1 h2).wk fun D σ H h => by
    obtain ⟨ρ, τ, S, rep, ev, post⟩ := h
    refine ⟨ρ, τ, S, rep, ev, (Post.bind post).imp fun f S1 ρ1 H1 s1 rep1 p1 => ?_⟩
    cases f with
    | nx τ1 => exact fun σ1 ev1 => ⟨ρ1, τ1, S1, rep1, ev1, p1⟩
    | rt v => exact p1 ρ1 H1 (Stp.refl _ _) rep1
    | bk τ1 => exact p1 ρ1 H1 (Stp.refl _ _) rep1
    | ct τ1 => exact p1 ρ1 H1 (Stp.refl _ _) rep1
    | ex τ1 e => exact p1 ρ1 H1 (Stp.refl _ _) rep1
theorem s_if {t : DT} {p q : List Stmt} {d e : DS} (ht : PT X a (tT X.K W t)) (hp : PSs X p (tS X.K W d)) (hq : PSs X q (tS X.K W e)) : PS X (.If a p q pos) (tS X.K W (sIf t d e)) :=
  (ps_if ht hp hq).wk fun D σ H h => by
    obtain ⟨ρ, τ, S, rep, ev, post⟩ := h
    refine ⟨ρ, τ, S, rep, ev, (Post.st post).imp fun k S1 ρ1 H1 s1 rep1 p1 => ?_⟩
    cases k with
    | true => exact iteT ⟨ρ1, τ, S1, rep1, ev.stp s1, p1⟩
    | false => exact iteF ⟨ρ1, τ, S1, rep1, ev.stp s1, p1⟩
/-! loops -/
def turnEnd (again : DS) : Fl → Hs → R Fl := fun f S => match f with
  | .nx τ => again τ S
  | .ct τ => again τ S
  | .bk τ => .ok (.nx τ) S
  | .rt v => .ok (.rt v) S
  | .ex τ e => .ok (.ex τ e) S
theorem turn_ok {K : PySem.W.Frag} {again : DS} {D : Ends} {N : L2.St → Hp → Prop} {f : Fl} {S : Hs} {ρ : List Addr} {H : Hp} (rep : Rep K ρ S H) (p : Post K W ρ H (turnEnd again f S) (flQ K W D)) (hN : ∀ τ σ, f = .nx τ ∨ f = .ct τ → EvR K ρ H τ σ → N σ H) : flQ K W { D with nx := N, ct := N, bk := D.nx } f S ρ H := by
  cases f with
  | nx τ => exact fun σ ev => hN τ σ (.inl rfl) ev
  | ct τ => exact fun σ ev => hN τ σ (.inr rfl) ev
  | bk τ => exact p ρ H (Stp.refl _ _) rep
  | rt v => exact p ρ H (Stp.refl _ _) rep
  | ex τ e => exact p ρ H (Stp.refl _ _) rep
theorem s_for {tg iter : Expr} {body : List Stmt} {it : DI} {g : DG} {d : DS} (hp : PassesOwn (model X.prog X.w) X.A X.env X.xe) (hc : X.calm = true) (hi : PI X tg iter (tI X.K W it)) (hg : PG X tg (tG X.K W g)) (hb : PSs X body (tS X.K W d)) (hs : ∀ x, foldedSetIterable iter X.env x = pure x) : PS X (.For tg iter body [] pos) (tS X.K W (sFor it g d)) :=
  (ps_for hp hc hi hg hb hs).wk fun D σ H h => by
    obtain ⟨ρ, τ, S, rep, ev, post⟩ := h
    refine ⟨ρ, τ, S, rep, ev, (Post.st post).imp fun p S1 ρ1 H1 s1 rep1 p1 J jok => ?_⟩
    refine ⟨fun i m σ H => i ≤ p.1.length ∧ m = p.1.length - i ∧ ∃ ρ τ S, Stp ρ1 H1 ρ H ∧ Rep X.K ρ S H ∧ EvR X.K ρ H τ σ ∧ Post X.K W ρ H (forGo p.2 g d (p.1.drop i) τ S) (flQ X.K W D), ⟨_, Nat.zero_le _, rfl, ρ1, τ, S1, Stp.refl _ _, rep1, ev.stp s1, p1⟩, ?_⟩
    rintro i m σ2 H2 ⟨hil, rfl, ρ2, τ2, S2, s2, rep2, ev2, p2⟩
    have hchk : chk p.2 S2 = true := by
      cases hcx : chk p.2 S2 with
      | true => rfl
      | false => cases hd : p.1.drop i with
        | nil => rw [hd] at p2; simp only [forGo, hcx] at p2; exact False.elim p2
        | cons x r => rw [hd] at p2; simp only [forGo, hcx] at p2; exact False.elim p2
    by_cases hlt : i < p.1.length
    · obtain ⟨hgo, hyl⟩ := (jok i ρ2 S2 H2 s2 rep2 hchk).1 p.1[i] (List.getElem?_eq_getElem hlt)
      rw [List.drop_eq_getElem_cons hlt] at p2
      simp only [forGo] at p2
      rw [if_pos hchk] at p2
      refine .inr ⟨hgo, fun σ' H' => ∃ ρ τ S, Stp ρ1 H1 ρ H' ∧ Rep X.K ρ S H' ∧ EvR X.K ρ H' τ σ' ∧ Post X.K W ρ H' (forGo p.2 g d (p.1.drop (i + 1)) τ S) (flQ X.K W D), fun σ' H' h => ⟨_, by omega, by omega, rfl, h⟩, fun x H' y => ?_⟩
      obtain ⟨s3, rep3, rx⟩ := hyl x H' y
      refine ⟨ρ2, τ2, S2, _, rep3, ev2.stp s3, rx, (Post.st (Post.stp p2 s3)).imp fun τ4 S4 ρ4 H4 s4 rep4 p4 σ4 ev4 => ?_⟩
      refine ⟨ρ4, τ4, S4, rep4, ev4, (Post.bind (k := turnEnd (forGo p.2 g d (p.1.drop (i + 1)))) p4).imp fun f S5 ρ5 H5 s5 rep5 p5 => ?_⟩
      refine turn_ok rep5 p5 fun τ5 σ5 hf ev5 => ⟨ρ5, τ5, S5, ((s2.trans s3).trans s4).trans s5, rep5, ev5, ?_⟩
      rcases hf with rfl | rfl <;> exact p5
    · have e : i = p.1.length := by omega
      subst e
      rw [List.drop_length] at p2
      simp only [forGo] at p2
      rw [if_pos hchk] at p2
      exact .inl ⟨(jok _ ρ2 S2 H2 s2 rep2 hchk).2 (Nat.le_refl _), Post.ok p2 rep2 _ ev2⟩
theorem s_while {t : DT} {body : List Stmt} {d : DS} (hp : PassesOwn (model X.prog X.w) X.A X.env X.xe) (ht : PT X a (tT X.K W t)) (hb : PSs X body (tS X.K W d)) : PS X (.While a body [] pos) (tS X.K W (sWhile t d)) :=
  (ps_while hp ht hb).wk fun D σ H h => by
    obtain ⟨ρ, τ, S, rep, ev, post⟩ := h
    refine ⟨fun m σ H => ∃ ρ τ S, Rep X.K ρ S H ∧ EvR X.K ρ H τ σ ∧ Post X.K W ρ H (whGo t d m τ S) (flQ X.K W D), ⟨_, ρ, τ, S, rep, ev, post⟩, ?_⟩
    rintro m σ2 H2 ⟨ρ2, τ2, S2, rep2, ev2, p2⟩
    cases m with
    | zero => exact False.elim p2
    | succ m =>
      refine ⟨ρ2, τ2, S2, rep2, ev2, (Post.st p2).imp fun k S3 ρ3 H3 s3 rep3 p3 => ?_⟩
      cases k with
      | false => exact iteF (Post.ok p3 rep3 _ (ev2.stp s3))
      | true =>
        refine iteT ⟨fun σ' H' => ∃ ρ τ S, Rep X.K ρ S H' ∧ EvR X.K ρ H' τ σ' ∧ Post X.K W ρ H' (whGo t d m τ S) (flQ X.K W D), fun σ' H' h => ⟨m, Nat.lt_succ_self m, h⟩, ?_⟩
        refine ⟨ρ3, τ2, S3, rep3, ev2.stp s3, (Post.bind (k := turnEnd (whGo t d m)) p3).imp fun f S5 ρ5 H5 s5 rep5 p5 => ?_⟩
        refine turn_ok rep5 p5 fun τ5 σ5 hf ev5 => ⟨ρ5, τ5, S5, rep5, ev5, ?_⟩
        rcases hf with rfl | rfl <;> exact p5

/-! ### own defs -/
def spF (K : PySem.W.Frag) (EW : XK → XW) (n : Nat) (F : Fn) : Sp := fun vs H Q E => ∃ ρ S ds, Rep K ρ S H ∧ RVs K ρ H ds vs ∧ ds.length = n ∧ PV K (EW E) ρ H (F ds S) Q
theorem Post.wkW {α : Type} {K : PySem.W.Frag} {W W' : XW} {ρ : List Addr} {H : Hp} {r : R α} {Q : α → Hs → List Addr → Hp → Prop} (h : Post K W ρ H r Q) (f : ∀ e S ρ H, W e S ρ H → W' e S ρ H) : Post K W' ρ H r Q := by
  cases r with
  | ok v S' => exact h
  | exc e S' => exact fun ρ' H' s' rep => f _ _ _ _ (h ρ' H' s' rep)
  | bad => exact h
theorem d_call {CX : CXT} {k n : Nat} {f : Addr} {fd : FuncData} {ps : List Str} {EW : XK → XW} {F : Fn} {E : XK} {x : Str} {p : Pos} {e : Expr} {es : List Expr} {as : List DE} (hF : FnOk X.prog X.w X.K X.mg X.base CX k f fd ps (spF X.K EW n F)) (hr : Room k X.A) (hg : Gl X x) (hm : X.mg x = some (.ref f)) (hk : PySem.W.keepIn X.K (.ref f) = true) (hb : Binds X.K fd ps []) (hx : Passes CX X E)
    (hW : ∀ e S ρ H, W e S ρ H → EW E e S ρ H) (hn : as.length = n) (ha : PA X (e :: es) (tA X.K W (dArgs as))) (hdb : (x == ("__debug__" : Str)) = false) (he : starEach (e :: es) X.env = (false, eval e X.env) :: starEach es X.env) (hpl : (backTo pos (starEach es X.env)).any (·.1) = false) : PE X (.Call (.Name x p) (e :: es) [] pos) (tE X.K W (dCall F as)) :=
  (pe_call (dvs := []) hF hr hg hm hk hb .nil hx ha hdb he hpl).wk fun σ H Q h => argsR (fun ds xs ρ S H1 el rep r p => ⟨ρ, S, ds, rep, by rw [List.append_nil]; exact r, by rw [el]; exact hn, p.wkW hW⟩) h
theorem d_call0 {CX : CXT} {k : Nat} {f : Addr} {fd : FuncData} {ps : List Str} {EW : XK → XW} {F : Fn} {E : XK} {x : Str} {p : Pos} (hF : FnOk X.prog X.w X.K X.mg X.base CX k f fd ps (spF X.K EW 0 F)) (hr : Room k X.A) (hg : Gl X x) (hm : X.mg x = some (.ref f)) (hk : PySem.W.keepIn X.K (.ref f) = true) (hb : Binds X.K fd ps []) (hx : Passes CX X E)
    (hW : ∀ e S ρ H, W e S ρ H → EW E e S ρ H) (hdb : (x == ("__debug__" : Str)) = false) : PE X (.Call (.Name x p) [] [] pos) (tE X.K W (dCall F [])) :=
  (pe_call0 (dvs := []) hF hr hg hm hk hb .nil hx hdb).wk fun σ H Q h => by
    obtain ⟨ρ, τ, S, rep, ev, post⟩ := h
    exact ⟨ρ, S, [], rep, .nil, rfl, Post.wkW (r := F [] S) post hW⟩
end
theorem EvR.begin {K : PySem.W.Frag} {ρ : List Addr} {H : Hp} {ds : List D} {vs : List V} (N : List Str) (r : RVs K ρ H ds vs) : EvR K ρ H (ds.map some ++ List.replicate (N.length - ds.length) none) (L2.start N vs) := by
  unfold L2.start
  refine ⟨by rw [List.length_append, List.length_append, List.length_map, List.length_map, List.length_replicate, List.length_replicate, r.length], fun i d h => ?_⟩
  by_cases hi : i < ds.length
  · rw [List.getElem?_append_left (by rw [List.length_map]; exact hi), List.getElem?_map] at h
    rw [List.getElem?_append_left (by rw [List.length_map, ← r.length]; exact hi), List.getElem?_map]
    cases e : ds[i]? with
    | none => rw [e] at h; cases h
    | some d' =>
      rw [e] at h
      cases h
      obtain ⟨v, h1, h2⟩ := r.get e
      exact ⟨v, by rw [h1]; rfl, h2⟩
  · rw [List.getElem?_append_right (by rw [List.length_map]; omega), List.getElem?_replicate] at h
    split at h <;> cases h
/-- a def without errors, from its body's reading -/
theorem body_ok {K : PySem.W.Frag} {W : XW} {np : Nat} {N : List Str} {body : DS} {vs : List V} {H : Hp} {Q : VK} {ρ : List Addr} {S : Hs} {ds : List D} (rep : Rep K ρ S H) (r : RVs K ρ H ds vs) (hl : ds.length = np) (post : PV K W ρ H (runFn np N.length body ds S) Q) : tS K W body { nx := fun _ H' => Q .non H', rt := Q } (L2.start N vs) H := by
  unfold runFn at post
  rw [if_pos hl] at post
  refine ⟨ρ, _, S, rep, by rw [← hl] at post; exact EvR.begin N r, ?_⟩
  rw [hl]
  refine (Post.bind post).imp fun f S1 ρ1 H1 s1 rep1 p1 => ?_
  cases f with
  | nx τ => exact fun σ _ => Post.ok p1 rep1 _ .non
  | rt v => exact p1 ρ1 H1 (Stp.refl _ _) rep1
  | bk τ => exact False.elim p1
  | ct τ => exact False.elim p1
  | ex τ e => exact p1 ρ1 H1 (Stp.refl _ _) rep1
end Py

/-! From the program's syntax to the reading, by a function; that it is right. -/
namespace Py
open PySem PySem.Spec PyProof.Rows L2

/-! ### the function -/
structure FunE where
  nm : Str
  ar : Nat
  fn : Fn
structure CC where
  N : List Str
  funs : List FunE
  lits : List (Str × D)
def ixOf (x : Str) : List Str → Option Nat
  | [] => none
  | y :: r => if x = y then some 0 else (ixOf x r).map (· + 1)
theorem ixOf_get {x : Str} : ∀ {N : List Str} {i : Nat}, ixOf x N = some i → N[i]? = some x
  | [], _, h => by cases h
  | y :: r, i, h => by
    unfold ixOf at h
    split at h
    · rename_i e
      cases h; subst e; rfl
    · cases e : ixOf x r with
      | none => rw [e] at h; cases h
      | some j => rw [e] at h; cases h; show r[j]? = some x; exact ixOf_get e
def findFn (x : Str) : List FunE → Option FunE
  | [] => none
  | f :: r => if f.nm = x then some f else findFn x r
theorem findFn_mem {x : Str} : ∀ {l : List FunE} {f : FunE}, findFn x l = some f → f ∈ l ∧ f.nm = x
  | [], _, h => by cases h
  | g :: r, f, h => by
    unfold findFn at h
    split at h
    · rename_i e; cases h; exact ⟨List.mem_cons_self, e⟩
    · obtain ⟨a, b⟩ := findFn_mem h; exact ⟨List.mem_cons_of_mem _ a, b⟩
def look_mem {α β : Type} [DecidableEq α] {k : α} : ∀ {l : List (α × β)} {v : β}, look l k = some v → (k, v) ∈ l
  | [], _, h => by cases h
  | (a, b) :: r, v, h => by
    unfold look at h
    split at h
    · rename_i e; cases h; subst e; exact List.mem_cons_self
    · exact List.mem_cons_of_mem _ (look_mem h)
def glo (sc : Scope) (x : Str) : Bool := match sc.names.lookup x with
  | some .globalImplicit => true
  | _ => false
def vis (sc : Scope) (x : Str) : Bool := match sc.names.lookup x with
  | some .local => true
  | some .cell => true
  | some .free => true
  | _ => false
def plainName (x : Str) : Bool := !(x == ("__debug__" : Str)) && !(x == ("__classdict__" : Str)) && !(x == ("__name__" : Str))
abbrev RE := Scope → (Str → Bool) → Expr → Option DE
abbrev RT := Scope → (Str → Bool) → Expr → Option DT
def cList {α : Type} (f : Expr → Option α) : List Expr → Option (List α)
  | [] => some []
  | e :: r => match f e with
    | some d => match cList f r with
      | some ds => some (d :: ds)
      | none => none
    | none => none
def notStar : Expr → Bool
  | .Starred _ _ => false
  | _ => true
def binF : Operator → Option O2
  | .Add => some opAdd
  | .Sub => some opSub
  | .Mult => some opMul
  | .FloorDiv => some opDiv
  | .Mod => some opMod
  | .Pow => some opPow
  | _ => none
def cmpF : CmpOp → Option O2
  | .Eq => some opEq
  | .NotEq => some opNe
  | .Lt => some opLt
  | .LtE => some opLe
  | .Gt => some opGt
  | .GtE => some opGe
  | .Is => some opIs
  | .IsNot => some opIsN
  | .In => some opIn
  | .NotIn => some opNi
def augF : Operator → Option O2
  | .Add => some opIAdd
  | .Sub => some opSub
  | _ => none
def bltF (x : Str) : Option Fn :=
  if x = "len" then some fLen else if x = "abs" then some fAbs else if x = "max" then some fMax else if x = "min" then some fMin else if x = "sum" then some fSum else if x = "all" then some fAll else if x = "any" then some fAny else none
def tyF (x : Str) : Option Fn :=
  if x = "int" then some fInt else if x = "str" then some fStr else if x = "list" then some fList else if x = "tuple" then some fTuple else none
def tyNames (x : Str) : Option String :=
  if x = "int" then some "int" else if x = "str" then some "str" else if x = "list" then some "list" else if x = "tuple" then some "tuple" else if x = "bool" then some "bool" else if x = "dict" then some "dict" else none
def bltNames : List Str := ["len", "abs", "max", "min", "sum", "all", "any", "int", "str", "list", "tuple", "bool", "dict", "isinstance", "range", "enumerate", "zip"]
def mthF (m : Str) : Option (MTy × (D → List D → Hs → R D)) :=
  if m = "append" then some (.list, mAppend) else if m = "extend" then some (.list, mExtend) else if m = "join" then some (.str, mJoin) else if m = "split" then some (.str, mSplit) else if m = "partition" then some (.str, mPartition) else none
def mthF0 (m : Str) : Option (MTy × (D → List D → Hs → R D)) :=
  if m = "pop" then some (.list, mPop) else if m = "clear" then some (.list, mClear) else if m = "reverse" then some (.list, mReverse) else none
def notSl : Expr → Bool
  | .Slice _ _ _ _ => false
  | _ => true
def notCall0 : Expr → Bool
  | .Call (.Name _ _) [] [] _ => false
  | _ => true
def notSet : Expr → Bool
  | .Set _ _ _ => false
  | _ => true
def notComp : Expr → Bool
  | .ListComp _ _ _ _ => false
  | .SetComp _ _ _ _ => false
  | .DictComp _ _ _ _ _ => false
  | _ => true
def cOpt (f : Expr → Option DE) : Option Expr → Option (Option DE)
  | none => some none
  | some e => (f e).map some
def cName (cx : CC) (sc : Scope) (x : Str) : Option DE :=
  if plainName x = true then
    if vis sc x = true then (ixOf x cx.N).map dVar else if glo sc x = true then (look cx.lits x).map dLit else none
  else none
def cConst : Const → Option DE
  | .int i => some (dLit (.int i))
  | .bool b => some (dLit (.bl b))
  | .none => some (dLit .non)
  | .str x => some (dLit (.str x))
  | _ => none
/-- and, or of values -/
def cBool (op : BoolOp) (f : Expr → Option DE) : List Expr → Option DE
  | [] => none
  | [a] => f a
  | a :: b :: r => match f a, cBool op f (b :: r) with
    | some da, some db => some (match op with | .And => dAnd da db | .Or => dOr da db)
    | _, _ => none
def cBoolT (op : BoolOp) (f : Expr → Option DT) : List Expr → Option DT
  | [] => none
  | [a] => f a
  | a :: b :: r => match f a, cBoolT op f (b :: r) with
    | some da, some db => some (match op with | .And => tAndD da db | .Or => tOrD da db)
    | _, _ => none
def cCmp (f : Expr → Option DE) (a : Expr) : List CmpOp → List Expr → Option DE
  | [op], [b] => if behindInMarks op b = false then match cmpF op, f a, f b with
    | some o, some da, some db => some (dBin o da db)
    | _, _, _ => none
    else none
  | [op, op'], [b, c] => if lastMarks [op, op'] [b, c] = false then match cmpF op, cmpF op', f a, f b, f c with
    | some o, some o', some da, some db, some dc => some (dChain o o' da db dc)
    | _, _, _, _, _ => none
    else none
  | _, _ => none
def cCall (cx : CC) (f : Expr → Option DE) (sc : Scope) (x : Str) (es : List Expr) : Option DE :=
  if plainName x = true ∧ glo sc x = true then match findFn x cx.funs with
    | some g => match cList f es with
      | some as => if as.length = g.ar then some (dCall g.fn as) else none
      | none => none
    | none => match es with
      | [] => none
      | e :: es => match cList f (e :: es) with
        | some as => match bltF x with
          | some g => some (dCall g as)
          | none => match tyF x with
            | some g => some (dCall g as)
            | none => none
        | none => none
  else none
/-- isinstance(e, T) -/
def cIsi (f : Expr → Option DE) (sc : Scope) (x : Str) : List Expr → Option DE
  | [e, .Name t _] => if x = "isinstance" ∧ glo sc x = true ∧ glo sc t = true then match tyNames t, f e with
    | some T, some d => some (dUn (opIsi T) d)
    | _, _ => none
    else none
  | _ => none
/-- list(range(..)) -/
def cLrg (f : Expr → Option DE) (sc : Scope) (x : Str) : List Expr → Option DE
  | [.Call (.Name r _) (e :: es) [] _] => if x = "list" ∧ r = "range" ∧ glo sc x = true ∧ glo sc r = true then (cList f (e :: es)).map dRange else none
  | _ => none
def cMeth (f : Expr → Option DE) (o : Expr) (m : Str) (l : Bool) : List Expr → Option DE
  | [] => if notCall0 o = true ∧ l = true then match mthF0 m, f o with
    | some (T, g), some d => some (dMt T g d [])
    | _, _ => none
    else none
  | e :: es => if notCall0 o = true ∧ l = true ∧ es.length < 20 then match mthF m, f o, cList f (e :: es) with
    | some (T, g), some d, some as => some (dMt T g d as)
    | _, _, _ => none
    else none
def cSub (f : Expr → Option DE) (a : Expr) : Expr → Option DE
  | .Slice none none (some (.UnaryOp .USub (.Constant (.int 1) _ _) _)) _ => (f a).map (dUn opRev)
  | .Slice lo hi none _ => match f a, cOpt f lo, cOpt f hi with
    | some d, some l, some h => some (dSl d l h)
    | _, _, _ => none
  | b => if notSl b = true then match f a, f b with
    | some d, some e => some (dBin opIx d e)
    | _, _ => none
    else none
/-- what is gone along -/
def cIter (f : Expr → Option DE) (sc : Scope) (isT : Bool) (it : Expr) : Option DI :=
  match it with
  | .Call (.Name x _) (e :: es) [] _ =>
    if x = "range" ∧ glo sc x = true then (cList f (e :: es)).map iRange
    else if x = "enumerate" ∧ glo sc x = true then (match isT, es with
      | true, [] => (cList f [e]).map iEnumD
      | _, _ => none)
    else if x = "zip" ∧ glo sc x = true then (match isT, es with
      | true, [e2] => (cList f [e, e2]).map iZipD
      | _, _ => none)
    else (f it).map iVal
  | it => if notSet it = true then (f it).map iVal else none
def isTupE : Expr → Bool
  | .Tuple _ _ _ => true
  | _ => false
/-- a name that may be stored: its place -/
def cSlot (cx : CC) (sc : Scope) (fn : Str → Bool) (x : Str) : Option Nat :=
  match sc.names.lookup x with
  | some .local => ixOf x cx.N
  | some .cell => if fn x = true then ixOf x cx.N else none
  | _ => none
def cSlots (cx : CC) (sc : Scope) (fn : Str → Bool) : List Expr → Option (List Nat)
  | [] => some []
  | .Name x _ :: r => match cSlot cx sc fn x, cSlots cx sc fn r with
    | some i, some is => some (i :: is)
    | _, _ => none
  | _ => none
def cCtg (cx : CC) (sc : Scope) (fn : Str → Bool) : Expr → Option Ctg
  | .Name x _ => (cSlot cx sc fn x).map .one
  | .Tuple es _ _ => (cSlots cx sc fn es).map .many
  | _ => none
def relSc (scope sc : Scope) : Scope := { scope with names := scope.names.map fun (n, k) => if (k == .free && sc.kind == .function && sc.names.lookup n == some .cell) then (n, .cell) else (n, k) }
def ownOf (N : List Str) (scope : Scope) : List (Str × Nat) := scope.names.filterMap fun (n, k) => match k with
  | .local => (ixOf n N).map fun i => (n, i)
  | .cell => (ixOf n N).map fun i => (n, i)
  | _ => none
def cLc (cx : CC) (f : RE) (ft : RT) (sc : Scope) (fn : Str → Bool) (elt tg iter : Expr) (ifs : List Expr) (scope : Scope) : Option DE :=
  let own := ownOf cx.N scope
  let sc' := relSc scope sc
  let fn' := fun x => scope.names.lookup x == some NameKind.cell
  if blkC cx.N sc scope own = true ∧ notSet iter = true then
    match cIter (f sc fn) sc (isTupE tg) iter, cCtg cx sc' fn' tg, (match ifs with | [] => some tTrue | [c] => ft sc' fn' c | _ => none), f sc' fn' elt with
    | some it, some g, some t, some e => if g.ix.all (fun i => (own.map (·.2)).contains i) = true then some (dLc it g t e (own.map (·.2))) else none
    | _, _, _, _ => none
  else none
def stepE (cx : CC) (f : RE) (ft : RT) : RE := fun sc fn e => match e with
  | .Name x _ => cName cx sc x
  | .Constant c _ _ => cConst c
  | .BinOp a op b _ => match binF op, f sc fn a, f sc fn b with
    | some o, some da, some db => some (dBin o da db)
    | _, _, _ => none
  | .UnaryOp .USub a _ => (f sc fn a).map (dUn opNeg)
  | .UnaryOp .Not a _ => (f sc fn a).map dNot
  | .BoolOp op es _ => cBool op (f sc fn) es
  | .Compare a ops cs _ => cCmp (f sc fn) a ops cs
  | .IfExp t a b _ => match ft sc fn t, f sc fn a, f sc fn b with
    | some dt, some da, some db => some (dIf dt da db)
    | _, _, _ => none
  | .Tuple es _ _ => if es.length ≤ 1000 then (cList (f sc fn) es).map dTup else none
  | .List es _ => if es.length ≤ 1000 then (cList (f sc fn) es).map dLst else none
  | .Subscript a b _ => cSub (f sc fn) a b
  | .Dict [] [] _ => some dDict0
  | .Call (.Name x _) es [] _ => match cLrg (f sc fn) sc x es with
    | some d => some d
    | none => match cIsi (f sc fn) sc x es with
      | some d => some d
      | none => cCall cx (f sc fn) sc x es
  | .Call (.Attribute o m apos) es [] cpos => cMeth (f sc fn) o m (apos.endLine == cpos.line) es
  | .ListComp elt [⟨tg, iter, ifs, 0⟩] scope _ => cLc cx f ft sc fn elt tg iter ifs scope
  | _ => none
/-- whether a test is asked by the value's truth -/
def byTruth : Expr → Bool
  | .UnaryOp .Not _ _ => false
  | .BoolOp _ _ _ => false
  | .IfExp _ _ _ _ => false
  | .Compare _ _ _ _ => false
  | _ => true
def stepT (cx : CC) (f : RE) (ft : RT) : RT := fun sc fn e => match e with
  | .UnaryOp .Not a _ => (ft sc fn a).map tNotD
  | .BoolOp op es _ => cBoolT op (ft sc fn) es
  | .Compare a ops cs _ => (cCmp (f sc fn) a ops cs).map tBl
  | e => if byTruth e = true then (f sc fn e).map tTru else none
def cET (cx : CC) : Nat → RE × RT
  | 0 => (fun _ _ _ => none, fun _ _ _ => none)
  | n + 1 => (stepE cx (cET cx n).1 (cET cx n).2, stepT cx (cET cx n).1 (cET cx n).2)

/-! ### what is known where code runs -/
structure XOk (CX : CXT) (EW : XK → XW) (cx : CC) (sc : Scope) (fn : Str → Bool) (W : XW) (X : Cx) : Prop where
  scp : X.env.scope = sc
  nms : X.N = cx.N
  nd : X.N.Nodup
  calm : X.calm = true
  kind : X.env.scope.kind = .function
  fnc : ∀ x, fn x = true → X.fn x = true
  own : PassesOwn (model X.prog X.w) X.A X.env X.xe
  pass : ∃ E, Passes CX X E ∧ ∀ e S ρ H, W e S ρ H → EW E e S ρ H
  nil : ∀ (X' : Cx) (E : XK), X'.xe = (fun _ _ => False) → (∀ a b c, ¬ E a b c) → Passes CX X' E
  nilW : ∃ E : XK, (∀ a b c, ¬ E a b c)
  hu : X.A.units + 64 < cLine
  funs : ∀ g ∈ cx.funs, ∃ k f fd ps, FnOk X.prog X.w X.K X.mg X.base CX k f fd ps (spF X.K EW g.ar g.fn) ∧ Room k X.A ∧ X.mg g.nm = some (.ref f) ∧ PySem.W.keepIn X.K (.ref f) = true ∧ Binds X.K fd ps []
  blts : ∀ b ∈ bltNames, X.mg b = none
  lits : ∀ p ∈ cx.lits, ∃ u v, X.mg p.1 = some u ∧ RelV v u ∧ ∀ ρ H, RV X.K ρ H p.2 v
section
variable {CX : CXT} {EW : XK → XW} {cx : CC} {sc : Scope} {fn : Str → Bool} {W : XW} {X : Cx}
theorem XOk.hu1 (h : XOk CX EW cx sc fn W X) : X.A.units + 1 < cLine := by have := h.hu; omega
theorem glo_Gl (h : XOk CX EW cx sc fn W X) {x : Str} (g : glo sc x = true) : Gl X x := by
  unfold glo at g
  show X.env.scope.names.lookup x = some .globalImplicit
  rw [h.scp]
  split at g
  · assumption
  · cases g
theorem vis_Vis (h : XOk CX EW cx sc fn W X) {x : Str} (g : vis sc x = true) : Vis X.env.scope x := by
  unfold vis at g
  rw [h.scp]
  unfold Vis
  split at g
  · exact .inl (by assumption)
  · exact .inr (.inl (by assumption))
  · exact .inr (.inr (by assumption))
  · cases g
theorem plain3 {x : Str} (h : plainName x = true) : (x == ("__debug__" : Str)) = false ∧ (x == ("__classdict__" : Str)) = false ∧ x ≠ "__name__" := by
  unfold plainName at h
  rw [Bool.and_eq_true, Bool.and_eq_true] at h
  refine ⟨by simpa using h.1.1, by simpa using h.1.2, ?_⟩
  have := h.2
  simpa using this
/-- a block's own context -/
theorem XOk.blk (h : XOk CX EW cx sc fn W X) {scope : Scope} (hk : scope.kind = .function) (s : Shared) (H : Hp) (C : Addr) (cl : List (Str × Addr)) (fp : List Addr) (hEW : ∀ E : XK, (∀ a b c, ¬ E a b c) → ∀ e S ρ H, WF e S ρ H → EW E e S ρ H := fun _ _ _ _ _ _ z => z.elim) :
    XOk CX EW cx (relSc scope sc) (fun x => scope.names.lookup x == some NameKind.cell) WF (X.blk s H scope (compEnvC scope cl C X.env) fp) := by
  obtain ⟨E0', hE0⟩ := h.nilW
  refine ⟨?_, h.nms, h.nd, h.calm, hk, fun x q => q, PassesOwn.never, ⟨E0', h.nil _ _ rfl hE0, hEW _ hE0⟩, h.nil, h.nilW, h.hu, h.funs, h.blts, h.lits⟩
  show relabel scope X.env = relSc scope sc
  unfold relabel relSc Env.kindOf
  rw [h.scp]
end
end Py

/-! The function is right: expressions and tests. -/
namespace Py
open PySem PySem.Spec PyProof.Rows L2
section
variable {CX : CXT} {EW : XK → XW} {cx : CC} {sc : Scope} {fn : Str → Bool} {W : XW} {X : Cx}
/-- what a part's function is right about -/
def SE (CX : CXT) (EW : XK → XW) (cx : CC) (f : RE) : Prop := ∀ (sc : Scope) (fn : Str → Bool) (W : XW) (X : Cx), XOk CX EW cx sc fn W X → ∀ e d, f sc fn e = some d → PE X e (tE X.K W d) ∧ notStar e = true
def ST (CX : CXT) (EW : XK → XW) (cx : CC) (f : RT) : Prop := ∀ (sc : Scope) (fn : Str → Bool) (W : XW) (X : Cx), XOk CX EW cx sc fn W X → ∀ e d, f sc fn e = some d → PT X e (tT X.K W d)
theorem star_eq {e : Expr} (h : notStar e = true) (es : List Expr) (env : Env) : starEach (e :: es) env = (false, eval e env) :: starEach es env := by
  cases e <;> first | rfl | cases h
/-- a list of parts -/
structure LOk (X : Cx) (W : XW) (es : List Expr) (ds : List DE) : Prop where
  pa : PA X es (tA X.K W (dArgs ds))
  any : ∀ pos, (backTo pos (starEach es X.env)).any (·.1) = false
  all : ∀ pos, (backTo pos (starEach es X.env)).all (fun x => !x.1) = true
  len : ds.length = es.length
theorem cList_ok {f : Expr → Option DE} (hf : ∀ e d, f e = some d → PE X e (tE X.K W d) ∧ notStar e = true) : ∀ {es : List Expr} {ds : List DE}, cList f es = some ds → LOk X W es ds
  | [], ds, h => by cases h; exact ⟨a_nil, fun _ => rfl, fun _ => rfl, rfl⟩
  | e :: r, ds, h => by
    unfold cList at h
    cases e1 : f e with
    | none => rw [e1] at h; cases h
    | some d =>
      rw [e1] at h
      cases e2 : cList f r with
      | none => rw [e2] at h; cases h
      | some ds' =>
        rw [e2] at h
        cases h
        obtain ⟨p, ns⟩ := hf e d e1
        obtain ⟨q1, q2, q3, q4⟩ := cList_ok hf e2
        have hs := star_eq ns r X.env
        refine ⟨a_cons p q1 hs, fun pos => ?_, fun pos => ?_, by simp [q4]⟩
        · rw [hs]
          show ((false, _) :: backTo pos (starEach r X.env)).any _ = false
          rw [List.any_cons, q2 pos]
          rfl
        · rw [hs]
          show ((false, _) :: backTo pos (starEach r X.env)).all _ = true
          rw [List.all_cons, q3 pos]
          rfl
theorem cList_tail {f : Expr → Option DE} {e : Expr} {es : List Expr} {as : List DE} (h : cList f (e :: es) = some as) : ∃ d ds, as = d :: ds ∧ f e = some d ∧ cList f es = some ds := by
  unfold cList at h
  split at h
  · rename_i d h1
    split at h
    · rename_i ds h2
      cases h
      exact ⟨d, ds, rfl, h1, h2⟩
    · cases h
  · cases h
theorem binF_ok {op : Operator} {f : O2} (h : binF op = some f) : OpR X (binaryOp op) (rD2 X.K W f) := by
  cases op <;> cases h
  · exact o_add
  · exact o_sub
  · exact o_mul
  · exact o_mod
  · exact o_pow
  · exact o_div
theorem cmpF_ok (hu : X.A.units + 64 < cLine) {op : CmpOp} {f : O2} (h : cmpF op = some f) : OpR X (compareOp op) (rD2 X.K W f) := by
  have hu1 : X.A.units + 1 < cLine := by omega
  cases op <;> cases h
  · exact o_eq hu
  · exact o_ne hu
  · exact o_lt
  · exact o_le
  · exact o_gt
  · exact o_ge
  · exact o_is
  · exact o_isn
  · exact o_in hu1
  · exact o_ni hu1
theorem bltF_ok (hc : X.calm = true) {x : Str} {f : Fn} (h : bltF x = some f) : ∃ id, x ∈ bltNames ∧ bootBuiltins x = some (.builtin id) ∧ CallR X (.builtin id) (rDs X.K W f) := by
  unfold bltF at h
  split at h
  · rename_i e; subst e; cases h; exact ⟨"len", by decide +kernel, by decide +kernel, c_len⟩
  split at h
  · rename_i e; subst e; cases h; exact ⟨"abs", by decide +kernel, by decide +kernel, c_abs⟩
  split at h
  · rename_i e; subst e; cases h; exact ⟨"max", by decide +kernel, by decide +kernel, c_max hc⟩
  split at h
  · rename_i e; subst e; cases h; exact ⟨"min", by decide +kernel, by decide +kernel, c_min hc⟩
  split at h
  · rename_i e; subst e; cases h; exact ⟨"sum", by decide +kernel, by decide +kernel, c_sum hc⟩
  split at h
  · rename_i e; subst e; cases h; exact ⟨"all", by decide +kernel, by decide +kernel, c_all hc⟩
  split at h
  · rename_i e; subst e; cases h; exact ⟨"any", by decide +kernel, by decide +kernel, c_any hc⟩
  · cases h
theorem tyF_ok {x : Str} {f : Fn} (h : tyF x = some f) : ∃ id, x ∈ bltNames ∧ bootBuiltins x = some (.type id) ∧ CallR X (.type id) (rDs X.K W f) := by
  unfold tyF at h
  split at h
  · rename_i e; subst e; cases h; exact ⟨"int", by decide +kernel, by decide +kernel, c_int⟩
  split at h
  · rename_i e; subst e; cases h; exact ⟨"str", by decide +kernel, by decide +kernel, c_str⟩
  split at h
  · rename_i e; subst e; cases h; exact ⟨"list", by decide +kernel, by decide +kernel, c_list⟩
  split at h
  · rename_i e; subst e; cases h; exact ⟨"tuple", by decide +kernel, by decide +kernel, c_tuple⟩
  · cases h
theorem tyNames_ok {x : Str} {T : String} (h : tyNames x = some T) : x ∈ bltNames ∧ bootBuiltins x = some (.type T) ∧ x ≠ "__name__" ∧ (x == ("__debug__" : Str)) = false := by
  unfold tyNames at h
  split at h
  · rename_i e; subst e; cases h; exact ⟨by decide +kernel, by decide +kernel, by decide +kernel, by decide +kernel⟩
  split at h
  · rename_i e; subst e; cases h; exact ⟨by decide +kernel, by decide +kernel, by decide +kernel, by decide +kernel⟩
  split at h
  · rename_i e; subst e; cases h; exact ⟨by decide +kernel, by decide +kernel, by decide +kernel, by decide +kernel⟩
  split at h
  · rename_i e; subst e; cases h; exact ⟨by decide +kernel, by decide +kernel, by decide +kernel, by decide +kernel⟩
  split at h
  · rename_i e; subst e; cases h; exact ⟨by decide +kernel, by decide +kernel, by decide +kernel, by decide +kernel⟩
  split at h
  · rename_i e; subst e; cases h; exact ⟨by decide +kernel, by decide +kernel, by decide +kernel, by decide +kernel⟩
  · cases h
theorem cName_ok (h : XOk CX EW cx sc fn W X) {x : Str} {pos : Pos} {d : DE} (q : cName cx sc x = some d) : PE X (.Name x pos) (tE X.K W d) := by
  unfold cName at q
  split at q
  · rename_i hp
    obtain ⟨p1, p2, p3⟩ := plain3 hp
    split at q
    · rename_i hv
      cases e : ixOf x cx.N with
      | none => rw [e] at q; cases q
      | some i =>
        rw [e] at q; cases q
        exact d_var (by rw [h.nms]; exact ixOf_get e) (vis_Vis h hv) p1 p2
    · split at q
      · rename_i hg
        cases e : look cx.lits x with
        | none => rw [e] at q; cases q
        | some v =>
          rw [e] at q; cases q
          obtain ⟨u, z, m, r, rv⟩ := h.lits _ (look_mem e)
          exact (pe_glob (glo_Gl h hg) m r p1).wk fun σ H Q hq => tE.lit hq fun ρ => rv ρ H
      · cases q
  · cases q
theorem cConst_ok {c : Const} {k : Nat} {pos : Pos} {d : DE} (q : cConst c = some d) : PE X (.Constant c k pos) (tE X.K W d) := by
  cases c <;> cases q
  · exact d_non
  · exact d_bl
  · exact d_int
  · exact d_str
theorem cBool_ok {f : Expr → Option DE} (hf : ∀ e d, f e = some d → PE X e (tE X.K W d) ∧ notStar e = true) {op : BoolOp} {pos : Pos} : ∀ {es : List Expr} {d : DE}, cBool op f es = some d → PE X (.BoolOp op es pos) (tE X.K W d)
  | [], _, h => by cases h
  | [a], d, h => pe_one (hf a d h).1
  | a :: b :: r, d, h => by
    unfold cBool at h
    split at h
    · rename_i da db h1 h2
      have p1 := (hf a da h1).1
      have p2 := cBool_ok hf (pos := pos) h2
      cases h
      cases op with
      | And => exact d_and p1 p2
      | Or => exact d_or p1 p2
    · cases h
theorem cBoolT_ok {f : Expr → Option DT} (hf : ∀ e d, f e = some d → PT X e (tT X.K W d)) {op : BoolOp} {pos : Pos} : ∀ {es : List Expr} {d : DT}, cBoolT op f es = some d → PW X (.BoolOp op es pos) (tT X.K W d)
  | [], _, h => by cases h
  | [a], d, h => by
    cases op with
    | And => exact w_and1 (hf a d h)
    | Or => exact w_or1 (hf a d h)
  | a :: b :: r, d, h => by
    unfold cBoolT at h
    split at h
    · rename_i da db h1 h2
      have p1 := hf a da h1
      have p2 := cBoolT_ok hf (pos := pos) h2
      cases h
      cases op with
      | And => exact w_and p1 p2
      | Or => exact w_or p1 p2
    · cases h
theorem cCmp_ok (hu : X.A.units + 64 < cLine) {f : Expr → Option DE} (hf : ∀ e d, f e = some d → PE X e (tE X.K W d) ∧ notStar e = true) {a : Expr} {ops : List CmpOp} {cs : List Expr} {pos : Pos} {d : DE} (h : cCmp f a ops cs = some d) : PE X (.Compare a ops cs pos) (tE X.K W d) ∧ PT X (.Compare a ops cs pos) (tT X.K W (tBl d)) := by
  unfold cCmp at h
  split at h
  · split at h
    · rename_i hm
      split at h
      · rename_i o da db h1 h2 h3
        cases h
        exact ⟨d_cmp (cmpF_ok hu h1) (hf _ _ h2).1 (hf _ _ h3).1 hm, t_cmp (cmpF_ok hu h1) (hf _ _ h2).1 (hf _ _ h3).1 hm⟩
      · cases h
    · cases h
  · split at h
    · rename_i hm
      split at h
      · rename_i o o' da db dc h1 h2 h3 h4 h5
        cases h
        exact ⟨d_chain (cmpF_ok hu h1) (cmpF_ok hu h2) (hf _ _ h3).1 (hf _ _ h4).1 (hf _ _ h5).1 hm, t_chain (cmpF_ok hu h1) (cmpF_ok hu h2) (hf _ _ h3).1 (hf _ _ h4).1 (hf _ _ h5).1 hm⟩
      · cases h
    · cases h
  · cases h
theorem cCall_ok (h : XOk CX EW cx sc fn W X) {f : Expr → Option DE} (hf : ∀ e d, f e = some d → PE X e (tE X.K W d) ∧ notStar e = true) {x : Str} {p pos : Pos} {es : List Expr} {d : DE} (q : cCall cx f sc x es = some d) : PE X (.Call (.Name x p) es [] pos) (tE X.K W d) := by
  unfold cCall at q
  split at q
  · rename_i hp
    obtain ⟨p1, p2, p3⟩ := plain3 hp.1
    have hg := glo_Gl h hp.2
    split at q
    · rename_i g hgf
      obtain ⟨gm, gn⟩ := findFn_mem hgf
      split at q
      · rename_i as ha
        split at q
        · rename_i hl
          cases q
          obtain ⟨k, fa, fd, ps, F, hr, m, kp, b⟩ := h.funs g gm
          obtain ⟨E, hx, hW⟩ := h.pass
          rw [gn] at m
          have L := cList_ok hf ha
          cases es with
          | nil =>
            have e0 : as = [] := List.length_eq_zero_iff.mp L.len
            subst e0
            have e1 : g.ar = 0 := hl.symm
            rw [e1] at F
            exact d_call0 F hr hg m kp b hx hW p1
          | cons e es =>
            obtain ⟨d0, ds, rfl, h1, h2⟩ := cList_tail ha
            exact d_call F hr hg m kp b hx hW hl L.pa p1 (star_eq (hf _ _ h1).2 _ _) ((cList_ok hf h2).any pos)
        · cases q
      · cases q
    · split at q
      · cases q
      · rename_i e es
        split at q
        · rename_i as ha
          have L := cList_ok hf ha
          obtain ⟨d0, ds, rfl, h1, h2⟩ := cList_tail ha
          have hs := star_eq (hf _ _ h1).2 es X.env
          have hpl := (cList_ok hf h2).any pos
          split at q
          · rename_i g hgf
            cases q
            obtain ⟨id, mb, hv, hc⟩ := bltF_ok (W := W) h.calm hgf
            exact d_blt hc hg (h.blts _ mb) hv L.pa p3 p1 hs hpl
          · split at q
            · rename_i g hgf
              cases q
              obtain ⟨id, mb, hv, hc⟩ := tyF_ok (X := X) (W := W) hgf
              exact d_ty hc hg (h.blts _ mb) hv L.pa p3 p1 hs hpl
            · cases q
        · cases q
  · cases q
theorem cIsi_ok (h : XOk CX EW cx sc fn W X) {f : Expr → Option DE} (hf : ∀ e d, f e = some d → PE X e (tE X.K W d) ∧ notStar e = true) {x : Str} {p pos : Pos} {es : List Expr} {d : DE} (q : cIsi f sc x es = some d) : PE X (.Call (.Name x p) es [] pos) (tE X.K W d) := by
  unfold cIsi at q
  split at q
  · rename_i e t tp
    split at q
    · rename_i hc
      obtain ⟨e1, g1, g2⟩ := hc
      subst e1
      split at q
      · rename_i T de h1 h2
        cases q
        obtain ⟨pe, ns⟩ := hf _ _ h2
        obtain ⟨m, hv, n1, n2⟩ := tyNames_ok h1
        have hp : PE X (.Name t tp) (tC (.ty T)) := pe_bltn (glo_Gl h g2) (h.blts _ m) hv rfl n1 n2
        have hs : starEach [e, .Name t tp] X.env = (false, eval e X.env) :: starEach [.Name t tp] X.env := star_eq ns _ _
        refine (pe_callB (c_isi (W := W) T) (glo_Gl h g1) (h.blts _ (by decide +kernel)) (by decide +kernel) (pa_cons pe (pa_cons hp pa_nil rfl) hs) (by decide +kernel) (by decide +kernel) hs rfl).wk fun σ H Q hq => ?_
        obtain ⟨ρ, τ, S, rep, ev, post⟩ := hq
        refine tE.imp rep ev (Post.bind post |>.imp fun v S1 ρ1 H1 s1 _ p1 rep1 _ ev1 x rx => ?_)
        exact ⟨x, rfl, ρ1, S1, v, rep1, rx, p1⟩
      · cases q
    · cases q
  · cases q
theorem cLrg_ok (h : XOk CX EW cx sc fn W X) {f : Expr → Option DE} (hf : ∀ e d, f e = some d → PE X e (tE X.K W d) ∧ notStar e = true) {x : Str} {p pos : Pos} {es : List Expr} {d : DE} (q : cLrg f sc x es = some d) : PE X (.Call (.Name x p) es [] pos) (tE X.K W d) := by
  unfold cLrg at q
  split at q
  · rename_i r rp e es rpos
    split at q
    · rename_i hc
      obtain ⟨e1, e2, g1, g2⟩ := hc
      subst e1 e2
      cases ha : cList f (e :: es) with
      | none => rw [ha] at q; cases q
      | some as =>
        rw [ha] at q; cases q
        have L := cList_ok hf ha
        obtain ⟨d0, ds, rfl, h1, h2⟩ := cList_tail ha
        exact d_range h.calm (glo_Gl h g2) (h.blts _ (by decide +kernel)) (glo_Gl h g1) (h.blts _ (by decide +kernel)) L.pa (star_eq (hf _ _ h1).2 _ _) ((cList_ok hf h2).any _) rfl
    · cases q
  · cases q
theorem base_ok {o : Expr} (h : notCall0 o = true) (m : Str) (env : Env) (t : Sem Value) : attributeBase o m env t = t := by
  unfold attributeBase
  split
  · cases h
  · rfl
structure MOk (X : Cx) (W : XW) (m : Str) (T : MTy) (g : D → List D → Hs → R D) : Prop where
  ex : ∃ id, PlainAttrs T.nm ∧ Slot T.nm m id ∧ typeOf (.builtin id) = pure (.type "method_descriptor") ∧ MtR X id (rDm X.K W g)
theorem mthF_ok {m : Str} {T : MTy} {g : D → List D → Hs → R D} (h : mthF m = some (T, g)) : MOk X W m T g := by
  unfold mthF at h
  split at h
  · rename_i e; subst e; cases h; exact ⟨_, PySem.F.plainAttrs_list, PySem.F.slot_list_append, PySem.F.type_list_append, m_append⟩
  split at h
  · rename_i e; subst e; cases h; exact ⟨_, PySem.F.plainAttrs_list, PySem.F.slot_list_extend, PySem.F.type_list_extend, m_extend⟩
  split at h
  · rename_i e; subst e; cases h; exact ⟨_, PySem.F.plainAttrs_str, PySem.F.slot_str_join, PySem.F.type_str_join, m_join⟩
  split at h
  · rename_i e; subst e; cases h; exact ⟨_, PySem.F.plainAttrs_str, PySem.F.slot_str_split, PySem.F.type_str_split, m_split⟩
  split at h
  · rename_i e; subst e; cases h; exact ⟨_, PySem.F.plainAttrs_str, PySem.F.slot_str_partition, PySem.F.type_str_partition, m_partition⟩
  · cases h
theorem mthF0_ok {m : Str} {T : MTy} {g : D → List D → Hs → R D} (h : mthF0 m = some (T, g)) : MOk X W m T g := by
  unfold mthF0 at h
  split at h
  · rename_i e; subst e; cases h; exact ⟨_, PySem.F.plainAttrs_list, PySem.F.slot_list_pop, PySem.F.type_list_pop, m_pop⟩
  split at h
  · rename_i e; subst e; cases h; exact ⟨_, PySem.F.plainAttrs_list, PySem.F.slot_list_clear, PySem.F.type_list_clear, m_clear⟩
  split at h
  · rename_i e; subst e; cases h; exact ⟨_, PySem.F.plainAttrs_list, PySem.F.slot_list_reverse, PySem.F.type_list_reverse, m_reverse⟩
  · cases h
theorem cMeth_ok {f : Expr → Option DE} (hf : ∀ e d, f e = some d → PE X e (tE X.K W d) ∧ notStar e = true) {o : Expr} {m : Str} {apos cpos : Pos} {es : List Expr} {d : DE} (q : cMeth f o m (apos.endLine == cpos.line) es = some d) : PE X (.Call (.Attribute o m apos) es [] cpos) (tE X.K W d) := by
  unfold cMeth at q
  split at q
  · split at q
    · rename_i hc
      split at q
      · rename_i T g de h1 h2
        cases q
        obtain ⟨id, pa, sl, ty, hm⟩ := mthF0_ok (X := X) (W := W) h1
        exact d_mt0 pa sl ty hm (hf _ _ h2).1 (base_ok hc.1 _ _ _) hc.2
      · cases q
    · cases q
  · rename_i e es
    split at q
    · rename_i hc
      split at q
      · rename_i T g de as h1 h2 h3
        cases q
        obtain ⟨id, pa, sl, ty, hm⟩ := mthF_ok (X := X) (W := W) h1
        have L := cList_ok hf h3
        obtain ⟨d0, ds, rfl, h4, h5⟩ := cList_tail h3
        refine d_mt pa sl ty hm (hf _ _ h2).1 L.pa (base_ok hc.1 _ _ _) ?_ hc.2.1 (star_eq (hf _ _ h4).2 _ _) ((cList_ok hf h5).any _)
        rw [L.all cpos]
        have : (e :: es).length + ([] : List Keyword).length + (if ([] : List Keyword).isEmpty then 0 else 1) < 30 := by
          have := hc.2.2
          simp
          omega
        rw [decide_eq_true this]
        rfl
      · cases q
    · cases q
theorem cOpt_ok {f : Expr → Option DE} (hf : ∀ e d, f e = some d → PE X e (tE X.K W d) ∧ notStar e = true) {o : Option Expr} {l : Option DE} (q : cOpt f o = some l) : PO X o (tO X.K W (dPart l)) := by
  cases o with
  | none => cases q; exact po_n
  | some e =>
    have q : (f e).map some = some l := q
    cases h : f e with
    | none => rw [h] at q; cases q
    | some d => rw [h] at q; cases q; exact po_s (hf _ _ h).1
theorem plainIx {b : Expr} (h : notSl b = true) : PlainIx b := by
  intro o i
  cases b <;> first | rfl | cases h
theorem cSub_ok (hu : X.A.units + 1 < cLine) {f : Expr → Option DE} (hf : ∀ e d, f e = some d → PE X e (tE X.K W d) ∧ notStar e = true) {a b : Expr} {pos : Pos} {d : DE} (q : cSub f a b = some d) : PE X (.Subscript a b pos) (tE X.K W d) := by
  unfold cSub at q
  split at q
  · cases h : f a with
    | none => rw [h] at q; cases q
    | some d => rw [h] at q; cases q; exact d_rev (hf _ _ h).1
  · split at q
    · rename_i d l h h1 h2 h3
      cases q
      exact d_sl (hf _ _ h1).1 (cOpt_ok hf h2) (cOpt_ok hf h3)
    · cases q
  · split at q
    · rename_i hn
      split at q
      · rename_i d e h1 h2
        cases q
        exact d_ix hu (hf _ _ h1).1 (hf _ _ h2).1 (plainIx hn)
      · cases q
    · cases q
theorem set_ok {it : Expr} (h : notSet it = true) (env : Env) : ∀ x, foldedSetIterable it env x = pure x := by
  intro x
  cases it <;> first | rfl | cases h
theorem cIter_ok (h : XOk CX EW cx sc fn W X) {f : Expr → Option DE} (hf : ∀ e d, f e = some d → PE X e (tE X.K W d) ∧ notStar e = true) {tg it : Expr} {d : DI} (q : cIter f sc (isTupE tg) it = some d) : PI X tg it (tI X.K W d) ∧ ∀ x, foldedSetIterable it X.env x = pure x := by
  have val : ∀ e d, (f e).map iVal = some d → PI X tg e (tI X.K W d) := by
    intro e d q
    cases h1 : f e with
    | none => rw [h1] at q; cases q
    | some de => rw [h1] at q; cases q; exact i_val (hf _ _ h1).1
  unfold cIter at q
  split at q
  · rename_i x xp e es pos
    refine ⟨?_, fun _ => rfl⟩
    split at q
    · rename_i hc
      obtain ⟨e1, g1⟩ := hc
      subst e1
      cases ha : cList f (e :: es) with
      | none => rw [ha] at q; cases q
      | some as =>
        rw [ha] at q; cases q
        have L := cList_ok hf ha
        obtain ⟨d0, ds, rfl, h1, h2⟩ := cList_tail ha
        exact i_range (glo_Gl h g1) (h.blts _ (by decide +kernel)) L.pa (star_eq (hf _ _ h1).2 _ _) ((cList_ok hf h2).any _)
    · split at q
      · rename_i hc
        obtain ⟨e1, g1⟩ := hc
        subst e1
        cases tg <;> simp only [isTupE] at q <;> try (cases q; done)
        split at q
        · cases ha : cList f [e] with
          | none => rw [ha] at q; cases q
          | some as =>
            rw [ha] at q; cases q
            have L := cList_ok hf ha
            obtain ⟨d0, ds, rfl, h1, h2⟩ := cList_tail ha
            exact i_enum (glo_Gl h g1) (h.blts _ (by decide +kernel)) L.pa (star_eq (hf _ _ h1).2 _ _)
        · cases q
      · split at q
        · rename_i hc
          obtain ⟨e1, g1⟩ := hc
          subst e1
          cases tg <;> simp only [isTupE] at q <;> try (cases q; done)
          split at q
          · rename_i e2 _
            cases ha : cList f [e, e2] with
            | none => rw [ha] at q; cases q
            | some as =>
              rw [ha] at q; cases q
              have L := cList_ok hf ha
              obtain ⟨d0, ds, rfl, h1, h2⟩ := cList_tail ha
              exact i_zip (glo_Gl h g1) (h.blts _ (by decide +kernel)) L.pa (star_eq (hf _ _ h1).2 _ _) ((cList_ok hf h2).any _)
          · cases q
        · exact val _ _ q
  · split at q
    · rename_i hn
      exact ⟨val _ _ q, set_ok hn X.env⟩
    · cases q
theorem cSlot_ok (h : XOk CX EW cx sc fn W X) {x : Str} {i : Nat} (q : cSlot cx sc fn x = some i) : X.N[i]? = some x ∧ L2.Loc X.env.scope x ∧ (X.fn x = true ∨ X.env.scope.names.lookup x = some .local) := by
  unfold cSlot at q
  rw [h.scp, h.nms]
  unfold L2.Loc
  split at q
  · rename_i e
    exact ⟨ixOf_get q, .inl e, .inr e⟩
  · rename_i e
    split at q
    · rename_i hfn
      exact ⟨ixOf_get q, .inr e, .inl (h.fnc x hfn)⟩
    · cases q
  · cases q
theorem cSlots_ok (h : XOk CX EW cx sc fn W X) : ∀ {es : List Expr} {is : List Nat}, cSlots cx sc fn es = some is → PGs X es (gNames is) ∧ (assignEach es X.env).length = is.length ∧ (assignEach es X.env).findIdx? (·.1) = none
  | [], is, q => by cases q; exact ⟨pgs_nil, rfl, rfl⟩
  | e :: r, is, q => by
    cases e <;> simp only [cSlots] at q <;> try (cases q; done)
    rename_i x p
    split at q
    · rename_i i is' h1 h2
      cases q
      obtain ⟨a1, a2, a3⟩ := cSlot_ok h h1
      obtain ⟨b1, b2, b3⟩ := cSlots_ok h h2
      have hd : assignEach (.Name x p :: r) X.env = (false, assign (.Name x p) X.env) :: assignEach r X.env := rfl
      refine ⟨pgs_cons (pg_name h.nd a1 a2 a3) b1 (by rw [hd]; rfl), by rw [hd, List.length_cons, b2]; rfl, ?_⟩
      rw [hd, List.findIdx?_cons, b3]
      rfl
    · cases q
theorem cCtg_ok (h : XOk CX EW cx sc fn W X) {tg : Expr} {g : Ctg} (q : cCtg cx sc fn tg = some g) : PG X tg (g.rd X.K) := by
  unfold cCtg at q
  split at q
  · rename_i x p
    cases h1 : cSlot cx sc fn x with
    | none => rw [h1] at q; cases q
    | some i =>
      rw [h1] at q; cases q
      obtain ⟨a1, a2, a3⟩ := cSlot_ok h h1
      exact pg_name h.nd a1 a2 a3
  · rename_i es k p
    cases h1 : cSlots cx sc fn es with
    | none => rw [h1] at q; cases q
    | some is =>
      rw [h1] at q; cases q
      obtain ⟨a1, a2, a3⟩ := cSlots_ok h h1
      exact pg_tup h.calm a1 a2 a3
  · cases q
theorem pts_two {ifs : List Expr} {t : DT} {ft : Expr → Option DT} (hf : ∀ e d, ft e = some d → PT X e (tT X.K W d)) (q : (match ifs with | [] => some tTrue | [c] => ft c | _ => none) = some t) : PTs X ifs (tT X.K W t) := by
  split at q
  · cases q
    refine ⟨fun pins s σ H Q I ⟨ρ, τ, S, rep, ev, post⟩ => ?_⟩
    exact pts_nil.run pins s σ H Q I (Post.ok post rep)
  · exact pts_one (hf _ _ q)
  · cases q
structure LcParts (CX : CXT) (EW : XK → XW) (cx : CC) (X : Cx) (W : XW) (elt tg iter : Expr) (ifs : List Expr) (scope : Scope) (own : List (Str × Nat)) (it : DI) (g : Ctg) (t : DT) (e : DE) : Prop where
  hi : PI X tg iter (tI X.K W it)
  ok : BlkOk X.N X.env.scope scope own
  hix : ∀ i ∈ g.ix, i ∈ own.map (·.2)
  hg : ∀ (s : Shared) (H : Hp) (C : Addr) (cl : List (Str × Addr)) (fp : List Addr), PG (X.blk s H scope (compEnvC scope cl C X.env) fp) tg (g.rd X.K)
  ht : ∀ (s : Shared) (H : Hp) (C : Addr) (cl : List (Str × Addr)) (fp : List Addr), PTs (X.blk s H scope (compEnvC scope cl C X.env) fp) ifs (tT X.K WF t)
  he : ∀ (s : Shared) (H : Hp) (C : Addr) (cl : List (Str × Addr)) (fp : List Addr), PE (X.blk s H scope (compEnvC scope cl C X.env) fp) elt (tE X.K WF e)
  hs : ∀ x, foldedSetIterable iter X.env x = pure x
theorem cLc_ok (h : XOk CX EW cx sc fn W X) {f : RE} {ft : RT} (hf : SE CX EW cx f) (hft : ST CX EW cx ft) {elt tg iter : Expr} {ifs : List Expr} {scope : Scope} {d : DE} (q : cLc cx f ft sc fn elt tg iter ifs scope = some d) :
    ∃ own it g t e, d = dLc it g t e (own.map (·.2)) ∧ LcParts CX EW cx X W elt tg iter ifs scope own it g t e := by
  unfold cLc at q
  simp only at q
  split at q
  · rename_i hb
    have bok : BlkOk X.N X.env.scope scope (ownOf cx.N scope) := by
      rw [h.nms, h.scp]
      exact blkOk_by hb.1
    split at q
    · rename_i it g t e h1 h2 h3 h4
      split at q
      · rename_i hall
        cases q
        obtain ⟨p1, p2⟩ := cIter_ok h (fun e d q => hf sc fn W X h e d q) h1
        have B := fun s H C cl fp => h.blk bok.kind s H C cl fp
        refine ⟨_, it, g, t, e, rfl, p1, bok, fun i hi => ?_, fun s H C cl fp => cCtg_ok (B s H C cl fp) h2, fun s H C cl fp => pts_two (fun e d q => hft _ _ _ _ (B s H C cl fp) e d q) h3, fun s H C cl fp => (hf _ _ _ _ (B s H C cl fp) elt e h4).1, p2⟩
        have := List.all_eq_true.mp hall i hi
        simpa using this
      · cases q
    · cases q
  · cases q
theorem stepE_ok {f : RE} {ft : RT} (hf : SE CX EW cx f) (hft : ST CX EW cx ft) : SE CX EW cx (stepE cx f ft) := by
  intro sc fn W X h e d q
  have F : ∀ e d, f sc fn e = some d → PE X e (tE X.K W d) ∧ notStar e = true := fun e d q => hf sc fn W X h e d q
  unfold stepE at q
  split at q
  · exact ⟨cName_ok h q, rfl⟩
  · exact ⟨cConst_ok q, rfl⟩
  · split at q
    · rename_i o da db h1 h2 h3
      cases q
      exact ⟨d_bin (binF_ok h1) (F _ _ h2).1 (F _ _ h3).1, rfl⟩
    · cases q
  · rename_i a p
    cases h1 : f sc fn a with
    | none => rw [h1] at q; cases q
    | some da => rw [h1] at q; cases q; exact ⟨d_un o_neg (F _ _ h1).1, rfl⟩
  · rename_i a p
    cases h1 : f sc fn a with
    | none => rw [h1] at q; cases q
    | some da => rw [h1] at q; cases q; exact ⟨d_not (F _ _ h1).1, rfl⟩
  · exact ⟨cBool_ok F q, rfl⟩
  · exact ⟨(cCmp_ok h.hu F q).1, rfl⟩
  · split at q
    · rename_i dt da db h1 h2 h3
      cases q
      exact ⟨d_if (hft sc fn W X h _ _ h1) (F _ _ h2).1 (F _ _ h3).1, rfl⟩
    · cases q
  · rename_i es k p
    split at q
    · rename_i hl
      cases h1 : cList (f sc fn) es with
      | none => rw [h1] at q; cases q
      | some as =>
        rw [h1] at q; cases q
        have L := cList_ok F h1
        exact ⟨d_tup L.pa (by rw [L.len, sizeLine_eq]; omega), rfl⟩
    · cases q
  · rename_i es p
    split at q
    · rename_i hl
      cases h1 : cList (f sc fn) es with
      | none => rw [h1] at q; cases q
      | some as =>
        rw [h1] at q; cases q
        have L := cList_ok F h1
        exact ⟨d_lst L.pa (by rw [L.len, sizeLine_eq]; omega), rfl⟩
    · cases q
  · exact ⟨cSub_ok h.hu1 F q, rfl⟩
  · cases q; exact ⟨d_dict0, rfl⟩
  · split at q
    · rename_i h1; cases q; exact ⟨cLrg_ok h F h1, rfl⟩
    · split at q
      · rename_i h1; cases q; exact ⟨cIsi_ok h F h1, rfl⟩
      · exact ⟨cCall_ok h F q, rfl⟩
  · exact ⟨cMeth_ok F q, rfl⟩
  · obtain ⟨own, it, g, t, e, rfl, P⟩ := cLc_ok h hf hft q
    exact ⟨d_lc h.calm h.nd P.hi P.ok P.hix P.hg P.ht P.he P.hs, rfl⟩
  · cases q
theorem truth_eq {e : Expr} (h : byTruth e = true) (env : Env) : ∀ whole, isTrue e env whole = (do let v ← whole; standAt e.pos; holding [v] (truthy v)) := by
  intro whole
  cases e <;> first | rfl | (cases h; done) | skip
  rename_i op a p
  cases op <;> first | rfl | cases h
theorem stepT_ok {f : RE} {ft : RT} (hf : SE CX EW cx f) (hft : ST CX EW cx ft) : ST CX EW cx (stepT cx f ft) := by
  intro sc fn W X h e d q
  have F : ∀ e d, f sc fn e = some d → PE X e (tE X.K W d) ∧ notStar e = true := fun e d q => hf sc fn W X h e d q
  unfold stepT at q
  split at q
  · rename_i a p
    cases h1 : ft sc fn a with
    | none => rw [h1] at q; cases q
    | some da => rw [h1] at q; cases q; exact t_not (hft sc fn W X h _ _ h1)
  · exact (cBoolT_ok (fun e d q => hft sc fn W X h e d q) q).pt
  · rename_i a ops cs p
    cases h1 : cCmp (f sc fn) a ops cs with
    | none => rw [h1] at q; cases q
    | some da => rw [h1] at q; cases q; exact (cCmp_ok h.hu F h1).2
  · split at q
    · rename_i hb
      cases h1 : f sc fn e with
      | none => rw [h1] at q; cases q
      | some da => rw [h1] at q; cases q; exact t_val (F _ _ h1).1 (truth_eq hb X.env)
    · cases q
theorem cET_ok : ∀ n : Nat, SE CX EW cx (cET cx n).1 ∧ ST CX EW cx (cET cx n).2
  | 0 => ⟨fun _ _ _ _ _ _ _ q => (by cases q), fun _ _ _ _ _ _ _ q => (by cases q)⟩
  | n + 1 => ⟨stepE_ok (cET_ok n).1 (cET_ok n).2, stepT_ok (cET_ok n).1 (cET_ok n).2⟩
end
end Py

/-! Statements and defs. -/
namespace Py
open PySem PySem.Spec PyProof.Rows L2
abbrev RS := Scope → (Str → Bool) → Stmt → Option DS
def isL : Expr → Bool
  | .List _ _ => true
  | _ => false
def cTgt (cx : CC) (f : RE) (sc : Scope) (fn : Str → Bool) : Expr → Option DG
  | .Name x _ => (cSlot cx sc fn x).map gSet
  | .Tuple es _ _ => (cSlots cx sc fn es).map fun is => gTupleN is.length (is.map gSet)
  | .Subscript o i _ => if notSl i = true then match f sc fn o, f sc fn i with
    | some a, some b => some (gIx a b)
    | _, _ => none
    else none
  | _ => none
def cStmts (f : Stmt → Option DS) : List Stmt → Option (List DS)
  | [] => some []
  | s :: r => match f s with
    | some d => match cStmts f r with
      | some ds => some (d :: ds)
      | none => none
    | none => none
def isLocal (sc : Scope) (x : Str) : Bool := match sc.names.lookup x with
  | some .local => true
  | _ => false
def swapB (sc : Scope) (y : Str) (l1 l2 : Nat) (scope : Scope) : Bool := isLocal sc y && (l1 == l2) && !(scope.names.any fun (n, k) => n == y && (k == .local || k == .cell))
def isLc : Expr → Bool
  | .ListComp _ _ _ _ => true
  | _ => false
/-- x, y = a, b stored from the right -/
def parB (sc : Scope) (ts : List (Str × Pos)) (vs : List Expr) : Bool :=
  (ts.all fun t => isLocal sc t.1 && (t.2.line == ((ts.head?.map (·.2.line)).getD 0))) && decide (ts.map (·.1)).Nodup && (vs.all notStar) && !(vs.all (foldedForSure 8)) && !(vs.all (constantsAlone 8))
/-- an assignment to one target -/
def cAsg (cx : CC) (f : RE) (ft : RT) (sc : Scope) (fn : Str → Bool) (tg e : Expr) : Option DS :=
  match tg, e with
  | .Name y py, .ListComp elt [⟨tg, iter, ifs, 0⟩] scope pos => match cLc cx f ft sc fn elt tg iter ifs scope, cSlot cx sc fn y with
    | some d, some i => some (sAsg d (gSet i))
    | _, _ => none
  | .Tuple [.Name x px, .Name y py] _ _, .Tuple [a, b] _ _ => if parB sc [(x, px), (y, py)] [a, b] = true then match ixOf x cx.N, ixOf y cx.N, cList (f sc fn) [a, b] with
    | some i, some j, some as => some (sPar2 i j as)
    | _, _, _ => none
    else none
  | .Tuple [.Name x px, .Name y py, .Name z pz] _ _, .Tuple [a, b, c] _ _ => if parB sc [(x, px), (y, py), (z, pz)] [a, b, c] = true then match ixOf x cx.N, ixOf y cx.N, ixOf z cx.N, cList (f sc fn) [a, b, c] with
    | some i, some j, some l, some as => some (sPar3 i j l as)
    | _, _, _, _ => none
    else none
  | .Tuple ts k p, e => if notComp e = true ∧ (isTupE e = true → ts.length ≠ 2 ∧ ts.length ≠ 3) then match cTgt cx f sc fn (.Tuple ts k p), f sc fn e with
    | some g, some d => some (sAsg d g)
    | _, _ => none
    else none
  | tg, e => if notComp e = true ∧ isTupE tg = false ∧ isL tg = false then match cTgt cx f sc fn tg, f sc fn e with
    | some g, some d => some (sAsg d g)
    | _, _ => none
    else none
def stepS (cx : CC) (f : RE) (ft : RT) (fs : RS) : RS := fun sc fn s => match s with
  | .Expr e _ => if notComp e = true then (f sc fn e).map sExpr else none
  | .Return (some e) _ => (f sc fn e).map sRet
  | .Pass _ => some sPass
  | .Break _ => some sBrk
  | .Continue _ => some sCnt
  | .Assign [tg] e _ => cAsg cx f ft sc fn tg e
  | .AugAssign (.Name x _) op e _ => match cSlot cx sc fn x, augF op, f sc fn e with
    | some i, some o, some d => some (sAug i o d)
    | _, _, _ => none
  | .If t a b _ => match ft sc fn t, cStmts (fs sc fn) a, cStmts (fs sc fn) b with
    | some t, some a, some b => some (sIf t (sSeq a) (sSeq b))
    | _, _, _ => none
  | .For tg it body [] _ => match cIter (f sc fn) sc (isTupE tg) it, cTgt cx f sc fn tg, cStmts (fs sc fn) body with
    | some it, some g, some b => some (sFor it g (sSeq b))
    | _, _, _ => none
  | .While t body [] _ => match ft sc fn t, cStmts (fs sc fn) body with
    | some t, some b => some (sWhile t (sSeq b))
    | _, _ => none
  | _ => none
def cSt (cx : CC) : Nat → RS
  | 0 => fun _ _ _ => none
  | n + 1 => stepS cx (cET cx (n + 1)).1 (cET cx (n + 1)).2 (cSt cx n)
def cBody (cx : CC) (n : Nat) (sc : Scope) (body : List Stmt) : Option DS := (cStmts (cSt cx n sc fun _ => true) body).map sSeq

section
variable {CX : CXT} {EW : XK → XW} {cx : CC} {sc : Scope} {fn : Str → Bool} {W : XW} {X : Cx}
def SS (CX : CXT) (EW : XK → XW) (cx : CC) (f : RS) : Prop := ∀ (sc : Scope) (fn : Str → Bool) (W : XW) (X : Cx), XOk CX EW cx sc fn W X → ∀ s d, f sc fn s = some d → PS X s (tS X.K W d)
theorem cStmts_ok {f : Stmt → Option DS} (hf : ∀ s d, f s = some d → PS X s (tS X.K W d)) : ∀ {ss : List Stmt} {ds : List DS}, cStmts f ss = some ds → PSs X ss (tS X.K W (sSeq ds))
  | [], ds, q => by cases q; exact ss_nil
  | s :: r, ds, q => by
    unfold cStmts at q
    split at q
    · rename_i d h1
      split at q
      · rename_i ds' h2
        cases q
        exact ss_cons (hf _ _ h1) (cStmts_ok hf h2)
      · cases q
    · cases q
theorem gs_slots (h : XOk CX EW cx sc fn W X) : ∀ {es : List Expr} {is : List Nat}, cSlots cx sc fn es = some is → PGs X es (tGs X.K W (is.map gSet)) ∧ (assignEach es X.env).length = is.length ∧ (assignEach es X.env).findIdx? (·.1) = none
  | [], is, q => by cases q; exact ⟨gs_nil, rfl, rfl⟩
  | e :: r, is, q => by
    have q0 := q
    cases e <;> simp only [cSlots] at q <;> try (cases q; done)
    rename_i x p
    split at q
    · rename_i i is' h1 h2
      cases q
      obtain ⟨a1, a2, a3⟩ := cSlot_ok h h1
      obtain ⟨b1, b2, b3⟩ := gs_slots h h2
      obtain ⟨_, c2, c3⟩ := cSlots_ok h q0
      exact ⟨gs_cons (g_name h.nd a1 a2 a3) b1 rfl, c2, c3⟩
    · cases q
theorem cTgt_ok (h : XOk CX EW cx sc fn W X) {f : RE} (hf : SE CX EW cx f) {tg : Expr} {g : DG} (q : cTgt cx f sc fn tg = some g) : PG X tg (tG X.K W g) ∧ (assignEach [tg] X.env).map (·.2) = [assign tg X.env] := by
  unfold cTgt at q
  split at q
  · rename_i x p
    cases h1 : cSlot cx sc fn x with
    | none => rw [h1] at q; cases q
    | some i =>
      rw [h1] at q; cases q
      obtain ⟨a1, a2, a3⟩ := cSlot_ok h h1
      exact ⟨g_name h.nd a1 a2 a3, rfl⟩
  · rename_i es k p
    cases h1 : cSlots cx sc fn es with
    | none => rw [h1] at q; cases q
    | some is =>
      rw [h1] at q; cases q
      obtain ⟨a1, a2, a3⟩ := gs_slots h h1
      exact ⟨g_tup h.calm a1 a2 a3, rfl⟩
  · rename_i o i p
    split at q
    · rename_i hn
      split at q
      · rename_i a b h1 h2
        cases q
        refine ⟨g_ix h.hu1 (hf sc fn W X h _ _ h1).1 (hf sc fn W X h _ _ h2).1 fun v => ?_, rfl⟩
        cases i <;> first | rfl | cases hn
      · cases q
    · cases q
  · cases q
theorem sw_none {e : Expr} (h : notComp e = true) (l : Nat) (env : Env) (t : Option Expr) : swapsWith e t l env = pure false := by
  cases e <;> first | rfl | cases h
theorem swSole {e : Expr} (h : notComp e = true) (tg : Expr) (l : Nat) (env : Env) : swapsWithSole [tg] e l env = pure false := sw_none h l env _
theorem isLocal_ok {x : Str} (h : isLocal sc x = true) : sc.names.lookup x = some .local := by
  unfold isLocal at h
  split at h
  · assumption
  · cases h
theorem bk_fun {env : Env} (h : env.scope.kind = .function) : env.blockKind = .function := by
  unfold Env.blockKind
  rw [h]
  rfl
theorem sw_lc {elt : Expr} {gs : List Comprehension} {scope : Scope} {pos py : Pos} {y : Str} {l : Nat} {env : Env} (hk : env.scope.kind = .function) : swapsWith (.ListComp elt gs scope pos) (some (.Name y py)) l env = pure (swapB env.scope y py.line pos.line scope) := by
  show pure (env.blockKind == .function && env.kindOf y == some .local && py.line == pos.line && !(scope.names.any fun (n, k) => n == y && (k == .local || k == .cell))) = _
  rw [bk_fun hk]
  unfold swapB isLocal Env.kindOf
  congr 1
  cases env.scope.names.lookup y with
  | none => rfl
  | some k => cases k <;> rfl
theorem star_any {vs : List Expr} (h3 : vs.all notStar = true) : (vs.any fun | .Starred .. => true | _ => false) = false := by
  rw [List.any_eq_false]
  intro e he
  have := List.all_eq_true.mp h3 e he
  cases e <;> first | (intro z; cases z; done) | cases this
structure ParOk (sc : Scope) (ts : List (Str × Pos)) (vs : List Expr) : Prop where
  loc : ∀ t ∈ ts, sc.names.lookup t.1 = some .local
  line : ∀ t ∈ ts, (t.2.line == ((ts.head?.map (·.2.line)).getD 0)) = true
  nd : (ts.map (·.1)).Nodup
  star : vs.all notStar = true
  fold : vs.all (foldedForSure 8) = false
  cons : vs.all (constantsAlone 8) = false
theorem parB_ok {ts : List (Str × Pos)} {vs : List Expr} (h : parB sc ts vs = true) : ParOk sc ts vs := by
  unfold parB at h
  simp only [Bool.and_eq_true, Bool.not_eq_true', decide_eq_true_eq] at h
  obtain ⟨⟨⟨⟨h1, h2⟩, h3⟩, h4⟩, h5⟩ := h
  rw [List.all_eq_true] at h1
  exact ⟨fun t ht => isLocal_ok (by have := h1 t ht; rw [Bool.and_eq_true] at this; exact this.1), fun t ht => (by have := h1 t ht; rw [Bool.and_eq_true] at this; exact this.2), h2, h3, h4, h5⟩
theorem par2_ok {env : Env} {x y : Str} {px py pt pt2 : Pos} {k k2 : Nat} {a b : Expr} (hk : env.scope.kind = .function) (h : ParOk env.scope [(x, px), (y, py)] [a, b]) :
    swappedStores [.Tuple [.Name x px, .Name y py] k pt] (.Tuple [a, b] k2 pt2) env = pure (some [x, y]) := by
  have hx : env.kindOf x = some .local := h.loc (x, px) List.mem_cons_self
  have hy : env.kindOf y = some .local := h.loc (y, py) (List.mem_cons_of_mem _ List.mem_cons_self)
  have ly : py.line = px.line := by simpa using h.line (y, py) (List.mem_cons_of_mem _ List.mem_cons_self)
  have ne : x ≠ y := by have := h.nd; simp at this; exact this
  have hbk := bk_fun hk
  have e2 := h.fold
  have e3 := h.cons
  have sa : notStar a = true := by have := h.star; simp at this; exact this.1
  have sb : notStar b = true := by have := h.star; simp at this; exact this.2
  have n1 : (y == x) = false := by simpa using ne.symm
  unfold swappedStores
  simp only [hbk, e2, e3]
  simp [hx, hy, ly, List.eraseDups_cons, n1, Expr.pos]
  rintro (z | z)
  · cases a <;> first | (cases sa; done) | (cases z; done)
  · cases b <;> first | (cases sb; done) | (cases z; done)
theorem par3_ok {env : Env} {x y z : Str} {px py pz pt pt2 : Pos} {k k2 : Nat} {a b c : Expr} (hk : env.scope.kind = .function) (h : ParOk env.scope [(x, px), (y, py), (z, pz)] [a, b, c]) :
    swappedStores [.Tuple [.Name x px, .Name y py, .Name z pz] k pt] (.Tuple [a, b, c] k2 pt2) env = pure (some [x, y, z]) := by
  have hx : env.kindOf x = some .local := h.loc (x, px) (by simp)
  have hy : env.kindOf y = some .local := h.loc (y, py) (by simp)
  have hz : env.kindOf z = some .local := h.loc (z, pz) (by simp)
  have ly : py.line = px.line := by simpa using h.line (y, py) (by simp)
  have lz : pz.line = px.line := by simpa using h.line (z, pz) (by simp)
  have nd := h.nd
  simp only [List.map_cons, List.map_nil, List.nodup_cons, List.mem_cons, not_or, List.not_mem_nil] at nd
  have hbk := bk_fun hk
  have e2 := h.fold
  have e3 := h.cons
  have sa : notStar a = true := by have := h.star; simp at this; exact this.1
  have sb : notStar b = true := by have := h.star; simp at this; exact this.2.1
  have sc : notStar c = true := by have := h.star; simp at this; exact this.2.2
  have n1 : (y == x) = false := by simpa using Ne.symm nd.1.1
  have n2 : (z == x) = false := by simpa using Ne.symm nd.1.2.1
  have n3 : (z == y) = false := by simpa using Ne.symm nd.2.1.1
  unfold swappedStores
  simp only [hbk, e2, e3]
  simp [hx, hy, hz, ly, lz, List.eraseDups_cons, n1, n2, n3, Expr.pos]
  rintro (w | w | w)
  · cases a <;> first | (cases sa; done) | (cases w; done)
  · cases b <;> first | (cases sb; done) | (cases w; done)
  · cases c <;> first | (cases sc; done) | (cases w; done)
theorem par_no {ts vs : List Expr} {k k2 : Nat} {pt pt2 : Pos} {env : Env} (h : ts.length ≠ 2 ∧ ts.length ≠ 3) : swappedStores [.Tuple ts k pt] (.Tuple vs k2 pt2) env = pure none := by
  unfold swappedStores
  have e1 : (ts.length == 2) = false := by simpa using h.1
  have e2 : (ts.length == 3) = false := by simpa using h.2
  simp only [e1, e2]
  rfl
theorem sws_tup {ts : List Expr} {k : Nat} {pt : Pos} {e : Expr} {env : Env} (h : isTupE e = false) : swappedStores [.Tuple ts k pt] e env = pure none := by
  cases e <;> first | rfl | cases h
theorem sws_no {tg e : Expr} {env : Env} (h : isTupE tg = false) (hl : isL tg = false) : swappedStores [tg] e env = pure none := by
  cases tg <;> first | (cases h; done) | (cases hl; done) | rfl
theorem augF_ok {op : Operator} {f : O2} (h : augF op = some f) : OpR X (inplaceOp op) (rD2 X.K W f) := by
  cases op <;> cases h
  · exact o_iadd
  · exact o_isub
theorem nodup_ix {N : List Str} (nd : N.Nodup) {i j : Nat} {x y : Str} (hi : N[i]? = some x) (hj : N[j]? = some y) (h : x ≠ y) : i ≠ j := by
  intro e; subst e
  rw [hi] at hj; cases hj; exact h rfl
theorem cAsg_ok (h : XOk CX EW cx sc fn W X) {f : RE} {ft : RT} (hf : SE CX EW cx f) (hft : ST CX EW cx ft) {tg e : Expr} {pos : Pos} {d : DS} (q : cAsg cx f ft sc fn tg e = some d) : PS X (.Assign [tg] e pos) (tS X.K W d) := by
  have F : ∀ e d, f sc fn e = some d → PE X e (tE X.K W d) ∧ notStar e = true := fun e d q => hf sc fn W X h e d q
  unfold cAsg at q
  split at q
  · rename_i y py elt tg iter ifs scope lpos
    split at q
    · rename_i d0 i h1 h2
      cases q
      obtain ⟨own, it, g, t, e, rfl, P⟩ := cLc_ok h hf hft h1
      obtain ⟨a1, a2, a3⟩ := cSlot_ok h h2
      cases hs : swapB X.env.scope y py.line lpos.line scope with
      | true =>
        have hy : X.env.scope.names.lookup y = some .local := by
          unfold swapB at hs
          rw [Bool.and_eq_true, Bool.and_eq_true] at hs
          exact isLocal_ok hs.1.1
        exact s_setLc h.calm h.nd a1 hy (by rw [sw_lc h.kind, hs]) P.hi P.ok P.hix P.hg P.ht P.he P.hs
      | false =>
        have e1 := sw_lc (elt := elt) (gs := [⟨tg, iter, ifs, 0⟩]) (scope := scope) (pos := lpos) (py := py) (y := y) (l := pos.line) h.kind
        rw [hs] at e1
        exact s_asg (d_lc h.calm h.nd P.hi P.ok P.hix P.hg P.ht P.he P.hs) (g_name h.nd a1 a2 a3) e1 rfl rfl
    · cases q
  · rename_i x px y py k p a b k2 p2
    split at q
    · rename_i hp
      split at q
      · rename_i i j as h1 h2 h3
        cases q
        have P := parB_ok hp
        rw [← h.scp] at P
        have nd := P.nd
        simp only [List.map_cons, List.map_nil, List.nodup_cons, List.mem_cons, List.not_mem_nil, or_false] at nd
        have hi := ixOf_get h1
        have hj := ixOf_get h2
        rw [← h.nms] at hi hj
        exact s_par2 h.calm h.nd hi hj (nodup_ix h.nd hi hj nd.1) (P.loc (x, px) (by simp)) (P.loc (y, py) (by simp)) (cList_ok F h3).pa (par2_ok h.kind P) rfl
      · cases q
    · cases q
  · rename_i x px y py z pz k p a b c k2 p2
    split at q
    · rename_i hp
      split at q
      · rename_i i j l as h1 h2 h3 h4
        cases q
        have P := parB_ok hp
        rw [← h.scp] at P
        have nd := P.nd
        simp only [List.map_cons, List.map_nil, List.nodup_cons, List.mem_cons, List.not_mem_nil, or_false, not_or] at nd
        have hi := ixOf_get h1
        have hj := ixOf_get h2
        have hl := ixOf_get h3
        rw [← h.nms] at hi hj hl
        exact s_par3 h.calm h.nd hi hj hl (nodup_ix h.nd hi hj nd.1.1) (nodup_ix h.nd hi hl nd.1.2) (nodup_ix h.nd hj hl nd.2.1) (P.loc (x, px) (by simp)) (P.loc (y, py) (by simp)) (P.loc (z, pz) (by simp)) (cList_ok F h4).pa (par3_ok h.kind P) rfl
      · cases q
    · cases q
  · rename_i ts k p _ _
    split at q
    · rename_i hc
      split at q
      · rename_i g d0 h1 h2
        cases q
        obtain ⟨p1, p2⟩ := cTgt_ok h hf h1
        refine s_asg (F _ _ h2).1 p1 (swSole hc.1 _ _ _) ?_ p2
        cases ht : isTupE e with
        | false => exact sws_tup ht
        | true =>
          cases e <;> try (cases ht; done)
          exact par_no (hc.2 ht)
      · cases q
    · cases q
  · rename_i tg e _ _ _ _
    split at q
    · rename_i hc
      split at q
      · rename_i g d0 h1 h2
        cases q
        obtain ⟨p1, p2⟩ := cTgt_ok h hf h1
        exact s_asg (F _ _ h2).1 p1 (swSole hc.1 _ _ _) (sws_no hc.2.1 hc.2.2) p2
      · cases q
    · cases q
theorem stepS_ok {f : RE} {ft : RT} {fs : RS} (hf : SE CX EW cx f) (hft : ST CX EW cx ft) (hfs : SS CX EW cx fs) : SS CX EW cx (stepS cx f ft fs) := by
  intro sc fn W X h s d q
  have F : ∀ e d, f sc fn e = some d → PE X e (tE X.K W d) ∧ notStar e = true := fun e d q => hf sc fn W X h e d q
  have G : ∀ s d, fs sc fn s = some d → PS X s (tS X.K W d) := fun s d q => hfs sc fn W X h s d q
  unfold stepS at q
  split at q
  · rename_i e p
    split at q
    · rename_i hn
      cases h1 : f sc fn e with
      | none => rw [h1] at q; cases q
      | some d0 => rw [h1] at q; cases q; exact s_expr (F _ _ h1).1 (sw_none hn _ _ _)
    · cases q
  · rename_i e p
    cases h1 : f sc fn e with
    | none => rw [h1] at q; cases q
    | some d0 => rw [h1] at q; cases q; exact s_ret (F _ _ h1).1
  · cases q; exact s_pass
  · cases q; exact s_brk
  · cases q; exact s_cnt
  · exact cAsg_ok h hf hft q
  · split at q
    · rename_i i o d0 h1 h2 h3
      cases q
      obtain ⟨a1, a2, a3⟩ := cSlot_ok h h1
      exact s_aug h.nd a1 a2 (F _ _ h3).1 (augF_ok h2) a3
    · cases q
  · split at q
    · rename_i t a b h1 h2 h3
      cases q
      exact s_if (hft sc fn W X h _ _ h1) (cStmts_ok G h2) (cStmts_ok G h3)
    · cases q
  · split at q
    · rename_i it g b h1 h2 h3
      cases q
      obtain ⟨p1, p2⟩ := cIter_ok h F h1
      exact s_for h.own h.calm p1 (cTgt_ok h hf h2).1 (cStmts_ok G h3) p2
    · cases q
  · split at q
    · rename_i t b h1 h2
      cases q
      exact s_while h.own (hft sc fn W X h _ _ h1) (cStmts_ok G h2)
    · cases q
  · cases q
theorem cSt_ok : ∀ n : Nat, SS CX EW cx (cSt cx n)
  | 0 => fun _ _ _ _ _ _ _ q => by cases q
  | n + 1 => stepS_ok (cET_ok (n + 1)).1 (cET_ok (n + 1)).2 (cSt_ok n)
theorem cBody_ok {n : Nat} {body : List Stmt} {d : DS} (h : XOk CX EW cx sc (fun _ => true) W X) (q : cBody cx n sc body = some d) : PSs X body (tS X.K W d) := by
  unfold cBody at q
  cases h1 : cStmts (cSt cx n sc fun _ => true) body with
  | none => rw [h1] at q; cases q
  | some ds => rw [h1] at q; cases q; exact cStmts_ok (fun s d q => cSt_ok n sc _ W X h s d q) h1
end

/-! ### defs that raise nothing -/
abbrev EW0 : XK → XW := fun _ => WF
/-- what is known of the program at a level: its own functions so far, the built-ins' names that are free, the constants -/
structure Lib (P : Program) (w : World) (K : PySem.W.Frag) (mg : Str → Option Value) (base : Heap) (k : Nat) (fs : List FunE) (ls : List (Str × D)) : Prop where
  funs : ∀ g ∈ fs, ∃ f fd ps, FnOk P w K mg base CX0 k f fd ps (spF K EW0 g.ar g.fn) ∧ mg g.nm = some (.ref f) ∧ PySem.W.keepIn K (.ref f) = true ∧ Binds K fd ps []
  blts : ∀ b ∈ bltNames, mg b = none
  lits : ∀ p ∈ ls, ∃ u v, mg p.1 = some u ∧ RelV v u ∧ ∀ ρ H, RV K ρ H p.2 v
theorem Lib.up {P : Program} {w : World} {K : PySem.W.Frag} {mg : Str → Option Value} {base : Heap} {k : Nat} {fs : List FunE} {ls : List (Str × D)} (h : Lib P w K mg base k fs ls) : Lib P w K mg base (k + 1) fs ls :=
  ⟨fun g hg => let ⟨f, fd, ps, F, r⟩ := h.funs g hg; ⟨f, fd, ps, F.mono (Nat.le_succ k), r⟩, h.blts, h.lits⟩
theorem Lib.add {P : Program} {w : World} {K : PySem.W.Frag} {mg : Str → Option Value} {base : Heap} {k : Nat} {fs : List FunE} {ls : List (Str × D)} (h : Lib P w K mg base k fs ls) {g : FunE} {f : Addr} {fd : FuncData} {ps : List Str} (F : FnOk P w K mg base CX0 k f fd ps (spF K EW0 g.ar g.fn)) (m : mg g.nm = some (.ref f)) (kp : PySem.W.keepIn K (.ref f) = true) (b : Binds K fd ps []) : Lib P w K mg base k (g :: fs) ls :=
  ⟨fun g' hg => (List.mem_cons.mp hg).elim (fun e => by subst e; exact ⟨f, fd, ps, F, m, kp, b⟩) (h.funs g'), h.blts, h.lits⟩
/-- a def, by the function -/
theorem def_ok {P : Program} {w : World} {K : PySem.W.Frag} {mg : Str → Option Value} {base : Heap} {k n : Nat} {fs : List FunE} {ls : List (Str × D)} (L : Lib P w K mg base k fs ls) {x qual : Str} {st : Stmt} {f : Addr} {fd : FuncData} {N ps : List Str} {d : DS}
    (F : Fun K x qual st f fd) (S : FnScope N ps (defScope st)) (q : cBody ⟨N, fs, ls⟩ n (defScope st) (defBody st) = some d) : FnOk P w K mg base CX0 (k + 1) f fd ps (spF K EW0 ps.length (runFn ps.length N.length d)) := by
  refine F.ok S (fun vs H Q E ⟨ρ, S, ds, _, r, hl, _⟩ => by rw [← r.length]; exact hl) (fun cdv A outer s H vs Q E hr ⟨ρ, S', ds, rep, r, hl, post⟩ => ?_)
  have hX : XOk CX0 EW0 ⟨N, fs, ls⟩ (defScope st) (fun _ => true) WF (cxOf CX0 P w K mg base N qual (defScope st) f cdv A outer s H E).nox := by
    refine ⟨rfl, rfl, S.nd, rfl, S.kind, fun _ _ => rfl, PassesOwn.never, ⟨E0, pass0, fun _ _ _ _ z => z⟩, fun X' E _ _ => fun _ _ _ _ _ _ _ z => z.elim, ⟨E0, fun _ _ _ z => z⟩, ?_, fun g hg => ?_, L.blts, L.lits⟩
    · have h1 := hr.un
      show (A.deeper (envOfC qual (defScope st) s.heap.objs.size f cdv)).units + 64 < cLine
      omega
    · obtain ⟨f', fd', ps', F', m, kp, b⟩ := L.funs g hg
      exact ⟨k, f', fd', ps', F', hr, m, kp, b⟩
  exact ⟨_, cBody_ok hX q, body_ok rep r hl post⟩
end Py

/-! Reckoning with the reading: what a result leads to; loops; lists. Plain Lean. -/
namespace Py
open PySem PySem.Spec L2

inductive Ok {α : Type} : R α → (α → Hs → Prop) → Prop where
  | ok {v : α} {S : Hs} {Q : α → Hs → Prop} (h : Q v S) : Ok (.ok v S) Q
section
variable {α β : Type} {r : R α} {S : Hs} {Q Q' : α → Hs → Prop}
@[simp] theorem ok_ok {v : α} : Ok (.ok v S) Q = Q v S := propext ⟨fun h => by cases h with | ok h => exact h, .ok⟩
theorem ok_exc {e : Xc} : Ok (.exc e S) Q = False := propext ⟨nofun, False.elim⟩
theorem ok_bad : Ok .bad Q = False := propext ⟨nofun, False.elim⟩
theorem Ok.mono (h : Ok r Q) (f : ∀ v S, Q v S → Q' v S) : Ok r Q' := by
  cases h with
  | ok h => exact .ok (f _ _ h)
theorem ok_bind {k : α → Hs → R β} {Q : β → Hs → Prop} : Ok (r.bind k) Q = Ok r fun v S => Ok (k v S) Q := by
  cases r with
  | ok v S => exact (ok_ok (Q := fun v S => Ok (k v S) Q)).symm
  | exc _ _ => exact ok_exc.trans ok_exc.symm
  | bad => exact ok_bad.trans ok_bad.symm
theorem ok_bindN {k : α → Hs → R β} {Q : β → Hs → Prop} : Ok (r.bindN k) Q = Ok r fun v S => Ok (k v S) Q := by
  cases r with
  | ok v S => exact (ok_ok (Q := fun v S => Ok (k v S) Q)).symm
  | exc _ _ => exact ok_bad.trans ok_exc.symm
  | bad => exact ok_bad.trans ok_bad.symm
theorem Ok.st {τ : Ev} {k : α → Hs → R Fl} {Q : Fl → Hs → Prop} (h : Ok r fun v S => Ok (k v S) Q) : Ok (r.st τ k) Q := by
  cases h with
  | ok h => exact h
theorem Ok.ex (h : Ok r Q) : ∃ v S', r = .ok v S' ∧ Q v S' := by
  cases h with
  | ok h => exact ⟨_, _, rfl, h⟩
theorem Ok.of {v : α} (e : r = .ok v S) (h : Q v S) : Ok r Q := by subst e; exact .ok h
end
/-- the end of a def -/
def finQ (Q : D → Hs → Prop) (f : Fl) (S : Hs) : Prop := match f with
  | .nx _ => Q .non S
  | .rt v => Q v S
  | _ => False
theorem ok_run {np nn : Nat} {body : DS} {ds : List D} {S : Hs} {Q : D → Hs → Prop} (hl : ds.length = np) : Ok (runFn np nn body ds S) Q = Ok (body (ds.map some ++ List.replicate (nn - np) none) S) (finQ Q) := by
  unfold runFn
  rw [if_pos hl, ok_bind]
  congr 1
  funext f S
  cases f <;> first | rfl | exact ok_ok | exact ok_exc | exact ok_bad
/-- behind a statement of a block -/
def seqQ (r : List DS) (Q : Fl → Hs → Prop) (f : Fl) (S : Hs) : Prop := match f with
  | .nx τ => Ok (sSeq r τ S) Q
  | f => Q f S
theorem ok_seq {s : DS} {r : List DS} {τ : Ev} {S : Hs} {Q : Fl → Hs → Prop} : Ok (sSeq (s :: r) τ S) Q = Ok (s τ S) (seqQ r Q) := by
  show Ok ((s τ S).bind _) Q = _
  rw [ok_bind]
  congr 1
  funext f S
  cases f <;> first | rfl | exact ok_ok
@[simp] theorem ok_nil {τ : Ev} {S : Hs} {Q : Fl → Hs → Prop} : Ok (sSeq [] τ S) Q = Q (.nx τ) S := ok_ok (v := Fl.nx τ)
@[simp] theorem seqQ_nx {r : List DS} {Q : Fl → Hs → Prop} {τ : Ev} {S : Hs} : seqQ r Q (.nx τ) S = Ok (sSeq r τ S) Q := rfl
@[simp] theorem seqQ_rt {r : List DS} {Q : Fl → Hs → Prop} {v : D} {S : Hs} : seqQ r Q (.rt v) S = Q (.rt v) S := rfl
@[simp] theorem seqQ_bk {r : List DS} {Q : Fl → Hs → Prop} {v : Ev} {S : Hs} : seqQ r Q (.bk v) S = Q (.bk v) S := rfl
@[simp] theorem seqQ_ct {r : List DS} {Q : Fl → Hs → Prop} {v : Ev} {S : Hs} : seqQ r Q (.ct v) S = Q (.ct v) S := rfl
@[simp] theorem finQ_nx {Q : D → Hs → Prop} {τ : Ev} {S : Hs} : finQ Q (.nx τ) S = Q .non S := rfl
@[simp] theorem finQ_rt {Q : D → Hs → Prop} {v : D} {S : Hs} : finQ Q (.rt v) S = Q v S := rfl
/-! statements, one by one -/
section
variable {a b : DE} {g : DG} {τ : Ev} {S : Hs} {Q : Fl → Hs → Prop}
theorem Ok.expr (h : Ok (a τ S) fun _ S => Q (.nx τ) S) : Ok (sExpr a τ S) Q := Ok.st (h.mono fun _ _ q => .ok q)
theorem Ok.ret (h : Ok (a τ S) fun v S => Q (.rt v) S) : Ok (sRet a τ S) Q := Ok.st (h.mono fun _ _ q => .ok q)
theorem Ok.asg (h : Ok (a τ S) fun v S => Ok (g v τ S) fun τ S => Q (.nx τ) S) : Ok (sAsg a g τ S) Q := Ok.st (h.mono fun _ _ q => Ok.st (q.mono fun _ _ q => .ok q))
theorem Ok.set {i : Nat} (h : Ok (a τ S) fun v S => Q (.nx (τ.set i (some v))) S) : Ok (sAsg a (gSet i) τ S) Q := Ok.asg (h.mono fun _ _ q => .ok q)
theorem Ok.ite {t : DT} {p q : DS} (h : Ok (t τ S) fun k S => if k = true then Ok (p τ S) Q else Ok (q τ S) Q) : Ok (sIf t p q τ S) Q := Ok.st (h.mono fun k S z => by cases k <;> exact z)
/-- a loop by what holds ahead of each turn -/
def turnQ (Inv : Ev → Hs → Prop) (Q : Fl → Hs → Prop) (f : Fl) (S : Hs) : Prop := match f with
  | .nx τ => Inv τ S
  | .ct τ => Inv τ S
  | .bk τ => Q (.nx τ) S
  | .rt v => Q (.rt v) S
  | .ex τ e => Q (.ex τ e) S
@[simp] theorem turnQ_nx {Inv : Ev → Hs → Prop} : turnQ Inv Q (.nx τ) S = Inv τ S := rfl
@[simp] theorem turnQ_ct {Inv : Ev → Hs → Prop} : turnQ Inv Q (.ct τ) S = Inv τ S := rfl
@[simp] theorem turnQ_bk {Inv : Ev → Hs → Prop} : turnQ Inv Q (.bk τ) S = Q (.nx τ) S := rfl
@[simp] theorem turnQ_rt {Inv : Ev → Hs → Prop} {v : D} : turnQ Inv Q (.rt v) S = Q (.rt v) S := rfl
theorem Ok.loop {w : List (Nat × List D)} {body : DS} {ds : List D} (Inv : Nat → Ev → Hs → Prop) (h0 : Inv 0 τ S) (hc : ∀ i τ S, i ≤ ds.length → Inv i τ S → chk w S = true)
    (hs : ∀ i d τ S, ds[i]? = some d → Inv i τ S → Ok (g d τ S) fun τ S => Ok (body τ S) (turnQ (Inv (i + 1)) Q)) (hd : ∀ τ S, Inv ds.length τ S → Q (.nx τ) S) : Ok (forGo w g body ds τ S) Q := by
  have key : ∀ (r : List D) (i : Nat) (τ : Ev) (S : Hs), r = ds.drop i → i ≤ ds.length → Inv i τ S → Ok (forGo w g body r τ S) Q := by
    intro r
    induction r with
    | nil =>
      intro i τ S e hi p
      have : i = ds.length := by
        have := congrArg List.length e
        rw [List.length_nil, List.length_drop] at this
        omega
      subst this
      unfold forGo
      rw [if_pos (hc _ _ _ hi p)]
      exact .ok (hd τ S p)
    | cons d r ih =>
      intro i τ S e hi p
      have hlt : i < ds.length := by
        have := congrArg List.length e
        rw [List.length_cons, List.length_drop] at this
        omega
      have he := List.drop_eq_getElem_cons hlt
      rw [← e] at he
      injection he with e1 e2
      unfold forGo
      rw [if_pos (hc _ _ _ hi p)]
      refine Ok.st ((hs i d τ S (by rw [e1]; exact List.getElem?_eq_getElem hlt) p).mono fun τ' S' q => ?_)
      rw [ok_bind]
      refine q.mono fun f S'' z => ?_
      cases f with
      | nx τ2 => exact ih (i + 1) τ2 S'' e2 hlt z
      | ct τ2 => exact ih (i + 1) τ2 S'' e2 hlt z
      | bk τ2 => exact .ok z
      | rt v => exact .ok z
      | ex τ2 e => exact .ok z
  exact key ds 0 τ S rfl (Nat.zero_le _) h0
theorem Ok.for {it : DI} {body : DS} (h : Ok (it τ S) fun p S => Ok (forGo p.2 g body p.1 τ S) Q) : Ok (sFor it g body τ S) Q := Ok.st h
/-- while, by a number that falls -/
theorem Ok.whgo {t : DT} {body : DS} (Inv : Ev → Hs → Prop) (m : Ev → Hs → Nat) (hs : ∀ τ S, Inv τ S → Ok (t τ S) fun k S' => if k = true then Ok (body τ S') (turnQ (fun τ2 S2 => Inv τ2 S2 ∧ m τ2 S2 < m τ S) Q) else Q (.nx τ) S') : ∀ (n : Nat) (τ : Ev) (S : Hs), Inv τ S → m τ S < n → Ok (whGo t body n τ S) Q
  | 0, _, _, _, h => absurd h (Nat.not_lt_zero _)
  | n + 1, τ, S, p, h => by
    unfold whGo
    refine Ok.st ((hs τ S p).mono fun k S' q => ?_)
    cases k with
    | false => exact .ok q
    | true =>
      rw [if_pos rfl] at q ⊢
      rw [ok_bind]
      refine q.mono fun f S'' z => ?_
      cases f with
      | nx τ2 => exact Ok.whgo Inv m hs n τ2 S'' z.1 (by have := z.2; omega)
      | ct τ2 => exact Ok.whgo Inv m hs n τ2 S'' z.1 (by have := z.2; omega)
      | bk τ2 => exact .ok z
      | rt v => exact .ok z
      | ex τ2 e => exact .ok z
theorem Ok.while {t : DT} {body : DS} (Inv : Ev → Hs → Prop) (m : Ev → Hs → Nat) (h0 : Inv τ S) (hm : m τ S < 16777216) (hs : ∀ τ S, Inv τ S → Ok (t τ S) fun k S' => if k = true then Ok (body τ S') (turnQ (fun τ2 S2 => Inv τ2 S2 ∧ m τ2 S2 < m τ S) Q) else Q (.nx τ) S') : Ok (sWhile t body τ S) Q := Ok.whgo Inv m hs _ τ S h0 hm
end
/-! ### the heap -/
theorem pre_at {S S' : Hs} (p : S <+: S') {n : Nat} {c : Cell} (h : S[n]? = some c) : S'[n]? = some c := pre_get p h
theorem pre_refl (S : Hs) : S <+: S := List.prefix_refl S
theorem pre_app (S T : Hs) : S <+: S ++ T := List.prefix_append S T
theorem at_new (S : Hs) (c : Cell) : (S ++ [c])[S.length]? = some c := by simp
theorem at_lt {S : Hs} {n : Nat} {c : Cell} (h : S[n]? = some c) : n < S.length := (List.getElem?_eq_some_iff.mp h).1
theorem at_app {S T : Hs} {n : Nat} {c : Cell} (h : S[n]? = some c) : (S ++ T)[n]? = some c := by rw [List.getElem?_append_left (at_lt h)]; exact h
theorem pre_set {S S' : Hs} (p : S <+: S') {n : Nat} (h : S.length ≤ n) (c : Cell) : S <+: S'.set n c := by
  obtain ⟨T, rfl⟩ := p
  rw [List.set_append_right _ _ h]
  exact List.prefix_append _ _
theorem at_set {S : Hs} {n : Nat} {c c' : Cell} (h : S[n]? = some c) : (S.set n c')[n]? = some c' := List.getElem?_set_self (at_lt h)
theorem at_set_ne {S : Hs} {m n : Nat} {c c' : Cell} (h : S[m]? = some c) (e : n ≠ m) : (S.set n c')[m]? = some c := by rw [List.getElem?_set_ne e]; exact h
theorem lst_of {S : Hs} {n : Nat} {ds : List D} (h : S[n]? = some (.lst ds)) : lstOf S (.ref n) = some ds := by simp only [lstOf, h]
theorem wr_of {S : Hs} {n : Nat} {ds : List D} (h : S[n]? = some (.lst ds)) : wrOf S (.ref n) = some (n, ds) := by simp only [wrOf, h]
theorem dic_no {S : Hs} {n : Nat} {ds : List D} (h : S[n]? = some (.lst ds)) : dicOf S (.ref n) = none := by simp only [dicOf, h]
theorem seq_of {S : Hs} {n : Nat} {ds : List D} (h : S[n]? = some (.lst ds)) : seqOf S (.ref n) = some ds := lst_of h
theorem chk_one {S : Hs} {n : Nat} {ds : List D} (h : S[n]? = some (.lst ds)) : chk [(n, ds)] S = true := by
  simp only [chk, List.all_cons, List.all_nil, Bool.and_true, lst_of h]
  exact (D.eqbs_iff ds ds).mpr rfl
theorem chk_nil {S : Hs} : chk [] S = true := rfl
end Py

/-! Equations by which simp runs the reading, from what is known to what is asked. -/
namespace Py
open PySem PySem.Spec L2
section
variable {α β : Type} {τ : Ev} {S : Hs} {a b c : DE} {v d e : D} {x y : DE}
theorem ev_bind (u : α) (S : Hs) (k : α → Hs → R β) : (R.ok u S).bind k = k u S := rfl
theorem ev_st (u : α) (S : Hs) (τ : Ev) (k : α → Hs → R Fl) : (R.ok u S).st τ k = k u S := rfl
theorem ev_var0 : dVar 0 (some v :: τ) S = .ok v S := rfl
theorem ev_varS {i : Nat} {o : Option D} : dVar (i + 1) (o :: τ) S = dVar i τ S := rfl
theorem ev_lit : dLit d τ S = .ok d S := rfl
theorem ev_bin {f : O2} : dBin f a b τ S = (a τ S).bind fun x S => (b τ S).bind fun y S => f x y S := rfl
theorem ev_un {f : D → Hs → R D} : dUn f a τ S = (a τ S).bind fun x S => f x S := rfl
/-- a value that may not be there -/
def opt (o : Option D) (S : Hs) : R D := match o with
  | some v => .ok v S
  | none => .bad
theorem ev_opt : opt (some v) S = .ok v S := rfl
def optB (o : Option Bool) (S : Hs) : R Bool := match o with
  | some v => .ok v S
  | none => .bad
theorem ev_optB {k : Bool} : optB (some k) S = .ok k S := rfl
def blK (x : D) (S : Hs) : R Bool := match x with
  | .bl k => .ok k S
  | _ => .bad
theorem ev_blK {k : Bool} : blK (.bl k) S = .ok k S := rfl
theorem ev_tBl : tBl a τ S = (a τ S).bind blK := rfl
theorem ev_tTru : tTru a τ S = (a τ S).bind fun x S => optB (truD S x) S := rfl
theorem ev_tAnd {t u : DT} : tAndD t u τ S = (t τ S).bind fun k S => if k = true then u τ S else .ok false S := rfl
theorem ev_tOr {t u : DT} : tOrD t u τ S = (t τ S).bind fun k S => if k = true then .ok true S else u τ S := rfl
theorem ev_tNot {t : DT} : tNotD t τ S = (t τ S).bind fun k S => .ok (!k) S := rfl
theorem ev_tTrue : tTrue τ S = .ok true S := rfl
theorem ev_dIf {t : DT} : dIf t a b τ S = (t τ S).bind fun k S => if k = true then a τ S else b τ S := rfl
def andK (b : DE) (τ : Ev) (o : Option Bool) (x : D) (S : Hs) : R D := match o with
  | some true => b τ S
  | some false => .ok x S
  | none => .bad
theorem ev_andK {k : Bool} : andK b τ (some k) v S = if k = true then b τ S else .ok v S := by cases k <;> rfl
theorem ev_dAnd : dAnd a b τ S = (a τ S).bind fun x S => andK b τ (truD S x) x S := by
  unfold dAnd andK
  congr 1
def orK (b : DE) (τ : Ev) (o : Option Bool) (x : D) (S : Hs) : R D := match o with
  | some true => .ok x S
  | some false => b τ S
  | none => .bad
theorem ev_orK {k : Bool} : orK b τ (some k) v S = if k = true then .ok v S else b τ S := by cases k <;> rfl
theorem ev_dOr : dOr a b τ S = (a τ S).bind fun x S => orK b τ (truD S x) x S := by
  unfold dOr orK
  congr 1
def notK (o : Option Bool) (S : Hs) : R D := match o with
  | some k => .ok (.bl (!k)) S
  | none => .bad
theorem ev_notK {k : Bool} : notK (some k) S = .ok (.bl (!k)) S := rfl
theorem ev_dNot : dNot a τ S = (a τ S).bind fun x S => notK (truD S x) S := by
  unfold dNot notK
  congr 1
theorem ev_args0 : dArgs [] τ S = .ok [] S := rfl
theorem ev_args {as : List DE} : dArgs (a :: as) τ S = (a τ S).bind fun x S => (dArgs as τ S).bind fun xs S => .ok (x :: xs) S := rfl
theorem ev_tup {as : List DE} : dTup as τ S = (dArgs as τ S).bind fun ds S => .ok (.tup ds) S := rfl
theorem ev_lst {as : List DE} : dLst as τ S = (dArgs as τ S).bind fun ds S => newL S ds := rfl
theorem ev_call {f : Fn} {as : List DE} : dCall f as τ S = (dArgs as τ S).bind fun ds S => f ds S := rfl
theorem ev_mt {T : MTy} {f : D → List D → Hs → R D} {as : List DE} : dMt T f a as τ S = (a τ S).bind fun x S => if tyOk S x T = true then (dArgs as τ S).bind fun ds S => f x ds S else .bad := rfl
theorem ev_part0 : dPart none τ S = .ok none S := rfl
def partK (x : D) (S : Hs) : R (Option Int) := match x with
  | .int i => .ok (some i) S
  | _ => .bad
theorem ev_partK {i : Int} : partK (.int i) S = .ok (some i) S := rfl
theorem ev_part : dPart (some a) τ S = (a τ S).bind partK := rfl
theorem ev_sl {lo hi : Option DE} : dSl a lo hi τ S = (a τ S).bind fun x S => (dPart lo τ S).bind fun l S => (dPart hi τ S).bind fun h S => opSl x l h S := rfl
theorem ev_dict0 : dDict0 τ S = .ok (.ref S.length) (S ++ [.dic []]) := rfl
theorem ev_newL {ds : List D} : newL S ds = .ok (.ref S.length) (S ++ [.lst ds]) := rfl
/-! operators on what is known -/
theorem ev_addI {i j : Int} : opAdd (.int i) (.int j) S = .ok (.int (i + j)) S := rfl
theorem ev_addT {xs ys : List D} : opAdd (.tup xs) (.tup ys) S = if xs.length + ys.length ≤ sizeLine then .ok (.tup (xs ++ ys)) S else .bad := rfl
theorem ev_addS {i j : Str} : opAdd (.str i) (.str j) S = if i.length + j.length ≤ sizeLine then .ok (.str (i ++ j)) S else .bad := rfl
theorem ev_subI {i j : Int} : opSub (.int i) (.int j) S = .ok (.int (i - j)) S := rfl
theorem ev_mulI {i j : Int} : opMul (.int i) (.int j) S = if (-(2 ^ 64) < i ∧ i < 2 ^ 64) ∨ (-(2 ^ 64) < j ∧ j < 2 ^ 64) then .ok (.int (i * j)) S else .bad := rfl
theorem ev_divI {i j : Int} : opDiv (.int i) (.int j) S = if 0 < j ∧ j < 1073741824 then .ok (.int (i / j)) S else .bad := rfl
theorem ev_modI {i j : Int} : opMod (.int i) (.int j) S = if 0 < j then .ok (.int (i % j)) S else .bad := rfl
theorem ev_powI {i j : Int} : opPow (.int i) (.int j) S = if 0 ≤ j ∧ j ≤ 1000000 ∧ i.natAbs < 2 ^ 64 then .ok (.int (i ^ j.toNat)) S else .bad := rfl
theorem nabs10 : Int.natAbs 10 = 10 := rfl
theorem ev_negI {i : Int} : opNeg (.int i) S = .ok (.int (-i)) S := rfl
theorem ev_iaddI {i j : Int} : opIAdd (.int i) (.int j) S = .ok (.int (i + j)) S := rfl
theorem ev_ltI {i j : Int} : opLt (.int i) (.int j) S = .ok (.bl (decide (i < j))) S := rfl
theorem ev_leI {i j : Int} : opLe (.int i) (.int j) S = .ok (.bl (decide (i ≤ j))) S := rfl
theorem ev_gtI {i j : Int} : opGt (.int i) (.int j) S = .ok (.bl (decide (j < i))) S := rfl
theorem ev_geI {i j : Int} : opGe (.int i) (.int j) S = .ok (.bl (decide (j ≤ i))) S := rfl
theorem ev_eqI {i j : Int} : opEq (.int i) (.int j) S = .ok (.bl (decide (i = j))) S := rfl
theorem ev_neI {i j : Int} : opNe (.int i) (.int j) S = .ok (.bl (!decide (i = j))) S := rfl
theorem ev_eqS {i j : Str} : opEq (.str i) (.str j) S = .ok (.bl (decide (i = j))) S := rfl
theorem ev_neS {i j : Str} : opNe (.str i) (.str j) S = .ok (.bl (!decide (i = j))) S := rfl
def eqP (o p : Option PyData) (S : Hs) : R D := match o, p with
  | some a, some b => .ok (.bl (PyData.eqv a b)) S
  | _, _ => .bad
def neP (o p : Option PyData) (S : Hs) : R D := match o, p with
  | some a, some b => .ok (.bl (!PyData.eqv a b)) S
  | _, _ => .bad
theorem ev_eqP {p q : PyData} : eqP (some p) (some q) S = .ok (.bl (PyData.eqv p q)) S := rfl
theorem ev_neP {p q : PyData} : neP (some p) (some q) S = .ok (.bl (!PyData.eqv p q)) S := rfl
theorem ev_eqR {m n : Nat} : opEq (.ref m) (.ref n) S = eqP (pd 12 S (.ref m)) (pd 12 S (.ref n)) S := rfl
theorem ev_neR {m n : Nat} : opNe (.ref m) (.ref n) S = neP (pd 12 S (.ref m)) (pd 12 S (.ref n)) S := rfl
theorem ev_eqT {xs ys : List D} : opEq (.tup xs) (.tup ys) S = eqP (pd 12 S (.tup xs)) (pd 12 S (.tup ys)) S := rfl
theorem ev_neT {xs ys : List D} : opNe (.tup xs) (.tup ys) S = neP (pd 12 S (.tup xs)) (pd 12 S (.tup ys)) S := rfl
theorem ev_isN : opIs .non .non S = .ok (.bl true) S := rfl
theorem ev_is : opIs v .non S = .ok (.bl (isNon v)) S := rfl
theorem ev_isn : opIsN v .non S = .ok (.bl (!isNon v)) S := rfl
theorem ev_ixT {xs : List D} {i : Int} : opIx (.tup xs) (.int i) S = opt (atI xs i) S := by
  show (match atI xs i with | some d => R.ok d S | none => R.bad) = _
  cases atI xs i <;> rfl
theorem ev_ixF {xs : List D} {i : Int} : opIx (.frl xs) (.int i) S = opt (atI xs i) S := by
  show (match atI xs i with | some d => R.ok d S | none => R.bad) = _
  cases atI xs i <;> rfl
theorem ev_slF {ds : List D} {l h : Option Int} : opSl (.frl ds) l h S = newL S (cutD ds l h) := rfl
theorem ev_slT {ds : List D} {l h : Option Int} : opSl (.tup ds) l h S = .ok (.tup (cutD ds l h)) S := rfl
theorem ev_truB {k : Bool} : truD S (.bl k) = some k := rfl
theorem ev_truI {i : Int} : truD S (.int i) = some (i != 0) := rfl
theorem ev_truT {ds : List D} : truD S (.tup ds) = some (!ds.isEmpty) := rfl
/-! built-ins -/
theorem ev_lenT {ds : List D} : fLen [.tup ds] S = .ok (.int ds.length) S := rfl
theorem ev_lenF {ds : List D} : fLen [.frl ds] S = .ok (.int ds.length) S := rfl
theorem ev_lenS {x : Str} : fLen [.str x] S = if x.length ≤ sizeLine then .ok (.int x.length) S else .bad := by
  unfold fLen lenD
  by_cases h : x.length ≤ sizeLine <;> simp only [h, if_true, if_false]
theorem ev_abs {i : Int} : fAbs [.int i] S = .ok (.int (if i < 0 then -i else i)) S := rfl
theorem ev_max3 {i j k : Int} : fMax [.int i, .int j, .int k] S = .ok (.int (max (max i j) k)) S := rfl
theorem ev_min3 {i j k : Int} : fMin [.int i, .int j, .int k] S = .ok (.int (min (min i j) k)) S := rfl
theorem ev_max {i j : Int} : fMax [.int i, .int j] S = .ok (.int (max i j)) S := by
  show R.ok (D.int _) S = _
  congr 2
  split <;> omega
theorem ev_min {i j : Int} : fMin [.int i, .int j] S = .ok (.int (min i j)) S := by
  show R.ok (D.int _) S = _
  congr 2
  split <;> omega
theorem ev_intI {i : Int} : fInt [.int i] S = .ok (.int i) S := rfl
theorem ev_intB {k : Bool} : fInt [.bl k] S = .ok (.int (if k then 1 else 0)) S := rfl
theorem ev_listF {ds : List D} : fList [.frl ds] S = newL S ds := rfl
theorem ev_listT {ds : List D} : fList [.tup ds] S = newL S ds := rfl
def rngK (ds : List D) (S : Hs) : R D := match rngOf ds with
  | some (i, j, k) => if rngOk i j k = true ∧ (Builtin.Range.rangeSize i j k).toNat ≤ 2 ^ 24 then newL S (rgD i k (Builtin.Range.rangeSize i j k).toNat) else .bad
  | none => .bad
theorem ev_range {as : List DE} : dRange as τ S = (dArgs as τ S).bind rngK := rfl
theorem ev_rng3 {i j k : Int} : rngK [.int i, .int j, .int k] S = if rngOk i j k = true ∧ (Builtin.Range.rangeSize i j k).toNat ≤ 2 ^ 24 then newL S (rgD i k (Builtin.Range.rangeSize i j k).toNat) else .bad := rfl
theorem ev_rng2 {i j : Int} : rngK [.int i, .int j] S = if rngOk i j 1 = true ∧ (Builtin.Range.rangeSize i j 1).toNat ≤ 2 ^ 24 then newL S (rgD i 1 (Builtin.Range.rangeSize i j 1).toNat) else .bad := rfl
theorem ev_rng1 {j : Int} : rngK [.int j] S = if rngOk 0 j 1 = true ∧ (Builtin.Range.rangeSize 0 j 1).toNat ≤ 2 ^ 24 then newL S (rgD 0 1 (Builtin.Range.rangeSize 0 j 1).toNat) else .bad := rfl
def rngI (ds : List D) (S : Hs) : R (List D × List (Nat × List D)) := match rngOf ds with
  | some (i, j, k) => if rngOk i j k = true then .ok (rgD i k (Builtin.Range.rangeSize i j k).toNat, []) S else .bad
  | none => .bad
theorem ev_irange {as : List DE} : iRange as τ S = (dArgs as τ S).bind rngI := rfl
theorem ev_irng2 {i j : Int} : rngI [.int i, .int j] S = if rngOk i j 1 = true then .ok (rgD i 1 (Builtin.Range.rangeSize i j 1).toNat, []) S else .bad := rfl
theorem ev_irng1 {j : Int} : rngI [.int j] S = if rngOk 0 j 1 = true then .ok (rgD 0 1 (Builtin.Range.rangeSize 0 j 1).toNat, []) S else .bad := rfl
def valI (x : D) (S : Hs) : R (List D × List (Nat × List D)) := match x with
  | .tup ds => .ok (ds, []) S
  | .str x => .ok (x.cps.toList.map fun c => .str ⟨#[c]⟩, []) S
  | x => match lstOf S x with
    | some ds => .ok (ds, watch x ds) S
    | none => .bad
theorem ev_ival : iVal a τ S = (a τ S).bind valI := rfl
theorem ev_valT {ds : List D} : valI (.tup ds) S = .ok (ds, []) S := rfl
theorem ev_valF {ds : List D} : valI (.frl ds) S = .ok (ds, []) S := rfl
/-! cells: what stands at a place -/
def appAt (n : Nat) (o : Option Cell) (v : D) (S : Hs) : R D := match o with
  | some (.lst ds) => if ds.length < sizeLine then .ok .non (S.set n (.lst (ds ++ [v]))) else .bad
  | _ => .bad
theorem ev_appAt {n : Nat} {ds : List D} : appAt n (some (.lst ds)) v S = if ds.length < sizeLine then .ok .non (S.set n (.lst (ds ++ [v]))) else .bad := rfl
theorem ev_append {n : Nat} : mAppend (.ref n) [v] S = appAt n S[n]? v S := by
  simp only [mAppend, wrOf, appAt]
  cases S[n]? with
  | none => rfl
  | some c => cases c <;> rfl
def extAt (n : Nat) (o p : Option Cell) (S : Hs) : R D := match o, p with
  | some (.lst ds), some (.lst es) => if ds.length + es.length ≤ sizeLine then .ok .non (S.set n (.lst (ds ++ es))) else .bad
  | _, _ => .bad
theorem ev_extAt {n : Nat} {ds es : List D} : extAt n (some (.lst ds)) (some (.lst es)) S = if ds.length + es.length ≤ sizeLine then .ok .non (S.set n (.lst (ds ++ es))) else .bad := rfl
theorem ev_extend {m n : Nat} : mExtend (.ref m) [.ref n] S = extAt m S[m]? S[n]? S := by
  simp only [mExtend, wrOf, extAt]
  cases S[m]? with
  | none => rfl
  | some c => cases c <;> first | rfl | (cases S[n]? with
    | none => rfl
    | some c => cases c <;> rfl)
def lstAt (o : Option Cell) : Bool := match o with
  | some (.lst _) => true
  | _ => false
theorem ev_lstAt {ds : List D} : lstAt (some (.lst ds)) = true := rfl
theorem ev_tyL {n : Nat} : tyOk S (.ref n) .list = lstAt S[n]? := by
  simp only [tyOk, lstOf, lstAt]
  cases S[n]? with
  | none => rfl
  | some c => cases c <;> rfl
theorem ev_tyS {x : Str} : tyOk S (.str x) .str = true := rfl
def addAt (o p : Option Cell) (S : Hs) : R D := match o, p with
  | some (.lst xs), some (.lst ys) => if xs.length + ys.length ≤ sizeLine then newL S (xs ++ ys) else .bad
  | _, _ => .bad
theorem ev_addAt {xs ys : List D} : addAt (some (.lst xs)) (some (.lst ys)) S = if xs.length + ys.length ≤ sizeLine then newL S (xs ++ ys) else .bad := rfl
theorem ev_addR {m n : Nat} : opAdd (.ref m) (.ref n) S = addAt S[m]? S[n]? S := by
  simp only [opAdd, wrOf, addAt]
  cases S[m]? with
  | none => rfl
  | some c => cases c <;> first | rfl | (cases S[n]? with
    | none => rfl
    | some c => cases c <;> rfl)
def mulAt (o : Option Cell) (k : Int) (S : Hs) : R D := match o with
  | some (.lst xs) => if -(2 ^ 63) ≤ k ∧ k < 2 ^ 63 ∧ xs.length * k.toNat ≤ sizeLine then newL S (List.replicate k.toNat xs).flatten else .bad
  | _ => .bad
theorem ev_mulAt {xs : List D} {k : Int} : mulAt (some (.lst xs)) k S = if -(2 ^ 63) ≤ k ∧ k < 2 ^ 63 ∧ xs.length * k.toNat ≤ sizeLine then newL S (List.replicate k.toNat xs).flatten else .bad := rfl
theorem ev_mulR {m : Nat} {k : Int} : opMul (.ref m) (.int k) S = mulAt S[m]? k S := by
  simp only [opMul, wrOf, mulAt]
  cases S[m]? with
  | none => rfl
  | some c => cases c <;> rfl
def ixAt (o : Option Cell) (k : Key) (S : Hs) : R D := match o with
  | some (.lst ds) => match k with
    | .inl i => opt (atI ds i) S
    | _ => .bad
  | some (.dic kvs) => opt (look kvs k) S
  | _ => .bad
theorem ev_ixAtL {ds : List D} {i : Int} : ixAt (some (.lst ds)) (.inl i) S = opt (atI ds i) S := rfl
theorem ev_ixAtD {kvs : List (Key × D)} {k : Key} : ixAt (some (.dic kvs)) k S = opt (look kvs k) S := rfl
theorem ev_ixR {n : Nat} {i : Int} : opIx (.ref n) (.int i) S = ixAt S[n]? (.inl i) S := by
  simp only [opIx, ixD, dicOf, seqOf, lstOf, ixAt, keyOf]
  cases S[n]? with
  | none => rfl
  | some c => cases c with
    | lst ds => cases h : atI ds i <;> simp [opt, h]
    | dic kvs => cases h : look kvs (Sum.inl i) <;> simp [opt, h]
    | ins _ _ => rfl
theorem ev_ixRS {n : Nat} {x : Str} : opIx (.ref n) (.str x) S = ixAt S[n]? (.inr x) S := by
  simp only [opIx, ixD, dicOf, seqOf, lstOf, ixAt, keyOf]
  cases S[n]? with
  | none => rfl
  | some c => cases c with
    | lst ds => rfl
    | dic kvs => cases h : look kvs (Sum.inr x) <;> simp [opt, h]
    | ins _ _ => rfl
def slAt (o : Option Cell) (l h : Option Int) (S : Hs) : R D := match o with
  | some (.lst ds) => newL S (cutD ds l h)
  | _ => .bad
theorem ev_slAt {ds : List D} {l h : Option Int} : slAt (some (.lst ds)) l h S = newL S (cutD ds l h) := rfl
theorem ev_slR {n : Nat} {l h : Option Int} : opSl (.ref n) l h S = slAt S[n]? l h S := by
  simp only [opSl, lstOf, slAt]
  cases S[n]? with
  | none => rfl
  | some c => cases c <;> rfl
def revAt (o : Option Cell) (S : Hs) : R D := match o with
  | some (.lst ds) => newL S ds.reverse
  | _ => .bad
theorem ev_revAt {ds : List D} : revAt (some (.lst ds)) S = newL S ds.reverse := rfl
theorem ev_rev {n : Nat} : opRev (.ref n) S = revAt S[n]? S := by
  simp only [opRev, lstOf, revAt]
  cases S[n]? with
  | none => rfl
  | some c => cases c <;> rfl
def truAt (o : Option Cell) : Option Bool := match o with
  | some (.lst ds) => some (!ds.isEmpty)
  | some (.dic ds) => some (!ds.isEmpty)
  | _ => none
theorem ev_truAt {ds : List D} : truAt (some (.lst ds)) = some (!ds.isEmpty) := rfl
theorem ev_truR {n : Nat} : truD S (.ref n) = truAt S[n]? := by
  simp only [truD, lstOf, dicOf, truAt]
  cases S[n]? with
  | none => rfl
  | some c => cases c <;> rfl
def lenAt (o : Option Cell) (S : Hs) : R D := match o with
  | some (.lst ds) => .ok (.int ds.length) S
  | some (.dic ds) => .ok (.int ds.length) S
  | _ => .bad
theorem ev_lenAt {ds : List D} : lenAt (some (.lst ds)) S = .ok (.int ds.length) S := rfl
theorem ev_lenAtD {ds : List (Key × D)} : lenAt (some (.dic ds)) S = .ok (.int ds.length) S := rfl
theorem ev_lenR {n : Nat} : fLen [.ref n] S = lenAt S[n]? S := by
  simp only [fLen, lenD, seqOf, lstOf, dicOf, lenAt]
  cases S[n]? with
  | none => rfl
  | some c => cases c <;> rfl
def listAt (o : Option Cell) (S : Hs) : R D := match o with
  | some (.lst ds) => newL S ds
  | _ => .bad
theorem ev_listAt {ds : List D} : listAt (some (.lst ds)) S = newL S ds := rfl
theorem ev_listR {n : Nat} : fList [.ref n] S = listAt S[n]? S := by
  simp only [fList, seqOf, lstOf, listAt]
  cases S[n]? with
  | none => rfl
  | some c => cases c <;> rfl
def tupAt (o : Option Cell) (S : Hs) : R D := match o with
  | some (.lst ds) => .ok (.tup ds) S
  | _ => .bad
theorem ev_tupAt {ds : List D} : tupAt (some (.lst ds)) S = .ok (.tup ds) S := rfl
theorem ev_tupR {n : Nat} : fTuple [.ref n] S = tupAt S[n]? S := by
  simp only [fTuple, seqOf, lstOf, tupAt]
  cases S[n]? with
  | none => rfl
  | some c => cases c <;> rfl
def optI (o : Option (List Int)) (S : Hs) : R D := match o with
  | some ns => .ok (.int ns.sum) S
  | none => .bad
theorem ev_optI {ns : List Int} : optI (some ns) S = .ok (.int ns.sum) S := rfl
def sumAt (o : Option Cell) (S : Hs) : R D := match o with
  | some (.lst ds) => optI (intsOf ds) S
  | _ => .bad
theorem ev_sumAt {ds : List D} : sumAt (some (.lst ds)) S = optI (intsOf ds) S := rfl
theorem ev_sumR {n : Nat} : fSum [.ref n] S = sumAt S[n]? S := by
  simp only [fSum, lstOf, sumAt]
  cases S[n]? with
  | none => rfl
  | some c => cases c with
    | lst ds => cases h : intsOf ds <;> simp [optI, h]
    | dic _ => rfl
    | ins _ _ => rfl
def optA (o : Option (List Bool)) (S : Hs) : R D := match o with
  | some ns => .ok (.bl (ns.all id)) S
  | none => .bad
theorem ev_optA {ns : List Bool} : optA (some ns) S = .ok (.bl (ns.all id)) S := rfl
def allAt (o : Option Cell) (S : Hs) : R D := match o with
  | some (.lst ds) => optA (blsOf ds) S
  | _ => .bad
theorem ev_allAt {ds : List D} : allAt (some (.lst ds)) S = optA (blsOf ds) S := rfl
theorem ev_allR {n : Nat} : fAll [.ref n] S = allAt S[n]? S := by
  simp only [fAll, lstOf, allAt]
  cases S[n]? with
  | none => rfl
  | some c => cases c with
    | lst ds => cases h : blsOf ds <;> simp [optA, h]
    | dic _ => rfl
    | ins _ _ => rfl
def optAny (o : Option (List Bool)) (S : Hs) : R D := match o with
  | some ns => .ok (.bl (ns.any id)) S
  | none => .bad
theorem ev_optAny {ns : List Bool} : optAny (some ns) S = .ok (.bl (ns.any id)) S := rfl
def anyAt (o : Option Cell) (S : Hs) : R D := match o with
  | some (.lst ds) => optAny (blsOf ds) S
  | _ => .bad
theorem ev_anyAt {ds : List D} : anyAt (some (.lst ds)) S = optAny (blsOf ds) S := rfl
theorem ev_anyR {n : Nat} : fAny [.ref n] S = anyAt S[n]? S := by
  simp only [fAny, lstOf, anyAt]
  cases S[n]? with
  | none => rfl
  | some c => cases c with
    | lst ds => cases h : blsOf ds <;> simp [optAny, h]
    | dic _ => rfl
    | ins _ _ => rfl
def valAt (n : Nat) (o : Option Cell) (S : Hs) : R (List D × List (Nat × List D)) := match o with
  | some (.lst ds) => .ok (ds, [(n, ds)]) S
  | _ => .bad
theorem ev_valAt {n : Nat} {ds : List D} : valAt n (some (.lst ds)) S = .ok (ds, [(n, ds)]) S := rfl
theorem ev_valR {n : Nat} : valI (.ref n) S = valAt n S[n]? S := by
  simp only [valI, lstOf, valAt, watch]
  cases S[n]? with
  | none => rfl
  | some c => cases c <;> rfl
def enumI (ds : List D) (S : Hs) : R (List D × List (Nat × List D)) := match ds with
  | [x] => match lstOf S x with
    | some ds => .ok (enumD 0 ds, watch x ds) S
    | none => .bad
  | _ => .bad
theorem ev_ienum {as : List DE} : iEnumD as τ S = (dArgs as τ S).bind enumI := rfl
def enumAt (n : Nat) (o : Option Cell) (S : Hs) : R (List D × List (Nat × List D)) := match o with
  | some (.lst ds) => .ok (enumD 0 ds, [(n, ds)]) S
  | _ => .bad
theorem ev_enumAt {n : Nat} {ds : List D} : enumAt n (some (.lst ds)) S = .ok (enumD 0 ds, [(n, ds)]) S := rfl
theorem ev_enumR {n : Nat} : enumI [.ref n] S = enumAt n S[n]? S := by
  simp only [enumI, lstOf, enumAt, watch]
  cases S[n]? with
  | none => rfl
  | some c => cases c <;> rfl
def zipI (ds : List D) (S : Hs) : R (List D × List (Nat × List D)) := match ds with
  | [x, y] => match lstOf S x with
    | some ds => match lstOf S y with
      | some es => .ok (zipD ds es, watch x ds ++ watch y es) S
      | none => .bad
    | none => .bad
  | _ => .bad
theorem ev_izip {as : List DE} : iZipD as τ S = (dArgs as τ S).bind zipI := rfl
def zipAt (m n : Nat) (o p : Option Cell) (S : Hs) : R (List D × List (Nat × List D)) := match o, p with
  | some (.lst ds), some (.lst es) => .ok (zipD ds es, [(m, ds), (n, es)]) S
  | _, _ => .bad
theorem ev_zipAt {m n : Nat} {ds es : List D} : zipAt m n (some (.lst ds)) (some (.lst es)) S = .ok (zipD ds es, [(m, ds), (n, es)]) S := rfl
theorem ev_zipR {m n : Nat} : zipI [.ref m, .ref n] S = zipAt m n S[m]? S[n]? S := by
  simp only [zipI, lstOf, zipAt, watch]
  cases S[m]? with
  | none => rfl
  | some c => cases c <;> first | rfl | (cases S[n]? with
    | none => rfl
    | some c => cases c <;> rfl)
def isiK (T : String) (o : Option String) (S : Hs) : R D := match o with
  | some t => match kitB t T with
    | some b => .ok (.bl b) S
    | none => .bad
  | none => .bad
theorem ev_isi {T : String} : opIsi T v S = isiK T (tyD S v) S := rfl
def tyAt (o : Option Cell) : Option String := match o with
  | some (.lst _) => some "list"
  | some (.dic _) => some "dict"
  | _ => none
theorem ev_tyAt {ds : List D} : tyAt (some (.lst ds)) = some "list" := rfl
theorem ev_tyAtD {ds : List (Key × D)} : tyAt (some (.dic ds)) = some "dict" := rfl
theorem ev_tyDR {n : Nat} : tyD S (.ref n) = tyAt S[n]? := by
  cases h : S[n]? with
  | none => simp only [tyD, tyAt, h]
  | some c => cases c <;> simp only [tyD, tyAt, h]
theorem ev_tyDI {i : Int} : tyD S (.int i) = some "int" := rfl
theorem ev_tyDB {i : Bool} : tyD S (.bl i) = some "bool" := rfl
theorem ev_tyDS {i : Str} : tyD S (.str i) = some "str" := rfl
theorem ev_tyDT {i : List D} : tyD S (.tup i) = some "tuple" := rfl
theorem ev_tyDN : tyD S .non = some "NoneType" := rfl
theorem isi_ok {T t : String} {k : Bool} (h : kitB t T = some k) : isiK T (some t) S = .ok (.bl k) S := by
  unfold isiK; simp only [h]
theorem ev_isi1 : isiK "list" (some "list") S = .ok (.bl true) S := isi_ok (by decide +kernel)
theorem ev_isi2 : isiK "tuple" (some "tuple") S = .ok (.bl true) S := isi_ok (by decide +kernel)
theorem ev_isi3 : isiK "int" (some "int") S = .ok (.bl true) S := isi_ok (by decide +kernel)
theorem ev_isi4 : isiK "str" (some "str") S = .ok (.bl true) S := isi_ok (by decide +kernel)
theorem ev_isi5 : isiK "bool" (some "int") S = .ok (.bl false) S := isi_ok (by decide +kernel)
theorem ev_isi6 : isiK "bool" (some "bool") S = .ok (.bl true) S := isi_ok (by decide +kernel)
theorem ev_isi7 : isiK "int" (some "bool") S = .ok (.bl true) S := isi_ok (by decide +kernel)
theorem ev_isi8 : isiK "str" (some "int") S = .ok (.bl false) S := isi_ok (by decide +kernel)
theorem ev_isi9 : isiK "int" (some "str") S = .ok (.bl false) S := isi_ok (by decide +kernel)
theorem ev_isi10 : isiK "str" (some "NoneType") S = .ok (.bl false) S := isi_ok (by decide +kernel)
/-! places in a heap that has grown -/
theorem ev_lt1 {c : Cell} : (S.length < (S ++ [c]).length) = True := by simp
theorem ev_ltA {n : Nat} {T : Hs} (h : n < S.length) : (n < (S ++ T).length) = True := by
  rw [List.length_append]; exact eq_true (by omega)
/-! statements -/
theorem ev_gset {i : Nat} : gSet i v τ S = .ok (τ.set i (some v)) S := rfl
theorem ev_asg {g : DG} : sAsg a g τ S = (a τ S).st τ fun v S => (g v τ S).st τ fun τ S => .ok (.nx τ) S := rfl
theorem ev_expr : sExpr a τ S = (a τ S).st τ fun _ S => .ok (.nx τ) S := rfl
theorem ev_ret : sRet a τ S = (a τ S).st τ fun v S => .ok (.rt v) S := rfl
theorem ev_sif {t : DT} {p q : DS} : sIf t p q τ S = (t τ S).st τ fun k S => if k = true then p τ S else q τ S := rfl
theorem ev_aug {i : Nat} {f : O2} : sAug i f a τ S = (dVar i τ S).st τ fun x S => (a τ S).st τ fun y S => (f x y S).st τ fun z S => .ok (.nx (τ.set i (some z))) S := rfl
def seqK (r : List DS) (f : Fl) (S : Hs) : R Fl := match f with
  | .nx τ => sSeq r τ S
  | f => .ok f S
theorem ev_seq0 : sSeq [] τ S = .ok (.nx τ) S := rfl
theorem ev_seq {s : DS} {r : List DS} : sSeq (s :: r) τ S = (s τ S).bind (seqK r) := rfl
theorem ev_seqN {r : List DS} : seqK r (.nx τ) S = sSeq r τ S := rfl
theorem ev_seqR {r : List DS} : seqK r (.rt v) S = .ok (.rt v) S := rfl
theorem ev_seqB {r : List DS} : seqK r (.bk τ) S = .ok (.bk τ) S := rfl
theorem ev_seqC {r : List DS} : seqK r (.ct τ) S = .ok (.ct τ) S := rfl
def finK (f : Fl) (S : Hs) : R D := match f with
  | .nx _ => .ok .non S
  | .rt v => .ok v S
  | .ex _ e => .exc e S
  | _ => .bad
theorem ev_finN : finK (.nx τ) S = .ok .non S := rfl
theorem ev_finR : finK (.rt v) S = .ok v S := rfl
/-! lists of slots -/
theorem ev_set0 {o p : Option D} : (o :: τ).set 0 p = p :: τ := rfl
theorem ev_setS {o p : Option D} {i : Nat} : (o :: τ).set (i + 1) p = o :: τ.set i p := rfl
theorem ev_atN {α : Type} {xs : List α} {j : Nat} : atI xs (j : Int) = xs[j]? := by
  unfold atI ixN
  rw [if_pos (by omega)]
  by_cases h : j < xs.length
  · rw [if_pos (by omega)]; simp
  · rw [if_neg (by omega), List.getElem?_eq_none (by omega)]; rfl
theorem ev_at2 {α : Type} {xs : List α} : atI xs 2 = xs[2]? := ev_atN (j := 2)
theorem ev_at3 {α : Type} {xs : List α} : atI xs 3 = xs[3]? := ev_atN (j := 3)
theorem ev_at4 {α : Type} {xs : List α} : atI xs 4 = xs[4]? := ev_atN (j := 4)
theorem ev_at5 {α : Type} {xs : List α} : atI xs 5 = xs[5]? := ev_atN (j := 5)
theorem ev_at6 {α : Type} {xs : List α} : atI xs 6 = xs[6]? := ev_atN (j := 6)
theorem ev_at7 {α : Type} {xs : List α} : atI xs 7 = xs[7]? := ev_atN (j := 7)
theorem ev_at8 {α : Type} {xs : List α} : atI xs 8 = xs[8]? := ev_atN (j := 8)
theorem ev_at9 {α : Type} {xs : List α} : atI xs 9 = xs[9]? := ev_atN (j := 9)
theorem ev_at10 {α : Type} {xs : List α} : atI xs 10 = xs[10]? := ev_atN (j := 10)
theorem ev_at11 {α : Type} {xs : List α} : atI xs 11 = xs[11]? := ev_atN (j := 11)
theorem ev_at0 {α : Type} {xs : List α} : atI xs 0 = xs[0]? := ev_atN (j := 0)
theorem ev_at1 {α : Type} {xs : List α} : atI xs 1 = xs[1]? := ev_atN (j := 1)
theorem ev_atM1 {α : Type} {xs : List α} : atI xs (-1) = xs.getLast? := by
  unfold atI ixN
  rw [if_neg (by omega)]
  cases xs with
  | nil => rfl
  | cons x r =>
    rw [if_pos (by simp; omega)]
    show (x :: r)[((-1 : Int) + ((r.length + 1 : Nat) : Int)).toNat]? = _
    rw [List.getLast?_eq_getElem?]
    congr 1
    simp
    omega
theorem rng_dn {i j : Int} (h1 : -(2 ^ 61) ≤ i) (h2 : i < 2 ^ 61) (h3 : -(2 ^ 61) ≤ j) (h4 : j < 2 ^ 61) : rngOk i j (-1) = true ∧ (Builtin.Range.rangeSize i j (-1)).toNat = (i - j).toNat := by
  obtain ⟨a, b, c, d⟩ := RgC.neg (i := i) (j := j) (by omega) (by omega) (by omega) (by omega)
  unfold rngOk
  rw [c, d]
  exact ⟨rfl, by omega⟩
theorem rng_up {i j : Int} (h1 : -(2 ^ 61) ≤ i) (h2 : i < 2 ^ 61) (h3 : -(2 ^ 61) ≤ j) (h4 : j < 2 ^ 61) : rngOk i j 1 = true ∧ (Builtin.Range.rangeSize i j 1).toNat = (j - i).toNat := by
  unfold rngOk
  rw [small_one (by omega) (by omega) (by omega) (by omega), PyProof.Rows.rangeSize_nat i j]
  exact ⟨rfl, by omega⟩
theorem rngK_dn {i j : Int} (h1 : -(2 ^ 61) ≤ i) (h2 : i < 2 ^ 61) (h3 : -(2 ^ 61) ≤ j) (h4 : j < 2 ^ 61) (h5 : i - j ≤ 2 ^ 24) (S : Hs) : rngK [.int i, .int j, .int (-1)] S = newL S (rgD i (-1) (i - j).toNat) := by
  obtain ⟨e1, e2⟩ := rng_dn h1 h2 h3 h4
  rw [ev_rng3, if_pos ⟨e1, by rw [e2]; omega⟩, e2]
theorem rngK_up {i j : Int} (h1 : -(2 ^ 61) ≤ i) (h2 : i < 2 ^ 61) (h3 : -(2 ^ 61) ≤ j) (h4 : j < 2 ^ 61) (h5 : j - i ≤ 2 ^ 24) (S : Hs) : rngK [.int i, .int j] S = newL S (rgD i 1 (j - i).toNat) := by
  obtain ⟨e1, e2⟩ := rng_up h1 h2 h3 h4
  rw [ev_rng2, if_pos ⟨e1, by rw [e2]; omega⟩, e2]
theorem rngI_up {i j : Int} (h1 : -(2 ^ 61) ≤ i) (h2 : i < 2 ^ 61) (h3 : -(2 ^ 61) ≤ j) (h4 : j < 2 ^ 61) (S : Hs) : rngI [.int i, .int j] S = .ok (rgD i 1 (j - i).toNat, []) S := by
  obtain ⟨e1, e2⟩ := rng_up h1 h2 h3 h4
  rw [ev_irng2, if_pos e1, e2]
theorem rngI_0 {j : Int} (h3 : -(2 ^ 61) ≤ j) (h4 : j < 2 ^ 61) (S : Hs) : rngI [.int j] S = .ok (rgD 0 1 j.toNat, []) S := by
  obtain ⟨e1, e2⟩ := rng_up (i := 0) (by omega) (by omega) h3 h4
  rw [ev_irng1, if_pos e1, e2, Int.sub_zero]
end
end Py

/-! Comprehensions, by what holds; equal lists of numbers. -/
namespace Py
open PySem PySem.Spec L2
theorem Ok.lcGo {w : List (Nat × List D)} {g : Ctg} {t : DT} {elt : DE} {τ : Ev} {ds : List D} {S : Hs} {Q : List D → Hs → Prop} (Inv : Nat → List D → Hs → Prop) (h0 : Inv 0 [] S) (hc : ∀ i acc S, i ≤ ds.length → Inv i acc S → chk w S = true)
    (hs : ∀ i d acc S, ds[i]? = some d → Inv i acc S → Ok (g.g d τ S) fun τ' S => Ok (t τ' S) fun k S => if k = true then Ok (elt τ' S) fun y S => acc.length < sizeLine ∧ Inv (i + 1) (acc ++ [y]) S else Inv (i + 1) acc S)
    (hd : ∀ acc S, Inv ds.length acc S → Q acc S) : Ok (lcGo w g t elt τ ds [] S) Q := by
  have key : ∀ (r : List D) (i : Nat) (acc : List D) (S : Hs), r = ds.drop i → i ≤ ds.length → Inv i acc S → Ok (Py.lcGo w g t elt τ r acc S) Q := by
    intro r
    induction r with
    | nil =>
      intro i acc S e hi p
      have : i = ds.length := by
        have := congrArg List.length e
        rw [List.length_nil, List.length_drop] at this
        omega
      subst this
      unfold Py.lcGo
      rw [if_pos (hc _ _ _ hi p)]
      exact .ok (hd acc S p)
    | cons d r ih =>
      intro i acc S e hi p
      have hlt : i < ds.length := by
        have := congrArg List.length e
        rw [List.length_cons, List.length_drop] at this
        omega
      have he := List.drop_eq_getElem_cons hlt
      rw [← e] at he
      injection he with e1 e2
      unfold Py.lcGo
      rw [if_pos (hc _ _ _ hi p), ok_bindN]
      refine (hs i d acc S (by rw [e1]; exact List.getElem?_eq_getElem hlt) p).mono fun τ' S' q => ?_
      rw [ok_bindN]
      refine q.mono fun k S'' z => ?_
      cases k with
      | false =>
        rw [if_neg (by decide)] at z ⊢
        exact ih (i + 1) acc S'' e2 hlt z
      | true =>
        rw [if_pos rfl] at z ⊢
        rw [ok_bindN]
        refine z.mono fun y S3 u => ?_
        rw [if_pos u.1]
        exact ih (i + 1) (acc ++ [y]) S3 e2 hlt u.2
  exact key ds 0 [] S rfl (Nat.zero_le _) h0
theorem ok_lc {it : DI} {g : Ctg} {t : DT} {elt : DE} {own : List Nat} {τ : Ev} {S : Hs} {Q : D → Hs → Prop} : Ok (dLc it g t elt own τ S) Q = Ok (it τ S) fun p S => Ok (lcGo p.2 g t elt (wipeD τ own) p.1 [] S) fun ys S => Q (.ref S.length) (S ++ [.lst ys]) := by
  unfold dLc
  rw [ok_bind]
  congr 1
  funext p S
  rw [ok_bindN]
  congr 1
  funext ys S
  exact ok_ok
/-- a comprehension whose turns leave the heap as it is -/
theorem lc_pure {w : List (Nat × List D)} {g : Ctg} {t : DT} {elt : DE} {τ : Ev} {S : Hs} (e : D → D) (hc : chk w S = true) : ∀ (ds acc : List D), (∀ d ∈ ds, ∃ τ', g.g d τ S = .ok τ' S ∧ t τ' S = .ok true S ∧ elt τ' S = .ok (e d) S) → acc.length + ds.length ≤ sizeLine → lcGo w g t elt τ ds acc S = .ok (acc ++ ds.map e) S
  | [], acc, _, _ => by
    unfold lcGo
    rw [if_pos hc, List.map_nil, List.append_nil]
  | d :: ds, acc, h, hl => by
    obtain ⟨τ', h1, h2, h3⟩ := h d (List.mem_cons_self)
    rw [List.length_cons] at hl
    unfold lcGo
    rw [if_pos hc, h1]
    show (R.bindN (t τ' S) _) = _
    rw [h2]
    show (R.bindN (elt τ' S) _) = _
    rw [h3]
    show (if acc.length < sizeLine then _ else _) = _
    rw [if_pos (by omega), lc_pure e hc ds (acc ++ [e d]) (fun d' hd => h d' (List.mem_cons_of_mem _ hd)) (by rw [List.length_append, List.length_singleton]; omega), List.append_assoc]
    rfl
def lcK (g : Ctg) (t : DT) (elt : DE) (own : List Nat) (τ : Ev) (p : List D × List (Nat × List D)) (S : Hs) : R D := (lcGo p.2 g t elt (wipeD τ own) p.1 [] S).bindN fun ys S => newL S ys
theorem ev_lc {it : DI} {g : Ctg} {t : DT} {elt : DE} {own : List Nat} {τ : Ev} {S : Hs} : dLc it g t elt own τ S = (it τ S).bind (lcK g t elt own τ) := rfl
theorem lcK_pure {w : List (Nat × List D)} {g : Ctg} {t : DT} {elt : DE} {own : List Nat} {τ : Ev} {S : Hs} {ds : List D} (e : D → D) (hc : chk w S = true) (h : ∀ d ∈ ds, ∃ τ', g.g d (wipeD τ own) S = .ok τ' S ∧ t τ' S = .ok true S ∧ elt τ' S = .ok (e d) S) (hl : ds.length ≤ sizeLine) : lcK g t elt own τ (ds, w) S = newL S (ds.map e) := by
  unfold lcK
  rw [lc_pure e hc ds [] h (by simpa using hl)]
  rfl
theorem blsOf_const (k : Bool) : ∀ n : Nat, blsOf (List.replicate n (.bl k)) = some (List.replicate n k)
  | 0 => rfl
  | n + 1 => by rw [List.replicate_succ, blsOf, blsOf_const k n]; rfl
theorem allSome_map {α β : Type} (f : α → Option β) (g : α → β) : ∀ (xs : List α), (∀ x ∈ xs, f x = some (g x)) → allSome (xs.map f) = some (xs.map g)
  | [], _ => rfl
  | x :: xs, h => by
    rw [List.map_cons, h x List.mem_cons_self, allSome, allSome_map f g xs fun y hy => h y (List.mem_cons_of_mem _ hy)]
    rfl
theorem pd_ints {n : Nat} {S : Hs} {r : Nat} {ns : List Int} (h : S[r]? = some (.lst (ns.map D.int))) : pd (n + 1) S (.ref r) = some (.list (ns.map PyData.int)) := by
  rw [pd, lst_of h]
  show ((allSome ((ns.map D.int).map (pd n S))).map PyData.list) = _
  rw [List.map_map, allSome_map _ PyData.int ns (fun _ _ => by cases n <;> rfl)]
  rfl
theorem eqv_ints : ∀ ns : List Int, PyData.eqvAll (ns.map PyData.int) (ns.map PyData.int) = true
  | [] => rfl
  | n :: ns => by
    rw [List.map_cons, PyData.eqvAll, eqv_ints ns, Bool.and_true]
    simp [PyData.eqv]
theorem eqv_ints' (ns : List Int) : PyData.eqv (.list (ns.map PyData.int)) (.list (ns.map PyData.int)) = true := by
  have := eqv_ints ns
  simpa only [PyData.eqv] using this
section
variable {τ : Ev} {S : Hs} {v d : D}
theorem ev_gtup {n : Nat} {gs : List DG} {ds : List D} : gTupleN n gs (.tup ds) τ S = if ds.length = n then gEach gs ds τ S else .bad := rfl
theorem ev_each0 : gEach [] [] τ S = .ok τ S := rfl
theorem ev_each {g : DG} {gs : List DG} {ds : List D} : gEach (g :: gs) (d :: ds) τ S = (g d τ S).bind fun τ S => gEach gs ds τ S := rfl
def par2K (i j : Nat) (τ : Ev) (ds : List D) (S : Hs) : R Fl := match ds with
  | [v, w] => .ok (.nx ((τ.set i (some v)).set j (some w))) S
  | _ => .bad
theorem ev_par2 {i j : Nat} {as : List DE} : sPar2 i j as τ S = (dArgs as τ S).st τ (par2K i j τ) := rfl
theorem ev_par2K {i j : Nat} {w : D} : par2K i j τ [v, w] S = .ok (.nx ((τ.set i (some v)).set j (some w))) S := rfl
theorem ev_gix {o i : DE} : gIx o i d τ S = (o τ S).bind fun x S => (i τ S).bind fun y S => (setIx x y d S).bind fun _ S => .ok τ S := rfl
theorem set_at {n : Nat} {ds : List D} {k : Int} {j : Nat} (h : S[n]? = some (.lst ds)) (hj : ixN ds.length k = some j) : setIx (.ref n) (.int k) v S = .ok () (S.set n (.lst (ds.set j v))) := by
  simp only [setIx, dic_no h, wr_of h, hj]
end
end Py

namespace Py
open PySem PySem.Spec L2
def b__law_cell : DS := sSeq [sRet (dBin opIx (dBin opAdd (dSl (dVar 0) (some (dVar 1)) (some (dBin opAdd (dVar 1) (dLit (.int 1))))) (dLst [(dLit (.int 0))])) (dLit (.int 0)))]
def f__law_cell : Fn := runFn 2 2 b__law_cell

def b__law_frames : DS := sSeq [sIf (tBl (dBin opLt (dBin opIx (dVar 0) (dLit (.int 2))) (dBin opIx (dVar 0) (dLit (.int 1))))) (sSeq [sRet (dRange [(dBin opIx (dVar 0) (dLit (.int 1))), (dBin opSub (dBin opIx (dVar 0) (dLit (.int 2))) (dLit (.int 1))), (dUn opNeg (dLit (.int 1)))])]) (sSeq []),
  sRet (dRange [(dBin opIx (dVar 0) (dLit (.int 1))), (dBin opAdd (dBin opIx (dVar 0) (dLit (.int 2))) (dLit (.int 1)))])]
def f__law_frames : Fn := runFn 1 1 b__law_frames

def b__law_clip : DS := sSeq [sAsg (dBin opIx (dVar 2) (dBin opMod (dBin opIx (dVar 1) (dLit (.int 0))) (dCall fLen [(dVar 2)]))) (gSet 4),
  sAsg (dBin opMod (dBin opIx (dVar 1) (dLit (.int 1))) (dVar 3)) (gSet 5),
  sAsg (dLit (.int 0)) (gSet 6),
  sIf (tBl (dBin opGt (dCall fLen [(dVar 0)]) (dLit (.int 0)))) (sSeq [sAsg (dBin opIx (dVar 0) (dUn opNeg (dLit (.int 1)))) (gSet 7),
    sIf (tBl (dBin opEq (dBin opMod (dBin opIx (dVar 1) (dLit (.int 2))) (dLit (.int 2))) (dLit (.int 0)))) (sSeq [sAsg (dBin opIx (dVar 7) (dLit (.int 0))) (gSet 4),
      sAsg (dCall fMax [(dLit (.int 0)), (dBin opAdd (dBin opIx (dVar 7) (dLit (.int 2))) (dBin opIx (dLst [(dLit (.int 1)), (dUn opNeg (dLit (.int 1))), (dLit (.int 0))]) (dBin opMod (dBin opDiv (dBin opIx (dVar 1) (dLit (.int 2))) (dLit (.int 2))) (dLit (.int 3)))))]) (gSet 5)]) (sSeq []),
    sAsg (dBin opIx (dLst [(dLit (.int 0)), (dLit (.int 0)), (dLit (.int 0)), (dLit (.int 1)), (dLit (.int 2)), (dLit (.int 3)), (dLit (.int 4)), (dLit (.int 9))]) (dBin opMod (dBin opIx (dVar 1) (dLit (.int 3))) (dLit (.int 8)))) (gSet 6),
    sAsg (dCall fMin [(dVar 6), (dBin opSub (dCall fLen [(dCall f__law_frames [(dVar 7)])]) (dBin opIx (dVar 7) (dLit (.int 3))))]) (gSet 6)]) (sSeq []),
  sAsg (dCall fMax [(dBin opAdd (dLit (.int 1)) (dBin opMod (dBin opIx (dVar 1) (dLit (.int 4))) (dBin opIx (dLst [(dLit (.int 4)), (dLit (.int 4)), (dLit (.int 12))]) (dBin opMod (dBin opDiv (dBin opIx (dVar 1) (dLit (.int 0))) (dLit (.int 8))) (dLit (.int 3)))))), (dVar 6)]) (gSet 8),
  sAsg (dBin opSub (dBin opAdd (dVar 5) (dVar 8)) (dLit (.int 1))) (gSet 9),
  sIf (tAndD (tBl (dBin opEq (dBin opMod (dBin opDiv (dBin opIx (dVar 1) (dLit (.int 4))) (dLit (.int 12))) (dLit (.int 2))) (dLit (.int 1)))) (tBl (dBin opGe (dVar 5) (dBin opSub (dVar 8) (dLit (.int 1)))))) (sSeq [sAsg (dBin opAdd (dBin opSub (dVar 5) (dVar 8)) (dLit (.int 1))) (gSet 9)]) (sSeq []),
  sRet (dTup [(dVar 4), (dVar 5), (dVar 9), (dVar 6)])]
def f__law_clip : Fn := runFn 4 10 b__law_clip

def k__law_numbers_1 : DS := sSeq [sAsg (dBin opMod (dBin opAdd (dBin opAdd (dBin opMul (dVar 3) (dBin opAdd (dBin opMod (dVar 3) (dLit (.int 65521))) (dLit (.int 40487)))) (dBin opMul (dLit (.int 7)) (dVar 5))) (dLit (.int 5))) (dLit (.int 1999999973))) (gSet 3),
  sExpr (dMt .list mAppend (dVar 2) [(dBin opIx (dLst [(dVar 3), (dBin opMod (dVar 4) (dLit (.int 1000000)))]) (dCall fInt [(dBin opGt (dVar 4) (dLit (.int 0)))]))]),
  sAsg (dBin opDiv (dVar 4) (dLit (.int 1000000))) (gSet 4)]
def w__law_numbers_1 : DS := sFor (iRange [(dVar 1)]) (gSet 5) k__law_numbers_1
def b__law_numbers : DS := sSeq [sAsg (dLst []) (gSet 2),
  sAsg (dBin opMod (dBin opMul (dBin opAdd (dBin opMod (dVar 0) (dLit (.int 1999999973))) (dLit (.int 31))) (dLit (.int 765432101))) (dLit (.int 1999999973))) (gSet 3),
  sAsg (dLit (.int 0)) (gSet 4),
  sIf (tOrD (tBl (dBin opLt (dVar 0) (dLit (.int 0)))) (tBl (dBin opGe (dVar 0) (dBin opPow (dLit (.int 10)) (dLit (.int 18)))))) (sSeq [sAsg (dCall fAbs [(dVar 0)]) (gSet 4)]) (sSeq []),
  w__law_numbers_1,
  sRet (dVar 2)]
def f__law_numbers : Fn := runFn 2 6 b__law_numbers

def k__law_clips_1 : DS := sSeq [sExpr (dMt .list mAppend (dVar 4) [(dCall f__law_clip [(dVar 4), (dCall f__law_numbers [(dVar 5), (dLit (.int 5))]), (dVar 2), (dVar 3)])])]
def w__law_clips_1 : DS := sFor (iVal (dVar 0)) (gSet 5) k__law_clips_1
def b__law_clips : DS := sSeq [sAsg (dSl (dBin opIx (dLst [(dLst [(dLit (.str "a")), (dLit (.str "ab")), (dLit (.str "abc"))]), (dLst [(dLit (.str "kettle")), (dLit (.str "kettles")), (dLit (.str "zoo"))]), (dLst [(dLit (.str "q")), (dLit (.str "p")), (dLit (.str "pq"))])]) (dBin opMod (dVar 1) (dLit (.int 3)))) none (some (dBin opAdd (dLit (.int 1)) (dBin opMod (dBin opDiv (dVar 1) (dLit (.int 3))) (dLit (.int 3)))))) (gSet 2),
  sAsg (dBin opIx (dLst [(dLit (.int 4)), (dLit (.int 9)), (dLit (.int 20)), (dLit (.int 100000))]) (dBin opMod (dBin opDiv (dVar 1) (dLit (.int 9))) (dLit (.int 4)))) (gSet 3),
  sAsg (dLst []) (gSet 4),
  w__law_clips_1,
  sRet (dVar 4)]
def f__law_clips : Fn := runFn 2 6 b__law_clips

def k__law_far_1 : DS := sSeq [sAsg (dBin opIx (dVar 0) (dVar 2)) (gTupleN 3 [gSet 3, gSet 4, gSet 5]),
  sAsg (dBin opSub (dVar 4) (dBin opIx (dBin opIx (dVar 0) (dBin opSub (dVar 2) (dLit (.int 1)))) (dLit (.int 1)))) (gSet 6),
  sIf (tOrD (tTru (dVar 5)) (tOrD (tBl (dBin opNe (dVar 3) (dBin opIx (dBin opIx (dVar 0) (dVar 1)) (dLit (.int 0))))) (tBl (dBin opNe (dCall fAbs [(dVar 6)]) (dLit (.int 1)))))) (sSeq [sBrk]) (sSeq []),
  sIf (tAndD (tBl (dBin opGt (dVar 2) (dBin opAdd (dVar 1) (dLit (.int 1))))) (tBl (dBin opNe (dVar 6) (dBin opSub (dBin opIx (dBin opIx (dVar 0) (dBin opAdd (dVar 1) (dLit (.int 1)))) (dLit (.int 1))) (dBin opIx (dBin opIx (dVar 0) (dVar 1)) (dLit (.int 1))))))) (sSeq [sBrk]) (sSeq []),
  sAsg (dBin opAdd (dVar 2) (dLit (.int 1))) (gSet 2)]
def w__law_far_1 : DS := sWhile (tBl (dBin opLt (dVar 2) (dCall fLen [(dVar 0)]))) k__law_far_1
def b__law_far : DS := sSeq [sAsg (dBin opAdd (dVar 1) (dLit (.int 1))) (gSet 2),
  w__law_far_1,
  sRet (dVar 2)]
def f__law_far : Fn := runFn 2 7 b__law_far

def k__law_moments_1 : DS := sSeq [sExpr (dMt .list mAppend (dVar 1) [(dTup [(dBin opIx (dVar 2) (dLit (.int 0))), (dVar 4), (dAnd (dBin opEq (dVar 3) (dLit (.int 0))) (dBin opGt (dBin opIx (dVar 2) (dLit (.int 3))) (dLit (.int 0))))])])]
def w__law_moments_1 : DS := sFor (iEnumD [(dCall f__law_frames [(dVar 2)])]) (gTupleN 2 [gSet 3, gSet 4]) k__law_moments_1
def k__law_moments_2 : DS := sSeq [w__law_moments_1]
def w__law_moments_2 : DS := sFor (iVal (dVar 0)) (gSet 2) k__law_moments_2
def b__law_moments : DS := sSeq [sAsg (dLst []) (gSet 1),
  w__law_moments_2,
  sRet (dVar 1)]
def f__law_moments : Fn := runFn 1 5 b__law_moments

def b_goes_on : DS := sSeq [sAsg (dVar 0) (gTupleN 4 [gSet 3, gSet 4, gSet 5, gSet 6]),
  sIf (tBl (dBin opNe (dVar 3) (dVar 1))) (sSeq [sRet (dLit (.bl false))]) (sSeq []),
  sIf (tBl (dBin opEq (dVar 4) (dVar 5))) (sSeq [sRet (dBin opEq (dCall fAbs [(dBin opSub (dVar 2) (dVar 5))]) (dLit (.int 1)))]) (sSeq []),
  sRet (dBin opEq (dBin opSub (dVar 2) (dVar 5)) (dBin opDiv (dBin opSub (dVar 5) (dVar 4)) (dCall fAbs [(dBin opSub (dVar 5) (dVar 4))])))]
def f_goes_on : Fn := runFn 3 7 b_goes_on

def b_numbers_of : DS := sSeq [sIf (tBl (dBin opLt (dBin opIx (dVar 0) (dLit (.int 2))) (dBin opIx (dVar 0) (dLit (.int 1))))) (sSeq [sRet (dRange [(dBin opIx (dVar 0) (dLit (.int 1))), (dBin opSub (dBin opIx (dVar 0) (dLit (.int 2))) (dLit (.int 1))), (dUn opNeg (dLit (.int 1)))])]) (sSeq []),
  sRet (dRange [(dBin opIx (dVar 0) (dLit (.int 1))), (dBin opAdd (dBin opIx (dVar 0) (dLit (.int 2))) (dLit (.int 1)))])]
def f_numbers_of : Fn := runFn 1 1 b_numbers_of

def k_strips_of_1 : DS := sSeq [sIf (tAndD (tNotD (tTru (dVar 5))) (tAndD (tBl (dBin opGt (dCall fLen [(dVar 1)]) (dLit (.int 0)))) (tTru (dCall f_goes_on [(dBin opIx (dVar 1) (dUn opNeg (dLit (.int 1)))), (dVar 3), (dVar 6)])))) (sSeq [sAsg (dBin opIx (dVar 1) (dUn opNeg (dLit (.int 1)))) (gSet 7),
    sAsg (dTup [(dVar 3), (dBin opIx (dVar 7) (dLit (.int 1))), (dVar 6), (dBin opIx (dVar 7) (dLit (.int 3)))]) (gIx (dVar 1) (dUn opNeg (dLit (.int 1))))]) (sSeq [sExpr (dMt .list mAppend (dVar 1) [(dTup [(dVar 3), (dVar 6), (dVar 6), (dBin opMul (dVar 4) (dCall fInt [(dVar 5)]))])])]),
  sAsg (dLit (.bl false)) (gSet 5)]
def w_strips_of_1 : DS := sFor (iVal (dCall f_numbers_of [(dVar 2)])) (gSet 6) k_strips_of_1
def k_strips_of_2 : DS := sSeq [sPar2 3 4 [(dBin opIx (dVar 2) (dLit (.int 0))), (dBin opIx (dVar 2) (dLit (.int 3)))],
  sAsg (dBin opGt (dVar 4) (dLit (.int 0))) (gSet 5),
  w_strips_of_1]
def w_strips_of_2 : DS := sFor (iVal (dVar 0)) (gSet 2) k_strips_of_2
def b_strips_of : DS := sSeq [sAsg (dLst []) (gSet 1),
  w_strips_of_2,
  sRet (dVar 1)]
def f_strips_of : Fn := runFn 1 8 b_strips_of

def b_joins : DS := sSeq [sRet (dCall fMax [(dLit (.int 0)), (dBin opSub (dCall fLen [(dCall f_strips_of [(dVar 0)])]) (dLit (.int 1)))])]
def f_joins : Fn := runFn 1 1 b_joins

def k_law_1 : DS := sSeq [sAsg (dCall fMin [(dBin opIx (dVar 3) (dVar 5)), (dBin opAdd (dBin opIx (dVar 3) (dVar 4)) (dLit (.int 1)))]) (gIx (dVar 3) (dVar 5))]
def w_law_1 : DS := sFor (iRange [(dBin opAdd (dVar 4) (dLit (.int 1))), (dBin opAdd (dCall f__law_far [(dVar 2), (dVar 4)]) (dLit (.int 1)))]) (gSet 5) k_law_1
def k_law_2 : DS := sSeq [w_law_1]
def w_law_2 : DS := sFor (iRange [(dCall fLen [(dVar 2)])]) (gSet 4) k_law_2
def b_law : DS := sSeq [sAsg (dCall f__law_clips [(dSl (dVar 0) (some (dLit (.int 2))) (some (dLit (.int 27)))), (dCall f__law_cell [(dVar 0), (dLit (.int 0))])]) (gSet 1),
  sAsg (dCall f__law_moments [(dVar 1)]) (gSet 2),
  sAsg (dBin opAdd (dLst [(dLit (.int 0))]) (dBin opMul (dLst [(dBin opAdd (dCall fLen [(dVar 2)]) (dLit (.int 1)))]) (dCall fLen [(dVar 2)]))) (gSet 3),
  w_law_2,
  sIf (tBl (dBin opNe (dCall f_joins [(dCall fList [(dVar 1)])]) (dCall fMax [(dLit (.int 0)), (dBin opSub (dBin opIx (dVar 3) (dUn opNeg (dLit (.int 1)))) (dLit (.int 1)))]))) (sSeq [sRet (dLit (.bl false))]) (sSeq []),
  sRet (dBin opEq (dCall fLen [(dCall f_strips_of [(dCall fList [(dVar 1)])])]) (dBin opIx (dVar 3) (dUn opNeg (dLit (.int 1)))))]
def f_law : Fn := runFn 1 6 b_law
end Py

namespace Py
open PySem PySem.Spec L2
local macro_rules | `(tactic| walk_at "ev") => `(tactic| simp -implicitDefEqProofs (maxDischargeDepth := 12) only [Int.reduceLT, Int.reduceLE, Int.reduceMul, Int.reduceAdd, Int.reduceSub, Int.reduceNeg, Int.reducePow, Int.reduceMod, Int.reduceDiv, Int.reduceEq, Int.reduceNe, Int.reduceToNat, Int.reduceGT, Int.reduceGE, Nat.reduceLT, Nat.reduceLeDiff, Nat.reduceAdd, Nat.reduceMul, Nat.reduceSub, Nat.reduceMod, Nat.reduceDiv, Nat.reducePow, Nat.reduceEqDiff, gt_iff_lt, ge_iff_le, Int.zero_add, Int.mul_one, nabs10, Int.cast_ofNat_Int, List.nil_append, decide_true, decide_false, eq_self, not_true_eq_false, not_false_eq_true, ok_ok, ok_bind, turnQ_nx, turnQ_ct, turnQ_bk, turnQ_rt, List.length_cons, List.length_nil, Nat.zero_add, List.map_cons, List.map_nil, ev_bind, ev_st, ev_var0, ev_varS, ev_lit, ev_bin, ev_un, ev_opt, ev_optB, ev_blK, ev_tBl, ev_tTru, ev_tAnd, ev_tOr, ev_tNot, ev_tTrue, ev_dIf, ev_andK, ev_dAnd, ev_orK, ev_dOr, ev_notK, ev_dNot, ev_args0, ev_args, ev_tup, ev_lst, ev_call, ev_mt, ev_part0, ev_partK, ev_part, ev_sl, ev_dict0, ev_newL, ev_addI, ev_addT, ev_addS, ev_addR, ev_addAt, ev_subI, ev_mulI, ev_mulR, ev_mulAt, ev_divI, ev_modI, ev_powI, ev_negI, ev_iaddI, ev_ltI, ev_leI, ev_gtI, ev_geI, ev_eqI, ev_neI, ev_eqS, ev_neS, ev_eqP, ev_neP, ev_eqR, ev_neR, ev_eqT, ev_neT, ev_is, ev_isn, ev_ixT, ev_ixR, ev_ixRS, ev_ixAtL, ev_ixAtD, ev_ixF, ev_slF, ev_slT, ev_slR, ev_slAt, ev_rev, ev_revAt, ev_truB, ev_truI, ev_truT, ev_truR, ev_truAt, ev_lenT, ev_lenF, ev_lenS, ev_lenR, ev_lenAt, ev_lenAtD, ev_abs, ev_max, ev_min, ev_max3, ev_min3, ev_intI, ev_intB, ev_listF, ev_listT, ev_listR, ev_listAt, ev_tupR, ev_tupAt, ev_sumR, ev_sumAt, ev_optI, ev_allR, ev_allAt, ev_optA, ev_anyR, ev_anyAt, ev_optAny, ev_range, ev_irange, ev_ival, ev_valT, ev_valF, ev_valR, ev_valAt, ev_lc, ev_gtup, ev_each0, ev_each, ev_par2, ev_par2K, ev_gix, ev_ienum, ev_enumR, ev_enumAt, ev_izip, ev_zipR, ev_zipAt, ev_isi, ev_tyDR, ev_tyAt, ev_tyAtD, ev_tyDI, ev_tyDB, ev_tyDS, ev_tyDT, ev_tyDN, ev_isi1, ev_isi2, ev_isi3, ev_isi4, ev_isi5, ev_isi6, ev_isi7, ev_isi8, ev_isi9, ev_isi10, ev_append, ev_appAt, ev_extend, ev_extAt, ev_tyL, ev_lstAt, ev_tyS, ev_gset, ev_asg, ev_expr, ev_ret, ev_sif, ev_aug, ev_seq0, ev_seq, ev_seqN, ev_seqR, ev_seqB, ev_seqC, ev_finN, ev_finR, ev_set0, ev_setS, ev_at0, ev_at1, ev_at2, ev_at3, ev_at4, ev_at5, ev_at6, ev_at7, ev_at8, ev_at9, ev_at10, ev_at11, ev_atM1, List.getElem?_cons_zero, List.getElem?_cons_succ, List.getElem?_concat_length, List.getElem?_append_left, ev_lt1, ev_ltA, decide_eq_true_eq, if_true, if_false, and_self, and_true, true_and, or_true, true_or, or_false, false_or, ite_true, ite_false, Bool.not_true, Bool.not_false, reduceCtorEq,  Bool.false_eq_true, List.getLast?_concat, *])

/-! ### the drawn clips (the helpers that many laws share) -/
def numsD (a b : Int) : List D := if b < a then rgD a (-1) (a - b + 1).toNat else rgD a 1 (b - a + 1).toNat
theorem numbers_spec (r : Str) (a b f : Int) (S : Hs) (h1 : -(2 ^ 60) ≤ a) (h2 : a < 2 ^ 60) (h3 : -(2 ^ 60) ≤ b) (h4 : b < 2 ^ 60) (h5 : b - a < 2 ^ 23) (h6 : a - b < 2 ^ 23) :
    f_numbers_of [.tup [.str r, .int a, .int b, .int f]] S = newL S (numsD a b) := by
  show (b_numbers_of [some (.tup [.str r, .int a, .int b, .int f])] S).bind finK = _
  unfold b_numbers_of
  unfold numsD
  have e1 := rngK_dn (i := a) (j := b - 1) (by omega) (by omega) (by omega) (by omega) (by omega)
  have e2 := rngK_up (i := a) (j := b + 1) (by omega) (by omega) (by omega) (by omega) (by omega)
  rw [show a - (b - 1) = a - b + 1 by omega] at e1
  rw [show b + 1 - a = b - a + 1 by omega] at e2
  by_cases h : b < a
  · walk_at "ev"
  · walk_at "ev"
theorem frames_spec (r : Str) (a b f : Int) (S : Hs) (h1 : -(2 ^ 60) ≤ a) (h2 : a < 2 ^ 60) (h3 : -(2 ^ 60) ≤ b) (h4 : b < 2 ^ 60) (h5 : b - a < 2 ^ 23) (h6 : a - b < 2 ^ 23) :
    f__law_frames [.tup [.str r, .int a, .int b, .int f]] S = newL S (numsD a b) := by
  show (b__law_frames [some (.tup [.str r, .int a, .int b, .int f])] S).bind finK = _
  unfold b__law_frames
  unfold numsD
  have e1 := rngK_dn (i := a) (j := b - 1) (by omega) (by omega) (by omega) (by omega) (by omega)
  have e2 := rngK_up (i := a) (j := b + 1) (by omega) (by omega) (by omega) (by omega) (by omega)
  rw [show a - (b - 1) = a - b + 1 by omega] at e1
  rw [show b + 1 - a = b - a + 1 by omega] at e2
  by_cases h : b < a
  · walk_at "ev"
  · walk_at "ev"
theorem numsD_length (a b : Int) : (numsD a b).length = ((if b < a then a - b else b - a) + 1).toNat := by
  unfold numsD
  split <;> rw [rgD_length]
theorem cutD_nat {α : Type} (xs : List α) (i j : Nat) : cutD xs (some (i : Int)) (some (j : Int)) = (xs.drop i).take (j - i) := by
  unfold cutD
  simp only [HT.sIx_nat]
  apply List.ext_getElem?
  intro m
  simp only [List.getElem?_take, List.getElem?_drop]
  by_cases h : i ≤ xs.length
  · rw [Nat.min_eq_left h]
    by_cases h1 : m < min j xs.length - i
    · rw [if_pos h1, if_pos (by omega)]
    · rw [if_neg h1]
      split
      · rw [List.getElem?_eq_none (by omega)]
      · rfl
  · rw [if_neg (by omega)]
    split
    · rw [List.getElem?_eq_none (by omega)]
    · rfl
theorem cell_ok (ns : List Int) (hl : ns.length ≤ 63) (k : Nat) (S : Hs) : Ok (f__law_cell [.frl (ns.map D.int), .int k] S) fun v S' => v = .int (ns.getD k 0) ∧ S <+: S' := by
  have e0 : cutD (ns.map D.int) (some (k : Int)) (some ((k : Int) + 1)) = ((ns.map D.int).drop k).take 1 := by
    have := cutD_nat (ns.map D.int) k (k + 1)
    rw [Nat.add_sub_cancel_left] at this
    exact_mod_cast this
  have e1 : (((ns.map D.int).drop k).take 1).length + 1 ≤ sizeLine := by
    rw [List.length_take, sizeLine_eq]; omega
  have e2 : (((ns.map D.int).drop k).take 1 ++ [.int 0])[0]? = some (.int (ns.getD k 0)) := by
    rw [List.getD_eq_getElem?_getD]
    cases h : ns[k]? with
    | none =>
      have : ns.length ≤ k := List.getElem?_eq_none_iff.mp h
      rw [List.drop_of_length_le (by rw [List.length_map]; exact this)]
      rfl
    | some x =>
      obtain ⟨h1, h2⟩ := List.getElem?_eq_some_iff.mp h
      rw [List.drop_eq_getElem_cons (by rw [List.length_map]; exact h1)]
      simp [h2]
  show Ok ((b__law_cell [some (.frl (ns.map D.int)), some (.int k)] S).bind finK) _
  unfold b__law_cell
  walk_at "ev"
  simp
end Py

namespace Py
open PySem PySem.Spec L2
local macro_rules | `(tactic| walk_at "ev") => `(tactic| simp -implicitDefEqProofs (maxDischargeDepth := 12) only [Int.reduceLT, Int.reduceLE, Int.reduceMul, Int.reduceAdd, Int.reduceSub, Int.reduceNeg, Int.reducePow, Int.reduceMod, Int.reduceDiv, Int.reduceEq, Int.reduceNe, Int.reduceToNat, Int.reduceGT, Int.reduceGE, Nat.reduceLT, Nat.reduceLeDiff, Nat.reduceAdd, Nat.reduceMul, Nat.reduceSub, Nat.reduceMod, Nat.reduceDiv, Nat.reducePow, Nat.reduceEqDiff, gt_iff_lt, ge_iff_le, Int.zero_add, Int.mul_one, nabs10, Int.cast_ofNat_Int, List.nil_append, decide_true, decide_false, eq_self, not_true_eq_false, not_false_eq_true, ok_ok, ok_bind, turnQ_nx, turnQ_ct, turnQ_bk, turnQ_rt, List.length_cons, List.length_nil, Nat.zero_add, List.map_cons, List.map_nil, ev_bind, ev_st, ev_var0, ev_varS, ev_lit, ev_bin, ev_un, ev_opt, ev_optB, ev_blK, ev_tBl, ev_tTru, ev_tAnd, ev_tOr, ev_tNot, ev_tTrue, ev_dIf, ev_andK, ev_dAnd, ev_orK, ev_dOr, ev_notK, ev_dNot, ev_args0, ev_args, ev_tup, ev_lst, ev_call, ev_mt, ev_part0, ev_partK, ev_part, ev_sl, ev_dict0, ev_newL, ev_addI, ev_addT, ev_addS, ev_addR, ev_addAt, ev_subI, ev_mulI, ev_mulR, ev_mulAt, ev_divI, ev_modI, ev_powI, ev_negI, ev_iaddI, ev_ltI, ev_leI, ev_gtI, ev_geI, ev_eqI, ev_neI, ev_eqS, ev_neS, ev_eqP, ev_neP, ev_eqR, ev_neR, ev_eqT, ev_neT, ev_is, ev_isn, ev_ixT, ev_ixR, ev_ixRS, ev_ixAtL, ev_ixAtD, ev_ixF, ev_slF, ev_slT, ev_slR, ev_slAt, ev_rev, ev_revAt, ev_truB, ev_truI, ev_truT, ev_truR, ev_truAt, ev_lenT, ev_lenF, ev_lenS, ev_lenR, ev_lenAt, ev_lenAtD, ev_abs, ev_max, ev_min, ev_max3, ev_min3, ev_intI, ev_intB, ev_listF, ev_listT, ev_listR, ev_listAt, ev_tupR, ev_tupAt, ev_sumR, ev_sumAt, ev_optI, ev_allR, ev_allAt, ev_optA, ev_anyR, ev_anyAt, ev_optAny, ev_range, ev_irange, ev_ival, ev_valT, ev_valF, ev_valR, ev_valAt, ev_lc, ev_gtup, ev_each0, ev_each, ev_par2, ev_par2K, ev_gix, ev_ienum, ev_enumR, ev_enumAt, ev_izip, ev_zipR, ev_zipAt, ev_isi, ev_tyDR, ev_tyAt, ev_tyAtD, ev_tyDI, ev_tyDB, ev_tyDS, ev_tyDT, ev_tyDN, ev_isi1, ev_isi2, ev_isi3, ev_isi4, ev_isi5, ev_isi6, ev_isi7, ev_isi8, ev_isi9, ev_isi10, ev_append, ev_appAt, ev_extend, ev_extAt, ev_tyL, ev_lstAt, ev_tyS, ev_gset, ev_asg, ev_expr, ev_ret, ev_sif, ev_aug, ev_seq0, ev_seq, ev_seqN, ev_seqR, ev_seqB, ev_seqC, ev_finN, ev_finR, ev_set0, ev_setS, ev_at0, ev_at1, ev_at2, ev_at3, ev_at4, ev_at5, ev_at6, ev_at7, ev_at8, ev_at9, ev_at10, ev_at11, ev_atM1, List.getElem?_cons_zero, List.getElem?_cons_succ, List.getElem?_concat_length, List.getElem?_append_left, ev_lt1, ev_ltA, decide_eq_true_eq, if_true, if_false, and_self, and_true, true_and, or_true, true_or, or_false, false_or, ite_true, ite_false, Bool.not_true, Bool.not_false, reduceCtorEq,  Bool.false_eq_true, List.getLast?_concat, *])
/-- a list of m drawn numbers stands at n -/
def NumsAt (m : Nat) (n : Nat) (S : Hs) : Prop := ∃ xs : List Int, S[n]? = some (.lst (xs.map D.int)) ∧ xs.length = m ∧ ∀ x ∈ xs, (0 : Int) ≤ x ∧ x < 1999999973
theorem mod_in (x : Int) : 0 ≤ x % 1999999973 ∧ x % 1999999973 < 1999999973 := ⟨Int.emod_nonneg _ (by decide), Int.emod_lt_of_pos _ (by decide)⟩
theorem nums_step {S1 : Hs} {n : Nat} {xs : List Int} {z : Int} {T : Hs} (hn : S1[n]? = some (.lst (xs.map D.int))) (hz : 0 ≤ z ∧ z < 1999999973) (hb : ∀ x ∈ xs, (0 : Int) ≤ x ∧ x < 1999999973) :
    ((S1 ++ T).set n (.lst (xs.map D.int ++ [.int z])))[n]? = some (.lst ((xs ++ [z]).map D.int)) ∧ (xs ++ [z]).length = xs.length + 1 ∧ ∀ x ∈ xs ++ [z], (0 : Int) ≤ x ∧ x < 1999999973 := by
  refine ⟨?_, List.length_append, fun y hy => ?_⟩
  · rw [List.map_append]
    exact at_set (at_app hn)
  · rcases List.mem_append.mp hy with h | h
    · exact hb y h
    · rw [List.mem_singleton] at h; exact h ▸ hz
def NumsInv (S : Hs) (c : Int) (m : Nat) (i : Nat) (τ : Ev) (S' : Hs) : Prop := ∃ (a d : Int) (o : Option D) (xs : List Int), τ = [some (.int c), some (.int m), some (.ref S.length), some (.int a), some (.int d), o] ∧ (0 ≤ a ∧ a < 1999999973) ∧ 0 ≤ d ∧ S <+: S' ∧ S'[S.length]? = some (.lst (xs.map D.int)) ∧ xs.length = i ∧ ∀ x ∈ xs, (0 : Int) ≤ x ∧ x < 1999999973
theorem nums_turn (S : Hs) (c : Int) (m : Nat) (hm : m ≤ 100) (a d : Int) (xs : List Int) (i : Nat) (S1 : Hs) (h1 : 0 ≤ a ∧ a < 1999999973) (h3 : 0 ≤ d) (hS : S <+: S1) (hn : S1[S.length]? = some (.lst (xs.map D.int))) (hl : xs.length = i) (him : i < m) (hb : ∀ x ∈ xs, (0 : Int) ≤ x ∧ x < 1999999973) {Q : Fl → Hs → Prop} :
    Ok (k__law_numbers_1 [some (.int c), some (.int m), some (.ref S.length), some (.int a), some (.int d), some (.int i)] S1) (turnQ (NumsInv S c m (i + 1)) Q) := by
  have hlt := at_lt hn
  have q1 : -18446744073709551616 < a ∧ a < 18446744073709551616 := by omega
  have hsz : (xs.map D.int).length < sizeLine := by rw [List.length_map, sizeLine_eq]; omega
  have hz := mod_in (a * (a % 65521 + 40487) + 7 * (i : Int) + 5)
  have hd : 0 ≤ d / 1000000 := by omega
  unfold k__law_numbers_1
  by_cases h0 : 0 < d
  · walk_at "ev"
    obtain ⟨e1, e2, e3⟩ := nums_step (T := [.lst [.int ((a * (a % 65521 + 40487) + 7 * (i : Int) + 5) % 1999999973), .int (d % 1000000)]]) (z := d % 1000000) hn (by omega) hb
    exact ⟨_, _, _, _, rfl, hz, hd, pre_set (hS.trans (pre_app _ _)) (Nat.le_refl _) _, e1, by rw [e2, hl], e3⟩
  · walk_at "ev"
    obtain ⟨e1, e2, e3⟩ := nums_step (T := [.lst [.int ((a * (a % 65521 + 40487) + 7 * (i : Int) + 5) % 1999999973), .int (d % 1000000)]]) hn hz hb
    exact ⟨_, _, _, _, rfl, hz, hd, pre_set (hS.trans (pre_app _ _)) (Nat.le_refl _) _, e1, by rw [e2, hl], e3⟩
theorem nums_loop (S : Hs) (c : Int) (m : Nat) (hm : m ≤ 100) (a d : Int) (h1 : 0 ≤ a ∧ a < 1999999973) (h3 : 0 ≤ d) : Ok (w__law_numbers_1 [some (.int c), some (.int m), some (.ref S.length), some (.int a), some (.int d), none] (S ++ [.lst []])) fun f S' => ∃ τ, f = .nx (some (.int c) :: some (.int m) :: some (.ref S.length) :: τ) ∧ S <+: S' ∧ NumsAt m S.length S' := by
  have e := rngI_0 (j := (m : Int)) (by omega) (by omega)
  unfold w__law_numbers_1
  refine Ok.for ?_
  walk_at "ev"
  refine Ok.loop (NumsInv S c m) ?_ (fun _ _ _ _ _ => chk_nil) ?_ ?_
  · exact ⟨a, d, none, [], rfl, h1, h3, pre_app _ _, at_new _ _, rfl, nofun⟩
  · rintro i x τ S1 hx ⟨a, d, o, xs, rfl, h1, h3, hS, hn, hl, hb⟩
    obtain ⟨hi, rfl⟩ := rgD_get hx
    have q := nums_turn S c m hm a d xs i S1 h1 h3 hS hn hl (by omega) hb (Q := fun f S' => ∃ τ, f = .nx (some (.int c) :: some (.int m) :: some (.ref S.length) :: τ) ∧ S <+: S' ∧ NumsAt m S.length S')
    walk_at "ev"
  · rintro τ S1 ⟨a, d, o, xs, rfl, h1, h3, hS, hn, hl, hb⟩
    rw [rgD_length] at hl
    exact ⟨_, rfl, hS, xs, hn, by omega, hb⟩
end Py

namespace Py
open PySem PySem.Spec L2
local macro_rules | `(tactic| walk_at "ev") => `(tactic| simp -implicitDefEqProofs (maxDischargeDepth := 12) only [Int.reduceLT, Int.reduceLE, Int.reduceMul, Int.reduceAdd, Int.reduceSub, Int.reduceNeg, Int.reducePow, Int.reduceMod, Int.reduceDiv, Int.reduceEq, Int.reduceNe, Int.reduceToNat, Int.reduceGT, Int.reduceGE, Nat.reduceLT, Nat.reduceLeDiff, Nat.reduceAdd, Nat.reduceMul, Nat.reduceSub, Nat.reduceMod, Nat.reduceDiv, Nat.reducePow, Nat.reduceEqDiff, gt_iff_lt, ge_iff_le, Int.zero_add, Int.mul_one, nabs10, Int.cast_ofNat_Int, List.nil_append, decide_true, decide_false, eq_self, not_true_eq_false, not_false_eq_true, ok_ok, ok_bind, turnQ_nx, turnQ_ct, turnQ_bk, turnQ_rt, List.length_cons, List.length_nil, Nat.zero_add, List.map_cons, List.map_nil, ev_bind, ev_st, ev_var0, ev_varS, ev_lit, ev_bin, ev_un, ev_opt, ev_optB, ev_blK, ev_tBl, ev_tTru, ev_tAnd, ev_tOr, ev_tNot, ev_tTrue, ev_dIf, ev_andK, ev_dAnd, ev_orK, ev_dOr, ev_notK, ev_dNot, ev_args0, ev_args, ev_tup, ev_lst, ev_call, ev_mt, ev_part0, ev_partK, ev_part, ev_sl, ev_dict0, ev_newL, ev_addI, ev_addT, ev_addS, ev_addR, ev_addAt, ev_subI, ev_mulI, ev_mulR, ev_mulAt, ev_divI, ev_modI, ev_powI, ev_negI, ev_iaddI, ev_ltI, ev_leI, ev_gtI, ev_geI, ev_eqI, ev_neI, ev_eqS, ev_neS, ev_eqP, ev_neP, ev_eqR, ev_neR, ev_eqT, ev_neT, ev_is, ev_isn, ev_ixT, ev_ixR, ev_ixRS, ev_ixAtL, ev_ixAtD, ev_ixF, ev_slF, ev_slT, ev_slR, ev_slAt, ev_rev, ev_revAt, ev_truB, ev_truI, ev_truT, ev_truR, ev_truAt, ev_lenT, ev_lenF, ev_lenS, ev_lenR, ev_lenAt, ev_lenAtD, ev_abs, ev_max, ev_min, ev_max3, ev_min3, ev_intI, ev_intB, ev_listF, ev_listT, ev_listR, ev_listAt, ev_tupR, ev_tupAt, ev_sumR, ev_sumAt, ev_optI, ev_allR, ev_allAt, ev_optA, ev_anyR, ev_anyAt, ev_optAny, ev_range, ev_irange, ev_ival, ev_valT, ev_valF, ev_valR, ev_valAt, ev_lc, ev_gtup, ev_each0, ev_each, ev_par2, ev_par2K, ev_gix, ev_ienum, ev_enumR, ev_enumAt, ev_izip, ev_zipR, ev_zipAt, ev_isi, ev_tyDR, ev_tyAt, ev_tyAtD, ev_tyDI, ev_tyDB, ev_tyDS, ev_tyDT, ev_tyDN, ev_isi1, ev_isi2, ev_isi3, ev_isi4, ev_isi5, ev_isi6, ev_isi7, ev_isi8, ev_isi9, ev_isi10, ev_append, ev_appAt, ev_extend, ev_extAt, ev_tyL, ev_lstAt, ev_tyS, ev_gset, ev_asg, ev_expr, ev_ret, ev_sif, ev_aug, ev_seq0, ev_seq, ev_seqN, ev_seqR, ev_seqB, ev_seqC, ev_finN, ev_finR, ev_set0, ev_setS, ev_at0, ev_at1, ev_at2, ev_at3, ev_at4, ev_at5, ev_at6, ev_at7, ev_at8, ev_at9, ev_at10, ev_at11, ev_atM1, List.getElem?_cons_zero, List.getElem?_cons_succ, List.getElem?_concat_length, List.getElem?_append_left, ev_lt1, ev_ltA, decide_eq_true_eq, if_true, if_false, and_self, and_true, true_and, or_true, true_or, or_false, false_or, ite_true, ite_false, Bool.not_true, Bool.not_false, reduceCtorEq,  Bool.false_eq_true, List.getLast?_concat, *])
theorem numbers_ok (c : Int) (m : Nat) (hm : m ≤ 100) (S : Hs) : Ok (f__law_numbers [.int c, .int m] S) fun v S' => S <+: S' ∧ v = .ref S.length ∧ NumsAt m S.length S' := by
  show Ok ((b__law_numbers [some (.int c), some (.int m), none, none, none, none] S).bind finK) _
  have key : ∀ d : Int, 0 ≤ d → Ok (w__law_numbers_1 [some (.int c), some (.int m), some (.ref S.length), some (.int ((c % 1999999973 + 31) * 765432101 % 1999999973)), some (.int d), none] (S ++ [.lst []])) fun f S' => Ok (seqK [sRet (dVar 2)] f S') fun f S' => Ok (finK f S') fun v S' => S <+: S' ∧ v = .ref S.length ∧ NumsAt m S.length S' := by
    intro d hd
    refine (nums_loop S c m hm _ d (mod_in _) hd).mono ?_
    rintro f S' ⟨τ, rfl, h1, h2⟩
    walk_at "ev"
  unfold b__law_numbers
  have q1 : -18446744073709551616 < (765432101 : Int) ∧ (765432101 : Int) < 18446744073709551616 := by omega
  by_cases h : c < 0
  · have k1 := key (-c) (by omega)
    walk_at "ev"
  · by_cases h2 : 1000000000000000000 ≤ c
    · have k1 := key c (by omega)
      walk_at "ev"
    · have k1 := key 0 (by omega)
      walk_at "ev"
end Py

namespace Py
open PySem PySem.Spec L2
local macro_rules | `(tactic| walk_at "ev") => `(tactic| simp -implicitDefEqProofs (maxDischargeDepth := 12) only [Int.reduceLT, Int.reduceLE, Int.reduceMul, Int.reduceAdd, Int.reduceSub, Int.reduceNeg, Int.reducePow, Int.reduceMod, Int.reduceDiv, Int.reduceEq, Int.reduceNe, Int.reduceToNat, Int.reduceGT, Int.reduceGE, Nat.reduceLT, Nat.reduceLeDiff, Nat.reduceAdd, Nat.reduceMul, Nat.reduceSub, Nat.reduceMod, Nat.reduceDiv, Nat.reducePow, Nat.reduceEqDiff, gt_iff_lt, ge_iff_le, Int.zero_add, Int.mul_one, nabs10, Int.cast_ofNat_Int, List.nil_append, decide_true, decide_false, eq_self, not_true_eq_false, not_false_eq_true, ok_ok, ok_bind, turnQ_nx, turnQ_ct, turnQ_bk, turnQ_rt, List.length_cons, List.length_nil, Nat.zero_add, List.map_cons, List.map_nil, ev_bind, ev_st, ev_var0, ev_varS, ev_lit, ev_bin, ev_un, ev_opt, ev_optB, ev_blK, ev_tBl, ev_tTru, ev_tAnd, ev_tOr, ev_tNot, ev_tTrue, ev_dIf, ev_andK, ev_dAnd, ev_orK, ev_dOr, ev_notK, ev_dNot, ev_args0, ev_args, ev_tup, ev_lst, ev_call, ev_mt, ev_part0, ev_partK, ev_part, ev_sl, ev_dict0, ev_newL, ev_addI, ev_addT, ev_addS, ev_addR, ev_addAt, ev_subI, ev_mulI, ev_mulR, ev_mulAt, ev_divI, ev_modI, ev_powI, ev_negI, ev_iaddI, ev_ltI, ev_leI, ev_gtI, ev_geI, ev_eqI, ev_neI, ev_eqS, ev_neS, ev_eqP, ev_neP, ev_eqR, ev_neR, ev_eqT, ev_neT, ev_is, ev_isn, ev_ixT, ev_ixR, ev_ixRS, ev_ixAtL, ev_ixAtD, ev_ixF, ev_slF, ev_slT, ev_slR, ev_slAt, ev_rev, ev_revAt, ev_truB, ev_truI, ev_truT, ev_truR, ev_truAt, ev_lenT, ev_lenF, ev_lenS, ev_lenR, ev_lenAt, ev_lenAtD, ev_abs, ev_max, ev_min, ev_max3, ev_min3, ev_intI, ev_intB, ev_listF, ev_listT, ev_listR, ev_listAt, ev_tupR, ev_tupAt, ev_sumR, ev_sumAt, ev_optI, ev_allR, ev_allAt, ev_optA, ev_anyR, ev_anyAt, ev_optAny, ev_range, ev_irange, ev_ival, ev_valT, ev_valF, ev_valR, ev_valAt, ev_lc, ev_gtup, ev_each0, ev_each, ev_par2, ev_par2K, ev_gix, ev_ienum, ev_enumR, ev_enumAt, ev_izip, ev_zipR, ev_zipAt, ev_isi, ev_tyDR, ev_tyAt, ev_tyAtD, ev_tyDI, ev_tyDB, ev_tyDS, ev_tyDT, ev_tyDN, ev_isi1, ev_isi2, ev_isi3, ev_isi4, ev_isi5, ev_isi6, ev_isi7, ev_isi8, ev_isi9, ev_isi10, ev_append, ev_appAt, ev_extend, ev_extAt, ev_tyL, ev_lstAt, ev_tyS, ev_gset, ev_asg, ev_expr, ev_ret, ev_sif, ev_aug, ev_seq0, ev_seq, ev_seqN, ev_seqR, ev_seqB, ev_seqC, ev_finN, ev_finR, ev_set0, ev_setS, ev_at0, ev_at1, ev_at2, ev_at3, ev_at4, ev_at5, ev_at6, ev_at7, ev_at8, ev_at9, ev_at10, ev_at11, ev_atM1, List.getElem?_cons_zero, List.getElem?_cons_succ, List.getElem?_concat_length, List.getElem?_append_left, ev_lt1, ev_ltA, decide_eq_true_eq, if_true, if_false, and_self, and_true, true_and, or_true, true_or, or_false, false_or, ite_true, ite_false, Bool.not_true, Bool.not_false, reduceCtorEq,  Bool.false_eq_true, List.getLast?_concat, *])
theorem at_mem {xs : List Int} {i : Int} (h0 : 0 ≤ i) (h1 : i < xs.length) : ∃ p, atI (xs.map D.int) i = some (.int p) ∧ p ∈ xs := by
  obtain ⟨j, rfl⟩ := Int.eq_ofNat_of_zero_le h0
  have hj : j < xs.length := by omega
  exact ⟨xs[j], by rw [ev_atN, List.getElem?_map, List.getElem?_eq_getElem hj]; rfl, List.getElem_mem hj⟩
theorem at_memS {xs : List Str} {i : Int} (h0 : 0 ≤ i) (h1 : i < xs.length) : ∃ p, atI (xs.map D.str) i = some (.str p) ∧ p ∈ xs := by
  obtain ⟨j, rfl⟩ := Int.eq_ofNat_of_zero_le h0
  have hj : j < xs.length := by omega
  exact ⟨xs[j], by rw [ev_atN, List.getElem?_map, List.getElem?_eq_getElem hj]; rfl, List.getElem_mem hj⟩
/-- a drawn clip -/
def Clip (B p : Int) (d : D) : Prop := ∃ (r : Str) (a b f : Int), d = .tup [.str r, .int a, .int b, .int f] ∧ PyData.strOk r = true ∧ 0 ≤ a ∧ a ≤ B ∧ 0 ≤ b ∧ b ≤ B ∧ b - a ≤ 11 ∧ a - b ≤ 11 ∧ 0 ≤ f ∧ f ≤ 9 ∧ f ≤ (if b < a then a - b else b - a) + 1 ∧ f ≤ p
def room (ds : List D) : Int := match ds.getLast? with
  | some (.tup [_, .int a, .int b, .int f]) => (if b < a then a - b else b - a) + 1 - f
  | _ => 0
inductive Strip : List D → Prop where
  | nil : Strip []
  | snoc {ds : List D} {d : D} (h : Strip ds) (c : Clip (100000 + 13 * (ds.length + 1)) (room ds) d) : Strip (ds ++ [d])
theorem Strip.last {ds : List D} (h : Strip ds) (h0 : 0 < ds.length) : ∃ r a b f p, ds.getLast? = some (.tup [.str r, .int a, .int b, .int f]) ∧ Clip (100000 + 13 * ds.length) p (.tup [.str r, .int a, .int b, .int f]) := by
  cases h with
  | nil => cases h0
  | @snoc ds' _ h c =>
    obtain ⟨r, a, b, f, rfl, c⟩ := c
    refine ⟨r, a, b, f, room ds', List.getLast?_concat, r, a, b, f, rfl, ?_⟩
    rw [List.length_append]
    exact c
theorem clip_ok {S : Hs} {nf nm nn : Nat} {ds : List D} {rs : List Str} {wide : Int} (hf : S[nf]? = some (.lst ds)) (hs : Strip ds) (hl : ds.length ≤ 100) (hm : NumsAt 5 nm S) (hn : S[nn]? = some (.lst (rs.map D.str))) (hr : 0 < rs.length) (hk : ∀ r ∈ rs, PyData.strOk r = true) (hw : 0 < wide) (hw2 : wide ≤ 100000) :
    Ok (f__law_clip [.ref nf, .ref nm, .ref nn, .int wide] S) fun v S' => S <+: S' ∧ Clip (100000 + 13 * (ds.length + 1)) (room ds) v := by
  obtain ⟨xs, hx, hxl, hb⟩ := hm
  match xs, hxl with
  | [x0, x1, x2, x3, x4], _ =>
  obtain ⟨b0, _⟩ := hb x0 (by simp)
  obtain ⟨b1, _⟩ := hb x1 (by simp)
  obtain ⟨b2, _⟩ := hb x2 (by simp)
  obtain ⟨b3, _⟩ := hb x3 (by simp)
  obtain ⟨b4, _⟩ := hb x4 (by simp)
  clear hb
  rw [List.map_cons, List.map_cons, List.map_cons, List.map_cons, List.map_cons, List.map_nil] at hx
  have l1 := at_lt hf
  have l2 := at_lt hn
  have l3 := at_lt hx
  have hN : (0 : Int) < (rs.map D.str).length := by rw [List.length_map]; omega
  obtain ⟨r, hr1, hr2⟩ := at_memS (xs := rs) (i := x0 % ((rs.map D.str).length : Int)) (Int.emod_nonneg _ (by omega)) (by rw [List.length_map]; exact Int.emod_lt_of_pos _ (by omega))
  have hro := hk r hr2
  obtain ⟨w, hw1⟩ : ∃ w, x1 % wide = w := ⟨_, rfl⟩
  have hw3 : 0 ≤ w ∧ w < 100000 := by
    have h1 := Int.emod_nonneg x1 (show wide ≠ 0 by omega)
    have h2 := Int.emod_lt_of_pos x1 hw
    omega
  obtain ⟨q, hq1, hq2⟩ := at_mem (xs := [4, 4, 12]) (i := x0 / 8 % 3) (by omega) (by simp; omega)
  have hq : 4 ≤ q ∧ q ≤ 12 := by simp at hq2; omega
  simp only [List.map_cons, List.map_nil] at hq1
  obtain ⟨v, hv1⟩ : ∃ v, x4 % q = v := ⟨_, rfl⟩
  have hv3 : 0 ≤ v ∧ v < 12 := by
    have h1 := Int.emod_nonneg x4 (show q ≠ 0 by omega)
    have h2 := Int.emod_lt_of_pos x4 (show 0 < q by omega)
    omega
  have hq0 : 0 < q := by omega
  show Ok ((b__law_clip [some (.ref nf), some (.ref nm), some (.ref nn), some (.int wide), none, none, none, none, none, none] S).bind finK) _
  by_cases h0 : 0 < (ds.length : Int)
  · obtain ⟨r', a, b, f, p, hla, r'', a', b', f', hc0, c1, c2, c3, c4, c5, c6, c7, c8, c9, c10, c11⟩ := hs.last (by omega)
    injection hc0 with hc0
    simp only [List.cons.injEq, D.str.injEq, D.int.injEq, and_true] at hc0
    obtain ⟨rfl, rfl, rfl, rfl⟩ := hc0
    have hfr := fun S => frames_spec r' a b f S (by omega) (by omega) (by omega) (by omega) (by omega) (by omega)
    obtain ⟨L, hL⟩ : ∃ L : Int, ((numsD a b).length : Int) = L := ⟨_, rfl⟩
    have hL2 : (if b < a then a - b else b - a) + 1 = L := by
      rw [← hL, numsD_length]
      split <;> omega
    have hroom : room ds = (if b < a then a - b else b - a) + 1 - f := by unfold room; rw [hla]
    obtain ⟨e, he1, he2⟩ := at_mem (xs := [1, -1, 0]) (i := x2 / 2 % 3) (by omega) (by simp; omega)
    have he : -1 ≤ e ∧ e ≤ 1 := by simp at he2; omega
    obtain ⟨g, hg1, hg2⟩ := at_mem (xs := [0, 0, 0, 1, 2, 3, 4, 9]) (i := x3 % 8) (by omega) (by simp; omega)
    have hg : 0 ≤ g ∧ g ≤ 9 := by simp at hg2; omega
    simp only [List.map_cons, List.map_nil] at he1 hg1
    unfold b__law_clip
    by_cases h2 : x2 % 2 = 0
    · by_cases h3 : x4 / 12 % 2 = 1
      · by_cases h4 : max (1 + v) (min g (L - f)) - 1 ≤ max 0 (b + e)
        · walk_at "ev"
          refine ⟨?_, _, _, _, _, rfl, ‹_›, ?_⟩
          · first | exact pre_refl _ | exact pre_app _ _ | (simp only [List.append_assoc]; exact pre_app _ _)
          · omega
        · walk_at "ev"
          refine ⟨?_, _, _, _, _, rfl, ‹_›, ?_⟩
          · first | exact pre_refl _ | exact pre_app _ _ | (simp only [List.append_assoc]; exact pre_app _ _)
          · omega
      · walk_at "ev"
        refine ⟨?_, _, _, _, _, rfl, ‹_›, ?_⟩
        · first | exact pre_refl _ | exact pre_app _ _ | (simp only [List.append_assoc]; exact pre_app _ _)
        · omega
    · by_cases h3 : x4 / 12 % 2 = 1
      · by_cases h4 : max (1 + v) (min g (L - f)) - 1 ≤ w
        · walk_at "ev"
          refine ⟨?_, _, _, _, _, rfl, ‹_›, ?_⟩
          · first | exact pre_refl _ | exact pre_app _ _ | (simp only [List.append_assoc]; exact pre_app _ _)
          · omega
        · walk_at "ev"
          refine ⟨?_, _, _, _, _, rfl, ‹_›, ?_⟩
          · first | exact pre_refl _ | exact pre_app _ _ | (simp only [List.append_assoc]; exact pre_app _ _)
          · omega
      · walk_at "ev"
        refine ⟨?_, _, _, _, _, rfl, ‹_›, ?_⟩
        · first | exact pre_refl _ | exact pre_app _ _ | (simp only [List.append_assoc]; exact pre_app _ _)
        · omega
  · have hds : ds = [] := by
      cases ds with
      | nil => rfl
      | cons _ _ => exact absurd (by rw [List.length_cons]; omega) h0
    have hroom : room ds = 0 := by rw [hds]; rfl
    clear hds
    unfold b__law_clip
    by_cases h3 : x4 / 12 % 2 = 1
    · by_cases h4 : max (1 + v) 0 - 1 ≤ w
      · walk_at "ev"
        refine ⟨?_, _, _, _, _, rfl, ‹_›, ?_⟩
        · first | exact pre_refl _ | exact pre_app _ _ | (simp only [List.append_assoc]; exact pre_app _ _)
        · omega
      · walk_at "ev"
        refine ⟨?_, _, _, _, _, rfl, ‹_›, ?_⟩
        · first | exact pre_refl _ | exact pre_app _ _ | (simp only [List.append_assoc]; exact pre_app _ _)
        · omega
    · walk_at "ev"
      refine ⟨?_, _, _, _, _, rfl, ‹_›, ?_⟩
      · first | exact pre_refl _ | exact pre_app _ _ | (simp only [List.append_assoc]; exact pre_app _ _)
      · omega
end Py

namespace Py
open PySem PySem.Spec L2
local macro_rules | `(tactic| walk_at "ev") => `(tactic| simp -implicitDefEqProofs (maxDischargeDepth := 12) only [Int.reduceLT, Int.reduceLE, Int.reduceMul, Int.reduceAdd, Int.reduceSub, Int.reduceNeg, Int.reducePow, Int.reduceMod, Int.reduceDiv, Int.reduceEq, Int.reduceNe, Int.reduceToNat, Int.reduceGT, Int.reduceGE, Nat.reduceLT, Nat.reduceLeDiff, Nat.reduceAdd, Nat.reduceMul, Nat.reduceSub, Nat.reduceMod, Nat.reduceDiv, Nat.reducePow, Nat.reduceEqDiff, gt_iff_lt, ge_iff_le, Int.zero_add, Int.mul_one, nabs10, Int.cast_ofNat_Int, List.nil_append, decide_true, decide_false, eq_self, not_true_eq_false, not_false_eq_true, ok_ok, ok_bind, turnQ_nx, turnQ_ct, turnQ_bk, turnQ_rt, List.length_cons, List.length_nil, Nat.zero_add, List.map_cons, List.map_nil, ev_bind, ev_st, ev_var0, ev_varS, ev_lit, ev_bin, ev_un, ev_opt, ev_optB, ev_blK, ev_tBl, ev_tTru, ev_tAnd, ev_tOr, ev_tNot, ev_tTrue, ev_dIf, ev_andK, ev_dAnd, ev_orK, ev_dOr, ev_notK, ev_dNot, ev_args0, ev_args, ev_tup, ev_lst, ev_call, ev_mt, ev_part0, ev_partK, ev_part, ev_sl, ev_dict0, ev_newL, ev_addI, ev_addT, ev_addS, ev_addR, ev_addAt, ev_subI, ev_mulI, ev_mulR, ev_mulAt, ev_divI, ev_modI, ev_powI, ev_negI, ev_iaddI, ev_ltI, ev_leI, ev_gtI, ev_geI, ev_eqI, ev_neI, ev_eqS, ev_neS, ev_eqP, ev_neP, ev_eqR, ev_neR, ev_eqT, ev_neT, ev_is, ev_isn, ev_ixT, ev_ixR, ev_ixRS, ev_ixAtL, ev_ixAtD, ev_ixF, ev_slF, ev_slT, ev_slR, ev_slAt, ev_rev, ev_revAt, ev_truB, ev_truI, ev_truT, ev_truR, ev_truAt, ev_lenT, ev_lenF, ev_lenS, ev_lenR, ev_lenAt, ev_lenAtD, ev_abs, ev_max, ev_min, ev_max3, ev_min3, ev_intI, ev_intB, ev_listF, ev_listT, ev_listR, ev_listAt, ev_tupR, ev_tupAt, ev_sumR, ev_sumAt, ev_optI, ev_allR, ev_allAt, ev_optA, ev_anyR, ev_anyAt, ev_optAny, ev_range, ev_irange, ev_ival, ev_valT, ev_valF, ev_valR, ev_valAt, ev_lc, ev_gtup, ev_each0, ev_each, ev_par2, ev_par2K, ev_gix, ev_ienum, ev_enumR, ev_enumAt, ev_izip, ev_zipR, ev_zipAt, ev_isi, ev_tyDR, ev_tyAt, ev_tyAtD, ev_tyDI, ev_tyDB, ev_tyDS, ev_tyDT, ev_tyDN, ev_isi1, ev_isi2, ev_isi3, ev_isi4, ev_isi5, ev_isi6, ev_isi7, ev_isi8, ev_isi9, ev_isi10, ev_append, ev_appAt, ev_extend, ev_extAt, ev_tyL, ev_lstAt, ev_tyS, ev_gset, ev_asg, ev_expr, ev_ret, ev_sif, ev_aug, ev_seq0, ev_seq, ev_seqN, ev_seqR, ev_seqB, ev_seqC, ev_finN, ev_finR, ev_set0, ev_setS, ev_at0, ev_at1, ev_at2, ev_at3, ev_at4, ev_at5, ev_at6, ev_at7, ev_at8, ev_at9, ev_at10, ev_at11, ev_atM1, List.getElem?_cons_zero, List.getElem?_cons_succ, List.getElem?_concat_length, List.getElem?_append_left, ev_lt1, ev_ltA, decide_eq_true_eq, if_true, if_false, and_self, and_true, true_and, or_true, true_or, or_false, false_or, ite_true, ite_false, Bool.not_true, Bool.not_false, reduceCtorEq,  Bool.false_eq_true, List.getLast?_concat, *])
theorem names_cut (x y z : Str) (j : Int) (h : 1 ≤ j ∧ j ≤ 3) : ∃ rs : List Str, cutD [.str x, .str y, .str z] none (some j) = rs.map D.str ∧ 0 < rs.length ∧ ∀ r ∈ rs, r = x ∨ r = y ∨ r = z := by
  have : j = 1 ∨ j = 2 ∨ j = 3 := by omega
  rcases this with rfl | rfl | rfl
  · exact ⟨[x], rfl, Nat.zero_lt_succ _, by simp⟩
  · exact ⟨[x, y], rfl, Nat.zero_lt_succ _, by simp⟩
  · exact ⟨[x, y, z], rfl, Nat.zero_lt_succ _, by simp⟩
def ClipsInv (S : Hs) (nc nn nf : Nat) (cs : List D) (rs : List Str) (way wide : Int) (i : Nat) (τ : Ev) (S' : Hs) : Prop := ∃ (o : Option D) (ds : List D), τ = [some (.ref nc), some (.int way), some (.ref nn), some (.int wide), some (.ref nf), o] ∧ S <+: S' ∧ S'[nf]? = some (.lst ds) ∧ Strip ds ∧ ds.length = i ∧ S'[nc]? = some (.lst cs) ∧ S'[nn]? = some (.lst (rs.map D.str))
theorem clips_loop {S S0 : Hs} {nc nn nf : Nat} {ns : List Int} {rs : List Str} {way wide : Int} (hl : ns.length ≤ 100) (h1 : nc ≠ nf) (h2 : nn ≠ nf) (hS : S <+: S0) (h3 : S.length ≤ nf) (hf : S0[nf]? = some (.lst [])) (hc : S0[nc]? = some (.lst (ns.map D.int))) (hn : S0[nn]? = some (.lst (rs.map D.str))) (hr : 0 < rs.length) (hk : ∀ r ∈ rs, PyData.strOk r = true) (hw : 0 < wide) (hw2 : wide ≤ 100000) :
    Ok (w__law_clips_1 [some (.ref nc), some (.int way), some (.ref nn), some (.int wide), some (.ref nf), none] S0) fun f S' => ∃ τ ds, f = .nx τ ∧ τ[4]? = some (some (.ref nf)) ∧ S <+: S' ∧ S'[nf]? = some (.lst ds) ∧ Strip ds ∧ ds.length = ns.length := by
  unfold w__law_clips_1
  refine Ok.for ?_
  walk_at "ev"
  refine Ok.loop (ClipsInv S nc nn nf (ns.map D.int) rs way wide) ?_ (fun i τ S' _ h => ?_) ?_ ?_
  · exact ⟨none, [], rfl, hS, hf, .nil, rfl, hc, hn⟩
  · obtain ⟨o, ds, _, _, _, _, _, hc, _⟩ := h
    exact chk_one hc
  · rintro i d τ S1 hd ⟨o, ds, rfl, hS1, hf1, hs1, hl1, hc1, hn1⟩
    obtain ⟨c, hc0, rfl⟩ : ∃ c : Int, ns[i]? = some c ∧ D.int c = d := by
      rw [List.getElem?_map] at hd
      cases hx : ns[i]? with
      | none => rw [hx] at hd; cases hd
      | some c => rw [hx] at hd; exact ⟨c, rfl, Option.some.inj hd⟩
    have hi : i < ns.length := (List.getElem?_eq_some_iff.mp hc0).1
    clear hd
    subst hl1
    obtain ⟨v1, S2, e1, p1, rfl, hm⟩ := (numbers_ok c 5 (by omega) S1).ex
    have e1' : f__law_numbers [.int c, .int 5] S1 = .ok (.ref S1.length) S2 := e1
    obtain ⟨v2, S3, e2, p2, hcl⟩ := (clip_ok (pre_at p1 hf1) hs1 (by omega) hm (pre_at p1 hn1) hr hk hw hw2).ex
    have hf3 := pre_at (p1.trans p2) hf1
    have hsz : ds.length < sizeLine := by rw [sizeLine_eq]; omega
    clear hc0 e1 hm
    unfold k__law_clips_1
    walk_at "ev"
    refine ⟨_, _, rfl, pre_set (hS1.trans (p1.trans p2)) h3 _, at_set hf3, .snoc hs1 hcl, by rw [List.length_append]; rfl, ?_, ?_⟩
    · exact at_set_ne (pre_at (p1.trans p2) hc1) (Ne.symm h1)
    · exact at_set_ne (pre_at (p1.trans p2) hn1) (Ne.symm h2)
  · rintro τ S1 ⟨o, ds, rfl, hS1, hf1, hs1, hl1, hc1, hn1⟩
    exact ⟨_, ds, rfl, rfl, hS1, hf1, hs1, by rw [hl1, List.length_map]⟩
theorem strOk_names : PyData.strOk "a" = true ∧ PyData.strOk "ab" = true ∧ PyData.strOk "abc" = true ∧ PyData.strOk "kettle" = true ∧ PyData.strOk "kettles" = true ∧ PyData.strOk "zoo" = true ∧ PyData.strOk "q" = true ∧ PyData.strOk "p" = true ∧ PyData.strOk "pq" = true ∧ PyData.strOk "b" = true := by
  decide +kernel
theorem var_at {τ : Ev} {i : Nat} {v : D} {S : Hs} (h : τ[i]? = some (some v)) : dVar i τ S = .ok v S := by
  unfold dVar
  rw [h]
def ClipsRes (S : Hs) (n : Nat) (v : D) (S' : Hs) : Prop := ∃ nf ds, v = .ref nf ∧ S <+: S' ∧ S.length ≤ nf ∧ S'[nf]? = some (.lst ds) ∧ Strip ds ∧ ds.length = n
theorem clips_ok {S : Hs} {nc : Nat} {ns : List Int} (hc : S[nc]? = some (.lst (ns.map D.int))) (hl : ns.length ≤ 100) (way : Int) : Ok (f__law_clips [.ref nc, .int way] S) (ClipsRes S ns.length) := by
  have hlt := at_lt hc
  obtain ⟨w, hw1, hw2⟩ := at_mem (xs := [4, 9, 20, 100000]) (i := way / 9 % 4) (by omega) (by simp; omega)
  have hw : 0 < w ∧ w ≤ 100000 := by simp at hw2; omega
  simp only [List.map_cons, List.map_nil] at hw1
  clear hw2
  obtain ⟨s1, s2, s3, s4, s5, s6, s7, s8, s9, _⟩ := strOk_names
  obtain ⟨ra, ha1, ha2, ha3⟩ := names_cut "a" "ab" "abc" (1 + way / 3 % 3) (by omega)
  obtain ⟨rb, hb1, hb2, hb3⟩ := names_cut "kettle" "kettles" "zoo" (1 + way / 3 % 3) (by omega)
  obtain ⟨rc, hc1, hc2, hc3⟩ := names_cut "q" "p" "pq" (1 + way / 3 % 3) (by omega)
  have hra : ∀ r ∈ ra, PyData.strOk r = true := fun r h => by rcases ha3 r h with rfl | rfl | rfl <;> assumption
  have hrb : ∀ r ∈ rb, PyData.strOk r = true := fun r h => by rcases hb3 r h with rfl | rfl | rfl <;> assumption
  have hrc : ∀ r ∈ rc, PyData.strOk r = true := fun r h => by rcases hc3 r h with rfl | rfl | rfl <;> assumption
  clear ha3 hb3 hc3 s1 s2 s3 s4 s5 s6 s7 s8 s9
  have fin : ∀ {S0 : Hs} {nn nf : Nat} {rs : List Str}, nc ≠ nf → nn ≠ nf → S <+: S0 → S.length ≤ nf → S0[nf]? = some (.lst []) → S0[nn]? = some (.lst (rs.map D.str)) → 0 < rs.length → (∀ r ∈ rs, PyData.strOk r = true) →
      Ok (w__law_clips_1 [some (.ref nc), some (.int way), some (.ref nn), some (.int w), some (.ref nf), none] S0) fun f S' => Ok (seqK [sRet (dVar 4)] f S') fun f S' => Ok (finK f S') (ClipsRes S ns.length) := by
    intro S0 nn nf rs h1 h2 h3 h4 h5 h6 h7 h8
    refine (clips_loop hl h1 h2 h3 h4 h5 (pre_at h3 hc) h6 h7 h8 hw.1 hw.2).mono ?_
    rintro f S' ⟨τ, ds, rfl, q1, q2, q3, q4, q5⟩
    have q6 := fun S => var_at (S := S) q1
    walk_at "ev"
    exact ⟨nf, ds, rfl, q2, h4, q3, q4, q5⟩
  show Ok ((b__law_clips [some (.ref nc), some (.int way), none, none, none, none] S).bind finK) _
  unfold b__law_clips
  have : way % 3 = 0 ∨ way % 3 = 1 ∨ way % 3 = 2 := by omega
  rcases this with h | h | h
  · walk_at "ev"
    refine fin ?_ ?_ ?_ ?_ (at_new _ _) (at_app (at_app (at_new _ _))) ha2 hra
    · simp only [List.length_append, List.length_singleton]; omega
    · simp only [List.length_append, List.length_singleton]; omega
    · simp only [List.append_assoc]; exact pre_app _ _
    · simp only [List.length_append, List.length_singleton]; omega
  · walk_at "ev"
    refine fin ?_ ?_ ?_ ?_ (at_new _ _) (at_app (at_app (at_new _ _))) hb2 hrb
    · simp only [List.length_append, List.length_singleton]; omega
    · simp only [List.length_append, List.length_singleton]; omega
    · simp only [List.append_assoc]; exact pre_app _ _
    · simp only [List.length_append, List.length_singleton]; omega
  · walk_at "ev"
    refine fin ?_ ?_ ?_ ?_ (at_new _ _) (at_app (at_app (at_new _ _))) hc2 hrc
    · simp only [List.length_append, List.length_singleton]; omega
    · simp only [List.length_append, List.length_singleton]; omega
    · simp only [List.append_assoc]; exact pre_app _ _
    · simp only [List.length_append, List.length_singleton]; omega
end Py

namespace Py
open PySem PySem.Spec L2
local macro_rules | `(tactic| walk_at "ev") => `(tactic| simp -implicitDefEqProofs (maxDischargeDepth := 12) only [Int.reduceLT, Int.reduceLE, Int.reduceMul, Int.reduceAdd, Int.reduceSub, Int.reduceNeg, Int.reducePow, Int.reduceMod, Int.reduceDiv, Int.reduceEq, Int.reduceNe, Int.reduceToNat, Int.reduceGT, Int.reduceGE, Nat.reduceLT, Nat.reduceLeDiff, Nat.reduceAdd, Nat.reduceMul, Nat.reduceSub, Nat.reduceMod, Nat.reduceDiv, Nat.reducePow, Nat.reduceEqDiff, gt_iff_lt, ge_iff_le, Int.zero_add, Int.mul_one, nabs10, Int.cast_ofNat_Int, List.nil_append, decide_true, decide_false, eq_self, not_true_eq_false, not_false_eq_true, ok_ok, ok_bind, turnQ_nx, turnQ_ct, turnQ_bk, turnQ_rt, List.length_cons, List.length_nil, Nat.zero_add, List.map_cons, List.map_nil, ev_bind, ev_st, ev_var0, ev_varS, ev_lit, ev_bin, ev_un, ev_opt, ev_optB, ev_blK, ev_tBl, ev_tTru, ev_tAnd, ev_tOr, ev_tNot, ev_tTrue, ev_dIf, ev_andK, ev_dAnd, ev_orK, ev_dOr, ev_notK, ev_dNot, ev_args0, ev_args, ev_tup, ev_lst, ev_call, ev_mt, ev_part0, ev_partK, ev_part, ev_sl, ev_dict0, ev_newL, ev_addI, ev_addT, ev_addS, ev_addR, ev_addAt, ev_subI, ev_mulI, ev_mulR, ev_mulAt, ev_divI, ev_modI, ev_powI, ev_negI, ev_iaddI, ev_ltI, ev_leI, ev_gtI, ev_geI, ev_eqI, ev_neI, ev_eqS, ev_neS, ev_eqP, ev_neP, ev_eqR, ev_neR, ev_eqT, ev_neT, ev_is, ev_isn, ev_ixT, ev_ixR, ev_ixRS, ev_ixAtL, ev_ixAtD, ev_ixF, ev_slF, ev_slT, ev_slR, ev_slAt, ev_rev, ev_revAt, ev_truB, ev_truI, ev_truT, ev_truR, ev_truAt, ev_lenT, ev_lenF, ev_lenS, ev_lenR, ev_lenAt, ev_lenAtD, ev_abs, ev_max, ev_min, ev_max3, ev_min3, ev_intI, ev_intB, ev_listF, ev_listT, ev_listR, ev_listAt, ev_tupR, ev_tupAt, ev_sumR, ev_sumAt, ev_optI, ev_allR, ev_allAt, ev_optA, ev_anyR, ev_anyAt, ev_optAny, ev_range, ev_irange, ev_ival, ev_valT, ev_valF, ev_valR, ev_valAt, ev_lc, ev_gtup, ev_each0, ev_each, ev_par2, ev_par2K, ev_gix, ev_ienum, ev_enumR, ev_enumAt, ev_izip, ev_zipR, ev_zipAt, ev_isi, ev_tyDR, ev_tyAt, ev_tyAtD, ev_tyDI, ev_tyDB, ev_tyDS, ev_tyDT, ev_tyDN, ev_isi1, ev_isi2, ev_isi3, ev_isi4, ev_isi5, ev_isi6, ev_isi7, ev_isi8, ev_isi9, ev_isi10, ev_append, ev_appAt, ev_extend, ev_extAt, ev_tyL, ev_lstAt, ev_tyS, ev_gset, ev_asg, ev_expr, ev_ret, ev_sif, ev_aug, ev_seq0, ev_seq, ev_seqN, ev_seqR, ev_seqB, ev_seqC, ev_finN, ev_finR, ev_set0, ev_setS, ev_at0, ev_at1, ev_at2, ev_at3, ev_at4, ev_at5, ev_at6, ev_at7, ev_at8, ev_at9, ev_at10, ev_at11, ev_atM1, List.getElem?_cons_zero, List.getElem?_cons_succ, List.getElem?_concat_length, List.getElem?_append_left, ev_lt1, ev_ltA, decide_eq_true_eq, if_true, if_false, and_self, and_true, true_and, or_true, true_or, or_false, false_or, ite_true, ite_false, Bool.not_true, Bool.not_false, reduceCtorEq,  Bool.false_eq_true, List.getLast?_concat, *])
theorem numsD_map (a b : Int) : ∃ ns : List Int, numsD a b = ns.map D.int ∧ ns.length = ((if b < a then a - b else b - a) + 1).toNat := by
  unfold numsD
  split
  · exact ⟨(List.range (a - b + 1).toNat).map fun (k : Nat) => a + (k : Int) * (-1), by unfold rgD; rw [List.map_map]; rfl, by simp⟩
  · exact ⟨(List.range (b - a + 1).toNat).map fun (k : Nat) => a + (k : Int) * 1, by unfold rgD; rw [List.map_map]; rfl, by simp⟩
/-- what any drawn clip is -/
def Any (d : D) : Prop := ∃ (r : Str) (a b f : Int), d = .tup [.str r, .int a, .int b, .int f] ∧ PyData.strOk r = true ∧ 0 ≤ a ∧ a ≤ 200000 ∧ 0 ≤ b ∧ b ≤ 200000 ∧ b - a ≤ 11 ∧ a - b ≤ 11 ∧ 0 ≤ f ∧ f ≤ 9
theorem Strip.any {ds : List D} (h : Strip ds) (hl : ds.length ≤ 100) : ∀ d ∈ ds, Any d := by
  induction h with
  | nil => nofun
  | @snoc ds d h c ih =>
    rw [List.length_append] at hl
    intro e he
    rcases List.mem_append.mp he with he | he
    · exact ih (by omega) e he
    · rw [List.mem_singleton] at he
      subst he
      obtain ⟨r, a, b, f, rfl, c1, c2, c3, c4, c5, c6, c7, c8, c9, c10, c11⟩ := c
      exact ⟨r, a, b, f, rfl, c1, c2, by omega, c4, by omega, c6, c7, c8, c9⟩
theorem cut_cells (ns : List Int) : cutD (ns.map D.int) (some 2) (some 62) = ((ns.drop 2).take 60).map D.int := by
  rw [show cutD (ns.map D.int) (some 2) (some 62) = _ from cutD_nat (ns.map D.int) 2 62, List.map_take, List.map_drop]
end Py

namespace Py
open PySem PySem.Spec L2
local macro_rules | `(tactic| walk_at "ev") => `(tactic| simp -implicitDefEqProofs (maxDischargeDepth := 12) only [Int.reduceLT, Int.reduceLE, Int.reduceMul, Int.reduceAdd, Int.reduceSub, Int.reduceNeg, Int.reducePow, Int.reduceMod, Int.reduceDiv, Int.reduceEq, Int.reduceNe, Int.reduceToNat, Int.reduceGT, Int.reduceGE, Nat.reduceLT, Nat.reduceLeDiff, Nat.reduceAdd, Nat.reduceMul, Nat.reduceSub, Nat.reduceMod, Nat.reduceDiv, Nat.reducePow, Nat.reduceEqDiff, gt_iff_lt, ge_iff_le, Int.zero_add, Int.mul_one, nabs10, Int.cast_ofNat_Int, List.nil_append, decide_true, decide_false, eq_self, not_true_eq_false, not_false_eq_true, ok_ok, ok_bind, turnQ_nx, turnQ_ct, turnQ_bk, turnQ_rt, List.length_cons, List.length_nil, Nat.zero_add, List.map_cons, List.map_nil, ev_bind, ev_st, ev_var0, ev_varS, ev_lit, ev_bin, ev_un, ev_opt, ev_optB, ev_blK, ev_tBl, ev_tTru, ev_tAnd, ev_tOr, ev_tNot, ev_tTrue, ev_dIf, ev_andK, ev_dAnd, ev_orK, ev_dOr, ev_notK, ev_dNot, ev_args0, ev_args, ev_tup, ev_lst, ev_call, ev_mt, ev_part0, ev_partK, ev_part, ev_sl, ev_dict0, ev_newL, ev_addI, ev_addT, ev_addS, ev_addR, ev_addAt, ev_subI, ev_mulI, ev_mulR, ev_mulAt, ev_divI, ev_modI, ev_powI, ev_negI, ev_iaddI, ev_ltI, ev_leI, ev_gtI, ev_geI, ev_eqI, ev_neI, ev_eqS, ev_neS, ev_eqP, ev_neP, ev_eqR, ev_neR, ev_eqT, ev_neT, ev_is, ev_isn, ev_ixT, ev_ixR, ev_ixRS, ev_ixAtL, ev_ixAtD, ev_ixF, ev_slF, ev_slT, ev_slR, ev_slAt, ev_rev, ev_revAt, ev_truB, ev_truI, ev_truT, ev_truR, ev_truAt, ev_lenT, ev_lenF, ev_lenS, ev_lenR, ev_lenAt, ev_lenAtD, ev_abs, ev_max, ev_min, ev_max3, ev_min3, ev_intI, ev_intB, ev_listF, ev_listT, ev_listR, ev_listAt, ev_tupR, ev_tupAt, ev_sumR, ev_sumAt, ev_optI, ev_allR, ev_allAt, ev_optA, ev_anyR, ev_anyAt, ev_optAny, ev_range, ev_irange, ev_ival, ev_valT, ev_valF, ev_valR, ev_valAt, ev_lc, ev_gtup, ev_each0, ev_each, ev_par2, ev_par2K, ev_gix, ev_ienum, ev_enumR, ev_enumAt, ev_izip, ev_zipR, ev_zipAt, ev_isi, ev_tyDR, ev_tyAt, ev_tyAtD, ev_tyDI, ev_tyDB, ev_tyDS, ev_tyDT, ev_tyDN, ev_isi1, ev_isi2, ev_isi3, ev_isi4, ev_isi5, ev_isi6, ev_isi7, ev_isi8, ev_isi9, ev_isi10, ev_append, ev_appAt, ev_extend, ev_extAt, ev_tyL, ev_lstAt, ev_tyS, ev_gset, ev_asg, ev_expr, ev_ret, ev_sif, ev_aug, ev_seq0, ev_seq, ev_seqN, ev_seqR, ev_seqB, ev_seqC, ev_finN, ev_finR, ev_set0, ev_setS, ev_at0, ev_at1, ev_at2, ev_at3, ev_at4, ev_at5, ev_at6, ev_at7, ev_at8, ev_at9, ev_at10, ev_at11, ev_atM1, List.getElem?_cons_zero, List.getElem?_cons_succ, List.getElem?_concat_length, List.getElem?_append_left, ev_lt1, ev_ltA, decide_eq_true_eq, if_true, if_false, and_self, and_true, true_and, or_true, true_or, or_false, false_or, ite_true, ite_false, Bool.not_true, Bool.not_false, reduceCtorEq,  Bool.false_eq_true, List.getLast?_concat, *])
/-! ### strips -/
structure Sp where
  r : Str
  a : Int
  d : Int
  n : Nat
  f : Int
def Sp.l (s : Sp) : Int := s.a + s.d * s.n
def Sp.D (s : Sp) : D := .tup [.str s.r, .int s.a, .int s.l, .int s.f]
def Sp.fr (s : Sp) : List Int := (List.range (s.n + 1)).map fun (k : Nat) => s.a + s.d * (k : Int)
def Sp.on (s : Sp) (r : Str) (x : Int) : Prop := s.r = r ∧ (if s.n = 0 then x - s.a = 1 ∨ x - s.a = -1 else x - s.l = s.d)
instance (s : Sp) (r : Str) (x : Int) : Decidable (s.on r x) := by unfold Sp.on; infer_instance
def Sp.ext (s : Sp) (x : Int) : Sp := if s.n = 0 then ⟨s.r, s.a, x - s.a, 1, s.f⟩ else ⟨s.r, s.a, s.d, s.n + 1, s.f⟩
def step (r : Str) (f : Int) (b : Bool) (x : Int) (ss : List Sp) : List Sp := match b, ss.getLast? with
  | false, some s => if s.on r x then ss.dropLast ++ [s.ext x] else ss ++ [⟨r, x, 1, 0, f * 0⟩]
  | b, _ => ss ++ [⟨r, x, 1, 0, f * (if b then 1 else 0)⟩]
def inner (r : Str) (f : Int) : Bool → List Int → List Sp → List Sp
  | _, [], ss => ss
  | b, x :: xs, ss => inner r f false xs (step r f b x ss)
def Sp.Fit (c : Nat) (s : Sp) : Prop := (s.d = 1 ∨ s.d = -1) ∧ s.n ≤ c
def Fit (c : Nat) (ss : List Sp) : Prop := ss.length ≤ c ∧ ∀ s ∈ ss, s.Fit c
theorem mul_sgn {d : Int} {n : Nat} (h : d = 1 ∨ d = -1) : (d * n = 0 ↔ n = 0) ∧ (if d * n < 0 then -(d * n) else d * n) = n := by
  rcases h with rfl | rfl
  · rw [Int.one_mul]; omega
  · rw [show (-1 : Int) * n = -n by omega]; omega
theorem Sp.fr_ext {s : Sp} {r : Str} {x : Int} (h : s.on r x) : (s.ext x).fr = s.fr ++ [x] := by
  unfold Sp.on at h
  unfold Sp.ext
  by_cases h0 : s.n = 0
  · rw [if_pos h0]
    unfold Sp.fr
    rw [h0]
    simp [List.range_succ]
    omega
  · rw [if_neg h0] at h ⊢
    unfold Sp.fr
    rw [List.range_succ (n := s.n + 1), List.map_append]
    have := h.2
    unfold Sp.l at this
    simp only [List.map_cons, List.map_nil, List.append_cancel_left_eq, List.cons.injEq, and_true]
    rw [show ((s.n + 1 : Nat) : Int) = s.n + 1 from rfl, Int.mul_add]
    omega
theorem Sp.ext_eq {s : Sp} {r : Str} {x : Int} (h : s.on r x) : (s.ext x).D = .tup [.str s.r, .int s.a, .int x, .int s.f] := by
  unfold Sp.on at h
  unfold Sp.ext
  by_cases h0 : s.n = 0
  · rw [if_pos h0]
    unfold Sp.D Sp.l
    simp only [D.tup.injEq, List.cons.injEq, D.int.injEq, true_and, and_true]
    omega
  · rw [if_neg h0] at h ⊢
    unfold Sp.D Sp.l
    have := h.2
    unfold Sp.l at this
    simp only [D.tup.injEq, List.cons.injEq, D.int.injEq, true_and, and_true]
    rw [show ((s.n + 1 : Nat) : Int) = s.n + 1 from rfl, Int.mul_add]
    omega
theorem Sp.fit_ext {s : Sp} {r : Str} {x : Int} {c : Nat} (h : s.on r x) (g : s.Fit c) : (s.ext x).Fit (c + 1) := by
  unfold Sp.on at h
  unfold Sp.ext
  obtain ⟨g1, g2⟩ := g
  by_cases h0 : s.n = 0
  · rw [if_pos h0] at h ⊢
    exact ⟨h.2, by show 1 ≤ c + 1; omega⟩
  · rw [if_neg h0]
    exact ⟨g1, by show s.n + 1 ≤ c + 1; omega⟩
theorem Fit.step {c : Nat} {ss : List Sp} (h : Fit c ss) (r : Str) (f : Int) (b : Bool) (x : Int) : Fit (c + 1) (Py.step r f b x ss) := by
  have new : ∀ y : Int, Fit (c + 1) (ss ++ [⟨r, x, 1, 0, y⟩]) := by
    intro y
    refine ⟨by rw [List.length_append, List.length_singleton]; exact Nat.succ_le_succ h.1, fun s hs => ?_⟩
    rcases List.mem_append.mp hs with hs | hs
    · exact ⟨(h.2 s hs).1, Nat.le_succ_of_le (h.2 s hs).2⟩
    · rw [List.mem_singleton] at hs
      subst hs
      exact ⟨.inl rfl, Nat.zero_le _⟩
  unfold Py.step
  split
  · rename_i s hs
    split
    · rename_i ho
      have hm := List.mem_of_getLast? hs
      refine ⟨?_, fun t ht => ?_⟩
      · rw [List.length_append, List.length_dropLast, List.length_singleton]
        have := List.length_pos_of_mem hm
        have := h.1
        omega
      · rcases List.mem_append.mp ht with ht | ht
        · have := h.2 t (List.dropLast_subset _ ht)
          exact ⟨this.1, Nat.le_succ_of_le this.2⟩
        · rw [List.mem_singleton] at ht
          subst ht
          exact Sp.fit_ext ho (h.2 s hm)
    · exact new _
  · exact new _
end Py

namespace Py
open PySem PySem.Spec L2
local macro_rules | `(tactic| walk_at "ev") => `(tactic| simp -implicitDefEqProofs (maxDischargeDepth := 12) only [Int.reduceLT, Int.reduceLE, Int.reduceMul, Int.reduceAdd, Int.reduceSub, Int.reduceNeg, Int.reducePow, Int.reduceMod, Int.reduceDiv, Int.reduceEq, Int.reduceNe, Int.reduceToNat, Int.reduceGT, Int.reduceGE, Nat.reduceLT, Nat.reduceLeDiff, Nat.reduceAdd, Nat.reduceMul, Nat.reduceSub, Nat.reduceMod, Nat.reduceDiv, Nat.reducePow, Nat.reduceEqDiff, gt_iff_lt, ge_iff_le, Int.zero_add, Int.mul_one, nabs10, Int.cast_ofNat_Int, List.nil_append, decide_true, decide_false, eq_self, not_true_eq_false, not_false_eq_true, ok_ok, ok_bind, turnQ_nx, turnQ_ct, turnQ_bk, turnQ_rt, List.length_cons, List.length_nil, Nat.zero_add, List.map_cons, List.map_nil, ev_bind, ev_st, ev_var0, ev_varS, ev_lit, ev_bin, ev_un, ev_opt, ev_optB, ev_blK, ev_tBl, ev_tTru, ev_tAnd, ev_tOr, ev_tNot, ev_tTrue, ev_dIf, ev_andK, ev_dAnd, ev_orK, ev_dOr, ev_notK, ev_dNot, ev_args0, ev_args, ev_tup, ev_lst, ev_call, ev_mt, ev_part0, ev_partK, ev_part, ev_sl, ev_dict0, ev_newL, ev_addI, ev_addT, ev_addS, ev_addR, ev_addAt, ev_subI, ev_mulI, ev_mulR, ev_mulAt, ev_divI, ev_modI, ev_powI, ev_negI, ev_iaddI, ev_ltI, ev_leI, ev_gtI, ev_geI, ev_eqI, ev_neI, ev_eqS, ev_neS, ev_eqP, ev_neP, ev_eqR, ev_neR, ev_eqT, ev_neT, ev_is, ev_isn, ev_ixT, ev_ixR, ev_ixRS, ev_ixAtL, ev_ixAtD, ev_ixF, ev_slF, ev_slT, ev_slR, ev_slAt, ev_rev, ev_revAt, ev_truB, ev_truI, ev_truT, ev_truR, ev_truAt, ev_lenT, ev_lenF, ev_lenS, ev_lenR, ev_lenAt, ev_lenAtD, ev_abs, ev_max, ev_min, ev_max3, ev_min3, ev_intI, ev_intB, ev_listF, ev_listT, ev_listR, ev_listAt, ev_tupR, ev_tupAt, ev_sumR, ev_sumAt, ev_optI, ev_allR, ev_allAt, ev_optA, ev_anyR, ev_anyAt, ev_optAny, ev_range, ev_irange, ev_ival, ev_valT, ev_valF, ev_valR, ev_valAt, ev_lc, ev_gtup, ev_each0, ev_each, ev_par2, ev_par2K, ev_gix, ev_ienum, ev_enumR, ev_enumAt, ev_izip, ev_zipR, ev_zipAt, ev_isi, ev_tyDR, ev_tyAt, ev_tyAtD, ev_tyDI, ev_tyDB, ev_tyDS, ev_tyDT, ev_tyDN, ev_isi1, ev_isi2, ev_isi3, ev_isi4, ev_isi5, ev_isi6, ev_isi7, ev_isi8, ev_isi9, ev_isi10, ev_append, ev_appAt, ev_extend, ev_extAt, ev_tyL, ev_lstAt, ev_tyS, ev_gset, ev_asg, ev_expr, ev_ret, ev_sif, ev_aug, ev_seq0, ev_seq, ev_seqN, ev_seqR, ev_seqB, ev_seqC, ev_finN, ev_finR, ev_set0, ev_setS, ev_at0, ev_at1, ev_at2, ev_at3, ev_at4, ev_at5, ev_at6, ev_at7, ev_at8, ev_at9, ev_at10, ev_at11, ev_atM1, List.getElem?_cons_zero, List.getElem?_cons_succ, List.getElem?_concat_length, List.getElem?_append_left, ev_lt1, ev_ltA, decide_eq_true_eq, if_true, if_false, and_self, and_true, true_and, or_true, true_or, or_false, false_or, ite_true, ite_false, Bool.not_true, Bool.not_false, reduceCtorEq,  Bool.false_eq_true, List.getLast?_concat, *])
theorem goes_spec {s : Sp} {c : Nat} (hs : s.Fit c) (hc : c ≤ 1000000) (r : Str) (x : Int) : ∀ S, f_goes_on [s.D, .str r, .int x] S = .ok (.bl (decide (s.on r x))) S := by
  intro S
  obtain ⟨h1, h2⟩ := hs
  obtain ⟨m1, m2⟩ := mul_sgn (n := s.n) h1
  show (b_goes_on [some s.D, some (.str r), some (.int x), none, none, none, none] S).bind finK = _
  unfold b_goes_on Sp.D
  by_cases hr : s.r = r
  · by_cases h0 : s.n = 0
    · have hl : s.l = s.a := by unfold Sp.l; rw [m1.mpr h0]; omega
      have e : decide (s.on r x) = decide ((if x - s.a < 0 then -(x - s.a) else x - s.a) = 1) := by
        rw [decide_eq_decide]
        unfold Sp.on
        rw [if_pos h0]
        split <;> (constructor <;> intro h) <;> first | omega | exact ⟨hr, by omega⟩
      walk_at "ev"
    · have hl : ¬ s.a = s.l := by unfold Sp.l; intro h; exact h0 (m1.mp (by omega))
      have hd : s.l - s.a = s.d * s.n := by unfold Sp.l; omega
      have hn : (if s.d * s.n < 0 then -(s.d * s.n) else s.d * s.n) = s.n := m2
      have hp : 0 < (s.n : Int) ∧ (s.n : Int) < 1073741824 := by omega
      have hq : s.d * s.n / s.n = s.d := Int.mul_ediv_cancel _ (by omega)
      have e : decide (s.on r x) = decide (x - s.l = s.d) := by
        rw [decide_eq_decide]
        unfold Sp.on
        rw [if_neg h0]
        exact ⟨fun h => h.2, fun h => ⟨hr, h⟩⟩
      walk_at "ev"
  · have e : decide (s.on r x) = false := decide_eq_false fun h => hr h.1
    walk_at "ev"
end Py

namespace Py
open PySem PySem.Spec L2
local macro_rules | `(tactic| walk_at "ev") => `(tactic| simp -implicitDefEqProofs (maxDischargeDepth := 12) only [Int.reduceLT, Int.reduceLE, Int.reduceMul, Int.reduceAdd, Int.reduceSub, Int.reduceNeg, Int.reducePow, Int.reduceMod, Int.reduceDiv, Int.reduceEq, Int.reduceNe, Int.reduceToNat, Int.reduceGT, Int.reduceGE, Nat.reduceLT, Nat.reduceLeDiff, Nat.reduceAdd, Nat.reduceMul, Nat.reduceSub, Nat.reduceMod, Nat.reduceDiv, Nat.reducePow, Nat.reduceEqDiff, gt_iff_lt, ge_iff_le, Int.zero_add, Int.mul_one, nabs10, Int.cast_ofNat_Int, List.nil_append, decide_true, decide_false, eq_self, not_true_eq_false, not_false_eq_true, ok_ok, ok_bind, turnQ_nx, turnQ_ct, turnQ_bk, turnQ_rt, List.length_cons, List.length_nil, Nat.zero_add, List.map_cons, List.map_nil, ev_bind, ev_st, ev_var0, ev_varS, ev_lit, ev_bin, ev_un, ev_opt, ev_optB, ev_blK, ev_tBl, ev_tTru, ev_tAnd, ev_tOr, ev_tNot, ev_tTrue, ev_dIf, ev_andK, ev_dAnd, ev_orK, ev_dOr, ev_notK, ev_dNot, ev_args0, ev_args, ev_tup, ev_lst, ev_call, ev_mt, ev_part0, ev_partK, ev_part, ev_sl, ev_dict0, ev_newL, ev_addI, ev_addT, ev_addS, ev_addR, ev_addAt, ev_subI, ev_mulI, ev_mulR, ev_mulAt, ev_divI, ev_modI, ev_powI, ev_negI, ev_iaddI, ev_ltI, ev_leI, ev_gtI, ev_geI, ev_eqI, ev_neI, ev_eqS, ev_neS, ev_eqP, ev_neP, ev_eqR, ev_neR, ev_eqT, ev_neT, ev_is, ev_isn, ev_ixT, ev_ixR, ev_ixRS, ev_ixAtL, ev_ixAtD, ev_ixF, ev_slF, ev_slT, ev_slR, ev_slAt, ev_rev, ev_revAt, ev_truB, ev_truI, ev_truT, ev_truR, ev_truAt, ev_lenT, ev_lenF, ev_lenS, ev_lenR, ev_lenAt, ev_lenAtD, ev_abs, ev_max, ev_min, ev_max3, ev_min3, ev_intI, ev_intB, ev_listF, ev_listT, ev_listR, ev_listAt, ev_tupR, ev_tupAt, ev_sumR, ev_sumAt, ev_optI, ev_allR, ev_allAt, ev_optA, ev_anyR, ev_anyAt, ev_optAny, ev_range, ev_irange, ev_ival, ev_valT, ev_valF, ev_valR, ev_valAt, ev_lc, ev_gtup, ev_each0, ev_each, ev_par2, ev_par2K, ev_gix, ev_ienum, ev_enumR, ev_enumAt, ev_izip, ev_zipR, ev_zipAt, ev_isi, ev_tyDR, ev_tyAt, ev_tyAtD, ev_tyDI, ev_tyDB, ev_tyDS, ev_tyDT, ev_tyDN, ev_isi1, ev_isi2, ev_isi3, ev_isi4, ev_isi5, ev_isi6, ev_isi7, ev_isi8, ev_isi9, ev_isi10, ev_append, ev_appAt, ev_extend, ev_extAt, ev_tyL, ev_lstAt, ev_tyS, ev_gset, ev_asg, ev_expr, ev_ret, ev_sif, ev_aug, ev_seq0, ev_seq, ev_seqN, ev_seqR, ev_seqB, ev_seqC, ev_finN, ev_finR, ev_set0, ev_setS, ev_at0, ev_at1, ev_at2, ev_at3, ev_at4, ev_at5, ev_at6, ev_at7, ev_at8, ev_at9, ev_at10, ev_at11, ev_atM1, List.getElem?_cons_zero, List.getElem?_cons_succ, List.getElem?_concat_length, List.getElem?_append_left, ev_lt1, ev_ltA, decide_eq_true_eq, if_true, if_false, and_self, and_true, true_and, or_true, true_or, or_false, false_or, ite_true, ite_false, Bool.not_true, Bool.not_false, reduceCtorEq,  Bool.false_eq_true, List.getLast?_concat, *])
theorem dropLast_concat {α : Type} {ss : List α} {s : α} (h : ss.getLast? = some s) : ss = ss.dropLast ++ [s] := by
  have hne : ss ≠ [] := by rintro rfl; cases h
  rw [List.getLast?_eq_some_getLast hne] at h
  rw [← Option.some.inj h, List.dropLast_concat_getLast hne]
theorem set_last {α : Type} {ss : List α} {s t : α} (h : ss.getLast? = some s) : ss.set (ss.length - 1) t = ss.dropLast ++ [t] := by
  obtain ⟨p, rfl⟩ : ∃ p, ss = p ++ [s] := ⟨_, dropLast_concat h⟩
  simp
theorem step_on {r : Str} {f x : Int} {ss : List Sp} {s : Sp} (h : ss.getLast? = some s) (ho : s.on r x) : step r f false x ss = ss.dropLast ++ [s.ext x] := by
  unfold step
  rw [h]
  show (if s.on r x then _ else _) = _
  rw [if_pos ho]
theorem step_off {r : Str} {f x : Int} {ss : List Sp} {s : Sp} (h : ss.getLast? = some s) (ho : ¬ s.on r x) : step r f false x ss = ss ++ [⟨r, x, 1, 0, f * 0⟩] := by
  unfold step
  rw [h]
  show (if s.on r x then _ else _) = _
  rw [if_neg ho]
theorem step_new {r : Str} {f x : Int} {ss : List Sp} : step r f true x ss = ss ++ [⟨r, x, 1, 0, f * 1⟩] := by
  unfold step
  split
  · rename_i h _; cases h
  · rfl
theorem step_nil {r : Str} {f x : Int} : step r f false x [] = [⟨r, x, 1, 0, f * 0⟩] := rfl
theorem new_D {r : Str} {x y : Int} : Sp.D ⟨r, x, 1, 0, y⟩ = .tup [.str r, .int x, .int x, .int y] := by
  unfold Sp.D Sp.l
  simp
theorem strips_turn {S1 : Hs} {nc nf : Nat} {cl : D} {r : Str} {f x : Int} {b : Bool} {o7 : Option D} {ss : List Sp} {c : Nat} (hn : S1[nf]? = some (.lst (ss.map Sp.D))) (hf : Fit c ss) (hc : c ≤ 1000000) (hq : -1000000 ≤ f ∧ f ≤ 1000000) :
    Ok (k_strips_of_1 [some (.ref nc), some (.ref nf), some cl, some (.str r), some (.int f), some (.bl b), some (.int x), o7] S1) fun fl S' => S' = S1.set nf (.lst ((step r f b x ss).map Sp.D)) ∧ ∃ o7, fl = .nx [some (.ref nc), some (.ref nf), some cl, some (.str r), some (.int f), some (.bl false), some (.int x), o7] := by
  have hlt := at_lt hn
  have hsz : (ss.map Sp.D).length < sizeLine := by rw [List.length_map, sizeLine_eq]; have := hf.1; omega
  have q1 : -18446744073709551616 < f ∧ f < 18446744073709551616 := by omega
  unfold k_strips_of_1
  cases b with
  | true =>
    rw [step_new, List.map_append, List.map_cons, List.map_nil, new_D]
    walk_at "ev"
    exact ⟨_, rfl⟩
  | false =>
    cases hl : ss.getLast? with
    | none =>
      rw [List.getLast?_eq_none_iff] at hl
      subst hl
      rw [step_nil, List.map_cons, List.map_nil, new_D]
      rw [List.map_nil] at hn hsz
      rw [List.length_nil] at hsz
      walk_at "ev"
      exact ⟨_, rfl⟩
    | some s =>
      have hl2 : (ss.map Sp.D).getLast? = some s.D := by rw [List.getLast?_map, hl]; rfl
      have h0 : (0 : Int) < (ss.map Sp.D).length := by
        rw [List.length_map]
        have := List.length_pos_of_mem (List.mem_of_getLast? hl)
        omega
      have hs := hf.2 s (List.mem_of_getLast? hl)
      have hg := goes_spec hs hc r x
      by_cases ho : s.on r x
      · have e1 := Sp.ext_eq ho
        have e2 : s.D = .tup [.str s.r, .int s.a, .int s.l, .int s.f] := rfl
        have e3 : setIx (.ref nf) (.int (-1)) (.tup [.str r, .int s.a, .int x, .int s.f]) S1 = .ok () (S1.set nf (.lst ((ss.map Sp.D).dropLast ++ [.tup [.str r, .int s.a, .int x, .int s.f]]))) := by
          rw [← set_last hl2]
          refine set_at hn ?_
          unfold ixN
          rw [if_neg (by omega), if_pos (by omega)]
          congr 1
          omega
        have hr : s.r = r := ho.1
        rw [step_on hl ho, List.map_append, List.map_cons, List.map_nil, e1, List.map_dropLast, hr]
        rw [e2, hr] at hl2 hg
        clear e1 e2 hr hs hsz hl
        walk_at "ev"
        exact ⟨_, rfl⟩
      · rw [step_off hl ho, List.map_append, List.map_cons, List.map_nil, new_D]
        walk_at "ev"
        exact ⟨_, rfl⟩

def NumsOf (a b : Int) : List Int := if b < a then (List.range (a - b + 1).toNat).map fun (k : Nat) => a + (k : Int) * (-1) else (List.range (b - a + 1).toNat).map fun (k : Nat) => a + (k : Int) * 1
theorem numsD_of (a b : Int) : numsD a b = (NumsOf a b).map D.int := by
  unfold numsD NumsOf
  split <;> (unfold rgD; rw [List.map_map]; rfl)
/-- a drawn clip, the longer ones too -/
def Wide (d : D) : Prop := ∃ (r : Str) (a b f : Int), d = .tup [.str r, .int a, .int b, .int f] ∧ PyData.strOk r = true ∧ 0 ≤ a ∧ a ≤ 400000 ∧ 0 ≤ b ∧ b ≤ 400000 ∧ b - a ≤ 900 ∧ a - b ≤ 900 ∧ 0 ≤ f ∧ f ≤ 1000
def film : List D → List Sp → List Sp
  | .tup [.str r, .int a, .int b, .int f] :: cs, ss => film cs (inner r f (decide (0 < f)) (NumsOf a b) ss)
  | _ :: _, ss => ss
  | [], ss => ss
theorem NumsOf_length (a b : Int) : (NumsOf a b).length = ((if b < a then a - b else b - a) + 1).toNat := by
  unfold NumsOf
  split <;> simp
theorem nums_spec {r : Str} {a b f : Int} (h1 : 0 ≤ a) (h2 : a ≤ 400000) (h3 : 0 ≤ b) (h4 : b ≤ 400000) : ∀ S, f_numbers_of [.tup [.str r, .int a, .int b, .int f]] S = newL S ((NumsOf a b).map D.int) := by
  intro S
  rw [← numsD_of]
  exact numbers_spec r a b f S (by omega) (by omega) (by omega) (by omega) (by omega) (by omega)
theorem map_get {xs : List Int} {i : Nat} {d : D} (h : (xs.map D.int)[i]? = some d) : ∃ x, d = .int x ∧ i < xs.length ∧ xs.drop i = x :: xs.drop (i + 1) := by
  rw [List.getElem?_map] at h
  cases hx : xs[i]? with
  | none => rw [hx] at h; cases h
  | some x =>
    rw [hx] at h
    obtain ⟨h1, h2⟩ := List.getElem?_eq_some_iff.mp hx
    exact ⟨x, (Option.some.inj h).symm, h1, by rw [List.drop_eq_getElem_cons h1, h2]⟩
def InInv (S : Hs) (nc nf nx : Nat) (cl : D) (r : Str) (f : Int) (xs : List Int) (fin : List Sp) (c : Nat) (i : Nat) (τ : Ev) (S' : Hs) : Prop :=
  ∃ b o6 o7 ss, τ = [some (.ref nc), some (.ref nf), some cl, some (.str r), some (.int f), some (.bl b), o6, o7] ∧ S <+: S' ∧ S'[nf]? = some (.lst (ss.map Sp.D)) ∧ S'[nx]? = some (.lst (xs.map D.int)) ∧ inner r f b (xs.drop i) ss = fin ∧ Fit (c + i) ss
theorem strips_inner {S S0 : Hs} {nc nf nx : Nat} {cl : D} {r : Str} {f : Int} {b : Bool} {o6 o7 : Option D} {xs : List Int} {ss : List Sp} {c : Nat} (hS : S <+: S0) (hn : S.length ≤ nf) (hx : nf ≠ nx) (h1 : S0[nf]? = some (.lst (ss.map Sp.D))) (h2 : S0[nx]? = some (.lst (xs.map D.int))) (h3 : Fit c ss) (h4 : c + xs.length ≤ 1000000) (hq : -1000000 ≤ f ∧ f ≤ 1000000) :
    Ok (forGo [(nx, xs.map D.int)] (gSet 6) k_strips_of_1 (xs.map D.int) [some (.ref nc), some (.ref nf), some cl, some (.str r), some (.int f), some (.bl b), o6, o7] S0) fun fl S' => ∃ o5 o6 o7, fl = .nx [some (.ref nc), some (.ref nf), some cl, some (.str r), some (.int f), o5, o6, o7] ∧ S <+: S' ∧ S'[nf]? = some (.lst ((inner r f b xs ss).map Sp.D)) ∧ Fit (c + xs.length) (inner r f b xs ss) := by
  refine Ok.loop (InInv S nc nf nx cl r f xs (inner r f b xs ss) c) ?_ (fun i τ S' _ h => ?_) ?_ ?_
  · exact ⟨b, o6, o7, ss, rfl, hS, h1, h2, rfl, h3⟩
  · obtain ⟨_, _, _, _, _, _, _, h, _⟩ := h
    exact chk_one h
  · rintro i d τ S1 hd ⟨b', p6, p7, s', rfl, e1, e2, e3, e4, e5⟩
    obtain ⟨x, rfl, hi, hdr⟩ := map_get hd
    rw [hdr] at e4
    refine .ok ?_
    show Ok (k_strips_of_1 [some (.ref nc), some (.ref nf), some cl, some (.str r), some (.int f), some (.bl b'), some (.int x), p7] S1) _
    refine (strips_turn e2 e5 (by omega) hq).mono ?_
    rintro fl S' ⟨rfl, o7', rfl⟩
    exact ⟨_, _, _, _, rfl, pre_set e1 hn _, at_set e2, at_set_ne e3 hx, e4, e5.step r f b' x⟩
  · rintro τ S1 ⟨b', p6, p7, s', rfl, e1, e2, e3, e4, e5⟩
    rw [List.length_map] at e4 e5
    rw [List.drop_length] at e4
    have e4' : s' = inner r f b xs ss := e4
    exact ⟨_, _, _, rfl, e1, e4' ▸ e2, e4' ▸ e5⟩
def OutInv (S : Hs) (nc nf : Nat) (cs : List D) (fin : List Sp) (i : Nat) (τ : Ev) (S' : Hs) : Prop :=
  ∃ o2 o3 o4 o5 o6 o7 ss, τ = [some (.ref nc), some (.ref nf), o2, o3, o4, o5, o6, o7] ∧ S <+: S' ∧ S'[nf]? = some (.lst (ss.map Sp.D)) ∧ film (cs.drop i) ss = fin ∧ Fit (1000 * i) ss
theorem strips_ok {S : Hs} {nc : Nat} {cs : List D} (hc : S[nc]? = some (.lst cs)) (hw : ∀ d ∈ cs, Wide d) (hl : cs.length ≤ 100) : Ok (f_strips_of [.ref nc] S) fun v S' => v = .ref S.length ∧ S <+: S' ∧ S'[S.length]? = some (.lst ((film cs []).map Sp.D)) ∧ Fit (1000 * cs.length) (film cs []) := by
  have hlt := at_lt hc
  show Ok ((b_strips_of [some (.ref nc), none, none, none, none, none, none, none] S).bind finK) _
  unfold b_strips_of w_strips_of_2
  walk_at "ev"
  refine Ok.for ?_
  walk_at "ev"
  refine Ok.loop (OutInv S nc S.length cs (film cs [])) ?_ (fun i τ S' _ h => ?_) ?_ ?_
  · exact ⟨_, _, _, _, _, _, [], rfl, pre_app _ _, at_new _ _, rfl, Nat.zero_le _, nofun⟩
  · obtain ⟨_, _, _, _, _, _, _, _, h, _⟩ := h
    exact chk_one (pre_at h hc)
  · rintro i d τ S1 hd ⟨o2, o3, o4, o5, o6, o7, ss, rfl, e1, e2, e3, e4⟩
    obtain ⟨hi, hdi⟩ := List.getElem?_eq_some_iff.mp hd
    obtain ⟨r, a, b, f, rfl, c1, c2, c3, c4, c5, c6, c7, c8, c9⟩ := hw d (List.mem_of_getElem? hd)
    rw [List.drop_eq_getElem_cons hi, hdi] at e3
    have g1 := nums_spec (r := r) (f := f) c2 c3 c4 c5
    have hlt1 := at_lt e2
    have hln : (NumsOf a b).length ≤ 1000 := by rw [NumsOf_length]; split <;> omega
    have key : Ok (w_strips_of_1 [some (.ref nc), some (.ref S.length), some (.tup [.str r, .int a, .int b, .int f]), some (.str r), some (.int f), some (.bl (decide (0 < f))), o6, o7] S1) (turnQ (OutInv S nc S.length cs (film cs []) (i + 1)) fun f S' => Ok (seqK [sRet (dVar 1)] f S') fun f S' => Ok (finK f S') fun v S' => v = .ref S.length ∧ S <+: S' ∧ S'[S.length]? = some (.lst ((film cs []).map Sp.D)) ∧ Fit (1000 * cs.length) (film cs [])) := by
      unfold w_strips_of_1
      refine Ok.for ?_
      walk_at "ev"
      refine (strips_inner (S := S) (c := 1000 * i) (e1.trans (pre_app _ _)) (Nat.le_refl _) (by omega) (at_app e2) (at_new _ _) e4 (by omega) (by omega)).mono ?_
      rintro fl S' ⟨p5, p6, p7, rfl, q1, q2, q3⟩
      exact ⟨_, _, _, _, _, _, _, rfl, q1, q2, e3, Nat.le_trans q3.1 (by omega), fun s hs => ⟨(q3.2 s hs).1, Nat.le_trans (q3.2 s hs).2 (by omega)⟩⟩
    clear hd hdi e3 hw hc
    unfold k_strips_of_2
    walk_at "ev"
    refine key.mono ?_
    intro fl S' h
    cases fl <;> exact .ok h
  · rintro τ S1 ⟨o2, o3, o4, o5, o6, o7, ss, rfl, e1, e2, e3, e4⟩
    rw [List.drop_length] at e3
    have e3' : ss = film cs [] := e3
    subst e3'
    walk_at "ev"
end Py

namespace Py
open PySem PySem.Spec L2
local macro_rules | `(tactic| walk_at "ev") => `(tactic| simp -implicitDefEqProofs (maxDischargeDepth := 12) only [Int.reduceLT, Int.reduceLE, Int.reduceMul, Int.reduceAdd, Int.reduceSub, Int.reduceNeg, Int.reducePow, Int.reduceMod, Int.reduceDiv, Int.reduceEq, Int.reduceNe, Int.reduceToNat, Int.reduceGT, Int.reduceGE, Nat.reduceLT, Nat.reduceLeDiff, Nat.reduceAdd, Nat.reduceMul, Nat.reduceSub, Nat.reduceMod, Nat.reduceDiv, Nat.reducePow, Nat.reduceEqDiff, gt_iff_lt, ge_iff_le, Int.zero_add, Int.mul_one, nabs10, Int.cast_ofNat_Int, List.nil_append, decide_true, decide_false, eq_self, not_true_eq_false, not_false_eq_true, ok_ok, ok_bind, turnQ_nx, turnQ_ct, turnQ_bk, turnQ_rt, List.length_cons, List.length_nil, Nat.zero_add, List.map_cons, List.map_nil, ev_bind, ev_st, ev_var0, ev_varS, ev_lit, ev_bin, ev_un, ev_opt, ev_optB, ev_blK, ev_tBl, ev_tTru, ev_tAnd, ev_tOr, ev_tNot, ev_tTrue, ev_dIf, ev_andK, ev_dAnd, ev_orK, ev_dOr, ev_notK, ev_dNot, ev_args0, ev_args, ev_tup, ev_lst, ev_call, ev_mt, ev_part0, ev_partK, ev_part, ev_sl, ev_dict0, ev_newL, ev_addI, ev_addT, ev_addS, ev_addR, ev_addAt, ev_subI, ev_mulI, ev_mulR, ev_mulAt, ev_divI, ev_modI, ev_powI, ev_negI, ev_iaddI, ev_ltI, ev_leI, ev_gtI, ev_geI, ev_eqI, ev_neI, ev_eqS, ev_neS, ev_eqP, ev_neP, ev_eqR, ev_neR, ev_eqT, ev_neT, ev_is, ev_isn, ev_ixT, ev_ixR, ev_ixRS, ev_ixAtL, ev_ixAtD, ev_ixF, ev_slF, ev_slT, ev_slR, ev_slAt, ev_rev, ev_revAt, ev_truB, ev_truI, ev_truT, ev_truR, ev_truAt, ev_lenT, ev_lenF, ev_lenS, ev_lenR, ev_lenAt, ev_lenAtD, ev_abs, ev_max, ev_min, ev_max3, ev_min3, ev_intI, ev_intB, ev_listF, ev_listT, ev_listR, ev_listAt, ev_tupR, ev_tupAt, ev_sumR, ev_sumAt, ev_optI, ev_allR, ev_allAt, ev_optA, ev_anyR, ev_anyAt, ev_optAny, ev_range, ev_irange, ev_ival, ev_valT, ev_valF, ev_valR, ev_valAt, ev_lc, ev_gtup, ev_each0, ev_each, ev_par2, ev_par2K, ev_gix, ev_ienum, ev_enumR, ev_enumAt, ev_izip, ev_zipR, ev_zipAt, ev_isi, ev_tyDR, ev_tyAt, ev_tyAtD, ev_tyDI, ev_tyDB, ev_tyDS, ev_tyDT, ev_tyDN, ev_isi1, ev_isi2, ev_isi3, ev_isi4, ev_isi5, ev_isi6, ev_isi7, ev_isi8, ev_isi9, ev_isi10, ev_append, ev_appAt, ev_extend, ev_extAt, ev_tyL, ev_lstAt, ev_tyS, ev_gset, ev_asg, ev_expr, ev_ret, ev_sif, ev_aug, ev_seq0, ev_seq, ev_seqN, ev_seqR, ev_seqB, ev_seqC, ev_finN, ev_finR, ev_set0, ev_setS, ev_at0, ev_at1, ev_at2, ev_at3, ev_at4, ev_at5, ev_at6, ev_at7, ev_at8, ev_at9, ev_at10, ev_at11, ev_atM1, List.getElem?_cons_zero, List.getElem?_cons_succ, List.getElem?_concat_length, List.getElem?_append_left, ev_lt1, ev_ltA, decide_eq_true_eq, if_true, if_false, and_self, and_true, true_and, or_true, true_or, or_false, false_or, ite_true, ite_false, Bool.not_true, Bool.not_false, reduceCtorEq,  Bool.false_eq_true, List.getLast?_concat, *])
/-! ### greed is best -/
structure Mo where
  r : Str
  x : Int
  b : Bool
  deriving Inhabited
section
variable (m : Nat → Mo)
/-- moment e can follow in a strip begun at s -/
def Lk (s e : Nat) : Prop := (m e).b = false ∧ (m e).r = (m s).r ∧ ((m e).x - (m (e - 1)).x = 1 ∨ (m e).x - (m (e - 1)).x = -1) ∧ (s + 1 < e → (m e).x - (m (e - 1)).x = (m (s + 1)).x - (m s).x)
instance (s e : Nat) : Decidable (Lk m s e) := by unfold Lk; infer_instance
/-- where the strip of the moment ahead of e begins, and how many strips there are so far -/
def cg : Nat → Nat × Nat
  | 0 => (0, 0)
  | e + 1 => if 0 < e ∧ Lk m (cg e).1 e then cg e else (e, (cg e).2 + 1)
theorem cg_on {e : Nat} (h0 : 0 < e) (h : Lk m (cg m e).1 e) : cg m (e + 1) = cg m e := by rw [cg, if_pos ⟨h0, h⟩]
theorem cg_off {e : Nat} (h : ¬ (0 < e ∧ Lk m (cg m e).1 e)) : cg m (e + 1) = (e, (cg m e).2 + 1) := by rw [cg, if_neg h]
theorem cg_at (e : Nat) : (cg m (e + 1)).1 < e + 1 ∧ (∀ k, (cg m (e + 1)).1 < k → k < e + 1 → Lk m (cg m (e + 1)).1 k) ∧ (cg m (e + 1)).2 = (cg m (cg m (e + 1)).1).2 + 1 := by
  induction e with
  | zero =>
    rw [cg_off m (by omega)]
    exact ⟨Nat.lt_succ_self _, fun k h1 h2 => absurd h1 (by show ¬ 0 < k; omega), rfl⟩
  | succ e ih =>
    obtain ⟨i1, i2, i3⟩ := ih
    by_cases h : Lk m (cg m (e + 1)).1 (e + 1)
    · rw [cg_on m (by omega : 0 < e + 1) h]
      refine ⟨by omega, fun k h1 h2 => ?_, i3⟩
      by_cases hk : k = e + 1
      · subst hk; exact h
      · exact i2 k h1 (by omega)
    · rw [cg_off m (fun hh => h hh.2)]
      exact ⟨Nat.lt_succ_self _, fun k h1 h2 => absurd h1 (by show ¬ e + 1 < k; omega), rfl⟩
theorem lk_sub {s j e : Nat} (h : ∀ k, s < k → k ≤ e → Lk m s k) (h1 : s ≤ j) (h2 : j < e) : Lk m j e := by
  obtain ⟨a1, a2, a3, a4⟩ := h e (by omega) (Nat.le_refl _)
  refine ⟨a1, ?_, a3, fun h3 => ?_⟩
  · by_cases hj : j = s
    · subst hj; exact a2
    · rw [a2, (h j (by omega) (by omega)).2.1]
  · rw [a4 (by omega)]
    by_cases hj : j = s
    · subst hj; rfl
    · have := (h (j + 1) (by omega) (by omega)).2.2.2 (by omega)
      rw [Nat.add_sub_cancel] at this
      exact this.symm
theorem cg_le {s : Nat} : ∀ (d : Nat), (∀ k, s < k → k < s + d → Lk m s k) → ((cg m (s + d)).2 = (cg m s).2 ∨ ((cg m (s + d)).2 = (cg m s).2 + 1 ∧ s ≤ (cg m (s + d)).1 ∧ (cg m (s + d)).1 < s + d))
  | 0, _ => .inl rfl
  | d + 1, h => by
    have ih := cg_le d (fun k h1 h2 => h k h1 (by omega))
    rw [show s + (d + 1) = s + d + 1 by omega]
    by_cases hl : 0 < s + d ∧ Lk m (cg m (s + d)).1 (s + d)
    · rw [cg_on m hl.1 hl.2]
      rcases ih with ih | ⟨i1, i2, i3⟩
      · exact .inl ih
      · exact .inr ⟨i1, i2, by omega⟩
    · rw [cg_off m hl]
      rcases ih with ih | ⟨i1, i2, i3⟩
      · exact .inr ⟨by show (cg m (s + d)).2 + 1 = _; rw [ih], by show s ≤ s + d; omega, Nat.lt_succ_self _⟩
      · exact absurd ⟨by omega, lk_sub m (s := s) (fun k h1 h2 => h k h1 (by omega)) i2 i3⟩ hl
/-- the strip that greed makes, and the moments so far -/
def RelS (e : Nat) (ss : List Sp) : Prop := ss.length = (cg m e).2 ∧ (0 < e → ss ≠ []) ∧ ∀ s, ss.getLast? = some s → 0 < e ∧ s.r = (m (cg m e).1).r ∧ s.a = (m (cg m e).1).x ∧ s.n + 1 + (cg m e).1 = e ∧ (s.d = 1 ∨ s.d = -1) ∧ s.l = (m (e - 1)).x ∧ (0 < s.n → s.d = (m ((cg m e).1 + 1)).x - (m (cg m e).1).x)
theorem RelS.new {e : Nat} {ss : List Sp} {r : Str} {x y : Int} (h : RelS m e ss) (hm : (m e).r = r ∧ (m e).x = x) (hn : ¬ (0 < e ∧ Lk m (cg m e).1 e)) : RelS m (e + 1) (ss ++ [⟨r, x, 1, 0, y⟩]) := by
  unfold RelS
  rw [cg_off m hn]
  refine ⟨by rw [List.length_append, h.1]; rfl, fun _ => by simp, fun s hs => ?_⟩
  rw [List.getLast?_concat] at hs
  cases hs
  refine ⟨Nat.succ_pos _, hm.1.symm, hm.2.symm, by show 0 + 1 + e = e + 1; omega, .inl rfl, ?_, fun h => absurd h (Nat.lt_irrefl _)⟩
  rw [Nat.add_sub_cancel, hm.2]
  show x + 1 * ((0 : Nat) : Int) = x
  omega
theorem RelS.step {e : Nat} {ss : List Sp} {r : Str} {f x : Int} {b : Bool} (h : RelS m e ss) (hm : m e = ⟨r, x, b⟩) : RelS m (e + 1) (Py.step r f b x ss) := by
  have hr : (m e).r = r ∧ (m e).x = x := by rw [hm]; exact ⟨rfl, rfl⟩
  have hb : (m e).b = b := by rw [hm]
  cases b with
  | true =>
    rw [step_new]
    exact h.new m hr fun hh => by have := hh.2.1; rw [hb] at this; cases this
  | false =>
    cases hl : ss.getLast? with
    | none =>
      rw [List.getLast?_eq_none_iff] at hl
      subst hl
      rw [step_nil]
      exact h.new m hr fun hh => h.2.1 hh.1 rfl
    | some s =>
      obtain ⟨s1, s2, s3, s4, s5, s6, s7⟩ := h.2.2 s hl
      have iff : s.on r x ↔ Lk m (cg m e).1 e := by
        unfold Sp.on Lk
        rw [hb, hr.1, hr.2, s2]
        by_cases h0 : s.n = 0
        · rw [if_pos h0]
          have h1 : e - 1 = (cg m e).1 := by omega
          rw [h1, s3]
          constructor
          · rintro ⟨h2, h3⟩
            exact ⟨rfl, h2.symm, h3, fun h4 => by omega⟩
          · rintro ⟨_, h2, h3, _⟩
            exact ⟨h2.symm, h3⟩
        · rw [if_neg h0]
          have h2 := s7 (by omega)
          rw [s6]
          constructor
          · rintro ⟨h3, h4⟩
            exact ⟨rfl, h3.symm, by rw [h4]; exact s5, fun _ => by rw [h4]; exact h2⟩
          · rintro ⟨_, h3, _, h4⟩
            exact ⟨h3.symm, by rw [h4 (by omega)]; exact h2.symm⟩
      by_cases ho : s.on r x
      · rw [step_on hl ho]
        unfold RelS
        rw [cg_on m s1 (iff.mp ho)]
        have hne : ss ≠ [] := by rintro rfl; cases hl
        refine ⟨?_, fun _ => by simp, fun t ht => ?_⟩
        · rw [← h.1, List.length_append, List.length_dropLast, List.length_singleton]
          have := List.length_pos_iff.mpr hne
          omega
        · rw [List.getLast?_concat] at ht
          cases ht
          have ho2 := ho.2
          have hl' : (s.ext x).l = x := by
            have := Sp.ext_eq ho
            unfold Sp.D at this
            injection this with this
            simp only [List.cons.injEq, D.int.injEq] at this
            exact this.2.2.1
          rw [hl', Nat.add_sub_cancel, hr.2]
          unfold Sp.ext
          by_cases h0 : s.n = 0
          · rw [if_pos h0] at ho2 ⊢
            refine ⟨Nat.succ_pos _, s2, s3, by show 1 + 1 + _ = _; omega, ho2, rfl, fun _ => ?_⟩
            show x - s.a = _
            rw [← s3, show (cg m e).1 + 1 = e by omega, hr.2]
          · rw [if_neg h0]
            exact ⟨Nat.succ_pos _, s2, s3, by show s.n + 1 + 1 + _ = _; omega, s5, rfl, fun _ => s7 (by omega)⟩
      · rw [step_off hl ho]
        exact h.new m hr fun hh => ho (iff.mpr hh.2)
end
end Py

namespace Py
open PySem PySem.Spec L2
local macro_rules | `(tactic| walk_at "ev") => `(tactic| simp -implicitDefEqProofs (maxDischargeDepth := 12) only [Int.reduceLT, Int.reduceLE, Int.reduceMul, Int.reduceAdd, Int.reduceSub, Int.reduceNeg, Int.reducePow, Int.reduceMod, Int.reduceDiv, Int.reduceEq, Int.reduceNe, Int.reduceToNat, Int.reduceGT, Int.reduceGE, Nat.reduceLT, Nat.reduceLeDiff, Nat.reduceAdd, Nat.reduceMul, Nat.reduceSub, Nat.reduceMod, Nat.reduceDiv, Nat.reducePow, Nat.reduceEqDiff, gt_iff_lt, ge_iff_le, Int.zero_add, Int.mul_one, nabs10, Int.cast_ofNat_Int, List.nil_append, decide_true, decide_false, eq_self, not_true_eq_false, not_false_eq_true, ok_ok, ok_bind, turnQ_nx, turnQ_ct, turnQ_bk, turnQ_rt, List.length_cons, List.length_nil, Nat.zero_add, List.map_cons, List.map_nil, ev_bind, ev_st, ev_var0, ev_varS, ev_lit, ev_bin, ev_un, ev_opt, ev_optB, ev_blK, ev_tBl, ev_tTru, ev_tAnd, ev_tOr, ev_tNot, ev_tTrue, ev_dIf, ev_andK, ev_dAnd, ev_orK, ev_dOr, ev_notK, ev_dNot, ev_args0, ev_args, ev_tup, ev_lst, ev_call, ev_mt, ev_part0, ev_partK, ev_part, ev_sl, ev_dict0, ev_newL, ev_addI, ev_addT, ev_addS, ev_addR, ev_addAt, ev_subI, ev_mulI, ev_mulR, ev_mulAt, ev_divI, ev_modI, ev_powI, ev_negI, ev_iaddI, ev_ltI, ev_leI, ev_gtI, ev_geI, ev_eqI, ev_neI, ev_eqS, ev_neS, ev_eqP, ev_neP, ev_eqR, ev_neR, ev_eqT, ev_neT, ev_is, ev_isn, ev_ixT, ev_ixR, ev_ixRS, ev_ixAtL, ev_ixAtD, ev_ixF, ev_slF, ev_slT, ev_slR, ev_slAt, ev_rev, ev_revAt, ev_truB, ev_truI, ev_truT, ev_truR, ev_truAt, ev_lenT, ev_lenF, ev_lenS, ev_lenR, ev_lenAt, ev_lenAtD, ev_abs, ev_max, ev_min, ev_max3, ev_min3, ev_intI, ev_intB, ev_listF, ev_listT, ev_listR, ev_listAt, ev_tupR, ev_tupAt, ev_sumR, ev_sumAt, ev_optI, ev_allR, ev_allAt, ev_optA, ev_anyR, ev_anyAt, ev_optAny, ev_range, ev_irange, ev_ival, ev_valT, ev_valF, ev_valR, ev_valAt, ev_lc, ev_gtup, ev_each0, ev_each, ev_par2, ev_par2K, ev_gix, ev_ienum, ev_enumR, ev_enumAt, ev_izip, ev_zipR, ev_zipAt, ev_isi, ev_tyDR, ev_tyAt, ev_tyAtD, ev_tyDI, ev_tyDB, ev_tyDS, ev_tyDT, ev_tyDN, ev_isi1, ev_isi2, ev_isi3, ev_isi4, ev_isi5, ev_isi6, ev_isi7, ev_isi8, ev_isi9, ev_isi10, ev_append, ev_appAt, ev_extend, ev_extAt, ev_tyL, ev_lstAt, ev_tyS, ev_gset, ev_asg, ev_expr, ev_ret, ev_sif, ev_aug, ev_seq0, ev_seq, ev_seqN, ev_seqR, ev_seqB, ev_seqC, ev_finN, ev_finR, ev_set0, ev_setS, ev_at0, ev_at1, ev_at2, ev_at3, ev_at4, ev_at5, ev_at6, ev_at7, ev_at8, ev_at9, ev_at10, ev_at11, ev_atM1, List.getElem?_cons_zero, List.getElem?_cons_succ, List.getElem?_concat_length, List.getElem?_append_left, ev_lt1, ev_ltA, decide_eq_true_eq, if_true, if_false, and_self, and_true, true_and, or_true, true_or, or_false, false_or, ite_true, ite_false, Bool.not_true, Bool.not_false, reduceCtorEq,  Bool.false_eq_true, List.getLast?_concat, *])
/-! the table of fewest strips -/
section
variable (m : Nat → Mo)
/-- how far a strip can go from s: the first moment that cannot follow, at most n -/
def Far (n s E : Nat) : Prop := s < E ∧ E ≤ n ∧ (∀ k, s < k → k < E → Lk m s k) ∧ (E = n ∨ ¬ Lk m s E)
/-- the table behind all starts below s, and ends up to e of the start s -/
def Tab (n s e : Nat) (F : List Int) : Prop := F.length = n + 1 ∧ F[0]? = some 0 ∧ ∀ k, k ≤ n → ∃ v, F[k]? = some v ∧ ((cg m k).2 : Int) ≤ v ∧ v ≤ n + 1 ∧ ((0 < k ∧ ((cg m k).1 < s ∨ ((cg m k).1 = s ∧ k < e))) → v = (cg m k).2)
theorem cg2_le : ∀ e : Nat, (cg m e).2 ≤ e
  | 0 => Nat.le_refl _
  | e + 1 => by
    have := cg2_le e
    by_cases h : 0 < e ∧ Lk m (cg m e).1 e
    · rw [cg_on m h.1 h.2]; omega
    · rw [cg_off m h]; show (cg m e).2 + 1 ≤ e + 1; omega
theorem Tab.zero (n : Nat) : Tab m n 0 0 (0 :: List.replicate n ((n : Int) + 1)) := by
  refine ⟨by simp, rfl, fun k hk => ?_⟩
  cases k with
  | zero => exact ⟨0, rfl, Int.le_refl _, by omega, fun h => absurd h.1 (Nat.lt_irrefl _)⟩
  | succ k =>
    refine ⟨(n : Int) + 1, ?_, ?_, Int.le_refl _, fun h => ?_⟩
    · rw [List.getElem?_cons_succ, List.getElem?_replicate, if_pos (by omega)]
    · have := cg2_le m (k + 1); omega
    · omega
/-- the value of a start -/
theorem Tab.start {n s e : Nat} {F : List Int} (h : Tab m n s e F) (hs : s ≤ n) : F[s]? = some ((cg m s).2 : Int) := by
  obtain ⟨h1, h2, h3⟩ := h
  cases s with
  | zero => rw [h2]; rfl
  | succ s =>
    obtain ⟨v, e1, e2, e3, e4⟩ := h3 (s + 1) hs
    rw [e1, e4 ⟨Nat.succ_pos _, .inl (cg_at m s).1⟩]
theorem Tab.turn {n s e E : Nat} {F : List Int} {v : Int} (h : Tab m n s e F) (hF : Far m n s E) (h1 : s < e) (h2 : e ≤ n) (h3 : e ≤ E) (hv : F[e]? = some v) : Tab m n s (e + 1) (F.set e (min v (((cg m s).2 : Int) + 1))) := by
  obtain ⟨t1, t2, t3⟩ := h
  refine ⟨by rw [List.length_set]; exact t1, by rw [List.getElem?_set_ne (by omega)]; exact t2, fun k hk => ?_⟩
  by_cases hke : k = e
  · subst hke
    obtain ⟨w, e1, e2, e3, e4⟩ := t3 k hk
    rw [hv] at e1
    cases e1
    have hl := cg_le m (s := s) (k - s) (fun i a b => hF.2.2.1 i a (by omega))
    rw [show s + (k - s) = k by omega] at hl
    refine ⟨_, List.getElem?_set_self (by omega), by rcases hl with hl | hl <;> omega, by omega, fun hh => ?_⟩
    rcases hh.2 with hc | ⟨hc, _⟩
    · have := e4 ⟨hh.1, .inl hc⟩
      rcases hl with hl | hl <;> omega
    · obtain ⟨k', rfl⟩ : ∃ k', k = k' + 1 := ⟨k - 1, by omega⟩
      have := (cg_at m k').2.2
      rw [hc] at this
      omega
  · obtain ⟨w, e1, e2, e3, e4⟩ := t3 k hk
    refine ⟨w, by rw [List.getElem?_set_ne (by omega)]; exact e1, e2, e3, fun hh => e4 ⟨hh.1, ?_⟩⟩
    rcases hh.2 with hc | ⟨hc, hc2⟩
    · exact .inl hc
    · exact .inr ⟨hc, by omega⟩
theorem Tab.first {n s : Nat} {F : List Int} (h : Tab m n s 0 F) : Tab m n s (s + 1) F := by
  refine ⟨h.1, h.2.1, fun k hk => ?_⟩
  obtain ⟨w, e1, e2, e3, e4⟩ := h.2.2 k hk
  refine ⟨w, e1, e2, e3, fun hh => e4 ⟨hh.1, ?_⟩⟩
  rcases hh.2 with hc | ⟨hc, hc2⟩
  · exact .inl hc
  · obtain ⟨k', rfl⟩ : ∃ k', k = k' + 1 := ⟨k - 1, by omega⟩
    have := (cg_at m k').1
    omega
theorem Tab.next {n s E : Nat} {F : List Int} (h : Tab m n s (E + 1) F) (hF : Far m n s E) : Tab m n (s + 1) 0 F := by
  refine ⟨h.1, h.2.1, fun k hk => ?_⟩
  obtain ⟨w, e1, e2, e3, e4⟩ := h.2.2 k hk
  refine ⟨w, e1, e2, e3, fun hh => e4 ⟨hh.1, ?_⟩⟩
  rcases hh.2 with hc | ⟨hc, hc2⟩
  · by_cases hs : (cg m k).1 < s
    · exact .inl hs
    · have hcs : (cg m k).1 = s := by omega
      refine .inr ⟨hcs, ?_⟩
      obtain ⟨k', rfl⟩ : ∃ k', k = k' + 1 := ⟨k - 1, by omega⟩
      rcases hF.2.2.2 with hE | hE
      · omega
      · have := (cg_at m k').2.1 E
        rw [hcs] at this
        have h4 : ¬ E < k' + 1 := fun h5 => hE (this hF.1 h5)
        omega
  · omega
theorem Tab.last {n : Nat} {F : List Int} (h : Tab m n n 0 F) : F.getLast? = some ((cg m n).2 : Int) := by
  rw [List.getLast?_eq_getElem?, h.1, Nat.add_sub_cancel]
  exact h.start m (Nat.le_refl _)
end
end Py

namespace Py
open PySem PySem.Spec L2
local macro_rules | `(tactic| walk_at "ev") => `(tactic| simp -implicitDefEqProofs (maxDischargeDepth := 12) only [Int.reduceLT, Int.reduceLE, Int.reduceMul, Int.reduceAdd, Int.reduceSub, Int.reduceNeg, Int.reducePow, Int.reduceMod, Int.reduceDiv, Int.reduceEq, Int.reduceNe, Int.reduceToNat, Int.reduceGT, Int.reduceGE, Nat.reduceLT, Nat.reduceLeDiff, Nat.reduceAdd, Nat.reduceMul, Nat.reduceSub, Nat.reduceMod, Nat.reduceDiv, Nat.reducePow, Nat.reduceEqDiff, gt_iff_lt, ge_iff_le, Int.zero_add, Int.mul_one, nabs10, Int.cast_ofNat_Int, List.nil_append, decide_true, decide_false, eq_self, not_true_eq_false, not_false_eq_true, ok_ok, ok_bind, turnQ_nx, turnQ_ct, turnQ_bk, turnQ_rt, List.length_cons, List.length_nil, Nat.zero_add, List.map_cons, List.map_nil, ev_bind, ev_st, ev_var0, ev_varS, ev_lit, ev_bin, ev_un, ev_opt, ev_optB, ev_blK, ev_tBl, ev_tTru, ev_tAnd, ev_tOr, ev_tNot, ev_tTrue, ev_dIf, ev_andK, ev_dAnd, ev_orK, ev_dOr, ev_notK, ev_dNot, ev_args0, ev_args, ev_tup, ev_lst, ev_call, ev_mt, ev_part0, ev_partK, ev_part, ev_sl, ev_dict0, ev_newL, ev_addI, ev_addT, ev_addS, ev_addR, ev_addAt, ev_subI, ev_mulI, ev_mulR, ev_mulAt, ev_divI, ev_modI, ev_powI, ev_negI, ev_iaddI, ev_ltI, ev_leI, ev_gtI, ev_geI, ev_eqI, ev_neI, ev_eqS, ev_neS, ev_eqP, ev_neP, ev_eqR, ev_neR, ev_eqT, ev_neT, ev_is, ev_isn, ev_ixT, ev_ixR, ev_ixRS, ev_ixAtL, ev_ixAtD, ev_ixF, ev_slF, ev_slT, ev_slR, ev_slAt, ev_rev, ev_revAt, ev_truB, ev_truI, ev_truT, ev_truR, ev_truAt, ev_lenT, ev_lenF, ev_lenS, ev_lenR, ev_lenAt, ev_lenAtD, ev_abs, ev_max, ev_min, ev_max3, ev_min3, ev_intI, ev_intB, ev_listF, ev_listT, ev_listR, ev_listAt, ev_tupR, ev_tupAt, ev_sumR, ev_sumAt, ev_optI, ev_allR, ev_allAt, ev_optA, ev_anyR, ev_anyAt, ev_optAny, ev_range, ev_irange, ev_ival, ev_valT, ev_valF, ev_valR, ev_valAt, ev_lc, ev_gtup, ev_each0, ev_each, ev_par2, ev_par2K, ev_gix, ev_ienum, ev_enumR, ev_enumAt, ev_izip, ev_zipR, ev_zipAt, ev_isi, ev_tyDR, ev_tyAt, ev_tyAtD, ev_tyDI, ev_tyDB, ev_tyDS, ev_tyDT, ev_tyDN, ev_isi1, ev_isi2, ev_isi3, ev_isi4, ev_isi5, ev_isi6, ev_isi7, ev_isi8, ev_isi9, ev_isi10, ev_append, ev_appAt, ev_extend, ev_extAt, ev_tyL, ev_lstAt, ev_tyS, ev_gset, ev_asg, ev_expr, ev_ret, ev_sif, ev_aug, ev_seq0, ev_seq, ev_seqN, ev_seqR, ev_seqB, ev_seqC, ev_finN, ev_finR, ev_set0, ev_setS, ev_at0, ev_at1, ev_at2, ev_at3, ev_at4, ev_at5, ev_at6, ev_at7, ev_at8, ev_at9, ev_at10, ev_at11, ev_atM1, List.getElem?_cons_zero, List.getElem?_cons_succ, List.getElem?_concat_length, List.getElem?_append_left, ev_lt1, ev_ltA, decide_eq_true_eq, if_true, if_false, and_self, and_true, true_and, or_true, true_or, or_false, false_or, ite_true, ite_false, Bool.not_true, Bool.not_false, reduceCtorEq,  Bool.false_eq_true, List.getLast?_concat, *])
def Mo.D (o : Mo) : Py.D := .tup [.str o.r, .int o.x, .bl o.b]
def momsX (r : Str) (b : Bool) : List Int → List Mo
  | [] => []
  | x :: t => ⟨r, x, b⟩ :: momsX r false t
def moms : List Py.D → List Mo
  | .tup [.str r, .int a, .int b, .int f] :: cs => momsX r (decide (0 < f)) (NumsOf a b) ++ moms cs
  | _ :: _ => []
  | [] => []
theorem momsX_len (r : Str) : ∀ (xs : List Int) (b : Bool), (momsX r b xs).length = xs.length
  | [], _ => rfl
  | x :: xs, b => by rw [momsX, List.length_cons, momsX_len r xs, List.length_cons]
theorem momsX_get (r : Str) : ∀ (xs : List Int) (b : Bool) (i : Nat) (x : Int), xs[i]? = some x → (momsX r b xs)[i]? = some ⟨r, x, decide (i = 0) && b⟩
  | x :: xs, b, 0, _, h => by cases h; rfl
  | x :: xs, b, i + 1, y, h => by
    rw [momsX, List.getElem?_cons_succ, momsX_get r xs false i y h]
    simp
theorem inner_rel (m : Nat → Mo) (r : Str) (f : Int) : ∀ (xs : List Int) (b : Bool) (e : Nat) (ss : List Sp), RelS m e ss → (∀ i o, (momsX r b xs)[i]? = some o → m (e + i) = o) → RelS m (e + xs.length) (inner r f b xs ss)
  | [], b, e, ss, h, _ => h
  | x :: xs, b, e, ss, h, hm => by
    rw [List.length_cons, show e + (xs.length + 1) = e + 1 + xs.length by omega]
    exact inner_rel m r f xs false (e + 1) _ (h.step m (hm 0 _ rfl)) (fun i o ho => by
      have := hm (i + 1) o ho
      rwa [show e + (i + 1) = e + 1 + i by omega] at this)
theorem film_rel (m : Nat → Mo) : ∀ (cs : List Py.D) (e : Nat) (ss : List Sp), (∀ d ∈ cs, Wide d) → RelS m e ss → (∀ i o, (moms cs)[i]? = some o → m (e + i) = o) → RelS m (e + (moms cs).length) (film cs ss)
  | [], e, ss, _, h, _ => h
  | d :: cs, e, ss, hw, h, hm => by
    obtain ⟨r, a, b, f, rfl, _⟩ := hw d List.mem_cons_self
    rw [moms] at hm ⊢
    rw [film, List.length_append, momsX_len, ← Nat.add_assoc]
    refine film_rel m cs (e + (NumsOf a b).length) _ (fun g hg => hw g (List.mem_cons_of_mem _ hg)) (inner_rel m r f _ _ e ss h fun i o ho => hm i o ?_) (fun i o ho => ?_)
    · rw [List.getElem?_append_left (List.getElem?_eq_some_iff.mp ho).1]; exact ho
    · rw [Nat.add_assoc]
      refine hm _ o ?_
      rw [List.getElem?_append_right (by rw [momsX_len]; omega), momsX_len, Nat.add_sub_cancel_left]
      exact ho
theorem film_len (cs : List Py.D) (hw : ∀ d ∈ cs, Wide d) : (film cs []).length = (cg (fun i => (moms cs).getD i default) (moms cs).length).2 := by
  have := film_rel (fun i => (moms cs).getD i default) cs 0 [] hw ⟨rfl, fun h => absurd h (Nat.lt_irrefl _), nofun⟩ (fun i o ho => by
    show (moms cs).getD (0 + i) default = o
    rw [Nat.zero_add, List.getD_eq_getElem?_getD, ho]; rfl)
  rw [Nat.zero_add] at this
  exact this.1
end Py

namespace Py
open PySem PySem.Spec L2
local macro_rules | `(tactic| walk_at "ev") => `(tactic| simp -implicitDefEqProofs (maxDischargeDepth := 12) only [Int.reduceLT, Int.reduceLE, Int.reduceMul, Int.reduceAdd, Int.reduceSub, Int.reduceNeg, Int.reducePow, Int.reduceMod, Int.reduceDiv, Int.reduceEq, Int.reduceNe, Int.reduceToNat, Int.reduceGT, Int.reduceGE, Nat.reduceLT, Nat.reduceLeDiff, Nat.reduceAdd, Nat.reduceMul, Nat.reduceSub, Nat.reduceMod, Nat.reduceDiv, Nat.reducePow, Nat.reduceEqDiff, gt_iff_lt, ge_iff_le, Int.zero_add, Int.mul_one, nabs10, Int.cast_ofNat_Int, List.nil_append, decide_true, decide_false, eq_self, not_true_eq_false, not_false_eq_true, ok_ok, ok_bind, turnQ_nx, turnQ_ct, turnQ_bk, turnQ_rt, List.length_cons, List.length_nil, Nat.zero_add, List.map_cons, List.map_nil, ev_bind, ev_st, ev_var0, ev_varS, ev_lit, ev_bin, ev_un, ev_opt, ev_optB, ev_blK, ev_tBl, ev_tTru, ev_tAnd, ev_tOr, ev_tNot, ev_tTrue, ev_dIf, ev_andK, ev_dAnd, ev_orK, ev_dOr, ev_notK, ev_dNot, ev_args0, ev_args, ev_tup, ev_lst, ev_call, ev_mt, ev_part0, ev_partK, ev_part, ev_sl, ev_dict0, ev_newL, ev_addI, ev_addT, ev_addS, ev_addR, ev_addAt, ev_subI, ev_mulI, ev_mulR, ev_mulAt, ev_divI, ev_modI, ev_powI, ev_negI, ev_iaddI, ev_ltI, ev_leI, ev_gtI, ev_geI, ev_eqI, ev_neI, ev_eqS, ev_neS, ev_eqP, ev_neP, ev_eqR, ev_neR, ev_eqT, ev_neT, ev_is, ev_isn, ev_ixT, ev_ixR, ev_ixRS, ev_ixAtL, ev_ixAtD, ev_ixF, ev_slF, ev_slT, ev_slR, ev_slAt, ev_rev, ev_revAt, ev_truB, ev_truI, ev_truT, ev_truR, ev_truAt, ev_lenT, ev_lenF, ev_lenS, ev_lenR, ev_lenAt, ev_lenAtD, ev_abs, ev_max, ev_min, ev_max3, ev_min3, ev_intI, ev_intB, ev_listF, ev_listT, ev_listR, ev_listAt, ev_tupR, ev_tupAt, ev_sumR, ev_sumAt, ev_optI, ev_allR, ev_allAt, ev_optA, ev_anyR, ev_anyAt, ev_optAny, ev_range, ev_irange, ev_ival, ev_valT, ev_valF, ev_valR, ev_valAt, ev_lc, ev_gtup, ev_each0, ev_each, ev_par2, ev_par2K, ev_gix, ev_ienum, ev_enumR, ev_enumAt, ev_izip, ev_zipR, ev_zipAt, ev_isi, ev_tyDR, ev_tyAt, ev_tyAtD, ev_tyDI, ev_tyDB, ev_tyDS, ev_tyDT, ev_tyDN, ev_isi1, ev_isi2, ev_isi3, ev_isi4, ev_isi5, ev_isi6, ev_isi7, ev_isi8, ev_isi9, ev_isi10, ev_append, ev_appAt, ev_extend, ev_extAt, ev_tyL, ev_lstAt, ev_tyS, ev_gset, ev_asg, ev_expr, ev_ret, ev_sif, ev_aug, ev_seq0, ev_seq, ev_seqN, ev_seqR, ev_seqB, ev_seqC, ev_finN, ev_finR, ev_set0, ev_setS, ev_at0, ev_at1, ev_at2, ev_at3, ev_at4, ev_at5, ev_at6, ev_at7, ev_at8, ev_at9, ev_at10, ev_at11, ev_atM1, List.getElem?_cons_zero, List.getElem?_cons_succ, List.getElem?_concat_length, List.getElem?_append_left, ev_lt1, ev_ltA, decide_eq_true_eq, if_true, if_false, and_self, and_true, true_and, or_true, true_or, or_false, false_or, ite_true, ite_false, Bool.not_true, Bool.not_false, reduceCtorEq,  Bool.false_eq_true, List.getLast?_concat, *])
theorem frm20 {r : Str} {a b f : Int} (h1 : 0 ≤ a) (h2 : a ≤ 400000) (h3 : 0 ≤ b) (h4 : b ≤ 400000) : ∀ S, f__law_frames [.tup [.str r, .int a, .int b, .int f]] S = newL S ((NumsOf a b).map D.int) := fun S => by
  rw [← numsD_of]; exact frames_spec r a b f S (by omega) (by omega) (by omega) (by omega) (by omega) (by omega)
theorem moms_inner {S S0 : Hs} {nc nf nx : Nat} {r : Str} {a b f : Int} {o3 o4 : Option D} {xs : List Int} {base : List D} (hS : S <+: S0) (hn : S.length ≤ nf) (hx : nf ≠ nx) (h1 : S0[nf]? = some (.lst base)) (h2 : S0[nx]? = some (.lst (xs.map D.int))) (h4 : base.length + xs.length ≤ 1000000) :
    Ok (forGo [(nx, xs.map D.int)] (gTupleN 2 [gSet 3, gSet 4]) k__law_moments_1 (enumD 0 (xs.map D.int)) [some (.ref nc), some (.ref nf), some (.tup [.str r, .int a, .int b, .int f]), o3, o4] S0) fun fl S' => ∃ o3 o4, fl = .nx [some (.ref nc), some (.ref nf), some (.tup [.str r, .int a, .int b, .int f]), o3, o4] ∧ S <+: S' ∧ S'[nf]? = some (.lst (base ++ (momsX r (decide (0 < f)) xs).map Mo.D)) := by
  have en : ∀ (ds : List D) (k i : Nat) (d : D), (enumD k ds)[i]? = some d → ∃ e, ds[i]? = some e ∧ d = .tup [.int ((k + i : Nat) : Int), e] := by
    intro ds
    induction ds with
    | nil => intro k i d h; cases h
    | cons e ds ih =>
      intro k i d h
      cases i with
      | zero => cases h; exact ⟨e, rfl, rfl⟩
      | succ i =>
        obtain ⟨e', h1, h2⟩ := ih (k + 1) i d h
        exact ⟨e', h1, by rw [h2, show k + 1 + i = k + (i + 1) by omega]⟩
  have el : ∀ (ds : List D) (k : Nat), (enumD k ds).length = ds.length := by
    intro ds
    induction ds with
    | nil => intro k; rfl
    | cons e ds ih => intro k; show (enumD (k + 1) ds).length + 1 = _; rw [ih]; rfl
  refine Ok.loop (fun i τ S' => (∃ o3 o4, τ = [some (.ref nc), some (.ref nf), some (.tup [.str r, .int a, .int b, .int f]), o3, o4]) ∧ S <+: S' ∧ S'[nf]? = some (.lst (base ++ ((momsX r (decide (0 < f)) xs).map Mo.D).take i)) ∧ S'[nx]? = some (.lst (xs.map D.int))) ?_ (fun i τ S' _ h => chk_one h.2.2.2) ?_ ?_
  · exact ⟨⟨_, _, rfl⟩, hS, by simpa using h1, h2⟩
  · rintro i d τ S1 hd ⟨⟨p3, p4, rfl⟩, e1, e2, e3⟩
    obtain ⟨e, he, rfl⟩ := en _ _ _ _ hd
    obtain ⟨x, rfl, hi, _⟩ := map_get he
    have hxi : xs[i]? = some x := by
      rw [List.getElem?_map] at he
      cases hh : xs[i]? with
      | none => rw [hh] at he; cases he
      | some y => rw [hh] at he; cases he; rfl
    have hlt := at_lt e2
    have hsz : (base ++ ((momsX r (decide (0 < f)) xs).map Mo.D).take i).length < sizeLine := by
      rw [List.length_append, List.length_take, List.length_map, momsX_len, sizeLine_eq]; omega
    have hg : ((momsX r (decide (0 < f)) xs).map Mo.D).take (i + 1) = ((momsX r (decide (0 < f)) xs).map Mo.D).take i ++ [.tup [.str r, .int x, .bl (decide (i = 0) && decide (0 < f))]] := by
      rw [List.take_succ, List.getElem?_map, momsX_get r xs _ i x hxi]
      rfl
    rw [hg, ← List.append_assoc]
    refine .ok ?_
    show Ok (k__law_moments_1 [some (.ref nc), some (.ref nf), some (.tup [.str r, .int a, .int b, .int f]), some (.int ((0 + i : Nat) : Int)), some (.int x)] S1) _
    rw [Nat.zero_add]
    clear hd he hxi en el hg
    unfold k__law_moments_1
    by_cases h0 : i = 0
    · subst h0
      rw [decide_eq_true (rfl : (0 : Nat) = 0), Bool.true_and]
      walk_at "ev"
      exact ⟨⟨_, _, rfl⟩, pre_set e1 hn _, at_set e2, at_set_ne e3 hx⟩
    · have h0' : ¬ (i : Int) = 0 := by omega
      rw [decide_eq_false h0, Bool.false_and]
      walk_at "ev"
      exact ⟨⟨_, _, rfl⟩, pre_set e1 hn _, at_set e2, at_set_ne e3 hx⟩
  · rintro τ S1 ⟨⟨p3, p4, rfl⟩, e1, e2, e3⟩
    rw [el, List.length_map, ← momsX_len r xs (decide (0 < f)), ← List.length_map (f := Mo.D), List.take_length] at e2
    exact ⟨_, _, rfl, e1, e2⟩
theorem law_moms {S : Hs} {nc : Nat} {cs : List D} (hc : S[nc]? = some (.lst cs)) (hw : ∀ d ∈ cs, Wide d) (hl : cs.length ≤ 100) : Ok (f__law_moments [.ref nc] S) fun v S' => v = .ref S.length ∧ S <+: S' ∧ S'[S.length]? = some (.lst ((moms cs).map Mo.D)) ∧ (moms cs).length ≤ 100000 := by
  have hlt := at_lt hc
  show Ok ((b__law_moments [some (.ref nc), none, none, none, none] S).bind finK) _
  unfold b__law_moments w__law_moments_2
  walk_at "ev"
  refine Ok.for ?_
  walk_at "ev"
  refine Ok.loop (fun i τ S' => (∃ o2 o3 o4, τ = [some (.ref nc), some (.ref S.length), o2, o3, o4]) ∧ S <+: S' ∧ ∃ base, S'[S.length]? = some (.lst base) ∧ base ++ (moms (cs.drop i)).map Mo.D = (moms cs).map Mo.D ∧ base.length ≤ 1000 * i) ?_ (fun i τ S' _ h => chk_one (pre_at h.2.1 hc)) ?_ ?_
  · exact ⟨⟨_, _, _, rfl⟩, pre_app _ _, [], at_new _ _, rfl, Nat.zero_le _⟩
  · rintro i d τ S1 hd ⟨⟨o2, o3, o4, rfl⟩, e1, base, e2, e3, e4⟩
    obtain ⟨hi, hdi⟩ := List.getElem?_eq_some_iff.mp hd
    obtain ⟨r, a, b, f, rfl, c1, c2, c3, c4, c5, c6, c7, c8, c9⟩ := hw d (List.mem_of_getElem? hd)
    rw [List.drop_eq_getElem_cons hi, hdi, moms, List.map_append, ← List.append_assoc] at e3
    have g2 := frm20 (r := r) (f := f) c2 c3 c4 c5
    have hln : (NumsOf a b).length ≤ 1000 := by rw [NumsOf_length]; split <;> omega
    have hlt1 := at_lt e2
    refine .ok ?_
    show Ok (k__law_moments_2 [some (.ref nc), some (.ref S.length), some (.tup [.str r, .int a, .int b, .int f]), o3, o4] S1) _
    clear hd hdi hc
    unfold k__law_moments_2 w__law_moments_1
    rw [ok_seq]
    refine Ok.for ?_
    walk_at "ev"
    refine (moms_inner (S := S) (e1.trans (pre_app _ _)) (Nat.le_refl _) (by omega) (at_app e2) (at_new _ _) (by omega)).mono ?_
    rintro fl S' ⟨p3, p4, rfl, q1, q2⟩
    exact .ok ⟨⟨_, _, _, rfl⟩, q1, _, q2, e3, by rw [List.length_append, List.length_map, momsX_len]; omega⟩
  · rintro τ S1 ⟨⟨o2, o3, o4, rfl⟩, e1, base, e2, e3, e4⟩
    rw [List.drop_length, moms, List.map_nil, List.append_nil] at e3
    subst e3
    rw [List.length_map] at e4
    walk_at "ev"
    omega
def mAt (ms : List Mo) (i : Nat) : Mo := ms.getD i default
theorem mo_at {ms : List Mo} {i : Nat} (h : i < ms.length) : atI (ms.map Mo.D) (i : Int) = some (.tup [.str (mAt ms i).r, .int (mAt ms i).x, .bl (mAt ms i).b]) := by
  rw [ev_atN, List.getElem?_map, List.getElem?_eq_getElem h]
  unfold mAt
  rw [List.getD_eq_getElem?_getD, List.getElem?_eq_getElem h]
  rfl
def FarQ (S : Hs) (nm s n : Nat) (ms : List Mo) (fl : Fl) (S' : Hs) : Prop := S' = S ∧ ∃ (E : Nat) (o3 o4 o5 o6 : Option D), fl = .nx [some (.ref nm), some (.int s), some (.int E), o3, o4, o5, o6] ∧ Far (mAt ms) n s E
def FarI (S : Hs) (nm s : Nat) (ms : List Mo) (τ : Ev) (S' : Hs) : Prop := S' = S ∧ ∃ (e : Nat) (o3 o4 o5 o6 : Option D), τ = [some (.ref nm), some (.int s), some (.int e), o3, o4, o5, o6] ∧ s < e ∧ e ≤ ms.length ∧ ∀ k, s < k → k < e → Lk (mAt ms) s k
def farM (n : Nat) (τ : Ev) (S : Hs) : Nat := match τ with
  | [_, _, some (.int e), _, _, _, _] => n - e.toNat
  | _ => 0
theorem far_turn {S : Hs} {nm s e : Nat} {ms : List Mo} {o3 o4 o5 o6 : Option D} (hn : S[nm]? = some (.lst (ms.map Mo.D))) (h1 : s < e) (h2 : e < ms.length) (h3 : ∀ k, s < k → k < e → Lk (mAt ms) s k) :
    Ok (k__law_far_1 [some (.ref nm), some (.int s), some (.int e), o3, o4, o5, o6] S) (turnQ (fun τ2 S2 => FarI S nm s ms τ2 S2 ∧ farM ms.length τ2 S2 < ms.length - e) (FarQ S nm s ms.length ms)) := by
  have hlt := at_lt hn
  have a1 := mo_at h2
  have a2 : atI (ms.map Mo.D) ((e : Int) - 1) = some (.tup [.str (mAt ms (e - 1)).r, .int (mAt ms (e - 1)).x, .bl (mAt ms (e - 1)).b]) := by
    rw [show (e : Int) - 1 = ((e - 1 : Nat) : Int) by omega]; exact mo_at (by omega)
  have a3 := mo_at (ms := ms) (i := s) (by omega)
  have a4 : atI (ms.map Mo.D) ((s : Int) + 1) = some (.tup [.str (mAt ms (s + 1)).r, .int (mAt ms (s + 1)).x, .bl (mAt ms (s + 1)).b]) := mo_at (ms := ms) (i := s + 1) (by omega)
  have brk : ¬ Lk (mAt ms) s e → ∀ o3 o4 o5 o6, FarQ S nm s ms.length ms (.nx [some (.ref nm), some (.int s), some (.int e), o3, o4, o5, o6]) S := fun h _ _ _ _ => ⟨rfl, e, _, _, _, _, rfl, h1, by omega, h3, .inr h⟩
  have go : Lk (mAt ms) s e → ∀ o3 o4 o5 o6, FarI S nm s ms [some (.ref nm), some (.int s), some (.int ((e : Int) + 1)), o3, o4, o5, o6] S ∧ farM ms.length [some (.ref nm), some (.int s), some (.int ((e : Int) + 1)), o3, o4, o5, o6] S < ms.length - e := fun h _ _ _ _ => by
    refine ⟨⟨rfl, e + 1, _, _, _, _, rfl, by omega, by omega, fun k k1 k2 => ?_⟩, ?_⟩
    · by_cases hk : k = e
      · subst hk; exact h
      · exact h3 k k1 (by omega)
    · show ms.length - ((e : Int) + 1).toNat < _
      omega
  unfold Lk at brk go
  generalize (mAt ms e).r = re at *
  generalize (mAt ms e).x = xe at *
  generalize (mAt ms e).b = be at *
  generalize (mAt ms (e - 1)).x = xp at *
  generalize (mAt ms s).r = rs at *
  generalize (mAt ms s).x = xs at *
  generalize (mAt ms (s + 1)).x = xn at *
  clear h3 h1 h2
  have eb : ∀ τ S, sBrk τ S = .ok (.bk τ) S := fun _ _ => rfl
  unfold k__law_far_1
  cases be with
  | true =>
    have b1 := brk (fun h => Bool.noConfusion h.1)
    clear brk go
    walk_at "ev"
  | false =>
    by_cases hr : re = rs
    · by_cases hw : (if xe - xp < 0 then -(xe - xp) else xe - xp) = 1
      · have hw2 : xe - xp = 1 ∨ xe - xp = -1 := by split at hw <;> omega
        by_cases hs : (s : Int) + 1 < (e : Int)
        · by_cases hd : xe - xp = xn - xs
          · have b1 := go ⟨rfl, hr, hw2, fun _ => hd⟩
            have hw' := hw
            rw [hd] at hw'
            clear brk go hw2
            walk_at "ev"
          · have b1 := brk (fun h => hd (h.2.2.2 (by omega)))
            clear brk go hw2
            walk_at "ev"
        · have b1 := go ⟨rfl, hr, hw2, fun h => absurd (show (s : Int) + 1 < (e : Int) by omega) hs⟩
          clear brk go hw2
          walk_at "ev"
      · have b1 := brk (fun h => hw (by have := h.2.2.1; split <;> omega))
        clear brk go
        walk_at "ev"
    · have b1 := brk (fun h => hr h.2.1)
      clear brk go
      walk_at "ev"
theorem far_ok {S : Hs} {nm s : Nat} {ms : List Mo} (hn : S[nm]? = some (.lst (ms.map Mo.D))) (hs : s < ms.length) (hb : ms.length ≤ 100000) : Ok (f__law_far [.ref nm, .int s] S) fun v S' => S' = S ∧ ∃ E : Nat, v = .int E ∧ Far (mAt ms) ms.length s E := by
  have hlen : ((ms.map Mo.D).length : Int) = (ms.length : Int) := by rw [List.length_map]
  have hlt := at_lt hn
  have key : Ok (w__law_far_1 [some (.ref nm), some (.int s), some (.int ((s : Int) + 1)), none, none, none, none] S) (FarQ S nm s ms.length ms) := by
    unfold w__law_far_1
    refine Ok.while (FarI S nm s ms) (farM ms.length) ⟨rfl, s + 1, _, _, _, _, rfl, by omega, by omega, fun k k1 k2 => by omega⟩ ?_ ?_
    · show ms.length - ((s : Int) + 1).toNat < 16777216
      omega
    · rintro τ S1 ⟨rfl, e, o3, o4, o5, o6, rfl, h1, h2, h3⟩
      have fm : farM ms.length [some (.ref nm), some (.int s), some (.int e), o3, o4, o5, o6] S1 = ms.length - e := rfl
      by_cases he : (e : Int) < (ms.length : Int)
      · have ft := far_turn (o3 := o3) (o4 := o4) (o5 := o5) (o6 := o6) hn h1 (by omega) h3
        rw [fm]
        clear h3 fm
        walk_at "ev"
      · have fq : FarQ S1 nm s ms.length ms (.nx [some (.ref nm), some (.int s), some (.int e), o3, o4, o5, o6]) S1 := ⟨rfl, e, _, _, _, _, rfl, h1, h2, h3, .inl (by omega)⟩
        clear h3 fm
        walk_at "ev"
  have k2 := key.mono (Q' := fun fl S' => Ok (seqK [sRet (dVar 2)] fl S') fun fl S' => Ok (finK fl S') fun v S' => S' = S ∧ ∃ E : Nat, v = .int E ∧ Far (mAt ms) ms.length s E) (by
    rintro fl S' ⟨rfl, E, o3, o4, o5, o6, rfl, h⟩
    exact .ok (.ok ⟨rfl, E, rfl, h⟩))
  show Ok ((b__law_far [some (.ref nm), some (.int s), none, none, none, none, none] S).bind finK) _
  clear key
  unfold b__law_far
  walk_at "ev"
end Py

namespace Py
open PySem PySem.Spec L2
local macro_rules | `(tactic| walk_at "ev") => `(tactic| simp -implicitDefEqProofs (maxDischargeDepth := 12) only [Int.reduceLT, Int.reduceLE, Int.reduceMul, Int.reduceAdd, Int.reduceSub, Int.reduceNeg, Int.reducePow, Int.reduceMod, Int.reduceDiv, Int.reduceEq, Int.reduceNe, Int.reduceToNat, Int.reduceGT, Int.reduceGE, Nat.reduceLT, Nat.reduceLeDiff, Nat.reduceAdd, Nat.reduceMul, Nat.reduceSub, Nat.reduceMod, Nat.reduceDiv, Nat.reducePow, Nat.reduceEqDiff, gt_iff_lt, ge_iff_le, Int.zero_add, Int.mul_one, nabs10, Int.cast_ofNat_Int, List.nil_append, decide_true, decide_false, eq_self, not_true_eq_false, not_false_eq_true, ok_ok, ok_bind, turnQ_nx, turnQ_ct, turnQ_bk, turnQ_rt, List.length_cons, List.length_nil, Nat.zero_add, List.map_cons, List.map_nil, ev_bind, ev_st, ev_var0, ev_varS, ev_lit, ev_bin, ev_un, ev_opt, ev_optB, ev_blK, ev_tBl, ev_tTru, ev_tAnd, ev_tOr, ev_tNot, ev_tTrue, ev_dIf, ev_andK, ev_dAnd, ev_orK, ev_dOr, ev_notK, ev_dNot, ev_args0, ev_args, ev_tup, ev_lst, ev_call, ev_mt, ev_part0, ev_partK, ev_part, ev_sl, ev_dict0, ev_newL, ev_addI, ev_addT, ev_addS, ev_addR, ev_addAt, ev_subI, ev_mulI, ev_mulR, ev_mulAt, ev_divI, ev_modI, ev_powI, ev_negI, ev_iaddI, ev_ltI, ev_leI, ev_gtI, ev_geI, ev_eqI, ev_neI, ev_eqS, ev_neS, ev_eqP, ev_neP, ev_eqR, ev_neR, ev_eqT, ev_neT, ev_is, ev_isn, ev_ixT, ev_ixR, ev_ixRS, ev_ixAtL, ev_ixAtD, ev_ixF, ev_slF, ev_slT, ev_slR, ev_slAt, ev_rev, ev_revAt, ev_truB, ev_truI, ev_truT, ev_truR, ev_truAt, ev_lenT, ev_lenF, ev_lenS, ev_lenR, ev_lenAt, ev_lenAtD, ev_abs, ev_max, ev_min, ev_max3, ev_min3, ev_intI, ev_intB, ev_listF, ev_listT, ev_listR, ev_listAt, ev_tupR, ev_tupAt, ev_sumR, ev_sumAt, ev_optI, ev_allR, ev_allAt, ev_optA, ev_anyR, ev_anyAt, ev_optAny, ev_range, ev_irange, ev_ival, ev_valT, ev_valF, ev_valR, ev_valAt, ev_lc, ev_gtup, ev_each0, ev_each, ev_par2, ev_par2K, ev_gix, ev_ienum, ev_enumR, ev_enumAt, ev_izip, ev_zipR, ev_zipAt, ev_isi, ev_tyDR, ev_tyAt, ev_tyAtD, ev_tyDI, ev_tyDB, ev_tyDS, ev_tyDT, ev_tyDN, ev_isi1, ev_isi2, ev_isi3, ev_isi4, ev_isi5, ev_isi6, ev_isi7, ev_isi8, ev_isi9, ev_isi10, ev_append, ev_appAt, ev_extend, ev_extAt, ev_tyL, ev_lstAt, ev_tyS, ev_gset, ev_asg, ev_expr, ev_ret, ev_sif, ev_aug, ev_seq0, ev_seq, ev_seqN, ev_seqR, ev_seqB, ev_seqC, ev_finN, ev_finR, ev_set0, ev_setS, ev_at0, ev_at1, ev_at2, ev_at3, ev_at4, ev_at5, ev_at6, ev_at7, ev_at8, ev_at9, ev_at10, ev_at11, ev_atM1, List.getElem?_cons_zero, List.getElem?_cons_succ, List.getElem?_concat_length, List.getElem?_append_left, ev_lt1, ev_ltA, decide_eq_true_eq, if_true, if_false, and_self, and_true, true_and, or_true, true_or, or_false, false_or, ite_true, ite_false, Bool.not_true, Bool.not_false, reduceCtorEq,  Bool.false_eq_true, List.getLast?_concat, *])
/-- all but one cell stay -/
def Same (n : Nat) (S S' : Hs) : Prop := ∀ m c, S[m]? = some c → m ≠ n → S'[m]? = some c
theorem Same.refl {n : Nat} {S : Hs} : Same n S S := fun _ _ h _ => h
theorem Same.trans {n : Nat} {S S' S'' : Hs} (h : Same n S S') (g : Same n S' S'') : Same n S S'' := fun m c e k => g m c (h m c e k) k
theorem Same.app {n : Nat} {S S' : Hs} (h : S <+: S') : Same n S S' := fun m c e _ => pre_at h e
theorem Same.set {n : Nat} {S : Hs} {c : Cell} : Same n S (S.set n c) := fun m c e k => at_set_ne e (Ne.symm k)
def LC (B : Int) (d : D) : Prop := ∃ (r : Str) (a b f : Int), d = .tup [.str r, .int a, .int b, .int f] ∧ PyData.strOk r = true ∧ 0 ≤ a ∧ a ≤ B ∧ 0 ≤ b ∧ b ≤ B ∧ b - a ≤ 900 ∧ a - b ≤ 900 ∧ 0 ≤ f ∧ f ≤ 1000 ∧ f ≤ (if b < a then a - b else b - a) + 1
theorem LC.mono {B B' : Int} {d : D} (h : LC B d) (hb : B ≤ B') : LC B' d := by
  obtain ⟨r, a, b, f, rfl, c1, c2, c3, c4, c5, c6, c7, c8, c9, c10⟩ := h
  exact ⟨r, a, b, f, rfl, c1, c2, by omega, c4, by omega, c6, c7, c8, c9, c10⟩
theorem LC.wide {d : D} (h : LC 400000 d) : Wide d := by
  obtain ⟨r, a, b, f, rfl, c1, c2, c3, c4, c5, c6, c7, c8, c9, c10⟩ := h
  exact ⟨r, a, b, f, rfl, c1, c2, c3, c4, c5, c6, c7, c8, c9⟩
theorem Strip.lc {ds : List D} (h : Strip ds) (hl : ds.length ≤ 100) : ∀ d ∈ ds, LC 200000 d := by
  induction h with
  | nil => nofun
  | @snoc ds d h c ih =>
    rw [List.length_append] at hl
    intro e he
    rcases List.mem_append.mp he with he | he
    · exact ih (by omega) e he
    · rw [List.mem_singleton] at he
      subst he
      obtain ⟨r, a, b, f, rfl, c1, c2, c3, c4, c5, c6, c7, c8, c9, c10, c11⟩ := c
      exact ⟨r, a, b, f, rfl, c1, c2, by omega, c4, by omega, by omega, by omega, c8, by omega, c10⟩
theorem joins_ok {S : Hs} {nc : Nat} {cs : List D} (hc : S[nc]? = some (.lst cs)) (hw : ∀ d ∈ cs, Wide d) (hl : cs.length ≤ 100) : Ok (f_joins [.ref nc] S) fun v S' => v = .int (max 0 (((film cs []).length : Int) - 1)) ∧ S <+: S' := by
  obtain ⟨_, S2, e1, rfl, p, h, _⟩ := (strips_ok hc hw hl).ex
  have hl2 : (((film cs []).map Sp.D).length : Int) = ((film cs []).length : Int) := by rw [List.length_map]
  show Ok ((b_joins [some (.ref nc)] S).bind finK) _
  clear hw
  unfold b_joins
  walk_at "ev"
theorem table_inner {S0 : Hs} {n1 nm nt s E n : Nat} {x0 o5 : Option D} {ms : List Mo} {F : List Int} (hm : S0[nm]? = some (.lst (ms.map Mo.D))) (ht : S0[nt]? = some (.lst (F.map D.int))) (hne : nm ≠ nt) (hT : Tab (mAt ms) ms.length s 0 F) (hs : s < ms.length) (hb : ms.length ≤ 100000) :
    Ok (w_law_1 [x0, some (.ref n1), some (.ref nm), some (.ref nt), some (.int s), o5] S0) fun fl S' => ∃ o5 F', fl = .nx [x0, some (.ref n1), some (.ref nm), some (.ref nt), some (.int s), o5] ∧ Same nt S0 S' ∧ S'[nt]? = some (.lst (F'.map D.int)) ∧ Tab (mAt ms) ms.length (s + 1) 0 F' := by
  obtain ⟨_, S1, e1, rfl, E, rfl, hF⟩ := (far_ok hm hs hb).ex
  have h1 := hF.1
  have h2 := hF.2.1
  have e := rngI_up (i := (s : Int) + 1) (j := (E : Int) + 1) (by omega) (by omega) (by omega) (by omega)
  unfold w_law_1
  refine Ok.for ?_
  walk_at "ev"
  refine Ok.loop (fun i τ S' => ∃ o5 F', τ = [x0, some (.ref n1), some (.ref nm), some (.ref nt), some (.int s), o5] ∧ Same nt S1 S' ∧ S'[nt]? = some (.lst (F'.map D.int)) ∧ Tab (mAt ms) ms.length s (s + 1 + i) F') ?_ (fun _ _ _ _ _ => chk_nil) ?_ ?_
  · exact ⟨_, F, rfl, .refl, ht, hT.first⟩
  · rintro i d τ S2 hd ⟨p5, F', rfl, t1, t2, t3⟩
    obtain ⟨hi, rfl⟩ := rgD_get hd
    have hk : s + 1 + i ≤ E := by omega
    obtain ⟨v, hv, _⟩ := t3.2.2 (s + 1 + i) (by omega)
    have hs' := t3.start (mAt ms) (by omega : s ≤ ms.length)
    have nxt := t3.turn (mAt ms) hF (by omega) (by omega) hk hv
    have l1 := at_lt t2
    have a1 : atI (F'.map D.int) ((s + 1 + i : Nat) : Int) = some (.int v) := by rw [ev_atN, List.getElem?_map, hv]; rfl
    have a2 : atI (F'.map D.int) (s : Int) = some (.int ((cg (mAt ms) s).2 : Int)) := by rw [ev_atN, List.getElem?_map, hs']; rfl
    have a3 : ∀ w, setIx (.ref nt) (.int ((s + 1 + i : Nat) : Int)) (.int w) S2 = .ok () (S2.set nt (.lst ((F'.set (s + 1 + i) w).map D.int))) := fun w => by
      rw [List.map_set]
      exact set_at t2 (by
        unfold ixN
        rw [if_pos (by omega), if_pos (by rw [List.length_map, t3.1]; omega)]
        rfl)
    refine .ok ?_
    show Ok (k_law_1 [x0, some (.ref n1), some (.ref nm), some (.ref nt), some (.int s), some (.int ((s : Int) + 1 + (i : Int) * 1))] S2) _
    rw [show (s : Int) + 1 + (i : Int) * 1 = ((s + 1 + i : Nat) : Int) by omega]
    generalize ((s + 1 + i : Nat) : Int) = z at *
    clear hd e hF h1 h2 hk hv hs' t3 hT ht hm e1
    unfold k_law_1
    walk_at "ev"
    exact ⟨_, _, rfl, t1.trans .set, at_set t2, nxt⟩
  · rintro τ S2 ⟨p5, F', rfl, t1, t2, t3⟩
    rw [rgD_length, show s + 1 + (((E : Int) + 1) - ((s : Int) + 1)).toNat = E + 1 by omega] at t3
    exact ⟨_, F', rfl, t1, t2, t3.next (mAt ms) hF⟩
theorem table_ok {S0 : Hs} {n1 nm nt : Nat} {x0 o5 : Option D} {ms : List Mo} (hm : S0[nm]? = some (.lst (ms.map Mo.D))) (ht : S0[nt]? = some (.lst ((0 :: List.replicate ms.length ((ms.length : Int) + 1)).map D.int))) (hne : nm ≠ nt) (hb : ms.length ≤ 100000) :
    Ok (w_law_2 [x0, some (.ref n1), some (.ref nm), some (.ref nt), none, o5] S0) fun fl S' => ∃ o4 o5 F', fl = .nx [x0, some (.ref n1), some (.ref nm), some (.ref nt), o4, o5] ∧ Same nt S0 S' ∧ S'[nt]? = some (.lst (F'.map D.int)) ∧ Tab (mAt ms) ms.length ms.length 0 F' := by
  have hlen : ((ms.map Mo.D).length : Int) = (ms.length : Int) := by rw [List.length_map]
  have e := rngI_0 (j := (ms.length : Int)) (by omega) (by omega)
  unfold w_law_2
  refine Ok.for ?_
  walk_at "ev"
  refine Ok.loop (fun s τ S' => ∃ o4 o5 F', τ = [x0, some (.ref n1), some (.ref nm), some (.ref nt), o4, o5] ∧ Same nt S0 S' ∧ S'[nt]? = some (.lst (F'.map D.int)) ∧ Tab (mAt ms) ms.length s 0 F') ?_ (fun _ _ _ _ _ => chk_nil) ?_ ?_
  · exact ⟨_, _, _, rfl, .refl, ht, Tab.zero _ _⟩
  · rintro s d τ S1 hd ⟨p4, p5, F', rfl, t1, t2, t3⟩
    obtain ⟨hi, rfl⟩ := rgD_get hd
    refine .ok ?_
    show Ok (k_law_2 [x0, some (.ref n1), some (.ref nm), some (.ref nt), some (.int (0 + (s : Int) * 1)), p5] S1) _
    rw [Int.mul_one, Int.zero_add]
    unfold k_law_2
    rw [ok_seq]
    refine (table_inner (n := 0) (E := 0) (t1 _ _ hm hne) t2 hne t3 (by omega) hb).mono ?_
    rintro fl S' ⟨q5, F2, rfl, u1, u2, u3⟩
    exact .ok ⟨_, _, F2, rfl, t1.trans u1, u2, u3⟩
  · rintro τ S1 ⟨p4, p5, F', rfl, t1, t2, t3⟩
    rw [rgD_length] at t3
    exact ⟨_, _, F', rfl, t1, t2, t3⟩
theorem cut_cells27 (ns : List Int) : cutD (ns.map D.int) (some 2) (some 27) = ((ns.drop 2).take 25).map D.int := by
  rw [show cutD (ns.map D.int) (some 2) (some 27) = _ from cutD_nat (ns.map D.int) 2 27, List.map_take, List.map_drop]
theorem law_true : ∀ ns : List Int, ns.length ≤ 63 → ∃ S', f_law [.frl (ns.map D.int)] [] = .ok (.bl true) S' := by
  intro ns hl
  suffices h : Ok (f_law [.frl (ns.map D.int)] []) fun v _ => v = .bl true by
    obtain ⟨v, S', e, rfl⟩ := h.ex
    exact ⟨S', e⟩
  show Ok ((b_law [some (.frl (ns.map D.int)), none, none, none, none, none] []).bind finK) _
  have e1 := cut_cells27 ns
  obtain ⟨v, S2, e2, rfl, p2⟩ := (cell_ok ns hl 0 ([] ++ [.lst (((ns.drop 2).take 25).map D.int)])).ex
  have e2' : f__law_cell [.frl (ns.map D.int), .int 0] [.lst (((ns.drop 2).take 25).map D.int)] = .ok (.int (ns.getD 0 0)) S2 := e2
  obtain ⟨_, S3, e3, n1, cs, rfl, p3, hnf, h1, hs, hdl⟩ := (clips_ok (pre_at p2 (at_new [] _)) (by rw [List.length_take]; omega) (ns.getD 0 0)).ex
  have e3' : f__law_clips [.ref 0, .int (ns.getD 0 0)] S2 = .ok (.ref n1) S3 := e3
  have hcl : cs.length ≤ 60 := by rw [hdl, List.length_take]; omega
  have hw : ∀ d ∈ cs, Wide d := fun d hd => ((hs.lc (by omega) d hd).mono (by omega)).wide
  obtain ⟨_, S4, e4, rfl, p4, h4, hb⟩ := (law_moms h1 hw (by omega)).ex
  have l1 := at_lt h1
  have l4 := at_lt h4
  have hlen : (((moms cs).map Mo.D).length : Int) = ((moms cs).length : Int) := by rw [List.length_map]
  have hrep : (List.replicate (((moms cs).length : Int)).toNat [D.int (((moms cs).length : Int) + 1)]).flatten = List.replicate (moms cs).length (D.int (((moms cs).length : Int) + 1)) := by
    rw [show (((moms cs).length : Int)).toNat = (moms cs).length from rfl]
    simp
  have hc1 : -9223372036854775808 ≤ ((moms cs).length : Int) ∧ ((moms cs).length : Int) < 9223372036854775808 ∧ 1 * (((moms cs).length : Int)).toNat ≤ sizeLine := by rw [sizeLine_eq]; omega
  have hc2 : 1 + (List.replicate (moms cs).length (D.int (((moms cs).length : Int) + 1))).length ≤ sizeLine := by rw [List.length_replicate, sizeLine_eq]; omega
  have hF0 : [D.int 0] ++ List.replicate (moms cs).length (D.int (((moms cs).length : Int) + 1)) = (0 :: List.replicate (moms cs).length (((moms cs).length : Int) + 1)).map D.int := by
    rw [List.map_cons, List.map_replicate]; rfl
  have hgl := film_len cs hw
  have fin : ∀ (S5 : Hs) (nt : Nat) (o4 o5 : Option D) (F : List Int), S5[n1]? = some (.lst cs) → S5[nt]? = some (.lst (F.map D.int)) → Tab (mAt (moms cs)) (moms cs).length (moms cs).length 0 F → Ok (seqK [sIf (tBl (dBin opNe (dCall f_joins [(dCall fList [(dVar 1)])]) (dCall fMax [(dLit (.int 0)), (dBin opSub (dBin opIx (dVar 3) (dUn opNeg (dLit (.int 1)))) (dLit (.int 1)))]))) (sSeq [sRet (dLit (.bl false))]) (sSeq []), sRet (dBin opEq (dCall fLen [(dCall f_strips_of [(dCall fList [(dVar 1)])])]) (dBin opIx (dVar 3) (dUn opNeg (dLit (.int 1)))))] (.nx [some (.frl (ns.map D.int)), some (.ref n1), some (.ref S3.length), some (.ref nt), o4, o5]) S5) fun fl S' => Ok (finK fl S') fun v _ => v = .bl true := by
    intro S5 nt o4 o5 F u1 u2 u3
    obtain ⟨_, S6, e6, rfl, p6⟩ := (joins_ok (at_new S5 (.lst cs)) hw (by omega)).ex
    obtain ⟨_, S7, e7, rfl, p7, h7, _⟩ := (strips_ok (at_new S6 (.lst cs)) hw (by omega)).ex
    have w1 := pre_at p6 (at_app (T := [.lst cs]) u1)
    have w2 := pre_at p6 (at_app (T := [.lst cs]) u2)
    have w3 := pre_at p7 (at_app (T := [.lst cs]) w2)
    have la := at_lt u1
    have lb := at_lt u2
    have lc := at_lt w1
    have ld := at_lt w2
    have gl : (F.map D.int).getLast? = some (.int ((film cs []).length : Int)) := by
      rw [List.getLast?_map, u3.last, hgl]
      rfl
    have hl7 : (((film cs []).map Sp.D).length : Int) = ((film cs []).length : Int) := by rw [List.length_map]
    clear hw hs e1 e2 e3 e2' e3' p2 p3 hgl u3 hlen hrep hc1 hc2 hF0
    walk_at "ev"
  have key := fun (S5 : Hs) (h5 : S4 <+: S5) => (table_ok (S0 := S5 ++ [.lst ((0 :: List.replicate (moms cs).length (((moms cs).length : Int) + 1)).map D.int)]) (n1 := n1) (nt := S5.length) (x0 := some (.frl (ns.map D.int))) (o5 := none) (at_app (pre_at h5 h4)) (at_new _ _) (by have := h5.length_le; omega) hb).mono (Q' := fun fl S' => Ok (seqK [sIf (tBl (dBin opNe (dCall f_joins [(dCall fList [(dVar 1)])]) (dCall fMax [(dLit (.int 0)), (dBin opSub (dBin opIx (dVar 3) (dUn opNeg (dLit (.int 1)))) (dLit (.int 1)))]))) (sSeq [sRet (dLit (.bl false))]) (sSeq []), sRet (dBin opEq (dCall fLen [(dCall f_strips_of [(dCall fList [(dVar 1)])])]) (dBin opIx (dVar 3) (dUn opNeg (dLit (.int 1)))))] fl S') fun fl S' => Ok (finK fl S') fun v _ => v = .bl true) (by
    rintro fl S' ⟨o4, o5, F', rfl, t1, t2, t3⟩
    have l5 := h5.length_le
    have l14 := p4.length_le
    exact fin S' S5.length o4 o5 F' (t1 _ _ (at_app (pre_at (p4.trans h5) h1)) (by omega)) t2 t3)
  have key2 := key (S4 ++ [.lst [.int 0]] ++ [.lst [.int (((moms cs).length : Int) + 1)]] ++ [.lst (List.replicate (moms cs).length (.int (((moms cs).length : Int) + 1)))]) (by simp only [List.append_assoc]; exact pre_app _ _)
  rw [List.map_cons] at key2 hF0
  clear key fin hw hs e2 e3 p2 p3 p4 hgl hb hdl hcl
  unfold b_law
  walk_at "ev"
end Py

namespace Py
open PySem PySem.Spec PyProof.Rows L2
/-! ### the places of the defs in the text -/
def top (i : Nat) : Stmt := PySem.Challenge.pw_leadersplice_k20_whole_no_fewer_joins.main.body.getD i (.Pass ⟨0, 0, 0, 0⟩)
abbrev st__law_cell : Stmt := top 7
abbrev st__law_frames : Stmt := top 9
abbrev st__law_clip : Stmt := top 10
abbrev st__law_numbers : Stmt := top 8
abbrev st__law_clips : Stmt := top 11
abbrev st__law_far : Stmt := top 13
abbrev st__law_moments : Stmt := top 12
abbrev st_goes_on : Stmt := top 3
abbrev st_numbers_of : Stmt := top 1
abbrev st_strips_of : Stmt := top 4
abbrev st_joins : Stmt := top 5
abbrev st_law : Stmt := top 14
def lits : List (Str × D) := []
def fs__law_cell : List FunE := []
def fs__law_frames : List FunE := ⟨"_law_cell", 2, f__law_cell⟩ :: fs__law_cell
def fs__law_clip : List FunE := ⟨"_law_frames", 1, f__law_frames⟩ :: fs__law_frames
def fs__law_numbers : List FunE := ⟨"_law_clip", 4, f__law_clip⟩ :: fs__law_clip
def fs__law_clips : List FunE := ⟨"_law_numbers", 2, f__law_numbers⟩ :: fs__law_numbers
def fs__law_far : List FunE := ⟨"_law_clips", 2, f__law_clips⟩ :: fs__law_clips
def fs__law_moments : List FunE := ⟨"_law_far", 2, f__law_far⟩ :: fs__law_far
def fs_goes_on : List FunE := ⟨"_law_moments", 1, f__law_moments⟩ :: fs__law_moments
def fs_numbers_of : List FunE := ⟨"goes_on", 3, f_goes_on⟩ :: fs_goes_on
def fs_strips_of : List FunE := ⟨"numbers_of", 1, f_numbers_of⟩ :: fs_numbers_of
def fs_joins : List FunE := ⟨"strips_of", 1, f_strips_of⟩ :: fs_strips_of
def fs_law : List FunE := ⟨"joins", 1, f_joins⟩ :: fs_joins
theorem sc__law_cell : FnScope ["_law_script", "_law_k"] ["_law_script", "_law_k"] (defScope st__law_cell) := ⟨rfl, rfl, rfl, by decide +kernel, rfl, by decide +kernel, by decide +kernel⟩
theorem ck__law_cell : cBody ⟨["_law_script", "_law_k"], fs__law_cell, lits⟩ 40 (defScope st__law_cell) (defBody st__law_cell) = some b__law_cell := by kernel_rfl
theorem sc__law_frames : FnScope ["_law_clip_here"] ["_law_clip_here"] (defScope st__law_frames) := ⟨rfl, rfl, rfl, by decide +kernel, rfl, by decide +kernel, by decide +kernel⟩
theorem ck__law_frames : cBody ⟨["_law_clip_here"], fs__law_frames, lits⟩ 40 (defScope st__law_frames) (defBody st__law_frames) = some b__law_frames := by kernel_rfl
theorem sc__law_clip : FnScope ["_law_found", "_law_xs", "_law_names", "_law_wide", "_law_reel", "_law_first", "_law_fade", "_law_ahead", "_law_many", "_law_last"] ["_law_found", "_law_xs", "_law_names", "_law_wide"] (defScope st__law_clip) := ⟨rfl, rfl, rfl, by decide +kernel, rfl, by decide +kernel, by decide +kernel⟩
theorem ck__law_clip : cBody ⟨["_law_found", "_law_xs", "_law_names", "_law_wide", "_law_reel", "_law_first", "_law_fade", "_law_ahead", "_law_many", "_law_last"], fs__law_clip, lits⟩ 40 (defScope st__law_clip) (defBody st__law_clip) = some b__law_clip := by kernel_rfl
theorem sc__law_numbers : FnScope ["_law_cell_here", "_law_many", "_law_found", "_law_number", "_law_digits", "_law_k"] ["_law_cell_here", "_law_many"] (defScope st__law_numbers) := ⟨rfl, rfl, rfl, by decide +kernel, rfl, by decide +kernel, by decide +kernel⟩
theorem ck__law_numbers : cBody ⟨["_law_cell_here", "_law_many", "_law_found", "_law_number", "_law_digits", "_law_k"], fs__law_numbers, lits⟩ 40 (defScope st__law_numbers) (defBody st__law_numbers) = some b__law_numbers := by kernel_rfl
theorem sc__law_clips : FnScope ["_law_cells", "_law_way", "_law_names", "_law_wide", "_law_found", "_law_cell_here"] ["_law_cells", "_law_way"] (defScope st__law_clips) := ⟨rfl, rfl, rfl, by decide +kernel, rfl, by decide +kernel, by decide +kernel⟩
theorem ck__law_clips : cBody ⟨["_law_cells", "_law_way", "_law_names", "_law_wide", "_law_found", "_law_cell_here"], fs__law_clips, lits⟩ 40 (defScope st__law_clips) (defBody st__law_clips) = some b__law_clips := by kernel_rfl
theorem sc__law_far : FnScope ["_law_moments_here", "_law_start", "_law_end", "_law_reel", "_law_frame", "_law_begins", "_law_way"] ["_law_moments_here", "_law_start"] (defScope st__law_far) := ⟨rfl, rfl, rfl, by decide +kernel, rfl, by decide +kernel, by decide +kernel⟩
theorem ck__law_far : cBody ⟨["_law_moments_here", "_law_start", "_law_end", "_law_reel", "_law_frame", "_law_begins", "_law_way"], fs__law_far, lits⟩ 40 (defScope st__law_far) (defBody st__law_far) = some b__law_far := by kernel_rfl
theorem sc__law_moments : FnScope ["_law_clips_here", "_law_found", "_law_clip_here", "_law_k", "_law_frame"] ["_law_clips_here"] (defScope st__law_moments) := ⟨rfl, rfl, rfl, by decide +kernel, rfl, by decide +kernel, by decide +kernel⟩
theorem ck__law_moments : cBody ⟨["_law_clips_here", "_law_found", "_law_clip_here", "_law_k", "_law_frame"], fs__law_moments, lits⟩ 40 (defScope st__law_moments) (defBody st__law_moments) = some b__law_moments := by kernel_rfl
theorem sc_goes_on : FnScope ["strip", "reel", "frame", "name", "first", "last", "fade"] ["strip", "reel", "frame"] (defScope st_goes_on) := ⟨rfl, rfl, rfl, by decide +kernel, rfl, by decide +kernel, by decide +kernel⟩
theorem ck_goes_on : cBody ⟨["strip", "reel", "frame", "name", "first", "last", "fade"], fs_goes_on, lits⟩ 40 (defScope st_goes_on) (defBody st_goes_on) = some b_goes_on := by kernel_rfl
theorem sc_numbers_of : FnScope ["clip"] ["clip"] (defScope st_numbers_of) := ⟨rfl, rfl, rfl, by decide +kernel, rfl, by decide +kernel, by decide +kernel⟩
theorem ck_numbers_of : cBody ⟨["clip"], fs_numbers_of, lits⟩ 40 (defScope st_numbers_of) (defBody st_numbers_of) = some b_numbers_of := by kernel_rfl
theorem sc_strips_of : FnScope ["clips", "found", "clip", "reel", "fade", "begins", "frame", "strip"] ["clips"] (defScope st_strips_of) := ⟨rfl, rfl, rfl, by decide +kernel, rfl, by decide +kernel, by decide +kernel⟩
theorem ck_strips_of : cBody ⟨["clips", "found", "clip", "reel", "fade", "begins", "frame", "strip"], fs_strips_of, lits⟩ 40 (defScope st_strips_of) (defBody st_strips_of) = some b_strips_of := by kernel_rfl
theorem sc_joins : FnScope ["clips"] ["clips"] (defScope st_joins) := ⟨rfl, rfl, rfl, by decide +kernel, rfl, by decide +kernel, by decide +kernel⟩
theorem ck_joins : cBody ⟨["clips"], fs_joins, lits⟩ 40 (defScope st_joins) (defBody st_joins) = some b_joins := by kernel_rfl
theorem sc_law : FnScope ["_law_script", "_law_clips_here", "_law_moments_here", "_law_fewest", "_law_start", "_law_end"] ["_law_script"] (defScope st_law) := ⟨rfl, rfl, rfl, by decide +kernel, rfl, by decide +kernel, by decide +kernel⟩
theorem ck_law : cBody ⟨["_law_script", "_law_clips_here", "_law_moments_here", "_law_fewest", "_law_start", "_law_end"], fs_law, lits⟩ 40 (defScope st_law) (defBody st_law) = some b_law := by kernel_rfl
/-! ### the promises, one def after another -/
theorem all_ok {P : Program} {w : World} {K : PySem.W.Frag} {mg : Str → Option Value} {base : Heap} (L0 : Lib P w K mg base 0 [] lits)
    {a__law_cell : Addr} {d__law_cell : FuncData} (F__law_cell : Fun K "_law_cell" "_law_cell" st__law_cell a__law_cell d__law_cell) (b__law_cell : Binds K d__law_cell ["_law_script", "_law_k"] []) (m__law_cell : mg "_law_cell" = some (.ref a__law_cell))
    {a__law_frames : Addr} {d__law_frames : FuncData} (F__law_frames : Fun K "_law_frames" "_law_frames" st__law_frames a__law_frames d__law_frames) (b__law_frames : Binds K d__law_frames ["_law_clip_here"] []) (m__law_frames : mg "_law_frames" = some (.ref a__law_frames))
    {a__law_clip : Addr} {d__law_clip : FuncData} (F__law_clip : Fun K "_law_clip" "_law_clip" st__law_clip a__law_clip d__law_clip) (b__law_clip : Binds K d__law_clip ["_law_found", "_law_xs", "_law_names", "_law_wide"] []) (m__law_clip : mg "_law_clip" = some (.ref a__law_clip))
    {a__law_numbers : Addr} {d__law_numbers : FuncData} (F__law_numbers : Fun K "_law_numbers" "_law_numbers" st__law_numbers a__law_numbers d__law_numbers) (b__law_numbers : Binds K d__law_numbers ["_law_cell_here", "_law_many"] []) (m__law_numbers : mg "_law_numbers" = some (.ref a__law_numbers))
    {a__law_clips : Addr} {d__law_clips : FuncData} (F__law_clips : Fun K "_law_clips" "_law_clips" st__law_clips a__law_clips d__law_clips) (b__law_clips : Binds K d__law_clips ["_law_cells", "_law_way"] []) (m__law_clips : mg "_law_clips" = some (.ref a__law_clips))
    {a__law_far : Addr} {d__law_far : FuncData} (F__law_far : Fun K "_law_far" "_law_far" st__law_far a__law_far d__law_far) (b__law_far : Binds K d__law_far ["_law_moments_here", "_law_start"] []) (m__law_far : mg "_law_far" = some (.ref a__law_far))
    {a__law_moments : Addr} {d__law_moments : FuncData} (F__law_moments : Fun K "_law_moments" "_law_moments" st__law_moments a__law_moments d__law_moments) (b__law_moments : Binds K d__law_moments ["_law_clips_here"] []) (m__law_moments : mg "_law_moments" = some (.ref a__law_moments))
    {a_goes_on : Addr} {d_goes_on : FuncData} (F_goes_on : Fun K "goes_on" "goes_on" st_goes_on a_goes_on d_goes_on) (b_goes_on : Binds K d_goes_on ["strip", "reel", "frame"] []) (m_goes_on : mg "goes_on" = some (.ref a_goes_on))
    {a_numbers_of : Addr} {d_numbers_of : FuncData} (F_numbers_of : Fun K "numbers_of" "numbers_of" st_numbers_of a_numbers_of d_numbers_of) (b_numbers_of : Binds K d_numbers_of ["clip"] []) (m_numbers_of : mg "numbers_of" = some (.ref a_numbers_of))
    {a_strips_of : Addr} {d_strips_of : FuncData} (F_strips_of : Fun K "strips_of" "strips_of" st_strips_of a_strips_of d_strips_of) (b_strips_of : Binds K d_strips_of ["clips"] []) (m_strips_of : mg "strips_of" = some (.ref a_strips_of))
    {a_joins : Addr} {d_joins : FuncData} (F_joins : Fun K "joins" "joins" st_joins a_joins d_joins) (b_joins : Binds K d_joins ["clips"] []) (m_joins : mg "joins" = some (.ref a_joins))
    {a_law : Addr} {d_law : FuncData} (F_law : Fun K "law" "law" st_law a_law d_law) (b_law : Binds K d_law ["_law_script"] []) (m_law : mg "law" = some (.ref a_law))
    : FnOk P w K mg base CX0 12 a_law d_law ["_law_script"] (spF K EW0 1 f_law) := by
  have O__law_cell : FnOk P w K mg base CX0 1 a__law_cell d__law_cell ["_law_script", "_law_k"] (spF K EW0 2 f__law_cell) := def_ok L0 F__law_cell sc__law_cell ck__law_cell
  have L1 : Lib P w K mg base 1 (⟨"_law_cell", 2, f__law_cell⟩ :: fs__law_cell) lits := L0.up.add (g := ⟨"_law_cell", 2, f__law_cell⟩) O__law_cell m__law_cell F__law_cell.kp b__law_cell
  have O__law_frames : FnOk P w K mg base CX0 2 a__law_frames d__law_frames ["_law_clip_here"] (spF K EW0 1 f__law_frames) := def_ok L1 F__law_frames sc__law_frames ck__law_frames
  have L2 : Lib P w K mg base 2 (⟨"_law_frames", 1, f__law_frames⟩ :: fs__law_frames) lits := L1.up.add (g := ⟨"_law_frames", 1, f__law_frames⟩) O__law_frames m__law_frames F__law_frames.kp b__law_frames
  have O__law_clip : FnOk P w K mg base CX0 3 a__law_clip d__law_clip ["_law_found", "_law_xs", "_law_names", "_law_wide"] (spF K EW0 4 f__law_clip) := def_ok L2 F__law_clip sc__law_clip ck__law_clip
  have L3 : Lib P w K mg base 3 (⟨"_law_clip", 4, f__law_clip⟩ :: fs__law_clip) lits := L2.up.add (g := ⟨"_law_clip", 4, f__law_clip⟩) O__law_clip m__law_clip F__law_clip.kp b__law_clip
  have O__law_numbers : FnOk P w K mg base CX0 4 a__law_numbers d__law_numbers ["_law_cell_here", "_law_many"] (spF K EW0 2 f__law_numbers) := def_ok L3 F__law_numbers sc__law_numbers ck__law_numbers
  have L4 : Lib P w K mg base 4 (⟨"_law_numbers", 2, f__law_numbers⟩ :: fs__law_numbers) lits := L3.up.add (g := ⟨"_law_numbers", 2, f__law_numbers⟩) O__law_numbers m__law_numbers F__law_numbers.kp b__law_numbers
  have O__law_clips : FnOk P w K mg base CX0 5 a__law_clips d__law_clips ["_law_cells", "_law_way"] (spF K EW0 2 f__law_clips) := def_ok L4 F__law_clips sc__law_clips ck__law_clips
  have L5 : Lib P w K mg base 5 (⟨"_law_clips", 2, f__law_clips⟩ :: fs__law_clips) lits := L4.up.add (g := ⟨"_law_clips", 2, f__law_clips⟩) O__law_clips m__law_clips F__law_clips.kp b__law_clips
  have O__law_far : FnOk P w K mg base CX0 6 a__law_far d__law_far ["_law_moments_here", "_law_start"] (spF K EW0 2 f__law_far) := def_ok L5 F__law_far sc__law_far ck__law_far
  have L6 : Lib P w K mg base 6 (⟨"_law_far", 2, f__law_far⟩ :: fs__law_far) lits := L5.up.add (g := ⟨"_law_far", 2, f__law_far⟩) O__law_far m__law_far F__law_far.kp b__law_far
  have O__law_moments : FnOk P w K mg base CX0 7 a__law_moments d__law_moments ["_law_clips_here"] (spF K EW0 1 f__law_moments) := def_ok L6 F__law_moments sc__law_moments ck__law_moments
  have L7 : Lib P w K mg base 7 (⟨"_law_moments", 1, f__law_moments⟩ :: fs__law_moments) lits := L6.up.add (g := ⟨"_law_moments", 1, f__law_moments⟩) O__law_moments m__law_moments F__law_moments.kp b__law_moments
  have O_goes_on : FnOk P w K mg base CX0 8 a_goes_on d_goes_on ["strip", "reel", "frame"] (spF K EW0 3 f_goes_on) := def_ok L7 F_goes_on sc_goes_on ck_goes_on
  have L8 : Lib P w K mg base 8 (⟨"goes_on", 3, f_goes_on⟩ :: fs_goes_on) lits := L7.up.add (g := ⟨"goes_on", 3, f_goes_on⟩) O_goes_on m_goes_on F_goes_on.kp b_goes_on
  have O_numbers_of : FnOk P w K mg base CX0 9 a_numbers_of d_numbers_of ["clip"] (spF K EW0 1 f_numbers_of) := def_ok L8 F_numbers_of sc_numbers_of ck_numbers_of
  have L9 : Lib P w K mg base 9 (⟨"numbers_of", 1, f_numbers_of⟩ :: fs_numbers_of) lits := L8.up.add (g := ⟨"numbers_of", 1, f_numbers_of⟩) O_numbers_of m_numbers_of F_numbers_of.kp b_numbers_of
  have O_strips_of : FnOk P w K mg base CX0 10 a_strips_of d_strips_of ["clips"] (spF K EW0 1 f_strips_of) := def_ok L9 F_strips_of sc_strips_of ck_strips_of
  have L10 : Lib P w K mg base 10 (⟨"strips_of", 1, f_strips_of⟩ :: fs_strips_of) lits := L9.up.add (g := ⟨"strips_of", 1, f_strips_of⟩) O_strips_of m_strips_of F_strips_of.kp b_strips_of
  have O_joins : FnOk P w K mg base CX0 11 a_joins d_joins ["clips"] (spF K EW0 1 f_joins) := def_ok L10 F_joins sc_joins ck_joins
  have L11 : Lib P w K mg base 11 (⟨"joins", 1, f_joins⟩ :: fs_joins) lits := L10.up.add (g := ⟨"joins", 1, f_joins⟩) O_joins m_joins F_joins.kp b_joins
  have O_law : FnOk P w K mg base CX0 12 a_law d_law ["_law_script"] (spF K EW0 1 f_law) := def_ok L11 F_law sc_law ck_law
  exact O_law
/-! ### what the top has written -/
theorem all_mk {l : PySem.W.OpenLaw} {w : World} {K : PySem.W.Frag} {h : Heap} {mg : Str → Option Value} {fa : Addr} (X : K.In h) (G : h.Ns mainGlobals mg) (hfa : mg "law" = some (.ref fa))
    {A0 : Addr} {od0 an0 : Option Addr} {sl0 : Array (Option Value)} {oc0 kV0 dc0 pm0 cd0 ct0 : Value} (a0 : PySem.W.nsIn K mainGlobals "_law_cell" = some (some (.ref A0))) (l0 : K.lookup A0 = some ⟨oc0, od0, .func (PySem.W.fnOf "_law_cell" "_law_cell" (defArgs st__law_cell) (defBody st__law_cell) (defScope st__law_cell) .none kV0 dc0 pm0 an0 cd0 ct0), sl0⟩) (c0 : PySem.W.codeIn K cd0 "_law_cell" = true) (k0 : PySem.W.keepIn K (.ref A0) = true)
    {A1 : Addr} {od1 an1 : Option Addr} {sl1 : Array (Option Value)} {oc1 kV1 dc1 pm1 cd1 ct1 : Value} (a1 : PySem.W.nsIn K mainGlobals "_law_frames" = some (some (.ref A1))) (l1 : K.lookup A1 = some ⟨oc1, od1, .func (PySem.W.fnOf "_law_frames" "_law_frames" (defArgs st__law_frames) (defBody st__law_frames) (defScope st__law_frames) .none kV1 dc1 pm1 an1 cd1 ct1), sl1⟩) (c1 : PySem.W.codeIn K cd1 "_law_frames" = true) (k1 : PySem.W.keepIn K (.ref A1) = true)
    {A2 : Addr} {od2 an2 : Option Addr} {sl2 : Array (Option Value)} {oc2 kV2 dc2 pm2 cd2 ct2 : Value} (a2 : PySem.W.nsIn K mainGlobals "_law_clip" = some (some (.ref A2))) (l2 : K.lookup A2 = some ⟨oc2, od2, .func (PySem.W.fnOf "_law_clip" "_law_clip" (defArgs st__law_clip) (defBody st__law_clip) (defScope st__law_clip) .none kV2 dc2 pm2 an2 cd2 ct2), sl2⟩) (c2 : PySem.W.codeIn K cd2 "_law_clip" = true) (k2 : PySem.W.keepIn K (.ref A2) = true)
    {A3 : Addr} {od3 an3 : Option Addr} {sl3 : Array (Option Value)} {oc3 kV3 dc3 pm3 cd3 ct3 : Value} (a3 : PySem.W.nsIn K mainGlobals "_law_numbers" = some (some (.ref A3))) (l3 : K.lookup A3 = some ⟨oc3, od3, .func (PySem.W.fnOf "_law_numbers" "_law_numbers" (defArgs st__law_numbers) (defBody st__law_numbers) (defScope st__law_numbers) .none kV3 dc3 pm3 an3 cd3 ct3), sl3⟩) (c3 : PySem.W.codeIn K cd3 "_law_numbers" = true) (k3 : PySem.W.keepIn K (.ref A3) = true)
    {A4 : Addr} {od4 an4 : Option Addr} {sl4 : Array (Option Value)} {oc4 kV4 dc4 pm4 cd4 ct4 : Value} (a4 : PySem.W.nsIn K mainGlobals "_law_clips" = some (some (.ref A4))) (l4 : K.lookup A4 = some ⟨oc4, od4, .func (PySem.W.fnOf "_law_clips" "_law_clips" (defArgs st__law_clips) (defBody st__law_clips) (defScope st__law_clips) .none kV4 dc4 pm4 an4 cd4 ct4), sl4⟩) (c4 : PySem.W.codeIn K cd4 "_law_clips" = true) (k4 : PySem.W.keepIn K (.ref A4) = true)
    {A5 : Addr} {od5 an5 : Option Addr} {sl5 : Array (Option Value)} {oc5 kV5 dc5 pm5 cd5 ct5 : Value} (a5 : PySem.W.nsIn K mainGlobals "_law_far" = some (some (.ref A5))) (l5 : K.lookup A5 = some ⟨oc5, od5, .func (PySem.W.fnOf "_law_far" "_law_far" (defArgs st__law_far) (defBody st__law_far) (defScope st__law_far) .none kV5 dc5 pm5 an5 cd5 ct5), sl5⟩) (c5 : PySem.W.codeIn K cd5 "_law_far" = true) (k5 : PySem.W.keepIn K (.ref A5) = true)
    {A6 : Addr} {od6 an6 : Option Addr} {sl6 : Array (Option Value)} {oc6 kV6 dc6 pm6 cd6 ct6 : Value} (a6 : PySem.W.nsIn K mainGlobals "_law_moments" = some (some (.ref A6))) (l6 : K.lookup A6 = some ⟨oc6, od6, .func (PySem.W.fnOf "_law_moments" "_law_moments" (defArgs st__law_moments) (defBody st__law_moments) (defScope st__law_moments) .none kV6 dc6 pm6 an6 cd6 ct6), sl6⟩) (c6 : PySem.W.codeIn K cd6 "_law_moments" = true) (k6 : PySem.W.keepIn K (.ref A6) = true)
    {A7 : Addr} {od7 an7 : Option Addr} {sl7 : Array (Option Value)} {oc7 kV7 dc7 pm7 cd7 ct7 : Value} (a7 : PySem.W.nsIn K mainGlobals "goes_on" = some (some (.ref A7))) (l7 : K.lookup A7 = some ⟨oc7, od7, .func (PySem.W.fnOf "goes_on" "goes_on" (defArgs st_goes_on) (defBody st_goes_on) (defScope st_goes_on) .none kV7 dc7 pm7 an7 cd7 ct7), sl7⟩) (c7 : PySem.W.codeIn K cd7 "goes_on" = true) (k7 : PySem.W.keepIn K (.ref A7) = true)
    {A8 : Addr} {od8 an8 : Option Addr} {sl8 : Array (Option Value)} {oc8 kV8 dc8 pm8 cd8 ct8 : Value} (a8 : PySem.W.nsIn K mainGlobals "numbers_of" = some (some (.ref A8))) (l8 : K.lookup A8 = some ⟨oc8, od8, .func (PySem.W.fnOf "numbers_of" "numbers_of" (defArgs st_numbers_of) (defBody st_numbers_of) (defScope st_numbers_of) .none kV8 dc8 pm8 an8 cd8 ct8), sl8⟩) (c8 : PySem.W.codeIn K cd8 "numbers_of" = true) (k8 : PySem.W.keepIn K (.ref A8) = true)
    {A9 : Addr} {od9 an9 : Option Addr} {sl9 : Array (Option Value)} {oc9 kV9 dc9 pm9 cd9 ct9 : Value} (a9 : PySem.W.nsIn K mainGlobals "strips_of" = some (some (.ref A9))) (l9 : K.lookup A9 = some ⟨oc9, od9, .func (PySem.W.fnOf "strips_of" "strips_of" (defArgs st_strips_of) (defBody st_strips_of) (defScope st_strips_of) .none kV9 dc9 pm9 an9 cd9 ct9), sl9⟩) (c9 : PySem.W.codeIn K cd9 "strips_of" = true) (k9 : PySem.W.keepIn K (.ref A9) = true)
    {A10 : Addr} {od10 an10 : Option Addr} {sl10 : Array (Option Value)} {oc10 kV10 dc10 pm10 cd10 ct10 : Value} (a10 : PySem.W.nsIn K mainGlobals "joins" = some (some (.ref A10))) (l10 : K.lookup A10 = some ⟨oc10, od10, .func (PySem.W.fnOf "joins" "joins" (defArgs st_joins) (defBody st_joins) (defScope st_joins) .none kV10 dc10 pm10 an10 cd10 ct10), sl10⟩) (c10 : PySem.W.codeIn K cd10 "joins" = true) (k10 : PySem.W.keepIn K (.ref A10) = true)
    {A11 : Addr} {od11 an11 : Option Addr} {sl11 : Array (Option Value)} {oc11 kV11 dc11 pm11 cd11 ct11 : Value} (a11 : PySem.W.nsIn K mainGlobals "law" = some (some (.ref A11))) (l11 : K.lookup A11 = some ⟨oc11, od11, .func (PySem.W.fnOf "law" "law" (defArgs st_law) (defBody st_law) (defScope st_law) .none kV11 dc11 pm11 an11 cd11 ct11), sl11⟩) (c11 : PySem.W.codeIn K cd11 "law" = true) (k11 : PySem.W.keepIn K (.ref A11) = true)
    (z0 : PySem.W.nsIn K mainGlobals "len" = some none)
    (z1 : PySem.W.nsIn K mainGlobals "abs" = some none)
    (z2 : PySem.W.nsIn K mainGlobals "max" = some none)
    (z3 : PySem.W.nsIn K mainGlobals "min" = some none)
    (z4 : PySem.W.nsIn K mainGlobals "sum" = some none)
    (z5 : PySem.W.nsIn K mainGlobals "all" = some none)
    (z6 : PySem.W.nsIn K mainGlobals "any" = some none)
    (z7 : PySem.W.nsIn K mainGlobals "int" = some none)
    (z8 : PySem.W.nsIn K mainGlobals "str" = some none)
    (z9 : PySem.W.nsIn K mainGlobals "list" = some none)
    (z10 : PySem.W.nsIn K mainGlobals "tuple" = some none)
    (z11 : PySem.W.nsIn K mainGlobals "bool" = some none)
    (z12 : PySem.W.nsIn K mainGlobals "dict" = some none)
    (z13 : PySem.W.nsIn K mainGlobals "isinstance" = some none)
    (z14 : PySem.W.nsIn K mainGlobals "range" = some none)
    (z15 : PySem.W.nsIn K mainGlobals "enumerate" = some none)
    (z16 : PySem.W.nsIn K mainGlobals "zip" = some none)
    : ∃ fd : FuncData, (∀ (s : Shared) (v : Value), BindsTo s fd ⟨[v], []⟩ [("_law_script", v)]) ∧ ∀ base : Heap, K.In base → base.Ns mainGlobals mg → FnOk l.prog w K mg base CX0 12 fa fd ["_law_script"] (spF K EW0 1 f_law) := by
  have e := hfa.symm.trans (PySem.W.mg_of X G a11)
  cases e
  have F0 := fun_mk (st := st__law_cell) l0 c0 k0
  have B0 := F0.binds (ps := ["_law_script", "_law_k"]) fun _ _ _ _ _ _ us hl => match us, hl with | [_, _], _ => rfl
  have M0 := PySem.W.mg_of X G a0
  have F1 := fun_mk (st := st__law_frames) l1 c1 k1
  have B1 := F1.binds (ps := ["_law_clip_here"]) fun _ _ _ _ _ _ us hl => match us, hl with | [_], _ => rfl
  have M1 := PySem.W.mg_of X G a1
  have F2 := fun_mk (st := st__law_clip) l2 c2 k2
  have B2 := F2.binds (ps := ["_law_found", "_law_xs", "_law_names", "_law_wide"]) fun _ _ _ _ _ _ us hl => match us, hl with | [_, _, _, _], _ => rfl
  have M2 := PySem.W.mg_of X G a2
  have F3 := fun_mk (st := st__law_numbers) l3 c3 k3
  have B3 := F3.binds (ps := ["_law_cell_here", "_law_many"]) fun _ _ _ _ _ _ us hl => match us, hl with | [_, _], _ => rfl
  have M3 := PySem.W.mg_of X G a3
  have F4 := fun_mk (st := st__law_clips) l4 c4 k4
  have B4 := F4.binds (ps := ["_law_cells", "_law_way"]) fun _ _ _ _ _ _ us hl => match us, hl with | [_, _], _ => rfl
  have M4 := PySem.W.mg_of X G a4
  have F5 := fun_mk (st := st__law_far) l5 c5 k5
  have B5 := F5.binds (ps := ["_law_moments_here", "_law_start"]) fun _ _ _ _ _ _ us hl => match us, hl with | [_, _], _ => rfl
  have M5 := PySem.W.mg_of X G a5
  have F6 := fun_mk (st := st__law_moments) l6 c6 k6
  have B6 := F6.binds (ps := ["_law_clips_here"]) fun _ _ _ _ _ _ us hl => match us, hl with | [_], _ => rfl
  have M6 := PySem.W.mg_of X G a6
  have F7 := fun_mk (st := st_goes_on) l7 c7 k7
  have B7 := F7.binds (ps := ["strip", "reel", "frame"]) fun _ _ _ _ _ _ us hl => match us, hl with | [_, _, _], _ => rfl
  have M7 := PySem.W.mg_of X G a7
  have F8 := fun_mk (st := st_numbers_of) l8 c8 k8
  have B8 := F8.binds (ps := ["clip"]) fun _ _ _ _ _ _ us hl => match us, hl with | [_], _ => rfl
  have M8 := PySem.W.mg_of X G a8
  have F9 := fun_mk (st := st_strips_of) l9 c9 k9
  have B9 := F9.binds (ps := ["clips"]) fun _ _ _ _ _ _ us hl => match us, hl with | [_], _ => rfl
  have M9 := PySem.W.mg_of X G a9
  have F10 := fun_mk (st := st_joins) l10 c10 k10
  have B10 := F10.binds (ps := ["clips"]) fun _ _ _ _ _ _ us hl => match us, hl with | [_], _ => rfl
  have M10 := PySem.W.mg_of X G a10
  have F11 := fun_mk (st := st_law) l11 c11 k11
  have B11 := F11.binds (ps := ["_law_script"]) fun _ _ _ _ _ _ us hl => match us, hl with | [_], _ => rfl
  have M11 := PySem.W.mg_of X G a11
  have hb : ∀ b ∈ bltNames, mg b = none := by
    intro b hb
    unfold bltNames at hb
    simp only [List.mem_cons, List.not_mem_nil, or_false] at hb
    rcases hb with rfl | rfl | rfl | rfl | rfl | rfl | rfl | rfl | rfl | rfl | rfl | rfl | rfl | rfl | rfl | rfl | rfl
    · exact PySem.W.mg_none_of X G z0
    · exact PySem.W.mg_none_of X G z1
    · exact PySem.W.mg_none_of X G z2
    · exact PySem.W.mg_none_of X G z3
    · exact PySem.W.mg_none_of X G z4
    · exact PySem.W.mg_none_of X G z5
    · exact PySem.W.mg_none_of X G z6
    · exact PySem.W.mg_none_of X G z7
    · exact PySem.W.mg_none_of X G z8
    · exact PySem.W.mg_none_of X G z9
    · exact PySem.W.mg_none_of X G z10
    · exact PySem.W.mg_none_of X G z11
    · exact PySem.W.mg_none_of X G z12
    · exact PySem.W.mg_none_of X G z13
    · exact PySem.W.mg_none_of X G z14
    · exact PySem.W.mg_none_of X G z15
    · exact PySem.W.mg_none_of X G z16
  have hl : ∀ p ∈ lits, ∃ u v, mg p.1 = some u ∧ RelV v u ∧ ∀ ρ H, RV K ρ H p.2 v := by
    intro p hp
    unfold lits at hp
    cases hp
  refine ⟨PySem.W.fnOf "law" "law" (defArgs st_law) (defBody st_law) (defScope st_law) .none kV11 dc11 pm11 an11 cd11 ct11, fun s v => .of_eq rfl, fun base _ _ => ?_⟩
  exact all_ok ⟨(fun _ z => nomatch z), hb, hl⟩ F0 B0 M0 F1 B1 M1 F2 B2 M2 F3 B3 M3 F4 B4 M4 F5 B5 M5 F6 B6 M6 F7 B7 M7 F8 B8 M8 F9 B9 M9 F10 B10 M10 F11 B11 M11
theorem law_post (hlaw : ∀ ns : List Int, ns.length ≤ 63 → ∃ S', f_law [.frl (ns.map D.int)] [] = .ok (.bl true) S') {K : PySem.W.Frag} {H : Hp} {a : Addr} {ns : List Int} (hl : ns.length ≤ 63) (hO : Only H) (hS : SqL K H a (ns.map V.int)) : spF K EW0 1 f_law [.ref a] H (fun v _ => v = .bl true) fun _ _ _ => False := by
  obtain ⟨S', e⟩ := hlaw ns hl
  have hf : SqF K H a (ns.map V.int) := by
    rcases hS with (h | ⟨o, h⟩) | h
    · rcases hO a with z | ⟨o, xs, z⟩ <;> rw [h] at z <;> cases z
    · exact .inl ⟨o, h⟩
    · exact .inr h
  refine ⟨[], [], [.frl (ns.map D.int)], ⟨rfl, List.nodup_nil, fun n a c h _ => by cases h⟩, .cons (.frl hf (RVs.ofInts ns)) .nil, rfl, ?_⟩
  rw [e]
  intro ρ' H' _ _ z r
  cases r; rfl
theorem walk {l : PySem.W.OpenLaw} {q : Program} {loose : List Str} {XP : (Str → Option Value) → Heap → Prop} {YP : World → Heap → Prop} {d : DefRec} {K : Params → PySem.W.Frag} (hn : l.most = some 63) (hdf : d.params.defaults = [])
    (hY : ∀ (w : World) (h : Heap), YP w h → (K w.params).In h)
    (F : ∀ (w : World) (mg : Str → Option Value) (fa : Addr) (h : Heap), (K w.params).In h → h.Ns mainGlobals mg → mg d.name = some (.ref fa) →
      ∃ fd : FuncData, (∀ (s : Shared) (u : Value), BindsTo s fd ⟨[u], []⟩ [("_law_script", u)]) ∧ ∀ base : Heap, (K w.params).In base → base.Ns mainGlobals mg → FnOk l.prog w (K w.params) mg base CX0 12 fa fd ["_law_script"] (spF (K w.params) EW0 1 f_law)) :
    PySem.W.WalkO q loose XP YP l.row.toRowW d [] (fun f vs => PySem.call f vs) :=
  L2.walk_of (n := 63) (k := 12) (x := "_law_script") (CX := fun _ => CX0) (sp := fun w => spF (K w.params) EW0 1 f_law) hn (by decide) hdf ⟨rfl, by decide, by decide⟩ hY F (fun _ H a ns hl hO hS => law_post law_true hl hO hS) fun _ _ _ _ _ z => z
end Py
open PySem PySem.W PyProof.Rows
set_option maxRecDepth 100000 in
set_option maxHeartbeats 0 in
theorem PySem.Challenge.cw_leadersplice_k20_whole_no_fewer_joins_holds : PySem.Challenge.rw_leadersplice_k20_whole_no_fewer_joins.Holds := by
  w_on; o_law; k_head; (case hw => w_witness2)
  k_fill
  refine Py.walk (l := PySem.Challenge.rw_leadersplice_k20_whole_no_fewer_joins) rfl rfl (fun w h Y => PySem.W.kIn_of Y) ?F
  case F =>
    intro w mg fa h KX G hmg
    refine' Py.all_mk KX G hmg ?a0 ?l0 ?c0 ?k0 ?a1 ?l1 ?c1 ?k1 ?a2 ?l2 ?c2 ?k2 ?a3 ?l3 ?c3 ?k3 ?a4 ?l4 ?c4 ?k4 ?a5 ?l5 ?c5 ?k5 ?a6 ?l6 ?c6 ?k6 ?a7 ?l7 ?c7 ?k7 ?a8 ?l8 ?c8 ?k8 ?a9 ?l9 ?c9 ?k9 ?a10 ?l10 ?c10 ?k10 ?a11 ?l11 ?c11 ?k11 ?z0 ?z1 ?z2 ?z3 ?z4 ?z5 ?z6 ?z7 ?z8 ?z9 ?z10 ?z11 ?z12 ?z13 ?z14 ?z15 ?z16
    (case a0 => k_is)
    (case l0 => k_is)
    (case c0 => k_is)
    (case k0 => k_is)
    (case a1 => k_is)
    (case l1 => k_is)
    (case c1 => k_is)
    (case k1 => k_is)
    (case a2 => k_is)
    (case l2 => k_is)
    (case c2 => k_is)
    (case k2 => k_is)
    (case a3 => k_is)
    (case l3 => k_is)
    (case c3 => k_is)
    (case k3 => k_is)
    (case a4 => k_is)
    (case l4 => k_is)
    (case c4 => k_is)
    (case k4 => k_is)
    (case a5 => k_is)
    (case l5 => k_is)
    (case c5 => k_is)
    (case k5 => k_is)
    (case a6 => k_is)
    (case l6 => k_is)
    (case c6 => k_is)
    (case k6 => k_is)
    (case a7 => k_is)
    (case l7 => k_is)
    (case c7 => k_is)
    (case k7 => k_is)
    (case a8 => k_is)
    (case l8 => k_is)
    (case c8 => k_is)
    (case k8 => k_is)
    (case a9 => k_is)
    (case l9 => k_is)
    (case c9 => k_is)
    (case k9 => k_is)
    (case a10 => k_is)
    (case l10 => k_is)
    (case c10 => k_is)
    (case k10 => k_is)
    (case a11 => k_is)
    (case l11 => k_is)
    (case c11 => k_is)
    (case k11 => k_is)
    (case z0 => k_is)
    (case z1 => k_is)
    (case z2 => k_is)
    (case z3 => k_is)
    (case z4 => k_is)
    (case z5 => k_is)
    (case z6 => k_is)
    (case z7 => k_is)
    (case z8 => k_is)
    (case z9 => k_is)
    (case z10 => k_is)
    (case z11 => k_is)
    (case z12 => k_is)
    (case z13 => k_is)
    (case z14 => k_is)
    (case z15 => k_is)
    (case z16 => k_is)
#print axioms PySem.Challenge.cw_leadersplice_k20_whole_no_fewer_joins_holds

